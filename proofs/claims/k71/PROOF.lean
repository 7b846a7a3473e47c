import PyProof.Rows.All
import Wide.All
import OpenK.AllK
import Wide.FinOn
import HandS.ForMost
import HandS.ForExc
import HandS.IsInst
import HandS.Flow
import HandS.TupAny
import HandS.Style
import HandS.Lambda
import HandS.Slots
import HandS.ClsMeth
import HandS.Property
import KE.KExcSuper
import HandS.ExcInit
import HandS.TryMany
import HandS.SetTxt0
import HandS.SetTxtIn
import HandS.SetFor
import HandS.Strs
import HandS.StrMore
import HandS.Small
import KE.KSuper
import HandS.DictComp
import HandS.SetBool
import HandS.Defaults
import HandS.Codes
import HandS.CallSlots
import KE.GoesMore
import HandS.Wide
import HandS.WideBits
import PyProof.StrReplace2
import PyProof.StrCalls6
import PyProof.Rows.StrStrike
import PyProof.Ends
import HandS.Replace
import PyProof.FactsAll.list_3
import HandS.TupSets
import HandS.Deep
import HandS.Conv
import HandS.Star
import HandS.TupMul
import HandS.FStr
import HandS.Iter
import PyProof.ListStr
import HandS.More
import HandS.Dict
import KE.KUnpackStar
import HandS.FStrTup
import HandS.RaiseMore
import PyProof.ReprHeads
import PyProof.StrHeap
import PyProof.RulesMatch
import HandS.Text
import PySem.Challenge.RW_replaylog_k71_bounds_of_trees
import KE.KOpsOwn
import HandS.EndTab
set_option Elab.async false
set_option linter.all false
set_option maxRecDepth 100000
set_option maxHeartbeats 2000000
namespace PL
open PySem L2
abbrev SS (s : List Nat) : PySem.Str := ⟨s.toArray⟩
/-- pure data -/
inductive D where
  | non | bl (b : Bool) | int (i : Int) | str (s : List Nat)
  | lst (xs : List D) | tup (xs : List D) | dct (kvs : List (Key × D))
  | ins (C : Addr) (fs : List (PySem.Str × D))
  /-- an instance with slots -/
  | sl (C : Addr) (vs : List D)
  /-- an own class -/
  | cls (C : Addr)
  | ty (n : String) | bag
  /-- the script -/
  | scr
  /-- the cells of the bag, at l -/
  | cel (l : Addr) (ns : List Int)
/-- the state of the bag at b, its cells at l -/
def BagRaw (b l : Addr) (n : Nat) (h : Heap) : Prop :=
  ∃ (sz : Nat) (i : Nat) (g s : Int) (t1 t2 t3 : Tok), i ≤ n ∧ 0 ≤ g ∧ 0 ≤ s ∧ s < 2147483543 ∧
    h.get? b = some { cls := .type "list", data := .seq #[.ref l, .int i t1, .int g t2, .int s t3] sz }
def BagAt (G : Hp) (b : Addr) : Prop := ∃ (l : Addr) (ns : List Int), G b = some (.ext (BagRaw b l ns.length)) ∧ G l = some (.lst (ns.map V.int)) ∧ b ≠ l ∧ ns.length ≤ 63
mutual
/-- v stands for d over the heap G -/
inductive Den (K : PySem.W.Frag) (G : Hp) : V → D → Prop
  | non : Den K G .non .non
  | bl (b : Bool) : Den K G (.bl b) (.bl b)
  | int (i : Int) : Den K G (.int i) (.int i)
  | str (s : List Nat) : Den K G (.str (SS s)) (.str s)
  | ty (n : String) : Den K G (.ty n) (.ty n)
  | lst {a : Addr} {xs : List V} {ds : List D} : G a = some (.lst xs) → DenL K G xs ds → Den K G (.ref a) (.lst ds)
  | tup {a : Addr} {xs : List V} {ds : List D} : SqT K G a xs → DenL K G xs ds → Den K G (.ref a) (.tup ds)
  | dct {a : Addr} {kvs : List (Key × V)} {ds : List (Key × D)} : G a = some (.dK kvs) → DenK K G kvs ds → Den K G (.ref a) (.dct ds)
  | ins {a C dx : Addr} {fvs : List (PySem.Str × V)} {fs : List (PySem.Str × D)} : G a = some (.ins C dx fvs) → G dx = some (.own a) → DenF K G fvs fs → Den K G (.ref a) (.ins C fs)
  | sl {a C dx : Addr} {vs : List V} {ds : List D} : G a = some (SlX.SlO a C dx (vs.map some)) → G dx = some (.xd []) → DenL K G vs ds → Den K G (.ref a) (.sl C ds)
  | cls (C : Addr) : Den K G (.ref C) (.cls C)
  | bag {a : Addr} : BagAt G a → Den K G (.ref a) .bag
  | cel {l : Addr} {ns : List Int} : G l = some (.lst (ns.map V.int)) → Den K G (.ref l) (.cel l ns)
  | scr {a : Addr} {ns : List Int} : SqL K G a (ns.map V.int) → ns.length ≤ 63 → Den K G (.ref a) .scr
inductive DenL (K : PySem.W.Frag) (G : Hp) : List V → List D → Prop
  | nil : DenL K G [] []
  | cons {v : V} {vs : List V} {d : D} {ds : List D} : Den K G v d → DenL K G vs ds → DenL K G (v :: vs) (d :: ds)
inductive DenK (K : PySem.W.Frag) (G : Hp) : List (Key × V) → List (Key × D) → Prop
  | nil : DenK K G [] []
  | cons {k : Key} {v : V} {vs : List (Key × V)} {d : D} {ds : List (Key × D)} : Den K G v d → DenK K G vs ds → DenK K G ((k, v) :: vs) ((k, d) :: ds)
inductive DenF (K : PySem.W.Frag) (G : Hp) : List (PySem.Str × V) → List (PySem.Str × D) → Prop
  | nil : DenF K G [] []
  | cons {f : PySem.Str} {v : V} {vs : List (PySem.Str × V)} {d : D} {ds : List (PySem.Str × D)} : Den K G v d → DenF K G vs ds → DenF K G ((f, v) :: vs) ((f, d) :: ds)
end
theorem rd_same {H H' : Hp} {a : Addr} {u : HO} (e : Same H H') (h : Rd H a u) : Rd H' a u := by
  rcases h with h | ⟨o, h⟩
  · exact Or.inl (e a _ h)
  · exact Or.inr ⟨o, e a _ h⟩
theorem sqt_same {K : PySem.W.Frag} {H H' : Hp} {a : Addr} {xs : List V} (e : Same H H') (h : SqT K H a xs) : SqT K H' a xs := by
  rcases h with h | h
  · exact Or.inl (rd_same e h)
  · exact Or.inr h
theorem bag_same {H H' : Hp} {a : Addr} (e : Same H H') (h : BagAt H a) : BagAt H' a := by
  obtain ⟨l, ns, h1, h2, h3⟩ := h
  exact ⟨l, ns, e _ _ h1, e _ _ h2, h3⟩
section
variable {K : PySem.W.Frag} {G G' : Hp}
mutual
theorem Den.mono (e : Same G G') : ∀ (d : D) (v : V), Den K G v d → Den K G' v d
  | .non, _, h => by cases h; exact .non
  | .bl b, _, h => by cases h; exact .bl b
  | .int b, _, h => by cases h; exact .int b
  | .str b, _, h => by cases h; exact .str b
  | .ty b, _, h => by cases h; exact .ty b
  | .lst ds, _, h => by
    cases h with
    | lst h1 h2 => exact .lst (e _ _ h1) (DenL.mono e _ _ h2)
  | .tup ds, _, h => by
    cases h with
    | tup h1 h2 => exact .tup (sqt_same e h1) (DenL.mono e _ _ h2)
  | .dct ds, _, h => by
    cases h with
    | dct h1 h2 => exact .dct (e _ _ h1) (DenK.mono e _ _ h2)
  | .ins C fs, _, h => by
    cases h with
    | ins h1 h2 h3 => exact .ins (e _ _ h1) (e _ _ h2) (DenF.mono e _ _ h3)
  | .sl C ds, _, h => by
    cases h with
    | sl h1 h2 h3 => exact .sl (e _ _ h1) (e _ _ h2) (DenL.mono e _ _ h3)
  | .cls C, _, h => by cases h; exact .cls C
  | .bag, _, h => by
    cases h with
    | bag h1 => exact .bag (bag_same e h1)
  | .scr, _, h => by
    cases h with
    | scr h1 h2 => exact .scr (e.seq h1) h2
  | .cel l ns, _, h => by
    cases h with
    | cel h1 => exact .cel (e _ _ h1)
theorem DenL.mono (e : Same G G') : ∀ (ds : List D) (vs : List V), DenL K G vs ds → DenL K G' vs ds
  | [], _, h => by cases h; exact .nil
  | d :: ds, _, h => by
    cases h with
    | cons h1 h2 => exact .cons (Den.mono e _ _ h1) (DenL.mono e _ _ h2)
theorem DenK.mono (e : Same G G') : ∀ (ds : List (Key × D)) (vs : List (Key × V)), DenK K G vs ds → DenK K G' vs ds
  | [], _, h => by cases h; exact .nil
  | (k, d) :: ds, _, h => by
    cases h with
    | cons h1 h2 => exact .cons (Den.mono e _ _ h1) (DenK.mono e _ _ h2)
theorem DenF.mono (e : Same G G') : ∀ (ds : List (PySem.Str × D)) (vs : List (PySem.Str × V)), DenF K G vs ds → DenF K G' vs ds
  | [], _, h => by cases h; exact .nil
  | (k, d) :: ds, _, h => by
    cases h with
    | cons h1 h2 => exact .cons (Den.mono e _ _ h1) (DenF.mono e _ _ h2)
end
theorem Den.up {v : V} {d : D} (h : Den K G v d) (e : Same G G') : Den K G' v d := Den.mono e d v h
theorem DenL.up {v : List V} {d : List D} (h : DenL K G v d) (e : Same G G') : DenL K G' v d := DenL.mono e d v h
theorem DenK.up {v : List (Key × V)} {d : List (Key × D)} (h : DenK K G v d) (e : Same G G') : DenK K G' v d := DenK.mono e d v h
theorem DenF.up {v : List (PySem.Str × V)} {d : List (PySem.Str × D)} (h : DenF K G v d) (e : Same G G') : DenF K G' v d := DenF.mono e d v h
theorem DenL.length : ∀ {vs : List V} {ds : List D}, DenL K G vs ds → vs.length = ds.length
  | _, _, .nil => rfl
  | _, _, .cons _ t => by rw [List.length_cons, List.length_cons, DenL.length t]
theorem DenL.get : ∀ {vs : List V} {ds : List D} {i : Nat} {d : D}, DenL K G vs ds → ds[i]? = some d → ∃ v, vs[i]? = some v ∧ Den K G v d
  | _, _, _, _, .nil, e => by simp at e
  | _, _, 0, _, .cons r _, e => by simp at e; subst e; exact ⟨_, rfl, r⟩
  | _, _, i + 1, x, .cons _ t, e => by
    obtain ⟨u, h1, h2⟩ := DenL.get (i := i) t (by simpa using e)
    exact ⟨u, by simpa using h1, h2⟩
theorem DenL.gv : ∀ {vs : List V} {ds : List D} {i : Nat} {v : V}, DenL K G vs ds → vs[i]? = some v → ∃ d, ds[i]? = some d ∧ Den K G v d
  | _, _, _, _, .nil, e => by simp at e
  | _, _, 0, _, .cons r _, e => by simp at e; subst e; exact ⟨_, rfl, r⟩
  | _, _, i + 1, x, .cons _ t, e => by
    obtain ⟨u, h1, h2⟩ := DenL.gv (i := i) t (by simpa using e)
    exact ⟨u, by simpa using h1, h2⟩
theorem DenL.append : ∀ {vs ws : List V} {ds es : List D}, DenL K G vs ds → DenL K G ws es → DenL K G (vs ++ ws) (ds ++ es)
  | _, _, _, _, .nil, t => t
  | _, _, _, _, .cons r s, t => .cons r (DenL.append s t)
theorem DenL.set {v : V} {d : D} (r : Den K G v d) : ∀ {vs : List V} {ds : List D} (i : Nat), DenL K G vs ds → DenL K G (vs.set i v) (ds.set i d)
  | _, _, _, .nil => .nil
  | _, _, 0, .cons _ t => .cons r t
  | _, _, i + 1, .cons q t => .cons q (DenL.set r i t)
theorem DenL.take : ∀ {vs : List V} {ds : List D} (n : Nat), DenL K G vs ds → DenL K G (vs.take n) (ds.take n)
  | _, _, 0, _ => .nil
  | _, _, _ + 1, .nil => .nil
  | _, _, n + 1, .cons r t => .cons r (DenL.take n t)
theorem DenL.drop : ∀ {vs : List V} {ds : List D} (n : Nat), DenL K G vs ds → DenL K G (vs.drop n) (ds.drop n)
  | _, _, 0, r => r
  | _, _, _ + 1, .nil => .nil
  | _, _, n + 1, .cons _ t => DenL.drop n t
theorem DenL.erase : ∀ {vs : List V} {ds : List D} (n : Nat), DenL K G vs ds → DenL K G (vs.eraseIdx n) (ds.eraseIdx n)
  | _, _, _, .nil => .nil
  | _, _, 0, .cons _ t => t
  | _, _, n + 1, .cons r t => .cons r (DenL.erase n t)
theorem DenF.get : ∀ {vs : List (PySem.Str × V)} {ds : List (PySem.Str × D)} {f : PySem.Str} {d : D}, DenF K G vs ds → ds.lookup f = some d → ∃ v, vs.lookup f = some v ∧ Den K G v d
  | _, _, _, _, .nil, e => by cases e
  | _, _, f, d, .cons (f := g) r t, e => by
    rw [List.lookup_cons] at e ⊢
    cases hb : f == g with
    | true =>
      rw [hb] at e
      cases e
      exact ⟨_, rfl, r⟩
    | false =>
      rw [hb] at e
      exact DenF.get t e
theorem DenF.no : ∀ {vs : List (PySem.Str × V)} {ds : List (PySem.Str × D)} {f : PySem.Str}, DenF K G vs ds → ds.lookup f = none → vs.lookup f = none
  | _, _, _, .nil, _ => rfl
  | _, _, f, .cons (f := g) r t, e => by
    rw [List.lookup_cons] at e ⊢
    cases hb : f == g with
    | true =>
      rw [hb] at e
      cases e
    | false =>
      rw [hb] at e
      exact DenF.no t e
theorem DenF.length : ∀ {vs : List (PySem.Str × V)} {ds : List (PySem.Str × D)}, DenF K G vs ds → vs.length = ds.length
  | _, _, .nil => rfl
  | _, _, .cons _ t => by rw [List.length_cons, List.length_cons, DenF.length t]
end
def LikeD : HO → Prop
  | .dK _ => True
  | .dT _ => True
  | _ => False
/-- the tables of code objects that are written (lambdas), and the name that each one's code bears -/
class Tabl where
  T : List (Addr × PySem.Str)
  uniq : ∀ p ∈ T, ∀ q ∈ T, p.1 = q.1 → p.2 = q.2
variable [Tabl]
/-- no table of code objects -/
abbrev NT (o : HO) : Prop := ∀ ps, o ≠ .tbl ps
/-- the pure part stands in H (a dict may be locked); no table of code objects is pure -/
structure Sub (G H : Hp) : Prop where
  m : ∀ a o, G a = some o → H a = some o ∨ (LikeD o ∧ ∃ ob, H a = some (.frz ob o))
  nt : ∀ a o, G a = some o → NT o
  tb : LamX.Tabs Tabl.T H
/-- what is tracked stays, but tables of code objects may grow -/
structure Up (H H' : Hp) : Prop where
  k : ∀ b o, H b = some o → NT o → H' b = some o
  t : ∀ b o, H b = some o → ∃ o', H' b = some o'
  tb : LamX.Tabs Tabl.T H → LamX.Tabs Tabl.T H'
theorem Up.of {H H' : Hp} (e : Same H H') : Up H H' := ⟨fun b o h _ => e b o h, fun b o h => ⟨o, e b o h⟩, fun t => t.ext e⟩
theorem Up.refl (H : Hp) : Up H H := .of (Same.refl H)
theorem Up.trans {H H1 H2 : Hp} (a : Up H H1) (b : Up H1 H2) : Up H H2 :=
  ⟨fun x o h n => b.k x o (a.k x o h n) n, fun x o h => let ⟨o1, h1⟩ := a.t x o h; b.t x o1 h1, fun t => b.tb (a.tb t)⟩
theorem Up.free {H H' : Hp} (a : Up H H') {p : Addr} (h : H' p = none) : H p = none := by
  cases e : H p with
  | none => rfl
  | some o =>
    obtain ⟨o', q⟩ := a.t p o e
    rw [q] at h
    cases h
theorem Up.lst {H H' : Hp} (a : Up H H') {p : Addr} {xs : List V} (h : H p = some (.lst xs)) : H' p = some (.lst xs) := a.k _ _ h fun _ z => nomatch z
theorem Up.dK {H H' : Hp} (a : Up H H') {p : Addr} {xs : List (Key × V)} (h : H p = some (.dK xs)) : H' p = some (.dK xs) := a.k _ _ h fun _ z => nomatch z
theorem Sub.there {G H : Hp} (s : Sub G H) {a : Addr} {o : HO} (h : G a = some o) : ∃ u, H a = some u := by
  rcases s.m a o h with h | ⟨_, ob, h⟩ <;> exact ⟨_, h⟩
theorem Sub.at_ {G H : Hp} (s : Sub G H) {a : Addr} {o : HO} (h : G a = some o) (n : ¬ LikeD o) : H a = some o := by
  rcases s.m a o h with h | ⟨z, _⟩
  · exact h
  · exact absurd z n
theorem Sub.rd {G H : Hp} (s : Sub G H) {a : Addr} {o : HO} (h : G a = some o) : Rd H a o := by
  rcases s.m a o h with h | ⟨_, ob, h⟩
  · exact .inl h
  · exact .inr ⟨ob, h⟩
theorem Sub.up' {G H H' : Hp} (s : Sub G H) (e : Up H H') : Sub G H' := ⟨fun a o h => by
  rcases s.m a o h with h2 | ⟨z, ob, h2⟩
  · exact .inl (e.k _ _ h2 (s.nt a o h))
  · exact .inr ⟨z, ob, e.k _ _ h2 fun _ z => nomatch z⟩, s.nt, e.tb s.tb⟩
theorem Sub.up {G H H' : Hp} (s : Sub G H) (e : Same H H') : Sub G H' := s.up' (.of e)
theorem Sub.sql {K : PySem.W.Frag} {G H : Hp} (s : Sub G H) {a : Addr} {xs : List V} (h : SqL K G a xs) : SqL K H a xs := by
  rcases h with (h | ⟨o, h⟩) | h
  · exact .inl (.inl (s.at_ h (fun z => z)))
  · exact .inl (.inr ⟨o, s.at_ h (fun z => z)⟩)
  · exact .inr h
theorem Sub.sqt {K : PySem.W.Frag} {G H : Hp} (s : Sub G H) {a : Addr} {xs : List V} (h : SqT K G a xs) : SqT K H a xs := by
  rcases h with (h | ⟨o, h⟩) | h
  · exact .inl (.inl (s.at_ h (fun z => z)))
  · exact .inl (.inr ⟨o, s.at_ h (fun z => z)⟩)
  · exact .inr h
theorem Sub.none {G H : Hp} (s : Sub G H) {a : Addr} (h : H a = none) : G a = none := by
  cases e : G a with
  | none => rfl
  | some o =>
    obtain ⟨u, q⟩ := s.there e
    rw [q] at h
    cases h
/-- from (G, H) to (G', H') -/
structure Ext (G H G' H' : Hp) : Prop where
  h : Up H H'
  g : Same G G'
  nw : ∀ a, G a = none → (∃ o, H a = some o) → G' a = none
  sub : Sub G' H'
theorem Ext.refl {G H : Hp} (s : Sub G H) : Ext G H G H := ⟨Up.refl H, Same.refl G, fun _ h _ => h, s⟩
theorem Ext.trans {G H G1 H1 G2 H2 : Hp} (a : Ext G H G1 H1) (b : Ext G1 H1 G2 H2) : Ext G H G2 H2 :=
  ⟨a.h.trans b.h, a.g.trans b.g, fun x h ⟨o, q⟩ => b.nw x (a.nw x h ⟨o, q⟩) (a.h.t _ _ q), b.sub⟩
theorem same_upd {H : Hp} {p : Addr} {o : HO} (h : H p = none) : Same H (upd H p o) := fun a u e => by
  rw [upd_ne (ne_of_none e h)]
  exact e
/-- a new object that is not pure -/
theorem Ext.beside {G H : Hp} (s : Sub G H) {p : Addr} {o : HO} (h : H p = none) : Ext G H G (upd H p o) := ⟨.of (same_upd h), Same.refl G, fun _ z _ => z, s.up (same_upd h)⟩
/-- a new object, pure at once -/
theorem Ext.new {G H : Hp} (s : Sub G H) {p : Addr} {o : HO} (h : H p = none) (n : NT o := by intro _ z; cases z) : Ext G H (upd G p o) (upd H p o) := by
  have hg := s.none h
  refine ⟨.of (same_upd h), same_upd hg, fun a q ⟨u, e⟩ => ?_, ⟨fun a u e => ?_, fun a u e => ?_, s.tb.ext (same_upd h)⟩⟩
  · rw [upd_ne (ne_of_none e h)]
    exact q
  · by_cases z : a = p
    · subst z
      rw [upd_same] at e ⊢
      exact .inl e
    · rw [upd_ne z] at e ⊢
      exact s.m a u e
  · by_cases z : a = p
    · subst z
      rw [upd_same] at e
      cases e
      exact n
    · rw [upd_ne z] at e
      exact s.nt a u e
inductive Sl where
  | un | pu (d : D) | ow (d : D)
  /-- own, and walked just now: it stays as it is -/
  | lk (p : Addr) (o : HO) (d : D)
  /-- own: handed in by the caller, at p -/
  | pw (p : Addr) (d : D)
  /-- a value that is no data (a function ..): the object at c that stands for what it needs is never changed -/
  | kp (v : V) (c : Addr) (u : HO) (Gx : Hp)
  /-- a caught exception at a: its class, its own fields -/
  | xv (a : Addr) (cls : Value) (dA : Option Addr) (fs : List (PySem.Str × D))
  /-- pure data beside which some objects are known that are never changed; what was pure then -/
  | pf (d : D) (l : List (Addr × HO)) (Gx : Hp)
abbrev Ga := List Sl
/-- an object of the frame's own at p -/
def OwnAt (K : PySem.W.Frag) (H0 G H : Hp) (p : Addr) : D → Prop
  | .lst ds => ∃ xs, H p = some (.lst xs) ∧ DenL K G xs ds
  | .dct ks => ∃ kvs, H p = some (.dK kvs) ∧ DenK K G kvs ks
  | .ins C fs => ∃ dx fvs, H p = some (.ins C dx fvs) ∧ H dx = some (.own p) ∧ G dx = none ∧ H0 dx = none ∧ DenF K G fvs fs
  | _ => False
/-- an object that a frame may own and change -/
def MutO : HO → Prop
  | .lst _ => True
  | .dK _ => True
  | .ins _ _ _ => True
  | _ => False
/-- an object that nobody changes -/
def FixO (u : HO) : Prop := ¬ MutO u ∧ NT u ∧ ∀ a, u ≠ .own a
def SlOk (K : PySem.W.Frag) (H0 G H : Hp) (o : Option (Option V)) : Sl → Prop
  | .un => True
  | .pu d => ∃ v, o = some (some v) ∧ Den K G v d
  | .ow d => ∃ p, o = some (some (.ref p)) ∧ G p = none ∧ H0 p = none ∧ OwnAt K H0 G H p d
  | .lk p u d => o = some (some (.ref p)) ∧ G p = none ∧ H0 p = none ∧ H p = some u ∧ OwnAt K H0 G H p d
  | .pw p d => o = some (some (.ref p)) ∧ G p = none ∧ H0 p = none ∧ OwnAt K H0 G H p d
  | .kp v c u Gx => o = some (some v) ∧ H c = some u ∧ ¬ MutO u ∧ NT u ∧ Same Gx G
  | .xv a cls dA fs => o = some (some (.ref a)) ∧ ((dA = none ∧ fs = []) ∨ ∃ p fvs, dA = some p ∧ H p = some (.xd fvs) ∧ DenF K G fvs fs)
  | .pf d l Gx => (∃ v, o = some (some v) ∧ Den K G v d) ∧ (∀ q ∈ l, H q.1 = some q.2 ∧ FixO q.2) ∧ Same Gx G
/-- what an own object that may be changed holds -/
def Sl.og : Sl → Option D
  | .ow d => some d
  | .pw _ d => some d
  | _ => none
def Sl.op (s : Sl) (d : D) : Sl := match s with
  | .pw p _ => .pw p d
  | _ => .ow d
def Sl.owns : Sl → Prop
  | .pw _ _ => True
  | .ow _ => True
  | .lk _ _ _ => True
  | _ => False
/-- the frame: G0, H0 the heaps at its entry -/
structure Fr (K : PySem.W.Frag) (G0 H0 : Hp) (Γ : Ga) (σ : L2.St) (G H : Hp) : Prop where
  len : σ.length = Γ.length
  e : Ext G0 H0 G H
  at_ : ∀ (i : Nat) (s : Sl), Γ[i]? = some s → SlOk K H0 G H (σ[i]?) s
  dj : ∀ (i j : Nat) (p : Addr) (s t : Sl), Γ[i]? = some s → s.owns → Γ[j]? = some t → t.owns → σ[i]? = some (some (.ref p)) → σ[j]? = some (some (.ref p)) → i = j
section
variable {K : PySem.W.Frag} {G0 H0 G H G' H' : Hp} {Γ : Ga} {σ : L2.St}
theorem OwnAt.up {p : Addr} {d : D} (h : OwnAt K H0 G H p d) (x : Ext G H G' H') : OwnAt K H0 G' H' p d := by
  cases d with
  | lst ds => obtain ⟨xs, h1, h2⟩ := h; exact ⟨xs, x.h.lst h1, h2.up x.g⟩
  | dct ks => obtain ⟨xs, h1, h2⟩ := h; exact ⟨xs, x.h.dK h1, h2.up x.g⟩
  | ins C fs => obtain ⟨dx, fvs, h1, h2, h3, h4, h5⟩ := h; exact ⟨dx, fvs, x.h.k _ _ h1 (fun _ z => nomatch z), x.h.k _ _ h2 (fun _ z => nomatch z), x.nw _ h3 ⟨_, h2⟩, h4, h5.up x.g⟩
  | _ => exact h.elim
theorem OwnAt.there {p : Addr} {d : D} (h : OwnAt K H0 G H p d) : ∃ o, H p = some o := by
  cases d with
  | lst ds => obtain ⟨xs, h1, h2⟩ := h; exact ⟨_, h1⟩
  | dct ks => obtain ⟨xs, h1, h2⟩ := h; exact ⟨_, h1⟩
  | ins C fs => obtain ⟨dx, fvs, h1, h2, h3⟩ := h; exact ⟨_, h1⟩
  | _ => exact h.elim
theorem OwnAt.mutO {p : Addr} {d : D} {u : HO} (h : OwnAt K H0 G H p d) (e : H p = some u) : MutO u := by
  cases d with
  | lst ds => obtain ⟨xs, h1, h2⟩ := h; rw [e] at h1; cases h1; trivial
  | dct ks => obtain ⟨xs, h1, h2⟩ := h; rw [e] at h1; cases h1; trivial
  | ins C fs => obtain ⟨dx, fvs, h1, h2⟩ := h; rw [e] at h1; cases h1; trivial
  | _ => exact h.elim
theorem MutO.nt {u : HO} (h : MutO u) : NT u := fun ps z => by
  subst z
  exact h
theorem SlOk.up {o : Option (Option V)} {s : Sl} (h : SlOk K H0 G H o s) (x : Ext G H G' H') : SlOk K H0 G' H' o s := by
  cases s with
  | un => trivial
  | pu d => obtain ⟨v, e, r⟩ := h; exact ⟨v, e, r.up x.g⟩
  | ow d => obtain ⟨p, e, g, h0, r⟩ := h; exact ⟨p, e, x.nw _ g r.there, h0, r.up x⟩
  | lk p u d => obtain ⟨e, g, h0, q, r⟩ := h; exact ⟨e, x.nw _ g r.there, h0, x.h.k _ _ q (r.mutO q).nt, r.up x⟩
  | pw p d => obtain ⟨e, g, h0, r⟩ := h; exact ⟨e, x.nw _ g r.there, h0, r.up x⟩
  | kp v c u Gx => obtain ⟨e, h1, h2, h3, h4⟩ := h; exact ⟨e, x.h.k _ _ h1 h3, h2, h3, h4.trans x.g⟩
  | xv a cls dA fs =>
    obtain ⟨e, h1⟩ := h
    refine ⟨e, ?_⟩
    rcases h1 with h1 | ⟨p, fvs, h1, h2, h3⟩
    · exact .inl h1
    · exact .inr ⟨p, fvs, h1, x.h.k _ _ h2 (fun _ z => nomatch z), h3.up x.g⟩
  | pf d l Gx =>
    obtain ⟨⟨v, e, r⟩, h1, h2⟩ := h
    exact ⟨⟨v, e, r.up x.g⟩, fun q hq => ⟨x.h.k _ _ (h1 q hq).1 (h1 q hq).2.2.1, (h1 q hq).2⟩, h2.trans x.g⟩
theorem Fr.up (F : Fr K G0 H0 Γ σ G H) (x : Ext G H G' H') : Fr K G0 H0 Γ σ G' H' :=
  ⟨F.len, F.e.trans x, fun i s h => (F.at_ i s h).up x, F.dj⟩
theorem Fr.sub (F : Fr K G0 H0 Γ σ G H) : Sub G H := F.e.sub
end
end PL
set_option Elab.async false
set_option linter.all false
set_option maxRecDepth 100000
set_option maxHeartbeats 2000000
namespace PL
open PySem L2
variable [Tabl]
/-- an exception: its class, its own fields -/
structure XD where
  cls : Value
  fs : List (PySem.Str × D)
def XDen (K : PySem.W.Frag) (G H : Hp) (cls : Value) (dA : Option Addr) (x : XD) : Prop :=
  cls = x.cls ∧ ((dA = none ∧ x.fs = []) ∨ ∃ p fvs, dA = some p ∧ H p = some (.xd fvs) ∧ DenF K G fvs x.fs)
abbrev KD := D → Prop
abbrev KX := XD → Prop
abbrev TP := Ga → KD → KX → Prop
abbrev TB := Ga → (Bool → Prop) → KX → Prop
abbrev TL := Ga → (List D → Prop) → KX → Prop
/-- v stands for d, the topmost object may be the frame's own -/
def DenU (K : PySem.W.Frag) (H0 G H : Hp) (v : V) (d : D) : Prop := Den K G v d ∨ ∃ p, v = .ref p ∧ G p = none ∧ OwnAt K H0 G H p d
/-- what is wanted of exceptions -/
abbrev XOk (K : PySem.W.Frag) (W : WX) (G H : Hp) (σ : L2.St) (kx : KX) : Prop := ∀ x cls dA G' H', kx x → Ext G H G' H' → XDen K G' H' cls dA x → W cls dA σ H'
def RdP (K : PySem.W.Frag) (W : WX) (te : TE) (t : TP) : Prop := ∀ (G0 H0 : Hp) (Γ : Ga) (σ : L2.St) (G H : Hp) (k : KD) (kx : KX) (Q : VK), Fr K G0 H0 Γ σ G H → t Γ k kx →
  (∀ d v G' H', k d → Ext G H G' H' → Den K G' v d → Q v H') → XOk K W G H σ kx → te σ H Q
def RdU (K : PySem.W.Frag) (W : WX) (te : TE) (t : TP) : Prop := ∀ (G0 H0 : Hp) (Γ : Ga) (σ : L2.St) (G H : Hp) (k : KD) (kx : KX) (Q : VK), Fr K G0 H0 Γ σ G H → t Γ k kx →
  (∀ d v G' H', k d → Ext G H G' H' → DenU K H0 G' H' v d → Q v H') → XOk K W G H σ kx → te σ H Q
def RdT (K : PySem.W.Frag) (W : WX) (te : TT) (t : TB) : Prop := ∀ (G0 H0 : Hp) (Γ : Ga) (σ : L2.St) (G H : Hp) (k : Bool → Prop) (kx : KX) (Q : Bool → Hp → Prop), Fr K G0 H0 Γ σ G H → t Γ k kx →
  (∀ b G' H', k b → Ext G H G' H' → Q b H') → XOk K W G H σ kx → te σ H Q
def RdA (K : PySem.W.Frag) (W : WX) (ta : TA) (t : TL) : Prop := ∀ (G0 H0 : Hp) (Γ : Ga) (σ : L2.St) (G H : Hp) (k : List D → Prop) (kx : KX) (Q : List V → Hp → Prop), Fr K G0 H0 Γ σ G H → t Γ k kx →
  (∀ ds vs G' H', k ds → Ext G H G' H' → DenL K G' vs ds → Q vs H') → XOk K W G H σ kx → ta σ H Q
/-- an expression, its reading over pure data -/
structure PP (X : Cx) (W : WX) (e : Expr) (t : TP) : Prop where
  ex : ∃ te, PE X e te ∧ RdP X.K W te t
structure PU (X : Cx) (W : WX) (e : Expr) (t : TP) : Prop where
  ex : ∃ te, PE X e te ∧ RdU X.K W te t
structure PB (X : Cx) (W : WX) (e : Expr) (t : TB) : Prop where
  ex : ∃ te, PT X e te ∧ RdT X.K W te t
structure PL' (X : Cx) (W : WX) (es : List Expr) (t : TL) : Prop where
  ex : ∃ te, PA X es te ∧ RdA X.K W te t
section
variable {K : PySem.W.Frag} {W : WX} {G H G' H' : Hp} {σ : L2.St} {kx : KX}
theorem XOk.up (h : XOk K W G H σ kx) (x : Ext G H G' H') : XOk K W G' H' σ kx := fun y cls dA G2 H2 a b c => h y cls dA G2 H2 a (x.trans b) c
end
section
variable {X : Cx} {W : WX} {e a b c : Expr} {es : List Expr} {t ta tb tc : TP} {tl : TL} {tt tu : TB} {pos : Pos}
theorem PP.u (h : PP X W e t) : PU X W e t := by
  obtain ⟨te, pe, r⟩ := h.ex
  exact ⟨te, pe, fun G0 H0 Γ σ G H k kx Q F ht hk hx => r G0 H0 Γ σ G H k kx Q F ht (fun d v G' H' kd ex dn => hk d v G' H' kd ex (.inl dn)) hx⟩
def gat : Ga → Nat → Sl
  | [], _ => .un
  | s :: _, 0 => s
  | _ :: r, n + 1 => gat r n
def gset : Ga → Nat → Sl → Ga
  | [], _, _ => []
  | _ :: r, 0, s => s :: r
  | t :: r, n + 1, s => t :: gset r n s
theorem gat_get : ∀ (Γ : Ga) (i : Nat) (s : Sl), gat Γ i = s → s ≠ .un → Γ[i]? = some s
  | [], i, s, h, n => absurd h.symm n
  | t :: r, 0, s, h, _ => by rw [List.getElem?_cons_zero]; exact congrArg some h
  | t :: r, i + 1, s, h, n => by rw [List.getElem?_cons_succ]; exact gat_get r i s h n
theorem gset_eq : ∀ (Γ : Ga) (i : Nat) (s : Sl), gset Γ i s = Γ.set i s
  | [], _, _ => rfl
  | _ :: _, 0, _ => rfl
  | t :: r, i + 1, s => congrArg (t :: ·) (gset_eq r i s)
def tpVar (i : Nat) : TP := fun Γ k _ => match gat Γ i with
  | .pu d => k d
  | _ => False
def tpVarU (i : Nat) : TP := fun Γ k _ => match gat Γ i with
  | .pu d => k d
  | .ow d => k d
  | .lk _ _ d => k d
  | .pw _ d => k d
  | _ => False
theorem p_var (i : Nat) {x : PySem.Str} (hN : X.N[i]? = some x := by rfl) (hv : Vis X.env.scope x := by first | exact Or.inl rfl | exact Or.inr (Or.inl rfl) | exact Or.inr (Or.inr rfl)) (hd : (x == ("__debug__" : PySem.Str)) = false := by decide)
    (hcd : (x == ("__classdict__" : PySem.Str)) = false := by decide) : PP X W (.Name x pos) (tpVar i) := by
  refine ⟨_, pe_var hN hv hd hcd, fun G0 H0 Γ σ G H k kx Q F ht hk hx => ?_⟩
  unfold tpVar at ht
  cases hs : gat Γ i with
  | un => rw [hs] at ht; exact ht.elim
  | ow d => rw [hs] at ht; exact ht.elim
  | lk p u d => rw [hs] at ht; exact ht.elim
  | pw p d => rw [hs] at ht; exact ht.elim
  | kp v c w Gx => rw [hs] at ht; exact ht.elim
  | xv a cls dA fs => rw [hs] at ht; exact ht.elim
  | pf d l Gx => rw [hs] at ht; exact ht.elim
  | pu d =>
    rw [hs] at ht
    obtain ⟨v, e, r⟩ := F.at_ i _ (gat_get Γ i _ hs (by simp))
    exact ⟨v, e, hk d v G H ht (Ext.refl F.sub) r⟩
theorem u_var (i : Nat) {x : PySem.Str} (hN : X.N[i]? = some x := by rfl) (hv : Vis X.env.scope x := by first | exact Or.inl rfl | exact Or.inr (Or.inl rfl) | exact Or.inr (Or.inr rfl)) (hd : (x == ("__debug__" : PySem.Str)) = false := by decide)
    (hcd : (x == ("__classdict__" : PySem.Str)) = false := by decide) : PU X W (.Name x pos) (tpVarU i) := by
  refine ⟨_, pe_var hN hv hd hcd, fun G0 H0 Γ σ G H k kx Q F ht hk hx => ?_⟩
  unfold tpVarU at ht
  cases hs : gat Γ i with
  | un => rw [hs] at ht; exact ht.elim
  | kp v c w Gx => rw [hs] at ht; exact ht.elim
  | xv a cls dA fs => rw [hs] at ht; exact ht.elim
  | pf d l Gx => rw [hs] at ht; exact ht.elim
  | ow d =>
    rw [hs] at ht
    obtain ⟨p, e, g, h0, r⟩ := F.at_ i _ (gat_get Γ i _ hs (by simp))
    exact ⟨.ref p, e, hk d _ G H ht (Ext.refl F.sub) (.inr ⟨p, rfl, g, r⟩)⟩
  | pw p d =>
    rw [hs] at ht
    obtain ⟨e, g, h0, r⟩ := F.at_ i _ (gat_get Γ i _ hs (by simp))
    exact ⟨.ref p, e, hk d _ G H ht (Ext.refl F.sub) (.inr ⟨p, rfl, g, r⟩)⟩
  | lk p u d =>
    rw [hs] at ht
    obtain ⟨e, g, h0, q, r⟩ := F.at_ i _ (gat_get Γ i _ hs (by simp))
    exact ⟨.ref p, e, hk d _ G H ht (Ext.refl F.sub) (.inr ⟨p, rfl, g, r⟩)⟩
  | pu d =>
    rw [hs] at ht
    obtain ⟨v, e, r⟩ := F.at_ i _ (gat_get Γ i _ hs (by simp))
    exact ⟨v, e, hk d v G H ht (Ext.refl F.sub) (.inl r)⟩
def tpC (d : D) : TP := fun _ k _ => k d
theorem p_int {i : Int} {j} : PP X W (.Constant (.int i) j pos) (tpC (.int i)) := ⟨_, pe_int, fun G0 H0 Γ σ G H k kx Q F ht hk hx => hk _ _ G H ht (Ext.refl F.sub) (.int i)⟩
theorem p_bl {i : Bool} {j} : PP X W (.Constant (.bool i) j pos) (tpC (.bl i)) := ⟨_, pe_bl, fun G0 H0 Γ σ G H k kx Q F ht hk hx => hk _ _ G H ht (Ext.refl F.sub) (.bl i)⟩
theorem p_non {j} : PP X W (.Constant .none j pos) (tpC .non) := ⟨_, pe_non, fun G0 H0 Γ σ G H k kx Q F ht hk hx => hk _ _ G H ht (Ext.refl F.sub) .non⟩
theorem str_den {G : Hp} (x : PySem.Str) : Den X.K G (.str x) (.str x.cps.toList) := by
  have e : V.str x = .str (SS x.cps.toList) := by
    obtain ⟨a⟩ := x
    simp [SS]
  rw [e]
  exact .str _
theorem p_str (s : List Nat) {x : PySem.Str} {j} (h : x.cps.toList = s := by decide) : PP X W (.Constant (.str x) j pos) (tpC (.str s)) := by
  subst h
  exact ⟨_, pe_str, fun G0 H0 Γ σ G H k kx Q F ht hk hx => hk _ _ G H ht (Ext.refl F.sub) (str_den x)⟩
/-- a module's constant -/
theorem p_glob {x : PySem.Str} {v : V} {u : Value} {d : D} (hg : Gl X x) (hm : X.mg x = some u) (r : RelV v u) (dn : ∀ G, Den X.K G v d) (hd : (x == ("__debug__" : PySem.Str)) = false := by decide) : PP X W (.Name x pos) (tpC d) :=
  ⟨_, pe_glob hg hm r hd, fun G0 H0 Γ σ G H k kx Q F ht hk hx => hk _ _ G H ht (Ext.refl F.sub) (dn G)⟩
theorem p_globI {x : PySem.Str} {i : Int} (hg : Gl X x) (hm : ∃ t, X.mg x = some (.int i t)) (hd : (x == ("__debug__" : PySem.Str)) = false := by decide) : PP X W (.Name x pos) (tpC (.int i)) := by
  obtain ⟨t, hm⟩ := hm
  exact p_glob hg hm (v := .int i) ⟨t, rfl⟩ (fun G => .int i) hd
theorem p_globS {x : PySem.Str} {s : List Nat} (hg : Gl X x) (hm : ∃ t, X.mg x = some (.str (SS s) t)) (hd : (x == ("__debug__" : PySem.Str)) = false := by decide) : PP X W (.Name x pos) (tpC (.str s)) := by
  obtain ⟨t, hm⟩ := hm
  exact p_glob hg hm (v := .str (SS s)) ⟨t, rfl⟩ (fun G => .str s) hd
abbrev F2 := D → D → KD → Prop
/-- an operator's rule over data -/
def RdO (K : PySem.W.Frag) (r : R2) (f : F2) : Prop := ∀ (H0 G H : Hp) (v1 v2 : V) (d1 d2 : D) (k : KD) (Q : VK), Sub G H → DenU K H0 G H v1 d1 → DenU K H0 G H v2 d2 → f d1 d2 k →
  (∀ d v G' H', k d → Ext G H G' H' → Den K G' v d → Q v H') → r v1 v2 H Q
def tpOp (f : F2) (ta tb : TP) : TP := fun Γ k kx => ta Γ (fun x => tb Γ (fun y => f x y k) kx) kx
theorem DenU.up {K : PySem.W.Frag} {H0 G H G' H' : Hp} {v : V} {d : D} (h : DenU K H0 G H v d) (x : Ext G H G' H') : DenU K H0 G' H' v d := by
  rcases h with h | ⟨p, e, g, r⟩
  · exact .inl (h.up x.g)
  · exact .inr ⟨p, e, x.nw _ g r.there, r.up x⟩
theorem rd_op {r : R2} {f : F2} {ea eb : TE} (ha : RdU X.K W ea ta) (hb : RdU X.K W eb tb) (hr : RdO X.K r f) : RdP X.K W (tOp r ea eb) (tpOp f ta tb) := by
  intro G0 H0 Γ σ G H k kx Q F ht hk hx
  refine ha G0 H0 Γ σ G H _ kx _ F ht (fun d1 v1 G1 H1 k1 x1 n1 => ?_) hx
  refine hb G0 H0 Γ σ G1 H1 _ kx _ (F.up x1) k1 (fun d2 v2 G2 H2 k2 x2 n2 => ?_) (hx.up x1)
  exact hr H0 G2 H2 v1 v2 d1 d2 k Q x2.sub (n1.up x2) n2 k2 fun d v G' H' kd ex dn => hk d v G' H' kd ((x1.trans x2).trans ex) dn
theorem p_op {op : Operator} {r : R2} {f : F2} (ho : OpR X (binaryOp op) r ∧ RdO X.K r f) (ha : PU X W a ta) (hb : PU X W b tb) : PP X W (.BinOp a op b pos) (tpOp f ta tb) := by
  obtain ⟨ea, pa, ra⟩ := ha.ex
  obtain ⟨eb, pb, rb⟩ := hb.ex
  exact ⟨_, pe_op ho.1 pa pb, rd_op ra rb ho.2⟩
theorem p_cmp {op : CmpOp} {r : R2} {f : F2} (ho : OpR X (compareOp op) r ∧ RdO X.K r f) (ha : PU X W a ta) (hb : PU X W b tb) (hm : behindInMarks op b = false := by first | exact nobehind _ (by decide) (by decide) | rfl) : PP X W (.Compare a [op] [b] pos) (tpOp f ta tb) := by
  obtain ⟨ea, pa, ra⟩ := ha.ex
  obtain ⟨eb, pb, rb⟩ := hb.ex
  exact ⟨_, pe_cmpR ho.1 pa pb hm, rd_op ra rb ho.2⟩
theorem RdO.or {K : PySem.W.Frag} {r1 r2 : R2} {f : F2} (h : ∀ d1 d2, (∃ f1, RdO K r1 f1 ∧ ∀ k, f d1 d2 k → f1 d1 d2 k) ∨ (∃ f1, RdO K r2 f1 ∧ ∀ k, f d1 d2 k → f1 d1 d2 k)) : RdO K (fun x y H Q => r1 x y H Q ∨ r2 x y H Q) f := by
  intro H0 G H v1 v2 d1 d2 k Q s n1 n2 hf hk
  rcases h d1 d2 with ⟨f1, q, z⟩ | ⟨f1, q, z⟩
  · exact .inl (q H0 G H v1 v2 d1 d2 k Q s n1 n2 (z k hf) hk)
  · exact .inr (q H0 G H v1 v2 d1 d2 k Q s n1 n2 (z k hf) hk)
theorem DenU.int {K : PySem.W.Frag} {H0 G H : Hp} {v : V} {i : Int} (h : DenU K H0 G H v (.int i)) : v = .int i := by
  rcases h with h | ⟨p, e, g, r⟩
  · cases h; rfl
  · exact r.elim
theorem DenU.bl {K : PySem.W.Frag} {H0 G H : Hp} {v : V} {i : Bool} (h : DenU K H0 G H v (.bl i)) : v = .bl i := by
  rcases h with h | ⟨p, e, g, r⟩
  · cases h; rfl
  · exact r.elim
theorem DenU.str {K : PySem.W.Frag} {H0 G H : Hp} {v : V} {s : List Nat} (h : DenU K H0 G H v (.str s)) : v = .str (SS s) := by
  rcases h with h | ⟨p, e, g, r⟩
  · cases h; rfl
  · exact r.elim
theorem DenU.non {K : PySem.W.Frag} {H0 G H : Hp} {v : V} (h : DenU K H0 G H v .non) : v = .non := by
  rcases h with h | ⟨p, e, g, r⟩
  · cases h; rfl
  · exact r.elim
theorem DenU.lst {K : PySem.W.Frag} {H0 G H : Hp} {v : V} {ds : List D} (s : Sub G H) (h : DenU K H0 G H v (.lst ds)) : ∃ a xs, v = .ref a ∧ H a = some (.lst xs) ∧ DenL K G xs ds := by
  rcases h with h | ⟨p, e, g, xs, r1, r2⟩
  · cases h with
    | lst h1 h2 => exact ⟨_, _, rfl, s.at_ h1 (fun z => z), h2⟩
  · exact ⟨p, xs, e, r1, r2⟩
theorem DenU.tup {K : PySem.W.Frag} {H0 G H : Hp} {v : V} {ds : List D} (s : Sub G H) (h : DenU K H0 G H v (.tup ds)) : ∃ a xs, v = .ref a ∧ SqT K H a xs ∧ DenL K G xs ds := by
  rcases h with h | ⟨p, e, g, r⟩
  · cases h with
    | tup h1 h2 => exact ⟨_, _, rfl, s.sqt h1, h2⟩
  · exact r.elim
def fAdd : F2
  | .int i, .int j, k => k (.int (i + j))
  | .str s, .str t, k => s.length + t.length ≤ sizeLine ∧ k (.str (s ++ t))
  | .lst s, .lst t, k => s.length + t.length ≤ sizeLine ∧ k (.lst (s ++ t))
  | _, _, _ => False
theorem ss_append (s t : List Nat) : SS s ++ SS t = SS (s ++ t) := by
  show PySem.Str.mk _ = _
  simp [SS]
theorem ss_length (s : List Nat) : (SS s).length = s.length := by
  show (SS s).cps.size = _
  simp [SS]
def rAdd3 : R2 := fun x y H Q => rI0 (fun i j => .int (i + j)) x y H Q ∨ ((∃ i j, x = .str i ∧ y = .str j ∧ i.length + j.length ≤ sizeLine ∧ Q (.str (i ++ j)) H) ∨ rCat x y H Q)
theorem o_add : OpR X (binaryOp .Add) rAdd3 ∧ RdO X.K rAdd3 fAdd := by
  refine ⟨OpR.or op_add (OpR.or op_add_str op_cat), ?_⟩
  intro H0 G H v1 v2 d1 d2 k Q s n1 n2 hf hk
  cases d1 with
  | int i =>
    cases d2 with
    | int j => exact .inl ⟨i, j, n1.int, n2.int, hk _ _ G H hf (Ext.refl s) (.int _)⟩
    | _ => exact hf.elim
  | str i =>
    cases d2 with
    | str j =>
      obtain ⟨hl, hf⟩ := hf
      exact .inr (.inl ⟨_, _, n1.str, n2.str, by rw [ss_length, ss_length]; exact hl, by rw [ss_append]; exact hk _ _ G H hf (Ext.refl s) (.str _)⟩)
    | _ => exact hf.elim
  | lst i =>
    cases d2 with
    | lst j =>
      obtain ⟨hl, hf⟩ := hf
      obtain ⟨a, xs, e1, h1, r1⟩ := n1.lst s
      obtain ⟨b, ys, e2, h2, r2⟩ := n2.lst s
      refine .inr (.inr ⟨a, b, xs, ys, e1, e2, h1, h2, by rw [r1.length, r2.length]; exact hl, fun p hp => ?_⟩)
      exact hk _ _ _ _ hf (Ext.new s hp) (.lst upd_same ((r1.append r2).up (same_upd (s.none hp))))
    | _ => exact hf.elim
  | _ => exact hf.elim
def fSub : F2
  | .int i, .int j, k => k (.int (i - j))
  | _, _, _ => False
theorem o_int {g : Int → Int → V} {f : F2} {op : Value → Value → Sem Value} (ho : OpR X op (rI0 g)) (hf : ∀ d1 d2 k, f d1 d2 k → ∃ i j d, d1 = .int i ∧ d2 = .int j ∧ k d ∧ ∀ G, Den X.K G (g i j) d) : OpR X op (rI0 g) ∧ RdO X.K (rI0 g) f := by
  refine ⟨ho, fun H0 G H v1 v2 d1 d2 k Q s n1 n2 h hk => ?_⟩
  obtain ⟨i, j, d, rfl, rfl, kd, dn⟩ := hf _ _ _ h
  exact ⟨i, j, n1.int, n2.int, hk _ _ G H kd (Ext.refl s) (dn G)⟩
theorem o_intC {C : Int → Int → Prop} {g : Int → Int → V} {f : F2} {op : Value → Value → Sem Value} (ho : OpR X op (rI C g)) (hf : ∀ d1 d2 k, f d1 d2 k → ∃ i j d, d1 = .int i ∧ d2 = .int j ∧ C i j ∧ k d ∧ ∀ G, Den X.K G (g i j) d) : OpR X op (rI C g) ∧ RdO X.K (rI C g) f := by
  refine ⟨ho, fun H0 G H v1 v2 d1 d2 k Q s n1 n2 h hk => ?_⟩
  obtain ⟨i, j, d, rfl, rfl, c, kd, dn⟩ := hf _ _ _ h
  exact ⟨i, j, n1.int, n2.int, c, hk _ _ G H kd (Ext.refl s) (dn G)⟩
theorem o_sub : OpR X (binaryOp .Sub) (rI0 fun i j => .int (i - j)) ∧ RdO X.K (rI0 fun i j => .int (i - j)) fSub := o_int op_sub fun d1 d2 k h => by
  cases d1 with
  | int i =>
    cases d2 with
    | int j => exact ⟨i, j, _, rfl, rfl, h, fun _ => .int _⟩
    | _ => exact h.elim
  | _ => exact h.elim
def fMul : F2
  | .int i, .int j, k => CMul i j ∧ k (.int (i * j))
  | .lst xs, .int n, k => n < 2 ^ 60 ∧ -(2 ^ 60) < n ∧ xs.length * n.toNat ≤ sizeLine ∧ k (.lst (List.replicate n.toNat xs).flatten)
  | _, _, _ => False
def rMul2 : R2 := fun x y H Q => rI CMul (fun i j => .int (i * j)) x y H Q ∨ rRep x y H Q
theorem denL_rep {K : PySem.W.Frag} {G : Hp} {xs : List V} {ds : List D} (h : DenL K G xs ds) : ∀ n, DenL K G (List.replicate n xs).flatten (List.replicate n ds).flatten
  | 0 => .nil
  | n + 1 => by
    rw [List.replicate_succ, List.replicate_succ, List.flatten_cons, List.flatten_cons]
    exact h.append (denL_rep h n)
theorem o_mul : OpR X (binaryOp .Mult) rMul2 ∧ RdO X.K rMul2 fMul := by
  refine ⟨OpR.or op_mul op_rep, ?_⟩
  intro H0 G H v1 v2 d1 d2 k Q s n1 n2 hf hk
  cases d1 with
  | int i =>
    cases d2 with
    | int j => exact .inl ⟨i, j, n1.int, n2.int, hf.1, hk _ _ G H hf.2 (Ext.refl s) (.int _)⟩
    | _ => exact hf.elim
  | lst i =>
    cases d2 with
    | int j =>
      obtain ⟨hl, hl2, hz, hf⟩ := hf
      obtain ⟨a, xs, e1, h1, r1⟩ := n1.lst s
      refine .inr ⟨a, j, xs, e1, n2.int, h1, ?_, ?_, by rw [r1.length]; exact hz, fun p hp => ?_⟩
      · have : (2 : Int) ^ 60 ≤ 2 ^ 63 := by decide
        omega
      · have : (2 : Int) ^ 60 ≤ 2 ^ 63 := by decide
        omega
      · exact hk _ _ _ _ hf (Ext.new s hp) (.lst upd_same ((denL_rep r1 _).up (same_upd (s.none hp))))
    | _ => exact hf.elim
  | _ => exact hf.elim
/-- // by a positive number below 2 ^ 30 -/
def fFdiv : F2
  | .int i, .int j, k => (0 < j ∧ j < 1073741824) ∧ k (.int (i / j))
  | _, _, _ => False
theorem o_fdiv : OpR X (binaryOp .FloorDiv) (rI CDiv fun i j => .int (i / j)) ∧ RdO X.K (rI CDiv fun i j => .int (i / j)) fFdiv := o_intC op_fdiv fun d1 d2 k h => by
  cases d1 with
  | int i =>
    cases d2 with
    | int j => exact ⟨i, j, _, rfl, rfl, h.1, h.2, fun _ => .int _⟩
    | _ => exact h.elim
  | _ => exact h.elim
def fMod : F2
  | .int i, .int j, k => 0 < j ∧ k (.int (i % j))
  | _, _, _ => False
theorem o_mod : OpR X (binaryOp .Mod) (rI (fun _ j => 0 < j) fun i j => .int (i % j)) ∧ RdO X.K (rI (fun _ j => 0 < j) fun i j => .int (i % j)) fMod := o_intC op_mod fun d1 d2 k h => by
  cases d1 with
  | int i =>
    cases d2 with
    | int j => exact ⟨i, j, _, rfl, rfl, h.1, h.2, fun _ => .int _⟩
    | _ => exact h.elim
  | _ => exact h.elim
def fPow : F2
  | .int i, .int j, k => (0 ≤ j ∧ j ≤ 1000000 ∧ i.natAbs < 2 ^ 64) ∧ k (.int (i ^ j.toNat))
  | _, _, _ => False
theorem o_pow : OpR X (binaryOp .Pow) (rI CPow fun i j => .int (i ^ j.toNat)) ∧ RdO X.K (rI CPow fun i j => .int (i ^ j.toNat)) fPow := o_intC op_pow fun d1 d2 k h => by
  cases d1 with
  | int i =>
    cases d2 with
    | int j => exact ⟨i, j, _, rfl, rfl, h.1, h.2, fun _ => .int _⟩
    | _ => exact h.elim
  | _ => exact h.elim
def fLt : F2
  | .int i, .int j, k => k (.bl (decide (i < j)))
  | .str s, .str t, k => k (.bl (decide (s < t)))
  | _, _, _ => False
def fLe : F2
  | .int i, .int j, k => k (.bl (decide (i ≤ j)))
  | _, _, _ => False
def fGt : F2
  | .int i, .int j, k => k (.bl (decide (j < i)))
  | _, _, _ => False
def fGe : F2
  | .int i, .int j, k => k (.bl (decide (j ≤ i)))
  | _, _, _ => False
def rLt2 : R2 := fun x y H Q => rI0 (fun i j => .bl (decide (i < j))) x y H Q ∨ ∃ i j, x = .str i ∧ y = .str j ∧ Q (.bl (decide (i.cps.toList < j.cps.toList))) H
theorem o_lt : OpR X (compareOp .Lt) rLt2 ∧ RdO X.K rLt2 fLt := by
  refine ⟨OpR.or op_lt op_lt_str, ?_⟩
  intro H0 G H v1 v2 d1 d2 k Q s n1 n2 hf hk
  cases d1 with
  | int i =>
    cases d2 with
    | int j => exact .inl ⟨i, j, n1.int, n2.int, hk _ _ G H hf (Ext.refl s) (.bl _)⟩
    | _ => exact hf.elim
  | str i =>
    cases d2 with
    | str j => exact .inr ⟨_, _, n1.str, n2.str, hk _ _ G H hf (Ext.refl s) (.bl _)⟩
    | _ => exact hf.elim
  | _ => exact hf.elim
theorem o_le : OpR X (compareOp .LtE) (rI0 fun i j => .bl (decide (i ≤ j))) ∧ RdO X.K (rI0 fun i j => .bl (decide (i ≤ j))) fLe := o_int op_le fun d1 d2 k h => by
  cases d1 with
  | int i =>
    cases d2 with
    | int j => exact ⟨i, j, _, rfl, rfl, h, fun _ => .bl _⟩
    | _ => exact h.elim
  | _ => exact h.elim
theorem o_gt : OpR X (compareOp .Gt) (rI0 fun i j => .bl (decide (j < i))) ∧ RdO X.K (rI0 fun i j => .bl (decide (j < i))) fGt := o_int op_gt fun d1 d2 k h => by
  cases d1 with
  | int i =>
    cases d2 with
    | int j => exact ⟨i, j, _, rfl, rfl, h, fun _ => .bl _⟩
    | _ => exact h.elim
  | _ => exact h.elim
theorem o_ge : OpR X (compareOp .GtE) (rI0 fun i j => .bl (decide (j ≤ i))) ∧ RdO X.K (rI0 fun i j => .bl (decide (j ≤ i))) fGe := o_int op_ge fun d1 d2 k h => by
  cases d1 with
  | int i =>
    cases d2 with
    | int j => exact ⟨i, j, _, rfl, rfl, h, fun _ => .bl _⟩
    | _ => exact h.elim
  | _ => exact h.elim
theorem DenU.notNon {K : PySem.W.Frag} {H0 G H : Hp} {v : V} {d : D} (h : DenU K H0 G H v d) (n : d ≠ .non) : decide (v = .non) = false := by
  apply decide_eq_false
  intro e
  subst e
  rcases h with h | ⟨p, e, _⟩
  · cases h
    exact n rfl
  · cases e
end
end PL
set_option Elab.async false
set_option linter.all false
set_option maxRecDepth 100000
set_option maxHeartbeats 2000000
namespace PL
open PySem L2
variable [Tabl]
mutual
def D.py : D → PyData
  | .non => .none
  | .bl b => .bool b
  | .int i => .int i
  | .str s => .str (SS s)
  | .lst xs => .list (D.pyL xs)
  | .tup xs => .tuple (D.pyL xs)
  | .dct _ => .none
  | .ins _ _ => .none
  | .sl _ _ => .none
  | .cls _ => .none
  | .ty _ => .none
  | .bag => .none
  | .scr => .none
  | .cel _ _ => .none
def D.pyL : List D → List PyData
  | [] => []
  | d :: r => D.py d :: D.pyL r
end
mutual
/-- none, bools, ints, texts, lists and tuples of such -/
def D.plain : D → Bool
  | .non => true
  | .bl _ => true
  | .int _ => true
  | .str s => s.all fun c => decide (c < 1114112)
  | .lst xs => D.plainL xs
  | .tup xs => D.plainL xs
  | _ => false
def D.plainL : List D → Bool
  | [] => true
  | d :: r => D.plain d && D.plainL r
end
mutual
def D.dep : D → Nat
  | .lst xs => D.depL xs + 1
  | .tup xs => D.depL xs + 1
  | _ => 0
def D.depL : List D → Nat
  | [] => 0
  | d :: r => max (D.dep d) (D.depL r)
end
mutual
theorem D.lay : ∀ d : D, d.plain = true → d.py.canLay0 = true
  | .non, _ => rfl
  | .bl _, _ => rfl
  | .int _, _ => rfl
  | .str s, h => by
    show (SS s).cps.all (· < 0x110000) = true
    unfold D.plain at h
    rw [Array.all_eq_true']
    intro c hc
    have := List.all_eq_true.mp h c (by simpa [SS] using hc)
    simpa using this
  | .lst xs, h => by
    show PyData.canLayAll0 _ = true
    exact D.layL xs h
  | .tup xs, h => by
    show PyData.canLayAll0 _ = true
    exact D.layL xs h
  | .dct _, h => by cases h
  | .ins _ _, h => by cases h
  | .sl _ _, h => by cases h
  | .cls _, h => by cases h
  | .ty _, h => by cases h
  | .bag, h => by cases h
  | .scr, h => by cases h
  | .cel _ _, h => by cases h
theorem D.layL : ∀ ds : List D, D.plainL ds = true → PyData.canLayAll0 (D.pyL ds) = true
  | [], _ => rfl
  | d :: r, h => by
    have h : (d.plain && D.plainL r) = true := h
    obtain ⟨h1, h2⟩ := Bool.and_eq_true_iff.mp h
    show (PyData.canLay0 d.py && PyData.canLayAll0 (D.pyL r)) = true
    rw [D.lay d h1, D.layL r h2]
    rfl
end
mutual
theorem D.dep_py : ∀ d : D, d.py.depth = d.dep
  | .non => rfl
  | .bl _ => rfl
  | .int _ => rfl
  | .str s => rfl
  | .lst xs => congrArg (· + 1) (D.dep_pyL xs)
  | .tup xs => congrArg (· + 1) (D.dep_pyL xs)
  | .dct _ => rfl
  | .ins _ _ => rfl
  | .sl _ _ => rfl
  | .cls _ => rfl
  | .ty _ => rfl
  | .bag => rfl
  | .scr => rfl
  | .cel _ _ => rfl
theorem D.dep_pyL : ∀ ds : List D, PyData.depthAll (D.pyL ds) = D.depL ds
  | [] => rfl
  | d :: r => by
    show max (PyData.depth d.py) (PyData.depthAll (D.pyL r)) = max d.dep (D.depL r)
    rw [D.dep_py d, D.dep_pyL r]
end
theorem D.shaped {d : D} (h : d.plain = true) (hd : d.dep ≤ 64) : SeqAt.shaped d.py = true := by
  unfold SeqAt.shaped
  rw [D.lay d h, D.dep_py d, decide_eq_true hd]
  rfl
def eqD (d e : D) : Bool := PyData.eqv d.py e.py
section
variable {K : PySem.W.Frag} {G H H0 : Hp}
mutual
theorem Den.dp (s : Sub G H) : ∀ (d : D) (v : V), Den K G v d → d.plain = true → Dp K H v d.py
  | .non, _, h, _ => by cases h; exact .non
  | .bl _, _, h, _ => by cases h; exact .bl _
  | .int _, _, h, _ => by cases h; exact .int _
  | .str _, _, h, _ => by cases h; exact .str _
  | .lst xs, _, h, z => by
    cases h with
    | lst h1 h2 => exact .lst (SqL.of (s.at_ h1 (fun z => z))) (DenL.dp s xs _ h2 z)
  | .tup xs, _, h, z => by
    cases h with
    | tup h1 h2 => exact .tup (s.sqt h1) (DenL.dp s xs _ h2 z)
  | .dct _, _, _, z => by cases z
  | .ins _ _, _, _, z => by cases z
  | .sl _ _, _, _, z => by cases z
  | .cls _, _, _, z => by cases z
  | .ty _, _, _, z => by cases z
  | .bag, _, _, z => by cases z
  | .scr, _, _, z => by cases z
  | .cel _ _, _, _, z => by cases z
theorem DenL.dp (s : Sub G H) : ∀ (ds : List D) (vs : List V), DenL K G vs ds → D.plainL ds = true → DpAll K H vs (D.pyL ds)
  | [], _, h, _ => by cases h; exact .nil
  | d :: r, _, h, z => by
    have z : (d.plain && D.plainL r) = true := z
    obtain ⟨z1, z2⟩ := Bool.and_eq_true_iff.mp z
    cases h with
    | cons h1 h2 => exact .cons (Den.dp s d _ h1 z1) (DenL.dp s r _ h2 z2)
end
theorem DenU.dp (s : Sub G H) {d : D} {v : V} (h : DenU K H0 G H v d) (z : d.plain = true) : Dp K H v d.py := by
  rcases h with h | ⟨p, e, g, r⟩
  · exact Den.dp s d v h z
  · cases d with
    | lst xs =>
      obtain ⟨ys, h1, h2⟩ := r
      subst e
      exact .lst (SqL.of h1) (DenL.dp s xs _ h2 z)
    | dct _ => cases z
    | ins _ _ => cases z
    | _ => exact r.elim
end
def fEq : F2 := fun d e k => (d.plain = true ∧ e.plain = true ∧ d.dep ≤ 64 ∧ e.dep ≤ 64) ∧ k (.bl (eqD d e))
def fNe : F2 := fun d e k => (d.plain = true ∧ e.plain = true ∧ d.dep ≤ 64 ∧ e.dep ≤ 64) ∧ k (.bl (!eqD d e))
section
variable {X : Cx} {W : WX} {e a b c : Expr} {es : List Expr} {t ta tb tc : TP} {tl : TL} {tt tu : TB} {pos : Pos}
theorem o_eq (hu : X.A.units + 64 < cLine) : OpR X (compareOp .Eq) (rEqD X.K) ∧ RdO X.K (rEqD X.K) fEq :=
  ⟨op_eqD hu, fun H0 G H v1 v2 d1 d2 k Q s n1 n2 ⟨⟨p1, p2, l1, l2⟩, hf⟩ hk => ⟨d1.py, d2.py, n1.dp s p1, n2.dp s p2, D.shaped p1 l1, D.shaped p2 l2, hk _ _ G H hf (Ext.refl s) (.bl _)⟩⟩
theorem o_ne (hu : X.A.units + 64 < cLine) : OpR X (compareOp .NotEq) (rNeD X.K) ∧ RdO X.K (rNeD X.K) fNe :=
  ⟨op_neD hu, fun H0 G H v1 v2 d1 d2 k Q s n1 n2 ⟨⟨p1, p2, l1, l2⟩, hf⟩ hk => ⟨d1.py, d2.py, n1.dp s p1, n2.dp s p2, D.shaped p1 l1, D.shaped p2 l2, hk _ _ G H hf (Ext.refl s) (.bl _)⟩⟩
/-- a sign in a text -/
def fInS : F2
  | .str [c], .str t, k => k (.bl (decide (c ∈ t)))
  | _, _, _ => False
def rInSg : R2 := fun x y H Q => ∃ (c : Nat) (z : PySem.Str), x = .str ⟨#[c]⟩ ∧ y = .str z ∧ Q (.bl (decide (c ∈ z.cps.toList))) H
theorem o_inS : OpR X (compareOp .In) rInSg ∧ RdO X.K rInSg fInS := by
  refine ⟨op_in_sign, fun H0 G H v1 v2 d1 d2 k Q s n1 n2 hf hk => ?_⟩
  cases d1 with
  | str x =>
    match x, hf with
    | [c], hf =>
      cases d2 with
      | str y => exact ⟨c, _, n1.str, n2.str, hk _ _ G H hf (Ext.refl s) (.bl _)⟩
      | _ => exact hf.elim
  | _ => exact hf.elim
def isNon : D → Bool
  | .non => true
  | _ => false
theorem DenU.isNon {K : PySem.W.Frag} {H0 G H : Hp} {v : V} {d : D} (h : DenU K H0 G H v d) : decide (v = .non) = isNon d := by
  cases d with
  | non => rw [h.non]; rfl
  | _ => exact h.notNon (by simp)
def tpIsN (t : TP) : TP := fun Γ k kx => t Γ (fun d => k (.bl (isNon d))) kx
theorem p_isN {j p2} (ha : PU X W a ta) : PP X W (.Compare a [.Is] [.Constant .none j p2] pos) (tpIsN ta) := by
  obtain ⟨ea, pa, ra⟩ := ha.ex
  refine ⟨_, pe_cmp (pc_isN pa), fun G0 H0 Γ σ G H k kx Q F ht hk hx => ?_⟩
  refine ra G0 H0 Γ σ G H _ kx _ F ht (fun d1 v1 G1 H1 k1 x1 n1 => ?_) hx
  rw [n1.isNon]
  exact hk _ _ G1 H1 k1 x1 (.bl _)
def onB (d : D) (k : Bool → Prop) : Prop := match d with
  | .bl b => k b
  | _ => False
theorem onB_elim {d : D} {k : Bool → Prop} (h : onB d k) : ∃ b, d = .bl b ∧ k b := by
  cases d with
  | bl b => exact ⟨b, rfl, h⟩
  | _ => exact h.elim
def tpAnd (ta tb : TP) : TP := fun Γ k kx => ta Γ (fun d => onB d fun c => if c = true then tb Γ k kx else k (.bl false)) kx
def tpOr (ta tb : TP) : TP := fun Γ k kx => ta Γ (fun d => onB d fun c => if c = true then k (.bl true) else tb Γ k kx) kx
def tpNot (ta : TP) : TP := fun Γ k kx => ta Γ (fun d => onB d fun c => k (.bl (!c))) kx
theorem p_and {r : List Expr} (ha : PP X W a ta) (hb : PP X W (.BoolOp .And (b :: r) pos) tb) : PP X W (.BoolOp .And (a :: b :: r) pos) (tpAnd ta tb) := by
  obtain ⟨ea, pa, ra⟩ := ha.ex
  obtain ⟨eb, pb, rb⟩ := hb.ex
  refine ⟨_, pe_and pa pb, fun G0 H0 Γ σ G H k kx Q F ht hk hx => ?_⟩
  refine ra G0 H0 Γ σ G H _ kx _ F ht (fun d1 v1 G1 H1 k1 x1 n1 => ?_) hx
  obtain ⟨c, rfl, k1⟩ := onB_elim k1
  refine ⟨c, DenU.bl (.inl n1) (H0 := H0) (H := H1), ?_⟩
  cases c with
  | true => exact rb G0 H0 Γ σ G1 H1 k kx Q (F.up x1) k1 (fun d v G' H' kd ex dn => hk d v G' H' kd (x1.trans ex) dn) (hx.up x1)
  | false => exact hk _ _ G1 H1 k1 x1 (.bl _)
theorem p_or {r : List Expr} (ha : PP X W a ta) (hb : PP X W (.BoolOp .Or (b :: r) pos) tb) : PP X W (.BoolOp .Or (a :: b :: r) pos) (tpOr ta tb) := by
  obtain ⟨ea, pa, ra⟩ := ha.ex
  obtain ⟨eb, pb, rb⟩ := hb.ex
  refine ⟨_, pe_or pa pb, fun G0 H0 Γ σ G H k kx Q F ht hk hx => ?_⟩
  refine ra G0 H0 Γ σ G H _ kx _ F ht (fun d1 v1 G1 H1 k1 x1 n1 => ?_) hx
  obtain ⟨c, rfl, k1⟩ := onB_elim k1
  refine ⟨c, DenU.bl (.inl n1) (H0 := H0) (H := H1), ?_⟩
  cases c with
  | false => exact rb G0 H0 Γ σ G1 H1 k kx Q (F.up x1) k1 (fun d v G' H' kd ex dn => hk d v G' H' kd (x1.trans ex) dn) (hx.up x1)
  | true => exact hk _ _ G1 H1 k1 x1 (.bl _)
theorem p_one {op} (ha : PP X W a ta) : PP X W (.BoolOp op [a] pos) ta := by
  obtain ⟨ea, pa, ra⟩ := ha.ex
  exact ⟨_, pe_one pa, ra⟩
theorem p_not (ha : PP X W a ta) : PP X W (.UnaryOp .Not a pos) (tpNot ta) := by
  obtain ⟨ea, pa, ra⟩ := ha.ex
  refine ⟨_, pe_not pa, fun G0 H0 Γ σ G H k kx Q F ht hk hx => ?_⟩
  refine ra G0 H0 Γ σ G H _ kx _ F ht (fun d1 v1 G1 H1 k1 x1 n1 => ?_) hx
  obtain ⟨c, rfl, k1⟩ := onB_elim k1
  exact ⟨c, DenU.bl (.inl n1) (H0 := H0) (H := H1), hk _ _ G1 H1 k1 x1 (.bl _)⟩
def tbV (t : TP) : TB := fun Γ k kx => t Γ (fun d => onB d k) kx
theorem b_val (h : PP X W e t) (he : ∀ whole, isTrue e X.env whole = (do let v ← whole; standAt e.pos; holding [v] (truthy v)) := by intro _; rfl) : PB X W e (tbV t) := by
  obtain ⟨ea, pa, ra⟩ := h.ex
  refine ⟨_, pt_val pa he, fun G0 H0 Γ σ G H k kx Q F ht hk hx => ?_⟩
  refine ra G0 H0 Γ σ G H _ kx _ F ht (fun d1 v1 G1 H1 k1 x1 n1 => ?_) hx
  obtain ⟨c, rfl, k1⟩ := onB_elim k1
  exact ⟨c, DenU.bl (.inl n1) (H0 := H0) (H := H1), hk _ G1 H1 k1 x1⟩
theorem b_cmp {op : CmpOp} {r : R2} {f : F2} (ho : OpR X (compareOp op) r ∧ RdO X.K r f) (ha : PU X W a ta) (hb : PU X W b tb) (hm : behindInMarks op b = false := by first | exact nobehind _ (by decide) (by decide) | rfl) : PB X W (.Compare a [op] [b] pos) (tbV (tpOp f ta tb)) := by
  obtain ⟨ea, pa, ra⟩ := ha.ex
  obtain ⟨eb, pb, rb⟩ := hb.ex
  refine ⟨_, pt_cmpR ho.1 pa pb hm, fun G0 H0 Γ σ G H k kx Q F ht hk hx => ?_⟩
  refine rd_op ra rb ho.2 G0 H0 Γ σ G H _ kx _ F ht (fun d1 v1 G1 H1 k1 x1 n1 => ?_) hx
  obtain ⟨c, rfl, k1⟩ := onB_elim k1
  exact ⟨c, DenU.bl (.inl n1) (H0 := H0) (H := H1), hk _ G1 H1 k1 x1⟩
theorem b_isN {j p2} (ha : PU X W a ta) : PB X W (.Compare a [.Is] [.Constant .none j p2] pos) (tbV (tpIsN ta)) := by
  obtain ⟨ea, pa, ra⟩ := ha.ex
  refine ⟨_, pt_cmp (pc_isN pa), fun G0 H0 Γ σ G H k kx Q F ht hk hx => ?_⟩
  refine ra G0 H0 Γ σ G H _ kx _ F ht (fun d1 v1 G1 H1 k1 x1 n1 => ?_) hx
  exact ⟨_, congrArg V.bl n1.isNon, hk _ G1 H1 k1 x1⟩
def tbAnd (t u : TB) : TB := fun Γ k kx => t Γ (fun c => if c = true then u Γ k kx else k false) kx
def tbOr (t u : TB) : TB := fun Γ k kx => t Γ (fun c => if c = true then k true else u Γ k kx) kx
def tbNot (t : TB) : TB := fun Γ k kx => t Γ (fun c => k (!c)) kx
structure PBw (X : Cx) (W : WX) (e : Expr) (t : TB) : Prop where
  ex : ∃ te, PW X e te ∧ RdT X.K W te t
theorem PBw.to (h : PBw X W e tt) : PB X W e tt := by
  obtain ⟨ea, pa, ra⟩ := h.ex
  exact ⟨_, pa.pt, ra⟩
theorem b_and1 (ha : PB X W a tt) : PBw X W (.BoolOp .And [a] pos) tt := by
  obtain ⟨ea, pa, ra⟩ := ha.ex
  exact ⟨_, pw_and1 pa, ra⟩
theorem b_or1 (ha : PB X W a tt) : PBw X W (.BoolOp .Or [a] pos) tt := by
  obtain ⟨ea, pa, ra⟩ := ha.ex
  exact ⟨_, pw_or1 pa, ra⟩
theorem b_and {r : List Expr} (ha : PB X W a tt) (hb : PBw X W (.BoolOp .And (b :: r) pos) tu) : PBw X W (.BoolOp .And (a :: b :: r) pos) (tbAnd tt tu) := by
  obtain ⟨ea, pa, ra⟩ := ha.ex
  obtain ⟨eb, pb, rb⟩ := hb.ex
  refine ⟨_, pw_and pa pb, fun G0 H0 Γ σ G H k kx Q F ht hk hx => ?_⟩
  refine ra G0 H0 Γ σ G H _ kx _ F ht (fun c G1 H1 k1 x1 => ?_) hx
  cases c with
  | true => exact rb G0 H0 Γ σ G1 H1 k kx Q (F.up x1) k1 (fun d G' H' kd ex => hk d G' H' kd (x1.trans ex)) (hx.up x1)
  | false => exact hk _ G1 H1 k1 x1
theorem b_or {r : List Expr} (ha : PB X W a tt) (hb : PBw X W (.BoolOp .Or (b :: r) pos) tu) : PBw X W (.BoolOp .Or (a :: b :: r) pos) (tbOr tt tu) := by
  obtain ⟨ea, pa, ra⟩ := ha.ex
  obtain ⟨eb, pb, rb⟩ := hb.ex
  refine ⟨_, pw_or pa pb, fun G0 H0 Γ σ G H k kx Q F ht hk hx => ?_⟩
  refine ra G0 H0 Γ σ G H _ kx _ F ht (fun c G1 H1 k1 x1 => ?_) hx
  cases c with
  | false => exact rb G0 H0 Γ σ G1 H1 k kx Q (F.up x1) k1 (fun d G' H' kd ex => hk d G' H' kd (x1.trans ex)) (hx.up x1)
  | true => exact hk _ G1 H1 k1 x1
theorem b_not (ha : PB X W a tt) : PB X W (.UnaryOp .Not a pos) (tbNot tt) := by
  obtain ⟨ea, pa, ra⟩ := ha.ex
  refine ⟨_, pt_not pa, fun G0 H0 Γ σ G H k kx Q F ht hk hx => ?_⟩
  exact ra G0 H0 Γ σ G H _ kx _ F ht (fun c G1 H1 k1 x1 => hk _ G1 H1 k1 x1) hx
def tpIf (t : TB) (ta tb : TP) : TP := fun Γ k kx => t Γ (fun c => if c = true then ta Γ k kx else tb Γ k kx) kx
theorem p_ifExp (hc : PB X W c tt) (ha : PP X W a ta) (hb : PP X W b tb) : PP X W (.IfExp c a b pos) (tpIf tt ta tb) := by
  obtain ⟨ec, pc, rc⟩ := hc.ex
  obtain ⟨ea, pa, ra⟩ := ha.ex
  obtain ⟨eb, pb, rb⟩ := hb.ex
  refine ⟨_, pe_ifExp pc pa pb, fun G0 H0 Γ σ G H k kx Q F ht hk hx => ?_⟩
  refine rc G0 H0 Γ σ G H _ kx _ F ht (fun c G1 H1 k1 x1 => ?_) hx
  cases c with
  | true => exact ra G0 H0 Γ σ G1 H1 k kx Q (F.up x1) k1 (fun d v G' H' kd ex dn => hk d v G' H' kd (x1.trans ex) dn) (hx.up x1)
  | false => exact rb G0 H0 Γ σ G1 H1 k kx Q (F.up x1) k1 (fun d v G' H' kd ex dn => hk d v G' H' kd (x1.trans ex) dn) (hx.up x1)
def tlNil : TL := fun _ k _ => k []
def tlCons (t : TP) (r : TL) : TL := fun Γ k kx => t Γ (fun d => r Γ (fun ds => k (d :: ds)) kx) kx
theorem l_nil : PL' X W [] tlNil := ⟨_, pa_nil, fun G0 H0 Γ σ G H k kx Q F ht hk hx => hk [] [] G H ht (Ext.refl F.sub) .nil⟩
theorem l_cons (ha : PP X W e t) (hr : PL' X W es tl) (hs : starEach (e :: es) X.env = (false, eval e X.env) :: starEach es X.env := by rfl) : PL' X W (e :: es) (tlCons t tl) := by
  obtain ⟨ea, pa, ra⟩ := ha.ex
  obtain ⟨eb, pb, rb⟩ := hr.ex
  refine ⟨_, pa_cons pa pb hs, fun G0 H0 Γ σ G H k kx Q F ht hk hx => ?_⟩
  refine ra G0 H0 Γ σ G H _ kx _ F ht (fun d1 v1 G1 H1 k1 x1 n1 => ?_) hx
  exact rb G0 H0 Γ σ G1 H1 _ kx _ (F.up x1) k1 (fun ds vs G' H' kd ex dn => hk (d1 :: ds) (v1 :: vs) G' H' kd (x1.trans ex) (.cons (n1.up ex.g) dn)) (hx.up x1)
def tpTup (t : TL) : TP := fun Γ k kx => t Γ (fun ds => ds.length ≤ 100000 ∧ k (.tup ds)) kx
def tpLst (t : TL) : TP := fun Γ k kx => t Γ (fun ds => ds.length ≤ 100000 ∧ k (.lst ds)) kx
theorem sz5 {n : Nat} (h : n ≤ 100000) : n ≤ sizeLine := Nat.le_trans h (by decide)
theorem p_tup {x1 : Nat} (h : PL' X W es tl) : PP X W (.Tuple es x1 pos) (tpTup tl) := by
  obtain ⟨ea, pa, ra⟩ := h.ex
  refine ⟨_, pe_tup pa, fun G0 H0 Γ σ G H k kx Q F ht hk hx => ?_⟩
  refine ra G0 H0 Γ σ G H _ kx _ F ht (fun ds vs G1 H1 k1 x1 n1 => ?_) hx
  refine ⟨by rw [n1.length]; exact sz5 k1.1, fun p hp => ?_⟩
  exact hk _ _ _ _ k1.2 (x1.trans (Ext.new x1.sub hp)) (.tup (SqT.of upd_same) (n1.up (same_upd (x1.sub.none hp))))
theorem p_lst (h : PL' X W es tl) : PP X W (.List es pos) (tpLst tl) := by
  obtain ⟨ea, pa, ra⟩ := h.ex
  refine ⟨_, pe_lst pa, fun G0 H0 Γ σ G H k kx Q F ht hk hx => ?_⟩
  refine ra G0 H0 Γ σ G H _ kx _ F ht (fun ds vs G1 H1 k1 x1 n1 => ?_) hx
  refine ⟨by rw [n1.length]; exact sz5 k1.1, fun p hp => ?_⟩
  exact hk _ _ _ _ k1.2 (x1.trans (Ext.new x1.sub hp)) (.lst upd_same (n1.up (same_upd (x1.sub.none hp))))
def fIx : F2
  | .lst xs, .int i, k => match atI xs i with
    | some d => k d
    | none => False
  | .tup xs, .int i, k => match atI xs i with
    | some d => k d
    | none => False
  | .str s, .int i, k => s.length ≤ sizeLine ∧ match atI s i with
    | some c => k (.str [c])
    | none => False
  | .cel _ ns, .int i, k => match atI ns i with
    | some n => k (.int n)
    | none => False
  | _, _, _ => False
theorem atI_map {α β : Type} (f : α → β) (xs : List α) (i : Int) : atI (xs.map f) i = (atI xs i).map f := by
  unfold atI
  rw [List.length_map]
  cases ixN xs.length i with
  | none => rfl
  | some j =>
    show (xs.map f)[j]? = (xs[j]?).map f
    rw [List.getElem?_map]
theorem DenU.cel {K : PySem.W.Frag} {H0 G H : Hp} {v : V} {l : Addr} {ns : List Int} (s : Sub G H) (h : DenU K H0 G H v (.cel l ns)) : v = .ref l ∧ H l = some (.lst (ns.map V.int)) := by
  rcases h with h | ⟨p, e, g, r⟩
  · cases h with
    | cel h1 => exact ⟨rfl, s.at_ h1 (fun z => z)⟩
  · exact r.elim
theorem ix_get {K : PySem.W.Frag} {G : Hp} {vs : List V} {ds : List D} {i : Int} {d : D} (r : DenL K G vs ds) (h : atI ds i = some d) : ∃ v, atI vs i = some v ∧ Den K G v d := by
  unfold atI at h ⊢
  rw [r.length]
  cases e : ixN ds.length i with
  | none => rw [e] at h; cases h
  | some j =>
    rw [e] at h
    exact r.get (i := j) h
theorem o_ix : IxR X (rIx X.K) ∧ RdO X.K (rIx X.K) fIx := by
  refine ⟨ix_seq, fun H0 G H v1 v2 d1 d2 k Q s n1 n2 hf hk => ?_⟩
  cases d1 with
  | lst xs =>
    cases d2 with
    | int i =>
      obtain ⟨a, ys, e1, h1, r1⟩ := n1.lst s
      unfold fIx at hf
      cases e : atI xs i with
      | none => simp only [e] at hf
      | some d =>
        simp only [e] at hf
        obtain ⟨v, hv, dn⟩ := ix_get r1 e
        exact .inl ⟨a, ys, i, v, e1, n2.int, SqL.of h1, hv, hk _ _ G H hf (Ext.refl s) dn⟩
    | _ => exact hf.elim
  | tup xs =>
    cases d2 with
    | int i =>
      obtain ⟨a, ys, e1, h1, r1⟩ := n1.tup s
      unfold fIx at hf
      cases e : atI xs i with
      | none => simp only [e] at hf
      | some d =>
        simp only [e] at hf
        obtain ⟨v, hv, dn⟩ := ix_get r1 e
        exact .inr (.inl ⟨a, ys, i, v, e1, n2.int, h1, hv, hk _ _ G H hf (Ext.refl s) dn⟩)
    | _ => exact hf.elim
  | str xs =>
    cases d2 with
    | int i =>
      unfold fIx at hf
      obtain ⟨hz, hf⟩ := hf
      cases e : atI xs i with
      | none => simp only [e] at hf
      | some c =>
        simp only [e] at hf
        exact .inr (.inr ⟨_, i, c, n1.str, n2.int, by rw [ss_length]; exact hz, e, hk _ _ G H hf (Ext.refl s) (.str [c])⟩)
    | _ => exact hf.elim
  | cel l ns =>
    cases d2 with
    | int i =>
      obtain ⟨e1, h1⟩ := n1.cel s
      unfold fIx at hf
      cases e : atI ns i with
      | none => simp only [e] at hf
      | some n =>
        simp only [e] at hf
        exact .inl ⟨l, _, i, .int n, e1, n2.int, SqL.of h1, by rw [atI_map, e]; rfl, hk _ _ G H hf (Ext.refl s) (.int n)⟩
    | _ => exact hf.elim
  | _ => exact hf.elim
theorem p_ix (ha : PU X W a ta) (hb : PU X W b tb) (hs : PlainIx b := by exact fun _ _ => rfl) : PP X W (.Subscript a b pos) (tpOp fIx ta tb) := by
  obtain ⟨ea, pa, ra⟩ := ha.ex
  obtain ⟨eb, pb, rb⟩ := hb.ex
  exact ⟨_, pe_ix o_ix.1 pa pb hs, rd_op ra rb o_ix.2⟩
abbrev TO' := Ga → (Option Int → Prop) → KX → Prop
def RdPart (K : PySem.W.Frag) (W : WX) (te : TO) (t : TO') : Prop := ∀ (G0 H0 : Hp) (Γ : Ga) (σ : L2.St) (G H : Hp) (k : Option Int → Prop) (kx : KX) (Q : Option Int → Hp → Prop), Fr K G0 H0 Γ σ G H → t Γ k kx →
  (∀ b G' H', k b → Ext G H G' H' → Q b H') → XOk K W G H σ kx → te σ H Q
structure PPart (X : Cx) (W : WX) (e : Option Expr) (t : TO') : Prop where
  ex : ∃ te, PO X e te ∧ RdPart X.K W te t
def toNo : TO' := fun _ k _ => k none
def toSome (t : TP) : TO' := fun Γ k kx => t Γ (fun d => match d with | .int i => k (some i) | _ => False) kx
theorem s_none : PPart X W none toNo := ⟨_, po_none, fun G0 H0 Γ σ G H k kx Q F ht hk hx => hk none G H ht (Ext.refl F.sub)⟩
theorem s_some (ha : PP X W a ta) : PPart X W (some a) (toSome ta) := by
  obtain ⟨ea, pa, ra⟩ := ha.ex
  refine ⟨_, po_some pa, fun G0 H0 Γ σ G H k kx Q F ht hk hx => ?_⟩
  refine ra G0 H0 Γ σ G H _ kx _ F ht (fun d1 v1 G1 H1 k1 x1 n1 => ?_) hx
  cases d1 with
  | int i => exact ⟨i, DenU.int (.inl n1) (H0 := H0) (H := H1), hk _ G1 H1 k1 x1⟩
  | _ => exact k1.elim
def cutL {α : Type} (xs : List α) (lo hi : Option Int) : List α := (xs.drop (HT.sIx xs.length 0 lo)).take (HT.sIx xs.length xs.length hi - HT.sIx xs.length 0 lo)
/-- a tuple's slice that is a part of it -/
def fSl : D → Option Int → Option Int → KD → Prop
  | .lst xs, lo, hi, k => k (.lst (cutL xs lo hi))
  | .tup xs, lo, hi, k => k (.tup (cutL xs lo hi))
  | .str s, lo, hi, k => s.length ≤ sizeLine ∧ k (.str (cutL s lo hi))
  | _, _, _, _ => False
theorem cutV_den {K : PySem.W.Frag} {G : Hp} {vs : List V} {ds : List D} (r : DenL K G vs ds) (lo hi : Option Int) : DenL K G (cutV vs lo hi) (cutL ds lo hi) := by
  unfold cutV cutL
  rw [r.length]
  exact (r.drop _).take _
theorem cutS_ss (s : List Nat) (lo hi : Option Int) : cutS (SS s) lo hi = SS (cutL s lo hi) := by
  unfold cutS cutL
  rw [ss_length]
theorem cutL_whole {α : Type} {xs : List α} {lo hi : Option Int} (h : HT.sIx xs.length 0 lo = 0 ∧ HT.sIx xs.length xs.length hi = xs.length) : cutL xs lo hi = xs := by
  unfold cutL
  rw [h.1, h.2]
  simp
def tpSl (t : TP) (tl th : TO') : TP := fun Γ k kx => t Γ (fun d => tl Γ (fun lo => th Γ (fun hi => fSl d lo hi k) kx) kx) kx
theorem p_slice {lo hi : Option Expr} {tlo thi : TO'} {p2 : Pos} (ha : PU X W a ta) (hl : PPart X W lo tlo) (hh : PPart X W hi thi) : PP X W (.Subscript a (.Slice lo hi none p2) pos) (tpSl ta tlo thi) := by
  obtain ⟨ea, pa, ra⟩ := ha.ex
  obtain ⟨el, pl, rl⟩ := hl.ex
  obtain ⟨eh, ph, rh⟩ := hh.ex
  refine ⟨_, pe_slice (SlR.or sl_list (SlR.or sl_str sl_tupA)) pa pl ph, fun G0 H0 Γ σ G H k kx Q F ht hk hx => ?_⟩
  refine ra G0 H0 Γ σ G H _ kx _ F ht (fun d1 v1 G1 H1 k1 x1 n1 => ?_) hx
  refine rl G0 H0 Γ σ G1 H1 _ kx _ (F.up x1) k1 (fun l G2 H2 k2 x2 => ?_) (hx.up x1)
  refine rh G0 H0 Γ σ G2 H2 _ kx _ (F.up (x1.trans x2)) k2 (fun u G3 H3 k3 x3 => ?_) (hx.up (x1.trans x2))
  have x := (x1.trans x2).trans x3
  have n := n1.up (x2.trans x3)
  cases d1 with
  | lst xs =>
    obtain ⟨a, ys, e1, h1, r1⟩ := n.lst x.sub
    refine .inl ⟨a, ys, e1, SqL.of h1, fun p hp => ?_⟩
    exact hk _ _ _ _ k3 (x.trans (Ext.new x.sub hp)) (.lst upd_same ((cutV_den r1 l u).up (same_upd (x.sub.none hp))))
  | tup xs =>
    obtain ⟨a, ys, e1, h1, r1⟩ := n.tup x.sub
    refine .inr (.inr ⟨a, ys, e1, h1, fun hw => ?_, fun hw p hp => ?_⟩)
    · have e2 : cutL xs l u = xs := cutL_whole (by rw [r1.length] at hw; exact hw)
      have k3 : k (.tup (cutL xs l u)) := k3
      rw [e2] at k3
      subst e1
      rcases n with n | ⟨_, _, _, z⟩
      · exact hk _ _ _ _ k3 x n
      · exact z.elim
    · exact hk _ _ _ _ k3 (x.trans (Ext.new x.sub hp)) (.tup (SqT.of upd_same) ((cutV_den r1 l u).up (same_upd (x.sub.none hp))))
  | str s =>
    obtain ⟨hz, k3⟩ := (show s.length ≤ sizeLine ∧ k (.str (cutL s l u)) from k3)
    refine .inr (.inl ⟨_, n.str, by rw [ss_length]; exact hz, ?_⟩)
    rw [cutS_ss]
    exact hk _ _ _ _ k3 x (.str _)
  | _ => exact k3.elim
end
end PL
set_option Elab.async false
set_option linter.all false
set_option maxRecDepth 100000
set_option maxHeartbeats 2000000
namespace PL
open PySem L2
variable [Tabl]
structure PEn where
  nx : Ga → Prop
  bk : Ga → Prop := fun _ => False
  ct : Ga → Prop := fun _ => False
  rt : D → Ga → Prop
  xx : XD → Ga → Prop
abbrev TSp := PEn → Ga → Prop
structure EOk (K : PySem.W.Frag) (W : WX) (G0 H0 : Hp) (P : PEn) (E : Ends) : Prop where
  nx : ∀ Γ σ G H, P.nx Γ → Fr K G0 H0 Γ σ G H → E.nx σ H
  bk : ∀ Γ σ G H, P.bk Γ → Fr K G0 H0 Γ σ G H → E.bk σ H
  ct : ∀ Γ σ G H, P.ct Γ → Fr K G0 H0 Γ σ G H → E.ct σ H
  rt : ∀ d v Γ σ G H, P.rt d Γ → Fr K G0 H0 Γ σ G H → Den K G v d → E.rt v H
  xx : ∀ x cls dA Γ σ G H, P.xx x Γ → Fr K G0 H0 Γ σ G H → XDen K G H cls dA x → W cls dA σ H
def RdS (K : PySem.W.Frag) (W : WX) (ts : TS) (t : TSp) : Prop := ∀ (G0 H0 : Hp) (Γ : Ga) (σ : L2.St) (G H : Hp) (P : PEn) (E : Ends), Fr K G0 H0 Γ σ G H → t P Γ → EOk K W G0 H0 P E → ts E σ H
structure PS1 (X : Cx) (W : WX) (s : Stmt) (t : TSp) : Prop where
  ex : ∃ ts, PS X s ts ∧ RdS X.K W ts t
structure PSS (X : Cx) (W : WX) (s : List Stmt) (t : TSp) : Prop where
  ex : ∃ ts, PSs X s ts ∧ RdS X.K W ts t
theorem EOk.x {K : PySem.W.Frag} {W : WX} {G0 H0 : Hp} {P : PEn} {E : Ends} (e : EOk K W G0 H0 P E) {Γ : Ga} {σ : L2.St} {G H : Hp} (F : Fr K G0 H0 Γ σ G H) : XOk K W G H σ (fun x => P.xx x Γ) :=
  fun x cls dA G' H' a b c => e.xx x cls dA Γ σ G' H' a (F.up b) c
theorem EOk.withNx {K : PySem.W.Frag} {W : WX} {G0 H0 : Hp} {P : PEn} {E : Ends} (e : EOk K W G0 H0 P E) {n : Ga → Prop} {m : L2.St → Hp → Prop} (h : ∀ Γ σ G H, n Γ → Fr K G0 H0 Γ σ G H → m σ H) :
    EOk K W G0 H0 { P with nx := n } { E with nx := m } := ⟨h, e.bk, e.ct, e.rt, e.xx⟩
theorem EOk.loop {K : PySem.W.Frag} {W : WX} {G0 H0 : Hp} {P : PEn} {E : Ends} (e : EOk K W G0 H0 P E) {n : Ga → Prop} {m : L2.St → Hp → Prop} (h : ∀ Γ σ G H, n Γ → Fr K G0 H0 Γ σ G H → m σ H) :
    EOk K W G0 H0 { P with nx := n, ct := n, bk := P.nx } { E with nx := m, ct := m, bk := E.nx } := ⟨h, e.nx, h, e.rt, e.xx⟩
section
variable {K : PySem.W.Frag} {G0 H0 G H : Hp} {Γ : Ga} {σ : L2.St}
theorem Fr.set (F : Fr K G0 H0 Γ σ G H) {v : V} {d : D} (i : Nat) (r : Den K G v d) : Fr K G0 H0 (gset Γ i (.pu d)) (σ.set i (some v)) G H := by
  rw [gset_eq]
  refine ⟨by rw [List.length_set, List.length_set]; exact F.len, F.e, fun j s h => ?_, fun a b p s t h1 h2 h3 h4 h5 h6 => ?_⟩
  · by_cases hj : i = j
    · subst hj
      have hl : i < Γ.length := by
        have := (List.getElem?_eq_some_iff.mp h).1
        rw [List.length_set] at this
        exact this
      rw [List.getElem?_set_self hl] at h
      cases h
      exact ⟨v, by rw [List.getElem?_set_self (by rw [F.len]; exact hl)], r⟩
    · rw [List.getElem?_set_ne hj] at h ⊢
      exact F.at_ j s h
  · have ha : a ≠ i := fun z => by
      subst z
      have hl : a < Γ.length := by
        have := (List.getElem?_eq_some_iff.mp h1).1
        rw [List.length_set] at this
        exact this
      rw [List.getElem?_set_self hl] at h1
      cases h1
      exact h2
    have hb : b ≠ i := fun z => by
      subst z
      have hl : b < Γ.length := by
        have := (List.getElem?_eq_some_iff.mp h3).1
        rw [List.length_set] at this
        exact this
      rw [List.getElem?_set_self hl] at h3
      cases h3
      exact h4
    rw [List.getElem?_set_ne (Ne.symm ha)] at h1 h5
    rw [List.getElem?_set_ne (Ne.symm hb)] at h3 h6
    exact F.dj a b p s t h1 h2 h3 h4 h5 h6
theorem OwnAt.upd {K : PySem.W.Frag} {H0 G H : Hp} {p q : Addr} {d : D} {o u : HO} (h : OwnAt K H0 G H q d) (n : q ≠ p) (hp : H p = some u) (hu : MutO u) : OwnAt K H0 G (upd H p o) q d := by
  cases d with
  | lst ds => obtain ⟨xs, h1, h2⟩ := h; exact ⟨xs, by rw [upd_ne n]; exact h1, h2⟩
  | dct ks => obtain ⟨xs, h1, h2⟩ := h; exact ⟨xs, by rw [upd_ne n]; exact h1, h2⟩
  | ins C fs =>
    obtain ⟨dx, fvs, h1, h2, h3⟩ := h
    have nd : dx ≠ p := fun z => by
      subst z
      rw [hp] at h2
      cases h2
      exact hu
    exact ⟨dx, fvs, by rw [upd_ne n]; exact h1, by rw [upd_ne nd]; exact h2, h3⟩
  | _ => exact h.elim
theorem tab_upd {p P : Addr} {q : PySem.Str} {o u : HO} (t : LamX.TabS H P q) (hp : H p = some u) (hu : MutO u) : LamX.TabS (L2.upd H p o) P q := by
  obtain ⟨ps, h1, h2, h3⟩ := t
  have ne : ∀ {a : Addr} {v : HO}, H a = some v → ¬ MutO v → a ≠ p := fun {a v} e n z => by
    rw [z, hp] at e
    cases e
    exact n hu
  refine ⟨ps, by rw [upd_ne (ne h1 fun z => z)]; exact h1, h2, fun pos cv hc => ?_⟩
  obtain ⟨c, e1, e2⟩ := h3 pos cv hc
  exact ⟨c, e1, by rw [upd_ne (ne e2 fun z => z)]; exact e2⟩
theorem SlOk.upd {p : Addr} {o u : HO} {ov : Option (Option V)} {s : Sl} (h : SlOk K H0 G H ov s) (n : s.owns → ov ≠ some (some (.ref p))) (hp : H p = some u) (hu : MutO u) : SlOk K H0 G (L2.upd H p o) ov s := by
  cases s with
  | un => trivial
  | pu d => exact h
  | ow d =>
    obtain ⟨q, e, g, h0, r⟩ := h
    have nq : q ≠ p := fun z => n trivial (by rw [e, z])
    exact ⟨q, e, g, h0, r.upd nq hp hu⟩
  | lk q v d =>
    obtain ⟨e, g, h0, hq, r⟩ := h
    have nq : q ≠ p := fun z => n trivial (by rw [e, z])
    exact ⟨e, g, h0, by rw [upd_ne nq]; exact hq, r.upd nq hp hu⟩
  | pw q d =>
    obtain ⟨e, g, h0, r⟩ := h
    have nq : q ≠ p := fun z => n trivial (by rw [e, z])
    exact ⟨e, g, h0, r.upd nq hp hu⟩
  | kp v c w Gx =>
    obtain ⟨e, h1, h2, h3⟩ := h
    have nc : c ≠ p := fun z => by
      rw [z, hp] at h1
      cases h1
      exact h2 hu
    exact ⟨e, by rw [upd_ne nc]; exact h1, h2, h3⟩
  | xv a cls dA fs =>
    obtain ⟨e, h1⟩ := h
    refine ⟨e, ?_⟩
    rcases h1 with h1 | ⟨q, fvs, h1, h2, h3⟩
    · exact .inl h1
    · refine .inr ⟨q, fvs, h1, ?_, h3⟩
      rw [upd_ne (fun z => by
        rw [z, hp] at h2
        cases h2
        exact hu)]
      exact h2
  | pf d l Gx =>
    obtain ⟨h0, h1, h2⟩ := h
    refine ⟨h0, fun q hq => ⟨?_, (h1 q hq).2⟩, h2⟩
    rw [upd_ne (fun z => by
      have e := (h1 q hq).1
      rw [z, hp] at e
      exact (h1 q hq).2.1 (Option.some.inj e ▸ hu))]
    exact (h1 q hq).1
theorem gset_gat {Γ : Ga} {i : Nat} {s t : Sl} (h : Γ[i]? = some s) : (gset Γ i t)[i]? = some t := by
  rw [gset_eq]
  exact List.getElem?_set_self (List.getElem?_eq_some_iff.mp h).1
/-- an own object is changed -/
theorem Fr.mut (F : Fr K G0 H0 Γ σ G H) {i : Nat} {sl : Sl} {d d' : D} {p : Addr} {o u : HO} (hs : Γ[i]? = some sl) (ht : sl.og = some d) (e : σ[i]? = some (some (.ref p))) (g : G p = none) (h0 : H0 p = none) (hp : H p = some u) (hu : MutO u)
    (new : OwnAt K H0 G (upd H p o) p d') : Fr K G0 H0 (gset Γ i (sl.op d')) σ G (upd H p o) := by
  have tow : sl.owns := by
    cases sl <;> first | trivial | cases ht
  have len := F.len
  refine ⟨by rw [gset_eq, List.length_set]; exact len, ⟨⟨fun a x q n => ?_, fun a x q => ?_, fun t q hq => tab_upd (F.sub.tb q hq) hp hu⟩, F.e.g, fun a h ⟨x, q⟩ => F.e.nw a h ⟨x, q⟩, ⟨fun a x q => ?_, F.sub.nt, fun q hq => tab_upd (F.sub.tb q hq) hp hu⟩⟩, fun j s h => ?_, fun a b q s t h1 h2 h3 h4 h5 h6 => ?_⟩
  · rw [upd_ne (ne_of_none q h0)]
    exact F.e.h.k _ _ q n
  · rw [upd_ne (ne_of_none q h0)]
    exact F.e.h.t _ _ q
  · rw [upd_ne (ne_of_none q g)]
    exact F.sub.m a x q
  · by_cases hj : i = j
    · subst hj
      rw [gset_gat hs] at h
      cases h
      cases sl with
      | pw q d2 =>
        have q2 := F.at_ i _ hs
        obtain ⟨e2, _⟩ := q2
        rw [e] at e2
        cases e2
        exact ⟨e, g, h0, new⟩
      | _ => exact ⟨p, e, g, h0, new⟩
    · rw [gset_eq, List.getElem?_set_ne hj] at h
      refine (F.at_ j s h).upd (fun ow z => hj ?_) hp hu
      exact F.dj i j p sl s hs tow h ow e z
  · have f : ∀ (a : Nat) (s : Sl), (gset Γ i (sl.op d'))[a]? = some s → s.owns → ∃ s', Γ[a]? = some s' ∧ s'.owns := fun a s h1 h2 => by
      by_cases ha : i = a
      · subst ha
        exact ⟨_, hs, tow⟩
      · rw [gset_eq, List.getElem?_set_ne ha] at h1
        exact ⟨s, h1, h2⟩
    obtain ⟨s', g1, g2⟩ := f a s h1 h2
    obtain ⟨t', g3, g4⟩ := f b t h3 h4
    exact F.dj a b q s' t' g1 g2 g3 g4 h5 h6
/-- a new own object -/
theorem Fr.own (F : Fr K G0 H0 Γ σ G H) {d : D} {p : Addr} {o : HO} (i : Nat) (hn : H p = none) (new : OwnAt K H0 G (upd H p o) p d) : Fr K G0 H0 (gset Γ i (.ow d)) (σ.set i (some (.ref p))) G (upd H p o) := by
  have hg := F.sub.none hn
  have h0 : H0 p = none := F.e.h.free hn
  have so : ∀ (j : Nat) (s : Sl), Γ[j]? = some s → SlOk K H0 G (L2.upd H p o) (σ[j]?) s := fun j s h => by
    have q := F.at_ j s h
    cases s with
    | un => trivial
    | pu d => exact q
    | ow e =>
      obtain ⟨a, e1, g1, h1, r⟩ := q
      refine ⟨a, e1, g1, h1, ?_⟩
      exact r.up (Ext.beside F.sub hn)
    | lk a v e =>
      obtain ⟨e1, g1, h1, q1, r⟩ := q
      refine ⟨e1, g1, h1, by rw [upd_ne (ne_of_none q1 hn)]; exact q1, ?_⟩
      exact r.up (Ext.beside F.sub hn)
    | pw a e =>
      obtain ⟨e1, g1, h1, r⟩ := q
      refine ⟨e1, g1, h1, ?_⟩
      exact r.up (Ext.beside F.sub hn)
    | kp v c w Gx => exact SlOk.up (G := G) (s := .kp v c w Gx) q (Ext.beside F.sub hn)
    | xv a cls dA fs => exact SlOk.up (G := G) (s := .xv a cls dA fs) q (Ext.beside F.sub hn)
    | pf d l Gx => exact SlOk.up (G := G) (s := .pf d l Gx) q (Ext.beside F.sub hn)
  have apart : ∀ (j : Nat) (s : Sl), Γ[j]? = some s → s.owns → σ[j]? ≠ some (some (.ref p)) := fun j s h ow z => by
    have q := F.at_ j s h
    cases s with
    | un => exact ow
    | pu d => exact ow
    | kp v c w Gx => exact ow
    | xv a cls dA fs => exact ow
    | pf d l Gx => exact ow
    | ow e =>
      obtain ⟨a, e1, g1, h1, r⟩ := q
      rw [e1] at z
      cases z
      obtain ⟨_, y⟩ := r.there
      rw [hn] at y
      cases y
    | lk a v e =>
      obtain ⟨e1, g1, h1, q1, r⟩ := q
      rw [e1] at z
      cases z
      rw [hn] at q1
      cases q1
    | pw a e =>
      obtain ⟨e1, g1, h1, r⟩ := q
      rw [e1] at z
      cases z
      obtain ⟨_, y⟩ := r.there
      rw [hn] at y
      cases y
  refine ⟨by rw [gset_eq, List.length_set, List.length_set]; exact F.len, ⟨F.e.h.trans (.of (same_upd hn)), F.e.g, F.e.nw, F.sub.up (same_upd hn)⟩, fun j s h => ?_, fun a b q s t h1 h2 h3 h4 h5 h6 => ?_⟩
  · rw [gset_eq] at h
    by_cases hj : i = j
    · subst hj
      have hl : i < Γ.length := by
        have := (List.getElem?_eq_some_iff.mp h).1
        rw [List.length_set] at this
        exact this
      rw [List.getElem?_set_self hl] at h
      cases h
      exact ⟨p, by rw [List.getElem?_set_self (by rw [F.len]; exact hl)], hg, h0, new⟩
    · rw [List.getElem?_set_ne hj] at h ⊢
      exact so j s h
  · rw [gset_eq] at h1 h3
    by_cases ha : i = a
    · by_cases hb : i = b
      · exact ha.symm.trans hb
      · exfalso
        subst ha
        rw [List.getElem?_set_ne hb] at h3 h6
        have hl : i < σ.length := by
          have := (List.getElem?_eq_some_iff.mp h5).1
          rw [List.length_set] at this
          exact this
        rw [List.getElem?_set_self hl] at h5
        cases h5
        exact apart b t h3 h4 h6
    · by_cases hb : i = b
      · exfalso
        subst hb
        rw [List.getElem?_set_ne ha] at h1 h5
        have hl : i < σ.length := by
          have := (List.getElem?_eq_some_iff.mp h6).1
          rw [List.length_set] at this
          exact this
        rw [List.getElem?_set_self hl] at h6
        cases h6
        exact apart a s h1 h2 h5
      · rw [List.getElem?_set_ne ha] at h1 h5
        rw [List.getElem?_set_ne hb] at h3 h6
        exact F.dj a b q s t h1 h2 h3 h4 h5 h6
end
section
variable {X : Cx} {W : WX} {e a b c : Expr} {es : List Expr} {t ta tb tc : TP} {tl : TL} {tt tu : TB} {pos : Pos} {st : Stmt} {rest body els : List Stmt} {s u v : TSp}
def tsNext : TSp := fun P Γ => P.nx Γ
def tsSeq (s u : TSp) : TSp := fun P Γ => s { P with nx := u P } Γ
theorem ss_nil : PSS X W [] tsNext := ⟨_, pss_nil, fun G0 H0 Γ σ G H P E F ht ok => ok.nx Γ σ G H ht F⟩
theorem ss_cons (h1 : PS1 X W st s) (h2 : PSS X W rest u) : PSS X W (st :: rest) (tsSeq s u) := by
  obtain ⟨t1, p1, r1⟩ := h1.ex
  obtain ⟨t2, p2, r2⟩ := h2.ex
  refine ⟨_, pss_cons p1 p2, fun G0 H0 Γ σ G H P E F ht ok => ?_⟩
  exact r1 G0 H0 Γ σ G H { P with nx := u P } { E with nx := t2 E } F ht (ok.withNx fun Γ' σ' G' H' n F' => r2 G0 H0 Γ' σ' G' H' P E F' n ok)
theorem ss_one (h1 : PS1 X W st s) : PSS X W [st] s := by
  obtain ⟨t1, p1, r1⟩ := h1.ex
  exact ⟨_, pss_one p1, r1⟩
def tsCont : TSp := fun P Γ => P.ct Γ
theorem s_cont : PS1 X W (.Continue pos) tsCont := ⟨_, ps_continue, fun G0 H0 Γ σ G H P E F ht ok => ok.ct Γ σ G H ht F⟩
def tsDrop (t : TP) : TSp := fun P Γ => t Γ (fun _ => P.nx Γ) (fun x => P.xx x Γ)
theorem s_expr (h : PU X W e t) (hs : swapsWith e none pos.line X.env = pure false := by rfl) : PS1 X W (.Expr e pos) (tsDrop t) := by
  obtain ⟨ea, pa, ra⟩ := h.ex
  refine ⟨_, ps_expr pa hs, fun G0 H0 Γ σ G H P E F ht ok => ?_⟩
  exact ra G0 H0 Γ σ G H _ _ _ F ht (fun d v G' H' k x n => ok.nx Γ σ G' H' k (F.up x)) (ok.x F)
def tsRet (t : TP) : TSp := fun P Γ => t Γ (fun d => P.rt d Γ) (fun x => P.xx x Γ)
theorem s_ret (h : PP X W e t) : PS1 X W (.Return (some e) pos) (tsRet t) := by
  obtain ⟨ea, pa, ra⟩ := h.ex
  refine ⟨_, ps_ret pa, fun G0 H0 Γ σ G H P E F ht ok => ?_⟩
  exact ra G0 H0 Γ σ G H _ _ _ F ht (fun d v G' H' k x n => ok.rt d v Γ σ G' H' k (F.up x) n) (ok.x F)
theorem Ext.thaw {G H : Hp} (s : Sub G H) {G0 H0 : Hp} {p : Addr} {o : HO} (e : Ext G0 H0 G H) (h0 : H0 p = none) (g : G p = none) (hp : H p = some o) (n : NT o := by intro _ z; cases z) : Ext G0 H0 (upd G p o) H := by
  refine ⟨e.h, e.g.trans (same_upd g), fun a q ⟨u, z⟩ => ?_, ⟨fun a u q => ?_, fun a u q => ?_, s.tb⟩⟩
  · rw [upd_ne (ne_of_none z h0)]
    exact e.nw a q ⟨u, z⟩
  · by_cases z : a = p
    · subst z
      rw [upd_same] at q
      cases q
      exact .inl hp
    · rw [upd_ne z] at q
      exact s.m a u q
  · by_cases z : a = p
    · subst z
      rw [upd_same] at q
      cases q
      exact n
    · rw [upd_ne z] at q
      exact s.nt a u q
def tsIf (c : TB) (s u : TSp) : TSp := fun P Γ => c Γ (fun b => if b = true then s P Γ else u P Γ) (fun x => P.xx x Γ)
theorem s_if (hc : PB X W c tt) (ha : PSS X W body s) (hb : PSS X W els u) : PS1 X W (.If c body els pos) (tsIf tt s u) := by
  obtain ⟨ec, pc, rc⟩ := hc.ex
  obtain ⟨ea, pa, ra⟩ := ha.ex
  obtain ⟨eb, pb, rb⟩ := hb.ex
  refine ⟨_, ps_if pc pa pb, fun G0 H0 Γ σ G H P E F ht ok => ?_⟩
  refine rc G0 H0 Γ σ G H _ _ _ F ht (fun c G1 H1 k1 x1 => ?_) (ok.x F)
  cases c with
  | true => exact ra G0 H0 Γ σ G1 H1 P E (F.up x1) k1 ok
  | false => exact rb G0 H0 Γ σ G1 H1 P E (F.up x1) k1 ok
def tsSet (i : Nat) (t : TP) : TSp := fun P Γ => t Γ (fun d => P.nx (gset Γ i (.pu d))) (fun x => P.xx x Γ)
theorem rd_set {te : TE} (i : Nat) (h : RdP X.K W te t) : RdS X.K W (tAsg te (gName i)) (tsSet i t) := by
  intro G0 H0 Γ σ G H P E F ht ok
  exact h G0 H0 Γ σ G H _ _ _ F ht (fun d v G' H' k x n => ok.nx _ _ G' H' k ((F.up x).set i n)) (ok.x F)
theorem s_set (i : Nat) {x : PySem.Str} {p2 : Pos} (h : PP X W e t) (nd : X.N.Nodup) (hi : X.N[i]? = some x := by rfl) (hx : Loc X.env.scope x := by first | exact Or.inl rfl | exact Or.inr rfl)
    (hf : X.fn x = true ∨ X.env.scope.names.lookup x = some .local := by first | exact .inl rfl | exact .inr rfl) (hs : swapsWith e (some (.Name x p2)) pos.line X.env = pure false := by rfl) : PS1 X W (.Assign [.Name x p2] e pos) (tsSet i t) := by
  obtain ⟨ea, pa, ra⟩ := h.ex
  exact ⟨_, ps_set nd hi hx pa hs hf, rd_set i ra⟩
/-- a new list (dict) that is the frame's own from now on -/
def RdNew (K : PySem.W.Frag) (W : WX) (te : TE) (t : TP) : Prop := ∀ (G0 H0 : Hp) (Γ : Ga) (σ : L2.St) (G H : Hp) (k : KD) (kx : KX) (Q : VK), Fr K G0 H0 Γ σ G H → t Γ k kx →
  (∀ d G' H' p o, k d → Ext G H G' H' → H' p = none → OwnAt K H0 G' (upd H' p o) p d → Q (.ref p) (upd H' p o)) → XOk K W G H σ kx → te σ H Q
structure PN (X : Cx) (W : WX) (e : Expr) (t : TP) : Prop where
  ex : ∃ te, PE X e te ∧ RdNew X.K W te t
def tsOwn (i : Nat) (t : TP) : TSp := fun P Γ => t Γ (fun d => P.nx (gset Γ i (.ow d))) (fun x => P.xx x Γ)
theorem rd_own {te : TE} (i : Nat) (h : RdNew X.K W te t) : RdS X.K W (tAsg te (gName i)) (tsOwn i t) := by
  intro G0 H0 Γ σ G H P E F ht ok
  exact h G0 H0 Γ σ G H _ _ _ F ht (fun d G' H' p o k x hn r => ok.nx _ _ G' _ k ((F.up x).own i hn r)) (ok.x F)
theorem s_own (i : Nat) {x : PySem.Str} {p2 : Pos} (h : PN X W e t) (nd : X.N.Nodup) (hi : X.N[i]? = some x := by rfl) (hx : Loc X.env.scope x := by first | exact Or.inl rfl | exact Or.inr rfl)
    (hf : X.fn x = true ∨ X.env.scope.names.lookup x = some .local := by first | exact .inl rfl | exact .inr rfl) (hs : swapsWith e (some (.Name x p2)) pos.line X.env = pure false := by rfl) : PS1 X W (.Assign [.Name x p2] e pos) (tsOwn i t) := by
  obtain ⟨ea, pa, ra⟩ := h.ex
  exact ⟨_, ps_set nd hi hx pa hs hf, rd_own i ra⟩
/-- an own list, what is done with it -/
def onOL (Γ : Ga) (i : Nat) (k : List D → Prop) : Prop := match (gat Γ i).og with
  | some (.lst ds) => k ds
  | _ => False
def oput (Γ : Ga) (i : Nat) (d : D) : Ga := gset Γ i ((gat Γ i).op d)
theorem sz5' {n : Nat} (h : n < 100000) : n < sizeLine := Nat.lt_of_lt_of_le h (by decide)
theorem onOL_elim {Γ : Ga} {i : Nat} {k : List D → Prop} (h : onOL Γ i k) : ∃ ds, (gat Γ i).og = some (.lst ds) ∧ k ds := by
  unfold onOL at h
  cases e : (gat Γ i).og with
  | none => simp only [e] at h
  | some d =>
    cases d with
    | lst ds =>
      simp only [e] at h
      exact ⟨ds, rfl, h⟩
    | _ => simp only [e] at h
theorem own_at {K : PySem.W.Frag} {G0 H0 G H : Hp} {Γ : Ga} {σ : L2.St} (F : Fr K G0 H0 Γ σ G H) {i : Nat} {d : D} (h : (gat Γ i).og = some d) : Γ[i]? = some (gat Γ i) ∧ ∃ p, σ[i]? = some (some (.ref p)) ∧ G p = none ∧ H0 p = none ∧ OwnAt K H0 G H p d := by
  cases e : gat Γ i with
  | ow d2 =>
    rw [e] at h
    cases h
    have k := gat_get Γ i _ e (by simp)
    exact ⟨k, F.at_ i _ k⟩
  | pw p d2 =>
    rw [e] at h
    cases h
    have k := gat_get Γ i _ e (by simp)
    exact ⟨k, p, F.at_ i _ k⟩
  | _ =>
    rw [e] at h
    cases h
theorem Ext.back {G0 H0 G H G' H' : Hp} (a : Ext G0 H0 G H) (b : Ext G H0 G' H') : Ext G0 H0 G' H' :=
  ⟨b.h, a.g.trans b.g, fun x h q => b.nw x (a.nw x h q) q, b.sub⟩
theorem Fr.rebase {K : PySem.W.Frag} {G0 H0 G H : Hp} {Γ : Ga} {σ : L2.St} (F : Fr K G0 H0 Γ σ G H) : Fr K G H0 Γ σ G H :=
  ⟨F.len, ⟨F.e.h, Same.refl G, fun _ h _ => h, F.sub⟩, F.at_, F.dj⟩
theorem Fr.back {K : PySem.W.Frag} {G0 H0 G H G' H' : Hp} {Γ : Ga} {σ : L2.St} (a : Ext G0 H0 G H) (F : Fr K G H0 Γ σ G' H') : Fr K G0 H0 Γ σ G' H' :=
  ⟨F.len, a.back F.e, F.at_, F.dj⟩
theorem EOk.rebase {K : PySem.W.Frag} {W : WX} {G0 H0 G H : Hp} {P : PEn} {E : Ends} (ok : EOk K W G0 H0 P E) (a : Ext G0 H0 G H) : EOk K W G H0 P E :=
  ⟨fun Γ σ G' H' p F => ok.nx Γ σ G' H' p (F.back a), fun Γ σ G' H' p F => ok.bk Γ σ G' H' p (F.back a), fun Γ σ G' H' p F => ok.ct Γ σ G' H' p (F.back a), fun d v Γ σ G' H' p F n => ok.rt d v Γ σ G' H' p (F.back a) n,
    fun x cls dA Γ σ G' H' p F n => ok.xx x cls dA Γ σ G' H' p (F.back a) n⟩
/-- J yields the items ds as long as ok holds -/
structure Wk (K : PySem.W.Frag) (J : It) (ds : List D) (ok : Hp → Hp → Prop) : Prop where
  go : ∀ i G H, i < ds.length → ok G H → Sub G H → J.go i H
  yl : ∀ i G H x H', i < ds.length → ok G H → Sub G H → J.yld i H x H' → ∃ d G', ds[i]? = some d ∧ Ext G H G' H' ∧ Den K G' x d
  st : ∀ G H, ok G H → Sub G H → J.stop ds.length H
def RdI (K : PySem.W.Frag) (W : WX) (wi : TI) (t : TL) : Prop := ∀ (G0 H0 : Hp) (Γ : Ga) (σ : L2.St) (G H : Hp) (k : List D → Prop) (kx : KX) (R : It → Hp → Prop), Fr K G0 H0 Γ σ G H → t Γ k kx →
  (∀ ds J G' H', k ds → Ext G H G' H' → Wk K J ds (fun G2 _ => Same G' G2) → R J H') → XOk K W G H σ kx → wi σ H R
structure PIt (X : Cx) (W : WX) (tg iter : Expr) (t : TL) : Prop where
  ex : ∃ wi, PI X tg iter wi ∧ RdI X.K W wi t
abbrev TGp := D → Ga → (Ga → Prop) → Prop
def RdG (K : PySem.W.Frag) (is : List Nat) (g : TG) (t : TGp) : Prop := ∀ (G0 H0 : Hp) (Γ : Ga) (σ : L2.St) (G H : Hp) (d : D) (v : V) (k : Ga → Prop) (Q : L2.St → Hp → Prop), Fr K G0 H0 Γ σ G H → Den K G v d → t d Γ k →
  (∀ Γ' σ', k Γ' → Fr K G0 H0 Γ' σ' G H → wipe σ' is = wipe σ is → Q σ' H) → g v σ H Q
/-- is: the slots that the target stores -/
structure PGt (X : Cx) (tg : Expr) (is : List Nat) (t : TGp) : Prop where
  ex : ∃ g, PG X tg g ∧ RdG X.K is g t
theorem wipe_comm (σ : L2.St) (i : Nat) (v : Option V) : ∀ vs : List Nat, i ∈ vs → wipe (σ.set i v) vs = wipe σ vs
  | j :: r, h => by
    show (wipe (σ.set i v) r).set j none = (wipe σ r).set j none
    by_cases hr : i ∈ r
    · rw [wipe_comm σ i v r hr]
    · have e : i = j := by
        rcases List.mem_cons.mp h with h | h
        · exact h
        · exact absurd h hr
      subst e
      have q : ∀ r : List Nat, i ∉ r → wipe (σ.set i v) r = (wipe σ r).set i v := fun r => by
        induction r with
        | nil => intro _; rfl
        | cons k r ih =>
          intro h
          show (wipe (σ.set i v) r).set k none = ((wipe σ r).set k none).set i v
          rw [ih (fun z => h (List.mem_cons_of_mem _ z)), List.set_comm _ _ (fun z => h (by rw [z]; exact List.mem_cons_self))]
      rw [q r hr, List.set_set]
def tgName (i : Nat) : TGp := fun d Γ k => k (gset Γ i (.pu d))
theorem g_name (i : Nat) {x : PySem.Str} (nd : X.N.Nodup) (hi : X.N[i]? = some x := by rfl) (hx : Loc X.env.scope x := by first | exact Or.inl rfl | exact Or.inr rfl)
    (hf : X.fn x = true ∨ X.env.scope.names.lookup x = some .local := by first | exact .inl rfl | exact .inr rfl) : PGt X (.Name x pos) [i] (tgName i) :=
  ⟨_, pg_name nd hi hx hf, fun G0 H0 Γ σ G H d v k Q F n ht hk => hk _ _ ht (F.set i n) (wipe_comm σ i _ [i] List.mem_cons_self)⟩
def forW (g : TGp) (b : TSp) (P : PEn) : List D → Ga → Prop
  | [], Γ => P.nx Γ
  | d :: r, Γ => g d Γ fun Γ1 => b { P with nx := forW g b P r, ct := forW g b P r, bk := P.nx } Γ1
def tsFor (ti : TL) (g : TGp) (b : TSp) : TSp := fun P Γ => ti Γ (fun ds => forW g b P ds Γ) (fun x => P.xx x Γ)
theorem rd_for {wi : TI} {g : TG} {tb : TS} {ti : TL} {gp : TGp} {bp : TSp} {is : List Nat} (hi : RdI X.K W wi ti) (hg : RdG X.K is g gp) (hb : RdS X.K W tb bp) : RdS X.K W (tFor wi g tb) (tsFor ti gp bp) := by
  intro G0 H0 Γ σ G H P E F ht ok
  refine hi G0 H0 Γ σ G H _ _ _ F ht (fun ds J G1 H1 k x w => ?_) (ok.x F)
  refine ⟨fun i m σ' H' => ∃ Γ' G', m = ds.length - i ∧ i ≤ ds.length ∧ Fr X.K G0 H0 Γ' σ' G' H' ∧ Same G1 G' ∧ forW gp bp P (ds.drop i) Γ', ⟨ds.length, Γ, G1, by simp, Nat.zero_le _, F.up x, Same.refl _, k⟩, ?_⟩
  rintro i m σ2 H2 ⟨Γ2, G2, rfl, hi, F2, s2, k2⟩
  by_cases hlt : i < ds.length
  · refine .inr ⟨w.go i G2 H2 hlt s2 F2.sub, fun σ' H' => ∃ Γ' G', Fr X.K G0 H0 Γ' σ' G' H' ∧ Same G1 G' ∧ forW gp bp P (ds.drop (i + 1)) Γ', fun σ' H' ⟨Γ', G', a, b, c⟩ => ⟨ds.length - (i + 1), by omega, Γ', G', rfl, hlt, a, b, c⟩, fun v H3 y => ?_⟩
    obtain ⟨d, G3, hd, x3, n3⟩ := w.yl i G2 H2 v H3 hlt s2 F2.sub y
    have F3 := F2.up x3
    have e : ds.drop i = d :: ds.drop (i + 1) := by
      rw [List.drop_eq_getElem_cons hlt]
      congr 1
      have := List.getElem?_eq_getElem hlt
      rw [hd] at this
      exact (Option.some.inj this).symm
    rw [e] at k2
    refine hg G0 H0 Γ2 σ2 G3 H3 d v _ _ F3 n3 k2 fun Γ4 σ4 k4 F4 _ => ?_
    refine hb G3 H0 Γ4 σ4 G3 H3 _ _ F4.rebase k4 ((ok.rebase F3.e).loop fun Γ5 σ5 G5 H5 n5 F5 => ?_)
    exact ⟨Γ5, G5, F5.back F3.e, (s2.trans x3.g).trans F5.e.g, n5⟩
  · have e : i = ds.length := by omega
    subst e
    refine .inl ⟨w.st G2 H2 s2 F2.sub, ?_⟩
    rw [List.drop_length] at k2
    exact ok.nx _ _ _ _ k2 F2
theorem s_for {tg iter : Expr} {ti : TL} {gp : TGp} {is : List Nat} (hp : PassesOwn (model X.prog X.w) X.A X.env X.xe) (hc : X.calm = true) (hi : PIt X W tg iter ti) (hg : PGt X tg is gp) (hb : PSS X W body s) (hs : ∀ x, foldedSetIterable iter X.env x = pure x := by intro _; rfl) : PS1 X W (.For tg iter body [] pos) (tsFor ti gp s) := by
  obtain ⟨wi, pi, ri⟩ := hi.ex
  obtain ⟨g, pg, rg⟩ := hg.ex
  obtain ⟨tb, pb, rb⟩ := hb.ex
  exact ⟨_, ps_for hp hc pi pg pb (hs := hs), rd_for ri rg rb⟩
/-- the items of a list, a tuple, the signs of a text -/
def items : D → Option (List D)
  | .lst xs => some xs
  | .tup xs => some xs
  | .str s => some (s.map fun c => .str [c])
  | _ => none
def tiLst (t : TP) : TL := fun Γ k kx => t Γ (fun d => match d with | .lst xs => k xs | _ => False) kx
def tiTup (t : TP) : TL := fun Γ k kx => t Γ (fun d => match d with | .tup xs => k xs | _ => False) kx
def tiStr (t : TP) : TL := fun Γ k kx => t Γ (fun d => match d with | .str s => k (s.map fun c => .str [c]) | _ => False) kx
theorem i_lst {tg : Expr} (h : PP X W e t) : PIt X W tg e (tiLst t) := by
  obtain ⟨ea, pa, ra⟩ := h.ex
  refine ⟨_, pi_list pa, fun G0 H0 Γ σ G H k kx R F ht hk hx => ?_⟩
  refine ra G0 H0 Γ σ G H _ kx _ F ht (fun d v G1 H1 k1 x1 n1 => ?_) hx
  cases d with
  | lst xs =>
    cases n1 with
    | @lst a vs _ h1 h2 =>
      refine ⟨a, rfl, ⟨vs, SqL.of (x1.sub.at_ h1 (fun z => z))⟩, hk xs _ G1 H1 k1 x1 ⟨fun i G2 H2 hi s2 sb => ?_, fun i G2 H2 v H3 hi s2 sb y => ?_, fun G2 H2 s2 sb => ?_⟩⟩
      · have q := sb.at_ (s2 _ _ h1) (fun z => z)
        obtain ⟨v, hv, _⟩ := h2.get (List.getElem?_eq_getElem hi)
        exact ⟨vs, v, SqL.of q, hv⟩
      · have q := sb.at_ (s2 _ _ h1) (fun z => z)
        obtain ⟨rfl, y⟩ := y
        obtain ⟨d, hd, n⟩ := h2.gv (y vs (SqL.of q))
        exact ⟨d, G2, hd, Ext.refl sb, n.up s2⟩
      · have q := sb.at_ (s2 _ _ h1) (fun z => z)
        exact ⟨vs, SqL.of q, by rw [h2.length]; exact Nat.le_refl _⟩
  | _ => exact k1.elim
theorem i_tup {tg : Expr} (h : PP X W e t) : PIt X W tg e (tiTup t) := by
  obtain ⟨ea, pa, ra⟩ := h.ex
  refine ⟨_, pi_tup pa, fun G0 H0 Γ σ G H k kx R F ht hk hx => ?_⟩
  refine ra G0 H0 Γ σ G H _ kx _ F ht (fun d v G1 H1 k1 x1 n1 => ?_) hx
  cases d with
  | tup xs =>
    cases n1 with
    | @tup a vs _ h1 h2 =>
      refine ⟨a, rfl, ⟨vs, x1.sub.sqt h1⟩, hk xs _ G1 H1 k1 x1 ⟨fun i G2 H2 hi s2 sb => ?_, fun i G2 H2 v H3 hi s2 sb y => ?_, fun G2 H2 s2 sb => ?_⟩⟩
      · have q := sb.sqt (sqt_same s2 h1)
        obtain ⟨v, hv, _⟩ := h2.get (List.getElem?_eq_getElem hi)
        exact ⟨vs, v, q, hv⟩
      · have q := sb.sqt (sqt_same s2 h1)
        obtain ⟨rfl, y⟩ := y
        obtain ⟨d, hd, n⟩ := h2.gv (y vs q)
        exact ⟨d, G2, hd, Ext.refl sb, n.up s2⟩
      · have q := sb.sqt (sqt_same s2 h1)
        exact ⟨vs, q, by rw [h2.length]; exact Nat.le_refl _⟩
  | _ => exact k1.elim
theorem i_str {tg : Expr} (h : PP X W e t) : PIt X W tg e (tiStr t) := by
  obtain ⟨ea, pa, ra⟩ := h.ex
  refine ⟨_, pi_str pa, fun G0 H0 Γ σ G H k kx R F ht hk hx => ?_⟩
  refine ra G0 H0 Γ σ G H _ kx _ F ht (fun d v G1 H1 k1 x1 n1 => ?_) hx
  cases d with
  | str s =>
    cases n1
    refine ⟨SS s, rfl, hk _ _ G1 H1 k1 x1 ⟨fun i G2 H2 hi s2 sb => ?_, fun i G2 H2 v H3 hi s2 sb y => ?_, fun G2 H2 s2 sb => ?_⟩⟩
    · show i < (SS s).cps.size
      rw [List.length_map] at hi
      simpa [SS] using hi
    · obtain ⟨rfl, c, hc, rfl⟩ := y
      have hc : s[i]? = some c := by simpa [SS] using hc
      exact ⟨.str [c], G2, by rw [List.getElem?_map, hc]; rfl, Ext.refl sb, .str [c]⟩
    · show (SS s).cps.size ≤ _
      rw [List.length_map]
      simp [SS]
  | _ => exact k1.elim
/-- range(n), range(a, b) -/
def tiRng1 (t : TL) : TL := fun Γ k kx => t Γ (fun ds => match ds with
  | [.int n] => (-(2 ^ 62) ≤ n ∧ n < 2 ^ 62) ∧ k ((List.range n.toNat).map fun i => .int (i : Nat))
  | _ => False) kx
def tiRng2 (t : TL) : TL := fun Γ k kx => t Γ (fun ds => match ds with
  | [.int a, .int b] => (-(2 ^ 62) ≤ a ∧ a < 2 ^ 62 ∧ -(2 ^ 62) ≤ b ∧ b < 2 ^ 62) ∧ k ((List.range (b - a).toNat).map fun i => .int (a + (i : Nat)))
  | _ => False) kx
theorem wk_rng {K : PySem.W.Frag} {a : Int} {n : Nat} {ok : Hp → Hp → Prop} : Wk K (Itr a n) ((List.range n).map fun i => D.int (a + (i : Nat))) ok := by
  refine ⟨fun i G2 H2 hi s2 sb => ?_, fun i G2 H2 v H3 hi s2 sb y => ?_, fun G2 H2 s2 sb => ?_⟩
  · rw [List.length_map, List.length_range] at hi
    exact hi
  · obtain ⟨rfl, rfl⟩ := y
    rw [List.length_map, List.length_range] at hi
    exact ⟨.int (a + (i : Nat)), G2, by rw [List.getElem?_map, List.getElem?_range hi]; rfl, Ext.refl sb, .int _⟩
  · show n ≤ _
    rw [List.length_map, List.length_range]
    exact Nat.le_refl _
theorem den_ints {K : PySem.W.Frag} {G : Hp} {vs : List V} {a : Int} (h : DenL K G vs [.int a]) : vs = [.int a] := by
  cases h with
  | cons h1 h2 =>
    cases h1
    cases h2
    rfl
theorem den_ints2 {K : PySem.W.Frag} {G : Hp} {vs : List V} {a b : Int} (h : DenL K G vs [.int a, .int b]) : vs = [.int a, .int b] := by
  cases h with
  | cons h1 h2 =>
    cases h1
    rw [den_ints h2]
theorem i_rng1 {tg : Expr} {p : Pos} (hm : X.mg "range" = none) (h : PL' X W [a] tl) (hg : Gl X "range" := by rfl) (hs : starEach [a] X.env = [(false, eval a X.env)] := by rfl) : PIt X W tg (.Call (.Name "range" p) [a] [] pos) (tiRng1 tl) := by
  obtain ⟨ea, pa, ra⟩ := h.ex
  refine ⟨_, pi_range1 hg hm pa hs, fun G0 H0 Γ σ G H k kx R F ht hk hx => ?_⟩
  refine ra G0 H0 Γ σ G H _ kx _ F ht (fun ds vs G1 H1 k1 x1 n1 => ?_) hx
  match ds, k1, n1 with
  | [.int n], k1, n1 =>
    refine ⟨n, den_ints n1, k1.1.1, k1.1.2, hk _ _ G1 H1 k1.2 x1 ?_⟩
    have e : (fun i : Nat => D.int (i : Nat)) = fun i : Nat => D.int (0 + (i : Nat)) := by
      funext i
      rw [Int.zero_add]
    rw [e]
    exact wk_rng
theorem i_rng2 {tg : Expr} {p : Pos} (hm : X.mg "range" = none) (h : PL' X W [a, b] tl) (hg : Gl X "range" := by rfl) (hs : starEach [a, b] X.env = [(false, eval a X.env), (false, eval b X.env)] := by rfl) (hs2 : starEach [b] X.env = [(false, eval b X.env)] := by rfl) : PIt X W tg (.Call (.Name "range" p) [a, b] [] pos) (tiRng2 tl) := by
  obtain ⟨ea, pa, ra⟩ := h.ex
  refine ⟨_, pi_range2 hg hm pa hs hs2, fun G0 H0 Γ σ G H k kx R F ht hk hx => ?_⟩
  refine ra G0 H0 Γ σ G H _ kx _ F ht (fun ds vs G1 H1 k1 x1 n1 => ?_) hx
  match ds, k1, n1 with
  | [.int n, .int m], k1, n1 => exact ⟨n, m, den_ints2 n1, k1.1, hk _ _ G1 H1 k1.2 x1 wk_rng⟩
end
end PL
set_option Elab.async false
set_option linter.all false
set_option maxRecDepth 100000
set_option maxHeartbeats 2000000
namespace PL
open PySem L2
variable [Tabl]
abbrev FS := List D → KD → KX → Prop
def spOf (K : PySem.W.Frag) (n : Nat) (fs : FS) : Sp := fun vs H Q E => ∃ G ds k kx, Sub G H ∧ DenL K G vs ds ∧ ds.length = n ∧ fs ds k kx ∧ (∀ d v G' H', k d → Ext G H G' H' → Den K G' v d → Q v H') ∧
  (∀ x cls dA G' H', kx x → Ext G H G' H' → XDen K G' H' cls dA x → E cls dA H')
/-- the global name x holds a def that keeps fs, at level k -/
structure Df (P : Program) (w : World) (K : PySem.W.Frag) (mg : PySem.Str → Option Value) (base : Heap) (x : PySem.Str) (k n : Nat) (fs : FS) : Prop where
  ex : ∃ f fd ps, FnOk P w K mg base (L2.CX P w) k f fd ps (spOf K n fs) ∧ mg x = some (.ref f) ∧ PySem.W.keepIn K (.ref f) = true ∧ Binds K fd ps [] ∧ ps.length = n
theorem Df.imp {P : Program} {w : World} {K : PySem.W.Frag} {mg : PySem.Str → Option Value} {base : Heap} {x : PySem.Str} {k n : Nat} {fs fs' : FS} (F : Df P w K mg base x k n fs) (h : ∀ ds kd kx, ds.length = n → fs' ds kd kx → fs ds kd kx) : Df P w K mg base x k n fs' := by
  obtain ⟨f, fd, ps, h1, h2, h3, h4, h5⟩ := F.ex
  refine ⟨f, fd, ps, h1.imp fun vs H Q E q => ?_, h2, h3, h4, h5⟩
  obtain ⟨G, ds, kd, kx, a, b, c, d, e⟩ := q
  exact ⟨G, ds, kd, kx, a, b, c, h ds kd kx c d, e⟩
theorem Df.mono {P : Program} {w : World} {K : PySem.W.Frag} {mg : PySem.Str → Option Value} {base : Heap} {x : PySem.Str} {j k n : Nat} {fs : FS} (F : Df P w K mg base x j n fs) (h : j ≤ k) : Df P w K mg base x k n fs := by
  obtain ⟨f, fd, ps, h1, h2⟩ := F.ex
  exact ⟨f, fd, ps, h1.mono h, h2⟩
def ga0 (m : Nat) (ds : List D) : Ga := ds.map Sl.pu ++ List.replicate (m - ds.length) Sl.un
theorem fr0 {K : PySem.W.Frag} {G H : Hp} {N : List PySem.Str} {vs : List V} {ds : List D} (s : Sub G H) (r : DenL K G vs ds) : Fr K G H (ga0 N.length ds) (L2.start N vs) G H := by
  have hl := r.length
  have key : ∀ i, (∃ d, ds[i]? = some d ∧ (ga0 N.length ds)[i]? = some (.pu d)) ∨ (ds.length ≤ i ∧ ∀ s, (ga0 N.length ds)[i]? = some s → s = .un) := fun i => by
    by_cases h : i < ds.length
    · refine .inl ⟨ds[i], List.getElem?_eq_getElem h, ?_⟩
      unfold ga0
      rw [List.getElem?_append_left (by rw [List.length_map]; exact h), List.getElem?_map, List.getElem?_eq_getElem h]
      rfl
    · refine .inr ⟨Nat.le_of_not_lt h, fun s e => ?_⟩
      unfold ga0 at e
      rw [List.getElem?_append_right (by rw [List.length_map]; omega)] at e
      have := List.mem_of_getElem? e
      exact (List.mem_replicate.mp this).2
  refine ⟨by unfold L2.start ga0; simp [hl], Ext.refl s, fun i t h => ?_, fun i j p t u h1 h2 h3 h4 h5 h6 => ?_⟩
  · rcases key i with ⟨d, e, q⟩ | ⟨_, q⟩
    · rw [q] at h
      cases h
      obtain ⟨v, hv, n⟩ := r.get e
      refine ⟨v, ?_, n⟩
      have hi : i < vs.length := (List.getElem?_eq_some_iff.mp hv).1
      unfold L2.start
      rw [List.getElem?_append_left (by rw [List.length_map]; exact hi), List.getElem?_map, hv]
      rfl
    · rw [q t h]
      trivial
  · rcases key i with ⟨d, e, q⟩ | ⟨_, q⟩
    · rw [q] at h1
      cases h1
      exact h2.elim
    · rw [q t h1] at h2
      exact h2.elim
/-- the ends of a def -/
def fEnds (k : KD) (kx : KX) : PEn := ⟨fun _ => k .non, fun _ => False, fun _ => False, fun d _ => k d, fun x _ => kx x⟩
section
variable {P : Program} {w : World} {K : PySem.W.Frag} {mg : PySem.Str → Option Value} {base : Heap}
theorem fn_ok {x qual : PySem.Str} {st : Stmt} {f : Addr} {fd : FuncData} {N ps : List PySem.Str} {k n : Nat} {fs : FS} (F : Fun K x qual st f fd) (S : FnScope N ps (defScope st)) (hn : ps.length = n)
    (body : ∀ (cdv : Value) (A : Around) (outer : List Env) (s : Shared) (H : Hp) (E : XK), Room k (A.deeper (PyProof.Rows.envOfC qual (defScope st) s.heap.objs.size f cdv)) →
      ∃ t, PSS (cxOf (L2.CX P w) P w K mg base N qual (defScope st) f cdv A outer s H E) (fun cls d _ H => E cls d H) (defBody st) t ∧ ∀ ds kd kx, ds.length = n → fs ds kd kx → t (fEnds kd kx) (ga0 N.length ds)) :
    FnOk P w K mg base (L2.CX P w) (k + 1) f fd ps (spOf K n fs) := by
  refine F.okX S (fun vs H Q E h => ?_) (fun cdv A outer s H vs Q E hr h => ?_)
  · obtain ⟨G, ds, kd, kx, _, b, c, _⟩ := h
    rw [b.length, c, hn]
  · obtain ⟨G, ds, kd, kx, sb, r, hl, hf, hk, hx⟩ := h
    obtain ⟨t, ⟨ts, ps, rd⟩, ht⟩ := body cdv A outer s H E hr
    refine ⟨ts, ps, rd G H (ga0 N.length ds) (L2.start N vs) G H (fEnds kd kx) _ (fr0 sb r) (ht ds kd kx hl hf) ⟨?_, ?_, ?_, ?_, ?_⟩⟩
    · intro Γ σ G' H' q F'
      exact hk .non .non G' H' q F'.e .non
    · intro Γ σ G' H' q
      exact q.elim
    · intro Γ σ G' H' q
      exact q.elim
    · intro d v Γ σ G' H' q F' n
      exact hk d v G' H' q F'.e n
    · intro x cls dA Γ σ G' H' q F' n
      exact hx x cls dA G' H' q F'.e n
theorem df_mk {x qual : PySem.Str} {st : Stmt} {f : Addr} {fd : FuncData} {ps : List PySem.Str} {k n : Nat} {fs : FS} (F : Fun K x qual st f fd) (hm : mg x = some (.ref f)) (hb : Binds K fd ps []) (hn : ps.length = n) (h : FnOk P w K mg base (L2.CX P w) k f fd ps (spOf K n fs)) :
    Df P w K mg base x k n fs := ⟨f, fd, ps, h, hm, F.kp, hb, hn⟩
end
section
variable {X : Cx} {W : WX} {e a b c : Expr} {es : List Expr} {t ta tb tc : TP} {tl tk : TL} {tt tu : TB} {pos p : Pos} {st : Stmt} {rest body els : List Stmt} {s u v : TSp} {x : PySem.Str} {k n j : Nat} {fs : FS} {kws : List Keyword}
def tpCall (n : Nat) (fs : FS) (tl : TL) : TP := fun Γ k kx => tl Γ (fun ds => ds.length = n ∧ fs ds k kx) kx
theorem rd_call {ta : TA} (h : RdA X.K W ta tl) : RdP X.K W (tCallS (spOf X.K n fs) (WE W) ta) (tpCall n fs tl) := by
  intro G0 H0 Γ σ G H k kx Q F ht hk hx
  refine h G0 H0 Γ σ G H _ kx _ F ht (fun ds vs G1 H1 k1 x1 n1 => ?_) hx
  exact ⟨G1, ds, k, kx, x1.sub, n1, k1.1, k1.2, fun d v G' H' kd ex dn => hk d v G' H' kd (x1.trans ex) dn, fun y cls dA G' H' kd ex dn => hx y cls dA G' H' kd (x1.trans ex) dn⟩
theorem p_call (D : Df X.prog X.w X.K X.mg X.base x k n fs) (hr : Room j X.A) (hj : k ≤ j) (tk : Takes X W) (ha : PL' X W (e :: es) tl) (hg : Gl X x := by rfl) (hdb : (x == ("__debug__" : PySem.Str)) = false := by decide)
    (he : starEach (e :: es) X.env = (false, eval e X.env) :: starEach es X.env := by rfl) (hpl : (backTo pos (starEach es X.env)).any (·.1) = false := by rfl) : PP X W (.Call (.Name x p) (e :: es) [] pos) (tpCall n fs tl) := by
  obtain ⟨f, fd, ps, h1, h2, h3, h4, h5⟩ := D.ex
  obtain ⟨ea, pa, ra⟩ := ha.ex
  exact ⟨_, pe_callS h1 (hr.mono hj) hg h2 h3 h4 (fun σ => passAt tk σ) pa hdb he hpl, rd_call ra⟩
/-- m turns at most -/
def whW (c : TB) (b : TSp) (P : PEn) : Nat → Ga → Prop
  | 0, _ => False
  | m + 1, Γ => c Γ (fun r => if r = true then b { P with nx := whW c b P m, ct := whW c b P m, bk := P.nx } Γ else P.nx Γ) (fun x => P.xx x Γ)
def tsWhile (c : TB) (b : TSp) : TSp := fun P Γ => ∃ m, whW c b P m Γ
theorem rd_while {tc : TT} {tb : TS} {cp : TB} {bp : TSp} (hc : RdT X.K W tc cp) (hb : RdS X.K W tb bp) : RdS X.K W (tWhile tc tb) (tsWhile cp bp) := by
  intro G0 H0 Γ σ G H P E F ⟨m, ht⟩ ok
  refine ⟨fun m σ' H' => ∃ Γ' G', Fr X.K G0 H0 Γ' σ' G' H' ∧ whW cp bp P m Γ', ⟨m, Γ, G, F, ht⟩, ?_⟩
  rintro m σ2 H2 ⟨Γ2, G2, F2, k2⟩
  cases m with
  | zero => exact k2.elim
  | succ m =>
    refine hc G0 H0 Γ2 σ2 G2 H2 _ _ _ F2 k2 (fun r G3 H3 k3 x3 => ?_) (ok.x F2)
    cases r with
    | true =>
      rw [if_pos rfl]
      refine ⟨fun σ' H' => ∃ Γ' G', Fr X.K G0 H0 Γ' σ' G' H' ∧ whW cp bp P m Γ', fun σ' H' q => ⟨m, Nat.lt_succ_self m, q⟩, ?_⟩
      exact hb G0 H0 Γ2 σ2 G3 H3 _ _ (F2.up x3) k3 (ok.loop fun Γ5 σ5 G5 H5 n5 F5 => ⟨Γ5, G5, F5, n5⟩)
    | false =>
      rw [if_neg Bool.false_ne_true]
      exact ok.nx _ _ _ _ k3 (F2.up x3)
theorem s_while (hp : PassesOwn (model X.prog X.w) X.A X.env X.xe) (hc : PB X W c tt) (hb : PSS X W body s) : PS1 X W (.While c body [] pos) (tsWhile tt s) := by
  obtain ⟨ec, pc, rc⟩ := hc.ex
  obtain ⟨eb, pb, rb⟩ := hb.ex
  exact ⟨_, ps_while hp pc pb, rd_while rc rb⟩
abbrev F1 := D → KD → Prop
def RdC1 (K : PySem.W.Frag) (r : List V → Hp → VK → Prop) (f : F1) : Prop := ∀ (H0 G H : Hp) (v : V) (d : D) (k : KD) (Q : VK), Sub G H → DenU K H0 G H v d → f d k → (∀ d v G' H', k d → Ext G H G' H' → Den K G' v d → Q v H') → r [v] H Q
def tp1 (f : F1) (t : TP) : TP := fun Γ k kx => t Γ (fun d => f d k) kx
theorem rd_c1 {r : List V → Hp → VK → Prop} {f : F1} {te : TE} (hr : RdC1 X.K r f) (h : RdU X.K W te t) : RdP X.K W (tCB r (tCons te tNil)) (tp1 f t) := by
  intro G0 H0 Γ σ G H k kx Q F ht hk hx
  refine h G0 H0 Γ σ G H _ kx _ F ht (fun d v G1 H1 k1 x1 n1 => ?_) hx
  exact hr H0 G1 H1 v d k Q x1.sub n1 k1 fun d v G' H' kd ex dn => hk d v G' H' kd (x1.trans ex) dn
/-- a built-in function, a built-in type called -/
theorem p_b1 {id : String} {r : List V → Hp → VK → Prop} {f : F1} (hc : CallR X (.builtin id) r ∧ RdC1 X.K r f) (hm : X.mg x = none) (hv : bootBuiltins x = some (.builtin id)) (ha : PU X W a t) (hg : Gl X x := by rfl) (hn : x ≠ "__name__" := by decide) (hdb : (x == ("__debug__" : PySem.Str)) = false := by decide)
    (h1 : starEach (a :: []) X.env = (false, eval a X.env) :: starEach [] X.env := by rfl) (h2 : (backTo pos (starEach [] X.env)).any (·.1) = false := by rfl) : PP X W (.Call (.Name x p) [a] [] pos) (tp1 f t) := by
  obtain ⟨ea, pa, ra⟩ := ha.ex
  exact ⟨_, pe_callB hc.1 hg hm hv (pa_cons pa pa_nil h1) hn hdb h1 h2, rd_c1 hc.2 ra⟩
theorem p_t1 {T : String} {r : List V → Hp → VK → Prop} {f : F1} (hc : CallR X (.type T) r ∧ RdC1 X.K r f) (hm : X.mg x = none) (hv : bootBuiltins x = some (.type T)) (ha : PU X W a t) (hg : Gl X x := by rfl) (hn : x ≠ "__name__" := by decide) (hdb : (x == ("__debug__" : PySem.Str)) = false := by decide)
    (h1 : starEach (a :: []) X.env = (false, eval a X.env) :: starEach [] X.env := by rfl) (h2 : (backTo pos (starEach [] X.env)).any (·.1) = false := by rfl) : PP X W (.Call (.Name x p) [a] [] pos) (tp1 f t) := by
  obtain ⟨ea, pa, ra⟩ := ha.ex
  exact ⟨_, pe_callTy hc.1 hg hm hv (pa_cons pa pa_nil h1) hn hdb h1 h2, rd_c1 hc.2 ra⟩
theorem DenK.length {K : PySem.W.Frag} {G : Hp} : ∀ {vs : List (Key × V)} {ds : List (Key × D)}, DenK K G vs ds → vs.length = ds.length
  | _, _, .nil => rfl
  | _, _, .cons _ t => by rw [List.length_cons, List.length_cons, DenK.length t]
theorem DenU.dct {K : PySem.W.Frag} {H0 G H : Hp} {v : V} {ds : List (Key × D)} (s : Sub G H) (h : DenU K H0 G H v (.dct ds)) : ∃ a xs, v = .ref a ∧ Rd H a (.dK xs) ∧ DenK K G xs ds := by
  rcases h with h | ⟨p, e, g, xs, r1, r2⟩
  · cases h with
    | dct h1 h2 => exact ⟨_, _, rfl, s.rd h1, h2⟩
  · exact ⟨p, xs, e, .inl r1, r2⟩
/-- len of a text, a list, a tuple; of a dict that isn't locked -/
def fLenS : F1
  | .str s, k => s.length ≤ sizeLine ∧ k (.int s.length)
  | .lst xs, k => k (.int xs.length)
  | .tup xs, k => k (.int xs.length)
  | .cel _ ns, k => k (.int ns.length)
  | .scr, k => ∀ n : Nat, n ≤ 63 → k (.int n)
  | _, _ => False
theorem c_len : CallR X (.builtin "len") (fun xs H Q => ∃ x n, xs = [x] ∧ LenV X.K x H n ∧ Q (.int n) H) ∧ RdC1 X.K (fun xs H Q => ∃ x n, xs = [x] ∧ LenV X.K x H n ∧ Q (.int n) H) fLenS := by
  refine ⟨call_len, fun H0 G H v d k Q s n h hk => ?_⟩
  cases d with
  | str t => exact ⟨v, t.length, rfl, by rw [n.str]; exact ⟨by rw [ss_length]; exact h.1, (ss_length t).symm⟩, hk _ _ G H h.2 (Ext.refl s) (.int _)⟩
  | lst xs =>
    obtain ⟨a, ys, rfl, h1, r1⟩ := n.lst s
    exact ⟨_, xs.length, rfl, .inl ⟨ys, SqL.of h1, r1.length.symm⟩, hk _ _ G H h (Ext.refl s) (.int _)⟩
  | tup xs =>
    obtain ⟨a, ys, rfl, h1, r1⟩ := n.tup s
    exact ⟨_, xs.length, rfl, .inr ⟨ys, h1, r1.length.symm⟩, hk _ _ G H h (Ext.refl s) (.int _)⟩
  | cel l ns =>
    obtain ⟨rfl, h1⟩ := n.cel s
    exact ⟨_, ns.length, rfl, .inl ⟨_, SqL.of h1, by rw [List.length_map]⟩, hk _ _ G H h (Ext.refl s) (.int _)⟩
  | scr =>
    rcases n with n | ⟨p, e, g, r⟩
    · cases n with
      | @scr a ns h1 h2 => exact ⟨_, ns.length, rfl, .inl ⟨_, s.sql h1, by rw [List.length_map]⟩, hk _ _ G H (h ns.length h2) (Ext.refl s) (.int _)⟩
    · exact r.elim
  | _ => exact h.elim
/-- int(n), int(b) -/
def fInt : F1
  | .int i, k => k (.int i)
  | .bl b, k => k (.int (if b then 1 else 0))
  | _, _ => False
theorem c_int : CallR X (.type "int") (fun xs H Q => (∃ i, xs = [.int i] ∧ Q (.int i) H) ∨ ∃ k, xs = [.bl k] ∧ Q (.int (if k then 1 else 0)) H) ∧ RdC1 X.K (fun xs H Q => (∃ i, xs = [.int i] ∧ Q (.int i) H) ∨ ∃ k, xs = [.bl k] ∧ Q (.int (if k then 1 else 0)) H) fInt := by
  refine ⟨call_int1, fun H0 G H v d k Q s n h hk => ?_⟩
  cases d with
  | int i => exact .inl ⟨i, by rw [n.int], hk _ _ G H h (Ext.refl s) (.int _)⟩
  | bl i => exact .inr ⟨i, by rw [n.bl], hk _ _ G H h (Ext.refl s) (.int _)⟩
  | _ => exact h.elim
/-- all(..), any(..) of a list of truth values -/
def bools : List D → Option (List Bool)
  | [] => some []
  | .bl b :: r => (bools r).map (b :: ·)
  | _ :: _ => none
theorem bools_eq : ∀ {ds : List D} {bs : List Bool}, bools ds = some bs → ds = bs.map D.bl
  | [], bs, h => by cases h; rfl
  | d :: r, bs, h => by
    cases d with
    | bl b =>
      unfold bools at h
      cases e : bools r with
      | none => rw [e] at h; cases h
      | some cs =>
        rw [e] at h
        cases h
        rw [List.map_cons, ← bools_eq e]
    | _ => cases h
theorem bools_map : ∀ bs : List Bool, bools (bs.map D.bl) = some bs
  | [] => rfl
  | b :: r => by
    show (bools (r.map D.bl)).map (b :: ·) = _
    rw [bools_map r]
    rfl
theorem denL_bl {K : PySem.W.Frag} {G : Hp} : ∀ {bs : List Bool} {vs : List V}, DenL K G vs (bs.map D.bl) → vs = bs.map V.bl
  | [], _, h => by cases h; rfl
  | b :: r, _, h => by
    cases h with
    | cons h1 h2 =>
      cases h1
      rw [denL_bl h2]
      rfl
def onBs (ds : List D) (k : List Bool → Prop) : Prop := match bools ds with
  | some bs => k bs
  | none => False
theorem onBs_map {bs : List Bool} {k : List Bool → Prop} : onBs (bs.map D.bl) k = k bs := by
  unfold onBs
  rw [bools_map]
theorem onBs_elim {ds : List D} {k : List Bool → Prop} (h : onBs ds k) : ∃ bs, ds = bs.map D.bl ∧ k bs := by
  unfold onBs at h
  cases e : bools ds with
  | none => simp only [e] at h
  | some bs =>
    simp only [e] at h
    exact ⟨bs, bools_eq e, h⟩
def fAll : F1
  | .lst xs, k => onBs xs fun bs => k (.bl (bs.all id))
  | _, _ => False
def fAny : F1
  | .lst xs, k => onBs xs fun bs => k (.bl (bs.any id))
  | _, _ => False
theorem c_all (hc : X.calm = true) : CallR X (.builtin "all") (rAll X.K) ∧ RdC1 X.K (rAll X.K) fAll := by
  refine ⟨cr_all hc, fun H0 G H v d k Q s n h hk => ?_⟩
  cases d with
  | lst xs =>
    obtain ⟨bs, rfl, h2⟩ := onBs_elim (show onBs xs fun bs => k (.bl (bs.all id)) from h)
    obtain ⟨a, ys, rfl, h1, r1⟩ := n.lst s
    rw [denL_bl r1] at h1
    exact ⟨a, bs, rfl, SqL.of h1, hk _ _ G H h2 (Ext.refl s) (.bl _)⟩
  | _ => exact h.elim
theorem c_any (hc : X.calm = true) : CallR X (.builtin "any") (rAny X.K) ∧ RdC1 X.K (rAny X.K) fAny := by
  refine ⟨cr_any hc, fun H0 G H v d k Q s n h hk => ?_⟩
  cases d with
  | lst xs =>
    obtain ⟨bs, rfl, h2⟩ := onBs_elim (show onBs xs fun bs => k (.bl (bs.any id)) from h)
    obtain ⟨a, ys, rfl, h1, r1⟩ := n.lst s
    rw [denL_bl r1] at h1
    exact ⟨a, bs, rfl, SqL.of h1, hk _ _ G H h2 (Ext.refl s) (.bl _)⟩
  | _ => exact h.elim
def tyD : D → Option String
  | .non => some "NoneType"
  | .bl _ => some "bool"
  | .int _ => some "int"
  | .str _ => some "str"
  | .lst _ => some "list"
  | .tup _ => some "tuple"
  | .dct _ => some "dict"
  | _ => none
def subTy (a b : String) : Bool := a == b || (a == "bool" && b == "int")
theorem kit_all : (["NoneType", "bool", "int", "str", "list", "tuple", "dict"].all fun a => ["bool", "int", "str", "list", "tuple"].all fun b => kitB a b == some (subTy a b)) = true := by decide +kernel
theorem kit_tab {a b : String} (ha : a ∈ ["NoneType", "bool", "int", "str", "list", "tuple", "dict"]) (hb : b ∈ ["bool", "int", "str", "list", "tuple"]) : kitB a b = some (subTy a b) := by
  have := List.all_eq_true.mp kit_all a ha
  have := List.all_eq_true.mp this b hb
  simpa using this
theorem tyD_mem {d : D} {T : String} (h : tyD d = some T) : T ∈ ["NoneType", "bool", "int", "str", "list", "tuple", "dict"] := by
  cases d <;> (first | (cases h; simp) | cases h)
theorem DenU.ty {K : PySem.W.Frag} {H0 G H : Hp} {v : V} {d : D} {T : String} (s : Sub G H) (h : DenU K H0 G H v d) (e : tyD d = some T) : TyX K H v (.type T) := by
  cases d with
  | non => cases e; rw [h.non]; exact .base .non
  | bl b => cases e; rw [h.bl]; exact .base (.bl b)
  | int b => cases e; rw [h.int]; exact .base (.int b)
  | str b => cases e; rw [h.str]; exact .base (.str _)
  | lst xs =>
    cases e
    obtain ⟨a, ys, rfl, h1, r1⟩ := h.lst s
    exact .base (.lst h1)
  | tup xs =>
    cases e
    obtain ⟨a, ys, rfl, h1, r1⟩ := h.tup s
    rcases h1 with (h1 | ⟨o, h1⟩) | ⟨o, its, n, k1, k2, k3, k4⟩
    · exact .base (.tup h1)
    · exact .fTuple h1
    · exact .kTuple k1 (by assumption)
  | dct xs =>
    cases e
    obtain ⟨a, ys, rfl, h1, r1⟩ := h.dct s
    rcases h1 with h1 | ⟨o, h1⟩
    · exact .base (.dK h1)
    · exact .fDict h1
  | _ => cases e
end
end PL
set_option Elab.async false
set_option linter.all false
set_option maxRecDepth 100000
set_option maxHeartbeats 2000000
namespace PL
open PySem L2
variable [Tabl]
section
variable {X : Cx} {W : WX} {e a b c : Expr} {es : List Expr} {t ta tb tc : TP} {tl tk : TL} {tt tu : TB} {pos p : Pos} {x : PySem.Str}
def fIsi (T : String) : F1 := fun d k => match tyD d with
  | some n => k (.bl (subTy n T))
  | none => False
theorem p_isi (T : String) (ha : PU X W a t) (hb : PE X b (tC (.ty T))) (hm : X.mg "isinstance" = none) (hT : T ∈ ["bool", "int", "str", "list", "tuple"] := by simp) (hv : bootBuiltins "isinstance" = some (.builtin "isinstance") := by decide +kernel) (hg : Gl X "isinstance" := by rfl)
    (h1 : starEach (a :: [b]) X.env = (false, eval a X.env) :: starEach [b] X.env := by rfl) (h2 : (backTo pos (starEach [b] X.env)).any (·.1) = false := by rfl) (h3 : starEach (b :: []) X.env = (false, eval b X.env) :: starEach [] X.env := by rfl) :
    PP X W (.Call (.Name "isinstance" p) [a, b] [] pos) (tp1 (fIsi T) t) := by
  obtain ⟨ea, pa, ra⟩ := ha.ex
  refine ⟨_, pe_callB call_isi hg hm hv (pa_cons pa (pa_cons hb pa_nil h3) h1) (by decide) (by decide) h1 h2, fun G0 H0 Γ σ G H k kx Q F ht hk hx => ?_⟩
  refine ra G0 H0 Γ σ G H _ kx _ F ht (fun d v G1 H1 k1 x1 n1 => ?_) hx
  unfold fIsi at k1
  cases e : tyD d with
  | none => simp only [e] at k1
  | some n =>
    simp only [e] at k1
    exact ⟨v, .ty T, .type n, .type T, subTy n T, rfl, .ty T, n1.ty x1.sub e, kit_ty (kit_tab (tyD_mem e) hT), hk _ _ G1 H1 k1 x1 (.bl _)⟩
abbrev Bi := Shared × Hp × Addr × List (PySem.Str × Addr) × List Addr
abbrev Cx.bl (X : Cx) (scope : Scope) (i : Bi) : Cx := X.blk i.1 i.2.1 scope (compEnvC scope i.2.2.2.1 i.2.2.1 X.env) i.2.2.2.2
abbrev W0 : WX := fun _ _ _ _ => False
theorem pp_unif {ι : Type} {Xf : ι → Cx} {K : PySem.W.Frag} (hK : ∀ i, (Xf i).K = K) (h : ∀ i, PP (Xf i) W e t) (i₀ : ι) : ∃ te, (∀ i, PE (Xf i) e te) ∧ RdP K W te t := by
  have h' : ∀ i, ∃ te, PE (Xf i) e te ∧ RdP K W te t := fun i => by
    obtain ⟨te, h1, h2⟩ := (h i).ex
    rw [hK i] at h2
    exact ⟨te, h1, h2⟩
  refine ⟨fun σ H Q => ∀ i, Classical.choose (h' i) σ H Q, fun i => ⟨fun pins s σ H Q I q => (Classical.choose_spec (h' i)).1.run pins s σ H Q I (q i)⟩, ?_⟩
  intro G0 H0 Γ σ G H k kx Q F ht hk hx i
  exact (Classical.choose_spec (h' i)).2 G0 H0 Γ σ G H k kx Q F ht hk hx
theorem pg_unif {ι : Type} {Xf : ι → Cx} {K : PySem.W.Frag} {is : List Nat} {gt : TGp} (hK : ∀ i, (Xf i).K = K) (h : ∀ i, PGt (Xf i) e is gt) : ∃ g, (∀ i, PG (Xf i) e g) ∧ RdG K is g gt := by
  have h' : ∀ i, ∃ te, PG (Xf i) e te ∧ RdG K is te gt := fun i => by
    obtain ⟨te, h1, h2⟩ := (h i).ex
    rw [hK i] at h2
    exact ⟨te, h1, h2⟩
  refine ⟨fun v σ H Q => ∀ i, Classical.choose (h' i) v σ H Q, fun i => ⟨fun pins s σ H v u Q I r q => ?_⟩, ?_⟩
  · exact (Classical.choose_spec (h' i)).1.run pins s σ H v u Q I r (q i)
  · intro G0 H0 Γ σ G H d v k Q F n ht hk i
    exact (Classical.choose_spec (h' i)).2 G0 H0 Γ σ G H d v k Q F n ht hk
/-- the tests of a comprehension -/
structure PBs (X : Cx) (W : WX) (es : List Expr) (t : TB) : Prop where
  ex : ∃ te, PTs X es te ∧ RdT X.K W te t
def tbYes : TB := fun _ k _ => k true
theorem bs_unif {ι : Type} {Xf : ι → Cx} {K : PySem.W.Frag} (hK : ∀ i, (Xf i).K = K) (h : ∀ i, PBs (Xf i) W es tt) : ∃ te, (∀ i, PTs (Xf i) es te) ∧ RdT K W te tt := by
  have h' : ∀ i, ∃ te, PTs (Xf i) es te ∧ RdT K W te tt := fun i => by
    obtain ⟨te, h1, h2⟩ := (h i).ex
    rw [hK i] at h2
    exact ⟨te, h1, h2⟩
  refine ⟨fun σ H Q => ∀ i, Classical.choose (h' i) σ H Q, fun i => ⟨fun pins s σ H Q I q => (Classical.choose_spec (h' i)).1.run pins s σ H Q I (q i)⟩, ?_⟩
  intro G0 H0 Γ σ G H k kx Q F ht hk hx i
  exact (Classical.choose_spec (h' i)).2 G0 H0 Γ σ G H k kx Q F ht hk hx
theorem bs_nil : PBs X W [] tbYes := ⟨_, pts_nil, fun G0 H0 Γ σ G H k kx Q F ht hk hx => hk true G H ht (Ext.refl F.sub)⟩
def wipeG (Γ : Ga) : List Nat → Ga
  | [] => Γ
  | v :: vs => gset (wipeG Γ vs) v .un
theorem Fr.unset {K : PySem.W.Frag} {G0 H0 G H : Hp} {Γ : Ga} {σ : L2.St} (F : Fr K G0 H0 Γ σ G H) (i : Nat) : Fr K G0 H0 (gset Γ i .un) (σ.set i none) G H := by
  rw [gset_eq]
  have hne : ∀ (j : Nat) (s : Sl), (Γ.set i .un)[j]? = some s → s ≠ .un → j ≠ i ∧ Γ[j]? = some s := fun j s h n => by
    by_cases hj : i = j
    · subst hj
      have hl : i < Γ.length := by
        have := (List.getElem?_eq_some_iff.mp h).1
        rw [List.length_set] at this
        exact this
      rw [List.getElem?_set_self hl] at h
      exact absurd (Option.some.inj h).symm n
    · rw [List.getElem?_set_ne hj] at h
      exact ⟨Ne.symm hj, h⟩
  refine ⟨by rw [List.length_set, List.length_set]; exact F.len, F.e, fun j s h => ?_, fun a b p s t h1 h2 h3 h4 h5 h6 => ?_⟩
  · by_cases n : s = .un
    · subst n
      trivial
    · obtain ⟨z, q⟩ := hne j s h n
      rw [List.getElem?_set_ne (Ne.symm z)]
      exact F.at_ j s q
  · obtain ⟨z1, q1⟩ := hne a s h1 (fun z => by subst z; exact h2)
    obtain ⟨z2, q2⟩ := hne b t h3 (fun z => by subst z; exact h4)
    rw [List.getElem?_set_ne (Ne.symm z1)] at h5
    rw [List.getElem?_set_ne (Ne.symm z2)] at h6
    exact F.dj a b p s t q1 h2 q2 h4 h5 h6
theorem Fr.wipe {K : PySem.W.Frag} {G0 H0 G H : Hp} {Γ : Ga} {σ : L2.St} (F : Fr K G0 H0 Γ σ G H) : ∀ is : List Nat, Fr K G0 H0 (wipeG Γ is) (L2.wipe σ is) G H
  | [] => F
  | v :: vs => (F.wipe vs).unset v
theorem wipe_none (σ : L2.St) (v : Nat) : ∀ vs : List Nat, v ∈ vs → (L2.wipe σ vs).set v none = L2.wipe σ vs
  | j :: r, h => by
    show ((L2.wipe σ r).set j none).set v none = (L2.wipe σ r).set j none
    by_cases e : v = j
    · subst e
      rw [List.set_set]
    · have hr : v ∈ r := by
        rcases List.mem_cons.mp h with h | h
        · exact absurd h e
        · exact h
      rw [List.set_comm _ _ (Ne.symm e), wipe_none σ v r hr]
theorem wipe_sub (σ : L2.St) (vs : List Nat) : ∀ ws : List Nat, (∀ v ∈ ws, v ∈ vs) → L2.wipe (L2.wipe σ vs) ws = L2.wipe σ vs
  | [], _ => rfl
  | v :: ws, h => by
    show (L2.wipe (L2.wipe σ vs) ws).set v none = _
    rw [wipe_sub σ vs ws (fun u hu => h u (List.mem_cons_of_mem _ hu)), wipe_none σ v vs (h v List.mem_cons_self)]
/-- the items one by one -/
def lcW (g : TGp) (tt : TB) (te : TP) (Γ : Ga) : List D → (List D → Prop) → Prop
  | [], k => k []
  | d :: r, k => g d Γ fun Γ1 => tt Γ1 (fun b => if b = true then te Γ1 (fun y => lcW g tt te Γ r fun ys => k (y :: ys)) (fun _ => False) else lcW g tt te Γ r k) (fun _ => False)
def tpLc (is : List Nat) (ti : TL) (g : TGp) (tt : TB) (te : TP) : TP := fun Γ k kx => ti Γ (fun ds => ds.length ≤ 100000 ∧ lcW g tt te (wipeG Γ is) ds fun ys => k (.lst ys)) kx
theorem tabs_upd {H : Hp} {p : Addr} {o : HO} (t : LamX.Tabs Tabl.T H) (m : H p = none ∨ ∃ u, H p = some u ∧ MutO u) : LamX.Tabs Tabl.T (upd H p o) := by
  rcases m with m | ⟨u, m, mu⟩
  · exact t.ext (same_upd m)
  · exact fun q hq => tab_upd (t q hq) m mu
/-- what was not there at first is laid or changed -/
theorem Up.upNew {H H2 : Hp} (x : Up H H2) {p : Addr} (h : H p = none) (m : H2 p = none ∨ ∃ u, H2 p = some u ∧ MutO u) (o : HO) : Up H (upd H2 p o) := by
  refine ⟨fun a u e n => by rw [upd_ne (ne_of_none e h)]; exact x.k _ _ e n, fun a u e => by rw [upd_ne (ne_of_none e h)]; exact x.t _ _ e, fun t => ?_⟩
  exact tabs_upd (x.tb t) m
theorem Ext.at_new {G H G2 H2 : Hp} (x : Ext G H G2 H2) {p : Addr} {o : HO} (h : H p = none) (g : G2 p = none) (m : H2 p = none ∨ ∃ u, H2 p = some u ∧ MutO u) : Ext G H G2 (upd H2 p o) :=
  ⟨x.h.upNew h m o, x.g, x.nw, ⟨fun a u e => by rw [upd_ne (ne_of_none e g)]; exact x.sub.m a u e, x.sub.nt, tabs_upd x.sub.tb m⟩⟩
theorem rd_lc {wi : TI} {g : TG} {eb : TT} {ee : TE} {ti : TL} {gp : TGp} {is vs : List Nat} {te : TP} (hi : RdI X.K W wi ti) (hg : RdG X.K is g gp) (hb : RdT X.K W0 eb tt) (he : RdP X.K W0 ee te) (hv : is = vs) :
    ∀ (G0 H0 : Hp) (Γ : Ga) (σ : L2.St) (G H : Hp) (k : KD) (kx : KX) (Q : VK), Fr X.K G0 H0 Γ σ G H → tpLc is ti gp tt te Γ k kx →
      (∀ ds G' H' D, k (.lst ds) → Ext G H G' H' → H D = none → G' D = none → (∃ xs, H' D = some (.lst xs) ∧ DenL X.K G' xs ds) → Q (.ref D) H') → XOk X.K W G H σ kx → tLc wi g eb ee vs σ H Q := by
  subst hv
  intro G0 H0 Γ σ G H k kx Q F ht hk hx
  refine hi G0 H0 Γ σ G H _ kx _ F ht (fun ds J G1 H1 k1 x1 w => ?_) hx
  intro D hD
  have hD0 : H D = none := x1.h.free hD
  refine ⟨fun i m H' => ∃ G' acc ys, m = ds.length - i ∧ i ≤ ds.length ∧ Ext G H G' H' ∧ Same G1 G' ∧ G' D = none ∧ H' D = some (.lst acc) ∧ acc.length ≤ i ∧ DenL X.K G' acc ys ∧ lcW gp tt te (wipeG Γ is) (ds.drop i) (fun zs => k (.lst (ys ++ zs))),
    ⟨ds.length, G1, [], [], by simp, Nat.zero_le _, x1.at_new hD0 (x1.sub.none hD) (.inl hD), Same.refl _, x1.sub.none hD, upd_same, Nat.le_refl _, .nil, k1.2⟩, ?_⟩
  rintro i m H2 ⟨G2, acc, ys, rfl, hi, x2, s2, g2, h2, la, ra, k2⟩
  by_cases hlt : i < ds.length
  · refine .inr ⟨w.go i G2 H2 hlt s2 x2.sub, fun H' => ∃ G' acc ys, i + 1 ≤ ds.length ∧ Ext G H G' H' ∧ Same G1 G' ∧ G' D = none ∧ H' D = some (.lst acc) ∧ acc.length ≤ i + 1 ∧ DenL X.K G' acc ys ∧ lcW gp tt te (wipeG Γ is) (ds.drop (i + 1)) (fun zs => k (.lst (ys ++ zs))),
      fun H' ⟨G', acc, ys, a1, a2, a3, a4, a5, a6, a7, a8⟩ => ⟨ds.length - (i + 1), by omega, G', acc, ys, rfl, a1, a2, a3, a4, a5, a6, a7, a8⟩, fun v H3 y => ?_⟩
    obtain ⟨d, G3, hd, x3, n3⟩ := w.yl i G2 H2 v H3 hlt s2 x2.sub y
    have e : ds.drop i = d :: ds.drop (i + 1) := by
      rw [List.drop_eq_getElem_cons hlt]
      congr 1
      have := List.getElem?_eq_getElem hlt
      rw [hd] at this
      exact (Option.some.inj this).symm
    rw [e] at k2
    have F3 : Fr X.K G0 H0 (wipeG Γ is) (L2.wipe σ is) G3 H3 := (F.up (x2.trans x3)).wipe is
    refine hg G0 H0 _ _ G3 H3 d v _ _ F3 n3 k2 fun Γ4 σ4 k4 F4 hw => ⟨by rw [hw, wipe_sub σ is is (fun _ z => z)], ?_⟩
    refine hb G0 H0 Γ4 σ4 G3 H3 _ _ _ F4 k4 (fun b G5 H5 k5 x5 => ?_) (fun _ _ _ _ _ z => z.elim)
    have hD5 : H5 D = some (.lst acc) := x5.h.lst (x3.h.lst h2)
    have g5 : G5 D = none := x5.nw _ (x3.nw _ g2 ⟨_, h2⟩) ⟨_, x3.h.lst h2⟩
    cases b with
    | true =>
      rw [if_pos rfl]
      refine he G0 H0 Γ4 σ4 G5 H5 _ _ _ (F4.up x5) k5 (fun yd yv G6 H6 k6 x6 n6 => ?_) (fun _ _ _ _ _ z => z.elim)
      have hD6 : H6 D = some (.lst acc) := x6.h.lst hD5
      have g6 : G6 D = none := x6.nw _ g5 ⟨_, hD5⟩
      have hz : ds.length ≤ 100000 := k1.1
      refine ⟨acc, hD6, sz5' (by omega), G6, acc ++ [yv], ys ++ [yd], hlt, ((x2.trans x3).trans (x5.trans x6)).at_new hD0 g6 (.inr ⟨_, hD6, trivial⟩), ((s2.trans x3.g).trans x5.g).trans x6.g, g6, upd_same, by rw [List.length_append, List.length_singleton]; omega,
        (ra.up ((x3.g.trans x5.g).trans x6.g)).append (.cons n6 .nil), ?_⟩
      have e2 : (fun zs => k (.lst (ys ++ [yd] ++ zs))) = fun zs => k (.lst (ys ++ yd :: zs)) := by
        funext zs
        rw [List.append_assoc]
        rfl
      rw [e2]
      exact k6
    | false =>
      rw [if_neg Bool.false_ne_true]
      exact ⟨G5, acc, ys, hlt, (x2.trans x3).trans x5, (s2.trans x3.g).trans x5.g, g5, hD5, by omega, ra.up (x3.g.trans x5.g), k5⟩
  · have e : i = ds.length := by omega
    subst e
    refine .inl ⟨w.st G2 H2 s2 x2.sub, ?_⟩
    rw [List.drop_length] at k2
    have k2 : k (.lst (ys ++ [])) := k2
    rw [List.append_nil] at k2
    exact hk ys G2 H2 D k2 x2 hD0 g2 ⟨acc, h2, ra⟩
theorem lc_parts {elt tg iter : Expr} {ifs : List Expr} {scope : Scope} {own : List (PySem.Str × Nat)} {ti : TL} {gp : TGp} {is : List Nat} {te : TP} (hc : X.calm = true) (hN : X.N.Nodup) (hi : PIt X W tg iter ti) (ok : BlkOk X.N X.env.scope scope own)
    (hg : ∀ i : Bi, PGt (Cx.bl X scope i) tg is gp) (ht : ∀ i : Bi, PBs (Cx.bl X scope i) W0 ifs tt) (he : ∀ i : Bi, PP (Cx.bl X scope i) W0 elt te) (hv : is = own.map (·.2)) (hs : ∀ x, foldedSetIterable iter X.env x = pure x := by intro _; rfl) :
    ∃ ta, PE X (.ListComp elt [⟨tg, iter, ifs, 0⟩] scope pos) ta ∧ ∀ (G0 H0 : Hp) (Γ : Ga) (σ : L2.St) (G H : Hp) (k : KD) (kx : KX) (Q : VK), Fr X.K G0 H0 Γ σ G H → tpLc is ti gp tt te Γ k kx →
      (∀ ds G' H' D, k (.lst ds) → Ext G H G' H' → H D = none → G' D = none → (∃ xs, H' D = some (.lst xs) ∧ DenL X.K G' xs ds) → Q (.ref D) H') → XOk X.K W G H σ kx → ta σ H Q := by
  obtain ⟨wi, pi, ri⟩ := hi.ex
  obtain ⟨g, pg, rg⟩ := pg_unif (Xf := fun i : Bi => Cx.bl X scope i) (K := X.K) (fun _ => rfl) hg
  obtain ⟨eb, pb, rb⟩ := bs_unif (Xf := fun i : Bi => Cx.bl X scope i) (K := X.K) (fun _ => rfl) ht
  obtain ⟨ee, pe, re⟩ := pp_unif (Xf := fun i : Bi => Cx.bl X scope i) (K := X.K) (fun _ => rfl) he ⟨X.s_0, X.H_0, 0, [], []⟩
  exact ⟨_, pe_lc hc hN pi ok (fun s H C cl fp => pg (s, H, C, cl, fp)) (fun s H C cl fp => pb (s, H, C, cl, fp)) (fun s H C cl fp => pe (s, H, C, cl, fp)) hs, rd_lc ri rg rb re hv⟩
theorem p_lc {elt tg iter : Expr} {ifs : List Expr} {scope : Scope} (own : List (PySem.Str × Nat)) {ti : TL} {gp : TGp} {is : List Nat} {te : TP} (hc : X.calm = true) (hN : X.N.Nodup) (hi : PIt X W tg iter ti) (ok : BlkOk X.N X.env.scope scope own)
    (hg : ∀ i : Bi, PGt (Cx.bl X scope i) tg is gp) (ht : ∀ i : Bi, PBs (Cx.bl X scope i) W0 ifs tt) (he : ∀ i : Bi, PP (Cx.bl X scope i) W0 elt te) (hv : is = own.map (·.2) := by rfl) (hs : ∀ x, foldedSetIterable iter X.env x = pure x := by intro _; rfl) :
    PP X W (.ListComp elt [⟨tg, iter, ifs, 0⟩] scope pos) (tpLc is ti gp tt te) := by
  obtain ⟨ta, pa, ra⟩ := lc_parts (pos := pos) hc hN hi ok hg ht he hv hs
  refine ⟨ta, pa, fun G0 H0 Γ σ G H k kx Q F h hk hx => ra G0 H0 Γ σ G H k kx Q F h (fun ds G' H' D kd x hD gD ⟨xs, h1, h2⟩ => ?_) hx⟩
  exact hk _ _ _ H' kd (Ext.thaw x.sub x hD gD h1) (.lst upd_same (h2.up (same_upd gD)))
end
end PL
set_option Elab.async false
set_option linter.all false
set_option maxRecDepth 100000
set_option maxHeartbeats 2000000
namespace PL
open PySem L2 TL
variable [Tabl]
section
variable {X : Cx} {W : WX} {e a b c : Expr} {es : List Expr} {t ta tb tc : TP} {tl tk : TL} {tt tu : TB} {pos p : Pos} {x y z : PySem.Str}
def texts : List D → Option (List (List Nat))
  | [] => some []
  | .str s :: r => (texts r).map (s :: ·)
  | _ :: _ => none
theorem texts_eq : ∀ {ds : List D} {ss : List (List Nat)}, texts ds = some ss → ds = ss.map D.str
  | [], ss, h => by cases h; rfl
  | d :: r, ss, h => by
    cases d with
    | str b =>
      unfold texts at h
      cases e : texts r with
      | none => rw [e] at h; cases h
      | some cs =>
        rw [e] at h
        cases h
        rw [List.map_cons, ← texts_eq e]
    | _ => cases h
theorem texts_map : ∀ ss : List (List Nat), texts (ss.map D.str) = some ss
  | [] => rfl
  | b :: r => by
    show (texts (r.map D.str)).map (b :: ·) = _
    rw [texts_map r]
    rfl
def onSs (ds : List D) (k : List (List Nat) → Prop) : Prop := match texts ds with
  | some ss => k ss
  | none => False
theorem onSs_map {ss : List (List Nat)} {k : List (List Nat) → Prop} : onSs (ss.map D.str) k = k ss := by
  unfold onSs
  rw [texts_map]
theorem onSs_elim {ds : List D} {k : List (List Nat) → Prop} (h : onSs ds k) : ∃ ss, ds = ss.map D.str ∧ k ss := by
  unfold onSs at h
  cases e : texts ds with
  | none => simp only [e] at h
  | some ss =>
    simp only [e] at h
    exact ⟨ss, texts_eq e, h⟩
theorem denL_str {K : PySem.W.Frag} {G : Hp} : ∀ {ss : List (List Nat)} {vs : List V}, DenL K G vs (ss.map D.str) → vs = (ss.map SS).map V.str
  | [], _, h => by cases h; rfl
  | b :: r, _, h => by
    cases h with
    | cons h1 h2 =>
      cases h1
      rw [denL_str h2]
      rfl
theorem joinL_ss (s : List Nat) (ss : List (List Nat)) : Txt.join (SS s) (ss.map SS) = SS (joinL s ss) := by
  have q := tl_join (SS s) (ss.map SS)
  rw [List.map_map] at q
  have e : (tl ∘ SS) = fun s : List Nat => s := by
    funext s
    show (SS s).cps.toList = s
    simp [SS]
  rw [e, List.map_id'] at q
  rw [join_eq]
  have e2 : (SS s).cps.toList = s := by simp [SS]
  have q' : (PySem.Str.join (SS s) (ss.map SS)).cps.toList = joinL s ss := by
    have : tl (SS s) = s := e2
    rw [this] at q
    exact q
  show _ = PySem.Str.mk (joinL s ss).toArray
  rw [← q']
def joinSize (s : List Nat) (ss : List (List Nat)) : Nat := (ss.map (·.length)).sum + ss.length * s.length
def fJoin (s : List Nat) : D → KD → Prop
  | .lst xs, k => onSs xs fun ss => joinSize s ss ≤ 16777216 ∧ k (.str (joinL s ss))
  | .tup xs, k => onSs xs fun ss => joinSize s ss ≤ 16777216 ∧ k (.str (joinL s ss))
  | _, _ => False
def onStr (d : D) (k : List Nat → Prop) : Prop := match d with
  | .str s => k s
  | _ => False
def tpJoin (ta tb : TP) : TP := fun Γ k kx => ta Γ (fun d => onStr d fun s => tb Γ (fun y => fJoin s y k) kx) kx
def rJoin (K : PySem.W.Frag) : V → List V → Hp → VK → Prop := fun x xs H Q => ∃ a p, ∃ ys : List PySem.Str, x = .str a ∧ xs = [.ref p] ∧ (SqL K H p (ys.map V.str) ∨ SqT K H p (ys.map V.str)) ∧
  (ys.map (·.length)).sum + ys.length * a.length ≤ 16777216 ∧ Q (.str (Txt.join a ys)) H
theorem joinSize_ss (s : List Nat) (ss : List (List Nat)) : ((ss.map SS).map (·.length)).sum + (ss.map SS).length * (SS s).length = joinSize s ss := by
  unfold joinSize
  rw [List.map_map, List.length_map, ss_length]
  have e : ((fun x : PySem.Str => x.length) ∘ SS) = fun s : List Nat => s.length := by
    funext s
    exact ss_length s
  rw [e]
theorem rd_join {ea eb : TE} (ra : RdP X.K W ea ta) (rb : RdU X.K W eb tb) : RdP X.K W (tM1 (rJoin X.K) ea eb) (tpJoin ta tb) := by
  intro G0 H0 Γ σ G H k kx Q F ht hk hx
  refine ra G0 H0 Γ σ G H _ kx _ F ht (fun d1 v1 G1 H1 k1 x1 n1 => ?_) hx
  -- the text
  cases d1 with
  | str s =>
    cases n1
    refine ⟨⟨_, rfl⟩, ?_⟩
    refine rb G0 H0 Γ σ G1 H1 _ kx _ (F.up x1) k1 (fun d2 v2 G2 H2 k2 x2 n2 => ?_) (hx.up x1)
    cases d2 with
    | lst xs =>
      obtain ⟨ss, rfl, hz, k3⟩ := onSs_elim (show onSs xs fun ss => joinSize s ss ≤ 16777216 ∧ k (.str (joinL s ss)) from k2)
      obtain ⟨q, ys, rfl, h1, r1⟩ := n2.lst x2.sub
      rw [denL_str r1] at h1
      exact ⟨SS s, q, ss.map SS, rfl, rfl, .inl (SqL.of h1), by rw [joinSize_ss]; exact hz, by rw [joinL_ss]; exact hk _ _ G2 H2 k3 (x1.trans x2) (.str _)⟩
    | tup xs =>
      obtain ⟨ss, rfl, hz, k3⟩ := onSs_elim (show onSs xs fun ss => joinSize s ss ≤ 16777216 ∧ k (.str (joinL s ss)) from k2)
      obtain ⟨q, ys, rfl, h1, r1⟩ := n2.tup x2.sub
      rw [denL_str r1] at h1
      exact ⟨SS s, q, ss.map SS, rfl, rfl, .inr h1, by rw [joinSize_ss]; exact hz, by rw [joinL_ss]; exact hk _ _ G2 H2 k3 (x1.trans x2) (.str _)⟩
    | _ => exact k2.elim
  | _ => exact k1.elim
theorem p_join {call : Expr} (ha : PP X W a ta) (hb : PU X W b tb) (hc : ∀ ea eb, PE X a ea → PE X b eb → PE X call (tM1 (rJoin X.K) ea eb)) : PP X W call (tpJoin ta tb) := by
  obtain ⟨ea, pa, ra⟩ := ha.ex
  obtain ⟨eb, pb, rb⟩ := hb.ex
  exact ⟨_, hc _ _ pa pb, rd_join ra rb⟩
def stores : List Nat → List D → Ga → Option Ga
  | [], [], Γ => some Γ
  | i :: r, d :: s, Γ => stores r s (gset Γ i (.pu d))
  | _, _, _ => none
def tsPar (is : List Nat) (tl : TL) : TSp := fun P Γ => tl Γ (fun ds => match stores is ds Γ with
  | some Γ' => P.nx Γ'
  | none => False) (fun x => P.xx x Γ)
theorem s_par2 (i j : Nat) {px py pt : Pos} {kt k2 pt2} (hc : X.calm = true) (hN : X.N.Nodup) (h : PL' X W [a, b] tl) (hij : i ≠ j := by decide) (hi : X.N[i]? = some x := by rfl) (hj : X.N[j]? = some y := by rfl)
    (hx : X.env.scope.names.lookup x = some .local := by rfl) (hy : X.env.scope.names.lookup y = some .local := by rfl)
    (hw : swappedStores [.Tuple [.Name x px, .Name y py] kt pt] (.Tuple [a, b] k2 pt2) X.env = pure (some [x, y]) := by rfl)
    (hs : swapsWithSole [.Tuple [.Name x px, .Name y py] kt pt] (.Tuple [a, b] k2 pt2) pos.line X.env = pure false := by rfl) :
    PS1 X W (.Assign [.Tuple [.Name x px, .Name y py] kt pt] (.Tuple [a, b] k2 pt2) pos) (tsPar [i, j] tl) := by
  obtain ⟨ea, pa, ra⟩ := h.ex
  refine ⟨_, ps_par hc hN hi hj hij hx hy pa hw hs, fun G0 H0 Γ σ G H P E F ht ok => ?_⟩
  refine ra G0 H0 Γ σ G H _ _ _ F ht (fun ds vs G' H' k xt n => ?_) (ok.x F)
  match ds, k, n with
  | [d1, d2], k, .cons n1 (.cons n2 .nil) => exact ⟨_, _, rfl, ok.nx _ _ G' H' k (((F.up xt).set i n1).set j n2)⟩
def tpChain (f g : F2) (ta tb tc : TP) : TP := fun Γ k kx => ta Γ (fun d1 => tb Γ (fun d2 => f d1 d2 fun r => onB r fun q => if q = true then tc Γ (fun d3 => g d2 d3 k) kx else k (.bl false)) kx) kx
theorem p_chain {op op2 : CmpOp} {r r2 : R2} {f g : F2} (ho : OpR X (compareOp op) r ∧ RdO X.K r f) (ho2 : OpR X (compareOp op2) r2 ∧ RdO X.K r2 g) (ha : PU X W a ta) (hb : PU X W b tb) (hc : PU X W c tc) (hpe : ∀ {ea eb ec}, PE X a ea → PE X b eb → PE X c ec → PE X e (tChain r r2 ea eb ec)) :
    PP X W e (tpChain f g ta tb tc) := by
  obtain ⟨ea, pa, ra⟩ := ha.ex
  obtain ⟨eb, pb, rb⟩ := hb.ex
  obtain ⟨ec, pc, rc⟩ := hc.ex
  refine ⟨_, hpe pa pb pc, fun G0 H0 Γ σ G H k kx Q F ht hk hx => ?_⟩
  refine ra G0 H0 Γ σ G H _ kx _ F ht (fun d1 v1 G1 H1 k1 x1 n1 => ?_) hx
  refine rb G0 H0 Γ σ G1 H1 _ kx _ (F.up x1) k1 (fun d2 v2 G2 H2 k2 x2 n2 => ?_) (hx.up x1)
  refine ho.2 H0 G2 H2 v1 v2 d1 d2 _ _ x2.sub (n1.up x2) n2 k2 fun d v G3 H3 k3 x3 n3 => ?_
  obtain ⟨q, rfl, k3⟩ := onB_elim k3
  refine ⟨q, DenU.bl (.inl n3) (H0 := H0) (H := H3), ?_⟩
  have x13 := (x1.trans x2).trans x3
  cases q with
  | true =>
    refine rc G0 H0 Γ σ G3 H3 _ kx _ (F.up x13) k3 (fun d3 v3 G4 H4 k4 x4 n4 => ?_) (hx.up x13)
    exact ho2.2 H0 G4 H4 v2 v3 d2 d3 k Q x4.sub (n2.up (x3.trans x4)) n4 k4 fun d v G' H' kd ex dn => hk d v G' H' kd ((x13.trans x4).trans ex) dn
  | false => exact hk _ _ G3 H3 k3 x13 (.bl _)
end
end PL
set_option Elab.async false
set_option linter.all false
set_option maxRecDepth 100000
set_option maxHeartbeats 2000000
namespace PL
open PySem L2
variable [Tabl]
def hole (H : Hp) (p : Addr) : Hp := fun a => if a = p then none else H a
theorem hole_at {H : Hp} {p : Addr} : hole H p p = none := by unfold hole; rw [if_pos rfl]
theorem hole_ne {H : Hp} {p a : Addr} (h : a ≠ p) : hole H p a = H a := by unfold hole; rw [if_neg h]
theorem hole_same {H : Hp} {p : Addr} : Same (hole H p) H := fun a o e => by
  by_cases h : a = p
  · subst h
    rw [hole_at] at e
    cases e
  · rwa [hole_ne h] at e
/-- the j-th argument is an object of the caller's that the def changes: what it holds behind the call is handed on too -/
abbrev FSo := List D → (D → D → Prop) → KX → Prop
def spOw (K : PySem.W.Frag) (n j : Nat) (fs : FSo) : Sp := fun vs H Q E => ∃ G ds k kx p, vs.length = n ∧ ds.length = n ∧ Sub G H ∧ G p = none ∧ vs[j]? = some (.ref p) ∧ (∃ d, ds[j]? = some d ∧ OwnAt K (hole H p) G H p d) ∧
  (∀ (i : Nat) v d, i ≠ j → vs[i]? = some v → ds[i]? = some d → Den K G v d) ∧ fs ds k kx ∧
  (∀ d e v G' H', k d e → Ext G (hole H p) G' H' → G' p = none → OwnAt K (hole H p) G' H' p e → Den K G' v d → Q v H') ∧
  (∀ x cls dA G' H', kx x → Ext G (hole H p) G' H' → G' p = none → XDen K G' H' cls dA x → E cls dA H')
def oEnds (j : Nat) (p : Addr) (k : D → D → Prop) (kx : KX) : PEn := ⟨fun Γ => match gat Γ j with | .pw q e => q = p ∧ k .non e | _ => False, fun _ => False, fun _ => False, fun d Γ => match gat Γ j with | .pw q e => q = p ∧ k d e | _ => False,
  fun x Γ => match gat Γ j with | .pw q _ => q = p ∧ kx x | _ => False⟩
def gaO (m j : Nat) (p : Addr) (ds : List D) : Ga := gset (ga0 m ds) j (.pw p (ds.getD j .non))
theorem frO {K : PySem.W.Frag} {G H : Hp} {N : List PySem.Str} {vs : List V} {ds : List D} {p : Addr} {j : Nat} {d : D} (s : Sub G H) (hl : vs.length = ds.length) (g : G p = none) (hv : vs[j]? = some (.ref p)) (hd : ds[j]? = some d) (ho : OwnAt K (hole H p) G H p d)
    (hr : ∀ (i : Nat) v d, i ≠ j → vs[i]? = some v → ds[i]? = some d → Den K G v d) : Fr K G (hole H p) (gaO N.length j p ds) (L2.start N vs) G H := by
  have hj : j < ds.length := (List.getElem?_eq_some_iff.mp hd).1
  have hjd : ds.getD j .non = d := by rw [List.getD_eq_getElem?_getD, hd]; rfl
  have la : (ga0 N.length ds).length = (L2.start N vs).length := by unfold L2.start ga0; simp [hl]
  have lj : j < (ga0 N.length ds).length := by unfold ga0; rw [List.length_append, List.length_map]; omega
  have key : ∀ i, i ≠ j → (∃ d, ds[i]? = some d ∧ (ga0 N.length ds)[i]? = some (.pu d)) ∨ (ds.length ≤ i ∧ ∀ s, (ga0 N.length ds)[i]? = some s → s = .un) := fun i _ => by
    by_cases h : i < ds.length
    · refine .inl ⟨ds[i], List.getElem?_eq_getElem h, ?_⟩
      unfold ga0
      rw [List.getElem?_append_left (by rw [List.length_map]; exact h), List.getElem?_map, List.getElem?_eq_getElem h]
      rfl
    · refine .inr ⟨Nat.le_of_not_lt h, fun s e => ?_⟩
      unfold ga0 at e
      rw [List.getElem?_append_right (by rw [List.length_map]; omega)] at e
      have := List.mem_of_getElem? e
      exact (List.mem_replicate.mp this).2
  have pw_only : ∀ (i : Nat) (s : Sl), (gaO N.length j p ds)[i]? = some s → s.owns → i = j := fun i s h ow => by
    by_cases hi : i = j
    · exact hi
    · exfalso
      unfold gaO at h
      rw [gset_eq, List.getElem?_set_ne (Ne.symm hi)] at h
      rcases key i hi with ⟨d, e, q⟩ | ⟨_, q⟩
      · rw [q] at h
        cases h
        exact ow
      · rw [q s h] at ow
        exact ow
  refine ⟨by unfold gaO; rw [gset_eq, List.length_set]; exact la.symm, ⟨.of hole_same, Same.refl G, fun _ h _ => h, s⟩, fun i t h => ?_, fun a b q t u h1 h2 h3 h4 _ _ => (pw_only a t h1 h2).trans (pw_only b u h3 h4).symm⟩
  by_cases hi : i = j
  · subst hi
    unfold gaO at h
    rw [gset_eq, List.getElem?_set_self lj] at h
    cases h
    rw [hjd]
    refine ⟨?_, g, hole_at, ho⟩
    unfold L2.start
    rw [List.getElem?_append_left (by rw [List.length_map, hl]; exact hj), List.getElem?_map, hv]
    rfl
  · unfold gaO at h
    rw [gset_eq, List.getElem?_set_ne (Ne.symm hi)] at h
    rcases key i hi with ⟨d, e, q⟩ | ⟨_, q⟩
    · rw [q] at h
      cases h
      have hi2 : i < vs.length := by rw [hl]; exact (List.getElem?_eq_some_iff.mp e).1
      refine ⟨vs[i], ?_, hr i _ d hi (List.getElem?_eq_getElem hi2) e⟩
      unfold L2.start
      rw [List.getElem?_append_left (by rw [List.length_map]; exact hi2), List.getElem?_map, List.getElem?_eq_getElem hi2]
      rfl
    · rw [q t h]
      trivial
section
variable {P : Program} {w : World} {K : PySem.W.Frag} {mg : PySem.Str → Option Value} {base : Heap}
theorem fn_okO {x qual : PySem.Str} {st : Stmt} {f : Addr} {fd : FuncData} {N ps : List PySem.Str} {k n j : Nat} {fs : FSo} (F : Fun K x qual st f fd) (S : FnScope N ps (defScope st)) (hn : ps.length = n)
    (body : ∀ (cdv : Value) (A : Around) (outer : List Env) (s : Shared) (H : Hp) (E : XK), Room k (A.deeper (PyProof.Rows.envOfC qual (defScope st) s.heap.objs.size f cdv)) →
      ∃ t, PSS (cxOf (L2.CX P w) P w K mg base N qual (defScope st) f cdv A outer s H E) (fun cls d _ H => E cls d H) (defBody st) t ∧ ∀ ds kd kx p, ds.length = n → fs ds kd kx → t (oEnds j p kd kx) (gaO N.length j p ds)) :
    FnOk P w K mg base (L2.CX P w) (k + 1) f fd ps (spOw K n j fs) := by
  refine F.okX S (fun vs H Q E h => ?_) (fun cdv A outer s H vs Q E hr h => ?_)
  · obtain ⟨G, ds, kd, kx, p, b, _⟩ := h
    rw [b, hn]
  · obtain ⟨G, ds, kd, kx, p, hlv, hl, sb, g, hv, ⟨d, hd, ho⟩, r, hf, hk, hx⟩ := h
    obtain ⟨t, ⟨ts, ps, rd⟩, ht⟩ := body cdv A outer s H E hr
    have F0 := frO (N := N) sb (hlv.trans hl.symm) g hv hd ho r
    have fin : ∀ {Γ σ G' H'} {k0 : D → Prop}, (match gat Γ j with | .pw q e => q = p ∧ k0 e | _ => False) → Fr K G (hole H p) Γ σ G' H' → ∃ e, k0 e ∧ G' p = none ∧ OwnAt K (hole H p) G' H' p e := fun {Γ σ G' H' k0} q F' => by
      cases e : gat Γ j with
      | pw q2 e2 =>
        rw [e] at q
        obtain ⟨rfl, q⟩ := q
        obtain ⟨_, g2, _, o2⟩ := F'.at_ j _ (gat_get Γ j _ e (by simp))
        exact ⟨e2, q, g2, o2⟩
      | _ => rw [e] at q; exact q.elim
    refine ⟨ts, ps, rd G (hole H p) _ (L2.start N vs) G H (oEnds j p kd kx) _ F0 (ht ds kd kx p hl hf) ⟨?_, ?_, ?_, ?_, ?_⟩⟩
    · intro Γ σ G' H' q F'
      obtain ⟨e, q, g2, o2⟩ := fin q F'
      exact hk .non e .non G' H' q F'.e g2 o2 .non
    · intro Γ σ G' H' q
      exact q.elim
    · intro Γ σ G' H' q
      exact q.elim
    · intro d v Γ σ G' H' q F' n
      obtain ⟨e, q, g2, o2⟩ := fin q F'
      exact hk d e v G' H' q F'.e g2 o2 n
    · intro x cls dA Γ σ G' H' q F' n
      obtain ⟨e, q, g2, o2⟩ := fin (k0 := fun _ => kx x) q F'
      exact hx x cls dA G' H' q F'.e g2 n
end
section
variable {X : Cx} {W : WX} {e a b c : Expr} {es : List Expr} {t ta tb tc : TP} {tl tk : TL} {tt tu : TB} {pos p : Pos} {x y z : PySem.Str}
def tsSetIx (i : Nat) (ti te : TP) : TSp := fun P Γ => te Γ (fun d => onOL Γ i fun ds => ti Γ (fun j => match j with
  | .int n => match ixN ds.length n with
    | some m => P.nx (oput Γ i (.lst (ds.set m d)))
    | none => False
  | _ => False) (fun x => P.xx x Γ)) (fun x => P.xx x Γ)
theorem rd_setIx {ei ee : TE} {ti te : TP} (i : Nat) (ri : RdP X.K W ei ti) (re : RdP X.K W ee te) : RdS X.K W (tAsg ee (gSub (tVar i) ei rSetL)) (tsSetIx i ti te) := by
  intro G0 H0 Γ σ G H P E F ht ok
  refine re G0 H0 Γ σ G H _ _ _ F ht (fun d v G1 H1 k1 x1 n1 => ?_) (ok.x F)
  obtain ⟨ds, hs, k1⟩ := onOL_elim k1
  have F1 := F.up x1
  obtain ⟨key, p, e1, g1, h01, xs0, q1, q2⟩ := own_at F1 hs
  refine ⟨.ref p, e1, ?_⟩
  refine ri G0 H0 Γ σ G1 H1 _ _ _ F1 k1 (fun d2 v2 G2 H2 k2 x2 n2 => ?_) ((ok.x F).up x1)
  cases d2 with
  | int n =>
    cases n2
    cases e : ixN ds.length n with
    | none => simp only [e] at k2
    | some m =>
      simp only [e] at k2
      have F2 := F1.up x2
      obtain ⟨_, p', e2, g2, h02, xs, q3, q4⟩ := own_at F2 hs
      rw [e1] at e2
      cases e2
      refine ⟨p, xs, n, m, rfl, rfl, q3, by rw [q4.length]; exact e, ?_⟩
      exact ok.nx _ _ _ _ k2 (F2.mut key hs e1 g2 h02 q3 trivial ⟨_, upd_same, q4.set (n1.up x2.g) m⟩)
  | _ => exact k2.elim
theorem s_setIx (i : Nat) {o ix : Expr} {ti te : TP} {p2 : Pos} (ho : PE X o (tVar i)) (hi : PP X W ix ti) (he : PP X W e te) (hps : ∀ {ei ee}, PE X ix ei → PE X e ee → PS X (.Assign [.Subscript o ix p2] e pos) (tAsg ee (gSub (tVar i) ei rSetL))) :
    PS1 X W (.Assign [.Subscript o ix p2] e pos) (tsSetIx i ti te) := by
  obtain ⟨ei, pi, ri⟩ := hi.ex
  obtain ⟨ee, pe, re⟩ := he.ex
  exact ⟨_, hps pi pe, rd_setIx i ri re⟩
end
section
variable {P : Program} {w : World}
theorem bag_vals {l : Addr} {i g s : Int} {its : List Value} (h : Vals [.ref l, .int i, .int g, .int s] its) : ∃ t1 t2 t3, its = [.ref l, .int i t1, .int g t2, .int s t3] := by
  cases h with
  | cons h1 h =>
    cases h with
    | cons h2 h =>
      cases h with
      | cons h3 h =>
        cases h with
        | cons h4 h =>
          cases h
          cases h1
          obtain ⟨t1, rfl⟩ := h2
          obtain ⟨t2, rfl⟩ := h3
          obtain ⟨t3, rfl⟩ := h4
          exact ⟨t1, t2, t3, rfl⟩
/-- the list is hidden -/
theorem bag_close {H : Hp} {h : Heap} {b l : Addr} {i n : Nat} {g s : Int} (ok : HOk P w H h) (hb : H b = some (.lst [.ref l, .int i, .int g, .int s])) (hi : i ≤ n) (hg : 0 ≤ g) (h0 : 0 ≤ s) (h1 : s < 2147483543) : HOk P w (upd H b (.ext (BagRaw b l n))) h := by
  intro c o e
  by_cases hc : c = b
  · subst hc
    rw [upd_same] at e
    cases e
    obtain ⟨_, its, m, r, q⟩ := (show ObjOk P w H h c (.lst [.ref l, .int i, .int g, .int s]) from ok c _ hb)
    obtain ⟨t1, t2, t3, rfl⟩ := bag_vals r
    exact ⟨⟨m, i, g, s, t1, t2, t3, hi, hg, h0, h1, q⟩, ⟨_, q⟩, fun h1 h2 ⟨m, i, g, s, t1, t2, t3, a1, a2, a3, a4, a5⟩ k => ⟨m, i, g, s, t1, t2, t3, a1, a2, a3, a4, k _ a5⟩⟩
  · rw [upd_ne hc] at e
    refine (ok c o e).stay (fun _ _ _ q => q) (fun d q => ?_) (fun d xs q => ?_)
    · rw [upd_ne (fun z => by rw [z, hb] at q; cases q)]
      exact q
    · rw [upd_ne (fun z => by rw [z, hb] at q; cases q)]
      exact q
/-- .. is seen -/
theorem bag_open {H : Hp} {h : Heap} {b l : Addr} {n : Nat} (ok : HOk P w H h) (hb : H b = some (.ext (BagRaw b l n))) : ∃ (i : Nat) (g s : Int), i ≤ n ∧ 0 ≤ g ∧ 0 ≤ s ∧ s < 2147483543 ∧ HOk P w (upd H b (.lst [.ref l, .int i, .int g, .int s])) h := by
  obtain ⟨⟨m, i, g, s, t1, t2, t3, a1, a2, a3, a4, a5⟩, _, _⟩ := (show ObjOk P w H h b (.ext (BagRaw b l n)) from ok b _ hb)
  refine ⟨i, g, s, a1, a2, a3, a4, fun c o e => ?_⟩
  by_cases hc : c = b
  · subst hc
    rw [upd_same] at e
    cases e
    exact ⟨by show 4 ≤ sizeLine; decide, [.ref l, .int i t1, .int g t2, .int s t3], m, .cons rfl (.cons ⟨t1, rfl⟩ (.cons ⟨t2, rfl⟩ (.cons ⟨t3, rfl⟩ .nil))), a5⟩
  · rw [upd_ne hc] at e
    refine (ok c o e).stay (fun _ _ _ q => q) (fun d q => ?_) (fun d xs q => ?_)
    · rw [upd_ne (fun z => by rw [z, hb] at q; cases q)]
      exact q
    · rw [upd_ne (fun z => by rw [z, hb] at q; cases q)]
      exact q
theorem un_close {fs : List Addr} {H H' : Hp} {h h' : Heap} {b l : Addr} {n : Nat} {xs : List V} (u : Un fs [] H H' h h') (hb : H' b = some (.lst xs)) (h0 : H b = none ∨ ∃ φ, H b = some (.ext φ)) : Un fs [] H (upd H' b (.ext (BagRaw b l n))) h h' where
  keep := u.keep
  slot := u.slot
  free := fun c o q z hx => by
    have e := u.free c o q z hx
    rw [upd_ne (fun z => by rw [z, hb] at e; cases e)]
    exact e
  there := u.there
  tups := fun c ys z => by
    have e := u.tups c ys z
    rw [upd_ne (fun z => by rw [z, hb] at e; cases e)]
    exact e
  frzs := fun c o v z => by
    have e := u.frzs c o v z
    rw [upd_ne (fun z => by rw [z, hb] at e; cases e)]
    exact e
  tbls := fun c ps z => by
    obtain ⟨more, e⟩ := u.tbls c ps z
    exact ⟨more, by rw [upd_ne (fun z => by rw [z, hb] at e; cases e)]; exact e⟩
theorem un_open {fs : List Addr} {H H' : Hp} {h h' : Heap} {b : Addr} {φ : Heap → Prop} {o : HO} (u : Un fs [] (upd H b o) H' h h') (hb : H b = some (.ext φ)) : Un fs [] H H' h h' where
  keep := fun c o q z hf hx => u.keep c o q (by rw [upd_ne (fun y => by rw [y, hb] at z; cases z)]; exact z) hf hx
  slot := fun c o q z hf hx => u.slot c o q (by rw [upd_ne (fun y => by rw [y, hb] at z; cases z)]; exact z) hf hx
  free := fun c o q z hx => u.free c o q (by rw [upd_ne (fun y => by rw [y, hb] at z; cases z)]; exact z) hx
  there := u.there
  tups := fun c ys z => u.tups c ys (by rw [upd_ne (fun y => by rw [y, hb] at z; cases z)]; exact z)
  frzs := fun c o v z => u.frzs c o v (by rw [upd_ne (fun y => by rw [y, hb] at z; cases z)]; exact z)
  tbls := fun c ps z => u.tbls c ps (by rw [upd_ne (fun y => by rw [y, hb] at z; cases z)]; exact z)
variable {K : PySem.W.Frag} {mg : PySem.Str → Option Value} {base : Heap}
/-- a number below n is drawn -/
def fsPull : FS := fun ds k _ => match ds with
  | [.bag, .int n] => (1 ≤ n ∧ n < 1073741824) ∧ ∀ r : Int, 0 ≤ r → r < n → k (.int r)
  | _ => False
/-- what the body of the drawing must do -/
def PullOk (fs : FSo) : Prop := ∀ (l : Addr) (ns : List Int) (i : Nat) (g s n : Int) (k : D → D → Prop), ns.length ≤ 63 → i ≤ ns.length → 0 ≤ g → 0 ≤ s → s < 2147483543 → 1 ≤ n → n < 1073741824 →
  (∀ (r : Int) (i' : Nat) (g' s' : Int), 0 ≤ r → r < n → i' ≤ ns.length → 0 ≤ g' → 0 ≤ s' → s' < 2147483543 → k (.int r) (.lst [.cel l ns, .int i', .int g', .int s'])) →
  fs [.lst [.cel l ns, .int i, .int g, .int s], .int n] k (fun _ => False)
theorem denL_bag {K : PySem.W.Frag} {G : Hp} {l : Addr} {ns : List Int} {i g s : Int} {xs : List V} (h : DenL K G xs [.cel l ns, .int i, .int g, .int s]) : xs = [.ref l, .int i, .int g, .int s] := by
  cases h with
  | cons h1 h =>
    cases h with
    | cons h2 h =>
      cases h with
      | cons h3 h =>
        cases h with
        | cons h4 h =>
          cases h
          cases h1
          cases h2
          cases h3
          cases h4
          rfl
theorem pull_conv {f : Addr} {fd : FuncData} {ps : List PySem.Str} {k : Nat} {fs : FSo} (F : FnOk P w K mg base (L2.CX P w) k f fd ps (spOw K 2 0 fs)) (hn : ps.length = 2) (hp : PullOk fs) : FnOk P w K mg base (L2.CX P w) k f fd ps (spOf K 2 fsPull) := by
  refine ⟨fun vs H Q E h => ?_, fun A outer s H args us vs Q E hr he hb hv h => ?_⟩
  · obtain ⟨G, ds, kd, kx, _, b, c, _⟩ := h
    rw [b.length, c, hn]
  · obtain ⟨G, ds, kd, kx, sb, r, hl, hf, hk, hx⟩ := h
    match ds, r, hf with
    | [.bag, .int n], .cons (.bag (a := b) ⟨l, ns, gb, gl, nbl, n63⟩) (.cons (.int _) .nil), ⟨⟨hn1, hn2⟩, hf⟩ =>
      have Hb : H b = some (.ext (BagRaw b l ns.length)) := sb.at_ gb (fun z => z)
      have Hl : H l = some (.lst (ns.map V.int)) := sb.at_ gl (fun z => z)
      obtain ⟨i, g, sd, a1, a2, a3, a4, ok1⟩ := bag_open he.hok Hb
      have nb : ∀ {c}, H c = none → c ≠ b := fun {c} z y => by rw [y, Hb] at z; cases z
      have e1 : Env0 P w K mg base A outer s (upd H b (.lst [.ref l, .int i, .int g, .int sd])) :=
        ⟨he.frames, he.mod, fun c o q => ⟨(he.bs c o q).1, by rw [upd_ne (nb (he.bs c o q).2)]; exact (he.bs c o q).2⟩, he.bsz, he.funs, fun c q => by rw [upd_ne (nb (he.frf c q))]; exact he.frf c q, ok1, he.bare⟩
      have g1 : hole G b b = none := hole_at
      have gl1 : hole G b l = some (.lst (ns.map V.int)) := by rw [hole_ne (Ne.symm nbl)]; exact gl
      have nco : ∀ {c : Addr} {q : PySem.Str}, H c = some (LamX.CodeO c q) → c ≠ b := fun {c q} e z => by
        subst z
        have e2 := Option.some.inj (e.symm.trans Hb)
        obtain ⟨⟨_, _, _, _, _, _, _, _, _, _, _, a5⟩, _⟩ := (show ObjOk P w H s.heap c (.ext (BagRaw c l ns.length)) from he.hok c _ Hb)
        obtain ⟨⟨oc, vs, t, b1, b2, b3⟩, _⟩ := (show ObjOk P w H s.heap c (LamX.CodeO c q) from he.hok c _ e)
        rw [a5] at b1
        cases b1
        cases b2
      have tb1 : LamX.Tabs Tabl.T (upd H b (.lst [.ref l, .int i, .int g, .int sd])) := fun q hq => by
        obtain ⟨ps, h1, h2, h3⟩ := sb.tb q hq
        have nT : q.1 ≠ b := fun z => by rw [z, Hb] at h1; cases h1
        refine ⟨ps, by rw [upd_ne nT]; exact h1, h2, fun pos cv hc => ?_⟩
        obtain ⟨c, e1, e2⟩ := h3 pos cv hc
        exact ⟨c, e1, by rw [upd_ne (nco e2)]; exact e2⟩
      have sb1 : Sub (hole G b) (upd H b (.lst [.ref l, .int i, .int g, .int sd])) := ⟨fun c o q => by
        have hc : c ≠ b := fun z => by rw [z, g1] at q; cases q
        rw [hole_ne hc] at q
        rw [upd_ne hc]
        exact sb.m c o q, fun c o q => by
        have hc : c ≠ b := fun z => by rw [z, g1] at q; cases q
        rw [hole_ne hc] at q
        exact sb.nt c o q, tb1⟩
      refine codeAny_mono (F.run A outer s (upd H b (.lst [.ref l, .int i, .int g, .int sd])) args us _ (fun v H' => ∃ (d : D) (i' : Nat) (g' s' : Int) (G' : Hp), kd d ∧ i' ≤ ns.length ∧ 0 ≤ g' ∧ 0 ≤ s' ∧ s' < 2147483543 ∧
          Ext (hole G b) (hole (upd H b (.lst [.ref l, .int i, .int g, .int sd])) b) G' H' ∧ G' b = none ∧ H' b = some (.lst [.ref l, .int i', .int g', .int s']) ∧ Den K G' v d) E0 hr e1 hb hv ?_) (fun rs s' hq => ?_)
      · refine ⟨hole G b, [.lst [.cel l ns, .int i, .int g, .int sd], .int n], fun d e => ∃ (r : Int) (i' : Nat) (g' s' : Int), d = .int r ∧ kd d ∧ i' ≤ ns.length ∧ 0 ≤ g' ∧ 0 ≤ s' ∧ s' < 2147483543 ∧ e = .lst [.cel l ns, .int i', .int g', .int s'], fun _ => False, b, rfl, rfl, sb1, g1, rfl, ⟨_, rfl, ?_⟩, ?_, ?_, ?_, ?_⟩
        · exact ⟨_, upd_same, .cons (.cel gl1) (.cons (.int _) (.cons (.int _) (.cons (.int _) .nil)))⟩
        · intro j v d hj hv hd
          match j, hj with
          | 0, hj => exact absurd rfl hj
          | 1, _ =>
            cases hv
            cases hd
            exact .int _
          | j + 2, _ => simp at hv
        · exact hp l ns i g sd n _ n63 a1 a2 a3 a4 hn1 hn2 fun r i' g' s' b1 b2 b3 b4 b5 b6 => ⟨r, i', g', s', rfl, hf r b1 b2, b3, b4, b5, b6, rfl⟩
        · rintro d e v G' H' ⟨r, i', g', s', _, kk, b3, b4, b5, b6, rfl⟩ x gp ⟨xs, o1, o2⟩ dn
          rw [denL_bag o2] at o1
          exact ⟨d, i', g', s', G', kk, b3, b4, b5, b6, x, gp, o1, dn⟩
        · intro x cls dA G' H' z
          exact z.elim
      · cases rs with
        | error e => exact (by obtain ⟨_, _, _, _, _, _, _, _, _, _, _, _, z⟩ := hq; exact z.elim)
        | ok fl =>
          cases fl with
          | ret u =>
            obtain ⟨v, H', os, bare, un, hok, rv, d, i', g', z', G', kk, b3, b4, b5, b6, x, gp, hb', dn⟩ := hq
            have un1 : Un (frs outer) [] H H' s.heap s'.heap := un_open un Hb
            refine ⟨v, upd H' b (.ext (BagRaw b l ns.length)), os, bare, un_close un1 hb' (.inr ⟨_, Hb⟩), bag_close hok hb' b3 b4 b5 b6, rv, ?_⟩
            have same' : Same G' (upd G' b (.ext (BagRaw b l ns.length))) := same_upd gp
            refine hk d v (upd G' b (.ext (BagRaw b l ns.length))) _ kk ⟨⟨fun c o q nt => ?_, fun c o q => ?_, fun t q hq => tab_upd (x.sub.tb q hq) hb' trivial⟩, fun c o q => ?_, fun c q ⟨o, z⟩ => ?_, ⟨fun c o q => ?_, fun c o q => ?_, fun q hq => tab_upd (x.sub.tb q hq) hb' trivial⟩⟩ (dn.up same')
            · by_cases hc : c = b
              · subst hc
                rw [Hb] at q
                cases q
                exact upd_same
              · rw [upd_ne hc]
                exact x.h.k c o (by rw [hole_ne hc, upd_ne hc]; exact q) nt
            · by_cases hc : c = b
              · subst hc
                exact ⟨_, upd_same⟩
              · rw [upd_ne hc]
                exact x.h.t c o (by rw [hole_ne hc, upd_ne hc]; exact q)
            · by_cases hc : c = b
              · subst hc
                rw [gb] at q
                cases q
                exact upd_same
              · rw [upd_ne hc]
                exact x.g c o (by rw [hole_ne hc]; exact q)
            · have hc : c ≠ b := fun y => by rw [y, gb] at q; cases q
              rw [upd_ne hc]
              exact x.nw c (by rw [hole_ne hc]; exact q) ⟨o, by rw [hole_ne hc, upd_ne hc]; exact z⟩
            · by_cases hc : c = b
              · subst hc
                rw [upd_same] at q ⊢
                exact .inl q
              · rw [upd_ne hc] at q ⊢
                exact x.sub.m c o q
            · by_cases hc : c = b
              · subst hc
                rw [upd_same] at q
                cases q
                intro ps z
                cases z
              · rw [upd_ne hc] at q
                exact x.sub.nt c o q
          | next => exact False.elim hq
          | brk => exact False.elim hq
          | cont => exact False.elim hq
end
end PL
set_option Elab.async false
set_option linter.all false
set_option maxRecDepth 100000
set_option maxHeartbeats 4000000
namespace PySem
namespace ExcX
open PySem.W PySem.Calls PyProof.Rows PySem.HandSPX
def xHead (cn : Str) (q0 q1 q2 q3 q4 q5 q6 q7 q8 q9 : Pos) (rest : List Stmt) : List Stmt :=
  .Expr (.Call (.Attribute (.Call (.Name "super" q0) [] [] q1) "__init__" q2) [.Constant (.str cn) 0 q3] [] q4) q5 ::
  .Assign [.Attribute (.Name "self" q6) "tag" q7] (.Constant (.str cn) 0 q8) q9 :: rest
/-- super().__init__('..') on one line -/
def SupEv (cn : Str) (q0 q1 q2 q3 q4 : Pos) : Prop := ∀ env : Env, ∃ pl : Sem Bool, eval (.Call (.Attribute (.Call (.Name "super" q0) [] [] q1) "__init__" q2) [.Constant (.str cn) 0 q3] [] q4) env = (do
  let ov ← attributeBase (.Call (.Name "super" q0) [] [] q1) "__init__" env (eval (.Call (.Name "super" q0) [] [] q1) env)
  standAt q2.atName
  let (f, first) ← holding [ov] (getMethod ov "__init__" pl)
  callWith q4 f first (backTo q4 (starEach [.Constant (.str cn) 0 q3] env)) [])
end ExcX
end PySem
namespace L2
open PySem PySem.Spec PyProof.Rows
end L2
namespace PL
open PySem L2
end PL
set_option Elab.async false
set_option linter.all false
set_option maxRecDepth 100000
set_option maxHeartbeats 4000000
namespace PySem.W
open PySem PySem.Calls PyProof.Rows
section
variable {M : Model} {K : Frag} {h : Heap}
theorem looks_yield {β : Type} {body : Value → β → Sem (ForInStep β)} {init : β} : ∀ {l : List Value}, (∀ c ∈ l, Looks M h (body c init) (.yield init)) → Looks M h (forIn l init body) init
  | [], _ => fun A Q E s k q => by
    rw [List.forIn_nil]
    exact wpAny_pure q
  | c :: l, hb => fun A Q E s k q => by
    rw [List.forIn_cons]
    exact wpAny_bind (hb c List.mem_cons_self A _ E s k (looks_yield (fun d hd => hb d (List.mem_cons_of_mem _ hd)) A _ E s k q))
theorem looks_any {β : Type} {body : Value → β → Sem (ForInStep β)} {init x1 : β} {f : Value → Bool} : ∀ {l : List Value}, (∀ c ∈ l, Looks M h (body c init) (if f c = true then .done x1 else .yield init)) → Looks M h (forIn l init body) (if l.any f = true then x1 else init)
  | [], _ => fun A Q E s k q => by
    rw [List.forIn_nil]
    exact wpAny_pure q
  | c :: l, hb => fun A Q E s k q => by
    rw [List.forIn_cons]
    refine wpAny_bind (hb c List.mem_cons_self A _ E s k ?_)
    rw [List.any_cons] at q
    cases hc : f c with
    | true =>
      rw [hc] at q
      exact wpAny_pure q
    | false =>
      rw [hc] at q
      exact looks_any (fun d hd => hb d (List.mem_cons_of_mem _ hd)) A _ E s k q
theorem exmAny_all : ∀ {cls : Value} {cs : List Value} {b : Bool}, exmAny K cls cs = some b → (∀ c ∈ cs, exmOne K cls c = some ((exmOne K cls c).getD false)) ∧ b = cs.any fun c => (exmOne K cls c).getD false
  | cls, [], b, h => ⟨fun c hc => absurd hc (by simp), by cases h; rfl⟩
  | cls, c :: r, b, h => by
    obtain ⟨b1, d1, h1, h2, rfl⟩ := exmAny_cons h
    obtain ⟨h3, rfl⟩ := exmAny_all h2
    refine ⟨fun d hd => ?_, ?_⟩
    · rcases List.mem_cons.mp hd with rfl | hd
      · rw [h1]
        rfl
      · exact h3 d hd
    · rw [List.any_cons, h1]
      rfl
theorem exm_tupN {cs : List Value} {cls : Value} {tp e : Addr} {b : Bool} (X : K.In h) (LT : Looks M h (typeOf (.ref e)) cls) (hp : h.get? tp = some { cls := .type "tuple", data := .seq cs.toArray }) (hx : exmAny K cls cs = some b) :
    Looks M h (excMatches (.ref e) (.ref tp)) b := by
  intro A Q E s k₀ q
  obtain ⟨hh, g, d, tk, os⟩ := s
  have k : ∀ b o, h.get? b = some o → hh.get? b = some o := k₀
  have LT0 : Looks M h (isInstance (.ref tp) (.type "tuple")) true := ((Looks.ld hp).andThen .now).andThen (Looks.of_pure isSubtype_tuple_tuple)
  obtain ⟨hx2, e2⟩ := exmAny_all hx
  subst e2
  have LT := LT.keeps k
  have LT0 := LT0.keeps k
  have hp' := k _ _ hp
  unfold excMatches
  refine wpAny_bind (LT0.at ?_)
  dsimp only
  rw [if_pos rfl]
  first
    | refine wpAny_bind (wpAny_seqItems hp' rfl ?_)
    | refine wpAny_bind (wpAny_bind (wpAny_seqItems hp' rfl (wpAny_pure ?_)))
  dsimp only [Option.getD_some, Option.getD]
  refine wpAny_bind (wpAny_pure ?_)
  refine wpAny_bind ((looks_yield (M := M) (h := hh) (fun c hc => ?_)).at ?_)
  · obtain ⟨e1, _⟩ := exm_cls (M := M) X (hx2 c hc)
    exact (e1.keeps k).andThen (by
      simp only [Bool.not_true, Bool.false_eq_true, if_false]
      exact .now)
  · refine wpAny_bind (LT.at ?_)
    refine wpAny_bind ((looks_any (M := M) (h := hh) (f := fun c => (exmOne K cls c).getD false) (x1 := (some true, ())) (fun c hc => ?_)).at ?_)
    · obtain ⟨_, S1⟩ := exm_cls (M := M) X (hx2 c hc)
      refine (S1.keeps k).andThen ?_
      cases hb : (exmOne K cls c).getD false with
      | true => exact .now
      | false => exact .now
    · cases hb : cs.any (fun c => (exmOne K cls c).getD false) with
      | true =>
        rw [hb] at q
        exact wpAny_pure q
      | false =>
        rw [hb] at q
        exact wpAny_pure q
end
end PySem.W
namespace L2
open PySem PySem.Spec PyProof.Rows
/-- flying on in a heap that keeps all -/
theorem fly_keeps {B : Heap} {l : List Env} {a : Addr} {Z : Obj → Prop} {h h' : Heap} (k : ∀ b o, h.get? b = some o → h'.get? b = some o) (fl : HandSPX.FlyingZ B l a Z h) : HandSPX.FlyingZ B l a Z h' := by
  obtain ⟨h1, h2, h3, oe, vs, T, oT, ts, a1, a2, a3, a4, a5, a6, a7, a8, a9⟩ := fl
  exact ⟨fun b o e => k b o (h1 b o e), h2, h3.of_keeps fun b o e _ => ⟨o, k b o e, rfl⟩, oe, vs, T, oT, ts, k _ _ a1, a2, a3, a4, a5, a6, k _ _ a7, a8, a9⟩
/-- the names of classes in a tuple of them -/
inductive NamesOk (X : Cx) : List Expr → List Value → Prop
  | nil : NamesOk X [] []
  | cons {x : Str} {np : Pos} {c : Value} {es : List Expr} {cs : List Value} : Names X x c → NamesOk X es cs → NamesOk X (.Name x np :: es) (c :: cs)
theorem names_spliced {X : Cx} {a : Addr} {pn : List (Addr × Obj)} {pins : List (Addr × Obj)} {σ : St} {H : Hp} {s : Shared} {pos : Pos} {E : Value → Shared → Prop} (S : Inv (X.suite a pn) pins σ H s) : ∀ {es : List Expr} {cs : List Value}, NamesOk X es cs → ∀ {Q : List Value → Shared → Prop}, Q cs s →
    wpAny (model X.prog X.w) (X.suite a pn).A (spliced (backTo pos (starEach es X.env))) Q E s
  | _, _, .nil, Q, q => Calls.spliced_nil q
  | _, _, .cons (x := x) (np := np) (c := c) (es := es) (cs := cs) hc r, Q, q => by
    show wpAny _ _ (spliced ((false, eval (.Name x np) X.env) :: backTo pos (starEach es X.env))) _ _ _
    refine Calls.spliced_cons ?_
    have z := names_spliced (pos := pos) (E := E) S r (Q := fun vs s₂ => Q (c :: vs) s₂) q
    obtain ⟨hg, hdbg, hm | ⟨hm, hv, hnn⟩⟩ := hc
    · exact ld_glob (X := X.suite a pn) S hg hm z hdbg
    · exact ld_blt (X := X.suite a pn) S hg hm hv z hnn hdbg
theorem NamesOk.len {X : Cx} : ∀ {es : List Expr} {cs : List Value}, NamesOk X es cs → es.length = cs.length
  | _, _, .nil => rfl
  | _, _, .cons _ r => by rw [List.length_cons, List.length_cons, r.len]
/-- what is matched: one class, a tuple of classes -/
inductive TestOk (X : Cx) : Expr → (Value → Option Bool) → Prop
  | one {x : Str} {np : Pos} {c : Value} : Names X x c → TestOk X (.Name x np) fun cls => PySem.W.exmOne X.K cls c
  | tup {es : List Expr} {k : Nat} {tp : Pos} {cs : List Value} : NamesOk X es cs → cs.length ≤ 100 → TestOk X (.Tuple es k tp) fun cls => PySem.W.exmAny X.K cls cs
theorem test_ok {X : Cx} {te : Expr} {m : Value → Option Bool} (T : TestOk X te m) {a : Addr} {oe : Obj} {pn : List (Addr × Obj)} {pins : List (Addr × Obj)} {σ : St} {H : Hp} {s : Shared} {cls : Value} {b : Bool} (S : Inv (X.suite a pn) pins σ H s) (he : s.heap.get? a = some oe) (hc : oe.cls = cls)
    (hb : m cls = some b) {Q : Bool → Shared → Prop} {E1 E2 : Value → Shared → Prop} (h : ∀ h', (∀ b o, s.heap.get? b = some o → h'.get? b = some o) → Q b { s with heap := h' }) :
    wpAny (model X.prog X.w) (X.suite a pn).A (eval te X.env) (fun c s₁ => wpAny (model X.prog X.w) (X.suite a pn).A (excMatches (.ref a) c) Q E1 s₁) E2 s := by
  have LT : ∀ {h' : Heap}, (∀ b o, s.heap.get? b = some o → h'.get? b = some o) → PySem.W.Looks (model X.prog X.w) h' (typeOf (.ref a)) cls := fun k A Q E s k' q => wpAny_typeOf_ref (k' _ _ (k _ _ he)) (by rw [hc]; exact q)
  cases T with
  | one hn =>
    have LM := PySem.W.exm_one (M := model X.prog X.w) S.kIn (LT fun _ _ e => e) hb
    have z : wpAny (model X.prog X.w) (X.suite a pn).A (excMatches (.ref a) _) Q E1 s := LM.here (h s.heap fun _ _ e => e)
    obtain ⟨hg, hdbg, hm | ⟨hm, hv, hnn⟩⟩ := hn
    · exact ld_glob (X := X.suite a pn) S hg hm z hdbg
    · exact ld_blt (X := X.suite a pn) S hg hm hv z hnn hdbg
  | @tup es k tp cs hn hl =>
    refine wpAny_Tuple (names_spliced S hn ⟨?_, ?_⟩)
    · rw [PySem.sizeLine_eq]
      omega
    · have kk : ∀ b o, s.heap.get? b = some o → (s.heap.push { cls := .type "tuple", data := .seq cs.toArray }).get? b = some o := fun b o e => Heap.get?_push_of_some _ e
      have LM := PySem.W.exm_tupN (M := model X.prog X.w) (S.kIn.keeps kk) (LT kk) (Heap.get?_push_size _ rfl) hb
      exact LM.here (h _ kk)
/-- an exception of the class cls (its dict d) stands caught in the heap h; J tells of the state sI as it was without it -/
structure Caught (X : Cx) (B : Heap) (pins : List (Addr × Obj)) (σ : St) (H : Hp) (sI s : Shared) (a : Addr) (cls : Value) (d : Option Addr) (h : Heap) : Prop where
  inv : Inv X pins σ H sI
  ground : ∀ b o, sI.heap.get? b = some o → b ∉ frs X.stack → B.get? b = some o
  stack : X.stack = X.env :: X.outer
  frame : X.env.frame = some X.env.locals
  fly : HandSPX.FlyingZ B (X.env :: X.outer) a (Zc cls d) h
  up : sI.heap.UpToSlots h
  free : H a = none
  os : s.os = sI.os
  bare : AllBare s.gens
section
variable {X : Cx} {B : Heap} {pins : List (Addr × Obj)} {σ : St} {H : Hp} {sI s : Shared} {a : Addr} {cls : Value} {d : Option Addr} {h h' : Heap}
theorem Caught.grow (c : Caught X B pins σ H sI s a cls d h) (k : ∀ b o, h.get? b = some o → h'.get? b = some o) : Caught X B pins σ H sI s a cls d h' :=
  { c with fly := fly_keeps k c.fly, up := c.up.trans (.of_keeps k) }
theorem Caught.now (c : Caught X B pins σ H sI s a cls d h) : Inv X pins σ H { s with heap := h } := c.inv.landed c.ground c.fly.1 c.up c.os c.bare
/-- its own object is no frame -/
theorem Caught.apart (c : Caught X B pins σ H sI s a cls d h) : a ∉ frs (X.env :: X.outer) := fun m => by
  obtain ⟨o, vs, e, _, dt⟩ := c.fly.there
  obtain ⟨_, o', e', no⟩ := c.fly.2.2.1.mem m
  cases e.symm.trans e'
  exact no vs dt
theorem Caught.inSuite (c : Caught X B pins σ H sI s a cls d h) : ∃ oe, h.get? a = some oe ∧ Zc cls d oe ∧ (∃ vs, oe.data = .fields vs) ∧ Inv (X.suite a ((a, oe) :: (X.pn ++ pins))) [] σ H { s with heap := h } := by
  obtain ⟨oe, vs, e, z, dt⟩ := c.fly.there
  have n1 : a ≠ X.env.locals := fun y => c.apart (List.mem_filterMap.mpr ⟨X.env, List.mem_cons_self, by rw [c.frame, y]⟩)
  have n2 : a ∉ X.fs := fun m => by
    obtain ⟨v, hv, q⟩ := List.mem_filterMap.mp m
    exact c.apart (List.mem_filterMap.mpr ⟨v, List.mem_cons_of_mem _ hv, q⟩)
  exact ⟨oe, e, z, ⟨vs, dt⟩, c.now.suite e dt c.free n1 n2⟩
/-- no clause is left: it goes on -/
theorem Caught.goes (c : Caught X B pins σ H sI s a cls d h) {W : WX} {Q : Flow → Shared → Prop} (tk : Takes X W) (w : W cls d σ H) : wpAny (model X.prog X.w) X.A (handleBy (.ref a) X.env []) Q X.xe { s with heap := h } := by
  refine wpAny_handleBy_nil ?_
  obtain ⟨_, _, _, oe, vs, T, _, _, e, _, dt, e1, _⟩ := id c.fly
  have off : wpAny (model X.prog X.w) X.A (setFlight (.ref a) X.env.frame) (fun _ s2 => wpAny (model X.prog X.w) X.A (throw (.ref a) : Sem Flow) Q X.xe s2) X.xe { s with heap := h } := by
    rw [c.frame]
    refine HandSPX.setFlight_upZ c.fly fun h2 held up2 => wpAny_throw (tk _ _ ⟨a, B, sI, pins, σ, H, cls, d, rfl, c.inv, c.ground, c.up.trans up2, .inr (.inr ?_), c.free, c.os, c.bare, w⟩)
    rw [c.stack]
    exact held
  unfold PySem.passOn
  refine wpAny_bind (wpAny_field e dt e1 ?_)
  rw [if_neg (by simp)]
  first
    | exact wpAny_bind (wpAny_pure (wpAny_bind off))
    | exact wpAny_bind off
end
/-- the name of a clause: none, or the name of slot i -/
inductive AsOk (X : Cx) : Option Str → Option Nat → Prop
  | no : AsOk X none none
  | as {n : Str} {i : Nat} (hN : X.N.Nodup) (hi : X.N[i]? = some n) (hl : X.env.kindOf n = some .local) : AsOk X (some n) (some i)
/-- the slot of the clause's name -/
def asSet : Option Nat → St → Option V → St
  | none, σ, _ => σ
  | some i, σ, v => σ.set i v
/-- the ends of a clause's suite: its name is gone behind it -/
def asEnds (j : Option Nat) (D : Ends) : Ends := { nx := fun σ H => D.nx (asSet j σ none) H, rt := D.rt, bk := fun σ H => D.bk (asSet j σ none) H, ct := fun σ H => D.ct (asSet j σ none) H }
/-- what the clauses wish of an exception of the body -/
def wManyA (Wout : WX) (D : Ends) : List ((Value → Option Bool) × Option Nat × (Addr → Value → Option Addr → TS)) → WX
  | [] => Wout
  | (m, j, ts) :: r => fun cls d σ H => ∃ b, m cls = some b ∧ (b = true → ∀ a, H a = none → ts a cls d (asEnds j D) (asSet j σ (some (.ref a))) H) ∧ (b = false → wManyA Wout D r cls d σ H)
inductive HdsA (X : Cx) : List ExceptHandler → List ((Value → Option Bool) × Option Nat × (Addr → Value → Option Addr → TS)) → Prop
  | nil : HdsA X [] []
  | cons {te : Expr} {m : Value → Option Bool} {nm : Option Str} {j : Option Nat} {ts : Addr → Value → Option Addr → TS} {b₀ : Stmt} {suite : List Stmt} {pos' : Pos} {hds : List ExceptHandler} {l : List ((Value → Option Bool) × Option Nat × (Addr → Value → Option Addr → TS))} (hc : TestOk X te m) (hn : AsOk X nm j)
      (hsu : ∀ (a : Addr) (oe : Obj) (cls : Value) (d : Option Addr) (pn : List (Addr × Obj)), Zc cls d oe → (∃ vs, oe.data = .fields vs) → PSs (X.suite a ((a, oe) :: pn)) (b₀ :: suite) (ts a cls d)) (r : HdsA X hds l) :
      HdsA X (.ExceptHandler (some te) nm (b₀ :: suite) pos' :: hds) ((m, j, ts) :: l)
section
variable {X : Cx} {B : Heap} {pins : List (Addr × Obj)} {σ : St} {H : Hp} {sI s : Shared} {a : Addr} {cls : Value} {d : Option Addr} {h : Heap} {D : Ends} {Wout : WX}
/-- the suite of the clause that took it -/
theorem Caught.taken (c : Caught X B pins σ H sI s a cls d h) {nm : Option Str} {j : Option Nat} {ts : Addr → Value → Option Addr → TS} {b₀ : Stmt} {suite : List Stmt} {pos' : Pos} (hn : AsOk X nm j)
    (hsu : ∀ (a : Addr) (oe : Obj) (cls : Value) (d : Option Addr) (pn : List (Addr × Obj)), Zc cls d oe → (∃ vs, oe.data = .fields vs) → PSs (X.suite a ((a, oe) :: pn)) (b₀ :: suite) (ts a cls d))
    (w : ts a cls d (asEnds j D) (asSet j σ (some (.ref a))) H) :
    codeAny (model X.prog X.w) (X.A.mark (some (.ref a))) (.handlers (.ref a) [.ExceptHandler none nm (b₀ :: suite) pos'] X.env)
      (fun r s2 => match (generalizing := false) r with
        | .ok f => (match (generalizing := false) nm with
          | none => SP X pins D f s2
          | some n => wpAny (model X.prog X.w) X.A (do bindName X.env n .none; unbindBehindTheSuite X.env n pos') (fun _ s3 => SP X pins D f s3) X.xe s2)
        | .error x => cameBackBy (model X.prog X.w) X.A X.env X.xe x s2) { s with heap := h } := by
  have ok := c.inv.ok
  cases hn with
  | no =>
    refine codeAny_handlers_suite (HandSPX.lands_againZ c.fly fun h2 fly2 up2 => ?_)
    obtain ⟨oe, _, z, dt, J⟩ := ({ c with fly := fly2, up := c.up.trans up2 } : Caught X B pins σ H sI s a cls d h2).inSuite
    refine wpAny_mono ((hsu a oe cls d _ z dt).run [] _ σ H _ J w) (fun f s2 q => ?_) fun _ _ q => q.elim
    cases f with
    | ret u =>
      obtain ⟨v, σ2, H2, J2, rv, q⟩ := q
      exact ⟨v, σ2, H2, J2.unsuite ok, rv, q⟩
    | next => exact let ⟨σ2, H2, J2, q⟩ := q; ⟨σ2, H2, J2.unsuite ok, q⟩
    | brk => exact let ⟨σ2, H2, J2, q⟩ := q; ⟨σ2, H2, J2.unsuite ok, q⟩
    | cont => exact let ⟨σ2, H2, J2, q⟩ := q; ⟨σ2, H2, J2.unsuite ok, q⟩
  | @as n i hN hi hl =>
    refine codeAny_handlers_suite_as (HandSPX.lands_againZ c.fly fun h2 fly2 up2 => ?_)
    obtain ⟨oe, _, z, dt, J⟩ := ({ c with fly := fly2, up := c.up.trans up2 } : Caught X B pins σ H sI s a cls d h2).inSuite
    refine store_ok (X := X.suite a ((a, oe) :: (X.pn ++ pins))) (v := .ref a) J hN hi (.inl hl) rfl (fun s1 J1 => ?_) (.inr hl)
    refine wpAny_mono ((hsu a oe cls d _ z dt).run [] s1 _ H _ J1 w) (fun f s2 q => ?_) fun _ _ q => q.elim
    cases f with
    | ret u =>
      obtain ⟨v, σ2, H2, J2, rv, q⟩ := q
      exact gone_ok (J2.unsuite ok) hN hi hl fun s3 J3 => ⟨v, _, H2, J3, rv, q⟩
    | next =>
      obtain ⟨σ2, H2, J2, q⟩ := q
      exact gone_ok (J2.unsuite ok) hN hi hl fun s3 J3 => ⟨_, H2, J3, q⟩
    | brk =>
      obtain ⟨σ2, H2, J2, q⟩ := q
      exact gone_ok (J2.unsuite ok) hN hi hl fun s3 J3 => ⟨_, H2, J3, q⟩
    | cont =>
      obtain ⟨σ2, H2, J2, q⟩ := q
      exact gone_ok (J2.unsuite ok) hN hi hl fun s3 J3 => ⟨_, H2, J3, q⟩
/-- the clauses, one after the other -/
theorem Caught.clauses (tk : Takes X Wout) {hds : List ExceptHandler} {l : List ((Value → Option Bool) × Option Nat × (Addr → Value → Option Addr → TS))} (hk : HdsA X hds l) :
    ∀ {h : Heap}, Caught X B pins σ H sI s a cls d h → wManyA Wout D l cls d σ H → wpAny (model X.prog X.w) X.A (handleBy (.ref a) X.env hds) (SP X pins D) X.xe { s with heap := h } := by
  induction hk with
  | nil => exact fun c w => c.goes tk w
  | cons hc hn hsu r ih =>
    rintro h c ⟨b, hb, yes, no⟩
    obtain ⟨oe, e, z, _, J⟩ := c.inSuite
    refine wpAny_handleBy_cons (codeAny_handlers_test (test_ok hc J e z.1 hb fun h2 k => ?_)) fun q => nomatch q
    cases b with
    | true => exact (c.grow k).taken hn hsu (yes rfl a c.free)
    | false => exact ih (c.grow k) (no rfl)
end
section
variable {X : Cx} {body : List Stmt} {h₀ : ExceptHandler} {hds : List ExceptHandler} {l : List ((Value → Option Bool) × Option Nat × (Addr → Value → Option Addr → TS))} {pos : Pos} {tb : WX → TS} {Wout : WX}
/-- try: body, any clauses -/
theorem ps_tryA (hs : X.stack = X.env :: X.outer) (hf : X.env.frame = some X.env.locals) (tk : Takes X Wout)
    (hb : ∀ (W : WX) (pn : List (Addr × Obj)) (xe : Value → Shared → Prop), Takes (X.tr pn xe) W → PassesOwn (model X.prog X.w) X.A X.env xe → PSs (X.tr pn xe) body (tb W))
    (hh : HdsA X (h₀ :: hds) l) : PS X (.Try body (h₀ :: hds) [] [] pos) (fun D σ H => tb (wManyA Wout D l) D σ H) := by
  refine ⟨fun pins s σ H D I h => wpAny_Try_except ?_⟩
  have ok := I.ok
  have fr : X.A.frames = some (X.env :: X.outer) := ok.frames.trans (congrArg some hs)
  have run := hb (wManyA Wout D l) (X.pn ++ pins) (fun e s1 => wpAny (model X.prog X.w) X.A (noteFrame e X.env) (fun _ s2 => wpAny (model X.prog X.w) X.A (setFlight e none) (fun _ s3 => wpAny (model X.prog X.w) X.A (handleBy e X.env (h₀ :: hds)) (SP X pins D) X.xe s3) X.xe s2) X.xe s1)
    (fun u s1 z => by
      obtain ⟨a, B, sI, pins1, σ1, H1, cls, d, rfl, J, gr, up, sky, na, os, ag, w⟩ := z
      rw [show (X.tr (X.pn ++ pins) _).stack = X.env :: X.outer from hs] at sky
      exact Sky.land Zc.steady fr hf sky fun h2 fly up2 => Caught.clauses tk hh ⟨J.ofTry ok, gr, hs, hf, fly, up.trans up2, na, os, ag⟩ w) PassesOwn.looking
  refine wpAny_mono (run.run [] s σ H D (I.toTry _) h) (fun f s1 q => ?_) fun _ _ q => q
  cases f with
  | ret u =>
    obtain ⟨v, σ1, H1, J, rv, q⟩ := q
    exact ⟨v, σ1, H1, J.ofTry ok, rv, q⟩
  | next => exact let ⟨σ1, H1, J, q⟩ := q; wpAny_execs_nil ⟨σ1, H1, J.ofTry ok, q⟩
  | brk => exact let ⟨σ1, H1, J, q⟩ := q; ⟨σ1, H1, J.ofTry ok, q⟩
  | cont => exact let ⟨σ1, H1, J, q⟩ := q; ⟨σ1, H1, J.ofTry ok, q⟩
end
end L2
set_option Elab.async false
set_option linter.all false
set_option maxRecDepth 100000
set_option maxHeartbeats 4000000
namespace PL
open PySem L2
variable [Tabl]
def teOf (K : PySem.W.Frag) (W : WX) (t : TP) : TE := fun σ H Q => ∃ G0 H0 Γ G k kx, Fr K G0 H0 Γ σ G H ∧ t Γ k kx ∧ (∀ d v G' H', k d → Ext G H G' H' → Den K G' v d → Q v H') ∧ XOk K W G H σ kx
def tsOf (K : PySem.W.Frag) (W : WX) (t : TSp) : TS := fun E σ H => ∃ G0 H0 Γ G P, Fr K G0 H0 Γ σ G H ∧ t P Γ ∧ EOk K W G0 H0 P E
section
variable {X : Cx} {W : WX} {e : Expr} {b : List Stmt} {t : TP} {s : TSp}
theorem PP.w (h : PP X W e t) : PE X e (teOf X.K W t) := by
  obtain ⟨te, p, r⟩ := h.ex
  exact ⟨fun pins s σ H Q I ⟨G0, H0, Γ, G, k, kx, F, ht, hk, hx⟩ => p.run pins s σ H Q I (r G0 H0 Γ σ G H k kx Q F ht hk hx)⟩
theorem PSS.w (h : PSS X W b s) : PSs X b (tsOf X.K W s) := by
  obtain ⟨ts, p, r⟩ := h.ex
  exact ⟨fun pins s σ H D I ⟨G0, H0, Γ, G, P, F, ht, ok⟩ => p.run pins s σ H D I (r G0 H0 Γ σ G H P D F ht ok)⟩
end
theorem Fr.put {K : PySem.W.Frag} {G0 H0 G H : Hp} {Γ : Ga} {σ : L2.St} (F : Fr K G0 H0 Γ σ G H) {ov : Option V} {t : Sl} (i : Nat) (n : ¬ t.owns) (r : SlOk K H0 G H (some ov) t) : Fr K G0 H0 (gset Γ i t) (σ.set i ov) G H := by
  have old : ∀ {j : Nat} {s : Sl}, (Γ.set i t)[j]? = some s → s.owns → Γ[j]? = some s ∧ j ≠ i := fun {j s} h o => by
    have hj : i ≠ j := fun z => by
      subst z
      rw [List.getElem?_set_self (by rw [← List.length_set (i := i) (a := t)]; exact (List.getElem?_eq_some_iff.mp h).1)] at h
      cases h
      exact n o
    rw [List.getElem?_set_ne hj] at h
    exact ⟨h, Ne.symm hj⟩
  rw [gset_eq]
  refine ⟨by rw [List.length_set, List.length_set]; exact F.len, F.e, fun j s h => ?_, fun a b p s u h1 h2 h3 h4 h5 h6 => ?_⟩
  · by_cases hj : i = j
    · subst hj
      have hl : i < Γ.length := by
        rw [← List.length_set (i := i) (a := t)]
        exact (List.getElem?_eq_some_iff.mp h).1
      rw [List.getElem?_set_self hl] at h
      cases h
      rw [List.getElem?_set_self (by rw [F.len]; exact hl)]
      exact r
    · rw [List.getElem?_set_ne hj] at h ⊢
      exact F.at_ j s h
  · obtain ⟨q1, n1⟩ := old h1 h2
    obtain ⟨q3, n3⟩ := old h3 h4
    rw [List.getElem?_set_ne (Ne.symm n1)] at h5
    rw [List.getElem?_set_ne (Ne.symm n3)] at h6
    exact F.dj a b p s u q1 h2 q3 h4 h5 h6
def gaSet : Option Nat → Ga → Sl → Ga
  | none, Γ, _ => Γ
  | some i, Γ, s => gset Γ i s
abbrev CL := (Value → Option Bool) × Option Nat × (Addr → Value → Option Addr → TSp)
def catchEn (j : Option Nat) (P : PEn) : PEn := ⟨fun Γ => P.nx (gaSet j Γ .un), fun Γ => P.bk (gaSet j Γ .un), fun Γ => P.ct (gaSet j Γ .un), P.rt, fun _ _ => False⟩
def catchW (P : PEn) : List CL → XD → Ga → Prop
  | [], x, Γ => P.xx x Γ
  | (m, j, ts) :: r, x, Γ => ∃ b, m x.cls = some b ∧ (b = true → ∀ a dA, ts a x.cls dA { catchEn j P with rt := fun d Γ => P.rt d (gaSet j Γ .un) } (gaSet j Γ (.xv a x.cls dA x.fs))) ∧ (b = false → catchW P r x Γ)
def tsTry (tb : TSp) (l : List CL) : TSp := fun P Γ => tb { P with xx := catchW P l } Γ
inductive HdsP (X : Cx) : List ExceptHandler → List CL → Prop
  | nil : HdsP X [] []
  | cons {te : Expr} {m : Value → Option Bool} {nm : Option PySem.Str} {j : Option Nat} {ts : Addr → Value → Option Addr → TSp} {b₀ : Stmt} {suite : List Stmt} {pos' : Pos} {hds : List ExceptHandler} {l : List CL} (hc : TestOk X te m) (hn : AsOk X nm j)
      (hsu : ∀ (a : Addr) (oe : Obj) (cls : Value) (d : Option Addr) (pn : List (Addr × Obj)), Zc cls d oe → (∃ vs, oe.data = .fields vs) → PSS (X.suite a ((a, oe) :: pn)) (fun _ _ _ _ => False) (b₀ :: suite) (ts a cls d)) (r : HdsP X hds l) :
      HdsP X (.ExceptHandler (some te) nm (b₀ :: suite) pos' :: hds) ((m, j, ts) :: l)
section
variable {X : Cx} {W : WX} {body : List Stmt} {h₀ : ExceptHandler} {hds : List ExceptHandler} {l : List CL} {tb : TSp} {pos : Pos}
def lowCl (K : PySem.W.Frag) (l : List CL) : List ((Value → Option Bool) × Option Nat × (Addr → Value → Option Addr → TS)) := l.map fun c => (c.1, c.2.1, fun a cls d => tsOf K (fun _ _ _ _ => False) (c.2.2 a cls d))
theorem HdsP.low (h : HdsP X hds l) : HdsA X hds (lowCl X.K l) := by
  induction h with
  | nil => exact .nil
  | cons hc hn hsu r ih => exact .cons hc hn (fun a oe cls d pn z dt => (hsu a oe cls d pn z dt).w) ih
theorem Fr.asPut {K : PySem.W.Frag} {G0 H0 G H : Hp} {Γ : Ga} {σ : L2.St} (F : Fr K G0 H0 Γ σ G H) {ov : Option V} {t : Sl} (j : Option Nat) (n : ¬ t.owns) (r : SlOk K H0 G H (some ov) t) : Fr K G0 H0 (gaSet j Γ t) (asSet j σ ov) G H := by
  cases j with
  | none => exact F
  | some i => exact F.put i n r
theorem catch_ok {K : PySem.W.Frag} {G0 H0 : Hp} {P : PEn} {E : Ends} (ok : EOk K W G0 H0 P E) : ∀ (l : List CL) (x : XD) (cls : Value) (dA : Option Addr) (Γ : Ga) (σ : L2.St) (G H : Hp), catchW P l x Γ → Fr K G0 H0 Γ σ G H → XDen K G H cls dA x →
    wManyA W E (lowCl K l) cls dA σ H
  | [], x, cls, dA, Γ, σ, G, H, h, F, dn => ok.xx x cls dA Γ σ G H h F dn
  | (m, j, ts) :: r, x, cls, dA, Γ, σ, G, H, ⟨b, hb, yes, no⟩, F, dn => by
    obtain ⟨rfl, dn2⟩ := dn
    refine ⟨b, hb, fun q a ha => ?_, fun q => catch_ok ok r x _ dA Γ σ G H (no q) F ⟨rfl, dn2⟩⟩
    refine ⟨G0, H0, _, G, _, F.asPut (t := .xv a x.cls dA x.fs) j (fun z => z) ⟨rfl, dn2⟩, yes q a dA, ?_⟩
    refine ⟨fun Γ2 σ2 G2 H2 p F2 => ok.nx _ _ _ _ p (F2.asPut j (fun z => z) trivial), fun Γ2 σ2 G2 H2 p F2 => ok.bk _ _ _ _ p (F2.asPut j (fun z => z) trivial), fun Γ2 σ2 G2 H2 p F2 => ok.ct _ _ _ _ p (F2.asPut j (fun z => z) trivial),
      fun d v Γ2 σ2 G2 H2 p F2 n => ok.rt d v _ _ _ _ p (F2.asPut (ov := none) j (fun z => z) trivial) n, fun _ _ _ _ _ _ _ p => p.elim⟩
theorem s_try (hs : X.stack = X.env :: X.outer) (hf : X.env.frame = some X.env.locals) (tk : Takes X W)
    (hb : ∀ (W : WX) (pn : List (Addr × Obj)) (xe : Value → Shared → Prop), Takes (X.tr pn xe) W → PassesOwn (model X.prog X.w) X.A X.env xe → PSS (X.tr pn xe) W body tb) (hh : HdsP X (h₀ :: hds) l) : PS1 X W (.Try body (h₀ :: hds) [] [] pos) (tsTry tb l) := by
  refine ⟨_, ps_tryA (tb := fun W => tsOf X.K W tb) hs hf tk (fun W pn xe t p => (hb W pn xe t p).w) hh.low, fun G0 H0 Γ σ G H P E F ht ok => ?_⟩
  exact ⟨G0, H0, Γ, G, _, F, ht, ⟨ok.nx, ok.bk, ok.ct, ok.rt, fun x cls dA Γ σ G H => catch_ok ok l x cls dA Γ σ G H⟩⟩
end
/-- the class cls lets its field f be read -/
def XFld (K : PySem.W.Frag) (cls : Value) (f : PySem.Str) : Prop := ∃ C, cls = .ref C ∧ PySem.W.findIn K (.ref C) "__getattribute__" = some (some (.builtin "BaseException.__getattribute__")) ∧ PySem.W.findIn K (.ref C) "__getattr__" = some none ∧
  PySem.W.subIn K (.ref C) (.type "BaseException") = some true ∧ PySem.W.hasDictIn K C = true ∧ PySem.W.findIn K (.ref C) f = some none
def onSome (o : Option D) (k : KD) : Prop := match o with
  | some d => k d
  | none => False
def tpXat (K : PySem.W.Frag) (a : Addr) (cls : Value) (d : Option Addr) (i : Nat) (f : PySem.Str) : TP := fun Γ k _ => match gat Γ i with
  | .xv a' _ d' fs => a' = a ∧ d' = d ∧ XFld K cls f ∧ onSome (fs.lookup f) k
  | _ => False
section
variable {X : Cx} {W : WX} {a : Addr} {oe : Obj} {cls : Value} {d : Option Addr} {pn : List (Addr × Obj)} {n f : PySem.Str} {p pos : Pos}
def teXat (K : PySem.W.Frag) (a : Addr) (cls : Value) (d : Option Addr) (i : Nat) (f : PySem.Str) : TE := fun σ H Q => σ[i]? = some (some (.ref a)) ∧ XFld K cls f ∧ ∃ dd fs v, d = some dd ∧ H dd = some (.xd fs) ∧ fs.lookup f = some v ∧ Q v H
theorem pe_xat (i : Nat) (hz : Zc cls d oe) (hf : ∃ vs, oe.data = .fields vs) (hN : X.N[i]? = some n) (hv : Vis X.env.scope n) (hd : (n == ("__debug__" : PySem.Str)) = false) (hcd : (n == ("__classdict__" : PySem.Str)) = false)
    (hb : attributeBase (.Name n p) f X.env (eval (.Name n p) X.env) = eval (.Name n p) X.env) : PE (X.suite a ((a, oe) :: pn)) (.Attribute (.Name n p) f pos) (teXat X.K a cls d i f) := by
  refine ⟨fun pins s σ H Q I h => ?_⟩
  obtain ⟨hs, ⟨C, rfl, ga, gg, ex, hdC, no⟩, dd, fs, v, rfl, ed, lk, q⟩ := h
  refine attr_of hb (thn ((pe_var (X := X.suite a ((a, oe) :: pn)) (pos := p) (i := i) hN hv hd hcd).run pins s σ H (fun v H1 => v = .ref a ∧ H1 = H) I ⟨.ref a, hs, rfl, rfl⟩) fun u s1 hh => ?_)
  obtain ⟨x, H1, I1, rx, rfl, rfl⟩ := hh
  obtain rfl : u = Value.ref a := rx
  obtain ⟨ha, _⟩ := I1.pin (a, oe) (List.mem_append_left _ List.mem_cons_self)
  obtain ⟨vs, dt⟩ := hf
  obtain ⟨mA, hns, hr⟩ := (show ObjOk X.prog X.w H1 s1.heap dd (.xd fs) from I1.hok dd _ ed)
  obtain ⟨od, ho, hl⟩ := lookIn_ns hns
  obtain ⟨u, hu, ru⟩ := RelO.some_of (v := v) (o := mA f) (by rw [← lk]; exact hr f)
  have J : PySem.W.InstAt s1.heap a oe C (some od) := ⟨ha, hz.1, by unfold PySem.W.notCls; rw [dt] <;> rfl, by rw [hz.2]; exact ho⟩
  exact HandSPX.exc_get I1.kIn J ga gg ex (PySem.W.findObj_own hdC no rfl (by rw [hl, hu])) (handed_of ru) ⟨v, H1, I1.tok _, ru, q⟩
theorem p_xat (i : Nat) (hz : Zc cls d oe) (hf : ∃ vs, oe.data = .fields vs) (hN : X.N[i]? = some n := by rfl) (hv : Vis X.env.scope n := by first | exact Or.inl rfl | exact Or.inr (Or.inl rfl) | exact Or.inr (Or.inr rfl)) (hd : (n == ("__debug__" : PySem.Str)) = false := by decide) (hcd : (n == ("__classdict__" : PySem.Str)) = false := by decide)
    (hb : attributeBase (.Name n p) f X.env (eval (.Name n p) X.env) = eval (.Name n p) X.env := by rfl) : PP (X.suite a ((a, oe) :: pn)) W (.Attribute (.Name n p) f pos) (tpXat X.K a cls d i f) := by
  refine ⟨_, pe_xat i hz hf hN hv hd hcd hb, fun G0 H0 Γ σ G H k kx Q F ht hk hx => ?_⟩
  unfold tpXat at ht
  cases hs : gat Γ i with
  | xv a' cls' d' fs =>
    simp only [hs] at ht
    obtain ⟨rfl, rfl, xf, ht⟩ := ht
    obtain ⟨e, r⟩ := F.at_ i _ (gat_get Γ i _ hs (by simp))
    cases lk : fs.lookup f with
    | none => rw [lk] at ht; exact ht.elim
    | some y =>
      rw [lk] at ht
      rcases r with ⟨_, rfl⟩ | ⟨dd, fvs, rfl, e2, df⟩
      · cases lk
      · obtain ⟨v, lv, dn⟩ := df.get lk
        exact ⟨e, xf, dd, fvs, v, rfl, e2, lv, hk y v G H ht (Ext.refl F.sub) dn⟩
  | _ => simp only [hs] at ht
end
end PL
set_option Elab.async false
set_option linter.all false
set_option maxRecDepth 100000
set_option maxHeartbeats 4000000
namespace PL
open PySem L2 PyProof.Rows
variable [Tabl]
/-- the heap with the new code object c' in the table P -/
def tabbed (H : Hp) (P c' : Addr) (ps : Array Value) (pos : Pos) (q : PySem.Str) : Hp := upd (upd H P (.tbl (ps ++ #[rawInt pos.line, rawInt pos.col, .ref c']))) c' (LamX.CodeO c' q)
theorem up_tabbed {H : Hp} {P c' : Addr} {ps : Array Value} {pos : Pos} {q : PySem.Str} (hm : (P, q) ∈ Tabl.T) (hP : H P = some (.tbl ps)) (hc : H c' = none) : Up H (tabbed H P c' ps pos q) := by
  have at_ : ∀ b o, H b = some o → b ≠ P → tabbed H P c' ps pos q b = some o := fun b o e n => by
    unfold tabbed
    rw [upd_ne (ne_of_none e hc), upd_ne n]
    exact e
  have notP : ∀ b o, H b = some o → NT o → b ≠ P := fun b o e n z => by
    rw [z, hP] at e
    cases e
    exact n _ rfl
  have atP : tabbed H P c' ps pos q P = some (.tbl (ps ++ #[rawInt pos.line, rawInt pos.col, .ref c'])) := by
    unfold tabbed
    rw [upd_ne (ne_of_none hP hc), upd_same]
  refine ⟨fun b o e n => at_ b o e (notP b o e n), fun b o e => ?_, fun t r hr => ?_⟩
  · by_cases hb : b = P
    · exact ⟨_, by rw [hb]; exact atP⟩
    · exact ⟨o, at_ b o e hb⟩
  · obtain ⟨ps2, h1, h2, h3⟩ := t r hr
    have code : ∀ {c : Addr} {n : PySem.Str}, H c = some (LamX.CodeO c n) → tabbed H P c' ps pos q c = some (LamX.CodeO c n) := fun {c n} e => at_ c _ e (notP c _ e fun _ z => nomatch z)
    by_cases hb : r.1 = P
    · rw [hb, hP] at h1
      cases h1
      have en : r.2 = q := Tabl.uniq r hr (P, q) hm hb
      rw [hb, en]
      refine ⟨_, atP, ?_, fun p' cv hcv => ?_⟩
      · rw [show (ps ++ #[rawInt pos.line, rawInt pos.col, .ref c']).toList = ps.toList ++ [rawInt pos.line, rawInt pos.col, .ref c'] by simp]
        exact PySem.TriplesOk_snoc _ _ _ _ h2
      · rw [show (ps ++ #[rawInt pos.line, rawInt pos.col, .ref c']).toList = ps.toList ++ [rawInt pos.line, rawInt pos.col, .ref c'] by simp] at hcv
        rcases LamX.among_app _ h2 hcv with z | z
        · obtain ⟨c0, e1, e2⟩ := h3 p' cv z
          exact ⟨c0, e1, by rw [en] at e2; exact code e2⟩
        · exact ⟨c', z, by unfold tabbed; exact upd_same⟩
    · refine ⟨ps2, at_ _ _ h1 hb, h2, fun p' cv hcv => ?_⟩
      obtain ⟨c0, e1, e2⟩ := h3 p' cv hcv
      exact ⟨c0, e1, code e2⟩
section
variable {X : Cx} {pins : List (Addr × Obj)} {σ : L2.St} {H : Hp} {s : Shared}
/-- what the made lambda is, at f; its code object at c' -/
structure LamAt (X : Cx) (params : Arguments) (body : Expr) (scope : Scope) (f c' : Addr) (H : Hp) (s : Shared) : Prop where
  obj : ∃ pm ctv, s.heap.get? f = some (PySem.W.kla_obj "<lambda>" (X.env.qual ++ "<lambda>") params body scope (cloFrom X.env.cells scope.names []) pm c' ctv)
  free : H f = none
  fr : f ∉ frs X.stack
  code : H c' = some (LamX.CodeO c' (X.env.qual ++ "<lambda>"))
theorem lam_made {c P : Addr} {params : Arguments} {body : Expr} {scope : Scope} {pos : Pos} {E : Value → Shared → Prop} {Q : Value → Shared → Prop} (I : Inv X pins σ H s) (TB : LamX.TabB X.base X.mg c P) (hcode : X.env.code = .ref c)
    (hm : (P, X.env.qual ++ "<lambda>") ∈ Tabl.T) (hT : LamX.Tabs Tabl.T H) (hdef : defaultsOf params X.env = ([], [])) (hfree : ∀ y ∈ scope.names, y.2 = .free → ∃ c, X.env.cells.lookup y.1 = some c)
    (h : ∀ (f c' : Addr) (H1 : Hp) (s' : Shared), Inv X pins σ H1 s' → Up H H1 → LamAt X params body scope f c' H1 s' → Q (.ref f) s') : wpAny (model X.prog X.w) X.A (eval (.Lambda params body scope pos) X.env) Q E s := by
  obtain ⟨ps, hP, ht, ha⟩ := hT _ hm
  have gP : s.heap.get? P = some { cls := .none, data := .fields ps } := I.hok P _ hP
  have nofr : ∀ f, s.heap.objs.size ≤ f → f ∉ frs X.stack := fun f hf z => by
    rcases List.mem_cons.mp (I.stkSub _ z) with e | e
    · exact absurd (Nat.lt_of_lt_of_le I.lt hf) (by rw [e]; exact Nat.lt_irrefl _)
    · exact I.nofs hf e
  refine PySem.W.kla_eval hdef ?_
  cases hc : codeAmong pos ps.toList with
  | some cv =>
    obtain ⟨c', rfl, hco⟩ := ha pos cv hc
    refine PySem.W.kla_makeFunctionHit (mg := X.mg) (c := c) (P := P) (ps := ps) (closure_ok hfree) I.ok.glob (I.mod.glob.keeps I.bk) hcode (TB.code.keeps I.bk) gP ht hc (TB.bm.keeps I.bk) fun ctv h' tk hx hsz => ?_
    exact h h'.objs.size c' H _ (I.kept fun b o e => Heap.get?_push_of_some _ (hx b o e)) (Up.refl H) ⟨⟨_, ctv, Heap.get?_push_size _ rfl⟩, I.hok.fresh hsz, nofr _ hsz, hco⟩
  | none =>
    refine PySem.W.kla_makeFunction (mg := X.mg) (c := c) (P := P) (ps := ps) (closure_ok hfree) I.ok.glob (I.mod.glob.keeps I.bk) hcode (TB.code.keeps I.bk) gP ht hc TB.gP (TB.bm.keeps I.bk) fun c' ctv h' tk hx hge hlt hrec htb => ?_
    obtain ⟨_, oc, vs, t, e2, hoc, hd, hv⟩ := hrec
    cases e2
    have hsz : s.heap.objs.size ≤ h'.objs.size := Nat.le_trans hge (Nat.le_of_lt hlt)
    have nC : H c' = none := I.hok.fresh hge
    have J : Inv X pins σ (tabbed H P c' ps pos (X.env.qual ++ "<lambda>")) _ := LamX.inv_table (t' := tk) I hP (fun b o hb e => Heap.get?_push_of_some (h := h') (PySem.W.kla_obj "<lambda>" (X.env.qual ++ "<lambda>") params body scope (cloFrom X.env.cells scope.names []) ((X.mg "__name__").getD .none) c' ctv) (hx b o hb e))
      (Heap.get?_push_of_some _ htb) hge ⟨oc, vs, t, Heap.get?_push_of_some _ hoc, hd, hv⟩
    refine h h'.objs.size c' _ _ J (up_tabbed hm hP nC) ⟨⟨_, ctv, Heap.get?_push_size _ rfl⟩, ?_, nofr _ hsz, by unfold tabbed; exact upd_same⟩
    unfold tabbed
    rw [upd_ne (Nat.ne_of_gt hlt), upd_ne (Nat.ne_of_gt (Nat.lt_of_lt_of_le (Heap.lt_size gP) hsz))]
    exact I.hok.fresh hsz
end
end PL
set_option Elab.async false
set_option linter.all false
set_option maxRecDepth 100000
set_option maxHeartbeats 4000000
namespace PL
open PySem L2 PyProof.Rows
variable [Tabl]
/-- the frame of a def g that got the lambda -/
abbrev cxG (X : Cx) (CXg : CXT) (Ng : List PySem.Str) (qg : PySem.Str) (sg : Scope) (g : Addr) (cdg : Value) (s : Shared) (H : Hp) (Eg : XK) : Cx := cxOf CXg X.prog X.w X.K X.mg X.base Ng qg sg g cdg X.A X.stack s H Eg
/-- the lambda, called by its name a in that frame: tb E, its body's reading where E is wanted of an exception -/
theorem pe_lamact {X : Cx} {pins : List (Addr × Obj)} {σ : L2.St} {H : Hp} {s : Shared} {CXg : CXT} {Eg : XK} {Ng : List PySem.Str} {qg : PySem.Str} {sg : Scope} {g f c' : Addr} {cdg : Value} {params : Arguments} {body : Expr} {scope : Scope} {k i : Nat} {a : PySem.Str} {pn : List (Addr × Obj)}
    {xe : Value → Shared → Prop} {W : WX} {tb : XK → TE} {p1 p2 : Pos} (I : Inv X pins σ H s) (L : LamX.LamS X.env.scope scope) (M : LamAt X params body scope f c' H s)
    (hbind : ∀ (pm ctv : Value), bindArgs (PySem.W.kla_fn "<lambda>" (X.env.qual ++ "<lambda>") params body scope (cloFrom X.env.cells scope.names []) pm (.ref c') ctv) ⟨[], []⟩ = pure [])
    (tk : Takes ((cxG X CXg Ng qg sg g cdg s H Eg).tr pn xe) W) (hr : Room (k + 1) (X.A.deeper (envOfC qg sg s.heap.objs.size g cdg)))
    (hbody : ∀ (E : XK) (A : Around) (outer : List Env) (s : Shared) (H : Hp), Room k (A.deeper (LamX.lamEnv X scope s.heap.objs.size f c')) → PE (LamX.lamCx X A outer s H E scope f c') body (tb E))
    (hN : Ng[i]? = some a) (hv : Vis sg a) (hd : (a == ("__debug__" : PySem.Str)) = false) (hcd : (a == ("__classdict__" : PySem.Str)) = false) :
    PE ((cxG X CXg Ng qg sg g cdg s H Eg).tr pn xe) (.Call (.Name a p1) [] [] p2) (fun τ J Q => τ[i]? = some (some (.ref f)) ∧ J c' = some (LamX.CodeO c' (X.env.qual ++ "<lambda>")) ∧ tb (fun cls d J' => W cls d τ J') σ J Q) := by
  refine ⟨fun pinsZ sZ τ J Q IZ ⟨hs, hc, ht⟩ => wpAny_Call_Name_kw (thn ((pe_var (pos := p1) (i := i) hN hv hd hcd).run pinsZ sZ τ J (fun v J1 => v = .ref f ∧ J1 = J) IZ ⟨.ref f, hs, rfl, rfl⟩) fun u s1 ⟨v, J1, I1, r1, ev, eJ⟩ => ?_)⟩
  subst ev
  subst eJ
  obtain rfl : u = Value.ref f := r1
  obtain ⟨pm, ctv, of0⟩ := M.obj
  have of1 := I1.base.keep f _ of0 M.free M.fr (fun z => nomatch (show f ∈ ([] : List Addr) from z))
  obtain ⟨⟨oc, vs, t, hoc, hdc, hvc⟩, _, _⟩ := I1.hok c' _ hc
  have un : Un (frs X.stack) [] H J1 s.heap s1.heap := I1.base
  have rc : codeAny (model X.prog X.w) (X.A.deeper (envOfC qg sg s.heap.objs.size g cdg)) (.call (.ref f) ⟨[], []⟩) (CR (L2.CX X.prog X.w) (envOfC qg sg s.heap.objs.size g cdg :: X.stack) X.prog X.w J1 s1 Q (fun cls d J' => W cls d τ J')) s1 := by
    refine PySem.W.kla_callFunE hr.depth of1 rfl L.co L.gen rfl ⟨c', oc, vs, t, rfl, hoc, hdc, hvc⟩ ?_
    rw [hbind]
    refine wpAny_pure (wpAny_newFunctionEnv (fun y hy => (L.own y hy).2) (fun y hy => absurd hy (by simp)) (fun h2 hns hsb => ⟨I1.nolimit.fresh _ hsb, ?_⟩) L.kind)
    have kp : ∀ b o, s1.heap.get? b = some o → h2.get? b = some o := fun b o e => hsb.extBut b o (Nat.ne_of_lt (Heap.lt_size e)) (Heap.get?_push_of_some _ e)
    have J2 := LamX.lam_start2 (E := fun cls d J' => W cls d τ J') (f := f) (c' := c') (tk := s1.toks + ([] : List (PySem.Str × Value)).length) I L I1.env0 hr.hd un hns kp
    refine PySem.W.kla_codeExpr (wpAny_mono ((hbody _ _ _ s1 J1 (hr.deeper _)).run [] _ _ J1 Q J2 ht) (fun v s2 q => ?_) fun _ _ q => q)
    obtain ⟨w, H2, K2, rv, q⟩ := q
    exact ⟨w, H2, K2.os, K2.bare, K2.base, K2.hok, rv, q⟩
  refine PySem.W.callWith_F0 ⟨_, _, _, _, of1⟩ (wpAny_call (codeAny_mono rc fun r s2 q => ?_))
  cases r with
  | error e => exact passAt tk τ pinsZ J1 s1 e s2 I1 q
  | ok fl =>
    cases fl with
    | ret u => exact I1.after q
    | next => exact False.elim q
    | brk => exact False.elim q
    | cont => exact False.elim q
/-- what is pure of the slots -/
def purS : Sl → Sl
  | .pu d => .pu d
  | _ => .un
def purify (Γ : Ga) : Ga := Γ.map purS
theorem fr_pure {K : PySem.W.Frag} {G0 H0 G H G' H' : Hp} {Γ : Ga} {σ : L2.St} (F : Fr K G0 H0 Γ σ G H) (e : Same G G') (s : Sub G' H') : Fr K G' H' (purify Γ) σ G' H' := by
  have key : ∀ (i : Nat) (t : Sl), (purify Γ)[i]? = some t → t = .un ∨ ∃ d, t = .pu d ∧ Γ[i]? = some (.pu d) := fun i t h => by
    unfold purify at h
    rw [List.getElem?_map] at h
    cases e : Γ[i]? with
    | none => rw [e] at h; cases h
    | some u =>
      rw [e] at h
      cases h
      cases u with
      | pu d => exact .inr ⟨d, rfl, rfl⟩
      | _ => exact .inl rfl
  refine ⟨by rw [F.len]; unfold purify; rw [List.length_map], Ext.refl s, fun i t h => ?_, fun a b p t u h1 h2 => ?_⟩
  · rcases key i t h with rfl | ⟨d, rfl, q⟩
    · trivial
    · obtain ⟨v, e1, r⟩ := F.at_ i _ q
      exact ⟨v, e1, r.up e⟩
  · rcases key a t h1 with rfl | ⟨d, rfl, q⟩
    · exact h2.elim
    · exact h2.elim
/-- the call of what slot i holds: th, what it answers -/
def tpAct (i : Nat) (v : V) (c : Addr) (u : HO) (Gx : Hp) (th : KD → KX → Prop) : TP := fun Γ k kx => (match gat Γ i with
  | .kp v' c' u' G' => v' = v ∧ c' = c ∧ u' = u ∧ G' = Gx
  | _ => False) ∧ th k kx
theorem p_lamact {X : Cx} {pins : List (Addr × Obj)} {σ : L2.St} {H : Hp} {s : Shared} {CXg : CXT} {Eg : XK} {Ng : List PySem.Str} {qg : PySem.Str} {sg : Scope} {g f c' : Addr} {cdg : Value} {params : Arguments} {body : Expr} {scope : Scope} {k i : Nat} {a : PySem.Str} {pn : List (Addr × Obj)}
    {xe : Value → Shared → Prop} {W : WX} {tE : TP} {p1 p2 : Pos} {G0 H0 G : Hp} {Γ : Ga} (F0 : Fr X.K G0 H0 Γ σ G H) (I : Inv X pins σ H s) (L : LamX.LamS X.env.scope scope) (M : LamAt X params body scope f c' H s)
    (hbind : ∀ (pm ctv : Value), bindArgs (PySem.W.kla_fn "<lambda>" (X.env.qual ++ "<lambda>") params body scope (cloFrom X.env.cells scope.names []) pm (.ref c') ctv) ⟨[], []⟩ = pure [])
    (tk : Takes ((cxG X CXg Ng qg sg g cdg s H Eg).tr pn xe) W) (hr : Room (k + 1) (X.A.deeper (envOfC qg sg s.heap.objs.size g cdg)))
    (hbody : ∀ (E : XK) (A : Around) (outer : List Env) (s : Shared) (H : Hp), Room k (A.deeper (LamX.lamEnv X scope s.heap.objs.size f c')) → PP (LamX.lamCx X A outer s H E scope f c') (fun cls d _ H => E cls d H) body tE)
    (hN : Ng[i]? = some a) (hv : Vis sg a) (hd : (a == ("__debug__" : PySem.Str)) = false) (hcd : (a == ("__classdict__" : PySem.Str)) = false) :
    PP ((cxG X CXg Ng qg sg g cdg s H Eg).tr pn xe) W (.Call (.Name a p1) [] [] p2) (tpAct i (.ref f) c' (LamX.CodeO c' (X.env.qual ++ "<lambda>")) G fun k kx => tE (purify Γ) k kx) := by
  refine ⟨_, pe_lamact (tb := fun E => teOf X.K (fun cls d _ H => E cls d H) tE) I L M hbind tk hr (fun E A outer s H hr => (hbody E A outer s H hr).w) hN hv hd hcd, fun G2 H2 Γ2 τ G3 H3 k kx Q F ht hk hx => ?_⟩
  obtain ⟨hs, th⟩ := ht
  cases e : gat Γ2 i with
  | kp v' c2 u' G' =>
    rw [e] at hs
    obtain ⟨rfl, rfl, rfl, rfl⟩ := hs
    obtain ⟨e1, e2, _, _, e3⟩ := F.at_ i _ (gat_get Γ2 i _ e (by simp))
    exact ⟨e1, e2, _, _, purify Γ, G3, k, kx, fr_pure F0 e3 F.sub, th, hk, fun x cls dA G4 H4 a b c => hx x cls dA G4 H4 a b c⟩
  | _ => rw [e] at hs; exact hs.elim
/-- what a def x(a) does with what it got: m of the reading of a() -/
def AskOk (P : Program) (w : World) (K : PySem.W.Frag) (mg : PySem.Str → Option Value) (base : Heap) (x a : PySem.Str) (st : Stmt) (N : List PySem.Str) (k : Nat) (m : TP → TSp) : Prop :=
  ∀ (g : Addr) (cdg : Value) (A : Around) (outer : List Env) (s : Shared) (H : Hp) (E : XK) (tact : TP), Room k (A.deeper (envOfC x (defScope st) s.heap.objs.size g cdg)) →
    (∀ (W : WX) (pn : List (Addr × Obj)) (xe : Value → Shared → Prop) (p1 p2 : Pos), Takes ((cxOf (L2.CX P w) P w K mg base N x (defScope st) g cdg A outer s H E).tr pn xe) W → PP ((cxOf (L2.CX P w) P w K mg base N x (defScope st) g cdg A outer s H E).tr pn xe) W (.Call (.Name a p1) [] [] p2) tact) →
    PSS (cxOf (L2.CX P w) P w K mg base N x (defScope st) g cdg A outer s H E) (fun cls d _ H => E cls d H) (defBody st) (m tact)
def tpLam (n : Nat) (m : TP → TSp) (tE : TP) : TP := fun Γ k kx => ∀ v c u Gx, m (tpAct 0 v c u Gx fun k' kx' => tE (purify Γ) k' kx') (fEnds k kx) (.kp v c u Gx :: List.replicate (n - 1) .un)
theorem fr_lam {K : PySem.W.Frag} {G H : Hp} {N : List PySem.Str} {f c : Addr} {q : PySem.Str} (s : Sub G H) (hN : 1 ≤ N.length) (hc : H c = some (LamX.CodeO c q)) : Fr K G H (.kp (.ref f) c (LamX.CodeO c q) G :: List.replicate (N.length - 1) .un) (L2.start N [.ref f]) G H := by
  have key : ∀ (i : Nat) (t : Sl), (Sl.kp (.ref f) c (LamX.CodeO c q) G :: List.replicate (N.length - 1) .un)[i]? = some t → (i = 0 ∧ t = .kp (.ref f) c (LamX.CodeO c q) G) ∨ t = .un := fun i t h => by
    cases i with
    | zero => exact .inl ⟨rfl, (Option.some.inj h).symm⟩
    | succ i =>
      rw [List.getElem?_cons_succ] at h
      exact .inr (List.mem_replicate.mp (List.mem_of_getElem? h)).2
  refine ⟨by unfold L2.start; simp, Ext.refl s, fun i t h => ?_, fun a b p t u h1 h2 => ?_⟩
  · rcases key i t h with ⟨rfl, rfl⟩ | rfl
    · exact ⟨rfl, hc, fun z => z, (fun _ z => nomatch z), Same.refl G⟩
    · trivial
  · rcases key a t h1 with ⟨_, rfl⟩ | rfl
    · exact h2.elim
    · exact h2.elim
theorem p_lamcall {X : Cx} {W : WX} {x a : PySem.Str} {st : Stmt} {N : List PySem.Str} {g c P : Addr} {fd : FuncData} {k kl : Nat} {m : TP → TSp} {params : Arguments} {body : Expr} {scope : Scope} {tE : TP} {p lpos pos : Pos} (F : Fun X.K x x st g fd) (S : FnScope N [a] (defScope st)) (hm : X.mg x = some (.ref g))
    (hb : Binds X.K fd [a] []) (ask : AskOk X.prog X.w X.K X.mg X.base x a st N k m) (TB : LamX.TabB X.base X.mg c P) (hcode : X.env.code = .ref c) (hT : (P, X.env.qual ++ "<lambda>") ∈ Tabl.T) (hr : Room (k + 1) X.A) (hkl : kl + 1 ≤ k) (tk : Takes X W)
    (L : LamX.lamSB X.env.scope scope = true) (hbody : ∀ (f c' : Addr) (E : XK) (A : Around) (outer : List Env) (s : Shared) (H : Hp), Room kl (A.deeper (LamX.lamEnv X scope s.heap.objs.size f c')) → PP (LamX.lamCx X A outer s H E scope f c') (fun cls d _ H => E cls d H) body tE)
    (hbind : ∀ (q : PySem.Str) (cl : List (PySem.Str × Addr)) (pm cv ctv : Value), bindArgs (PySem.W.kla_fn "<lambda>" q params body scope cl pm cv ctv) ⟨[], []⟩ = pure [] := by intros; rfl) (hdef : defaultsOf params X.env = ([], []) := by rfl) (hN : N[0]? = some a := by rfl) (hva : Vis (defScope st) a := by first | exact Or.inl rfl | exact Or.inr (Or.inl rfl) | exact Or.inr (Or.inr rfl))
    (hg : Gl X x := by rfl) (hdb : (x == ("__debug__" : PySem.Str)) = false := by decide) (hd : (a == ("__debug__" : PySem.Str)) = false := by decide) (hcd : (a == ("__classdict__" : PySem.Str)) = false := by decide) :
    PP X W (.Call (.Name x p) [.Lambda params body scope lpos] [] pos) (tpLam N.length m tE) := by
  have L := LamX.lamS_by L
  refine ⟨teOf X.K W (tpLam N.length m tE), ⟨fun pins s σ H Q I ⟨G0, H0, Γ, G, kd, kx, F0, ht, hk, hx⟩ => ?_⟩, fun G0 H0 Γ σ G H k kx Q F ht hk hx => ⟨G0, H0, Γ, G, k, kx, F, ht, hk, hx⟩⟩
  refine wpAny_Call_Name_kw (ld_glob I hg hm ?_ hdb)
  refine PySem.W.callWith_K (h₀ := X.base) I.ok.mod.kin F.kp ?_ (by rfl) (by rfl)
  show wpAny _ _ (spliced ((false, eval (.Lambda params body scope lpos) X.env) :: backTo pos (starEach [] X.env))) _ _ s
  refine Calls.spliced_cons (lam_made I TB hcode hT F0.sub.tb hdef (L.has I.ok) fun f c' H1 s1 I1 up M => ?_)
  refine Calls.spliced_nil ⟨I1.kIn, ?_⟩
  have x1 : Ext G H G H1 := ⟨up, Same.refl G, fun _ z _ => z, F0.sub.up' up⟩
  have F1 := F0.up x1
  obtain ⟨oc, od, kV, doc, pm, an, cdv, ct, osl, rfl, lk, hcg⟩ := F.ex
  have rc : codeAny (model X.prog X.w) X.A (.call (.ref g) ⟨[.ref f], []⟩) (CR (L2.CX X.prog X.w) X.stack X.prog X.w H1 s1 Q fun cls d H' => W cls d σ H') s1 := by
    refine LamX.run_ofS (N := N) (ps := [a]) (us := [.ref f]) (vs := [.ref f]) lk hcg S hr I1.env0 (hb s1 [.ref f] I1.kIn rfl) (.cons rfl .nil) rfl fun hr' => ?_
    obtain ⟨ts, ps, rd⟩ := (ask g cdv X.A X.stack s1 H1 (fun cls d H' => W cls d σ H') _ hr' fun W2 pn xe p1 p2 tk2 => p_lamact (i := 0) F1 I1 L M (fun _ _ => hbind _ _ _ _ _) tk2 (hr'.mono hkl) (fun E A outer s H hr => hbody f c' E A outer s H hr) hN hva hd hcd).ex
    refine ⟨ts, ps, rd G H1 _ _ G H1 (fEnds kd kx) _ (fr_lam x1.sub (by
      have := (List.getElem?_eq_some_iff.mp hN).1
      omega) M.code) (ht _ _ _ _) ⟨?_, ?_, ?_, ?_, ?_⟩⟩
    · exact fun Γ σ G' H' q F' => hk .non .non G' H' q (x1.trans F'.e) .non
    · exact fun _ _ _ _ q => q.elim
    · exact fun _ _ _ _ q => q.elim
    · exact fun d v Γ σ G' H' q F' n => hk d v G' H' q (x1.trans F'.e) n
    · exact fun y cls dA Γ τ G' H' q F' n => hx y cls dA G' H' q (x1.trans F'.e) n
  refine wpAny_call (codeAny_mono rc fun r s2 q => ?_)
  cases r with
  | error e => exact passAt tk σ pins H1 s1 e s2 I1 q
  | ok fl =>
    cases fl with
    | ret u => exact I1.after q
    | next => exact False.elim q
    | brk => exact False.elim q
    | cont => exact False.elim q
end PL
set_option Elab.async false
set_option linter.all false
set_option maxRecDepth 100000
set_option maxHeartbeats 4000000
namespace PL
open PySem PySem.Froz L2 PyProof.Rows
/-- the set at a holds the texts l; its table can be walked -/
def SetT (P : Program) (w : World) (h : Heap) (a : Addr) (l : List PySem.Str) : Prop :=
  ∃ D, h.get? a = some (sObj "set" D) ∧ TxOk P w D l ∧ l.Nodup ∧ Ris D.2.2.place.toList ∧ (w.params.followText "set-order" = true ∨ D.2.2.led = true)
theorem SetT.at {P : Program} {w : World} {h h' : Heap} {a : Addr} {l : List PySem.Str} (R : SetT P w h a l) (k : ∀ o, h.get? a = some o → h'.get? a = some o) : SetT P w h' a l := by
  obtain ⟨D, h1, h2⟩ := R
  exact ⟨D, k _ h1, h2⟩
end PL
set_option Elab.async false
set_option linter.all false
set_option maxRecDepth 100000
set_option maxHeartbeats 4000000
namespace PL
open PySem PySem.Froz L2 PyProof.Rows
end PL
set_option Elab.async false
set_option linter.all false
set_option maxRecDepth 100000
set_option maxHeartbeats 4000000
namespace PL
open PySem L2 PyProof.Rows
end PL
set_option Elab.async false
set_option linter.all false
set_option maxRecDepth 100000
set_option maxHeartbeats 4000000
namespace PL
open PySem L2 PyProof.Rows
variable [Tabl]
def rLs (K : PySem.W.Frag) : List V → Hp → VK → Prop := fun xs H Q => ∃ p ys, xs = [.ref p] ∧ (SqL K H p ys ∨ SqT K H p ys) ∧ ∀ l, H l = none → Q (.ref l) (upd H l (.lst ys))
def rLn (K : PySem.W.Frag) : List V → Hp → VK → Prop := fun xs H Q => ∃ x n, xs = [x] ∧ LenV K x H n ∧ Q (.int n) H
def tStart (K : PySem.W.Frag) : TE :=
  tLst (tCons (tCB (rLs K) (tCons (tSl (rSlL K) (tVar 0) tNoPart (tPart (tC (.int 63)))) tNil)) (tCons (tC (.int 0)) (tCons (tC (.int 0)) (tCons (tOp (rI0 fun i j => .int (i + j)) (tC (.int 5642)) (tCB (rLn K) (tCons (tVar 0) tNil))) tNil))))
theorem cut63 (ns : List Int) (h : ns.length ≤ 63) : cutV (ns.map V.int) none (some 63) = ns.map V.int := by
  have e : HT.sIx (ns.map V.int).length (ns.map V.int).length (some 63) = min 63 (ns.map V.int).length := HT.sIx_nat _ _ 63
  unfold cutV
  rw [e, HT.sIx_none, List.drop_zero]
  exact List.take_of_length_le (by rw [List.length_map]; omega)
theorem start_te {K : PySem.W.Frag} {σ : L2.St} {H : Hp} {Q : VK} {a : Addr} {ns : List Int} (e : σ[0]? = some (some (.ref a))) (hS : SqL K H a (ns.map V.int)) (h63 : ns.length ≤ 63)
    (h : ∀ l p H', Same H H' → H l = none → H p = none → p ≠ l → H' l = some (.lst (ns.map V.int)) → H' p = some (.lst [.ref l, .int 0, .int 0, .int (5642 + ns.length)]) → Q (.ref p) H') : tStart K σ H Q := by
  refine ⟨.ref a, e, 63, rfl, a, _, rfl, hS, fun q hq => ?_⟩
  rw [cut63 ns h63]
  refine ⟨q, _, rfl, .inl (SqL.of upd_same), fun l hl => ?_⟩
  have s1 : Same H (upd H q (.lst (ns.map V.int))) := same_upd hq
  have s2 : Same (upd H q (.lst (ns.map V.int))) (upd (upd H q (.lst (ns.map V.int))) l (.lst (ns.map V.int))) := same_upd hl
  have hS2 := (s1.trans s2).seq hS
  refine ⟨.ref a, e, .ref a, ns.length, rfl, .inl ⟨_, hS2, by rw [List.length_map]⟩, 5642, ns.length, rfl, rfl, by show 4 ≤ sizeLine; decide, fun p hp => ?_⟩
  have hl0 : H l = none := by
    rw [upd_ne (ne_of_none (show upd H q (.lst (ns.map V.int)) q = _ from upd_same) hl).symm] at hl
    exact hl
  have pl : p ≠ l := fun z => by rw [z, upd_same] at hp; cases hp
  have pq : p ≠ q := fun z => by
    rw [z] at hp
    rw [upd_ne (ne_of_none (show upd H q (.lst (ns.map V.int)) q = _ from upd_same) hl), upd_same] at hp
    cases hp
  have hp0 : H p = none := by
    rw [upd_ne pl, upd_ne pq] at hp
    exact hp
  exact h l p _ ((s1.trans s2).trans (same_upd hp)) hl0 hp0 pl (by rw [upd_ne (Ne.symm pl), upd_same]) upd_same
/-- the bag, of the script -/
def fsStart : FS := fun ds k _ => match ds with
  | [.scr] => k .bag
  | _ => False
def spStart (K : PySem.W.Frag) : Sp := fun vs H Q _ => ∃ (a : Addr) (ns : List Int), vs = [.ref a] ∧ SqL K H a (ns.map V.int) ∧ ns.length ≤ 63 ∧
  ∀ l p H', Same H H' → H l = none → H p = none → p ≠ l → H' l = some (.lst (ns.map V.int)) → H' p = some (.lst [.ref l, .int 0, .int 0, .int (5642 + ns.length)]) → Q (.ref p) H'
section
variable {P : Program} {w : World} {K : PySem.W.Frag} {mg : PySem.Str → Option Value} {base : Heap}
theorem start_ok {x qual : PySem.Str} {st : Stmt} {f : Addr} {fd : FuncData} {N ps : List PySem.Str} {k : Nat} (F : Fun K x qual st f fd) (S : FnScope N ps (defScope st)) (hn : ps.length = 1)
    (body : ∀ (cdv : Value) (A : Around) (outer : List Env) (s : Shared) (H : Hp) (E : XK), PSs (cxOf (L2.CX P w) P w K mg base N qual (defScope st) f cdv A outer s H E) (defBody st) (tRet (tStart K))) :
    FnOk P w K mg base (L2.CX P w) (k + 1) f fd ps (spOf K 1 fsStart) := by
  have raw : FnOk P w K mg base (L2.CX P w) (k + 1) f fd ps (spStart K) := by
    refine F.okX S (fun vs H Q E ⟨a, ns, e, _⟩ => by rw [e, hn]; rfl) (fun cdv A outer s H vs Q E hr h => ⟨_, body cdv A outer s H E, ?_⟩)
    obtain ⟨a, ns, rfl, hS, h63, q⟩ := h
    exact start_te (by unfold L2.start; rfl) hS h63 q
  refine ⟨fun vs H Q E h => ?_, fun A outer s H args us vs Q E hr he hb hv h => ?_⟩
  · obtain ⟨G, ds, kd, kx, _, b, c, _⟩ := h
    rw [b.length, c, hn]
  · obtain ⟨G, ds, kd, kx, sb, r, hl, hf, hk, hx⟩ := h
    match ds, r, hf with
    | [.scr], .cons (.scr (a := a) (ns := ns) hS h63) .nil, hf =>
      refine codeAny_mono (raw.run A outer s H args us _ (fun v H' => ∃ l p, v = .ref p ∧ Same H H' ∧ H l = none ∧ H p = none ∧ p ≠ l ∧ H' l = some (.lst (ns.map V.int)) ∧ H' p = some (.lst [.ref l, .int 0, .int 0, .int (5642 + ns.length)])) E hr he hb hv
        ⟨a, ns, rfl, sb.sql hS, h63, fun l p H' a1 a2 a3 a4 a5 a6 => ⟨l, p, rfl, a1, a2, a3, a4, a5, a6⟩⟩) fun rs s' hq => ?_
      cases rs with
      | error e => exact hq
      | ok fl =>
        cases fl with
        | ret u =>
          obtain ⟨v, H', os, bare, un, hok, rv, l, p, rfl, sm, hl0, hp0, pl, hl', hp'⟩ := hq
          have gl := sb.none hl0
          have gp := sb.none hp0
          have un2 : Un (frs outer) [] H (upd H' p (.ext (BagRaw p l ns.length))) s.heap s'.heap := un_close un hp' (.inl hp0)
          have hok2 := bag_close (n := ns.length) (i := 0) hok hp' (Nat.zero_le _) (by decide) (by omega) (by omega)
          refine ⟨.ref p, _, os, bare, un2, hok2, rv, ?_⟩
          have sH : Same H (upd H' p (.ext (BagRaw p l ns.length))) := fun b o e => by
            rw [upd_ne (ne_of_none e hp0)]
            exact sm b o e
          have sG : Same G (upd (upd G l (.lst (ns.map V.int))) p (.ext (BagRaw p l ns.length))) := fun b o e => by
            rw [upd_ne (ne_of_none e gp), upd_ne (ne_of_none e gl)]
            exact e
          refine hk .bag _ (upd (upd G l (.lst (ns.map V.int))) p (.ext (BagRaw p l ns.length))) _ hf ⟨.of sH, sG, fun b n ⟨o, e⟩ => ?_, ⟨fun b o e => ?_, fun b o e => ?_, sb.tb.ext sH⟩⟩ (.bag ⟨l, ns, upd_same, by rw [upd_ne (Ne.symm pl), upd_same], pl, h63⟩)
          · rw [upd_ne (ne_of_none e hp0), upd_ne (ne_of_none e hl0)]
            exact n
          · by_cases hb : b = p
            · subst hb
              rw [upd_same] at e ⊢
              exact .inl e
            · rw [upd_ne hb] at e ⊢
              by_cases hb2 : b = l
              · subst hb2
                rw [upd_same] at e
                cases e
                exact .inl hl'
              · rw [upd_ne hb2] at e
                rcases sb.m b o e with z | ⟨z, ob, z2⟩
                · exact .inl (sm _ _ z)
                · exact .inr ⟨z, ob, sm _ _ z2⟩
          · by_cases hb : b = p
            · subst hb
              rw [upd_same] at e
              cases e
              intro ps z
              cases z
            · rw [upd_ne hb] at e
              by_cases hb2 : b = l
              · subst hb2
                rw [upd_same] at e
                cases e
                intro ps z
                cases z
              · rw [upd_ne hb2] at e
                exact sb.nt b o e
        | next => exact hq
        | brk => exact hq
        | cont => exact hq
end
section
variable {P : Program} {w : World} {K : PySem.W.Frag} {mg : PySem.Str → Option Value} {base : Heap}
theorem fn_okC {x qual : PySem.Str} {st : Stmt} {f c : Addr} {N ps : List PySem.Str} {k n : Nat} {fs : FS} {kV doc pm ct oc : Value} {an od : Option Addr} {osl : Array (Option Value)}
    (lk : K.lookup f = some ⟨oc, od, .func (PySem.W.fnOf x qual (defArgs st) (defBody st) (defScope st) .none kV doc pm an (.ref c) ct), osl⟩) (hcd : PySem.W.codeIn K (.ref c) qual = true) (S : FnScope N ps (defScope st)) (hn : ps.length = n)
    (body : ∀ (A : Around) (outer : List Env) (s : Shared) (H : Hp) (E : XK), Room k (A.deeper (envOfC qual (defScope st) s.heap.objs.size f (.ref c))) →
      ∃ t, PSS (cxOf (L2.CX P w) P w K mg base N qual (defScope st) f (.ref c) A outer s H E) (fun cls d _ H => E cls d H) (defBody st) t ∧ ∀ ds kd kx, ds.length = n → fs ds kd kx → t (fEnds kd kx) (ga0 N.length ds)) :
    FnOk P w K mg base (L2.CX P w) (k + 1) f (PySem.W.fnOf x qual (defArgs st) (defBody st) (defScope st) .none kV doc pm an (.ref c) ct) ps (spOf K n fs) := by
  refine fn_of lk hcd S (fun vs H Q E h => ?_) (fun A outer s H vs Q E hr h => ?_)
  · obtain ⟨G, ds, kd, kx, _, b, c, _⟩ := h
    rw [b.length, c, hn]
  · obtain ⟨G, ds, kd, kx, sb, r, hl, hf, hk, hx⟩ := h
    obtain ⟨t, ⟨ts, ps, rd⟩, ht⟩ := body A outer s H E hr
    refine ⟨ts, ps, rd G H (ga0 N.length ds) (L2.start N vs) G H (fEnds kd kx) _ (fr0 sb r) (ht ds kd kx hl hf) ⟨?_, ?_, ?_, ?_, ?_⟩⟩
    · exact fun Γ σ G' H' q F' => hk .non .non G' H' q F'.e .non
    · exact fun _ _ _ _ q => q.elim
    · exact fun _ _ _ _ q => q.elim
    · exact fun d v Γ σ G' H' q F' n => hk d v G' H' q F'.e n
    · exact fun x cls dA Γ σ G' H' q F' n => hx x cls dA G' H' q F'.e n
end
end PL
set_option Elab.async false
set_option linter.all false
set_option maxRecDepth 100000
set_option maxHeartbeats 2000000
namespace L2
open PySem PySem.Spec PyProof.Rows
end L2
namespace PL
open PySem L2
end PL
set_option Elab.async false
set_option linter.all false
set_option maxRecDepth 100000
set_option maxHeartbeats 2000000
namespace PL
open PySem L2
end PL
set_option Elab.async false
set_option linter.all false
set_option maxRecDepth 100000
set_option maxHeartbeats 2000000
namespace L2
open PySem PySem.Spec PyProof.Rows
end L2
namespace PL
open PySem L2
end PL
set_option Elab.async false
set_option linter.all false
set_option maxRecDepth 100000
set_option maxHeartbeats 2000000
namespace L2
open PySem PySem.Spec PyProof.Rows
end L2
namespace PL
open PySem L2
end PL
set_option Elab.async false
set_option linter.all false
set_option maxRecDepth 100000
set_option maxHeartbeats 4000000
namespace PL
open PySem L2 PyProof.Rows
abbrev lamFd (q : PySem.Str) (params : Arguments) (body : Expr) (scope : Scope) (cl : List (PySem.Str × Addr)) (pm cv ctv dV : Value) : FuncData :=
  { PySem.W.kla_fn "<lambda>" q params body scope cl pm cv ctv with defaults := dV }
section
variable {M : Model} {A : Around} {E : Value → Shared → Prop} {s : Shared} {q : PySem.Str} {params : Arguments} {body : Expr} {scope : Scope} {env : Env} {P : Addr} {pos : Pos} {fl : Nat} {mg : PySem.Str → Option Value} {cl : List (PySem.Str × Addr)} {dV : Value}
theorem tail_run {Post : Value → Shared → Prop} {Q : Value → Shared → Prop} (hcl : closureFor scope env = pure cl) (hge : env.globals = mainGlobals) (hg : s.heap.Ns mainGlobals mg) (hP : mainGlobals ≠ P) (hb : s.heap.BuiltinsAt mg P)
    (run : ∀ h1 : Heap, (∀ b o, s.heap.get? b = some o → h1.get? b = some o) → s.heap.objs.size ≤ h1.objs.size → wpAny M A (functionCode env pos fl "<lambda>" q params scope (.expr body)) (fun cv s2 => Heap.ExtBut P h1 s2.heap ∧ Post cv s2) E { s with heap := h1 })
    (fin : ∀ (cv ctv : Value) (s2 : Shared), Heap.ExtBut P s.heap s2.heap → Post cv s2 → Q (.ref s2.heap.objs.size) { s2 with heap := s2.heap.push { cls := .type "function", data := .func (lamFd q params body scope cl ((mg "__name__").getD .none) cv ctv dV) } }) :
    wpAny M A (makeTail "<lambda>" q params (.expr body) scope env dV .none none pos fl) Q E s := by
  have fin2 : ∀ (ctv : Value) (h1 : Heap) (cv : Value) (s2 : Shared), (∀ b o, s.heap.get? b = some o → h1.get? b = some o) → Heap.ExtBut P h1 s2.heap → Post cv s2 →
      wpAny M A (do let bi ← builtinsFor mainGlobals env.builtins; let nm ← nsGet mainGlobals "__name__"; let doc ← (pure .none : Sem Value);
                    newObj (.type "function") (.func { name := "<lambda>", qualname := q, params, body := .expr body, scope, globals := mainGlobals, closure := cl, closureTuple := ctv, code := cv, builtins := bi, defaults := dV, kwdefaults := .none, annotations := none, pyModule := nm.getD .none, doc := doc })) Q E s2 := by
    intro ctv h1 cv s2 k1 k2 hp
    have kk : Heap.ExtBut P s.heap s2.heap := fun b o hb e => k2 b o hb (k1 b o e)
    obtain ⟨bm, ob, m1, m2, _, m4, m5, m6, m7, m8⟩ := hb
    have g2 := hg.extBut kk hP
    exact wpAny_bind (wpAny_builtinsFor g2 m1 m2 (kk _ _ m4 m5) m6 m7 m8 (wpAny_bind (wpAny_nsGet g2 (wpAny_bind (wpAny_pure (wpAny_newObj_type (fin cv ctv s2 kk hp) (by size_fits)))))))
  unfold makeTail
  rw [hcl, hge]
  refine wpAny_bind (wpAny_pure ?_)
  cases cl with
  | nil =>
    rw [if_pos (by rfl)]
    refine wpAny_bind (wpAny_pure (wpAny_bind (wpAny_mono (run s.heap (fun _ _ e => e) (Nat.le_refl _)) (fun cv s2 hq => ?_) fun _ _ z => z)))
    exact fin2 .none s.heap cv s2 (fun _ _ e => e) hq.1 hq.2
  | cons a r =>
    rw [if_neg (by exact Bool.false_ne_true)]
    refine wpAny_bind (wpAny_newTextTuple (wpAny_bind (wpAny_mono (run (s.heap.push _) (fun b o e => Heap.get?_push_of_some _ e) (by rw [Heap.size_push]; omega)) (fun cv s2 hq => ?_) fun _ _ z => z)))
    exact fin2 _ (s.heap.push _) cv s2 (fun b o e => Heap.get?_push_of_some _ e) hq.1 hq.2
end
variable [Tabl]
/-- no name of its own but those that the frame does not have -/
structure LamSD (N : List PySem.Str) (sc scope : Scope) : Prop where
  kind : scope.kind = .function
  co : scope.isCoroutine = false
  gen : scope.isGenerator = false
  cell : ∀ y ∈ scope.names, y.2 ≠ .cell
  own : ∀ y ∈ scope.names, y.2 = .local → y.1 ∉ N
  free : ∀ y ∈ scope.names, y.2 = .free → sc.names.lookup y.1 = some .cell ∨ sc.names.lookup y.1 = some .free
def lamSDB (N : List PySem.Str) (sc scope : Scope) : Bool :=
  decide (scope.kind = .function) && (!scope.isCoroutine && (!scope.isGenerator && scope.names.all fun y => !decide (y.2 = .cell) && ((!decide (y.2 = .local) || !N.contains y.1) && (!decide (y.2 = .free) || (decide (sc.names.lookup y.1 = some .cell) || decide (sc.names.lookup y.1 = some .free))))))
theorem lamSD_by {N : List PySem.Str} {sc scope : Scope} (h : lamSDB N sc scope = true) : LamSD N sc scope := by
  unfold lamSDB at h
  simp only [Bool.and_eq_true, Bool.or_eq_true, Bool.not_eq_true', decide_eq_true_eq, decide_eq_false_iff_not, List.all_eq_true] at h
  obtain ⟨h1, h2, h3, h4⟩ := h
  refine ⟨h1, h2, h3, fun y hy => (h4 y hy).1, fun y hy e m => ?_, fun y hy e => ?_⟩
  · rcases (h4 y hy).2.1 with z | z
    · exact z e
    · rw [List.contains_iff_mem.mpr m] at z
      cases z
  · rcases (h4 y hy).2.2 with z | z
    · exact absurd e z
    · exact z
theorem LamSD.has {X : Cx} {scope : Scope} (L : LamSD X.N X.env.scope scope) (ok : X.Ok) : ∀ y ∈ scope.names, y.2 = .free → ∃ c, X.env.cells.lookup y.1 = some c :=
  fun y hy e => ok.has _ (L.free y hy e)
section
variable {X : Cx} {pins : List (Addr × Obj)} {σ : L2.St} {H HZ : Hp} {s s1 : Shared}
theorem lam_startD {A : Around} {outer : List Env} {E : XK} {scope : Scope} {f c' : Addr} {h1 : Heap} {tk : Nat} {m1 : PySem.Str → Option Value} (I : Inv X pins σ H s) (L : LamSD X.N X.env.scope scope) (e0 : Env0 X.prog X.w X.K X.mg X.base A outer s1 HZ) (hd : A.handled = none)
    (un : Un (frs X.stack) [] H HZ s.heap s1.heap) (hns : h1.Ns s1.heap.objs.size m1) (kp : ∀ b o, s1.heap.get? b = some o → h1.get? b = some o) :
    Inv (LamX.lamCx X A outer s1 HZ E scope f c') [] σ HZ { s1 with heap := h1, toks := tk } := by
  have hfree := L.has I.ok
  have there : ∀ {y c}, (cloFrom X.env.cells scope.names []).lookup y = some c → X.env.cells.lookup y = some c := by
    intro y c e
    rcases cloFrom_mem (PySem.mem_of_lookup e) with z | ⟨z1, z2⟩
    · exact nomatch z
    · obtain ⟨c1, hc⟩ := hfree _ z1 rfl
      have hc : X.env.cells.lookup y = some c1 := hc
      have : c = c1 := by rw [z2, hc] <;> rfl
      rw [this]; exact hc
  have look : ∀ {y}, scope.names.lookup y = some .free → ∃ c, (cloFrom X.env.cells scope.names []).lookup y = some c := fun {y} hl =>
    mem_lookup (cloFrom_has (cells := X.env.cells) (acc := []) (show (y, NameKind.free) ∈ scope.names from PySem.mem_of_lookup hl))
  have cellK : ∀ {c : Addr} {v : Option Value}, H c = none → s.heap.IsCell c v → h1.IsCell c v := by
    intro c v n ⟨o, ho, hd⟩
    obtain ⟨sl, z⟩ := un.any ho n (by simp)
    exact ⟨_, kp _ _ z, hd⟩
  have noA : ∀ b : Addr, b ∉ (LamX.lamCx X A outer s1 HZ E scope f c').ex := fun b z => nomatch (show b ∈ ([] : List Addr) from z)
  refine ⟨⟨e0.mod, L.kind, rfl, rfl, Nat.le_refl _, fun y z c a b => I.ok.inj y z c (there a) (there b), fun y hy => ?_, fun y c z _ => ?_, fun _ => hd, Around.frames_deeper e0.frames, .inr ⟨rfl, rfl⟩, fun b z => absurd z (noA b), e0.bs, e0.bsz, fun b _ _ => noA b,
      fun b z => absurd z (noA b), e0.funs, e0.frf⟩,
    rfl, e0.bare, Un.kept kp, ⟨_, hns, fun i y v a b c => ?_⟩, fun y c e => ?_, e0.hok.fresh (Nat.le_refl _), fun y c e => ?_, fun z hz => absurd (show z ∈ ([] : List (Addr × Obj)) ++ [] from hz) (by simp), e0.hok.kept kp, I.len⟩
  · rcases (show scope.names.lookup y = some .cell ∨ scope.names.lookup y = some .free from hy) with hy | hy
    · exact absurd rfl (L.cell _ (PySem.mem_of_lookup hy))
    · exact look hy
  · exact nomatch (show false = true from z)
  · have c : Vis scope y := c
    have inN : y ∈ X.N := List.mem_of_getElem? (show X.N[i]? = some y from a)
    rcases c with k | k | k
    · exact absurd inN (L.own _ (PySem.mem_of_lookup k) rfl)
    · exact absurd rfl (L.cell _ (PySem.mem_of_lookup k))
    · obtain ⟨m, _, hl⟩ := I.loc
      have vis : Vis X.env.scope y := (L.free _ (PySem.mem_of_lookup k) rfl).elim (fun z => .inr (.inl z)) (fun z => .inr (.inr z))
      obtain ⟨w', r, z⟩ := hl i y v a b vis
      obtain ⟨c2, h2⟩ := look k
      refine ⟨w', r, .inr ⟨.inr k, c2, h2, ?_⟩⟩
      have c1 := there h2
      rcases z with ⟨k', _⟩ | ⟨_, c3, e', z⟩
      · have k' : X.env.scope.names.lookup y = some .local := k'
        rcases L.free _ (PySem.mem_of_lookup k) rfl with k2 | k2 <;> rw [show X.env.scope.names.lookup y = _ from k2] at k' <;> cases k'
      · rw [c1] at e'
        cases e'
        exact cellK (I.freeC y _ c1) z
  · obtain ⟨w', z⟩ := I.cell y c (there e)
    exact ⟨w', cellK (I.freeC y c (there e)) z⟩
  · obtain ⟨v, o, ho, hd⟩ := I.cell y c (there e)
    exact un.free c o ho (I.freeC y c (there e)) (by simp)
/-- the made lambda at f, its code object at c' -/
structure LamAtD (X : Cx) (params : Arguments) (body : Expr) (scope : Scope) (f c' : Addr) (H : Hp) (s : Shared) : Prop where
  obj : ∃ pm ctv T v0, s.heap.get? f = some { cls := .type "function", data := .func (lamFd (X.env.qual ++ "<lambda>") params body scope (cloFrom X.env.cells scope.names []) pm (.ref c') ctv (.ref T)) } ∧
    s.heap.get? T = some { cls := .type "tuple", data := .seq #[v0] } ∧ H T = none ∧ T ∉ frs X.stack
  free : H f = none
  fr : f ∉ frs X.stack
  code : H c' = some (LamX.CodeO c' (X.env.qual ++ "<lambda>"))
theorem lam_madeD {c P : Addr} {params : Arguments} {body e0 : Expr} {scope : Scope} {pos : Pos} {v0 : V} {E : Value → Shared → Prop} {Q : Value → Shared → Prop} (I : Inv X pins σ H s) (TB : LamX.TabB X.base X.mg c P) (hcode : X.env.code = .ref c)
    (hm : (P, X.env.qual ++ "<lambda>") ∈ Tabl.T) (hT : LamX.Tabs Tabl.T H) (hdef : defaultsOf params X.env = ([eval e0 X.env], [])) (he0 : PE X e0 (tC v0)) (hE : X.xe = E) (hfree : ∀ y ∈ scope.names, y.2 = .free → ∃ c, X.env.cells.lookup y.1 = some c)
    (h : ∀ (f c' : Addr) (H1 : Hp) (s' : Shared), Inv X pins σ H1 s' → Up H H1 → LamAtD X params body scope f c' H1 s' → Q (.ref f) s') : wpAny (model X.prog X.w) X.A (eval (.Lambda params body scope pos) X.env) Q E s := by
  subst hE
  rw [arm_eval_Lambda, hdef]
  show wpAny _ _ (do let dv ← evalAll [eval e0 X.env]; let kdv ← holding dv (evalAllOpt []); makeFunction "<lambda>" (X.env.qual ++ "<lambda>") params (.expr body) scope X.env dv kdv [] pos pos.line) Q _ s
  show wpAny _ _ ((do let v ← eval e0 X.env; return v :: (← holding [v] (evalAll []))) >>= _) Q _ s
  refine wpAny_bind (wpAny_bind (wpAny_mono (he0.run pins s σ H (fun v H' => v = v0 ∧ H' = H) I ⟨rfl, rfl⟩) (fun u sa hq => ?_) fun _ _ z => z))
  obtain ⟨_, H2, Ia, _, _, e2⟩ := hq
  rw [e2] at Ia
  refine wpAny_bind (wpAny_holding (wpAny_pure (wpAny_pure (wpAny_bind (wpAny_holding (wpAny_pure ?_))))))
  rw [makeFunction_eq]
  simp only [List.zip_nil_right, List.filterMap_nil, List.isEmpty_nil, if_true, pure_bind]
  rw [if_neg (by exact Bool.false_ne_true)]
  refine wpAny_bind (wpAny_newTextTuple ?_)
  have Ib : Inv X pins σ H { sa with heap := sa.heap.push { cls := .type "tuple", data := .seq [u].toArray } } := Ia.kept (t' := sa.toks) fun b o e => Heap.get?_push_of_some _ e
  have gT : (sa.heap.push { cls := .type "tuple", data := .seq [u].toArray }).get? sa.heap.objs.size = some { cls := .type "tuple", data := .seq [u].toArray } := Heap.get?_push_size _ rfl
  have fT : H sa.heap.objs.size = none := Ia.hok.fresh (Nat.le_refl sa.heap.objs.size)
  have nofr : ∀ f, sa.heap.objs.size ≤ f → f ∉ frs X.stack := fun f hf z => by
    rcases List.mem_cons.mp (Ia.stkSub _ z) with e | e
    · exact absurd (Nat.lt_of_lt_of_le Ia.lt hf) (by rw [e]; exact Nat.lt_irrefl _)
    · exact Ia.nofs hf e
  have nT := nofr _ (Nat.le_refl sa.heap.objs.size)
  generalize sa.heap.objs.size = T at gT fT nT nofr ⊢
  have szb : T ≤ (sa.heap.push { cls := .type "tuple", data := .seq [u].toArray }).objs.size := Nat.le_of_lt (Heap.lt_size gT)
  generalize hsb : ({ sa with heap := sa.heap.push { cls := .type "tuple", data := .seq [u].toArray } } : Shared) = sb at Ib ⊢
  have gT : sb.heap.get? T = some { cls := .type "tuple", data := .seq [u].toArray } := by rw [← hsb]; exact gT
  have szb : T ≤ sb.heap.objs.size := by rw [← hsb]; exact szb
  clear hsb
  obtain ⟨ps, hP, ht, ha⟩ := hT _ hm
  have gP : sb.heap.get? P = some { cls := .none, data := .fields ps } := Ib.hok P _ hP
  cases hc : codeAmong pos ps.toList with
  | some cv =>
    obtain ⟨c', rfl, hco⟩ := ha pos cv hc
    refine tail_run (mg := X.mg) (P := P) (Post := fun cv s2 => cv = .ref c' ∧ Inv X pins σ H s2) (closure_ok hfree) Ib.ok.glob (Ib.mod.glob.keeps Ib.bk) TB.gP (TB.bm.keeps Ib.bk) (fun h1 k1 _ => ?_) (fun cv ctv s2 k hq => ?_)
    · have I1 : Inv X pins σ H { sb with heap := h1 } := Ib.kept (t' := sb.toks) k1
      exact wpAny_functionCode_hit hcode (((TB.code.keeps Ib.bk).keeps k1).code (k1 _ _ gP) ht) hc ⟨Heap.ExtBut.refl _ _, rfl, I1⟩
    · obtain ⟨rfl, I2⟩ := hq
      have tk : s2.heap.get? T = some { cls := .type "tuple", data := .seq [u].toArray } := k T _ (fun z => by rw [z, hP] at fT; cases fT) gT
      have sz := Nat.le_of_lt (Heap.lt_size tk)
      exact h _ c' _ _ (I2.kept (t' := s2.toks) fun b o e => Heap.get?_push_of_some _ e) (Up.refl _) ⟨⟨_, ctv, T, u, Heap.get?_push_size _ rfl, Heap.get?_push_of_some _ tk, fT, nT⟩, I2.hok.fresh (Nat.le_refl _), nofr _ sz, hco⟩
  | none =>
    refine tail_run (mg := X.mg) (P := P) (Post := fun cv s2 => ∃ c', cv = .ref c' ∧ sb.heap.objs.size ≤ c' ∧ c' < s2.heap.objs.size ∧ s2.heap.CodeRec (.ref c') (X.env.qual ++ "<lambda>") ∧ s2.heap.get? P = some (PySem.W.tabObj (ps ++ #[rawInt pos.line, rawInt pos.col, .ref c'])) ∧ ∃ h' tk, s2 = { sb with heap := h', toks := tk }) (closure_ok hfree) Ib.ok.glob (Ib.mod.glob.keeps Ib.bk) TB.gP (TB.bm.keeps Ib.bk) (fun h1 k1 z1 => ?_) (fun cv ctv s2 k hq => ?_)
    · have C1 := (TB.code.keeps Ib.bk).keeps k1
      exact wpAny_functionCodeX hcode (C1.code (k1 _ _ gP) ht) (C1.tab (k1 _ _ gP)) hc fun c' h' tk hx hge hlt _ hrec htb _ => ⟨hx, c', rfl, Nat.le_trans z1 hge, hlt, hrec, htb.2, h', tk, rfl⟩
    · obtain ⟨c', rfl, hge, hlt, hrec, htb, h', tk, rfl⟩ := hq
      obtain ⟨_, oc, vs, t, e2, hoc, hd, hv⟩ := hrec
      cases e2
      have tkT : h'.get? T = some { cls := .type "tuple", data := .seq [u].toArray } := k T _ (fun z => by rw [z, hP] at fT; cases fT) gT
      have sz := Nat.le_of_lt (Heap.lt_size tkT)
      have nC := Ib.hok.fresh hge
      have J : Inv X pins σ (tabbed H P c' ps pos (X.env.qual ++ "<lambda>")) _ := LamX.inv_table (t' := tk) (h' := h'.push { cls := .type "function", data := .func (lamFd (X.env.qual ++ "<lambda>") params body scope (cloFrom X.env.cells scope.names []) ((X.mg "__name__").getD .none) (.ref c') ctv (.ref T)) }) Ib hP (fun b o hb e => Heap.get?_push_of_some _ (k b o hb e))
        (Heap.get?_push_of_some _ htb) hge ⟨oc, vs, t, Heap.get?_push_of_some _ hoc, hd, hv⟩
      have away : ∀ a : Addr, H a = none → a ≠ c' → a ≠ P → tabbed H P c' ps pos (X.env.qual ++ "<lambda>") a = none := fun a z n1 n2 => by
        unfold tabbed
        rw [upd_ne n1, upd_ne n2]
        exact z
      refine h _ c' _ _ J (up_tabbed hm hP nC) ⟨⟨_, ctv, T, u, Heap.get?_push_size _ rfl, Heap.get?_push_of_some _ tkT, away T fT ?_ ?_, nT⟩, away _ (Ib.hok.fresh (Nat.le_trans hge (Nat.le_of_lt hlt))) (Nat.ne_of_gt hlt) ?_, nofr _ sz, by unfold tabbed; exact upd_same⟩
      · exact Nat.ne_of_lt (Nat.lt_of_lt_of_le (Heap.lt_size gT) hge)
      · intro z
        rw [z, hP] at fT
        cases fT
      · exact Nat.ne_of_gt (Nat.lt_trans (Nat.lt_of_lt_of_le (Heap.lt_size gP) hge) hlt)
/-- the lambda, called by its name a in that frame -/
theorem pe_lamactD {CXg : CXT} {Eg : XK} {Ng : List PySem.Str} {qg : PySem.Str} {sg : Scope} {g f c' : Addr} {cdg : Value} {params : Arguments} {body : Expr} {scope : Scope} {k i : Nat} {a y : PySem.Str} {pn : List (Addr × Obj)}
    {xe : Value → Shared → Prop} {W : WX} {tb : XK → TE} {p1 p2 : Pos} (I : Inv X pins σ H s) (L : LamSD X.N X.env.scope scope) (M : LamAtD X params body scope f c' H s)
    (hbind : ∀ (pm ctv : Value) (T : Addr), ∃ kk, bindArgs (lamFd (X.env.qual ++ "<lambda>") params body scope (cloFrom X.env.cells scope.names []) pm (.ref c') ctv (.ref T)) ⟨[], []⟩ = seqItems? (.ref T) >>= kk ∧ ∀ v, kk (some #[v]) = pure [(y, v)]) (hy : scope.names.lookup y = some .local)
    (tk : Takes ((cxG X CXg Ng qg sg g cdg s H Eg).tr pn xe) W) (hr : Room (k + 1) (X.A.deeper (envOfC qg sg s.heap.objs.size g cdg)))
    (hbody : ∀ (E : XK) (A : Around) (outer : List Env) (s : Shared) (H : Hp), Room k (A.deeper (LamX.lamEnv X scope s.heap.objs.size f c')) → PE (LamX.lamCx X A outer s H E scope f c') body (tb E))
    (hN : Ng[i]? = some a) (hv : Vis sg a) (hd : (a == ("__debug__" : PySem.Str)) = false) (hcd : (a == ("__classdict__" : PySem.Str)) = false) :
    PE ((cxG X CXg Ng qg sg g cdg s H Eg).tr pn xe) (.Call (.Name a p1) [] [] p2) (fun τ J Q => τ[i]? = some (some (.ref f)) ∧ J c' = some (LamX.CodeO c' (X.env.qual ++ "<lambda>")) ∧ tb (fun cls d J' => W cls d τ J') σ J Q) := by
  refine ⟨fun pinsZ sZ τ J Q IZ ⟨hs, hc, ht⟩ => wpAny_Call_Name_kw (thn ((pe_var (pos := p1) (i := i) hN hv hd hcd).run pinsZ sZ τ J (fun v J1 => v = .ref f ∧ J1 = J) IZ ⟨.ref f, hs, rfl, rfl⟩) fun u s1 ⟨v, J1, I1, r1, ev, eJ⟩ => ?_)⟩
  subst ev
  subst eJ
  obtain rfl : u = Value.ref f := r1
  obtain ⟨pm, ctv, T, v0, of0, oT0, fT, nT⟩ := M.obj
  have of1 := I1.base.keep f _ of0 M.free M.fr (fun z => nomatch (show f ∈ ([] : List Addr) from z))
  have oT1 := I1.base.keep T _ oT0 fT nT (fun z => nomatch (show T ∈ ([] : List Addr) from z))
  obtain ⟨⟨oc, vs, t, hoc, hdc, hvc⟩, _, _⟩ := I1.hok c' _ hc
  have un : Un (frs X.stack) [] H J1 s.heap s1.heap := I1.base
  have rc : codeAny (model X.prog X.w) (X.A.deeper (envOfC qg sg s.heap.objs.size g cdg)) (.call (.ref f) ⟨[], []⟩) (CR (L2.CX X.prog X.w) (envOfC qg sg s.heap.objs.size g cdg :: X.stack) X.prog X.w J1 s1 Q (fun cls d J' => W cls d τ J')) s1 := by
    refine PySem.W.kla_callFunE hr.depth of1 rfl L.co L.gen rfl ⟨c', oc, vs, t, rfl, hoc, hdc, hvc⟩ ?_
    obtain ⟨kk, hb1, hb2⟩ := hbind pm ctv T
    rw [hb1]
    refine wpAny_bind (wpAny_seqItems oT1 rfl ?_)
    rw [hb2]
    refine wpAny_pure (wpAny_newFunctionEnv L.cell (fun z hz => by rw [List.mem_singleton.mp hz]; exact hy) (fun h2 hns hsb => ⟨I1.nolimit.fresh _ hsb, ?_⟩) L.kind)
    have kp : ∀ b o, s1.heap.get? b = some o → h2.get? b = some o := fun b o e => hsb.extBut b o (Nat.ne_of_lt (Heap.lt_size e)) (Heap.get?_push_of_some _ e)
    have J2 := lam_startD (E := fun cls d J' => W cls d τ J') (f := f) (c' := c') (tk := s1.toks + [(y, v0)].length) I L I1.env0 hr.hd un hns kp
    refine PySem.W.kla_codeExpr (wpAny_mono ((hbody _ _ _ s1 J1 (hr.deeper _)).run [] _ _ J1 Q J2 ht) (fun v s2 q => ?_) fun _ _ q => q)
    obtain ⟨w, H2, K2, rv, q⟩ := q
    exact ⟨w, H2, K2.os, K2.bare, K2.base, K2.hok, rv, q⟩
  refine PySem.W.callWith_F0 ⟨_, _, _, _, of1⟩ (wpAny_call (codeAny_mono rc fun r s2 q => ?_))
  cases r with
  | error e => exact passAt tk τ pinsZ J1 s1 e s2 I1 q
  | ok fl =>
    cases fl with
    | ret u => exact I1.after q
    | next => exact False.elim q
    | brk => exact False.elim q
    | cont => exact False.elim q
theorem p_lamactD {CXg : CXT} {Eg : XK} {Ng : List PySem.Str} {qg : PySem.Str} {sg : Scope} {g f c' : Addr} {cdg : Value} {params : Arguments} {body : Expr} {scope : Scope} {k i : Nat} {a y : PySem.Str} {pn : List (Addr × Obj)}
    {xe : Value → Shared → Prop} {W : WX} {tE : TP} {p1 p2 : Pos} {G0 H0 G : Hp} {Γ : Ga} (F0 : Fr X.K G0 H0 Γ σ G H) (I : Inv X pins σ H s) (L : LamSD X.N X.env.scope scope) (M : LamAtD X params body scope f c' H s)
    (hbind : ∀ (pm ctv : Value) (T : Addr), ∃ kk, bindArgs (lamFd (X.env.qual ++ "<lambda>") params body scope (cloFrom X.env.cells scope.names []) pm (.ref c') ctv (.ref T)) ⟨[], []⟩ = seqItems? (.ref T) >>= kk ∧ ∀ v, kk (some #[v]) = pure [(y, v)]) (hy : scope.names.lookup y = some .local)
    (tk : Takes ((cxG X CXg Ng qg sg g cdg s H Eg).tr pn xe) W) (hr : Room (k + 1) (X.A.deeper (envOfC qg sg s.heap.objs.size g cdg)))
    (hbody : ∀ (E : XK) (A : Around) (outer : List Env) (s : Shared) (H : Hp), Room k (A.deeper (LamX.lamEnv X scope s.heap.objs.size f c')) → PP (LamX.lamCx X A outer s H E scope f c') (fun cls d _ H => E cls d H) body tE)
    (hN : Ng[i]? = some a) (hv : Vis sg a) (hd : (a == ("__debug__" : PySem.Str)) = false) (hcd : (a == ("__classdict__" : PySem.Str)) = false) :
    PP ((cxG X CXg Ng qg sg g cdg s H Eg).tr pn xe) W (.Call (.Name a p1) [] [] p2) (tpAct i (.ref f) c' (LamX.CodeO c' (X.env.qual ++ "<lambda>")) G fun k kx => tE (purify Γ) k kx) := by
  refine ⟨_, pe_lamactD (tb := fun E => teOf X.K (fun cls d _ H => E cls d H) tE) I L M hbind hy tk hr (fun E A outer s H hr => (hbody E A outer s H hr).w) hN hv hd hcd, fun G2 H2 Γ2 τ G3 H3 k kx Q F ht hk hx => ?_⟩
  obtain ⟨hs, th⟩ := ht
  cases e : gat Γ2 i with
  | kp v' c2 u' G' =>
    rw [e] at hs
    obtain ⟨rfl, rfl, rfl, rfl⟩ := hs
    obtain ⟨e1, e2, _, _, e3⟩ := F.at_ i _ (gat_get Γ2 i _ e (by simp))
    exact ⟨e1, e2, _, _, purify Γ, G3, k, kx, fr_pure F0 e3 F.sub, th, hk, fun x cls dA G4 H4 a b c => hx x cls dA G4 H4 a b c⟩
  | _ => rw [e] at hs; exact hs.elim
theorem p_lamcallD {W : WX} {x a y : PySem.Str} {st : Stmt} {N : List PySem.Str} {g c P : Addr} {fd : FuncData} {k kl : Nat} {m : TP → TSp} {params : Arguments} {body e0 : Expr} {v0 : V} {scope : Scope} {tE : TP} {p lpos pos : Pos} (F : Fun X.K x x st g fd) (S : FnScope N [a] (defScope st)) (hm : X.mg x = some (.ref g))
    (hb : Binds X.K fd [a] []) (ask : AskOk X.prog X.w X.K X.mg X.base x a st N k m) (TB : LamX.TabB X.base X.mg c P) (hcode : X.env.code = .ref c) (hT : (P, X.env.qual ++ "<lambda>") ∈ Tabl.T) (hr : Room (k + 1) X.A) (hkl : kl + 1 ≤ k) (tk : Takes X W)
    (L : lamSDB X.N X.env.scope scope = true) (hbody : ∀ (f c' : Addr) (E : XK) (A : Around) (outer : List Env) (s : Shared) (H : Hp), Room kl (A.deeper (LamX.lamEnv X scope s.heap.objs.size f c')) → PP (LamX.lamCx X A outer s H E scope f c') (fun cls d _ H => E cls d H) body tE) (he0 : PE X e0 (tC v0))
    (hbind : ∀ (q : PySem.Str) (cl : List (PySem.Str × Addr)) (pm cv ctv : Value) (T : Addr), ∃ kk, bindArgs (lamFd q params body scope cl pm cv ctv (.ref T)) ⟨[], []⟩ = seqItems? (.ref T) >>= kk ∧ ∀ v, kk (some #[v]) = pure [(y, v)] := by intros; exact ⟨_, rfl, fun _ => rfl⟩) (hy : scope.names.lookup y = some .local := by rfl) (hdef : defaultsOf params X.env = ([eval e0 X.env], []) := by rfl) (hN : N[0]? = some a := by rfl) (hva : Vis (defScope st) a := by first | exact Or.inl rfl | exact Or.inr (Or.inl rfl) | exact Or.inr (Or.inr rfl))
    (hg : Gl X x := by rfl) (hdb : (x == ("__debug__" : PySem.Str)) = false := by decide) (hd : (a == ("__debug__" : PySem.Str)) = false := by decide) (hcd : (a == ("__classdict__" : PySem.Str)) = false := by decide) :
    PP X W (.Call (.Name x p) [.Lambda params body scope lpos] [] pos) (tpLam N.length m tE) := by
  have L := lamSD_by L
  refine ⟨teOf X.K W (tpLam N.length m tE), ⟨fun pins s σ H Q I ⟨G0, H0, Γ, G, kd, kx, F0, ht, hk, hx⟩ => ?_⟩, fun G0 H0 Γ σ G H k kx Q F ht hk hx => ⟨G0, H0, Γ, G, k, kx, F, ht, hk, hx⟩⟩
  refine wpAny_Call_Name_kw (ld_glob I hg hm ?_ hdb)
  refine PySem.W.callWith_K (h₀ := X.base) I.ok.mod.kin F.kp ?_ (by rfl) (by rfl)
  show wpAny _ _ (spliced ((false, eval (.Lambda params body scope lpos) X.env) :: backTo pos (starEach [] X.env))) _ _ s
  refine Calls.spliced_cons (lam_madeD I TB hcode hT F0.sub.tb hdef he0 rfl (L.has I.ok) fun f c' H1 s1 I1 up M => ?_)
  refine Calls.spliced_nil ⟨I1.kIn, ?_⟩
  have x1 : Ext G H G H1 := ⟨up, Same.refl G, fun _ z _ => z, F0.sub.up' up⟩
  have F1 := F0.up x1
  obtain ⟨oc, od, kV, doc, pm, an, cdv, ct, osl, rfl, lk, hcg⟩ := F.ex
  have rc : codeAny (model X.prog X.w) X.A (.call (.ref g) ⟨[.ref f], []⟩) (CR (L2.CX X.prog X.w) X.stack X.prog X.w H1 s1 Q fun cls d H' => W cls d σ H') s1 := by
    refine LamX.run_ofS (N := N) (ps := [a]) (us := [.ref f]) (vs := [.ref f]) lk hcg S hr I1.env0 (hb s1 [.ref f] I1.kIn rfl) (.cons rfl .nil) rfl fun hr' => ?_
    obtain ⟨ts, ps, rd⟩ := (ask g cdv X.A X.stack s1 H1 (fun cls d H' => W cls d σ H') _ hr' fun W2 pn xe p1 p2 tk2 => p_lamactD (i := 0) F1 I1 L M (fun _ _ _ => hbind _ _ _ _ _ _) hy tk2 (hr'.mono hkl) (fun E A outer s H hr => hbody f c' E A outer s H hr) hN hva hd hcd).ex
    refine ⟨ts, ps, rd G H1 _ _ G H1 (fEnds kd kx) _ (fr_lam x1.sub (by
      have := (List.getElem?_eq_some_iff.mp hN).1
      omega) M.code) (ht _ _ _ _) ⟨?_, ?_, ?_, ?_, ?_⟩⟩
    · exact fun Γ σ G' H' q F' => hk .non .non G' H' q (x1.trans F'.e) .non
    · exact fun _ _ _ _ q => q.elim
    · exact fun _ _ _ _ q => q.elim
    · exact fun d v Γ σ G' H' q F' n => hk d v G' H' q (x1.trans F'.e) n
    · exact fun y cls dA Γ τ G' H' q F' n => hx y cls dA G' H' q (x1.trans F'.e) n
  refine wpAny_call (codeAny_mono rc fun r s2 q => ?_)
  cases r with
  | error e => exact passAt tk σ pins H1 s1 e s2 I1 q
  | ok fl =>
    cases fl with
    | ret u => exact I1.after q
    | next => exact False.elim q
    | brk => exact False.elim q
    | cont => exact False.elim q
end
end PL
set_option Elab.async false
set_option linter.all false
set_option maxRecDepth 100000
set_option maxHeartbeats 4000000
namespace PL
open PySem L2
end PL
set_option Elab.async false
set_option linter.all false
set_option maxRecDepth 100000
set_option maxHeartbeats 4000000
namespace PL
open PySem L2
def m_is_log : FS := fun ds k kx =>
  (tsRet (tpAnd (tp1 (fIsi "str") (tpVar 0)) (tp1 fAll (tpLc [1] (tiStr (tpVar 0)) (tgName 1) tbYes (tpOp fInS (tpVar 1) (tpC (.str [97, 98, 99, 100, 101, 102, 103, 104, 105, 106, 107, 108, 109, 110, 111, 112, 113, 114, 115, 116, 117, 118, 119, 120, 121, 122])))))))
  (fEnds k kx) (ga0 2 ds)
def m_law_pull : FSo := fun ds k kx => ∀ p,
  (tsSeq (tsIf (tbAnd (tbV (tpOp fEq (tpOp fIx (tpVarU 0) (tpC (.int 2))) (tpC (.int 0)))) (tbV (tpOp fLt (tpOp fIx (tpVarU 0) (tpC (.int 1))) (tp1 fLenS (tpOp fIx (tpVarU 0) (tpC (.int 0)))))))
    (tsSeq (tsSet 2 (tpOp fIx (tpOp fIx (tpVarU 0) (tpC (.int 0))) (tpOp fIx (tpVarU 0) (tpC (.int 1)))))
    (tsSeq (tsSetIx 0 (tpC (.int 1)) (tpOp fAdd (tpOp fIx (tpVarU 0) (tpC (.int 1))) (tpC (.int 1))))
    (tsIf (tbV (tpOp fGe (tpVar 2) (tpOp fPow (tpC (.int 10)) (tpC (.int 18)))))
    (tsSetIx 0 (tpC (.int 2)) (tpVar 2))
    (tsSetIx 0 (tpC (.int 3)) (tpOp fMod (tp1 fInt (tpOp fAdd (tpOp fAdd (tpOp fMul (tpOp fIx (tpVarU 0) (tpC (.int 3))) (tpC (.int 52361))) (tpOp fMul (tpOp fMod (tp1 fInt (tpVar 2)) (tpC (.int 2147483399))) (tpC (.int 6121)))) (tpC (.int 43)))) (tpC (.int 2147483543)))))))
    tsNext)
    (tsSeq (tsIf (tbV (tpOp fGt (tpOp fIx (tpVarU 0) (tpC (.int 2))) (tpC (.int 0))))
    (tsSeq (tsSet 3 (tpOp fMod (tp1 fInt (tpOp fIx (tpVarU 0) (tpC (.int 2)))) (tpVar 1)))
    (tsSeq (tsSetIx 0 (tpC (.int 2)) (tpOp fFdiv (tpOp fIx (tpVarU 0) (tpC (.int 2))) (tpVar 1)))
    (tsRet (tpVar 3))))
    tsNext)
    (tsSeq (tsSet 4 (tpOp fIx (tpVarU 0) (tpC (.int 3))))
    (tsSeq (tsSetIx 0 (tpC (.int 3)) (tpOp fMod (tp1 fInt (tpOp fAdd (tpOp fAdd (tpOp fMul (tpVar 4) (tpVar 4)) (tpOp fMul (tpVar 4) (tpC (.int 21577)))) (tpC (.int 1406111)))) (tpC (.int 2147483543))))
    (tsRet (tpOp fMod (tp1 fInt (tpOp fAdd (tpOp fFdiv (tpOp fIx (tpVarU 0) (tpC (.int 3))) (tpC (.int 61))) (tpOp fMul (tpOp fMod (tp1 fInt (tpOp fIx (tpVarU 0) (tpC (.int 3)))) (tpC (.int 7919))) (tpC (.int 47))))) (tpVar 1)))))))
  (oEnds 0 p k kx) (gaO 5 0 p ds)
def m_law_pick (fs_law_pull : FS) : FS := fun ds k kx =>
  (tsRet (tpOp fIx (tpVar 1) (tpCall 2 fs_law_pull (tlCons (tpVar 0) (tlCons (tp1 fLenS (tpVar 1)) tlNil)))))
  (fEnds k kx) (ga0 2 ds)
def m_law_same (fs_law_same : FS) : FS := fun ds k kx =>
  (tsSeq (tsIf (tbOr (tbV (tpIsN (tpVar 1))) (tbV (tpIsN (tpVar 0))))
    (tsRet (tpAnd (tpIsN (tpVar 1)) (tpIsN (tpVar 0))))
    tsNext)
    (tsSeq (tsIf (tbOr (tbV (tp1 (fIsi "bool") (tpVar 1))) (tbV (tp1 (fIsi "bool") (tpVar 0))))
    (tsRet (tpAnd (tp1 (fIsi "bool") (tpVar 1)) (tpAnd (tp1 (fIsi "bool") (tpVar 0)) (tpOp fEq (tpVar 0) (tpVar 1)))))
    tsNext)
    (tsSeq (tsIf (tbV (tp1 (fIsi "int") (tpVar 1)))
    (tsRet (tpAnd (tp1 (fIsi "int") (tpVar 0)) (tpOp fEq (tpVar 0) (tpVar 1))))
    tsNext)
    (tsSeq (tsIf (tbV (tp1 (fIsi "str") (tpVar 1)))
    (tsRet (tpAnd (tp1 (fIsi "str") (tpVar 0)) (tpOp fEq (tpVar 0) (tpVar 1))))
    tsNext)
    (tsSeq (tsIf (tbOr (tbV (tpOp fNe (tp1 (fIsi "list") (tpVar 1)) (tp1 (fIsi "list") (tpVar 0)))) (tbV (tpOp fNe (tp1 (fIsi "tuple") (tpVar 1)) (tp1 (fIsi "tuple") (tpVar 0)))))
    (tsRet (tpC (.bl false)))
    tsNext)
    (tsRet (tpAnd (tpOp fEq (tp1 fLenS (tpVar 0)) (tp1 fLenS (tpVar 1))) (tp1 fAll (tpLc [2] (tiRng1 (tlCons (tp1 fLenS (tpVar 1)) tlNil)) (tgName 2) tbYes (tpCall 2 fs_law_same (tlCons (tpOp fIx (tpVar 0) (tpVar 2)) (tlCons (tpOp fIx (tpVar 1) (tpVar 2)) tlNil))))))))))))
  (fEnds k kx) (ga0 3 ds)
def LET : List Nat := [97, 98, 99, 100, 101, 102, 103, 104, 105, 106, 107, 108, 109, 110, 111, 112, 113, 114, 115, 116, 117, 118, 119, 120, 121, 122]
def isLog : D → Bool
  | .str s => s.all fun c => decide (c ∈ LET)
  | _ => false
def goodL (d : D) : Prop := (tyD d).isSome = true ∧ ∀ s, d = .str s → s.length ≤ 3000
def fsIsLog : FS := fun ds k _ => match ds with
  | [d] => goodL d ∧ k (.bl (isLog d))
  | _ => False
def deeds (s : List Nat) : List Nat := LET.filter fun c => decide (c ∈ s)
def fsPick : FS := fun ds k _ => match ds with
  | [.bag, .str s] => (s ≠ [] ∧ s.length ≤ 100000) ∧ ∀ c ∈ s, k (.str [c])
  | [.bag, .lst xs] => (xs ≠ [] ∧ xs.length ≤ 100000) ∧ ∀ x ∈ xs, k x
  | _ => False
mutual
/-- values that _law_same takes, n deep -/
def okS : Nat → D → Prop
  | _, .non => True
  | _, .bl _ => True
  | _, .int _ => True
  | _, .str s => s.length ≤ 100000 ∧ D.plain (.str s) = true
  | n + 1, .lst xs => xs.length ≤ 100000 ∧ okSL n xs
  | n + 1, .tup xs => xs.length ≤ 100000 ∧ okSL n xs
  | _, _ => False
def okSL : Nat → List D → Prop
  | _, [] => True
  | n, d :: r => okS n d ∧ okSL n r
end
/-- two equal values are the same -/
def fsSame : Nat → FS
  | 0 => fun _ _ _ => False
  | n + 1 => fun ds k _ => match ds with
    | [a, b] => a = b ∧ okS n a ∧ k (.bl true)
    | _ => False
def fsLaw : FS := fun ds k _ => match ds with
  | [.scr] => k (.bl true)
  | _ => False
theorem same_zero [Tabl] {P : Program} {w : World} {K : PySem.W.Frag} {mg : PySem.Str → Option Value} {base : Heap} {CX : CXT} {f : Addr} {fd : FuncData} {ps : List PySem.Str} : FnOk P w K mg base CX 0 f fd ps (spOf K 2 (fsSame 0)) :=
  ⟨fun vs H Q E ⟨G, ds, k, kx, _, _, _, h, _⟩ => h.elim, fun A outer s H args us vs Q E _ _ _ _ ⟨G, ds, k, kx, _, _, _, h, _⟩ => h.elim⟩
theorem law_entry [Tabl] {K : PySem.W.Frag} {H : Hp} {a : Addr} {ns : List Int} (tb : LamX.Tabs Tabl.T H) (hS : SqL K H a (ns.map V.int)) (hn : ns.length ≤ 63) : spOf K 1 fsLaw [.ref a] H (fun v _ => v = .bl true) fun _ _ _ => False := by
  let G : Hp := fun b => if b = a then (match H b with | some (.tbl _) => none | x => x) else none
  have gm : ∀ b o, G b = some o → H b = some o ∧ NT o := fun b o e => by
    show _ ∧ _
    by_cases hb : b = a
    · have e : (match H b with | some (.tbl _) => none | x => x) = some o := by
        have z : (if b = a then (match H b with | some (.tbl _) => none | x => x) else none) = some o := e
        rw [if_pos hb] at z
        exact z
      cases hH : H b with
      | none => rw [hH] at e; cases e
      | some u =>
        rw [hH] at e
        cases u with
        | tbl ps => cases e
        | _ => exact ⟨e, by cases e; intro ps z; cases z⟩
    · have z : (if b = a then (match H b with | some (.tbl _) => none | x => x) else none) = some o := e
      rw [if_neg hb] at z
      cases z
  have gs : SqL K G a (ns.map V.int) := by
    rcases hS with (h | ⟨o, h⟩) | h
    · exact .inl (.inl (by show (if a = a then (match H a with | some (.tbl _) => none | x => x) else none) = _; rw [if_pos rfl, h]))
    · exact .inl (.inr ⟨o, by show (if a = a then (match H a with | some (.tbl _) => none | x => x) else none) = _; rw [if_pos rfl, h]⟩)
    · exact .inr h
  exact ⟨G, [.scr], fun d => d = .bl true, fun _ => False, ⟨fun b o e => .inl (gm b o e).1, fun b o e => (gm b o e).2, tb⟩, .cons (.scr gs hn) .nil, rfl, rfl, fun d v G' H' e _ n => by subst e; cases n; rfl, fun _ _ _ _ _ z => z.elim⟩
theorem ite_of {c : Bool} {A B : Prop} (h1 : c = true → A) (h2 : c = false → B) : if c = true then A else B := by
  cases c with
  | true => exact h1 rfl
  | false => exact h2 rfl
theorem eqInt {i j : Int} : eqD (.int i) (.int j) = decide (i = j) := rfl
/-- a comprehension over a text, all of it -/
theorem lc_all {te : TP} {i : Nat} {Γ : Ga} {f : Nat → D} : ∀ (s : List Nat) {k : List D → Prop}, (∀ c ∈ s, ∀ k' : KD, k' (f c) → te (gset Γ i (.pu (.str [c]))) k' (fun _ => False)) → k (s.map f) → lcW (tgName i) tbYes te Γ (s.map fun c => .str [c]) k
  | [], k, _, h => h
  | c :: s, k, hs, h => by
    exact hs c List.mem_cons_self _ (lc_all s (fun d hd => hs d (List.mem_cons_of_mem _ hd)) h)
/-- .. over a range -/
theorem lc_rng {te : TP} {i : Nat} {Γ : Ga} {f : Nat → D} : ∀ (s : List Nat) {k : List D → Prop}, (∀ c ∈ s, ∀ k' : KD, k' (f c) → te (gset Γ i (.pu (.int (c : Nat)))) k' (fun _ => False)) → k (s.map f) → lcW (tgName i) tbYes te Γ (s.map fun c => .int (c : Nat)) k
  | [], k, _, h => h
  | c :: s, k, hs, h => by
    exact hs c List.mem_cons_self _ (lc_rng s (fun d hd => hs d (List.mem_cons_of_mem _ hd)) h)
theorem at_nat {α : Type} (xs : List α) (i : Nat) (h : i < xs.length) : atI xs (i : Int) = some xs[i] := by
  unfold atI ixN
  rw [if_pos (Int.natCast_nonneg i), if_pos (by exact_mod_cast h)]
  exact List.getElem?_eq_getElem h
section
local instance noTab : Tabl := ⟨[], fun p hp => absurd hp (by simp)⟩
variable {ds : List D} {kd : KD} {kx : KX} {C : Addr}
theorem is_log_ok' : fsIsLog ds kd kx → m_is_log ds kd kx := by
  intro h
  match ds, h with
  | [d], ⟨⟨g1, g2⟩, h⟩ =>
    cases d with
    | str s =>
      have hl := g2 s rfl
      refine ⟨by rw [List.length_map]; omega, lc_all (f := fun c => .bl (decide (c ∈ LET))) s (fun c _ k' h' => h') ?_⟩
      have e : (s.map fun c => D.bl (decide (c ∈ LET))) = (s.map fun c => decide (c ∈ LET)).map D.bl := by rw [List.map_map]; rfl
      show onBs (s.map fun c => D.bl (decide (c ∈ LET))) _
      rw [e, onBs_map, List.all_map]
      exact h
    | non => exact h
    | bl b => exact h
    | int b => exact h
    | lst b => exact h
    | tup b => exact h
    | dct b => exact h
    | _ => cases g1
theorem pick_ok' : fsPick ds kd kx → m_law_pick fsPull ds kd kx := by
  intro h
  match ds, h with
  | [.bag, .str s], ⟨⟨h1, h2⟩, h⟩ =>
    have hp : 0 < s.length := List.length_pos_iff.mpr h1
    refine ⟨Nat.le_trans h2 (by decide), rfl, ⟨by omega, by omega⟩, fun r r0 r1 => ⟨Nat.le_trans h2 (by decide), ?_⟩⟩
    obtain ⟨n, rfl⟩ := Int.eq_ofNat_of_zero_le r0
    have hn : n < s.length := by omega
    rw [at_nat s n hn]
    exact h _ (List.getElem_mem hn)
  | [.bag, .lst s], ⟨⟨h1, h2⟩, h⟩ =>
    have hp : 0 < s.length := List.length_pos_iff.mpr h1
    refine ⟨rfl, ⟨by omega, by omega⟩, fun r r0 r1 => ?_⟩
    obtain ⟨n, rfl⟩ := Int.eq_ofNat_of_zero_le r0
    have hn : n < s.length := by omega
    show (match atI s (n : Int) with | some d => kd d | none => False)
    rw [at_nat s n hn]
    exact h _ (List.getElem_mem hn)
theorem nodup_le : ∀ (a b : List Nat), a.Nodup → (∀ c ∈ a, c ∈ b) → a.length ≤ b.length
  | [], _, _, _ => Nat.zero_le _
  | x :: a, b, nd, h => by
    obtain ⟨nx, nd⟩ := List.nodup_cons.mp nd
    have hx := h x List.mem_cons_self
    have := nodup_le a (b.erase x) nd fun c hc => (List.mem_erase_of_ne (fun z => nx (by rw [← z]; exact hc))).mpr (h c (List.mem_cons_of_mem _ hc))
    rw [List.length_erase_of_mem hx] at this
    have : 0 < b.length := List.length_pos_of_mem hx
    rw [List.length_cons]
    omega
end
def pull2 : TSp :=
    (tsSeq (tsIf (tbV (tpOp fGt (tpOp fIx (tpVarU 0) (tpC (.int 2))) (tpC (.int 0))))
    (tsSeq (tsSet 3 (tpOp fMod (tp1 fInt (tpOp fIx (tpVarU 0) (tpC (.int 2)))) (tpVar 1)))
    (tsSeq (tsSetIx 0 (tpC (.int 2)) (tpOp fFdiv (tpOp fIx (tpVarU 0) (tpC (.int 2))) (tpVar 1)))
    (tsRet (tpVar 3))))
    tsNext)
    (tsSeq (tsSet 4 (tpOp fIx (tpVarU 0) (tpC (.int 3))))
    (tsSeq (tsSetIx 0 (tpC (.int 3)) (tpOp fMod (tp1 fInt (tpOp fAdd (tpOp fAdd (tpOp fMul (tpVar 4) (tpVar 4)) (tpOp fMul (tpVar 4) (tpC (.int 21577)))) (tpC (.int 1406111)))) (tpC (.int 2147483543))))
    (tsRet (tpOp fMod (tp1 fInt (tpOp fAdd (tpOp fFdiv (tpOp fIx (tpVarU 0) (tpC (.int 3))) (tpC (.int 61))) (tpOp fMul (tpOp fMod (tp1 fInt (tpOp fIx (tpVarU 0) (tpC (.int 3)))) (tpC (.int 7919))) (tpC (.int 47))))) (tpVar 1))))))
theorem pull2_ok {l p : Addr} {ns : List Int} {i : Nat} {g s n : Int} {k : D → D → Prop} {sl : Sl} (hi : i ≤ ns.length) (hg : 0 ≤ g) (hs : 0 ≤ s) (hs2 : s < 2147483543) (hn : 1 ≤ n) (hn2 : n < 1073741824)
    (hk : ∀ (r : Int) (i' : Nat) (g' s' : Int), 0 ≤ r → r < n → i' ≤ ns.length → 0 ≤ g' → 0 ≤ s' → s' < 2147483543 → k (.int r) (.lst [.cel l ns, .int i', .int g', .int s'])) :
    pull2 (oEnds 0 p k (fun _ => False)) [.pw p (.lst [.cel l ns, .int i, .int g, .int s]), .pu (.int n), sl, .un, .un] := by
  refine ite_of (fun h => ?_) (fun h => ?_)
  · refine ⟨by omega, ⟨by omega, hn2⟩, rfl, hk _ i (g / n) s (Int.emod_nonneg _ (by omega)) (Int.emod_lt_of_pos _ (by omega)) hi (Int.ediv_nonneg hg (by omega)) hs hs2⟩
  · have z0 := Int.emod_nonneg (s * s + s * 21577 + 1406111) (show (2147483543 : Int) ≠ 0 by decide)
    have z1 := Int.emod_lt_of_pos (s * s + s * 21577 + 1406111) (show (0 : Int) < 2147483543 by decide)
    refine ⟨?_, ?_, by decide, ⟨by decide, by decide⟩, by decide, ?_, by omega, rfl, hk _ i g _ (Int.emod_nonneg _ (by omega)) (Int.emod_lt_of_pos _ (by omega)) hi hg z0 z1⟩
    · exact .inl ⟨by omega, by omega⟩
    · exact .inl ⟨by omega, by omega⟩
    · exact .inr ⟨by decide, by decide⟩
def pull1 : TSp :=
  (tsIf (tbAnd (tbV (tpOp fEq (tpOp fIx (tpVarU 0) (tpC (.int 2))) (tpC (.int 0)))) (tbV (tpOp fLt (tpOp fIx (tpVarU 0) (tpC (.int 1))) (tp1 fLenS (tpOp fIx (tpVarU 0) (tpC (.int 0)))))))
    (tsSeq (tsSet 2 (tpOp fIx (tpOp fIx (tpVarU 0) (tpC (.int 0))) (tpOp fIx (tpVarU 0) (tpC (.int 1)))))
    (tsSeq (tsSetIx 0 (tpC (.int 1)) (tpOp fAdd (tpOp fIx (tpVarU 0) (tpC (.int 1))) (tpC (.int 1))))
    (tsIf (tbV (tpOp fGe (tpVar 2) (tpOp fPow (tpC (.int 10)) (tpC (.int 18)))))
    (tsSetIx 0 (tpC (.int 2)) (tpVar 2))
    (tsSetIx 0 (tpC (.int 3)) (tpOp fMod (tp1 fInt (tpOp fAdd (tpOp fAdd (tpOp fMul (tpOp fIx (tpVarU 0) (tpC (.int 3))) (tpC (.int 52361))) (tpOp fMul (tpOp fMod (tp1 fInt (tpVar 2)) (tpC (.int 2147483399))) (tpC (.int 6121)))) (tpC (.int 43)))) (tpC (.int 2147483543)))))))
    tsNext)
theorem pull1_ok {l p : Addr} {ns : List Int} {i : Nat} {g s n : Int} {P : PEn} (hi : i ≤ ns.length) (hg : 0 ≤ g) (hs : 0 ≤ s) (hs2 : s < 2147483543)
    (hk : ∀ (i' : Nat) (g' s' : Int) (sl : Sl), i' ≤ ns.length → 0 ≤ g' → 0 ≤ s' → s' < 2147483543 → P.nx [.pw p (.lst [.cel l ns, .int i', .int g', .int s']), .pu (.int n), sl, .un, .un]) :
    pull1 P [.pw p (.lst [.cel l ns, .int i, .int g, .int s]), .pu (.int n), .un, .un, .un] := by
  refine ⟨⟨rfl, rfl, Nat.zero_le _, Nat.zero_le _⟩, ite_of (fun h => ?_) (fun h => hk i g s _ hi hg hs hs2)⟩
  refine ite_of (fun h2 => ?_) (fun h2 => hk i g s _ hi hg hs hs2)
  have h2 : decide ((i : Int) < (ns.length : Int)) = true := h2
  have hl : i < ns.length := by
    have := of_decide_eq_true h2
    omega
  show (match atI ns (i : Int) with | some n => _ | none => False)
  rw [at_nat ns i hl]
  refine ⟨⟨by decide, by decide, by decide⟩, ite_of (fun h3 => ?_) (fun h3 => ?_)⟩
  · have h3 : decide ((10 : Int) ^ (18 : Int).toNat ≤ ns[i]) = true := h3
    have h4 : (10 : Int) ^ 18 ≤ ns[i] := of_decide_eq_true h3
    exact hk (i + 1) ns[i] s _ hl (by omega) hs hs2
  · have z0 := Int.emod_nonneg (s * 52361 + ns[i] % 2147483399 * 6121 + 43) (show (2147483543 : Int) ≠ 0 by decide)
    have z1 := Int.emod_lt_of_pos (s * 52361 + ns[i] % 2147483399 * 6121 + 43) (show (0 : Int) < 2147483543 by decide)
    exact ⟨.inl ⟨by omega, by omega⟩, by decide, .inr ⟨by decide, by decide⟩, by decide, hk (i + 1) g _ _ hl hg z0 z1⟩
theorem pull_ok' : PullOk m_law_pull := by
  intro l ns i g s n k h63 hi hg hs hs2 hn hn2 hk p
  exact pull1_ok (P := { oEnds 0 p k (fun _ => False) with nx := pull2 (oEnds 0 p k (fun _ => False)) }) hi hg hs hs2 fun i' g' s' sl a b c d => pull2_ok a b c d hn hn2 hk
section
variable {ds : List D} {kd : KD} {kx : KX} {C : Addr}
local instance : Tabl := ⟨[], fun p hp => absurd hp (by simp)⟩
theorem eqS (s : List Nat) : eqD (.str s) (.str s) = true := by
  show (SS s == SS s) = true
  simp
theorem okSL_mem {n : Nat} : ∀ {xs : List D} {x : D}, okSL n xs → x ∈ xs → okS n x
  | [], x, _, h => absurd h (by simp)
  | y :: ys, x, h, hx => by
    rcases List.mem_cons.mp hx with rfl | hx
    · exact h.1
    · exact okSL_mem h.2 hx
theorem same_ok' {n : Nat} : fsSame (n + 1) ds kd kx → m_law_same (fsSame n) ds kd kx := by
  intro h0
  match ds, h0 with
  | [a, b], ⟨e, ok, h⟩ =>
    subst e
    cases a with
    | non => exact h
    | bl b =>
      refine ⟨⟨rfl, rfl, Nat.zero_le _, Nat.zero_le _⟩, ?_⟩
      cases b <;> exact h
    | int i =>
      refine ⟨⟨rfl, rfl, Nat.zero_le _, Nat.zero_le _⟩, ?_⟩
      rw [eqInt, decide_eq_true rfl]
      exact h
    | str s =>
      have ok : s.length ≤ 100000 ∧ D.plain (.str s) = true := by cases n <;> exact ok
      refine ⟨⟨ok.2, ok.2, Nat.zero_le _, Nat.zero_le _⟩, ?_⟩
      rw [eqS]
      exact h
    | lst xs =>
      cases n with
      | zero => exact ok.elim
      | succ m =>
        obtain ⟨hl, ok⟩ := ok
        refine ⟨⟨rfl, rfl, Nat.zero_le _, Nat.zero_le _⟩, ⟨rfl, rfl, Nat.zero_le _, Nat.zero_le _⟩, ⟨rfl, rfl, Nat.zero_le _, Nat.zero_le _⟩, ?_⟩
        rw [eqInt, decide_eq_true rfl]
        refine ⟨⟨by omega, by omega⟩, by rw [List.length_map, List.length_range]; omega, lc_rng (f := fun _ => .bl true) _ (fun c hc k' hk' => ?_) ?_⟩
        · have hc : c < xs.length := by simpa using hc
          show (match atI xs (c : Int) with | some d => _ | none => False)
          rw [at_nat xs c hc]
          show (match atI xs (c : Int) with | some d => _ | none => False)
          rw [at_nat xs c hc]
          exact ⟨rfl, rfl, okSL_mem ok (List.getElem_mem hc), hk'⟩
        · have e : ((List.range ((xs.length : Int)).toNat).map fun _ => D.bl true) = ((List.range ((xs.length : Int)).toNat).map fun _ => true).map D.bl := by rw [List.map_map]; rfl
          show onBs ((List.range ((xs.length : Int)).toNat).map fun _ => D.bl true) _
          rw [e, onBs_map]
          have e2 : ((List.range ((xs.length : Int)).toNat).map fun _ => true).all id = true := by simp
          rw [e2]
          exact h
    | tup xs =>
      cases n with
      | zero => exact ok.elim
      | succ m =>
        obtain ⟨hl, ok⟩ := ok
        refine ⟨⟨rfl, rfl, Nat.zero_le _, Nat.zero_le _⟩, ⟨rfl, rfl, Nat.zero_le _, Nat.zero_le _⟩, ⟨rfl, rfl, Nat.zero_le _, Nat.zero_le _⟩, ?_⟩
        rw [eqInt, decide_eq_true rfl]
        refine ⟨⟨by omega, by omega⟩, by rw [List.length_map, List.length_range]; omega, lc_rng (f := fun _ => .bl true) _ (fun c hc k' hk' => ?_) ?_⟩
        · have hc : c < xs.length := by simpa using hc
          show (match atI xs (c : Int) with | some d => _ | none => False)
          rw [at_nat xs c hc]
          show (match atI xs (c : Int) with | some d => _ | none => False)
          rw [at_nat xs c hc]
          exact ⟨rfl, rfl, okSL_mem ok (List.getElem_mem hc), hk'⟩
        · have e : ((List.range ((xs.length : Int)).toNat).map fun _ => D.bl true) = ((List.range ((xs.length : Int)).toNat).map fun _ => true).map D.bl := by rw [List.map_map]; rfl
          show onBs ((List.range ((xs.length : Int)).toNat).map fun _ => D.bl true) _
          rw [e, onBs_map]
          have e2 : ((List.range ((xs.length : Int)).toNat).map fun _ => true).all id = true := by simp
          rw [e2]
          exact h
    | _ => exact ok.elim
end
end PL
set_option Elab.async false
set_option linter.all false
set_option maxRecDepth 100000
set_option maxHeartbeats 4000000
namespace PL
open PySem
def IsFront (s : List Nat) (p : Nat) : Prop := ∃ c, s[p]? = some c ∧ (∀ k, k < p → s[k]? ≠ some c) ∧ ∀ d ∈ s, ∃ k, k ≤ p ∧ s[k]? = some d
def IsRear (s : List Nat) (p : Nat) : Prop := ∃ c, s[p]? = some c ∧ (∀ k, p < k → s[k]? ≠ some c) ∧ ∀ d ∈ s, ∃ k, p ≤ k ∧ s[k]? = some d
theorem IsFront.lt {s : List Nat} {p : Nat} (h : IsFront s p) : p < s.length := by
  obtain ⟨c, h, _⟩ := h
  exact (List.getElem?_eq_some_iff.mp h).1
theorem IsRear.lt {s : List Nat} {p : Nat} (h : IsRear s p) : p < s.length := by
  obtain ⟨c, h, _⟩ := h
  exact (List.getElem?_eq_some_iff.mp h).1
theorem rev_get {s : List Nat} {k : Nat} (h : k < s.length) : s.reverse[k]? = s[s.length - 1 - k]? := List.getElem?_reverse h
theorem front_rev {s : List Nat} {q : Nat} (h : IsFront s.reverse q) : q < s.length ∧ IsRear s (s.length - 1 - q) := by
  have hq := h.lt
  rw [List.length_reverse] at hq
  obtain ⟨c, h1, h2, h3⟩ := h
  refine ⟨hq, c, by rw [← rev_get hq]; exact h1, fun k hk e => ?_, fun d hd => ?_⟩
  · have hl := (List.getElem?_eq_some_iff.mp e).1
    refine h2 (s.length - 1 - k) (by omega) ?_
    rw [rev_get (by omega), show s.length - 1 - (s.length - 1 - k) = k by omega]
    exact e
  · obtain ⟨k, k1, k2⟩ := h3 d (List.mem_reverse.mpr hd)
    rw [rev_get (by omega)] at k2
    exact ⟨_, by omega, k2⟩
/-- the walk over the signs: pre what is behind, pl the place so far -/
def frontGo : List Nat → Nat → List Nat → Nat
  | _, pl, [] => pl
  | pre, pl, c :: r => frontGo (pre ++ [c]) (if c ∈ pre then pl else pre.length) r
theorem front_step {pre : List Nat} {pl c : Nat} (h : pre ≠ [] → IsFront pre pl) : IsFront (pre ++ [c]) (if c ∈ pre then pl else pre.length) := by
  by_cases hc : c ∈ pre
  · rw [if_pos hc]
    have hf := h fun z => by rw [z] at hc; cases hc
    have hl := hf.lt
    obtain ⟨d, h1, h2, h3⟩ := hf
    refine ⟨d, by rw [List.getElem?_append_left hl]; exact h1, fun k hk => by rw [List.getElem?_append_left (by omega)]; exact h2 k hk, fun x hx => ?_⟩
    have hx : x ∈ pre := by
      rcases List.mem_append.mp hx with z | z
      · exact z
      · rw [List.mem_singleton.mp z]; exact hc
    obtain ⟨k, k1, k2⟩ := h3 x hx
    exact ⟨k, k1, by rw [List.getElem?_append_left (by omega)]; exact k2⟩
  · rw [if_neg hc]
    refine ⟨c, by rw [List.getElem?_append_right (Nat.le_refl _)]; simp, fun k hk e => ?_, fun x hx => ?_⟩
    · rw [List.getElem?_append_left hk] at e
      exact hc (List.mem_of_getElem? e)
    · obtain ⟨k, hk, e⟩ := List.getElem_of_mem hx
      rw [List.length_append, List.length_singleton] at hk
      exact ⟨k, by omega, by rw [← e]; exact List.getElem?_eq_getElem _⟩
theorem frontGo_ok : ∀ (r pre : List Nat) (pl : Nat), (pre ≠ [] → IsFront pre pl) → pre ++ r ≠ [] → IsFront (pre ++ r) (frontGo pre pl r)
  | [], pre, pl, h, n => by
    rw [List.append_nil] at n ⊢
    exact h n
  | c :: r, pre, pl, h, n => by
    have := frontGo_ok r (pre ++ [c]) (if c ∈ pre then pl else pre.length) (fun _ => front_step h) (by simp)
    rw [List.append_assoc] at this
    exact this
end PL
set_option Elab.async false
set_option linter.all false
set_option maxRecDepth 100000
set_option maxHeartbeats 4000000
namespace PL
open PySem L2
theorem cut_take {α : Type} (s : List α) (n : Nat) : cutL s none (some (n : Int)) = s.take n := by
  unfold cutL
  rw [HT.sIx_none, HT.sIx_nat, List.drop_zero, Nat.sub_zero]
  rcases Nat.le_total n s.length with h | h
  · rw [Nat.min_eq_left h]
  · rw [Nat.min_eq_right h, List.take_of_length_le (Nat.le_refl _), List.take_of_length_le h]
theorem cut_drop {α : Type} (s : List α) (n : Nat) : cutL s (some (n : Int)) none = s.drop n := by
  unfold cutL
  rw [HT.sIx_none, HT.sIx_nat]
  rcases Nat.le_total n s.length with h | h
  · rw [Nat.min_eq_left h, List.take_of_length_le (by rw [List.length_drop]; exact Nat.le_refl _)]
  · rw [Nat.min_eq_right h, List.drop_of_length_le (Nat.le_refl _), List.drop_of_length_le h, List.take_nil]
theorem let_at {n : Nat} (h : n < 26) : LET[n]? = some (97 + n) := by
  have : ∀ n, n < 26 → LET[n]? = some (97 + n) := by decide
  exact this n h
theorem let_mem {c : Nat} (h1 : 97 ≤ c) (h2 : c < 123) : c ∈ LET := by
  have := let_at (n := c - 97) (by omega)
  rw [show 97 + (c - 97) = c by omega] at this
  exact List.mem_of_getElem? this
theorem let_iff {c : Nat} : c ∈ LET ↔ 97 ≤ c ∧ c < 123 := by
  refine ⟨fun h => ?_, fun h => let_mem h.1 h.2⟩
  have : ∀ c ∈ LET, 97 ≤ c ∧ c < 123 := by decide
  exact this c h
section
variable {ds : List D} {kd : KD} {kx : KX}
local instance : Tabl := ⟨[], fun p hp => absurd hp (by simp)⟩
end
end PL
set_option Elab.async false
set_option linter.all false
set_option maxRecDepth 100000
set_option maxHeartbeats 4000000
namespace PL
open PySem L2
variable [Tabl]
theorem DenU.ins {K : PySem.W.Frag} {H0 G H : Hp} {v : V} {C : Addr} {fs : List (PySem.Str × D)} (s : Sub G H) (h : DenU K H0 G H v (.ins C fs)) : ∃ a dx fvs, v = .ref a ∧ H a = some (.ins C dx fvs) ∧ DenF K G fvs fs := by
  rcases h with h | ⟨p, e, g, dx, fvs, h1, h2, h3, h4, h5⟩
  · cases h with
    | ins h1 h2 h3 => exact ⟨_, _, _, rfl, s.at_ h1 (fun z => z), h3⟩
  · exact ⟨p, dx, fvs, e, h1, h5⟩
theorem DenU.sl {K : PySem.W.Frag} {H0 G H : Hp} {v : V} {C : Addr} {ds : List D} (s : Sub G H) (h : DenU K H0 G H v (.sl C ds)) : ∃ (a dx : Addr) (vs : List V), v = .ref a ∧ SlX.Slt H a C dx (vs.map some) ∧ DenL K G vs ds := by
  rcases h with h | ⟨p, e, g, r⟩
  · cases h with
    | @sl a _ dx vs _ h1 h2 h3 => exact ⟨a, dx, vs, rfl, .inr ⟨s.at_ h1 (fun z => by unfold SlX.SlO at z; exact z), s.at_ h2 (fun z => z)⟩, h3⟩
  · exact r.elim
theorem DenU.cls {K : PySem.W.Frag} {H0 G H : Hp} {v : V} {C : Addr} (h : DenU K H0 G H v (.cls C)) : v = .ref C := by
  rcases h with h | ⟨p, e, g, r⟩
  · cases h; rfl
  · exact r.elim
def tpFld (cs : List Addr) (f : PySem.Str) (t : TP) : TP := fun Γ k kx => t Γ (fun d => match d with
  | .ins C fs => C ∈ cs ∧ match fs.lookup f with
    | some v => k v
    | none => False
  | _ => False) kx
section
variable {X : Cx} {W : WX} {e o : Expr} {es : List Expr} {t ta : TP} {tl : TL} {f m : PySem.Str} {pos apos p : Pos} {cs : List Addr}
theorem p_fld (hc : ∀ C ∈ cs, Cls X.K C ∧ NoAttr X.K C f) (ha : PU X W e t) (hb : attributeBase e f X.env (eval e X.env) = eval e X.env := by rfl) : PP X W (.Attribute e f pos) (tpFld cs f t) := by
  obtain ⟨ea, pa, ra⟩ := ha.ex
  refine ⟨_, pe_fld pa hb, fun G0 H0 Γ σ G H k kx Q F ht hk hx => ?_⟩
  refine ra G0 H0 Γ σ G H _ kx _ F ht (fun d v G1 H1 k1 x1 n1 => ?_) hx
  cases d with
  | ins C fs =>
    obtain ⟨hC, k2⟩ := k1
    cases e : fs.lookup f with
    | none => rw [e] at k2; exact k2.elim
    | some y =>
      rw [e] at k2
      obtain ⟨a, dx, fvs, rfl, h1, h2⟩ := n1.ins x1.sub
      obtain ⟨u, hu, nu⟩ := h2.get e
      exact ⟨a, C, dx, fvs, u, rfl, h1, (hc C hC).1, (hc C hC).2, hu, hk y u G1 H1 k2 x1 nu⟩
  | _ => exact k1.elim
theorem run_fnRS {CX : CXT} {k : Nat} {f : Addr} {sp : Sp} {E : XK} {Q : VK} {us : List Value} {vs : List V} {pins : List (Addr × Obj)} {σ : L2.St} {H : Hp} {s : Shared} (F : FnR X.prog X.w X.K X.mg X.base CX k f sp) (hr : Room k X.A) (hx : PassesAt CX X σ E) (I : Inv X pins σ H s) (r : Vals vs us) (h : sp vs H Q E) :
    codeAny (model X.prog X.w) X.A (.call (.ref f) ⟨us, []⟩) (fun r s' => match r with | .ok (.ret v) => EP X pins σ Q v s' | .ok _ => False | .error e => X.xe e s') s := by
  refine codeAny_mono (F X.A X.stack s H us vs Q E hr I.env0 r h) fun r s' hq => ?_
  cases r with
  | error e => exact hx pins H s e s' I hq
  | ok fl =>
    cases fl with
    | ret u => exact I.after hq
    | next => exact False.elim hq
    | brk => exact False.elim hq
    | cont => exact False.elim hq
/-- a method of a class with dicts -/
structure Mt (P : Program) (w : World) (K : PySem.W.Frag) (mg : PySem.Str → Option Value) (base : Heap) (C : Addr) (m : PySem.Str) (k n : Nat) (fs : FS) : Prop where
  c : Cls K C
  ex : ∃ f, Meth K C m f ∧ FnR P w K mg base (L2.CX P w) k f (spOf K (n + 1) fs)
end
end PL
set_option Elab.async false
set_option linter.all false
set_option maxRecDepth 100000
set_option maxHeartbeats 4000000
namespace PL
open PySem L2 PyProof.Rows PySem.W
/-- a block within the body b of a def -/
structure PSb (X : Cx) (b : List Stmt) (st : List Stmt) (t : TS) : Prop where
  run : ∀ (pins : List (Addr × Obj)) (s : Shared) (σ : L2.St) (H : Hp) (D : Ends), Inv X pins σ H s → t D σ H → PySem.wpAt (model X.prog X.w) X.A (.func b X.env) (execs st X.env) (SP X pins D) X.xe s
structure PS1b (X : Cx) (b : List Stmt) (st : Stmt) (t : TS) : Prop where
  run : ∀ (pins : List (Addr × Obj)) (s : Shared) (σ : L2.St) (H : Hp) (D : Ends), Inv X pins σ H s → t D σ H → PySem.wpAt (model X.prog X.w) X.A (.func b X.env) (exec st X.env) (SP X pins D) X.xe s
section
variable {X : Cx} {bo : List Stmt} {st : Stmt} {rest : List Stmt} {t u : TS}
theorem PSs.bl (h : PSs X rest t) : PSb X bo rest t := ⟨fun pins s σ H D I q => PySem.wpAt_of_wpAny (h.run pins s σ H D I q)⟩
theorem PS.bl (h : PS X st t) : PS1b X bo st t := ⟨fun pins s σ H D I q => PySem.wpAt_of_wpAny (h.run pins s σ H D I q)⟩
end
end PL
set_option Elab.async false
set_option linter.all false
set_option maxRecDepth 100000
set_option maxHeartbeats 4000000
namespace PL
open PySem L2 PyProof.Rows PySem.W PySem.Calls
end PL
set_option Elab.async false
set_option linter.all false
set_option maxRecDepth 100000
set_option maxHeartbeats 4000000
namespace PL
open PySem L2 PyProof.Rows
variable [Tabl]
def hole2 (H : Hp) (p d : Addr) : Hp := fun a => if a = p ∨ a = d then none else H a
theorem hole2_p {H : Hp} {p d : Addr} : hole2 H p d p = none := by unfold hole2; rw [if_pos (.inl rfl)]
theorem hole2_d {H : Hp} {p d : Addr} : hole2 H p d d = none := by unfold hole2; rw [if_pos (.inr rfl)]
theorem hole2_ne {H : Hp} {p d a : Addr} (h1 : a ≠ p) (h2 : a ≠ d) : hole2 H p d a = H a := by unfold hole2; rw [if_neg (fun z => z.elim h1 h2)]
theorem hole2_same {H : Hp} {p d : Addr} : Same (hole2 H p d) H := fun a o e => by
  by_cases h : a = p ∨ a = d
  · unfold hole2 at e
    rw [if_pos h] at e
    cases e
  · unfold hole2 at e
    rwa [if_neg h] at e
theorem hole2_tab {H : Hp} {p d P : Addr} {C : Addr} {fvs : List (PySem.Str × V)} {q : PySem.Str} (t : LamX.TabS H P q) (hp : H p = some (.ins C d fvs)) (hd : H d = some (.own p)) : LamX.TabS (hole2 H p d) P q := by
  obtain ⟨ps, h1, h2, h3⟩ := t
  have at_ : ∀ {a : Addr} {o : HO}, H a = some o → o ≠ .ins C d fvs → o ≠ .own p → hole2 H p d a = some o := fun {a o} e n1 n2 => by
    rw [hole2_ne (fun z => by rw [z, hp] at e; exact n1 (Option.some.inj e).symm) (fun z => by rw [z, hd] at e; exact n2 (Option.some.inj e).symm)]
    exact e
  refine ⟨ps, at_ h1 (fun z => nomatch z) (fun z => nomatch z), h2, fun pos cv hc => ?_⟩
  obtain ⟨c, e1, e2⟩ := h3 pos cv hc
  exact ⟨c, e1, at_ e2 (fun z => by unfold LamX.CodeO at z; cases z) (fun z => by unfold LamX.CodeO at z; cases z)⟩
theorem hole2_sub {G H : Hp} {p d C : Addr} {fvs : List (PySem.Str × V)} (s : Sub G H) (gp : G p = none) (gd : G d = none) (hp : H p = some (.ins C d fvs)) (hd : H d = some (.own p)) : Sub G (hole2 H p d) := by
  refine ⟨fun a o e => ?_, s.nt, fun q hq => hole2_tab (s.tb q hq) hp hd⟩
  have n1 : a ≠ p := fun z => by rw [z, gp] at e; cases e
  have n2 : a ≠ d := fun z => by rw [z, gd] at e; cases e
  rw [hole2_ne n1 n2]
  exact s.m a o e
/-- the object handed in is the def's own: an instance -/
def spOi (K : PySem.W.Frag) (n : Nat) (fs : FSo) : Sp := fun vs H Q E => ∃ G ds k kx p dx C fs0 fvs, vs.length = n ∧ ds.length = n ∧ Sub G H ∧ G p = none ∧ G dx = none ∧ vs[0]? = some (.ref p) ∧ ds[0]? = some (.ins C fs0) ∧ H p = some (.ins C dx fvs) ∧ H dx = some (.own p) ∧ DenF K G fvs fs0 ∧
  (∀ (i : Nat) v d, i ≠ 0 → vs[i]? = some v → ds[i]? = some d → Den K G v d) ∧ fs ds k kx ∧
  (∀ d e v G' H', k d e → Ext G (hole2 H p dx) G' H' → G' p = none → OwnAt K (hole2 H p dx) G' H' p e → Den K G' v d → Q v H') ∧
  (∀ x cls dA G' H', kx x → Ext G (hole2 H p dx) G' H' → XDen K G' H' cls dA x → E cls dA H')
def iEnds (p : Addr) (k : D → D → Prop) (kx : KX) : PEn := ⟨fun Γ => match gat Γ 0 with | .pw q e => q = p ∧ k .non e | _ => False, fun _ => False, fun _ => False, fun d Γ => match gat Γ 0 with | .pw q e => q = p ∧ k d e | _ => False, fun x _ => kx x⟩
theorem fr_own0 {K : PySem.W.Frag} {G H H0 : Hp} {N : List PySem.Str} {vs : List V} {ds : List D} {p : Addr} {d : D} (x : Ext G H0 G H) (hl : vs.length = ds.length) (g : G p = none) (h0 : H0 p = none) (hv : vs[0]? = some (.ref p)) (hd : ds[0]? = some d) (ho : OwnAt K H0 G H p d)
    (hr : ∀ (i : Nat) v d, i ≠ 0 → vs[i]? = some v → ds[i]? = some d → Den K G v d) : Fr K G H0 (gaO N.length 0 p ds) (L2.start N vs) G H := by
  match ds, vs, hl, hv, hd, hr with
  | [], _, _, _, hd, _ => cases hd
  | d0 :: dr, [], hl, _, _, _ => cases hl
  | d0 :: dr, v0 :: vr, hl, hv, hd, hr =>
    cases hv
    cases hd
    have hl : vr.length = dr.length := by simpa using hl
    have eg : gaO N.length 0 p (d :: dr) = .pw p d :: (dr.map Sl.pu ++ List.replicate (N.length - (dr.length + 1)) Sl.un) := rfl
    have es : L2.start N (.ref p :: vr) = some (.ref p) :: (vr.map some ++ List.replicate (N.length - (vr.length + 1)) none) := rfl
    have rest : ∀ (i : Nat) (s : Sl), (dr.map Sl.pu ++ List.replicate (N.length - (dr.length + 1)) Sl.un)[i]? = some s → s = .un ∨ ∃ d, dr[i]? = some d ∧ s = .pu d := fun i s h => by
      by_cases hi : i < dr.length
      · rw [List.getElem?_append_left (by rw [List.length_map]; exact hi), List.getElem?_map, List.getElem?_eq_getElem hi] at h
        cases h
        exact .inr ⟨_, List.getElem?_eq_getElem hi, rfl⟩
      · rw [List.getElem?_append_right (by rw [List.length_map]; omega)] at h
        exact .inl (List.mem_replicate.mp (List.mem_of_getElem? h)).2
    have own0 : ∀ (i : Nat) (s : Sl), (gaO N.length 0 p (d :: dr))[i]? = some s → s.owns → i = 0 := fun i s h ow => by
      rw [eg] at h
      cases i with
      | zero => rfl
      | succ i =>
        rw [List.getElem?_cons_succ] at h
        rcases rest i s h with rfl | ⟨_, _, rfl⟩ <;> exact ow.elim
    refine ⟨by rw [eg, es]; simp [hl], x, fun i s h => ?_, fun a b q s t h1 h2 h3 h4 _ _ => (own0 a s h1 h2).trans (own0 b t h3 h4).symm⟩
    rw [eg] at h
    cases i with
    | zero =>
      cases h
      exact ⟨by rw [es]; rfl, g, h0, ho⟩
    | succ i =>
      rw [List.getElem?_cons_succ] at h
      rcases rest i s h with rfl | ⟨d1, e1, rfl⟩
      · trivial
      · have hi := (List.getElem?_eq_some_iff.mp e1).1
        have ev : vr[i]? = some (vr[i]'(by omega)) := List.getElem?_eq_getElem (by omega)
        refine ⟨_, ?_, hr (i + 1) _ d1 (Nat.succ_ne_zero i) (by rw [List.getElem?_cons_succ]; exact ev) (by rw [List.getElem?_cons_succ]; exact e1)⟩
        rw [es, List.getElem?_cons_succ, List.getElem?_append_left (by rw [List.length_map]; omega), List.getElem?_map, ev]
        rfl
theorem spOi_len {K : PySem.W.Frag} {n : Nat} {fs : FSo} {vs : List V} {H : Hp} {Q : VK} {E : XK} (h : spOi K n fs vs H Q E) : vs.length = n := by
  obtain ⟨G, ds, k, kx, p, dx, C, fs0, fvs, a, _⟩ := h
  exact a
/-- the reading of such a def's body -/
theorem read_own {K : PySem.W.Frag} {n : Nat} {fs : FSo} {N : List PySem.Str} {vs : List V} {H : Hp} {Q : VK} {E : XK} {ts : TS} {t : TSp} (h : spOi K n fs vs H Q E) (rd : RdS K (fun cls d _ H => E cls d H) ts t) (ht : ∀ ds kd kx p, ds.length = n → fs ds kd kx → t (iEnds p kd kx) (gaO N.length 0 p ds)) :
    ts { nx := fun _ H' => Q .non H', rt := Q } (L2.start N vs) H := by
  obtain ⟨G, ds, kd, kx, p, dx, C, fs0, fvs, hlv, hl, sb, gp, gd, hv, hd, hp, hdx, df, r, hf, hk, hx⟩ := h
  have x0 : Ext G (hole2 H p dx) G H := ⟨.of hole2_same, Same.refl G, fun _ h _ => h, sb⟩
  have F0 := fr_own0 (N := N) x0 (hlv.trans hl.symm) gp hole2_p hv hd ⟨dx, fvs, hp, hdx, gd, hole2_d, df⟩ r
  have fin : ∀ {Γ σ G' H'} {k0 : D → Prop}, (match gat Γ 0 with | .pw q e => q = p ∧ k0 e | _ => False) → Fr K G (hole2 H p dx) Γ σ G' H' → ∃ e, k0 e ∧ G' p = none ∧ OwnAt K (hole2 H p dx) G' H' p e := fun {Γ σ G' H' k0} q F' => by
    cases e : gat Γ 0 with
    | pw q2 e2 =>
      rw [e] at q
      obtain ⟨rfl, q⟩ := q
      obtain ⟨_, g2, _, o2⟩ := F'.at_ 0 _ (gat_get Γ 0 _ e (by simp))
      exact ⟨e2, q, g2, o2⟩
    | _ => rw [e] at q; exact q.elim
  refine rd G (hole2 H p dx) _ (L2.start N vs) G H (iEnds p kd kx) _ F0 (ht ds kd kx p hl hf) ⟨?_, ?_, ?_, ?_, ?_⟩
  · intro Γ σ G' H' q F'
    obtain ⟨e, q, g2, o2⟩ := fin q F'
    exact hk .non e .non G' H' q F'.e g2 o2 .non
  · intro Γ σ G' H' q
    exact q.elim
  · intro Γ σ G' H' q
    exact q.elim
  · intro d v Γ σ G' H' q F' nn
    obtain ⟨e, q, g2, o2⟩ := fin q F'
    exact hk d e v G' H' q F'.e g2 o2 nn
  · intro y cls dA Γ σ G' H' q F' nn
    exact hx y cls dA G' H' q F'.e nn
section
variable {P : Program} {w : World} {K : PySem.W.Frag} {mg : PySem.Str → Option Value} {base : Heap}
theorem fn_okI {x qual : PySem.Str} {st : Stmt} {f : Addr} {fd : FuncData} {N ps : List PySem.Str} {k n : Nat} {fs : FSo} (F : Fun K x qual st f fd) (S : FnScope N ps (defScope st)) (hn : ps.length = n)
    (body : ∀ (cdv : Value) (A : Around) (outer : List Env) (s : Shared) (H : Hp) (E : XK), Room k (A.deeper (envOfC qual (defScope st) s.heap.objs.size f cdv)) →
      ∃ t, PSS (cxOf (L2.CX P w) P w K mg base N qual (defScope st) f cdv A outer s H E) (fun cls d _ H => E cls d H) (defBody st) t ∧ ∀ ds kd kx p, ds.length = n → fs ds kd kx → t (iEnds p kd kx) (gaO N.length 0 p ds)) :
    FnOk P w K mg base (L2.CX P w) (k + 1) f fd ps (spOi K n fs) := by
  refine F.okX S (fun vs H Q E h => by rw [spOi_len h, hn]) (fun cdv A outer s H vs Q E hr h => ?_)
  obtain ⟨t, ⟨ts, ps, rd⟩, ht⟩ := body cdv A outer s H E hr
  exact ⟨ts, ps, read_own h rd ht⟩
end
section
variable {K : PySem.W.Frag} {G0 H0 G H G' H' : Hp} {Γ : Ga} {σ : L2.St}
theorem OwnAt.hole {p q d C : Addr} {fvs : List (PySem.Str × V)} {y : D} (h : OwnAt K H0 G H q y) (n : q ≠ p) (hp : H p = some (.ins C d fvs)) (hd : H d = some (.own p)) : OwnAt K H0 G (hole2 H p d) q y := by
  have at_ : ∀ {a : Addr} {o : HO}, H a = some o → a ≠ p → o ≠ .own p → hole2 H p d a = some o := fun {a o} e n1 n2 => by
    rw [hole2_ne n1 (fun z => by rw [z, hd] at e; exact n2 (Option.some.inj e).symm)]
    exact e
  cases y with
  | lst ds => obtain ⟨xs, h1, h2⟩ := h; exact ⟨xs, at_ h1 n (fun z => nomatch z), h2⟩
  | dct ks => obtain ⟨xs, h1, h2⟩ := h; exact ⟨xs, at_ h1 n (fun z => nomatch z), h2⟩
  | ins C2 fs =>
    obtain ⟨dx, fv, h1, h2, h3⟩ := h
    exact ⟨dx, fv, at_ h1 n (fun z => nomatch z), at_ h2 (fun z => by rw [z, hp] at h2; cases h2) (fun z => by cases z; exact n rfl), h3⟩
  | _ => exact h.elim
def noKp (Γ : Ga) : Bool := Γ.all fun s => match s with | .kp _ _ _ _ => false | _ => true
theorem noKp_elim {j : Nat} {v : V} {c : Addr} {u : HO} {Gx : Hp} (h : noKp Γ = true) (e : Γ[j]? = some (.kp v c u Gx)) : False := by
  have := List.all_eq_true.mp h _ (List.mem_of_getElem? e)
  cases this
theorem own_not {p r : Addr} {y : D} (h : OwnAt K H0 G H r y) (e : H r = some (.own p)) : False := by
  cases y with
  | lst ds => obtain ⟨xs, h1, h2⟩ := h; rw [e] at h1; cases h1
  | dct ks => obtain ⟨xs, h1, h2⟩ := h; rw [e] at h1; cases h1
  | ins C2 fs => obtain ⟨dx, fv, h1, h2⟩ := h; rw [e] at h1; cases h1
  | _ => exact h.elim
theorem Fr.hole (F : Fr K G0 H0 Γ σ G H) {i : Nat} {sl : Sl} {p d C : Addr} {fvs : List (PySem.Str × V)} (hs : Γ[i]? = some sl) (ho : sl.owns) (e : σ[i]? = some (some (.ref p))) (gp : G p = none) (gd : G d = none) (h0 : H0 p = none) (hd0 : H0 d = none) (hp : H p = some (.ins C d fvs)) (hd : H d = some (.own p)) (nk : noKp Γ = true) :
    Fr K G0 H0 (gset Γ i .un) σ G (hole2 H p d) := by
  have sub := hole2_sub F.sub gp gd hp hd
  have kept : ∀ a o, H0 a = some o → a ≠ p ∧ a ≠ d := fun a o z => ⟨ne_of_none z h0, ne_of_none z hd0⟩
  refine ⟨by rw [gset_eq, List.length_set]; exact F.len, ⟨⟨fun a o z n => ?_, fun a o z => ?_, fun t q hq => hole2_tab (F.e.h.tb t q hq) hp hd⟩, F.e.g, fun a z ⟨o, q⟩ => F.e.nw a z ⟨o, q⟩, sub⟩, fun j s h => ?_, fun a b q s t h1 h2 h3 h4 h5 h6 => ?_⟩
  · rw [hole2_ne (kept a o z).1 (kept a o z).2]
    exact F.e.h.k a o z n
  · rw [hole2_ne (kept a o z).1 (kept a o z).2]
    exact F.e.h.t a o z
  · by_cases hj : i = j
    · subst hj
      rw [gset_eq, List.getElem?_set_self (List.getElem?_eq_some_iff.mp hs).1] at h
      cases h
      trivial
    · rw [gset_eq, List.getElem?_set_ne hj] at h
      have q := F.at_ j s h
      have apart : s.owns → ∀ r, σ[j]? = some (some (.ref r)) → r ≠ p := fun ow r er z => by
        subst z
        exact hj (F.dj i j r sl s hs ho h ow e er)
      cases s with
      | un => trivial
      | pu y => exact q
      | ow y => obtain ⟨r, e1, g1, h1, o1⟩ := q; exact ⟨r, e1, g1, h1, o1.hole (apart trivial r e1) hp hd⟩
      | lk r u y =>
        obtain ⟨e1, g1, h1, q1, o1⟩ := q
        have n := apart trivial r e1
        refine ⟨e1, g1, h1, ?_, o1.hole n hp hd⟩
        rw [hole2_ne n (fun z => by
          subst z
          rw [hd] at q1
          cases q1
          exact own_not o1 hd)]
        exact q1
      | pw r y => obtain ⟨e1, g1, h1, o1⟩ := q; exact ⟨e1, g1, h1, o1.hole (apart trivial r e1) hp hd⟩
      | kp v c u Gx =>
        obtain ⟨e1, h1, h2, h3, h4⟩ := q
        exact (noKp_elim nk h).elim
      | xv a cls dA fs =>
        obtain ⟨e1, h1⟩ := q
        refine ⟨e1, ?_⟩
        rcases h1 with h1 | ⟨r, fv, h1, h2, h3⟩
        · exact .inl h1
        · refine .inr ⟨r, fv, h1, ?_, h3⟩
          rw [hole2_ne (fun z => by rw [z, hp] at h2; cases h2) (fun z => by rw [z, hd] at h2; cases h2)]
          exact h2
      | pf y l Gx =>
        obtain ⟨h0, h1, h2⟩ := q
        refine ⟨h0, fun z hz => ⟨?_, (h1 z hz).2⟩, h2⟩
        obtain ⟨e1, e2, _, e3⟩ := h1 z hz
        rw [hole2_ne (fun w => by rw [w, hp] at e1; exact e2 (Option.some.inj e1 ▸ trivial)) (fun w => by rw [w, hd] at e1; exact e3 _ (Option.some.inj e1).symm)]
        exact e1
  · have f : ∀ (a : Nat) (s : Sl), (gset Γ i .un)[a]? = some s → s.owns → Γ[a]? = some s := fun a s h1 h2 => by
      by_cases ha : i = a
      · subst ha
        rw [gset_eq, List.getElem?_set_self (List.getElem?_eq_some_iff.mp hs).1] at h1
        cases h1
        exact h2.elim
      · rw [gset_eq, List.getElem?_set_ne ha] at h1
        exact h1
    exact F.dj a b q s t (f a s h1 h2) h2 (f b t h3 h4) h4 h5 h6
end
end PL
set_option Elab.async false
set_option linter.all false
set_option maxRecDepth 100000
set_option maxHeartbeats 4000000
namespace PL
open PySem L2 PyProof.Rows
variable [Tabl]
section
variable {K : PySem.W.Frag} {G0 H0 G H G' H' : Hp} {Γ : Ga} {σ : L2.St}
theorem Fr.ret (F : Fr K G0 H0 Γ σ G H) {i : Nat} {sl : Sl} {p : Addr} {y y0 : D} (hs : Γ[i]? = some sl) (ht : sl.og = some y0) (e : σ[i]? = some (some (.ref p))) (h0 : H0 p = none) (F1 : Fr K G0 H0 (gset Γ i .un) σ G' H') (gp : G' p = none) (o : OwnAt K H0 G' H' p y) :
    Fr K G0 H0 (gset Γ i (sl.op y)) σ G' H' := by
  have tow : sl.owns := by cases sl <;> first | trivial | cases ht
  have hi := (List.getElem?_eq_some_iff.mp hs).1
  refine ⟨by rw [gset_eq, List.length_set]; exact F.len, F1.e, fun j s h => ?_, fun a b q s t h1 h2 h3 h4 h5 h6 => ?_⟩
  · by_cases hj : i = j
    · subst hj
      rw [gset_eq, List.getElem?_set_self hi] at h
      cases h
      cases sl with
      | pw r d2 =>
        obtain ⟨e2, _⟩ := F.at_ i _ hs
        rw [e] at e2
        cases e2
        exact ⟨e, gp, h0, o⟩
      | _ => exact ⟨p, e, gp, h0, o⟩
    · rw [gset_eq, List.getElem?_set_ne hj] at h
      exact F1.at_ j s (by rw [gset_eq, List.getElem?_set_ne hj]; exact h)
  · have f : ∀ (a : Nat) (s : Sl), (gset Γ i (sl.op y))[a]? = some s → s.owns → ∃ s', Γ[a]? = some s' ∧ s'.owns := fun a s h1 h2 => by
      by_cases ha : i = a
      · subst ha
        exact ⟨_, hs, tow⟩
      · rw [gset_eq, List.getElem?_set_ne ha] at h1
        exact ⟨s, h1, h2⟩
    obtain ⟨s', g1, g2⟩ := f a s h1 h2
    obtain ⟨t', g3, g4⟩ := f b t h3 h4
    exact F.dj a b q s' t' g1 g2 g3 g4 h5 h6
theorem OwnAt.base {p d q : Addr} {y : D} (h : OwnAt K (hole2 H p d) G' H' q y) (k : ∀ a, H a = none → H0 a = none) (h0 : H0 p = none) (hd0 : H0 d = none) : OwnAt K H0 G' H' q y := by
  cases y with
  | lst ds => exact h
  | dct ks => exact h
  | ins C2 fs =>
    obtain ⟨dx, fv, h1, h2, h3, h4, h5⟩ := h
    refine ⟨dx, fv, h1, h2, h3, ?_, h5⟩
    by_cases a : dx = p
    · rw [a]; exact h0
    · by_cases b : dx = d
      · rw [b]; exact hd0
      · rw [hole2_ne a b] at h4
        exact k dx h4
  | _ => exact h.elim
end
def putFD (f : PySem.Str) (v : D) : List (PySem.Str × D) → List (PySem.Str × D)
  | [] => [(f, v)]
  | (g, x) :: r => if g = f then (g, v) :: r else (g, x) :: putFD f v r
theorem denF_put {K : PySem.W.Frag} {G : Hp} {f : PySem.Str} {v : V} {d : D} (n : Den K G v d) : ∀ {vs : List (PySem.Str × V)} {ds : List (PySem.Str × D)}, DenF K G vs ds → DenF K G (putF f v vs) (putFD f d ds)
  | _, _, .nil => .cons n .nil
  | _, _, .cons (f := g) h t => by
    unfold putF putFD
    by_cases e : g = f
    · rw [if_pos e, if_pos e]
      exact .cons n t
    · rw [if_neg e, if_neg e]
      exact .cons h (denF_put n t)
def onOI (Γ : Ga) (i : Nat) (k : Addr → List (PySem.Str × D) → Prop) : Prop := match (gat Γ i).og with
  | some (.ins C fs) => k C fs
  | _ => False
theorem onOI_elim {Γ : Ga} {i : Nat} {k : Addr → List (PySem.Str × D) → Prop} (h : onOI Γ i k) : ∃ C fs, (gat Γ i).og = some (.ins C fs) ∧ k C fs := by
  unfold onOI at h
  cases e : (gat Γ i).og with
  | none => simp only [e] at h
  | some d =>
    cases d with
    | ins C fs =>
      simp only [e] at h
      exact ⟨C, fs, rfl, h⟩
    | _ => simp only [e] at h
def tsSetF (cs : List Addr) (i : Nat) (f : PySem.Str) (t : TP) : TSp := fun P Γ => t Γ (fun d => onOI Γ i fun C fs => C ∈ cs ∧ fs.length < 900 ∧ P.nx (oput Γ i (.ins C (putFD f d fs)))) (fun x => P.xx x Γ)
section
variable {X : Cx} {W : WX} {e o : Expr} {es : List Expr} {t ta : TP} {tl : TL} {f m x : PySem.Str} {pos pos' apos p px : Pos} {cs : List Addr}
theorem s_setF (i : Nat) (hc : ∀ C ∈ cs, Cls X.K C ∧ NoAttr X.K C f) (he : PP X W e t) (hN : X.N[i]? = some x := by rfl) (hv : Vis X.env.scope x := by first | exact Or.inl rfl | exact Or.inr (Or.inl rfl) | exact Or.inr (Or.inr rfl))
    (hd : (x == ("__debug__" : PySem.Str)) = false := by decide) (hcd : (x == ("__classdict__" : PySem.Str)) = false := by decide) (hs : swapsWith e (some (.Attribute (.Name x px) f pos')) pos.line X.env = pure false := by rfl) :
    PS1 X W (.Assign [.Attribute (.Name x px) f pos'] e pos) (tsSetF cs i f t) := by
  obtain ⟨ee, pe, re⟩ := he.ex
  refine ⟨_, ps_fld (pe_var hN hv hd hcd) pe hs, fun G0 H0 Γ σ G H P E F ht ok => ?_⟩
  refine re G0 H0 Γ σ G H _ _ _ F ht (fun d v G1 H1 k1 x1 n1 => ?_) (ok.x F)
  obtain ⟨C, fs, hg, hC, hlen, k2⟩ := onOI_elim k1
  have F1 := F.up x1
  obtain ⟨hsl, q, e1, g1, h01, dx, fvs, q1, q2, q3, q4, q5⟩ := own_at F1 hg
  refine ⟨.ref q, e1, q, C, dx, fvs, rfl, q1, (hc C hC).1, (hc C hC).2, by rw [q5.length]; omega, ?_⟩
  have dq : dx ≠ q := fun z => by rw [z, q1] at q2; cases q2
  exact ok.nx _ _ _ _ k2 (F1.mut hsl hg e1 g1 h01 q1 trivial ⟨dx, _, upd_same, by rw [upd_ne dq]; exact q2, q3, q4, denF_put n1 q5⟩)
end
/-- what __init__ of C does -/
structure MkI (P : Program) (w : World) (K : PySem.W.Frag) (mg : PySem.Str → Option Value) (base : Heap) (C : Addr) (k n : Nat) (g : FSo) : Prop where
  ex : ∃ f, Mk K C f ∧ FnR P w K mg base (L2.CX P w) k f (spOi K (n + 1) g)
def onIns (y : D) (k : KD) : Prop := match y with
  | .ins C fs => k (.ins C fs)
  | _ => False
def tpMake (C : Addr) (g : FSo) (n : Nat) (tl : TL) : TP := fun Γ k kx => tl Γ (fun ds => ds.length = n ∧ g (.ins C [] :: ds) (fun d y => d = .non ∧ onIns y k) kx) kx
theorem run_makeS {X : Cx} {C f : Addr} {k : Nat} {sp : Sp} {E : XK} {pins : List (Addr × Obj)} {σ : L2.St} {H : Hp} {s : Shared} {Q : VK} {us : List Value} {vs : List V} (M : Mk X.K C f) (F : FnR X.prog X.w X.K X.mg X.base (L2.CX X.prog X.w) k f sp) (hr : Room (k + 1) X.A) (hx : PassesAt (L2.CX X.prog X.w) X σ E) (I : Inv X pins σ H s) (r : Vals vs us)
    (h : ∀ x dx, H x = none → H dx = none → dx ≠ x → sp (.ref x :: vs) (upd (upd H dx (.own x)) x (.ins C dx [])) (fun v H2 => v = .non ∧ Q (.ref x) H2) E) :
    wpAny (model X.prog X.w) X.A (call (.ref C) us) (EP X pins σ Q) X.xe s := by
  have f1 := I.hok.fresh (Nat.le_succ s.heap.objs.size)
  have f2 := I.hok.fresh (Nat.le_refl s.heap.objs.size)
  have hq := h (s.heap.objs.size + 1) s.heap.objs.size f1 f2 (Nat.ne_of_lt (Nat.lt_succ_self _))
  have I2 := Inv.made (C := C) I
  refine wpAny_call (make_map (f := f) I.kIn M.makes M.init (beq_iff_eq.mp M.fn) (codeAny_mono (F _ X.stack _ _ (Value.ref (s.heap.objs.size + 1) :: us) (.ref (s.heap.objs.size + 1) :: vs) _ E (hr.make C us []) (I2.env0.make C us []) (.cons rfl r) hq) fun rs s' hq' => ?_))
  cases rs with
  | error e => exact hx pins _ _ e s' I2 hq'
  | ok fl =>
    cases fl with
    | ret u =>
      obtain ⟨v, H2, J, rv, q1, q2⟩ := I2.after hq'
      subst q1
      exact ⟨rv, .ref (s.heap.objs.size + 1), H2, J, rfl, q2⟩
    | next => exact False.elim hq'
    | brk => exact False.elim hq'
    | cont => exact False.elim hq'
end PL
set_option Elab.async false
set_option linter.all false
set_option maxRecDepth 100000
set_option maxHeartbeats 4000000
namespace PL
open PySem L2 PyProof.Rows
end PL
set_option Elab.async false
set_option linter.all false
set_option maxRecDepth 100000
set_option maxHeartbeats 4000000
namespace CmX
open PySem PySem.Spec PyProof.Rows L2
end CmX
set_option Elab.async false
set_option linter.all false
set_option maxRecDepth 100000
set_option maxHeartbeats 4000000
namespace CmX
open PySem PySem.Spec PyProof.Rows L2
end CmX
set_option Elab.async false
set_option linter.all false
set_option maxRecDepth 100000
set_option maxHeartbeats 4000000
namespace PL
open PySem PySem.Froz L2 PyProof.Rows PpSet
variable [Tabl]
section
variable {X : Cx} {W : WX} {e elt tg iter : Expr} {t : TP} {p q pos : Pos}
def fTup : F1
  | .lst xs, k => k (.tup xs)
  | .tup xs, k => k (.tup xs)
  | _, _ => False
theorem c_tup : CallR X (.type "tuple") (fun xs H Q => ∃ p ys, xs = [.ref p] ∧ ((SqL X.K H p ys ∧ ∀ l, H l = none → Q (.ref l) (upd H l (.tup ys))) ∨ (SqT X.K H p ys ∧ Q (.ref p) H))) ∧ RdC1 X.K (fun xs H Q => ∃ p ys, xs = [.ref p] ∧ ((SqL X.K H p ys ∧ ∀ l, H l = none → Q (.ref l) (upd H l (.tup ys))) ∨ (SqT X.K H p ys ∧ Q (.ref p) H))) fTup := by
  refine ⟨call_tuple_of, fun H0 G H v d k Q s n h hk => ?_⟩
  cases d with
  | lst xs =>
    obtain ⟨a, ys, rfl, h1, r1⟩ := n.lst s
    refine ⟨a, ys, rfl, .inl ⟨SqL.of h1, fun l hl => ?_⟩⟩
    have ex := Ext.new (o := .tup ys) s hl
    exact hk _ _ _ _ h ex (.tup (.inl (.inl upd_same)) (r1.up ex.g))
  | tup xs =>
    rcases n with n | ⟨p, e, g, r⟩
    · cases n with
      | @tup a vs _ h1 h2 => exact ⟨a, vs, rfl, .inr ⟨s.sqt h1, hk _ _ G H h (Ext.refl s) (.tup h1 h2)⟩⟩
    · exact r.elim
  | _ => exact h.elim
end
end PL
set_option Elab.async false
set_option linter.all false
set_option maxRecDepth 100000
set_option maxHeartbeats 4000000
namespace PL
open PySem L2 PyProof.Rows
variable [Tabl]
section
variable {K : PySem.W.Frag} {G0 H0 G H : Hp} {Γ : Ga} {σ : L2.St}
theorem Fr.slot (F : Fr K G0 H0 Γ σ G H) {i : Nat} {a b : Sl} (hs : Γ[i]? = some a) (ho : a.owns) (hb : b.owns → a.owns) (n : SlOk K H0 G H (σ[i]?) b) : Fr K G0 H0 (gset Γ i b) σ G H := by
  refine ⟨by rw [gset_eq, List.length_set]; exact F.len, F.e, fun j s h => ?_, fun x y q s t h1 h2 h3 h4 h5 h6 => ?_⟩
  · by_cases hj : i = j
    · subst hj
      rw [gset_gat hs] at h
      cases h
      exact n
    · rw [gset_eq, List.getElem?_set_ne hj] at h
      exact F.at_ j s h
  · have f : ∀ (x : Nat) (s : Sl), (gset Γ i b)[x]? = some s → s.owns → ∃ s', Γ[x]? = some s' ∧ s'.owns := fun x s h1 h2 => by
      by_cases hx : i = x
      · subst hx
        exact ⟨a, hs, ho⟩
      · rw [gset_eq, List.getElem?_set_ne hx] at h1
        exact ⟨s, h1, h2⟩
    obtain ⟨s', g1, g2⟩ := f x s h1 h2
    obtain ⟨t', g3, g4⟩ := f y t h3 h4
    exact F.dj x y q s' t' g1 g2 g3 g4 h5 h6
end
end PL
set_option Elab.async false
set_option linter.all false
set_option maxRecDepth 100000
set_option maxHeartbeats 4000000
namespace PL
open PySem L2 PyProof.Rows
variable [Tabl]
section
variable {X : Cx} {W : WX} {e a b c o : Expr} {es : List Expr} {t ta tb tc to : TP} {tl : TL} {tt tu : TB} {pos apos p q : Pos} {x : PySem.Str} {k n j : Nat} {fs : FS}
theorem b_chain {op op2 : CmpOp} {r r2 : R2} {f g : F2} (ho : OpR X (compareOp op) r ∧ RdO X.K r f) (ho2 : OpR X (compareOp op2) r2 ∧ RdO X.K r2 g) (ha : PU X W a ta) (hb : PU X W b tb) (hc : PU X W c tc) (hm : lastMarks [op, op2] [b, c] = false := by with_unfolding_all rfl) :
    PB X W (.Compare a [op, op2] [b, c] pos) (tbV (tpChain f g ta tb tc)) := by
  obtain ⟨ea, pa, ra⟩ := ha.ex
  obtain ⟨eb, pb, rb⟩ := hb.ex
  obtain ⟨ec, pc, rc⟩ := hc.ex
  refine ⟨_, pt_chain ho.1 ho2.1 pa pb pc hm, fun G0 H0 Γ σ G H k kx Q F ht hk hx => ?_⟩
  refine ra G0 H0 Γ σ G H _ kx _ F ht (fun d1 v1 G1 H1 k1 x1 n1 => ?_) hx
  refine rb G0 H0 Γ σ G1 H1 _ kx _ (F.up x1) k1 (fun d2 v2 G2 H2 k2 x2 n2 => ?_) (hx.up x1)
  refine ho.2 H0 G2 H2 v1 v2 d1 d2 _ _ x2.sub (n1.up x2) n2 k2 fun d v G3 H3 k3 x3 n3 => ?_
  obtain ⟨q, rfl, k3⟩ := onB_elim k3
  have x13 := (x1.trans x2).trans x3
  refine ⟨q, DenU.bl (.inl n3) (H0 := H0) (H := H3), ?_⟩
  cases q with
  | true =>
    refine rc G0 H0 Γ σ G3 H3 _ kx _ (F.up x13) k3 (fun d3 v3 G4 H4 k4 x4 n4 => ?_) (hx.up x13)
    refine ho2.2 H0 G4 H4 v2 v3 d2 d3 _ _ x4.sub (n2.up (x3.trans x4)) n4 k4 fun d v G' H' kd ex dn => ?_
    obtain ⟨q2, rfl, kd⟩ := onB_elim kd
    exact ⟨q2, DenU.bl (.inl dn) (H0 := H0) (H := H'), hk q2 G' H' kd ((x13.trans x4).trans ex)⟩
  | false =>
    obtain ⟨q2, e2, k3⟩ := onB_elim k3
    cases e2
    exact ⟨false, rfl, hk false G3 H3 k3 x13⟩
end
end PL
set_option Elab.async false
set_option linter.all false
set_option maxRecDepth 100000
set_option maxHeartbeats 4000000
namespace L2
open PySem PySem.Spec PyProof.Rows
end L2
namespace PL
open PySem L2
end PL
set_option Elab.async false
set_option linter.all false
set_option maxRecDepth 100000
set_option maxHeartbeats 4000000
namespace CmX
open PySem PySem.Spec PyProof.Rows L2
end CmX
set_option Elab.async false
set_option linter.all false
set_option maxRecDepth 100000
set_option maxHeartbeats 4000000
namespace PL
open PySem L2 PyProof.Rows CmX
variable [Tabl]
def noOwn (Γ : Ga) : Bool := Γ.all fun s => match s with
  | .un => true
  | .pu _ => true
  | _ => false
theorem noOwn_at {Γ : Ga} (h : noOwn Γ = true) {i : Nat} {s : Sl} (e : Γ[i]? = some s) : s = .un ∨ ∃ d, s = .pu d := by
  have := List.all_eq_true.mp h _ (List.mem_of_getElem? e)
  cases s with
  | un => exact .inl rfl
  | pu d => exact .inr ⟨d, rfl⟩
  | _ => cases this
section
variable {X : Cx} {W : WX} {w0 w1 : TI} {g0 : TG} {q0 : TT} {ek ev : TE} {t0 t1 : TL} {gp : TGp} {tk tv : TP} {is own : List Nat} {j : Nat}
theorem Fr.base {K : PySem.W.Frag} {G0 H0 G1 H1 G H : Hp} {Γ : Ga} {σ : L2.St} (F : Fr K G0 H0 Γ σ G H) (n : noOwn Γ = true) (x : Ext G1 H1 G H) : Fr K G1 H1 Γ σ G H := by
  refine ⟨F.len, x, fun i t h => ?_, F.dj⟩
  have q := F.at_ i t h
  rcases noOwn_at n h with rfl | ⟨d, rfl⟩
  · trivial
  · exact q
end
end PL
set_option Elab.async false
set_option linter.all false
set_option maxRecDepth 100000
set_option maxHeartbeats 4000000
namespace PL
open PySem L2 PyProof.Rows
variable [Tabl]
theorem fnR_def {P : Program} {w : World} {K : PySem.W.Frag} {mg : PySem.Str → Option Value} {base : Heap} {k : Nat} {f : Addr} {fd : FuncData} {ps : List PySem.Str} {sp : Sp} {dvs : List V} {ds : List Value} (F : FnOk P w K mg base (L2.CX P w) k f fd ps sp) (hb : Binds K fd ps ds) (hd : Vals dvs ds) :
    FnR P w K mg base (L2.CX P w) k f (fun vs H Q E => sp (vs ++ dvs) H Q E) := by
  intro A outer s H us vs Q E hr e0 r h
  have r2 : Vals (vs ++ dvs) (us ++ ds) := r.append hd
  have hl : (us ++ ds).length = ps.length := by rw [← r2.length]; exact F.len _ _ _ _ h
  exact F.run A outer s H ⟨us, []⟩ (us ++ ds) (vs ++ dvs) Q E hr e0 (hb s us (e0.mod.kin.keeps fun b o q => (e0.bs b o q).1) hl) r2 h
theorem pad_spOf {P : Program} {w : World} {K : PySem.W.Frag} {mg : PySem.Str → Option Value} {base : Heap} {k n m : Nat} {f : Addr} {fs : FS} {dvs : List V} {dds : List D} (F : FnR P w K mg base (L2.CX P w) k f (fun vs H Q E => spOf K m fs (vs ++ dvs) H Q E)) (hd : ∀ G, DenL K G dvs dds) (hn : n + dds.length = m) :
    FnR P w K mg base (L2.CX P w) k f (spOf K n fun ds kd kx => fs (ds ++ dds) kd kx) := F.imp fun vs H Q E h => by
  obtain ⟨G, ds, kd, kx, a1, a2, a3, a4, a5, a6⟩ := h
  exact ⟨G, ds ++ dds, kd, kx, a1, a2.append (hd G), by rw [List.length_append, a3, hn], a4, a5, a6⟩
/-- a def of the module by its promise -/
structure DfR (P : Program) (w : World) (K : PySem.W.Frag) (mg : PySem.Str → Option Value) (base : Heap) (x : PySem.Str) (k n : Nat) (fs : FS) : Prop where
  ex : ∃ f, FnR P w K mg base (L2.CX P w) k f (spOf K n fs) ∧ mg x = some (.ref f) ∧ PySem.W.keepIn K (.ref f) = true
section
variable {X : Cx} {W : WX} {e : Expr} {es : List Expr} {tl : TL} {x : PySem.Str} {pos p : Pos} {k n j : Nat} {fs : FS}
theorem p_callR (D : DfR X.prog X.w X.K X.mg X.base x k n fs) (hr : Room j X.A) (hj : k ≤ j) (tk : Takes X W) (ha : PL' X W (e :: es) tl) (hg : Gl X x := by rfl) (hdb : (x == ("__debug__" : PySem.Str)) = false := by decide)
    (he : starEach (e :: es) X.env = (false, eval e X.env) :: starEach es X.env := by rfl) (hpl : (backTo pos (starEach es X.env)).any (·.1) = false := by rfl) : PP X W (.Call (.Name x p) (e :: es) [] pos) (tpCall n fs tl) := by
  obtain ⟨f, R, h2, h3⟩ := D.ex
  obtain ⟨ea, pa, ra⟩ := ha.ex
  refine ⟨_, ⟨fun pins s σ H Q I h => ?_⟩, rd_call (W := W) ra⟩
  refine wpAny_Call_Name_kw (ld_glob I hg h2 ?_ hdb)
  refine PySem.W.callWith_K (h₀ := X.base) I.ok.mod.kin h3 (thn (pa.run pos pins s σ H _ I h) fun us s1 ⟨vs, H1, I1, r, q⟩ => ⟨I1.kIn, ?_⟩) he hpl
  exact wpAny_call (run_fnRS R (hr.mono hj) (passAt tk σ) I1 r q)
end
end PL
set_option Elab.async false
set_option linter.all false
set_option maxRecDepth 100000
set_option maxHeartbeats 4000000
namespace PL
open PySem L2 PyProof.Rows
variable [Tabl]
section
variable {X : Cx} {W : WX} {elt tg iter : Expr} {ifs : List Expr} {scope : Scope} {pos spos py : Pos} {y : PySem.Str} {ti : TL} {gp : TGp} {is : List Nat} {te : TP} {tt : TB}
theorem set_lc (i : Nat) (own : List (PySem.Str × Nat)) (hc : X.calm = true) (hN : X.N.Nodup) (hi : PIt X W tg iter ti) (ok : BlkOk X.N X.env.scope scope own)
    (hg : ∀ i : Bi, PGt (Cx.bl X scope i) tg is gp) (ht : ∀ i : Bi, PBs (Cx.bl X scope i) W0 ifs tt) (he : ∀ i : Bi, PP (Cx.bl X scope i) W0 elt te) (hv : is = own.map (·.2)) (hs : ∀ x, foldedSetIterable iter X.env x = pure x) (hy : X.N[i]? = some y) (hyl : X.env.scope.names.lookup y = some .local)
    (hk : X.env.scope.kind = .function) (hl : (py.line == pos.line) = true) (ha : (scope.names.any fun (n, k) => n == y && (k == .local || k == .cell)) = false) :
    ∃ ta, PS X (.Assign [.Name y py] (.ListComp elt [⟨tg, iter, ifs, 0⟩] scope pos) spos) (tAsg ta (gName i)) ∧ ∀ (G0 H0 : Hp) (Γ : Ga) (σ : L2.St) (G H : Hp) (k : KD) (kx : KX) (Q : VK), Fr X.K G0 H0 Γ σ G H → tpLc is ti gp tt te Γ k kx →
      (∀ ds G' H' D, k (.lst ds) → Ext G H G' H' → H D = none → G' D = none → (∃ xs, H' D = some (.lst xs) ∧ DenL X.K G' xs ds) → Q (.ref D) H') → XOk X.K W G H σ kx → ta σ H Q := by
  obtain ⟨wi, pi, ri⟩ := hi.ex
  obtain ⟨g, pg, rg⟩ := pg_unif (Xf := fun i : Bi => Cx.bl X scope i) (K := X.K) (fun _ => rfl) hg
  obtain ⟨eb, pb, rb⟩ := bs_unif (Xf := fun i : Bi => Cx.bl X scope i) (K := X.K) (fun _ => rfl) ht
  obtain ⟨ee, pe, re⟩ := pp_unif (Xf := fun i : Bi => Cx.bl X scope i) (K := X.K) (fun _ => rfl) he ⟨X.s_0, X.H_0, 0, [], []⟩
  exact ⟨_, ps_setLc hc hN hy hyl (sw_true hk hyl hl ha) pi ok (fun s H C cl fp => pg (s, H, C, cl, fp)) (fun s H C cl fp => pb (s, H, C, cl, fp)) (fun s H C cl fp => pe (s, H, C, cl, fp)) hs, rd_lc ri rg rb re hv⟩
theorem s_setLc (i : Nat) (own : List (PySem.Str × Nat)) (hc : X.calm = true) (hN : X.N.Nodup) (hi : PIt X W tg iter ti) (ok : BlkOk X.N X.env.scope scope own)
    (hg : ∀ i : Bi, PGt (Cx.bl X scope i) tg is gp) (ht : ∀ i : Bi, PBs (Cx.bl X scope i) W0 ifs tt) (he : ∀ i : Bi, PP (Cx.bl X scope i) W0 elt te) (hv : is = own.map (·.2) := by rfl) (hs : ∀ x, foldedSetIterable iter X.env x = pure x := by intro _; rfl) (hy : X.N[i]? = some y := by rfl) (hyl : X.env.scope.names.lookup y = some .local := by rfl)
    (hk : X.env.scope.kind = .function := by rfl) (hl : (py.line == pos.line) = true := by rfl) (ha : (scope.names.any fun (n, k) => n == y && (k == .local || k == .cell)) = false := by decide +kernel) :
    PS1 X W (.Assign [.Name y py] (.ListComp elt [⟨tg, iter, ifs, 0⟩] scope pos) spos) (tsSet i (tpLc is ti gp tt te)) := by
  obtain ⟨ta, pa, ra⟩ := set_lc (pos := pos) (spos := spos) (py := py) i own hc hN hi ok hg ht he hv hs hy hyl hk hl ha
  refine ⟨_, pa, rd_set i fun G0 H0 Γ σ G H k kx Q F h hk hx => ra G0 H0 Γ σ G H k kx Q F h (fun ds G' H' D kd x hD gD ⟨xs, h1, h2⟩ => ?_) hx⟩
  exact hk _ _ _ H' kd (Ext.thaw x.sub x hD gD h1) (.lst upd_same (h2.up (same_upd gD)))
end
end PL
set_option Elab.async false
set_option linter.all false
set_option maxRecDepth 100000
set_option maxHeartbeats 4000000
namespace PL
open PySem L2 PyProof.Rows
variable [Tabl]
section
variable {P : Program} {w : World} {K : PySem.W.Frag} {mg : PySem.Str → Option Value} {base : Heap} {k n : Nat} {f : Addr} {fd : FuncData} {ps : List PySem.Str} {sp : Sp}
theorem fnR_of (F : FnOk P w K mg base (L2.CX P w) k f fd ps sp) (hb : Binds K fd ps []) : FnR P w K mg base (L2.CX P w) k f sp :=
  (fnR_def F hb .nil).imp fun vs H Q E h => by rw [List.append_nil]; exact h
theorem imp_spOf {fs fs' : FS} (F : FnR P w K mg base (L2.CX P w) k f (spOf K n fs)) (h : ∀ ds kd kx, fs' ds kd kx → fs ds kd kx) : FnR P w K mg base (L2.CX P w) k f (spOf K n fs') :=
  F.imp fun vs H Q E ⟨G, ds, kd, kx, a, b, c, d, e⟩ => ⟨G, ds, kd, kx, a, b, c, h _ _ _ d, e⟩
theorem imp_spOi {fs fs' : FSo} (F : FnR P w K mg base (L2.CX P w) k f (spOi K n fs)) (h : ∀ ds kd kx, fs' ds kd kx → fs ds kd kx) : FnR P w K mg base (L2.CX P w) k f (spOi K n fs') :=
  F.imp fun vs H Q E ⟨G, ds, kd, kx, p, dx, C, fs0, fvs, a1, a2, a3, a4, a5, a6, a7, a8, a9, a10, a11, a12, a13⟩ => ⟨G, ds, kd, kx, p, dx, C, fs0, fvs, a1, a2, a3, a4, a5, a6, a7, a8, a9, a10, a11, h _ _ _ a12, a13⟩
end
section
variable {P : Program} {w : World} {K : PySem.W.Frag} {mg : PySem.Str → Option Value} {base : Heap}
theorem fn_okD {x qual : PySem.Str} {st : Stmt} {f : Addr} {fd : FuncData} {N ps : List PySem.Str} {k n : Nat} {fs : FS} {dvs : List V} {kws : List (PySem.Str × V)} (F : FunD K x qual (defArgs st) (defBody st) (defScope st) dvs kws f fd) (S : FnScope N ps (defScope st)) (hn : ps.length = n)
    (body : ∀ (cdv : Value) (A : Around) (outer : List Env) (s : Shared) (H : Hp) (E : XK), Room k (A.deeper (PyProof.Rows.envOfC qual (defScope st) s.heap.objs.size f cdv)) →
      ∃ t, PSS (cxOf (L2.CX P w) P w K mg base N qual (defScope st) f cdv A outer s H E) (fun cls d _ H => E cls d H) (defBody st) t ∧ ∀ ds kd kx, ds.length = n → fs ds kd kx → t (fEnds kd kx) (ga0 N.length ds)) :
    FnOk P w K mg base (L2.CX P w) (k + 1) f fd ps (spOf K n fs) := by
  refine F.ok S (fun vs H Q E h => ?_) (fun cdv A outer s H vs Q E hr h => ?_)
  · obtain ⟨G, ds, kd, kx, _, b, c, _⟩ := h
    rw [b.length, c, hn]
  · obtain ⟨G, ds, kd, kx, sb, r, hl, hf, hk, hx⟩ := h
    obtain ⟨t, ⟨ts, ps, rd⟩, ht⟩ := body cdv A outer s H E hr
    refine ⟨ts, ps, rd G H (ga0 N.length ds) (L2.start N vs) G H (fEnds kd kx) _ (fr0 sb r) (ht ds kd kx hl hf) ⟨?_, ?_, ?_, ?_, ?_⟩⟩
    · intro Γ σ G' H' q F'
      exact hk .non .non G' H' q F'.e .non
    · intro Γ σ G' H' q
      exact q.elim
    · intro Γ σ G' H' q
      exact q.elim
    · intro d v Γ σ G' H' q F' n
      exact hk d v G' H' q F'.e n
    · intro x cls dA Γ σ G' H' q F' n
      exact hx x cls dA G' H' q F'.e n
end
end PL
set_option Elab.async false
set_option linter.all false
set_option maxRecDepth 100000
set_option maxHeartbeats 4000000
namespace PL
open PySem L2 PyProof.Rows
end PL
set_option Elab.async false
set_option linter.all false
set_option maxRecDepth 100000
set_option maxHeartbeats 4000000
namespace PL
open PySem L2 PyProof.Rows
end PL
set_option Elab.async false
set_option linter.all false
set_option maxRecDepth 100000
set_option maxHeartbeats 4000000
namespace PL
open PySem PySem.Spec L2 PyProof.Rows
end PL
set_option Elab.async false
set_option linter.all false
set_option maxRecDepth 100000
set_option maxHeartbeats 4000000
namespace PL
open PySem L2 PyProof.Rows
variable [Tabl]
def onI (d : D) (k : Int → Prop) : Prop := match d with
  | .int i => k i
  | _ => False
def onPu (Γ : Ga) (i : Nat) (k : D → Prop) : Prop := match gat Γ i with
  | .pu d => k d
  | _ => False
theorem onPu_elim {Γ : Ga} {i : Nat} {k : D → Prop} (h : onPu Γ i k) : ∃ d, gat Γ i = .pu d ∧ k d := by
  unfold onPu at h
  cases e : gat Γ i with
  | pu d => rw [e] at h; exact ⟨d, rfl, h⟩
  | _ => rw [e] at h; exact h.elim
theorem onI_elim {d : D} {k : Int → Prop} (h : onI d k) : ∃ i, d = .int i ∧ k i := by
  cases d with
  | int i => exact ⟨i, rfl, h⟩
  | _ => exact h.elim
theorem pu_at {K : PySem.W.Frag} {G0 H0 G H : Hp} {Γ : Ga} {σ : L2.St} (F : Fr K G0 H0 Γ σ G H) {i : Nat} {d : D} (h : gat Γ i = .pu d) : ∃ v, σ[i]? = some (some v) ∧ Den K G v d := F.at_ i _ (gat_get Γ i _ h (by simp))
def tsAug (i : Nat) (f : Int → Int → Int) (t : TP) : TSp := fun P Γ => onPu Γ i fun x => onI x fun a => t Γ (fun d => onI d fun b => P.nx (gset Γ i (.pu (.int (f a b))))) (fun x => P.xx x Γ)
section
variable {X : Cx} {W : WX} {e a b : Expr} {t ta tb : TP} {tl : TL} {pos : Pos}
theorem s_aug (i : Nat) {x : PySem.Str} {p : Pos} {op : Operator} {f : Int → Int → Int} (ho : PIp X op (ipI f)) (h : PP X W e t) (nd : X.N.Nodup) (hi : X.N[i]? = some x := by rfl) (hx : Loc X.env.scope x := by first | exact Or.inl rfl | exact Or.inr rfl)
    (hf : X.fn x = true ∨ X.env.scope.names.lookup x = some .local := by first | exact .inl rfl | exact .inr rfl) : PS1 X W (.AugAssign (.Name x p) op e pos) (tsAug i f t) := by
  obtain ⟨ea, pa, ra⟩ := h.ex
  refine ⟨_, ps_aug nd hi hx pa ho hf, fun G0 H0 Γ σ G H P E F ht ok => ?_⟩
  obtain ⟨d, hd, ht⟩ := onPu_elim ht
  obtain ⟨n, rfl, ht⟩ := onI_elim ht
  obtain ⟨v, e1, n1⟩ := pu_at F hd
  cases n1
  refine ⟨_, e1, ra G0 H0 Γ σ G H _ _ _ F ht (fun y v G' H' k x n2 => ?_) (ok.x F)⟩
  obtain ⟨j, rfl, k⟩ := onI_elim k
  cases n2
  exact ⟨_, _, rfl, rfl, ok.nx _ _ _ _ k ((F.up x).set i (.int _))⟩
end
end PL
set_option Elab.async false
set_option linter.all false
set_option maxRecDepth 100000
set_option maxHeartbeats 4000000
namespace PL
open PySem L2 PyProof.Rows
end PL
set_option Elab.async false
set_option linter.all false
set_option maxRecDepth 100000
set_option maxHeartbeats 4000000
namespace PL
open PySem L2
end PL
set_option Elab.async false
set_option linter.all false
set_option maxRecDepth 100000
set_option maxHeartbeats 4000000
namespace PL
open PySem L2
variable [Tabl]
/-- a pair as data -/
def pd (p : Int × Int) : D := .tup [.int p.1, .int p.2]
def up2 (l : List Int) : Int × Int := (l.getD 0 0, l.getD 1 0)
end PL
set_option Elab.async false
set_option linter.all false
set_option maxRecDepth 100000
set_option maxHeartbeats 4000000
namespace PL
open PySem L2 PySem.W PySem.Calls
end PL
set_option Elab.async false
set_option linter.all false
set_option maxRecDepth 100000
set_option maxHeartbeats 4000000
namespace PL
open PySem L2 PyProof.Rows
variable [Tabl]
def fInD (neg : Bool) : F2 := fun d e k => match e with
  | .lst ds => (d.plain = true ∧ D.plainL ds = true ∧ d.dep ≤ 8) ∧ k (.bl (neg != ds.any fun z => eqD z d))
  | .tup ds => (d.plain = true ∧ D.plainL ds = true ∧ d.dep ≤ 8) ∧ k (.bl (neg != ds.any fun z => eqD z d))
  | _ => False
def rInDT (K : PySem.W.Frag) (neg : Bool) : R2 := fun x y H Q => ∃ d ds, Dp K H x d ∧ (Dp K H y (.list ds) ∨ Dp K H y (.tuple ds)) ∧ d.canLay0 = true ∧ PyData.canLayAll0 ds = true ∧ d.depth ≤ 8 ∧ Q (.bl (neg != ds.any fun z => PyData.eqv z d)) H
theorem any_py (e : D) : ∀ ds : List D, (D.pyL ds).any (fun z => PyData.eqv z e.py) = ds.any fun z => eqD z e
  | [] => rfl
  | d :: r => by
    show (PyData.eqv d.py e.py || (D.pyL r).any fun z => PyData.eqv z e.py) = (eqD d e || r.any fun z => eqD z e)
    rw [any_py e r]
    rfl
section
variable {X : Cx} {W : WX}
theorem op_notInDT (hu : X.A.units + 64 < cLine) : OpR X (compareOp .NotIn) (rInDT X.K true) := by
  intro pins s σ H x y v u Q I rx ry h
  obtain ⟨d, ds, hd, he, sd, se, l, q⟩ := h
  obtain ⟨as, r1⟩ := Dp.reads I d x v hd rx
  have hr : X.A.units + 1 + min (PyData.depthAll ds) d.depth < cLine := by
    have := Nat.min_le_right (PyData.depthAll ds) d.depth
    omega
  rcases he with he | he
  · obtain ⟨bs, r2⟩ := Dp.reads I (.list ds) y u he ry
    exact SeqAt.notIn_list_reads r2 r1 se sd hr ⟨.bl _, H, I, rfl, by rw [Bool.true_bne] at q; exact q⟩
  · obtain ⟨bs, r2⟩ := Dp.reads I (.tuple ds) y u he ry
    exact SeqAt.notIn_tuple_reads r2 r1 se sd hr ⟨.bl _, H, I, rfl, by rw [Bool.true_bne] at q; exact q⟩
theorem rd_inDT (neg : Bool) : RdO X.K (rInDT X.K neg) (fInD neg) := by
  intro H0 G H v1 v2 d1 d2 k Q s n1 n2 hf hk
  cases d2 with
  | lst ds =>
    obtain ⟨⟨p1, p2, l⟩, hf⟩ := hf
    refine ⟨d1.py, D.pyL ds, n1.dp s p1, .inl (n2.dp s (show (D.lst ds).plain = true from p2)), D.lay d1 p1, D.lay (.lst ds) p2, by rw [D.dep_py]; exact l, ?_⟩
    rw [any_py]
    exact hk _ _ G H hf (Ext.refl s) (.bl _)
  | tup ds =>
    obtain ⟨⟨p1, p2, l⟩, hf⟩ := hf
    refine ⟨d1.py, D.pyL ds, n1.dp s p1, .inr (n2.dp s (show (D.tup ds).plain = true from p2)), D.lay d1 p1, D.lay (.tup ds) p2, by rw [D.dep_py]; exact l, ?_⟩
    rw [any_py]
    exact hk _ _ G H hf (Ext.refl s) (.bl _)
  | _ => exact hf.elim
theorem o_notInDT (hu : X.A.units + 64 < cLine) : OpR X (compareOp .NotIn) (rInDT X.K true) ∧ RdO X.K (rInDT X.K true) (fInD true) := ⟨op_notInDT hu, rd_inDT true⟩
end
end PL
set_option Elab.async false
set_option linter.all false
set_option maxRecDepth 100000
set_option maxHeartbeats 4000000
namespace PL
open PySem L2 PyProof.Rows
end PL
set_option Elab.async false
set_option linter.all false
set_option maxRecDepth 100000
set_option maxHeartbeats 4000000
namespace PL
open PySem L2
end PL
set_option Elab.async false
set_option linter.all false
set_option maxRecDepth 100000
set_option maxHeartbeats 4000000
namespace PL
open PySem L2 PyProof.Rows
variable [Tabl]
/-- any number of values -/
def spOfV (K : PySem.W.Frag) (fs : FS) : Sp := fun vs H Q E => ∃ G ds k kx, Sub G H ∧ DenL K G vs ds ∧ fs ds k kx ∧ (∀ d v G' H', k d → Ext G H G' H' → Den K G' v d → Q v H') ∧
  (∀ x cls dA G' H', kx x → Ext G H G' H' → XDen K G' H' cls dA x → E cls dA H')
section
variable {P : Program} {w : World} {K : PySem.W.Frag} {mg : PySem.Str → Option Value} {base : Heap}
/-- a method that takes any number of values -/
structure MtV (P : Program) (w : World) (K : PySem.W.Frag) (mg : PySem.Str → Option Value) (base : Heap) (C : Addr) (m : PySem.Str) (k : Nat) (fs : FS) : Prop where
  c : Cls K C
  ex : ∃ f, Meth K C m f ∧ FnR P w K mg base (L2.CX P w) k f (spOfV K fs)
theorem MtV.at {C : Addr} {m : PySem.Str} {k : Nat} {fs : FS} (M : MtV P w K mg base C m k fs) (n : Nat) : Mt P w K mg base C m k n fs := by
  obtain ⟨f, h1, h2⟩ := M.ex
  exact ⟨M.c, f, h1, h2.imp fun vs H Q E ⟨G, ds, kd, kx, a, b, _, d, e⟩ => ⟨G, ds, kd, kx, a, b, d, e⟩⟩
end
end PL
set_option Elab.async false
set_option linter.all false
set_option maxRecDepth 100000
set_option maxHeartbeats 4000000
namespace PL
open PySem L2
end PL
set_option Elab.async false
set_option linter.all false
set_option maxRecDepth 100000
set_option maxHeartbeats 4000000
namespace PL
open PySem L2
end PL
set_option Elab.async false
set_option linter.all false
set_option maxRecDepth 100000
set_option maxHeartbeats 4000000
namespace PL
open PySem L2 PyProof.Rows
/-- a lambda: without parameters, or with one that has a default (never given, never read) -/
inductive LS where
  | n (params : Arguments) (body : Expr) (scope : Scope)
  | d (params : Arguments) (body : Expr) (scope : Scope) (y : PySem.Str)
def FunO (q : PySem.Str) (params : Arguments) (body : Expr) (scope : Scope) (cl : List (PySem.Str × Addr)) (f c : Addr) : HO :=
  .ext fun h => ∃ pm ctv, h.get? f = some (PySem.W.kla_obj "<lambda>" q params body scope cl pm c ctv)
def FunD (q : PySem.Str) (params : Arguments) (body : Expr) (scope : Scope) (cl : List (PySem.Str × Addr)) (f c T : Addr) : HO :=
  .ext fun h => ∃ pm ctv, h.get? f = some { cls := .type "function", data := .func (lamFd q params body scope cl pm (.ref c) ctv (.ref T)) }
def TupO (T : Addr) : HO := .ext fun h => ∃ u, h.get? T = some { cls := .type "tuple", data := .seq #[u] }
def FunAt (X : Cx) (G : Hp) (f c : Addr) : LS → Prop
  | .n params body scope => G f = some (FunO (X.env.qual ++ "<lambda>") params body scope (cloFrom X.env.cells scope.names []) f c)
  | .d params body scope y => ∃ T, G f = some (FunD (X.env.qual ++ "<lambda>") params body scope (cloFrom X.env.cells scope.names []) f c T) ∧ G T = some (TupO T)
theorem FunAt.up {X : Cx} {G G' : Hp} {f c : Addr} {sp : LS} (h : FunAt X G f c sp) (e : Same G G') : FunAt X G' f c sp := by
  cases sp with
  | n params body scope => exact e _ _ h
  | d params body scope y => obtain ⟨T, h1, h2⟩ := h; exact ⟨T, e _ _ h1, e _ _ h2⟩
theorem fix_code (c : Addr) (q : PySem.Str) : FixO (LamX.CodeO c q) := ⟨fun z => z, fun _ z => (by unfold LamX.CodeO at z; cases z), fun _ z => (by unfold LamX.CodeO at z; cases z)⟩
variable [Tabl]
def FunsAt (X : Cx) (G H : Hp) : List LS → List Addr → List Addr → Prop
  | [], [], [] => True
  | sp :: sps, f :: fs, c :: cs => (FunAt X G f c sp ∧ H c = some (LamX.CodeO c (X.env.qual ++ "<lambda>"))) ∧ FunsAt X G H sps fs cs
  | _, _, _ => False
/-- what is known stays known -/
structure Keep (G H G' H' : Hp) : Prop where
  g : Same G G'
  h : ∀ b o, H b = some o → FixO o → H' b = some o
theorem Keep.of {G H G' H' : Hp} (x : Ext G H G' H') : Keep G H G' H' := ⟨x.g, fun b o e f => x.h.k b o e f.2.1⟩
theorem Keep.trans {G H G1 H1 G2 H2 : Hp} (a : Keep G H G1 H1) (b : Keep G1 H1 G2 H2) : Keep G H G2 H2 := ⟨a.g.trans b.g, fun x o e f => b.h x o (a.h x o e f) f⟩
theorem FunsAt.keep {X : Cx} {G H G' H' : Hp} (k : Keep G H G' H') : ∀ {sps : List LS} {fs cs : List Addr}, FunsAt X G H sps fs cs → FunsAt X G' H' sps fs cs
  | [], [], [], _ => trivial
  | sp :: sps, f :: fs, c :: cs, ⟨⟨h1, h2⟩, h3⟩ => ⟨⟨h1.up k.g, k.h _ _ h2 (fix_code _ _)⟩, FunsAt.keep k h3⟩
theorem FunsAt.len {X : Cx} {G H : Hp} : ∀ {sps : List LS} {fs cs : List Addr}, FunsAt X G H sps fs cs → fs.length = sps.length ∧ cs.length = sps.length
  | [], [], [], _ => ⟨rfl, rfl⟩
  | sp :: sps, f :: fs, c :: cs, ⟨_, h3⟩ => by
    obtain ⟨a, b⟩ := FunsAt.len h3
    exact ⟨by rw [List.length_cons, a]; rfl, by rw [List.length_cons, b]; rfl⟩
theorem FunsAt.get {X : Cx} {G H : Hp} : ∀ {sps : List LS} {fs cs : List Addr} {j : Nat} {sp : LS}, FunsAt X G H sps fs cs → sps[j]? = some sp → ∃ f c, fs[j]? = some f ∧ cs[j]? = some c ∧ FunAt X G f c sp ∧ H c = some (LamX.CodeO c (X.env.qual ++ "<lambda>"))
  | sp0 :: sps, f :: fs, c :: cs, 0, sp, ⟨⟨h1, h2⟩, _⟩, e => by
    cases e
    exact ⟨f, c, rfl, rfl, h1, h2⟩
  | sp0 :: sps, f :: fs, c :: cs, j + 1, sp, ⟨_, h3⟩, e => FunsAt.get (j := j) h3 e
end PL
set_option Elab.async false
set_option linter.all false
set_option maxRecDepth 100000
set_option maxHeartbeats 4000000
namespace PL
open PySem L2 PyProof.Rows
variable [Tabl]
/-- t: what g(lambda) answers, seen from the maker's frame -/
def AskRun (X : Cx) (g : Addr) (sp : LS) (t : TP) : Prop := ∀ (pins : List (Addr × Obj)) (σ : L2.St) (H : Hp) (s : Shared) (Γ : Ga) (G0 H0 G : Hp) (f c : Addr) (W : WX) (kd : KD) (kx : KX) (Q : VK),
  Inv X pins σ H s → Fr X.K G0 H0 Γ σ G H → FunAt X G f c sp → H c = some (LamX.CodeO c (X.env.qual ++ "<lambda>")) → t Γ kd kx →
  (∀ d v G' H', kd d → Ext G H G' H' → Den X.K G' v d → Q v H') → XOk X.K W G H σ kx →
  codeAny (model X.prog X.w) X.A (.call (.ref g) ⟨[.ref f], []⟩) (CR (L2.CX X.prog X.w) X.stack X.prog X.w H s Q fun cls d H' => W cls d σ H') s
end PL
set_option Elab.async false
set_option linter.all false
set_option maxRecDepth 100000
set_option maxHeartbeats 4000000
namespace PL
open PySem L2
end PL
set_option Elab.async false
set_option linter.all false
set_option maxRecDepth 100000
set_option maxHeartbeats 4000000
namespace PL
open PySem PySem.Froz L2 PyProof.Rows
end PL
set_option Elab.async false
set_option linter.all false
set_option maxRecDepth 100000
set_option maxHeartbeats 4000000
namespace PL
open PySem L2
end PL
set_option Elab.async false
set_option linter.all false
set_option maxRecDepth 100000
set_option maxHeartbeats 4000000
namespace PL
open PySem L2 PyProof.Rows
end PL
set_option Elab.async false
set_option linter.all false
set_option maxRecDepth 100000
set_option maxHeartbeats 4000000
namespace PL
open PySem L2 PyProof.Rows
variable [Tabl]
section
variable {X : Cx} {W : WX} {i : Nat} {x : PySem.Str} {es : List Expr} {sps : List LS} {pos p2 p3 p4 : Pos}
inductive AskAll (X : Cx) (g : Addr) : List LS → List TP → Prop
  | nil : AskAll X g [] []
  | cons {sp : LS} {t : TP} {sps : List LS} {T : List TP} : AskRun X g sp t → AskAll X g sps T → AskAll X g (sp :: sps) (t :: T)
theorem AskAll.len {g : Addr} : ∀ {sps : List LS} {T : List TP}, AskAll X g sps T → T.length = sps.length
  | _, _, .nil => rfl
  | _, _, .cons _ h => by rw [List.length_cons, List.length_cons, h.len]
theorem AskAll.at {g : Addr} : ∀ {sps : List LS} {T : List TP}, AskAll X g sps T → ∀ (j : Nat) (sp : LS) (t : TP), sps[j]? = some sp → T[j]? = some t → AskRun X g sp t
  | _, _, .nil, _, _, _, h, _ => by simp at h
  | _, _, .cons a h, 0, _, _, h1, h2 => by cases h1; cases h2; exact a
  | _, _, .cons a h, j + 1, _, _, h1, h2 => h.at j _ _ h1 h2
end
end PL
set_option Elab.async false
set_option linter.all false
set_option maxRecDepth 100000
set_option maxHeartbeats 1000000
namespace PL
open PySem L2 PyProof.Rows
end PL
set_option Elab.async false
set_option linter.all false
set_option maxRecDepth 100000
set_option maxHeartbeats 4000000
namespace PL
open PySem L2 PyProof.Rows
end PL
set_option Elab.async false
set_option linter.all false
set_option maxRecDepth 100000
set_option maxHeartbeats 4000000
namespace PL
open PySem L2 PyProof.Rows
end PL
set_option Elab.async false
set_option linter.all false
set_option maxRecDepth 100000
set_option maxHeartbeats 4000000
namespace PL
open PySem L2 PyProof.Rows
end PL
set_option Elab.async false
set_option linter.all false
set_option maxRecDepth 100000
set_option maxHeartbeats 4000000
namespace PL
open PySem L2 PyProof.Rows
variable [Tabl]
def intS (i : Int) : List Nat := (toString i : PySem.Str).cps.toList
theorem ss_intS (i : Int) : SS (intS i) = (toString i : PySem.Str) := by
  unfold SS intS
  simp
def tpFmt (t : TP) : TP := fun Γ k kx => t Γ (fun d => match d with
  | .str s => s.length ≤ sizeLine ∧ k (.str s)
  | .int i => i.natAbs.log2 < 1920 ∧ k (.str (intS i))
  | _ => False) kx
def tpJs : List TP → List Nat → TP
  | [], acc => fun _ k _ => k (.str acc)
  | t :: ts, acc => fun Γ k kx => t Γ (fun d => match d with
    | .str s => acc.length + s.length ≤ sizeLine ∧ tpJs ts (acc ++ s) Γ k kx
    | _ => False) kx
inductive FJ (X : Cx) (W : WX) : List Expr → List TP → Prop where
  | nil : FJ X W [] []
  | cons {e : Expr} {t : TP} {es : List Expr} {ts : List TP} (h : PP X W e t) (r : FJ X W es ts) : FJ X W (e :: es) (t :: ts)
section
variable {X : Cx} {W : WX} {e a : Expr} {es : List Expr} {t ta : TP} {ts : List TP} {pos p q : Pos} {x : PySem.Str} {k j : Nat}
theorem p_fmt (h : PP X W e t) : PP X W (.FormattedValue e (-1) none pos) (tpFmt t) := by
  obtain ⟨ea, pa, ra⟩ := h.ex
  refine ⟨_, pe_fmt pa, fun G0 H0 Γ σ G H kd kx Q F ht hk hx => ?_⟩
  refine ra G0 H0 Γ σ G H _ kx _ F ht (fun d v G1 H1 k1 x1 n1 => ?_) hx
  cases d with
  | str s =>
    cases n1
    exact .inl ⟨SS s, rfl, by rw [ss_length]; exact k1.1, hk _ _ G1 H1 k1.2 x1 (.str s)⟩
  | int i =>
    cases n1
    refine .inr ⟨i, rfl, k1.1, ?_⟩
    have := hk _ _ G1 H1 k1.2 x1 (.str (intS i))
    rw [ss_intS] at this
    exact this
  | _ => exact k1.elim
theorem fj_ex (h : FJ X W es ts) : ∃ tes, PJ X es tes ∧ ∀ (acc : List Nat) (G0 H0 : Hp) (Γ : Ga) (σ : L2.St) (G H : Hp) (kd : KD) (kx : KX) (Q : PySem.Str → Hp → Prop), Fr X.K G0 H0 Γ σ G H → tpJs ts acc Γ kd kx → (∀ s G' H', kd (.str s) → Ext G H G' H' → Q (SS s) H') → XOk X.K W G H σ kx → tJs tes (SS acc) σ H Q := by
  induction h with
  | nil =>
    refine ⟨[], .nil, fun acc G0 H0 Γ σ G H kd kx Q F ht hk hx => ?_⟩
    exact hk acc G H ht (Ext.refl F.sub)
  | @cons e t es ts he r ih =>
    obtain ⟨tes, pj, rd⟩ := ih
    obtain ⟨te, pe, re⟩ := he.ex
    refine ⟨te :: tes, .cons pe pj, fun acc G0 H0 Γ σ G H kd kx Q F ht hk hx => ?_⟩
    refine re G0 H0 Γ σ G H _ kx _ F ht (fun d v G1 H1 k1 x1 n1 => ?_) hx
    cases d with
    | str s =>
      cases n1
      obtain ⟨hz, k2⟩ := k1
      refine ⟨SS s, rfl, ?_, ?_⟩
      · rw [ss_append, ss_length, List.length_append]; exact hz
      · rw [ss_append]
        exact rd (acc ++ s) G0 H0 Γ σ G1 H1 kd kx Q (F.up x1) k2 (fun s G' H' kk ex => hk s G' H' kk (x1.trans ex)) (hx.up x1)
    | _ => exact k1.elim
theorem p_joined {v1 v2 : Expr} {rest : List Expr} (h : FJ X W (v1 :: v2 :: rest) ts) : PP X W (.JoinedStr (v1 :: v2 :: rest) pos) (tpJs ts []) := by
  obtain ⟨tes, pj, rd⟩ := fj_ex h
  refine ⟨_, pe_joined pj, fun G0 H0 Γ σ G H kd kx Q F ht hk hx => ?_⟩
  exact rd [] G0 H0 Γ σ G H kd kx _ F ht (fun s G' H' kk ex => hk _ _ G' H' kk ex (.str s)) hx
end
end PL
set_option Elab.async false
set_option linter.all false
set_option maxRecDepth 100000
set_option maxHeartbeats 4000000
namespace PL
open PySem L2 PyProof.Rows
end PL
set_option Elab.async false
set_option linter.all false
set_option maxRecDepth 100000
set_option maxHeartbeats 4000000
namespace PL
open PySem L2
end PL
set_option Elab.async false
set_option linter.all false
set_option maxRecDepth 100000
set_option maxHeartbeats 4000000
namespace PySem
namespace ExcX
open PySem.W PySem.Calls PyProof.Rows PySem.HandSPX
def xA0 (p1 : Pos) : Arguments := { posonlyargs := [], args := [{ arg := "self", annotation := none, pos := p1 }], vararg := none, kwonlyargs := [], kw_defaults := [], kwarg := none, defaults := [] }
def xS0 : Scope := { kind := .function, names := [("self", .local), ("__class__", .free), ("super", .globalImplicit)], isGenerator := false, isCoroutine := false }
/-- the text of the class's __init__ -/
structure XText0 (st : Stmt) (cn : Str) : Prop where
  args : ∃ p1, L2.defArgs st = xA0 p1
  body : ∃ q0 q1 q2 q3 q4 q5 q6 q7 q8 q9, L2.defBody st = xHead cn q0 q1 q2 q3 q4 q5 q6 q7 q8 q9 [] ∧ SupEv cn q0 q1 q2 q3 q4
  scope : L2.defScope st = xS0
  bind : ∀ (qual : Str) (body : List Stmt) (sc : Scope) (doc pm : Value) (an : Option Addr) (cdv ct : Value) (cc : Addr) (u : Value), bindArgs (ksFn "__init__" qual (L2.defArgs st) body sc .none .none doc pm an cdv ct cc) ⟨[u], []⟩ = pure [(("self" : Str), u)]
/-- the class cn at C, its __init__ at fI, its cell at cc, the code of __init__ at cda -/
structure XC0 (P : Program) (K : Frag) (mg : Str → Option Value) (cn : Str) (C : Addr) : Prop where
  gC : mg cn = some (.ref C)
  cls : ∃ nm q N bs bm sn sub ab col dd k0 k1 k2 k3 k5, K.lookup C = some (excClassObj nm q C N bs bm true sn sub ab col dd k0 k1 k2 k3 k5 "ValueError.__new__") ∧ refsVE bm = true
  sa : findIn K (.ref C) "__setattr__" = some (some (.builtin "object.__setattr__"))
  ga : findIn K (.ref C) "__getattribute__" = some (some (.builtin "BaseException.__getattribute__"))
  gg : findIn K (.ref C) "__getattr__" = some none
  noT : findIn K (.ref C) "tag" = some none
  kC : keepIn K (.ref C) = true
  exC : subIn K (.ref C) (.type "BaseException") = some true
  veC : subIn K (.ref C) (.type "ValueError") = some true
  tyC : typeIn K (.ref C) = some (.type "type")
  hdC : hasDictIn K C = true
  sub : mroIn K C (.ref C) = some true
  sup : mg "super" = none
  supI : ks_superIn K C C "__init__" = some (some (.builtin "ValueError.__init__"))
  opq : nsIn K cStatics "thirdparty.any" = some none
  fn : ∃ (st : Stmt) (fI cda cc : Addr) (oc : Value) (od : Option Addr) (qual : Str) (doc pm : Value) (an : Option Addr) (ct : Value) (osl : Array (Option Value)) (ccl : Value) (cdd : Option Addr) (vs : Array Value) (ccs : Array (Option Value)) (file : Str) (tf : Tok) (cl : Value) (cld : Option Addr) (csl : Array (Option Value)),
    findIn K (.ref C) "__init__" = some (some (.ref fI)) ∧ typeIn K (.ref fI) = some (.type "function") ∧
    K.lookup fI = some ⟨oc, od, .func (ksFn "__init__" qual (L2.defArgs st) (L2.defBody st) (L2.defScope st) .none .none doc pm an (.ref cda) ct cc), osl⟩ ∧ codeIn K (.ref cda) qual = true ∧
    K.lookup cda = some ⟨ccl, cdd, .fields vs, ccs⟩ ∧ vs[2]? = some (.str file tf) ∧ ((P.main.file : Str) == file) = true ∧
    K.lookup cc = some ⟨cl, cld, .cell (some (.ref C)), csl⟩ ∧ XText0 st cn
  htop : (P.main.scope.names.lookup ("super" : Str)).isSome = false
theorem xS0_self : xS0.names.lookup ("self" : Str) = some .local := rfl
theorem xS0_c : xS0.names.lookup ("__class__" : Str) = some .free := rfl
theorem xS0_s : xS0.names.lookup ("super" : Str) = some .globalImplicit := rfl
/-- what __init__ leaves of a fresh exception at x -/
structure IEnd0 (h h' : Heap) (x C dx t1 : Addr) (cn : Str) : Prop where
  keep : ∀ b o, b ≠ x → h.get? b = some o → h'.get? b = some o
  obj : h'.get? x = some { cls := .ref C, dict := some dx, data := .fields #[.ref t1, .none, .none, .none, .bool false, .none] }
  dbig : h.objs.size ≤ dx
  dne : dx ≠ x
  ns : ∃ tk : Tok, h'.Ns1 dx (fun y => if y = "tag" then some (.str cn tk) else none)
section
variable {prog : Program} {w : World} {A : Around} {R : Result → Shared → Prop} {s : Shared} {K : Frag} {mg : Str → Option Value} {cn : Str} {C fI : Addr}
theorem x_init0 (T : XC0 prog K mg cn C) (iC : findIn K (.ref C) "__init__" = some (some (.ref fI))) {x t0 : Addr} (X : K.In s.heap) (G : s.heap.Ns mainGlobals mg) (B : ∃ mb, s.heap.Ns builtinsNs mb ∧ ∀ x : Str, x ≠ "__name__" → mb x = bootBuiltins x) (hlim : s.heap.NoLimit)
    (hx : s.heap.get? x = some (excO C t0)) (hnx : K.lookup x = none) (hroom : A.depth < recursionLimit) (hcn : cn.length ≤ sizeLine)
    (hq : ∀ h' tk dx t1, IEnd0 s.heap h' x C dx t1 cn → R (.ok (.ret .none)) { s with heap := h', toks := tk }) :
    codeAny (model prog w) A (.call (.ref fI) ⟨[.ref x], []⟩) R s := by
  obtain ⟨st, fI', cda, cc, oc, od, qual, doc, pm, an, ct, osl, ccl, cdd, vs, ccs, file, tf, cl, cld, csl, iC', tI, ho, hcd, hcode, hvs, hfile, hcell, TX⟩ := T.fn
  rw [iC] at iC'
  cases iC'
  obtain ⟨p1, ea⟩ := TX.args
  obtain ⟨q0, q1, q2, q3, q4, q5, q6, q7, q8, q9, eb, sev⟩ := TX.body
  have es := TX.scope
  rw [ea, eb, es] at ho
  obtain ⟨nm, q, N, bs, bm, sn, sub, ab, col, dd, k0, k1, k2, k3, k5, hC, hbm⟩ := T.cls
  have hcl : clsIn K C = some { name := nm, bases := bs, mro := .ref C :: bm, ns := N, qualname := q, hasDict := true, slotNames := sn, subclasses := sub, abstract := ab, collection := col, hasDel := false } := by unfold clsIn; rw [hC] <;> rfl
  refine ks_codeAny_call_defAt (fd := ksFn "__init__" qual (xA0 p1) (xHead cn q0 q1 q2 q3 q4 q5 q6 q7 q8 q9 []) xS0 .none .none doc pm an (.ref cda) ct cc) (body := xHead cn q0 q1 q2 q3 q4 q5 q6 q7 q8 q9 []) (binds := [("self", .ref x)])
    hroom (X _ _ ho) rfl hlim (codeRec_of X hcd) rfl (BindsTo.of_eq (by rw [← ea]; exact TX.bind _ _ _ _ _ _ _ _ _ _)) (fun y hy => ?_) (fun y hy => ?_) (fun h₁ hns k => ?_)
  · have hy : y ∈ [(("self" : Str), NameKind.local), ("__class__", .free), ("super", .globalImplicit)] := hy
    simp at hy
    rcases hy with rfl | rfl | rfl <;> simp
  · simp at hy
    rcases hy with rfl
    exact xS0_self
  · have eS : ([(("self" : Str), Value.ref x)] : List (Str × Value)).reverse.lookup ("self" : Str) = some (.ref x) := rfl
    have X₁ : K.In h₁ := X.keeps k
    have hx₁ := k _ _ hx
    have hxL : s.heap.objs.size ≠ x := Nat.ne_of_gt (Heap.lt_size hx)
    obtain ⟨oD, hD1, hD2⟩ : ∃ oD, h₁.get? C = some oD ∧ ∃ cd, oD.data = .cls cd := ⟨_, X₁ _ _ hC, _, rfl⟩
    obtain ⟨cdD, hD2⟩ := hD2
    obtain ⟨mb, B1, B2⟩ := B
    obtain ⟨pl, sev⟩ := sev (callEnv (ksFn "__init__" qual (xA0 p1) (xHead cn q0 q1 q2 q3 q4 q5 q6 q7 q8 q9 []) xS0 .none .none doc pm an (.ref cda) ct cc) s.heap.objs.size fI)
    refine ks_wpAt_execs_cons (ks_wpAt_Expr_any (ks_wpAt_MethodCall (pl := pl) ?_ sev))
    refine ks_wpAt_super_base (env := ksEnv qual xS0 s.heap.objs.size fI (.ref cda) cc) xS0_s xS0_c (by decide) rfl (X₁ _ _ ho) rfl rfl rfl (X₁ _ _ hcode) rfl hvs hfile T.htop ?_
    refine ks_loadName_global rfl xS0_s (loadGlobal_builtin (env := ksEnv qual xS0 s.heap.objs.size fI (.ref cda) cc) (G.keeps k) T.sup (B1.keeps k) ((B2 _ (by decide +kernel)).trans (by decide +kernel : bootBuiltins "super" = some (.type "super"))) ⟨rfl, ?_⟩)
    refine wpAny_loadName_free rfl xS0_c rfl ⟨_, X₁ _ _ hcell, rfl⟩ ?_
    refine wpAny_loadName_local rfl xS0_self hns eS ?_
    refine ks_wpAny_isType_cls hD1 hD2 ⟨rfl, ?_⟩
    refine ks_wpAny_call_super hD1 hD2 hx₁ rfl (fun c e => by cases e) (looks_mroIn X₁ T.sub) (fun h₂ e₂ k₂ => ?_)
    have X₂ : K.In h₂ := X₁.keeps k₂
    have hx₂ := k₂ _ _ hx₁
    have hm := T.supI
    unfold ks_superIn at hm
    rw [hcl] at hm
    have ne : x ≠ C := fun z => by
      have q := X _ _ hC
      rw [← z, hx] at q
      cases q
    have IX : InstAt h₂ x (excO C t0) C none := ⟨hx₂, rfl, rfl, trivial⟩
    refine kxs_getMethod kxs_ValueError e₂ (looks_opaque X₂ T.opq) (l₀ := .ref C :: bm) (fun A Q E s k q => wpAny_bind ((looks_clsIn X₂ hcl) A _ E s k (wpAny_pure q))) rfl X₂ hm (IX.type.andThen (looks_subIn X₂ T.veC)) ne (by decide) ?_
    have e₃ : (h₂.push (kxs_mw "ValueError.__init__" x)).get? h₂.objs.size = some (kxs_mw "ValueError.__init__" x) := Heap.get?_push_at rfl rfl
    have hx₃ : (h₂.push (kxs_mw "ValueError.__init__" x)).get? x = some (excO C t0) := Heap.get?_push_of_some _ hx₂
    refine kxs_callWith (i := "ValueError.__init__") (x := x) rfl (evalArgs_plain (spliced_cons (Constant_str (k := 0) (pos := q3) (spliced_nil ⟨e₃, ?_⟩))))
    refine wpAny_call (codeAny_of_tree ?_)
    show wpAny _ _ (callAny (.ref h₂.objs.size) ⟨[.str cn _], []⟩) _ _ _
    simp only [callAny]
    refine wpAny_bind (wpAny_load e₃ ?_)
    simp only [kxs_mw, show (Value.type "method-wrapper" == Value.type "method" || Value.type "method-wrapper" == Value.type "builtin_function_or_method" || Value.type "method-wrapper" == Value.type "method-wrapper") = true by decide, if_true]
    refine KFB.if_so (by decide) ?_
    have hC₃ : (h₂.push (kxs_mw "ValueError.__init__" x)).get? C = some _ := Heap.get?_push_of_some _ (X₂ _ _ hC)
    refine wpAny_bind (check_bound_init F.excBase_ValueError.toExcCallFacts hC₃ hx₃ rfl ?_)
    refine wpAny_bind (wpAny_pure (wpAny_pure ?_))
    refine ⟨plainId_quiet F.excBase_ValueError.init.plain _, codeAny_builtin F.excBase_ValueError.initEntry ?_⟩
    refine exc_init_tree (cls := .ref C) (t0 := t0) (dv := none) (c2 := .none) (c3 := .none) (b4 := .bool false) hx₃ (by show 1 ≤ sizeLine; decide) (fun h₄ k₄ hx₄ _ => ?_)
    have K₄ : ∀ b o, b ≠ x → h₁.get? b = some o → h₄.get? b = some o := fun b o hb e => k₄ b o hb (Heap.get?_push_of_some _ (k₂ _ _ e))
    have X₄ : K.In h₄ := fun b o e => K₄ b o (fun z => by rw [z, hnx] at e; cases e) (X₁ b o e)
    have n₄ : h₄.Ns s.heap.objs.size (fun y => ([(("self" : Str), Value.ref x)] : List (Str × Value)).reverse.lookup y) := by
      obtain ⟨o, es, ep, e, r⟩ := hns
      exact ⟨o, es, ep, K₄ _ _ hxL e, r⟩
    have l4 : s.heap.objs.size < h₄.objs.size := by
      obtain ⟨o, es, ep, e, r⟩ := n₄
      exact Heap.lt_size e
    refine wpAt_of_wpAny ?_
    refine wpAny_execs_cons (plainObj_wpAny_Assign_Attribute (Constant_str ?_))
    refine wpAny_Name (wpAny_loadName_local rfl xS0_self n₄ eS ?_) (by decide)
    refine set_plain X₄ (ox := excO C _) (od := none) ⟨hx₄, rfl, rfl, trivial⟩ T.sa ?_
    refine exc_osa X₄ hx₄ hcl (show refsVE (.ref C :: bm) = true from hbm) rfl T.noT (fun h₅ tk₅ dx k₅ dn dne hx₅ hn₅ => ?_)
    refine wpAny_execs_nil ?_
    have l1 : ∀ b o, s.heap.get? b = some o → b ≠ dx := fun b o e => Nat.ne_of_lt (Nat.lt_of_lt_of_le (Nat.lt_trans (Heap.lt_size e) l4) dn)
    refine hq h₅ tk₅ dx _ ⟨fun b o hb e => k₅ b o hb (K₄ b o hb (k b o e)), hx₅, Nat.le_of_lt (Nat.lt_of_lt_of_le l4 dn), dne, _, hn₅⟩
/-- a made exception -/
structure XMade0 (h h' : Heap) (e C d : Addr) (cn : Str) : Prop where
  keep : ∀ b o, h.get? b = some o → h'.get? b = some o
  new : h.objs.size ≤ e
  obj : ∃ oe vs, h'.get? e = some oe ∧ oe.cls = .ref C ∧ oe.dict = some d ∧ oe.data = .fields vs ∧ vs[1]? = some .none
  dbig : h.objs.size ≤ d
  dne : d ≠ e
  ns : ∃ tk : Tok, h'.Ns1 d (fun y => if y = "tag" then some (.str cn tk) else none)
theorem x_made0 (T : XC0 prog K mg cn C) (X : K.In s.heap) (G : s.heap.Ns mainGlobals mg) (B : ∃ mb, s.heap.Ns builtinsNs mb ∧ ∀ x : Str, x ≠ "__name__" → mb x = bootBuiltins x) (hlim : s.heap.NoLimit) (hroom : A.depth + 1 < recursionLimit) (hcn : cn.length ≤ sizeLine)
    (hq : ∀ h' tk e d, XMade0 s.heap h' e C d cn → R (.ok (.ret (.ref e))) { s with heap := h', toks := tk }) :
    codeAny (model prog w) A (.call (.ref C) ⟨[], []⟩) R s := by
  obtain ⟨_, fI, _, _, _, _, _, _, _, _, _, _, _, _, _, _, _, _, _, _, _, iC, tI, _⟩ := T.fn
  obtain ⟨nm, q, N, bs, bm, sn, sub, ab, col, dd, k0, k1, k2, k3, k5, hC, hbm⟩ := T.cls
  obtain ⟨hp, g, dr, tk, os⟩ := s
  have k : ∀ b o, hp.get? b = some o → ((hp.push (kdv_tup [])).push (excO C hp.objs.size)).get? b = some o := fun b o e => Heap.get?_push_of_some _ (Heap.get?_push_of_some _ e)
  have hget : ((hp.push (kdv_tup [])).push (excO C hp.objs.size)).get? (hp.objs.size + 1) = some (excO C hp.objs.size) := by heap_get
  have hnx : K.lookup (hp.objs.size + 1) = none := by
    cases e : K.lookup (hp.objs.size + 1) with
    | none => rfl
    | some o =>
      have z : hp.get? (hp.objs.size + 1) = some o := X _ _ e
      exact absurd (Nat.lt_of_succ_lt (Heap.lt_size z)) (Nat.lt_irrefl _)
  obtain ⟨mb, B1, B2⟩ := B
  refine call_own F.excBase_ValueError (fun X => refsVE_contains X bm hbm) (X _ _ hC) (looks_findIn X iC) (fun self => bind_fn X self tI) (by show 0 ≤ sizeLine; decide) ?_
  refine x_init0 (s := ⟨(hp.push (kdv_tup [])).push (excO C hp.objs.size), g, dr, tk, os⟩) T iC (X.keeps k) (G.keeps k) ⟨mb, B1.keeps k, B2⟩ (hlim.keeps k) hget hnx ?_ hcn fun h' tk' dx t1 ⟨k', hx, dn, dne, hns⟩ => ?_
  · show A.depth + 1 < recursionLimit
    exact hroom
  · have old : ∀ b o, hp.get? b = some o → h'.get? b = some o := fun b o e => k' b o (Nat.ne_of_lt (Nat.lt_succ_of_lt (Heap.lt_size e))) (k b o e)
    have z : hp.objs.size + 1 + 1 ≤ dx := by
      have q := dn
      rw [Heap.size_push, Heap.size_push] at q
      exact q
    exact ⟨rfl, hq h' tk' (hp.objs.size + 1) dx ⟨old, Nat.le_succ _, ⟨_, _, hx, rfl, rfl, rfl, rfl⟩, Nat.le_trans (Nat.le_trans (Nat.le_succ _) (Nat.le_succ _)) z, dne, hns⟩⟩
end
end ExcX
end PySem
namespace L2
open PySem PySem.Spec PyProof.Rows
theorem relO_x0 {cn : Str} {tk : Tok} (g : Str) : RelO (List.lookup g [(("tag" : Str), V.str cn)]) (if g = "tag" then some (.str cn tk) else none) := by
  rw [lookup_put]
  by_cases h2 : g = "tag"
  · rw [if_pos h2, if_pos h2]
    exact ⟨tk, rfl⟩
  · rw [if_neg h2, if_neg h2]
    trivial
section
variable {X : Cx} {C : Addr} {cn : Str}
/-- C(): its own dict d is new -/
def tMkX0 (C : Addr) (cn : Str) : St → Hp → XK → Prop := fun _ H Q => ∀ d, H d = none → Q (.ref C) (some d) (upd H d (.xd [(("tag" : Str), V.str cn)]))
theorem pmk_x0 {p pos : Pos} {k : Nat} (T : PySem.ExcX.XC0 X.prog X.K X.mg cn C) (hcn : cn.length ≤ sizeLine) (hr : Room (k + 1) X.A) (hg : Gl X cn) (hdb : (cn == ("__debug__" : Str)) = false) :
    PMk X (.Call (.Name cn p) [] [] pos) (tMkX0 C cn) := by
  intro pins s σ H Q I1 q1
  refine wpAny_Call_Name_kw (ld_glob I1 hg T.gC ?_ hdb)
  refine PySem.W.callWith_K0 I1.kIn T.kC ?_
  show wpAny _ _ (call (.ref C) []) _ _ _
  have hlim := I1.nolimit
  have hG := I1.mod.glob.keeps I1.bk
  obtain ⟨mb, B1, B2⟩ := I1.mod.blt
  have hB := B1.keeps I1.bk
  obtain ⟨hp, g, dr, tk, os⟩ := s
  refine wpAny_call (PySem.ExcX.x_made0 T I1.kIn hG ⟨mb, hB, B2⟩ hlim (by have := hr.dp; omega) hcn fun h' tk' e d M => ?_)
  show MkP X pins σ Q (.ref e) ⟨h', g, dr, tk', os⟩
  obtain ⟨oe, fv, hoe, hc, hd, hdat, h1⟩ := M.obj
  obtain ⟨tkn, hns⟩ := M.ns
  obtain ⟨G', g1, g2⟩ := restrict h' fun b => decide (b ≠ e)
  have gk : ∀ b, b ≠ e → G'.get? b = h'.get? b := fun b hb => g1 b (decide_eq_true hb)
  have ge : G'.get? e = none := g2 e (by simp)
  have old : ∀ b o, hp.get? b = some o → G'.get? b = some o := fun b o q => (gk b (Nat.ne_of_lt (Nat.lt_of_lt_of_le (Heap.lt_size q) M.new))).trans (M.keep b o q)
  have ob : ObjOk X.prog X.w (upd H d (.xd [(("tag" : Str), V.str cn)])) G' d (.xd [(("tag" : Str), V.str cn)]) :=
    ⟨_, hns.at (fun o q => (gk d M.dne).trans q), fun f => relO_x0 f⟩
  have J : Inv X pins σ (upd H d (.xd [(("tag" : Str), V.str cn)])) ⟨G', g, dr, tk', os⟩ := I1.laid (t' := tk') old M.dbig ob
  refine ⟨e, oe, fv, ⟨G', g, dr, tk', os⟩, _, .ref C, some d, rfl, J, fun b o q => ?_, ge, hoe, ⟨hc, hd⟩, hdat, h1, ?_, rfl, I1.bare, raises_own T.exC T.tyC, q1 d (I1.hok.fresh M.dbig)⟩
  · by_cases hb : b = e
    · have q' : G'.get? b = some o := q
      rw [hb, ge] at q'
      cases q'
    · exact (gk b hb).symm.trans q
  · rw [upd_ne (Ne.symm M.dne)]
    exact I1.hok.fresh M.new
end
end L2
namespace PL
open PySem L2
variable [Tabl]
section
variable {X : Cx} {W : WX} {C : Addr} {cn : PySem.Str} {p pos pos2 : Pos} {k j : Nat}
/-- raise cn() -/
def tsRaise0 (C : Addr) (cn : PySem.Str) : TSp := fun P Γ => P.xx ⟨.ref C, [(("tag" : PySem.Str), .str cn.cps.toList)]⟩ Γ
theorem s_raise0 (hc : X.calm = true) (T : PySem.ExcX.XC0 X.prog X.K X.mg cn C) (hcn : cn.length ≤ sizeLine) (hr : Room (k + 1) X.A) (tk : Takes X W) (hg : Gl X cn := by rfl) (hdb : (cn == ("__debug__" : PySem.Str)) = false := by decide) :
    PS1 X W (.Raise (some (.Call (.Name cn p) [] [] pos)) none pos2) (tsRaise0 C cn) := by
  refine ⟨_, ps_raise hc tk (pmk_x0 T hcn hr hg hdb), ?_⟩
  intro G0 H0 Γ σ G H P E F ht ok
  intro q hq
  have hg := F.sub.none hq
  have x2 : Ext G H G (upd H q (.xd [(("tag" : PySem.Str), V.str cn)])) := Ext.beside F.sub hq
  exact ok.xx _ _ _ _ _ _ _ ht (F.up x2) ⟨rfl, .inr ⟨q, _, rfl, upd_same, .cons (str_den (X := X) cn) .nil⟩⟩
end
end PL
set_option Elab.async false
set_option linter.all false
set_option maxRecDepth 100000
set_option maxHeartbeats 4000000
namespace PL
open PySem L2
end PL
set_option Elab.async false
set_option linter.all false
set_option maxRecDepth 100000
set_option maxHeartbeats 4000000
namespace PL
open PySem L2
end PL
set_option Elab.async false
set_option linter.all false
set_option maxRecDepth 100000
set_option maxHeartbeats 4000000
namespace PL
open PySem L2 PyProof.Rows
end PL
set_option Elab.async false
set_option linter.all false
set_option maxRecDepth 100000
set_option maxHeartbeats 4000000
namespace PL
open PySem L2 PyProof.Rows
end PL
set_option Elab.async false
set_option linter.all false
set_option maxRecDepth 100000
set_option maxHeartbeats 4000000
namespace PL
open PySem L2
end PL
set_option Elab.async false
set_option linter.all false
set_option maxRecDepth 100000
set_option maxHeartbeats 4000000
namespace PL
open PySem L2 PyProof.Rows
end PL
set_option Elab.async false
set_option linter.all false
set_option maxRecDepth 100000
set_option maxHeartbeats 4000000
namespace PL
open PySem L2 PyProof.Rows
end PL
set_option Elab.async false
set_option linter.all false
set_option maxRecDepth 100000
set_option maxHeartbeats 4000000
namespace PL
open PySem L2
variable [Tabl]
def spQ (K : PySem.W.Frag) (n j : Nat) (fs : FSo) : Sp := fun vs H Q E => ∃ G ds k kx p, vs.length = n ∧ ds.length = n ∧ Sub G H ∧ G p = none ∧ vs[j]? = some (.ref p) ∧ (∃ d, ds[j]? = some d ∧ OwnAt K (hole H p) G H p d) ∧
  (∀ (i : Nat) v d, i ≠ j → vs[i]? = some v → ds[i]? = some d → Den K G v d) ∧ fs ds k kx ∧
  (∀ d e v G' H', k d e → Ext G (hole H p) G' H' → G' p = none → OwnAt K (hole H p) G' H' p e → Den K G' v d → Q v H') ∧
  (∀ x e cls dA G' H', kx x → Ext G (hole H p) G' H' → G' p = none → OwnAt K (hole H p) G' H' p e → XDen K G' H' cls dA x → E cls dA H')
section
variable {P : Program} {w : World} {K : PySem.W.Frag} {mg : PySem.Str → Option Value} {base : Heap}
/-- the global name x holds a def that keeps fs and changes its j-th argument -/
structure DfO (P : Program) (w : World) (K : PySem.W.Frag) (mg : PySem.Str → Option Value) (base : Heap) (x : PySem.Str) (k n j : Nat) (fs : FSo) : Prop where
  ex : ∃ f fd ps, FnOk P w K mg base (L2.CX P w) k f fd ps (spQ K n j fs) ∧ mg x = some (.ref f) ∧ PySem.W.keepIn K (.ref f) = true ∧ Binds K fd ps [] ∧ ps.length = n
theorem spQ_imp {n j : Nat} {fs fs' : FSo} (h : ∀ ds kd kx, ds.length = n → fs' ds kd kx → fs ds kd kx) {vs : List V} {H : Hp} {Q : VK} {E : XK} (z : spQ K n j fs' vs H Q E) : spQ K n j fs vs H Q E := by
  obtain ⟨G, ds, k, kx, p, a1, a2, a3, a4, a5, a6, a7, a8, a9⟩ := z
  exact ⟨G, ds, k, kx, p, a1, a2, a3, a4, a5, a6, a7, h _ _ _ a2 a8, a9⟩
theorem DfO.imp {x : PySem.Str} {k n j : Nat} {fs fs' : FSo} (F : DfO P w K mg base x k n j fs) (h : ∀ ds kd kx, ds.length = n → fs' ds kd kx → fs ds kd kx) : DfO P w K mg base x k n j fs' := by
  obtain ⟨f, fd, ps, a, b⟩ := F.ex
  exact ⟨f, fd, ps, a.imp fun vs H Q E z => spQ_imp h z, b⟩
theorem DfO.mono {x : PySem.Str} {k k' n j : Nat} {fs : FSo} (F : DfO P w K mg base x k n j fs) (h : k ≤ k') : DfO P w K mg base x k' n j fs := by
  obtain ⟨f, fd, ps, a, b⟩ := F.ex
  exact ⟨f, fd, ps, a.mono h, b⟩
end
structure Eff (K : PySem.W.Frag) (G H : Hp) (p : Addr) (c : D) (G' H' : Hp) : Prop where
  x : Ext G (hole H p) G' H'
  g : G' p = none
  o : OwnAt K (hole H p) G' H' p c
def boxD : D → Prop
  | .lst _ => True
  | .dct _ => True
  | _ => False
section
variable {K : PySem.W.Frag} {G0 H0 H00 G H G1 H1 G2 H2 G' H' : Hp} {Γ : Ga} {σ : L2.St} {p q : Addr} {c c1 c2 d : D} {u : HO} {i : Nat}
theorem OwnAt.box (h : OwnAt K H0 G H p d) (b : boxD d) : OwnAt K H00 G H p d := by
  cases d with
  | lst ds => exact h
  | dct ds => exact h
  | _ => exact b.elim
theorem OwnAt.low (h : OwnAt K H0 G H p d) (m : ∀ a, H0 a = none → H00 a = none) : OwnAt K H00 G H p d := by
  cases d with
  | lst ds => exact h
  | dct ds => exact h
  | ins C fs =>
    obtain ⟨dx, fvs, h1, h2, h3, h4, h5⟩ := h
    exact ⟨dx, fvs, h1, h2, h3, m _ h4, h5⟩
  | _ => exact h.elim
theorem Eff.trans (a : Eff K G H p c1 G1 H1) (b : Eff K G1 H1 p c2 G2 H2) : Eff K G H p c2 G2 H2 := by
  have up : ∀ {x : Addr} {o : HO}, hole H p x = some o → x ≠ p := fun {x o} e z => by
    rw [z, hole_at] at e
    cases e
  refine ⟨⟨⟨fun x o e n => ?_, fun x o e => ?_, fun _ => b.x.sub.tb⟩, a.x.g.trans b.x.g, fun x h ⟨o, e⟩ => ?_, b.x.sub⟩, b.g, b.o.low fun x e => ?_⟩
  · exact b.x.h.k _ _ (by rw [hole_ne (up e)]; exact a.x.h.k _ _ e n) n
  · obtain ⟨o1, e1⟩ := a.x.h.t _ _ e
    exact b.x.h.t x o1 (by rw [hole_ne (up e)]; exact e1)
  · obtain ⟨o1, e1⟩ := a.x.h.t _ _ e
    exact b.x.nw x (a.x.nw x h ⟨o, e⟩) ⟨o1, by rw [hole_ne (up e)]; exact e1⟩
  · cases z : hole H p x with
    | none => rfl
    | some o =>
      obtain ⟨o1, e1⟩ := a.x.h.t _ _ z
      rw [hole_ne (up z), e1] at e
      cases e
theorem Eff.of (r : OwnAt K H0 G H p c) (b : boxD c) (g : G p = none) (x : Ext G H G' H') : Eff K G H p c G' H' :=
  ⟨⟨(Up.of hole_same).trans x.h, x.g, fun a h ⟨o, e⟩ => x.nw a h ⟨o, hole_same _ _ e⟩, x.sub⟩, x.nw p g r.there, (r.up x).box b⟩
end
abbrev TX := Ga → (D → D → Prop) → KX → Prop
end PL
set_option Elab.async false
set_option linter.all false
set_option maxRecDepth 100000
set_option maxHeartbeats 4000000
namespace PL
open PySem L2
end PL
set_option Elab.async false
set_option linter.all false
set_option maxRecDepth 100000
set_option maxHeartbeats 4000000
namespace PL
open PySem L2 PyProof.Rows
variable [Tabl]
section
variable {K : PySem.W.Frag} {G0 H0 G H G1 H1 G' H' : Hp} {Γ Γ0 : Ga} {σ σ0 : L2.St} {d : Addr} {o : Obj} {kvs : List (Key × V)} {u v0 : HO}
theorem tabs_frz (t : LamX.Tabs Tabl.T H) (h : H d = some (.dK kvs) ∨ H d = some (.frz o (.dK kvs))) (u : HO) : LamX.Tabs Tabl.T (upd H d u) := by
  intro q hq
  obtain ⟨ps, h1, h2, h3⟩ := t q hq
  have ne : ∀ {a : Addr} {v : HO}, H a = some v → v ≠ .dK kvs → v ≠ .frz o (.dK kvs) → a ≠ d := fun {a v} e n1 n2 z => by
    rw [z] at e
    rcases h with h | h
    · rw [h] at e
      cases e
      exact n1 rfl
    · rw [h] at e
      cases e
      exact n2 rfl
  refine ⟨ps, by rw [upd_ne (ne h1 (by intro z; cases z) (by intro z; cases z))]; exact h1, h2, fun pos cv hc => ?_⟩
  obtain ⟨c, e1, e2⟩ := h3 pos cv hc
  exact ⟨c, e1, by rw [upd_ne (ne e2 (by intro z; cases z) (by intro z; cases z))]; exact e2⟩
theorem Sub.frz (s : Sub G H) (gd : G d = some (.dK kvs)) (hd : H d = some (.dK kvs)) : Sub G (upd H d (.frz o (.dK kvs))) := by
  refine ⟨fun a v q => ?_, s.nt, tabs_frz s.tb (o := o) (.inl hd) _⟩
  by_cases z : a = d
  · subst z
    rw [gd] at q
    cases q
    exact .inr ⟨trivial, o, upd_same⟩
  · rw [upd_ne z]
    exact s.m a v q
end
end PL
set_option Elab.async false
set_option linter.all false
set_option maxRecDepth 100000
set_option maxHeartbeats 4000000
namespace PL
open PySem L2 PyProof.Rows
end PL
set_option Elab.async false
set_option linter.all false
set_option maxRecDepth 100000
set_option maxHeartbeats 4000000
namespace PL
open PySem L2 PyProof.Rows
end PL
set_option Elab.async false
set_option linter.all false
set_option maxRecDepth 100000
set_option maxHeartbeats 4000000
namespace PL
open PySem L2 PyProof.Rows
end PL
set_option Elab.async false
set_option linter.all false
set_option maxRecDepth 100000
set_option maxHeartbeats 4000000
namespace PL
open PySem L2
end PL
set_option Elab.async false
set_option linter.all false
set_option maxRecDepth 100000
set_option maxHeartbeats 4000000
namespace PL
def frontAt (s : List Nat) : Nat := frontGo [] 0 s
def rearAt (s : List Nat) : Nat := s.length - 1 - frontAt s.reverse
theorem front_is {s : List Nat} (h : s ≠ []) : IsFront s (frontAt s) := frontGo_ok s [] 0 (fun z => absurd rfl z) h
theorem rear_is {s : List Nat} (h : s ≠ []) : IsRear s (rearAt s) := (front_rev (front_is (by simpa using h))).2
theorem getD_of {s : List Nat} {p c : Nat} (h : s[p]? = some c) : s.getD p 0 = c := by
  rw [List.getD_eq_getElem?_getD, h]
  rfl
def laidGo (l r : List Nat) : Nat → List Nat
  | 0 => l ++ r
  | n + 1 => if (r.take (n + 1)).isSuffixOf l = true then l ++ r.drop (n + 1) else laidGo l r n
def laid (l r : List Nat) : List Nat := laidGo l r (min l.length r.length)
def sb (s : List Nat) : List Nat :=
  if h : s = [] then [] else laid (sb (s.take (frontAt s)) ++ [s.getD (frontAt s) 0]) (s.getD (rearAt s) 0 :: sb (s.drop (rearAt s + 1)))
termination_by s.length
decreasing_by
  · have := (front_is h).lt
    rw [List.length_take]
    omega
  · have := (rear_is h).lt
    rw [List.length_drop]
    omega
/-- the parts of a log -/
structure Parts (s : List Nat) (i j a b : Nat) (p q : List Nat) : Prop where
  f : IsFront s i
  r : IsRear s j
  ea : s[i]? = some a
  eb : s[j]? = some b
  ep : p = s.take i
  eq : q = s.drop (j + 1)
  na : a ∉ p
  nb : b ∉ q
  cp : ∀ d ∈ s, d ∈ p ∨ d = a
  cq : ∀ d ∈ s, d = b ∨ d ∈ q
  sbe : sb s = laid (sb p ++ [a]) (b :: sb q)
theorem parts {s : List Nat} (h : s ≠ []) : ∃ i j a b p q, Parts s i j a b p q := by
  have f := front_is h
  have r := rear_is h
  obtain ⟨a, f1, f2, f3⟩ := id f
  obtain ⟨b, r1, r2, r3⟩ := id r
  refine ⟨frontAt s, rearAt s, a, b, _, _, f, r, f1, r1, rfl, rfl, fun z => ?_, fun z => ?_, fun d hd => ?_, fun d hd => ?_, ?_⟩
  · obtain ⟨k, hk, e⟩ := List.mem_iff_getElem?.mp z |>.imp fun k e => (⟨(List.getElem?_eq_some_iff.mp e).1, e⟩ : k < (s.take (frontAt s)).length ∧ _)
    rw [List.length_take] at hk
    rw [List.getElem?_take_of_lt (by omega)] at e
    exact f2 k (by omega) e
  · obtain ⟨k, e⟩ := List.mem_iff_getElem?.mp z
    rw [List.getElem?_drop] at e
    exact r2 _ (by omega) e
  · obtain ⟨k, k1, k2⟩ := f3 d hd
    by_cases e : k = frontAt s
    · rw [e, f1] at k2
      exact .inr (Option.some.inj k2).symm
    · refine .inl (List.mem_iff_getElem?.mpr ⟨k, ?_⟩)
      rw [List.getElem?_take_of_lt (by omega)]
      exact k2
  · obtain ⟨k, k1, k2⟩ := r3 d hd
    by_cases e : k = rearAt s
    · rw [e, r1] at k2
      exact .inl (Option.some.inj k2).symm
    · refine .inr (List.mem_iff_getElem?.mpr ⟨k - (rearAt s + 1), ?_⟩)
      rw [List.getElem?_drop, show rearAt s + 1 + (k - (rearAt s + 1)) = k by omega]
      exact k2
  · rw [sb, dif_neg h, getD_of f1, getD_of r1]
end PL
set_option Elab.async false
set_option linter.all false
set_option maxRecDepth 100000
set_option maxHeartbeats 4000000
namespace PL
open PySem L2
section
variable {ds : List D} {kd : KD} {kx : KX} {C : Addr}
local instance : Tabl := ⟨[], fun p hp => absurd hp (by simp)⟩
end
end PL
set_option Elab.async false
set_option linter.all false
set_option maxRecDepth 100000
set_option maxHeartbeats 4000000
namespace PL
open PySem L2
section
variable {ds : List D} {kd : KD} {kx : KX} {C : Addr}
local instance : Tabl := ⟨[], fun p hp => absurd hp (by simp)⟩
section
variable {s p q : List Nat} {i j a b : Nat}
theorem Parts.mp (P : Parts s i j a b p q) : ∀ c ∈ p, c ∈ s := fun c hc => by
  rw [P.ep] at hc
  exact List.mem_of_mem_take hc
end
end
end PL
set_option Elab.async false
set_option linter.all false
set_option maxRecDepth 100000
set_option maxHeartbeats 4000000
namespace PL
end PL
set_option Elab.async false
set_option linter.all false
set_option maxRecDepth 100000
set_option maxHeartbeats 4000000
namespace PL
end PL
set_option Elab.async false
set_option linter.all false
set_option maxRecDepth 100000
set_option maxHeartbeats 4000000
namespace PL
abbrev Blk := Nat × List Nat
section
variable (ap : Nat → Nat → Bool)
/-- w goes to the last block of its sender, if all blocks behind it are apart -/
def putL (s : Nat) (w : List Nat) : List Blk → Option (List Blk)
  | [] => none
  | b :: r => if b.1 = s then some ((s, b.2 ++ w) :: r) else if ap b.1 s = true then (putL s w r).map (b :: ·) else none
def addL (s : Nat) (w : List Nat) (R : List Blk) : List Blk := match putL ap s w R with
  | some x => x
  | none => (s, w) :: R
inductive BE : List Blk → List Blk → Prop
  | refl (R : List Blk) : BE R R
  | symm {R R' : List Blk} : BE R R' → BE R' R
  | trans {R R' R'' : List Blk} : BE R R' → BE R' R'' → BE R R''
  | con (s : Nat) {u v : List Nat} (r : List Blk) : sb u = sb v → BE ((s, u) :: r) ((s, v) :: r)
  | sw (a b : Blk) (r : List Blk) : ap a.1 b.1 = true → BE (a :: b :: r) (b :: a :: r)
  | cons (a : Blk) {r r' : List Blk} : BE r r' → BE (a :: r) (a :: r')
def OE : Option (List Blk) → Option (List Blk) → Prop
  | some x, some y => BE ap x y
  | none, none => True
  | _, _ => False
/-- the logs that come to the same -/
inductive Sim (own : Nat → Nat) : List Nat → List Nat → Prop
  | refl (x : List Nat) : Sim own x x
  | symm {x y : List Nat} : Sim own x y → Sim own y x
  | trans {x y z : List Nat} : Sim own x y → Sim own y z → Sim own x z
  | sw (x : List Nat) (c d : Nat) (y : List Nat) : ap (own c) (own d) = true → Sim own (x ++ c :: d :: y) (x ++ d :: c :: y)
  | st (x : List Nat) {v v' : List Nat} (y : List Nat) (s : Nat) : v ≠ [] → v' ≠ [] → (∀ c ∈ v, own c = s) → (∀ c ∈ v', own c = s) → sb v = sb v' → Sim own (x ++ (v ++ y)) (x ++ (v' ++ y))
def runB (own : Nat → Nat) (y : List Nat) (R : List Blk) : List Blk := y.foldl (fun R c => addL ap (own c) [c] R) R
end
section
variable {ap : Nat → Nat → Bool} {own : Nat → Nat} {s t : Nat} {w z v v' : List Nat} {R R' : List Blk}
theorem OE.refl (x : Option (List Blk)) : OE ap x x := by
  cases x
  · trivial
  · exact BE.refl _
theorem OE.symm {x y : Option (List Blk)} (h : OE ap x y) : OE ap y x := by
  cases x <;> cases y
  · trivial
  · exact h
  · exact h
  · exact BE.symm h
theorem OE.trans {x y z : Option (List Blk)} (h : OE ap x y) (g : OE ap y z) : OE ap x z := by
  cases x <;> cases y <;> cases z
  · trivial
  · exact g
  · exact h.elim
  · exact h.elim
  · exact h.elim
  · exact h.elim
  · exact g.elim
  · exact BE.trans h g
theorem OE.map {x y : Option (List Blk)} (a : Blk) (h : OE ap x y) : OE ap (x.map (a :: ·)) (y.map (a :: ·)) := by
  cases x <;> cases y
  · trivial
  · exact h
  · exact h
  · exact BE.cons a h
end
end PL
set_option Elab.async false
set_option linter.all false
set_option maxRecDepth 100000
set_option maxHeartbeats 4000000
namespace PL
section
variable {ap : Nat → Nat → Bool} {own : Nat → Nat} {s t : Nat} {w z v v' : List Nat} {R R' r r' o o' : List Blk} {b b' : Blk}
theorem Sim.pre (u : List Nat) {x y : List Nat} (h : Sim ap own x y) : Sim ap own (u ++ x) (u ++ y) := by
  induction h with
  | refl x => exact .refl _
  | symm _ ih => exact ih.symm
  | trans _ _ i1 i2 => exact i1.trans i2
  | sw x c d y h =>
    rw [← List.append_assoc, ← List.append_assoc]
    exact .sw _ c d y h
  | st x y s h1 h2 h3 h4 e =>
    rw [← List.append_assoc, ← List.append_assoc u x]
    exact .st _ y s h1 h2 h3 h4 e
theorem Sim.suf (u : List Nat) {x y : List Nat} (h : Sim ap own x y) : Sim ap own (x ++ u) (y ++ u) := by
  induction h with
  | refl x => exact .refl _
  | symm _ ih => exact ih.symm
  | trans _ _ i1 i2 => exact i1.trans i2
  | sw x c d y h =>
    have := Sim.sw (ap := ap) (own := own) x c d (y ++ u) h
    simpa using this
  | st x y s h1 h2 h3 h4 e =>
    have := Sim.st (ap := ap) (own := own) x (y ++ u) s h1 h2 h3 h4 e
    simpa using this
theorem Sim.of_eq {x y : List Nat} (h : x = y) : Sim ap own x y := h ▸ .refl _
end
end PL
set_option Elab.async false
set_option linter.all false
set_option maxRecDepth 100000
set_option maxHeartbeats 4000000
namespace PL
open PySem L2
def m_is_number : FS := fun ds k kx =>
  (tsRet (tpAnd (tp1 (fIsi "int") (tpVar 0)) (tpNot (tp1 (fIsi "bool") (tpVar 0)))))
  (fEnds k kx) (ga0 1 ds)
def m_is_within (fs_is_number : FS) : FS := fun ds k kx =>
  (tsRet (tpAnd (tpCall 1 fs_is_number (tlCons (tpVar 0) tlNil)) (tpChain fLe fLe (tpVar 1) (tpVar 0) (tpVar 2))))
  (fEnds k kx) (ga0 3 ds)
end PL
set_option Elab.async false
set_option linter.all false
set_option maxRecDepth 100000
set_option maxHeartbeats 4000000
namespace PL
open PySem L2
abbrev okA (s : List Nat) : Prop := 1 ≤ s.length ∧ s.length ≤ 8 ∧ s.Pairwise (· < ·) ∧ ∀ c ∈ s, c ∈ LET
theorem plain_of {t : List Nat} (h : ∀ c ∈ t, c ∈ LET) : D.plain (.str t) = true := by
  show t.all _ = true
  rw [List.all_eq_true]
  exact fun c hc => decide_eq_true (by have := (let_iff (c := c)).mp (h c hc); omega)
theorem eqD_str (a b : List Nat) : eqD (.str a) (.str b) = decide (a = b) := by
  show (SS a == SS b) = _
  by_cases h : a = b
  · rw [h, decide_eq_true rfl]
    exact beq_iff_eq.mpr rfl
  · rw [decide_eq_false h]
    refine beq_eq_false_iff_ne.mpr fun z => h ?_
    have := congrArg (fun x : PySem.Str => x.cps.toList) z
    simpa [SS] using this
def fsIsNum : FS := fun ds k _ => match ds with
  | [d] => (tyD d).isSome = true ∧ k (.bl (match d with | .int _ => true | _ => false))
  | _ => False
def within (lo hi : Int) : D → Bool
  | .int i => decide (lo ≤ i) && decide (i ≤ hi)
  | _ => false
def fsWithin : FS := fun ds k _ => match ds with
  | [d, .int lo, .int hi] => (tyD d).isSome = true ∧ k (.bl (within lo hi d))
  | _ => False
section
variable {ds : List D} {kd : KD} {kx : KX}
local instance : Tabl := ⟨[], fun p hp => absurd hp (by simp)⟩
theorem is_num_ok' : fsIsNum ds kd kx → m_is_number ds kd kx := by
  intro h
  match ds, h with
  | [d], ⟨g, h⟩ =>
    cases d <;> first | exact h | cases g
theorem within_ok' : fsWithin ds kd kx → m_is_within fsIsNum ds kd kx := by
  intro h
  match ds, h with
  | [d, .int lo, .int hi], ⟨g, h⟩ =>
    refine ⟨rfl, g, ?_⟩
    cases d with
    | int i =>
      show (if true = true then (if decide (lo ≤ i) = true then kd (.bl (decide (i ≤ hi))) else kd (.bl false)) else kd (.bl false))
      rw [if_pos rfl]
      have h : kd (.bl (decide (lo ≤ i) && decide (i ≤ hi))) := h
      by_cases z : lo ≤ i
      · rw [decide_eq_true z] at h ⊢
        rw [if_pos rfl]
        exact h
      · rw [decide_eq_false z] at h ⊢
        rw [if_neg Bool.false_ne_true]
        exact h
    | _ => exact h
end
end PL
set_option Elab.async false
set_option linter.all false
set_option maxRecDepth 100000
set_option maxHeartbeats 4000000
namespace PL
open PySem L2
abbrev Prs := List (Nat × Nat)
def apP (ps : Prs) (a b : Nat) : Bool := decide ((min a b, max a b) ∈ ps)
def pdN (p : Nat × Nat) : D := pd ((p.1 : Int), (p.2 : Int))
/-- a kind's senders and pairs -/
structure Cst (ss : List (List Nat)) (ps : Prs) : Prop where
  l1 : 1 ≤ ss.length
  l4 : ss.length ≤ 4
  ok : ∀ s ∈ ss, okA s
  nd : ss.flatten.Nodup
  pr : ∀ p ∈ ps, p.1 < p.2 ∧ p.2 < ss.length
  so : ps.Pairwise fun p q => p.1 < q.1 ∨ (p.1 = q.1 ∧ p.2 < q.2)
def ow0 : Nat → List (List Nat) → List (Nat × Nat)
  | _, [] => []
  | i, s :: r => s.map (fun c => (c, i)) ++ ow0 (i + 1) r
def owK (l : List (Nat × Nat)) : List (Key × D) := l.map fun p => (Sum.inr (SS [p.1]), D.int (p.2 : Nat))
/-- the sender of a deed -/
def ownF (ss : List (List Nat)) (c : Nat) : Nat := ss.findIdx fun s => decide (c ∈ s)
def castK (CC : Addr) (ss : List (List Nat)) (ps : Prs) : D := .sl CC [.dct (owK (ow0 0 ss)), .tup (ps.map pdN), .tup (ss.map .str)]
def freeK (CF CC : Addr) (ss : List (List Nat)) (ps : Prs) : D := .ins CF [("own_deeds", .str (deeds ss.flatten)), ("cast", castK CC ss ps)]
def oneK (C : Addr) (s : List Nat) : D := .ins C [("own_deeds", .str s)]
section
variable {ds : List D} {kd : KD} {kx : KX} {C CF CC : Addr}
local instance : Tabl := ⟨[], fun p hp => absurd hp (by simp)⟩
end
end PL
set_option Elab.async false
set_option linter.all false
set_option maxRecDepth 100000
set_option maxHeartbeats 4000000
namespace PL
open PySem L2
section
variable {ds : List D} {kd : KD} {kx : KX} {C CF CC : Addr} {ss : List (List Nat)} {ps : Prs} {os : List Nat}
local instance : Tabl := ⟨[], fun p hp => absurd hp (by simp)⟩
end
end PL
set_option Elab.async false
set_option linter.all false
set_option maxRecDepth 100000
set_option maxHeartbeats 4000000
namespace PL
open PySem L2
def blkD (b : Blk) : D := .tup [.int (b.1 : Nat), .str b.2]
section
variable {ds : List D} {kd : KD} {kx : KX} {C CF CC : Addr} {ss : List (List Nat)} {ps : Prs} {os : List Nat}
local instance : Tabl := ⟨[], fun p hp => absurd hp (by simp)⟩
end
end PL
set_option Elab.async false
set_option linter.all false
set_option maxRecDepth 100000
set_option maxHeartbeats 4000000
namespace PL
open PySem L2
theorem dL_mem {s : List Nat} (h : ∀ c ∈ s, c ∈ LET) (c : Nat) : c ∈ deeds s ↔ c ∈ s := by
  unfold deeds
  rw [List.mem_filter, decide_eq_true_eq]
  exact ⟨fun z => z.2, fun z => ⟨h c z, z⟩⟩
theorem Cst.letr {ss : List (List Nat)} {ps : Prs} (h : Cst ss ps) : ∀ c ∈ ss.flatten, c ∈ LET := fun c hc => by
  obtain ⟨s, h1, h2⟩ := List.mem_flatten.mp hc
  exact (h.ok s h1).2.2.2 c h2
theorem Cst.size {ss : List (List Nat)} {ps : Prs} (h : Cst ss ps) : ss.flatten.length ≤ 26 := nodup_le ss.flatten LET h.nd h.letr
structure Ks where
  (F C1 C2 C3 : Addr)
def Ks.all (K : Ks) : List Addr := [K.F, K.C1, K.C2, K.C3]
section
variable {ds : List D} {kd : KD} {kx : KX} {C CF CC : Addr} {ss : List (List Nat)} {ps : Prs} {K : Ks}
local instance : Tabl := ⟨[], fun p hp => absurd hp (by simp)⟩
end
end PL
set_option Elab.async false
set_option linter.all false
set_option maxRecDepth 100000
set_option maxHeartbeats 4000000
namespace PL
open PySem L2
/-- the kinds -/
inductive KindM where
  | free (ss : List (List Nat)) (ps : Prs)
  | first (s : List Nat)
  | last (s : List Nat)
  | lot (s : List Nat)
def KindM.al : KindM → List Nat
  | .free ss _ => deeds ss.flatten
  | .first s => s
  | .last s => s
  | .lot s => s
def KindM.ok : KindM → Prop
  | .free ss ps => Cst ss ps ∧ ss.flatten.length ≤ 8
  | .first s => 1 ≤ s.length ∧ s.length ≤ 8 ∧ s.Pairwise (· < ·) ∧ ∀ c ∈ s, c ∈ LET
  | .last s => 1 ≤ s.length ∧ s.length ≤ 8 ∧ s.Pairwise (· < ·) ∧ ∀ c ∈ s, c ∈ LET
  | .lot s => 1 ≤ s.length ∧ s.length ≤ 8 ∧ s.Pairwise (· < ·) ∧ ∀ c ∈ s, c ∈ LET
def KindM.dat (K : Ks) (CC : Addr) : KindM → D
  | .free ss ps => freeK K.F CC ss ps
  | .first s => oneK K.C1 s
  | .last s => oneK K.C2 s
  | .lot s => oneK K.C3 s
theorem KindM.letr {m : KindM} (h : m.ok) : ∀ c ∈ m.al, c ∈ LET := by
  cases m with
  | free ss ps => exact fun c hc => h.1.letr c ((dL_mem h.1.letr c).mp hc)
  | _ => exact h.2.2.2
theorem joinL_nil : ∀ l : List (List Nat), TL.joinL [] l = l.flatten
  | [] => rfl
  | [u] => by simp [TL.joinL]
  | u :: v :: l => by
    have ih := joinL_nil (v :: l)
    rw [List.flatten_cons, ← ih]
    show u ++ ([] ++ TL.joinL [] (v :: l)) = _
    rfl
section
variable {ds : List D} {kd : KD} {kx : KX} {C CF CC : Addr} {ss : List (List Nat)} {ps : Prs} {K : Ks}
local instance : Tabl := ⟨[], fun p hp => absurd hp (by simp)⟩
def two (p : Nat × Nat) : Int × Int := ((p.1 : Int), (p.2 : Int))
end
end PL
set_option Elab.async false
set_option linter.all false
set_option maxRecDepth 100000
set_option maxHeartbeats 4000000
namespace PL
open PySem L2
section
variable {ds : List D} {kd : KD} {kx : KX} {C CF CC : Addr} {ss : List (List Nat)} {ps : Prs} {K : Ks}
local instance : Tabl := ⟨[], fun p hp => absurd hp (by simp)⟩
end
end PL
set_option Elab.async false
set_option linter.all false
set_option maxRecDepth 100000
set_option maxHeartbeats 4000000
namespace PL
open PySem L2
abbrev FREE : List Nat := [102, 114, 101, 101]
abbrev FIRST : List Nat := [102, 105, 114, 115, 116]
abbrev LAST : List Nat := [108, 97, 115, 116]
abbrev LOT : List Nat := [108, 111, 116]
def modT (w : List Nat) (ss : List (List Nat)) (ps : Prs) : D := .tup [.str w, .lst (ss.map .str), .lst (ps.map pdN)]
def modD : KindM → D
  | .free ss ps => modT FREE ss ps
  | .first s => modT FIRST [s] []
  | .last s => modT LAST [s] []
  | .lot s => modT LOT [s] []
section
variable {ds : List D} {kd : KD} {kx : KX} {C CF CC : Addr} {ss : List (List Nat)} {ps : Prs} {K : Ks}
local instance : Tabl := ⟨[], fun p hp => absurd hp (by simp)⟩
end
end PL
set_option Elab.async false
set_option linter.all false
set_option maxRecDepth 100000
set_option maxHeartbeats 4000000
namespace PL
open PySem L2
section
variable {ds : List D} {kd : KD} {kx : KX} {C CF CC : Addr} {ss : List (List Nat)} {ps : Prs} {K : Ks}
local instance : Tabl := ⟨[], fun p hp => absurd hp (by simp)⟩
end
end PL
set_option Elab.async false
set_option linter.all false
set_option maxRecDepth 100000
set_option maxHeartbeats 4000000
namespace PL
open PySem L2
end PL
set_option Elab.async false
set_option linter.all false
set_option maxRecDepth 100000
set_option maxHeartbeats 4000000
namespace PL
open PySem L2
end PL
set_option Elab.async false
set_option linter.all false
set_option maxRecDepth 100000
set_option maxHeartbeats 4000000
namespace PL
open PySem L2
def Ev (t : TP) (Γ : Ga) (d : D) : Prop := ∀ (k : KD) (kx : KX), k d → t Γ k kx
def EvL (t : TL) (Γ : Ga) (ds : List D) : Prop := ∀ (k : List D → Prop) (kx : KX), k ds → t Γ k kx
def EvB (t : TB) (Γ : Ga) (b : Bool) : Prop := ∀ (k : Bool → Prop) (kx : KX), k b → t Γ k kx
section
local instance : Tabl := ⟨[], fun p hp => absurd hp (by simp)⟩
variable {Γ Γ' : Ga} {t ta tb : TP} {tl : TL} {d x y : D} {ds : List D} {i j n : Nat} {P : PEn} {u s r : TSp} {b c : Bool} {cb cc : TB}
theorem ev_var (e : gat Γ i = .pu d) : Ev (tpVar i) Γ d := fun k kx h => by
  show (match gat Γ i with | .pu d => k d | _ => False)
  rw [e]
  exact h
theorem ev_varO (e : gat Γ i = .ow d) : Ev (tpVarU i) Γ d := fun k kx h => by
  show (match gat Γ i with | .pu d => k d | .ow d => k d | .lk _ _ d => k d | .pw _ d => k d | _ => False)
  rw [e]
  exact h
theorem ev_c (d : D) : Ev (tpC d) Γ d := fun _ _ h => h
theorem evl_nil : EvL tlNil Γ [] := fun _ _ h => h
theorem evl_cons (h : Ev t Γ d) (g : EvL tl Γ ds) : EvL (tlCons t tl) Γ (d :: ds) := fun k kx z => h _ _ (g _ _ z)
theorem evl_1 (h : Ev t Γ d) : EvL (tlCons t tlNil) Γ [d] := evl_cons h evl_nil
theorem evl_2 (h : Ev ta Γ x) (g : Ev tb Γ y) : EvL (tlCons ta (tlCons tb tlNil)) Γ [x, y] := evl_cons h (evl_1 g)
theorem evl_3 {tc : TP} {z : D} (h : Ev ta Γ x) (g : Ev tb Γ y) (f : Ev tc Γ z) : EvL (tlCons ta (tlCons tb (tlCons tc tlNil))) Γ [x, y, z] := evl_cons h (evl_2 g f)
theorem ev_lst (h : EvL tl Γ ds) (hl : ds.length ≤ 100000) : Ev (tpLst tl) Γ (.lst ds) := fun k kx z => h _ _ ⟨hl, z⟩
theorem ev_tup (h : EvL tl Γ ds) (hl : ds.length ≤ 100000) : Ev (tpTup tl) Γ (.tup ds) := fun k kx z => h _ _ ⟨hl, z⟩
theorem ev_call {f : FS} (h : EvL tl Γ ds) (hn : ds.length = n) (hf : ∀ k kx, k d → f ds k kx) : Ev (tpCall n f tl) Γ d := fun k kx z => h _ _ ⟨hn, hf k kx z⟩
theorem ev_op {f : F2} (h : Ev ta Γ x) (g : Ev tb Γ y) (hf : ∀ k : KD, k d → f x y k) : Ev (tpOp f ta tb) Γ d := fun k kx z => h _ _ (g _ _ (hf k z))
theorem ev_1 {f : F1} (h : Ev t Γ x) (hf : ∀ k : KD, k d → f x k) : Ev (tp1 f t) Γ d := fun k kx z => h _ _ (hf k z)
theorem ev_addS {a b : List Nat} (h : Ev ta Γ (.str a)) (g : Ev tb Γ (.str b)) (hl : a.length + b.length ≤ sizeLine) : Ev (tpOp fAdd ta tb) Γ (.str (a ++ b)) := ev_op h g fun k z => ⟨hl, z⟩
theorem ev_addL {a b : List D} (h : Ev ta Γ (.lst a)) (g : Ev tb Γ (.lst b)) (hl : a.length + b.length ≤ sizeLine) : Ev (tpOp fAdd ta tb) Γ (.lst (a ++ b)) := ev_op h g fun k z => ⟨hl, z⟩
theorem ev_addI {a b : Int} (h : Ev ta Γ (.int a)) (g : Ev tb Γ (.int b)) : Ev (tpOp fAdd ta tb) Γ (.int (a + b)) := ev_op h g fun k z => z
theorem ev_subI {a b : Int} (h : Ev ta Γ (.int a)) (g : Ev tb Γ (.int b)) : Ev (tpOp fSub ta tb) Γ (.int (a - b)) := ev_op h g fun k z => z
theorem ev_ixL {l : List D} {z : Int} (h : Ev ta Γ (.lst l)) (g : Ev tb Γ (.int z)) (e : atI l z = some d) : Ev (tpOp fIx ta tb) Γ d := ev_op h g fun k w => by
  show (match atI l z with | some d => k d | none => False)
  rw [e]
  exact w
theorem ev_ixT {l : List D} {z : Int} (h : Ev ta Γ (.tup l)) (g : Ev tb Γ (.int z)) (e : atI l z = some d) : Ev (tpOp fIx ta tb) Γ d := ev_op h g fun k w => by
  show (match atI l z with | some d => k d | none => False)
  rw [e]
  exact w
theorem ev_ixS {l : List Nat} {z : Int} {q : Nat} (h : Ev ta Γ (.str l)) (g : Ev tb Γ (.int z)) (hl : l.length ≤ sizeLine) (e : atI l z = some q) : Ev (tpOp fIx ta tb) Γ (.str [q]) := ev_op h g fun k w => by
  refine ⟨hl, ?_⟩
  show (match atI l z with | some c => k (.str [c]) | none => False)
  rw [e]
  exact w
theorem ev_lenS {l : List Nat} (h : Ev t Γ (.str l)) (hl : l.length ≤ sizeLine) : Ev (tp1 fLenS t) Γ (.int (l.length : Nat)) := ev_1 h fun k z => ⟨hl, z⟩
theorem ev_lenL {l : List D} (h : Ev t Γ (.lst l)) : Ev (tp1 fLenS t) Γ (.int (l.length : Nat)) := ev_1 h fun k z => z
theorem ev_lenT {l : List D} (h : Ev t Γ (.tup l)) : Ev (tp1 fLenS t) Γ (.int (l.length : Nat)) := ev_1 h fun k z => z
theorem ev_eqS {a b : List Nat} (h : Ev ta Γ (.str a)) (g : Ev tb Γ (.str b)) (pa : D.plain (.str a) = true) (pb : D.plain (.str b) = true) : Ev (tpOp fEq ta tb) Γ (.bl (decide (a = b))) := ev_op h g fun k z => ⟨⟨pa, pb, Nat.zero_le _, Nat.zero_le _⟩, by rw [eqD_str]; exact z⟩
theorem ev_neS {a b : List Nat} (h : Ev ta Γ (.str a)) (g : Ev tb Γ (.str b)) (pa : D.plain (.str a) = true) (pb : D.plain (.str b) = true) : Ev (tpOp fNe ta tb) Γ (.bl (!decide (a = b))) := ev_op h g fun k z => ⟨⟨pa, pb, Nat.zero_le _, Nat.zero_le _⟩, by rw [eqD_str]; exact z⟩
theorem ev_eqI {a b : Int} (h : Ev ta Γ (.int a)) (g : Ev tb Γ (.int b)) : Ev (tpOp fEq ta tb) Γ (.bl (decide (a = b))) := ev_op h g fun k z => ⟨⟨rfl, rfl, Nat.zero_le _, Nat.zero_le _⟩, by
  have e : eqD (.int a) (.int b) = decide (a = b) := by
    by_cases q : a = b
    · rw [q, decide_eq_true rfl]
      exact beq_iff_eq.mpr rfl
    · rw [decide_eq_false q]
      exact beq_eq_false_iff_ne.mpr q
  rw [e]
  exact z⟩
theorem ev_eqST {a b : List Nat} (h : Ev ta Γ (.str a)) (g : Ev tb Γ (.str b)) (pa : D.plain (.str a) = true) (pb : D.plain (.str b) = true) (e : a = b) : Ev (tpOp fEq ta tb) Γ (.bl true) := by
  have := ev_eqS h g pa pb
  rwa [decide_eq_true e] at this
theorem ev_eqSF {a b : List Nat} (h : Ev ta Γ (.str a)) (g : Ev tb Γ (.str b)) (pa : D.plain (.str a) = true) (pb : D.plain (.str b) = true) (e : a ≠ b) : Ev (tpOp fEq ta tb) Γ (.bl false) := by
  have := ev_eqS h g pa pb
  rwa [decide_eq_false e] at this
theorem ev_sl {l : List Nat} {lo hi : Option Int} {tlo thi : TO'} (h : Ev t Γ (.str l)) (hlo : ∀ (k : Option Int → Prop) kx, k lo → tlo Γ k kx) (hhi : ∀ (k : Option Int → Prop) kx, k hi → thi Γ k kx) (hl : l.length ≤ sizeLine) : Ev (tpSl t tlo thi) Γ (.str (cutL l lo hi)) := fun k kx z => h _ _ (hlo _ _ (hhi _ _ ⟨hl, z⟩))
theorem ev_ifT (h : EvB cb Γ true) (g : Ev ta Γ d) : Ev (tpIf cb ta tb) Γ d := fun k kx z => h _ _ (g k kx z)
theorem ev_ifF (h : EvB cb Γ false) (g : Ev tb Γ d) : Ev (tpIf cb ta tb) Γ d := fun k kx z => h _ _ (show (if false = true then ta Γ k kx else tb Γ k kx) from g k kx z)
theorem evb_v (h : Ev t Γ (.bl b)) : EvB (tbV t) Γ b := fun k kx z => h _ _ z
theorem evb_not (h : EvB cb Γ b) : EvB (tbNot cb) Γ (!b) := fun k kx z => h _ _ z
theorem evb_andF (h : EvB cb Γ false) : EvB (tbAnd cb cc) Γ false := fun k kx z => h _ _ (show (if false = true then cc Γ k kx else k false) from z)
theorem evb_andT (h : EvB cb Γ true) (g : EvB cc Γ b) : EvB (tbAnd cb cc) Γ b := fun k kx z => h _ _ (g k kx z)
theorem evb_orT (h : EvB cb Γ true) : EvB (tbOr cb cc) Γ true := fun k kx z => h _ _ z
theorem evb_orF (h : EvB cb Γ false) (g : EvB cc Γ b) : EvB (tbOr cb cc) Γ b := fun k kx z => h _ _ (show (if false = true then k true else cc Γ k kx) from g k kx z)
theorem evl_tiLst (h : Ev t Γ (.lst ds)) : EvL (tiLst t) Γ ds := fun k kx z => h _ _ z
theorem evl_tiTup (h : Ev t Γ (.tup ds)) : EvL (tiTup t) Γ ds := fun k kx z => h _ _ z
theorem evl_tiStr {l : List Nat} (h : Ev t Γ (.str l)) : EvL (tiStr t) Γ (l.map fun c => .str [c]) := fun k kx z => h _ _ z
theorem evl_rng1 {z : Nat} (h : Ev t Γ (.int (z : Nat))) (hz : z < 2 ^ 62) : EvL (tiRng1 (tlCons t tlNil)) Γ ((List.range z).map fun i => .int (i : Nat)) := fun k kx w => h _ _ ⟨⟨by omega, by omega⟩, by
  rw [show ((z : Nat) : Int).toNat = z by omega]
  exact w⟩
theorem st_set (h : Ev t Γ d) (g : u P (gset Γ i (.pu d))) : tsSeq (tsSet i t) u P Γ := h _ _ g
theorem st_set1 (h : Ev t Γ d) (g : P.nx (gset Γ i (.pu d))) : tsSet i t P Γ := h _ _ g
theorem st_ifT (h : EvB cb Γ true) (g : s { P with nx := u P } Γ) : tsSeq (tsIf cb s r) u P Γ := h _ _ g
theorem st_ifF (h : EvB cb Γ false) (g : r { P with nx := u P } Γ) : tsSeq (tsIf cb s r) u P Γ := h _ _ (show (if false = true then s { P with nx := u P } Γ else r { P with nx := u P } Γ) from g)
theorem st_ifN (h : EvB cb Γ false) (g : u P Γ) : tsSeq (tsIf cb s tsNext) u P Γ := st_ifF h g
theorem st_if1T (h : EvB cb Γ true) (g : s P Γ) : tsIf cb s r P Γ := h _ _ g
theorem st_if1F (h : EvB cb Γ false) (g : r P Γ) : tsIf cb s r P Γ := h _ _ (show (if false = true then s P Γ else r P Γ) from g)
theorem st_ret (h : Ev t Γ d) (g : P.rt d Γ) : tsRet t P Γ := h _ _ g
theorem st_for {ti : TL} {tg : TGp} (h : EvL ti Γ ds) (g : forW tg s { P with nx := u P } ds Γ) : tsSeq (tsFor ti tg s) u P Γ := h _ _ g
theorem for_cons (h : s { P with nx := forW (tgName i) s P ds, ct := forW (tgName i) s P ds, bk := P.nx } (gset Γ i (.pu d))) : forW (tgName i) s P (d :: ds) Γ := h
theorem ev_fld {C : Addr} {fs : List (PySem.Str × D)} {cs : List Addr} {f : PySem.Str} (h : Ev t Γ (.ins C fs)) (hm : C ∈ cs) (e : fs.lookup f = some d) : Ev (tpFld cs f t) Γ d := fun k kx z => h _ _ (by
  show C ∈ cs ∧ match fs.lookup f with | some v => k v | none => False
  refine ⟨hm, ?_⟩
  rw [e]
  exact z)
end
end PL
set_option Elab.async false
set_option linter.all false
set_option maxRecDepth 100000
set_option maxHeartbeats 4000000
namespace PL
open PySem L2
section
variable {ds : List D} {kd : KD} {kx : KX} {C CF CC : Addr} {ss : List (List Nat)} {ps : Prs} {K : Ks} {m : KindM} {Γ : Ga} {tl : TL} {d : D} {i n : Nat} {nm : PySem.Str}
local instance : Tabl := ⟨[], fun p hp => absurd hp (by simp)⟩
end
end PL
set_option Elab.async false
set_option linter.all false
set_option maxRecDepth 100000
set_option maxHeartbeats 4000000
namespace PL
open PySem L2
end PL
set_option Elab.async false
set_option linter.all false
set_option maxRecDepth 100000
set_option maxHeartbeats 4000000
namespace PL
open PySem L2
section
variable {ds : List D} {kd : KD} {kx : KX} {C CF CC : Addr} {ss : List (List Nat)} {ps : Prs} {K : Ks} {Γ : Ga} {t : TP}
local instance : Tabl := ⟨[], fun p hp => absurd hp (by simp)⟩
end
end PL
set_option Elab.async false
set_option linter.all false
set_option maxRecDepth 100000
set_option maxHeartbeats 4000000
namespace PL
open PySem L2
section
variable {Γ : Ga} {t ta tb : TP} {tl tk : TL} {ds es : List D} {n m l : Nat} {C C' : Addr} {fs : List (PySem.Str × D)} {g : FSo} {is : List Nat} {cb cc : TB} {b c : Bool}
local instance : Tabl := ⟨[], fun p hp => absurd hp (by simp)⟩
end
end PL
set_option Elab.async false
set_option linter.all false
set_option maxRecDepth 100000
set_option maxHeartbeats 4000000
namespace PL
def Sq (x : List Nat) : Prop := ∃ p u q, u ≠ [] ∧ x = p ++ (u ++ (u ++ q))
def Md (x : List Nat) : Prop := ∃ p u m w q, m ≠ [] ∧ x = p ++ (u ++ (m ++ (w ++ q))) ∧ (∀ c, c ∈ u ↔ c ∈ w) ∧ ∀ c ∈ m, c ∈ u
theorem Sq.sub {x : List Nat} (p q : List Nat) (h : Sq x) : Sq (p ++ (x ++ q)) := by
  obtain ⟨p', u, q', hu, e⟩ := h
  exact ⟨p ++ p', u, q' ++ q, hu, by rw [e]; simp⟩
theorem Md.sub {x : List Nat} (p q : List Nat) (h : Md x) : Md (p ++ (x ++ q)) := by
  obtain ⟨p', u, m, w, q', hm0, e, h1, h2⟩ := h
  exact ⟨p ++ p', u, m, w, q' ++ q, hm0, by rw [e]; simp, h1, h2⟩
end PL
set_option Elab.async false
set_option linter.all false
set_option maxRecDepth 100000
set_option maxHeartbeats 4000000
namespace PL
open PySem L2
end PL
set_option Elab.async false
set_option linter.all false
set_option maxRecDepth 100000
set_option maxHeartbeats 4000000
namespace PL
open PySem L2
section
variable {ds : List D} {kd : KD} {kx : KX} {Γ : Ga} {ta tb : TP}
local instance : Tabl := ⟨[], fun p hp => absurd hp (by simp)⟩
def natsD (a n : Nat) : List D := (List.range' a n).map fun i => D.int (i : Nat)
theorem evl_rg2 {a b : Nat} (h : Ev ta Γ (.int (a : Nat))) (g : Ev tb Γ (.int (b : Nat))) (ha : a < 2 ^ 61) (hb : b < 2 ^ 61) : EvL (tiRng2 (tlCons ta (tlCons tb tlNil))) Γ (natsD a (b - a)) := fun k kx z => h _ _ (g _ _ ⟨⟨by omega, by omega, by omega, by omega⟩, by
  have : ((List.range (((b : Nat) : Int) - ((a : Nat) : Int)).toNat).map fun i => D.int (((a : Nat) : Int) + ((i : Nat) : Int))) = natsD a (b - a) := by
    unfold natsD
    rw [show (((b : Nat) : Int) - ((a : Nat) : Int)).toNat = b - a by omega, List.range'_eq_map_range, List.map_map]
    exact List.map_congr_left fun i _ => by
      show D.int _ = D.int _
      congr 1
  rw [this]
  exact z⟩)
theorem evl_rg1 {b : Nat} (h : Ev ta Γ (.int (b : Nat))) (hb : b < 2 ^ 61) : EvL (tiRng1 (tlCons ta tlNil)) Γ (natsD 0 b) := fun k kx z => evl_rng1 h (by omega) k kx (by
  have : ((List.range b).map fun i => D.int (i : Nat)) = natsD 0 b := by
    unfold natsD
    rw [List.range_eq_range']
  rw [this]
  exact z)
theorem ev_slT {x : List Nat} {a : Nat} {ia : Int} (h : Ev ta Γ (.str x)) {t1 : TP} (h1 : Ev t1 Γ (.int ia)) (ea : ia = (a : Nat)) (hz : x.length ≤ sizeLine) : Ev (tpSl ta toNo (toSome t1)) Γ (.str (x.take a)) := by
  rw [← cut_take]
  exact ev_sl h (fun k kx z => z) (fun k kx z => h1 _ _ (ea ▸ z)) hz
theorem ev_slD {x : List Nat} {a : Nat} {ia : Int} (h : Ev ta Γ (.str x)) {t1 : TP} (h1 : Ev t1 Γ (.int ia)) (ea : ia = (a : Nat)) (hz : x.length ≤ sizeLine) : Ev (tpSl ta (toSome t1) toNo) Γ (.str (x.drop a)) := by
  rw [← cut_drop]
  exact ev_sl h (fun k kx z => h1 _ _ (ea ▸ z)) (fun k kx z => z) hz
end
end PL
set_option Elab.async false
set_option linter.all false
set_option maxRecDepth 100000
set_option maxHeartbeats 4000000
namespace PL
open PySem L2
section
variable {ds : List D} {kd : KD} {kx : KX} {ss : List (List Nat)} {ps : Prs} {v : List Nat} {Γ : Ga} {ta tb : TP}
local instance : Tabl := ⟨[], fun p hp => absurd hp (by simp)⟩
theorem ev_all {bs : List Bool} {t : TP} (h : Ev t Γ (.lst (bs.map .bl))) : Ev (tp1 fAll t) Γ (.bl (bs.all id)) := ev_1 h fun k z => by
  show onBs (bs.map D.bl) _
  rw [onBs_map]
  exact z
abbrev hG (ss : List (List Nat)) (ps : Prs) (v : List Nat) (W : List Blk) (fo : List D) (s4 s5 s6 s7 s8 s9 : Sl) : Ga := [.pu (modD (.free ss ps)), .pu (.str v), .ow (.lst (W.map blkD)), .ow (.lst fo), s4, s5, s6, s7, s8, s9]
end
end PL
set_option Elab.async false
set_option linter.all false
set_option maxRecDepth 100000
set_option maxHeartbeats 4000000
namespace PL
open PySem L2
section
variable {ds : List D} {kd : KD} {kx : KX} {Γ : Ga} {t : TP} {tl : TL} {es : List D} {d : D} {l i n : Nat} {nm : PySem.Str} {K : Ks} {CC : Addr} {m : KindM}
local instance : Tabl := ⟨[], fun p hp => absurd hp (by simp)⟩
theorem flat_signs : ∀ l : List Nat, (l.map fun c => [c]).flatten = l
  | [] => rfl
  | c :: l => by rw [List.map_cons, List.flatten_cons, flat_signs l]; rfl
end
end PL
set_option Elab.async false
set_option linter.all false
set_option maxRecDepth 100000
set_option maxHeartbeats 4000000
namespace PL
open PySem L2 PyProof.Rows
end PL
set_option Elab.async false
set_option linter.all false
set_option maxRecDepth 100000
set_option maxHeartbeats 4000000
namespace PL
open PySem L2
end PL
set_option Elab.async false
set_option linter.all false
set_option maxRecDepth 100000
set_option maxHeartbeats 4000000
namespace PL
open PySem L2
section
variable {ds : List D} {kd : KD} {kx : KX} {C CF CC CX : Addr} {ss : List (List Nat)} {ps : Prs} {Γ : Ga} {t ta tb : TP} {tl : TL} {d x y : D} {n : Nat}
local instance : Tabl := ⟨[], fun p hp => absurd hp (by simp)⟩
theorem ev_and {b c : Bool} (h : Ev ta Γ (.bl b)) (g : b = true → Ev tb Γ (.bl c)) (e : b = false → c = false) : Ev (tpAnd ta tb) Γ (.bl c) := fun k kx z => h _ _ (by
  cases b
  · rw [e rfl] at z
    exact z
  · exact g rfl _ _ z)
end
end PL
set_option Elab.async false
set_option linter.all false
set_option maxRecDepth 100000
set_option maxHeartbeats 4000000
set_option Elab.async false
set_option linter.all false
set_option maxRecDepth 100000
set_option maxHeartbeats 4000000
namespace PL
open PySem L2
abbrev REP : List Nat := [114, 101, 112, 101, 97, 116]
abbrev MID : List Nat := [109, 105, 100, 100, 108, 101]
abbrev AGN : List Nat := [97, 103, 97, 105, 110]
abbrev LAT : List Nat := [108, 97, 116, 101, 114]
abbrev nD (n : Nat) : D := .int (n : Nat)
section
variable {ds : List D} {kd : KD} {kx : KX} {C CF CC CX : Addr} {ss : List (List Nat)} {ps : Prs} {Γ : Ga} {t ta tb : TP} {tl : TL} {d x y : D} {n : Nat}
local instance : Tabl := ⟨[], fun p hp => absurd hp (by simp)⟩
/-- a step that cuts, and the log behind it -/
inductive Way : KindM → List Nat → D → List Nat → Prop
  | rep {ss : List (List Nat)} {ps : Prs} {p u q : List Nat} {s : Nat} : u ≠ [] → (∀ c ∈ u, ownF ss c = s) → Way (.free ss ps) (p ++ (u ++ (u ++ q))) (.tup [.str REP, nD p.length, nD u.length]) (p ++ (u ++ q))
  | mid {ss : List (List Nat)} {ps : Prs} {p u m w q : List Nat} {s : Nat} : u ≠ [] → m ≠ [] → w ≠ [] → (∀ c, c ∈ u ↔ c ∈ w) → (∀ c ∈ m, c ∈ u) → (∀ c ∈ u, ownF ss c = s) →
      Way (.free ss ps) (p ++ (u ++ (m ++ (w ++ q)))) (.tup [.str MID, nD p.length, nD u.length, nD m.length, nD w.length]) (p ++ (u ++ (w ++ q)))
  | agn {s p q : List Nat} {c : Nat} : c ∈ p → Way (.first s) (p ++ (c :: q)) (.tup [.str AGN, nD p.length]) (p ++ q)
  | lat {s p q : List Nat} {c : Nat} : c ∈ q → Way (.last s) (p ++ (c :: q)) (.tup [.str LAT, nD p.length]) (p ++ q)
theorem Way.tup {m : KindM} {v w : List Nat} {st : D} (h : Way m v st w) : ∃ a b r, st = .tup (a :: b :: r) := by
  cases h <;> exact ⟨_, _, _, rfl⟩
end
end PL
set_option Elab.async false
set_option linter.all false
set_option maxRecDepth 100000
set_option maxHeartbeats 4000000
namespace PL
open PySem L2
section
variable {ds : List D} {kd : KD} {kx : KX} {Γ : Ga} {t ta tb : TP} {d x y : D} {n : Nat}
local instance : Tabl := ⟨[], fun p hp => absurd hp (by simp)⟩
end
end PL
set_option Elab.async false
set_option linter.all false
set_option maxRecDepth 100000
set_option maxHeartbeats 4000000
namespace PL
open PySem L2
section
variable {ds : List D} {kd : KD} {kx : KX} {Γ : Ga} {t ta tb : TP} {d x y : D} {n : Nat}
local instance : Tabl := ⟨[], fun p hp => absurd hp (by simp)⟩
end
end PL
set_option Elab.async false
set_option linter.all false
set_option maxRecDepth 100000
set_option maxHeartbeats 4000000
namespace PL
open PySem L2
end PL
set_option Elab.async false
set_option linter.all false
set_option maxRecDepth 100000
set_option maxHeartbeats 4000000
namespace PL
open PySem L2
end PL
set_option Elab.async false
set_option linter.all false
set_option maxRecDepth 100000
set_option maxHeartbeats 4000000
namespace PL
open PySem L2
def one (ss : List (List Nat)) (u : List Nat) : Bool := decide (∀ d ∈ u, ∀ e ∈ u, ownF ss d = ownF ss e)
section
variable {ds : List D} {kd : KD} {kx : KX} {C CF CC CX : Addr} {ss : List (List Nat)} {ps : Prs} {Γ : Ga} {t ta tb tc : TP} {tl : TL} {d x y : D} {n : Nat} {cb : TB} {P : PEn} {u s r : TSp} {b : Bool}
local instance : Tabl := ⟨[], fun p hp => absurd hp (by simp)⟩
theorem st_ifB (h : EvB cb Γ b) (ht : b = true → s { P with nx := u P } Γ) (hf : b = false → r { P with nx := u P } Γ) : tsSeq (tsIf cb s r) u P Γ := by
  cases b
  · exact st_ifF h (hf rfl)
  · exact st_ifT h (ht rfl)
theorem st_if1B (h : EvB cb Γ b) (ht : b = true → s P Γ) (hf : b = false → r P Γ) : tsIf cb s r P Γ := by
  cases b
  · exact st_if1F h (hf rfl)
  · exact st_if1T h (ht rfl)
theorem st_ifNB (h : EvB cb Γ b) (ht : b = true → s { P with nx := u P } Γ) (hf : b = false → u P Γ) : tsSeq (tsIf cb s tsNext) u P Γ := st_ifB h ht hf
theorem ev_ifB {e : D} (h : EvB cb Γ b) (ht : b = true → Ev ta Γ d) (hf : b = false → Ev tb Γ e) : Ev (tpIf cb ta tb) Γ (if b = true then d else e) := by
  cases b
  · exact ev_ifF h (hf rfl)
  · exact ev_ifT h (ht rfl)
theorem ev_gtI {a b : Int} (h : Ev ta Γ (.int a)) (g : Ev tb Γ (.int b)) : Ev (tpOp fGt ta tb) Γ (.bl (decide (b < a))) := ev_op h g fun k z => z
theorem ev_ltI {a b : Int} (h : Ev ta Γ (.int a)) (g : Ev tb Γ (.int b)) : Ev (tpOp fLt ta tb) Γ (.bl (decide (a < b))) := ev_op h g fun k z => z
theorem ev_leI {a b : Int} (h : Ev ta Γ (.int a)) (g : Ev tb Γ (.int b)) : Ev (tpOp fLe ta tb) Γ (.bl (decide (a ≤ b))) := ev_op h g fun k z => z
theorem ev_inS {c : Nat} {l : List Nat} (h : Ev ta Γ (.str [c])) (g : Ev tb Γ (.str l)) : Ev (tpOp fInS ta tb) Γ (.bl (decide (c ∈ l))) := ev_op h g fun k z => z
end
end PL
set_option Elab.async false
set_option linter.all false
set_option maxRecDepth 100000
set_option maxHeartbeats 4000000
namespace PL
open PySem L2
section
variable {ds : List D} {kd : KD} {kx : KX} {C CF CC CX : Addr} {ss : List (List Nat)} {ps : Prs} {Γ : Ga} {t ta tb tc : TP} {tl : TL} {d x y : D} {n : Nat} {cb : TB} {P : PEn} {u s r : TSp} {b : Bool} {K : Ks}
local instance : Tabl := ⟨[], fun p hp => absurd hp (by simp)⟩
end
end PL
set_option Elab.async false
set_option linter.all false
set_option maxRecDepth 100000
set_option maxHeartbeats 4000000
namespace PL
open PySem L2
section
variable {ds : List D} {kd : KD} {kx : KX} {C CF CC CX : Addr} {ss : List (List Nat)} {ps : Prs} {Γ : Ga} {t ta tb tc : TP} {tl : TL} {d x y : D} {n : Nat} {cb : TB} {P : PEn} {u s r : TSp} {b : Bool} {K : Ks}
local instance : Tabl := ⟨[], fun p hp => absurd hp (by simp)⟩
end
end PL
set_option Elab.async false
set_option linter.all false
set_option maxRecDepth 100000
set_option maxHeartbeats 4000000
namespace PL
open PySem L2
def EvN (t : TP) (Γ : Ga) (A : D → Prop) : Prop := ∀ (k : KD) (kx : KX), (∀ d, A d → k d) → t Γ k kx
def EvNL (t : TL) (Γ : Ga) (A : List D → Prop) : Prop := ∀ (k : List D → Prop) (kx : KX), (∀ d, A d → k d) → t Γ k kx
section
local instance : Tabl := ⟨[], fun p hp => absurd hp (by simp)⟩
variable {Γ Γ' : Ga} {t ta tb : TP} {tl : TL} {d x y : D} {ds : List D} {i j n : Nat} {P : PEn} {u s r : TSp} {b c : Bool} {cb cc : TB} {A B C : D → Prop} {L M : List D → Prop}
theorem evn (h : Ev t Γ d) : EvN t Γ (· = d) := fun k kx z => h k kx (z d rfl)
theorem evn_imp (h : EvN t Γ A) (g : ∀ d, A d → B d) : EvN t Γ B := fun k kx z => h k kx fun d q => z d (g d q)
theorem evnl (h : EvL tl Γ ds) : EvNL tl Γ (· = ds) := fun k kx z => h k kx (z ds rfl)
theorem evnl_nil : EvNL tlNil Γ (· = []) := fun k kx z => z [] rfl
theorem evnl_cons (h : EvN t Γ A) (g : EvNL tl Γ L) : EvNL (tlCons t tl) Γ (fun l => ∃ d ds, A d ∧ L ds ∧ l = d :: ds) := fun k kx z => h _ _ fun d hd => g _ _ fun ds hs => z _ ⟨d, ds, hd, hs, rfl⟩
theorem evn_lst (h : EvNL tl Γ L) (hl : ∀ ds, L ds → ds.length ≤ 100000) : EvN (tpLst tl) Γ (fun d => ∃ ds, L ds ∧ d = .lst ds) := fun k kx z => h _ _ fun ds hs => ⟨hl ds hs, z _ ⟨ds, hs, rfl⟩⟩
theorem evn_tup (h : EvNL tl Γ L) (hl : ∀ ds, L ds → ds.length ≤ 100000) : EvN (tpTup tl) Γ (fun d => ∃ ds, L ds ∧ d = .tup ds) := fun k kx z => h _ _ fun ds hs => ⟨hl ds hs, z _ ⟨ds, hs, rfl⟩⟩
theorem evn_call {f : FS} (h : EvNL tl Γ L) (hf : ∀ ds, L ds → ds.length = n ∧ ∀ (k : KD) (kx : KX), (∀ d, A d → k d) → f ds k kx) : EvN (tpCall n f tl) Γ A := fun k kx z => h _ _ fun ds hs => ⟨(hf ds hs).1, (hf ds hs).2 k kx z⟩
theorem evn_op {f : F2} (h : EvN ta Γ A) (g : EvN tb Γ B) (hf : ∀ x y, A x → B y → ∀ k : KD, (∀ d, C d → k d) → f x y k) : EvN (tpOp f ta tb) Γ C := fun k kx z => h _ _ fun x hx => g _ _ fun y hy => hf x y hx hy k z
theorem st_setN (h : EvN t Γ A) (g : ∀ d, A d → u P (gset Γ i (.pu d))) : tsSeq (tsSet i t) u P Γ := h _ _ g
theorem st_retN (h : EvN t Γ A) (g : ∀ d, A d → P.rt d Γ) : tsRet t P Γ := h _ _ g
theorem st_set1N (h : EvN t Γ A) (g : ∀ d, A d → P.nx (gset Γ i (.pu d))) : tsSet i t P Γ := h _ _ g
theorem evn_pull {m : Int} (h : Ev tb Γ .bag) (g : Ev t Γ (.int m)) (m1 : 1 ≤ m) (m2 : m < 1073741824) : EvN (tpCall 2 fsPull (tlCons tb (tlCons t tlNil))) Γ (fun d => ∃ r : Int, 0 ≤ r ∧ r < m ∧ d = .int r) := evn_call (evnl (evl_2 h g)) fun ds e => by
  subst e
  exact ⟨rfl, fun k kx z => ⟨⟨m1, m2⟩, fun r r1 r2 => z _ ⟨r, r1, r2, rfl⟩⟩⟩
theorem evn_pick {l : List D} (h : Ev tb Γ .bag) (g : Ev t Γ (.lst l)) (n0 : l ≠ []) (nz : l.length ≤ 100000) : EvN (tpCall 2 fsPick (tlCons tb (tlCons t tlNil))) Γ (· ∈ l) := evn_call (evnl (evl_2 h g)) fun ds e => by
  subst e
  exact ⟨rfl, fun k kx z => ⟨⟨n0, nz⟩, z⟩⟩
theorem evn_pickN (h : Ev tb Γ .bag) (g : EvN t Γ A) (n0 : ∀ d, A d → ∃ l, d = .lst l ∧ l ≠ [] ∧ l.length ≤ 100000 ∧ ∀ x ∈ l, B x) : EvN (tpCall 2 fsPick (tlCons tb (tlCons t tlNil))) Γ B := evn_call (evnl_cons (evn h) (evnl_cons g evnl_nil)) fun ds e => by
  obtain ⟨_, _, rfl, ⟨d, _, hd, rfl, rfl⟩, rfl⟩ := e
  obtain ⟨l, rfl, l0, lz, hl⟩ := n0 d hd
  exact ⟨rfl, fun k kx z => ⟨⟨l0, lz⟩, fun x hx => z x (hl x hx)⟩⟩
theorem evn_pickS {l : List Nat} (h : Ev tb Γ .bag) (g : Ev t Γ (.str l)) (n0 : l ≠ []) (nz : l.length ≤ 100000) : EvN (tpCall 2 fsPick (tlCons tb (tlCons t tlNil))) Γ (fun d => ∃ c ∈ l, d = .str [c]) := evn_call (evnl (evl_2 h g)) fun ds e => by
  subst e
  exact ⟨rfl, fun k kx z => ⟨⟨n0, nz⟩, fun c hc => z _ ⟨c, hc, rfl⟩⟩⟩
theorem evn_lc {is : List Nat} {ti : TL} {te : TP} (h : EvNL ti Γ L) (hl : ∀ ds, L ds → ds.length ≤ 100000) (he : ∀ x, EvN te (gset (wipeG Γ is) i (.pu x)) B) : EvN (tpLc is ti (tgName i) tbYes te) Γ (fun d => ∃ items ys, L items ∧ ys.length = items.length ∧ (∀ y ∈ ys, B y) ∧ d = .lst ys) := fun k kx z => h _ _ fun ds hs => by
  refine ⟨hl ds hs, ?_⟩
  have go : ∀ (items : List D) {k : List D → Prop}, (∀ ys : List D, ys.length = items.length → (∀ y ∈ ys, B y) → k ys) → lcW (tgName i) tbYes te (wipeG Γ is) items k := by
    intro items
    induction items with
    | nil => exact fun h => h [] rfl fun _ z => nomatch z
    | cons x r ih =>
      intro k hx
      refine he x _ _ fun d hd => ih fun ys h1 h2 => hx (d :: ys) (by simp [h1]) fun y hy => ?_
      rcases List.mem_cons.mp hy with rfl | hy
      · exact hd
      · exact h2 y hy
  exact go ds fun ys h1 h2 => z _ ⟨ds, ys, hs, h1, h2, rfl⟩
end
end PL
set_option Elab.async false
set_option linter.all false
set_option maxRecDepth 100000
set_option maxHeartbeats 4000000
namespace PL
open PySem L2
section
variable {ds : List D} {kd : KD} {kx : KX} {C CF CC CX : Addr} {ss : List (List Nat)} {ps : Prs} {Γ : Ga} {t ta tb tc : TP} {tl : TL} {d x y : D} {n : Nat} {cb : TB} {P : PEn} {u s r : TSp} {b : Bool} {K : Ks}
local instance : Tabl := ⟨[], fun p hp => absurd hp (by simp)⟩
end
end PL
set_option Elab.async false
set_option linter.all false
set_option maxRecDepth 100000
set_option maxHeartbeats 4000000
namespace PL
open PySem L2
end PL
set_option Elab.async false
set_option linter.all false
set_option maxRecDepth 100000
set_option maxHeartbeats 4000000
namespace PL
open PySem L2
/-- the expression raises x -/
def EvX (t : TP) (Γ : Ga) (x : XD) : Prop := ∀ (k : KD) (kx : KX), kx x → t Γ k kx
section
local instance : Tabl := ⟨[], fun p hp => absurd hp (by simp)⟩
variable {Γ : Ga} {t ta tb : TP} {tl : TL} {d : D} {ds : List D} {i n : Nat} {KK : PySem.W.Frag} {C0 C1 C2 C3 C4 C5 C6 C7 C8 C9 C10 C11 : Addr} {CX : Addr} {T : List Nat} {x : XD} {nm : PySem.Str}
end
end PL
set_option Elab.async false
set_option linter.all false
set_option maxRecDepth 100000
set_option maxHeartbeats 4000000
namespace PL
open PySem L2
end PL
set_option Elab.async false
set_option linter.all false
set_option maxRecDepth 100000
set_option maxHeartbeats 4000000
namespace PL
open PySem L2
section
variable {ds : List D} {kd : KD} {kx : KX} {Γ : Ga} {t ta tb : TP} {d x y : D} {n : Nat}
local instance : Tabl := ⟨[], fun p hp => absurd hp (by simp)⟩
variable {P : PEn} {s r : TSp}
end
end PL
set_option Elab.async false
set_option linter.all false
set_option maxRecDepth 100000
set_option maxHeartbeats 4000000
namespace PL
open PySem L2
section
variable {ds : List D} {kd : KD} {kx : KX} {C CF CC CX : Addr} {ss : List (List Nat)} {ps : Prs} {Γ : Ga} {t ta tb tc : TP} {tl : TL} {d x y : D} {n : Nat} {cb : TB} {P : PEn} {u s r : TSp} {b : Bool} {K : Ks}
local instance : Tabl := ⟨[], fun p hp => absurd hp (by simp)⟩
end
end PL
set_option Elab.async false
set_option linter.all false
set_option maxRecDepth 100000
set_option maxHeartbeats 4000000
namespace PL
open PySem L2
section
variable {Γ : Ga} {t ta tb : TP} {ts : List TP} {s : List Nat} {ss : List (List Nat)} {i : Int} {d : D} {cs : List (Addr × Bool)} {C : Addr} {fs : List (PySem.Str × D)} {b : Bool}
local instance : Tabl := ⟨[], fun p hp => absurd hp (by simp)⟩
theorem ev_fmtS (h : Ev t Γ (.str s)) (hz : s.length ≤ sizeLine) : Ev (tpFmt t) Γ (.str s) := fun k kx z => h _ _ ⟨hz, z⟩
theorem ev_fmtI (h : Ev t Γ (.int i)) (hz : i.natAbs.log2 < 1920) : Ev (tpFmt t) Γ (.str (intS i)) := fun k kx z => h _ _ ⟨hz, z⟩
inductive EvJ (Γ : Ga) : List TP → List (List Nat) → Prop where
  | nil : EvJ Γ [] []
  | cons {t : TP} {s : List Nat} {ts : List TP} {ss : List (List Nat)} (h : Ev t Γ (.str s)) (r : EvJ Γ ts ss) : EvJ Γ (t :: ts) (s :: ss)
theorem ev_js (h : EvJ Γ ts ss) : ∀ {acc : List Nat}, acc.length + ss.flatten.length ≤ sizeLine → Ev (tpJs ts acc) Γ (.str (acc ++ ss.flatten)) := by
  induction h with
  | nil => intro acc _ k kx z; rw [List.flatten_nil, List.append_nil] at z; exact z
  | @cons t s ts ss h r ih =>
    intro acc hz k kx z
    rw [List.flatten_cons, List.length_append] at hz
    refine h _ _ ⟨by omega, ?_⟩
    refine ih (acc := acc ++ s) (by rw [List.length_append]; omega) k kx ?_
    rw [List.flatten_cons, ← List.append_assoc] at z
    exact z
theorem ev_js0 (h : EvJ Γ ts ss) (hz : ss.flatten.length ≤ sizeLine) : Ev (tpJs ts []) Γ (.str ss.flatten) := by
  have := ev_js h (acc := []) (by simpa using hz)
  rwa [List.nil_append] at this
theorem ev_joinW {w : List Nat} {l : List (List Nat)} (h : Ev t Γ (.lst (l.map .str))) (hz : l.flatten.length + l.length * w.length ≤ 16777216) : Ev (tpJoin (tpC (.str w)) t) Γ (.str (TL.joinL w l)) := fun k kx z => h _ _ (by
  show onSs (l.map D.str) _
  rw [onSs_map]
  refine ⟨?_, z⟩
  show (l.map (·.length)).sum + l.length * w.length ≤ 16777216
  rw [← List.length_flatten]
  exact hz)
end
section
variable {ds : List D} {kd : KD} {kx : KX} {C CF CC CX CG : Addr} {ss : List (List Nat)} {ps : Prs} {Γ : Ga} {t ta tb tc : TP} {tl : TL} {d x y : D} {n : Nat} {cb : TB} {P : PEn} {u s r : TSp} {b : Bool} {K : Ks} {m : KindM}
local instance : Tabl := ⟨[], fun p hp => absurd hp (by simp)⟩
end
end PL
set_option Elab.async false
set_option linter.all false
set_option maxRecDepth 100000
set_option maxHeartbeats 4000000
namespace PL
open PySem L2
section
variable {ds : List D} {kd : KD} {kx : KX} {C CF CC CX CG : Addr} {ss : List (List Nat)} {ps : Prs} {Γ : Ga} {t ta tb tc tj : TP} {tl : TL} {d e x y : D} {n i : Nat} {cb : TB} {P : PEn} {s r : TSp} {b : Bool} {K : Ks} {m : KindM} {u v w : List Nat}
local instance : Tabl := ⟨[], fun p hp => absurd hp (by simp)⟩
theorem rep_len (u : List Nat) (n : Nat) : (List.replicate n u).flatten.length = n * u.length := by simp [List.length_flatten]
end
end PL
set_option Elab.async false
set_option linter.all false
set_option maxRecDepth 100000
set_option maxHeartbeats 4000000
namespace PL
open PySem L2
section
variable {ds : List D} {kd : KD} {kx : KX} {Γ : Ga} {tl : TL} {i n : Nat} {ta tb : TP}
local instance : Tabl := ⟨[], fun p hp => absurd hp (by simp)⟩
theorem ev_mulL {xs : List D} {n : Int} (h : Ev ta Γ (.lst xs)) (g : Ev tb Γ (.int n)) (h1 : n < 2 ^ 60) (h2 : -(2 ^ 60) < n) (h3 : xs.length * n.toNat ≤ sizeLine) : Ev (tpOp fMul ta tb) Γ (.lst (List.replicate n.toNat xs).flatten) := ev_op h g fun k z => ⟨h1, h2, h3, z⟩
end
end PL
set_option Elab.async false
set_option linter.all false
set_option maxRecDepth 100000
set_option maxHeartbeats 4000000
namespace PL
open PySem L2
end PL
set_option Elab.async false
set_option linter.all false
set_option maxRecDepth 100000
set_option maxHeartbeats 4000000
namespace PL
open PySem L2
end PL
set_option Elab.async false
set_option linter.all false
set_option maxRecDepth 100000
set_option maxHeartbeats 4000000
namespace PL
open PySem L2
section
variable {ds : List D} {kd : KD} {kx : KX} {C CF CC : Addr}
local instance : Tabl := ⟨[], fun p hp => absurd hp (by simp)⟩
end
end PL
set_option Elab.async false
set_option linter.all false
set_option maxRecDepth 100000
set_option maxHeartbeats 4000000
namespace PL
open PySem L2
section
variable {ds : List D} {kd : KD} {kx : KX} {C CF CC : Addr}
local instance : Tabl := ⟨[], fun p hp => absurd hp (by simp)⟩
end
end PL
set_option Elab.async false
set_option linter.all false
set_option maxRecDepth 100000
set_option maxHeartbeats 4000000
namespace PL
open PySem L2
section
variable {ds : List D} {kd : KD} {kx : KX} {C CF CC : Addr}
local instance : Tabl := ⟨[], fun p hp => absurd hp (by simp)⟩
end
end PL
set_option Elab.async false
set_option linter.all false
set_option maxRecDepth 100000
set_option maxHeartbeats 4000000
namespace PL
open PySem L2
section
variable {ds : List D} {kd : KD} {kx : KX} {C CF CC : Addr}
local instance : Tabl := ⟨[], fun p hp => absurd hp (by simp)⟩
end
end PL
set_option Elab.async false
set_option linter.all false
set_option maxRecDepth 100000
set_option maxHeartbeats 4000000
namespace PL
open PySem L2
variable [Tabl]
theorem OwnAt.h0 {K : PySem.W.Frag} {H0 H1 G H : Hp} {p : Addr} {l : List D} (h : OwnAt K H0 G H p (.lst l)) : OwnAt K H1 G H p (.lst l) := h
end PL
set_option Elab.async false
set_option linter.all false
set_option maxRecDepth 100000
set_option maxHeartbeats 4000000
namespace PL
open PySem L2
section
variable {ds : List D} {kd : KD} {kx : KX} {Γ : Ga} {t : TP} {tl : TL} {i n : Nat} {d : D} {P : PEn} {u : TSp}
local instance : Tabl := ⟨[], fun p hp => absurd hp (by simp)⟩
variable {ss : List (List Nat)} {ps : Prs}
end
end PL
set_option Elab.async false
set_option linter.all false
set_option maxRecDepth 100000
set_option maxHeartbeats 4000000
namespace PL
open PySem L2
def rl (ss : List (List Nat)) (ps : Prs) (v : List Nat) : Nat := (runB (apP ps) (ownF ss) v []).length
/-- a log of a free kind -/
def lgF (ss : List (List Nat)) (ps : Prs) (v : List Nat) : Prop := (KindM.free ss ps).ok ∧ v.length ≤ 3000 ∧ ∀ c ∈ v, c ∈ ss.flatten
section
variable {ds : List D} {kd : KD} {kx : KX} {C CF CC CT : Addr} {ss : List (List Nat)} {ps : Prs} {os : List Nat}
local instance : Tabl := ⟨[], fun p hp => absurd hp (by simp)⟩
variable {Γ : Ga} {tl : TL}
theorem lgF.own {v : List Nat} (h : lgF ss ps v) : ∀ c ∈ v, c ∈ deeds ss.flatten := fun c hc => (dL_mem h.1.1.letr c).mpr (h.2.2 c hc)
end
end PL
set_option Elab.async false
set_option linter.all false
set_option maxRecDepth 100000
set_option maxHeartbeats 4000000
namespace PL
open PySem L2
/-- more than two hundred blocks -/
def bigL : KindM → List Nat → Prop
  | .free ss ps, v => v.length ≤ 3000 ∧ (∀ c ∈ v, c ∈ ss.flatten) ∧ 200 < rl ss ps v
  | _, _ => False
section
variable {ds : List D} {kd : KD} {kx : KX} {C CF CC CX CG CT CL CN CD : Addr} {ss : List (List Nat)} {ps : Prs} {Γ : Ga} {t ta tb tc tj : TP} {tl : TL} {d e y : D} {x : XD} {n i : Nat} {cb : TB} {P : PEn} {r : TSp} {b : Bool} {K : Ks} {m : KindM} {u v w : List Nat}
local instance : Tabl := ⟨[], fun p hp => absurd hp (by simp)⟩
theorem bigL.al {m : KindM} (hm : m.ok) (h : bigL m v) : v.length ≤ 3000 ∧ ∀ c ∈ v, c ∈ m.al := by
  cases m with
  | free ss ps => exact ⟨h.1, fun c hc => (dL_mem hm.1.letr c).mpr (h.2.1 c hc)⟩
  | _ => exact h.elim
end
end PL
set_option Elab.async false
set_option linter.all false
set_option maxRecDepth 100000
set_option maxHeartbeats 4000000
namespace PL
open PySem L2
abbrev REPW : List Nat := [114, 101, 112, 101, 97, 116]
def plB (n : Int) : D → Bool
  | .int i => decide (0 ≤ i) && decide (i < n)
  | _ => false
/-- no step of any kind -/
structure Odd (w p : D) (zs : List D) : Prop where
  pw : D.plain w = true
  dw : D.dep w ≤ 64
  pz : D.plainL zs = true
  dz : D.depL zs ≤ 60
  tp : (tyD p).isSome = true
  tz : ∀ z ∈ zs, (tyD z).isSome = true
  lz : zs.length ≤ 1
  odd : (∀ s, w ≠ .str s) ∨ (∀ i, p ≠ .int i) ∨ (w = .str REPW ∧ ∃ z, zs = [z] ∧ ∀ i, z ≠ .int i)
section
variable {ds : List D} {kd : KD} {kx : KX} {C CF CC CX CG CT CL CN CD : Addr} {ss : List (List Nat)} {ps : Prs} {Γ : Ga} {t ta tb tc tj : TP} {tl : TL} {d e y w p : D} {zs : List D} {x : XD} {n i : Nat} {cb : TB} {P : PEn} {r : TSp} {b : Bool} {K : Ks} {m : KindM} {u v : List Nat}
local instance : Tabl := ⟨[], fun p hp => absurd hp (by simp)⟩
theorem eq_ns {s : List Nat} (h : ∀ s, w ≠ .str s) : eqD w (.str s) = false := by
  cases w with
  | str s => exact absurd rfl (h s)
  | _ => rfl
theorem pl_ni {n : Int} (h : ∀ i, p ≠ .int i) : plB n p = false := by
  cases p with
  | int i => exact absurd rfl (h i)
  | _ => rfl
theorem Odd.one {s : List Nat} {n : Int} (o : Odd w p zs) (hs : REPW ≠ s) : eqD w (.str s) = false ∨ plB n p = false := by
  rcases o.odd with h | h | ⟨rfl, _⟩
  · exact .inl (eq_ns h)
  · exact .inr (pl_ni h)
  · exact .inl (by rw [eqD_str]; exact decide_eq_false hs)
end
end PL
set_option Elab.async false
set_option linter.all false
set_option maxRecDepth 100000
set_option maxHeartbeats 4000000
namespace PL
open PySem L2
abbrev DDS : List Nat := [100, 101, 101, 100, 115]
abbrev tD (v : List Nat) : D := .tup [.str DDS, .str v]
section
variable {ds : List D} {kd : KD} {kx : KX} {CC CG : Addr} {Γ : Ga} {t ta tb : TP} {tl : TL} {d e : D} {n i : Nat} {P : PEn} {K : Ks} {m : KindM} {u v w : List Nat}
local instance : Tabl := ⟨[], fun p hp => absurd hp (by simp)⟩
theorem ev_not0 {b : Bool} (h : Ev t Γ (.bl b)) : Ev (tpNot t) Γ (.bl (!b)) := fun k kx z => h _ _ z
end
end PL
set_option Elab.async false
set_option linter.all false
set_option maxRecDepth 100000
set_option maxHeartbeats 4000000
namespace PL
open PySem L2
/-- trees -/
inductive Tr where
  | dd (v : List Nat)
  | nm (s : List Nat)
  | th (ps : List Tr)
  | ei (ps : List Tr)
  | ti (t : Tr) (n : Nat)
  | ag (t : Tr)
abbrev wNAM : List Nat := [110, 97, 109, 101]
abbrev wTHE : List Nat := [116, 104, 101, 110]
abbrev wEIT : List Nat := [101, 105, 116, 104, 101, 114]
abbrev wTIM : List Nat := [116, 105, 109, 101, 115]
abbrev wAGA : List Nat := [97, 103, 97, 105, 110]
def Tr.w : Tr → List Nat
  | .dd _ => DDS
  | .nm _ => wNAM
  | .th _ => wTHE
  | .ei _ => wEIT
  | .ti _ _ => wTIM
  | .ag _ => wAGA
mutual
def Tr.dat : Tr → D
  | .dd v => tD v
  | .nm s => .tup [.str wNAM, .str s]
  | .th ps => .tup (.str wTHE :: Tr.datL ps)
  | .ei ps => .tup (.str wEIT :: Tr.datL ps)
  | .ti t n => .tup [.str wTIM, Tr.dat t, .int (n : Nat)]
  | .ag t => .tup [.str wAGA, Tr.dat t]
def Tr.datL : List Tr → List D
  | [] => []
  | t :: r => Tr.dat t :: Tr.datL r
end
theorem datL_map : ∀ ps : List Tr, Tr.datL ps = ps.map Tr.dat
  | [] => rfl
  | t :: r => by
    rw [Tr.datL, datL_map r]
    rfl
def Tr.args : Tr → List D
  | .dd v => [.str v]
  | .nm s => [.str s]
  | .th ps => ps.map Tr.dat
  | .ei ps => ps.map Tr.dat
  | .ti t n => [t.dat, .int (n : Nat)]
  | .ag t => [t.dat]
theorem dat_eq (t : Tr) : t.dat = .tup (.str t.w :: t.args) := by
  cases t with
  | dd v => simp only [Tr.dat, Tr.w, Tr.args]
  | nm v => simp only [Tr.dat, Tr.w, Tr.args]
  | th ps => simp only [Tr.dat, Tr.w, Tr.args, datL_map]
  | ei ps => simp only [Tr.dat, Tr.w, Tr.args, datL_map]
  | ti t n => simp only [Tr.dat, Tr.w, Tr.args]
  | ag t => simp only [Tr.dat, Tr.w, Tr.args]
abbrev Env := List (List Nat × Tr)
abbrev kS (s : List Nat) : Key := .inr (SS s)
def Env.dat (env : Env) : D := .dct (env.map fun q => (kS q.1, q.2.dat))
def Env.ok (env : Env) : Prop := env.length ≤ 1000 ∧ ∀ q ∈ env, D.plain (.str q.1) = true
def NsOk (env : Env) (ns : List (List Nat)) : Prop := ns.Nodup ∧ ∀ s ∈ ns, ∃ t, env.lookup s = some t
/-- t is walked with so many calls -/
def Rk (env : Env) : Nat → Tr → Prop
  | 0, _ => False
  | _ + 1, .dd _ => True
  | n + 1, .nm s => ∃ t, env.lookup s = some t ∧ Rk env n t
  | n + 1, .th ps => ps.length ≤ 1000 ∧ ∀ p ∈ ps, Rk env n p
  | n + 1, .ei ps => ps.length ≤ 1000 ∧ ∀ p ∈ ps, Rk env n p
  | n + 1, .ti t _ => Rk env n t
  | n + 1, .ag t => Rk env n t
theorem Rk.mono {env : Env} : ∀ {n m : Nat} {t : Tr}, Rk env n t → n ≤ m → Rk env m t
  | n + 1, 0, _, h, e => by omega
  | n + 1, m + 1, .dd _, h, e => trivial
  | n + 1, m + 1, .nm s, ⟨t, h1, h2⟩, e => ⟨t, h1, h2.mono (by omega)⟩
  | n + 1, m + 1, .th ps, ⟨h1, h2⟩, e => ⟨h1, fun p hp => (h2 p hp).mono (by omega)⟩
  | n + 1, m + 1, .ei ps, ⟨h1, h2⟩, e => ⟨h1, fun p hp => (h2 p hp).mono (by omega)⟩
  | n + 1, m + 1, .ti t _, h, e => Rk.mono (t := t) h (by omega)
  | n + 1, m + 1, .ag t, h, e => Rk.mono (t := t) h (by omega)
theorem env_in : ∀ {env : Env} {s : List Nat} {t : Tr}, env.lookup s = some t → (s, t) ∈ env
  | [], _, _, h => by cases h
  | (a, u) :: r, s, t, h => by
    rw [List.lookup_cons] at h
    by_cases e : s = a
    · subst e
      rw [show (s == s) = true from beq_self_eq_true s] at h
      cases h
      exact List.mem_cons_self
    · rw [show (s == a) = false from beq_eq_false_iff_ne.mpr e] at h
      exact List.mem_cons_of_mem _ (env_in h)
theorem nodup_leL {α : Type} [DecidableEq α] : ∀ (a b : List α), a.Nodup → (∀ c ∈ a, c ∈ b) → a.length ≤ b.length
  | [], _, _, _ => Nat.zero_le _
  | x :: a, b, h, hs => by
    have hx := hs x List.mem_cons_self
    have h' := List.nodup_cons.mp h
    have := nodup_leL a (b.erase x) h'.2 fun c hc => (List.mem_erase_of_ne (fun z => h'.1 (by rw [← z]; exact hc))).mpr (hs c (List.mem_cons_of_mem _ hc))
    rw [List.length_erase_of_mem hx] at this
    have : 0 < b.length := List.length_pos_of_mem hx
    simp only [List.length_cons]
    omega
theorem NsOk.len {env : Env} {ns : List (List Nat)} (h : NsOk env ns) (he : env.ok) : ns.length ≤ 1000 := by
  have := nodup_leL ns (env.map (·.1)) h.1 fun s hs => by
    obtain ⟨t, ht⟩ := h.2 s hs
    exact List.mem_map.mpr ⟨_, env_in ht, rfl⟩
  rw [List.length_map] at this
  exact Nat.le_trans this he.1
theorem NsOk.nil {env : Env} : NsOk env [] := ⟨List.nodup_nil, fun _ z => nomatch z⟩
section
variable {ds : List D} {kd : KD} {ko : D → D → Prop} {kx : KX} {CC CG : Addr} {Γ : Ga} {t ta tb tc : TP} {tl : TL} {d e c c0 : D} {n i j : Nat} {P : PEn} {K : Ks} {m : KindM} {u v : List Nat} {tx ty : TX} {R S T : D → D → Prop} {s r : TSp} {cb : TB} {env : Env} {q : Tr} {b : Bool}
local instance : Tabl := ⟨[], fun p hp => absurd hp (by simp)⟩
theorem at0 {x : D} {l : List D} : atI (x :: l) 0 = some x := at_nat (x :: l) 0 (Nat.succ_pos _)
theorem at1 {x y : D} {l : List D} : atI (x :: y :: l) 1 = some y := at_nat (x :: y :: l) 1 (by simp)
theorem at2 {x y w : D} {l : List D} : atI (x :: y :: w :: l) 2 = some w := at_nat (x :: y :: w :: l) 2 (by simp)
theorem ev_w (h : Ev t Γ q.dat) : Ev (tpOp fIx t (tpC (.int 0))) Γ (.str q.w) := by
  rw [dat_eq] at h
  exact ev_ixT h (ev_c (.int 0)) at0
theorem w_plain (q : Tr) : D.plain (.str q.w) = true := by cases q <;> rfl
theorem ev_isW (h : Ev t Γ q.dat) {s : List Nat} (hs : D.plain (.str s) = true) (e : decide (q.w = s) = b) : Ev (tpOp fEq (tpOp fIx t (tpC (.int 0))) (tpC (.str s))) Γ (.bl b) := by
  rw [← e]
  exact ev_eqS (ev_w h) (ev_c _) (w_plain q) hs
theorem ev_1of {x : D} {l : List D} {s : List Nat} (h : Ev t Γ (.tup (.str s :: x :: l))) : Ev (tpOp fIx t (tpC (.int 1))) Γ x := ev_ixT h (ev_c (.int 1)) at1
theorem ev_2of {x y : D} {l : List D} {s : List Nat} (h : Ev t Γ (.tup (.str s :: x :: y :: l))) : Ev (tpOp fIx t (tpC (.int 2))) Γ y := ev_ixT h (ev_c (.int 2)) at2
end
end PL
set_option Elab.async false
set_option linter.all false
set_option maxRecDepth 100000
set_option maxHeartbeats 4000000
namespace PL
open PySem L2
/-- no choices in the tree itself -/
def Pn : Nat → Tr → Prop
  | 0, _ => False
  | _ + 1, .dd _ => True
  | _ + 1, .nm _ => True
  | n + 1, .th ps => ps.length ≤ 1000 ∧ ∀ p ∈ ps, Pn n p
  | n + 1, .ti t _ => Pn n t
  | _ + 1, _ => False
theorem Pn.mono : ∀ {n m : Nat} {t : Tr}, Pn n t → n ≤ m → Pn m t
  | n + 1, 0, _, h, e => by omega
  | n + 1, m + 1, .dd _, h, e => trivial
  | n + 1, m + 1, .nm s, h, e => trivial
  | n + 1, m + 1, .th ps, ⟨h1, h2⟩, e => ⟨h1, fun p hp => (h2 p hp).mono (by omega)⟩
  | n + 1, m + 1, .ei ps, h, e => h.elim
  | n + 1, m + 1, .ti t _, h, e => Pn.mono (t := t) h (by omega)
  | n + 1, m + 1, .ag t, h, e => h.elim
section
variable {ds : List D} {kd : KD} {ko : D → D → Prop} {kx : KX} {CC CG : Addr} {Γ : Ga} {t ta tb tc : TP} {tl : TL} {d e c c0 : D} {n i j : Nat} {P : PEn} {K : Ks} {m : KindM} {u v : List Nat} {tx ty : TX} {R S T : D → D → Prop} {s r : TSp} {cb : TB} {env : Env} {q : Tr} {b : Bool}
local instance : Tabl := ⟨[], fun p hp => absurd hp (by simp)⟩
end
end PL
set_option Elab.async false
set_option linter.all false
set_option maxRecDepth 100000
set_option maxHeartbeats 4000000
namespace PL
open PySem L2
section
variable {ds : List D} {kd : KD} {ko : D → D → Prop} {kx : KX} {CC CG : Addr} {Γ : Ga} {t ta tb tc : TP} {tl : TL} {d e c c0 : D} {n i j : Nat} {P : PEn} {K : Ks} {m : KindM} {u v w : List Nat} {tx ty : TX} {R S T : D → D → Prop} {s r : TSp} {cb : TB} {env : Env} {q : Tr} {b : Bool}
local instance : Tabl := ⟨[], fun p hp => absurd hp (by simp)⟩
theorem wh_no {cb : TB} {bb : TSp} {N : Nat} (h : EvB cb Γ false) (g : P.nx Γ) : whW cb bb P (N + 1) Γ := h _ _ (show (if false = true then _ else P.nx Γ) from g)
theorem wh_go2 {cb : TB} {bb : TSp} {N : Nat} (h : EvB cb Γ true) (g : bb { P with nx := whW cb bb P N, ct := whW cb bb P N, bk := P.nx } Γ) : whW cb bb P (N + 1) Γ := h _ _ g
theorem st_while {cb : TB} {bb : TSp} (N : Nat) (h : whW cb bb { P with nx := r P } N Γ) : tsSeq (tsWhile cb bb) r P Γ := ⟨N, h⟩
end
end PL
set_option Elab.async false
set_option linter.all false
set_option maxRecDepth 100000
set_option maxHeartbeats 4000000
namespace PL
open PySem L2 PyProof.Rows
end PL
set_option Elab.async false
set_option linter.all false
set_option maxRecDepth 100000
set_option maxHeartbeats 4000000
namespace PL
open PySem L2
def m_law_asked (K : PySem.W.Frag) (C_LogError C_InvalidDeed C_InvalidStore C_InvalidStand C_TooMany C_InvalidName C_DuplicateName C_WrongSort C_ForeignDeed C_Circular C_InUse C_Full C_InvalidLimit C_InvalidCommand C_InvalidPage C_UnknownName C_NothingLeft : Addr) (act : TP) : TSp :=
  (tsTry (tsRet (tpTup (tlCons (tpC (.str [])) (tlCons act tlNil))))
    [(fun cls => PySem.W.exmAny K cls [.ref C_InvalidName, .ref C_DuplicateName, .ref C_WrongSort, .ref C_Circular, .ref C_UnknownName], some 1, fun a cls d => (tsRet (tpTup (tlCons (tpXat K a cls d 1 "tag") (tlCons (tpXat K a cls d 1 "name") tlNil))))),
    (fun cls => PySem.W.exmAny K cls [.ref C_InvalidDeed, .ref C_InvalidStand, .ref C_InvalidLimit], some 1, fun a cls d => (tsRet (tpTup (tlCons (tpXat K a cls d 1 "tag") (tlCons (tpXat K a cls d 1 "given") tlNil))))),
    (fun cls => PySem.W.exmAny K cls [.ref C_InvalidStore, .ref C_InvalidCommand], some 1, fun a cls d => (tsRet (tpTup (tlCons (tpXat K a cls d 1 "tag") (tlCons (tpXat K a cls d 1 "index") tlNil))))),
    (fun cls => PySem.W.exmAny K cls [.ref C_TooMany, .ref C_Full], some 1, fun a cls d => (tsRet (tpTup (tlCons (tpXat K a cls d 1 "tag") (tlCons (tpXat K a cls d 1 "most") tlNil))))),
    (fun cls => PySem.W.exmOne K cls (.ref C_ForeignDeed), some 1, fun a cls d => (tsRet (tpTup (tlCons (tpXat K a cls d 1 "tag") (tlCons (tpXat K a cls d 1 "deed") tlNil))))),
    (fun cls => PySem.W.exmOne K cls (.ref C_InUse), some 1, fun a cls d => (tsRet (tpTup (tlCons (tpXat K a cls d 1 "tag") (tlCons (tpXat K a cls d 1 "user") tlNil))))),
    (fun cls => PySem.W.exmOne K cls (.ref C_InvalidPage), some 1, fun a cls d => (tsRet (tpTup (tlCons (tpXat K a cls d 1 "tag") (tlCons (tpXat K a cls d 1 "line") tlNil))))),
    (fun cls => PySem.W.exmAny K cls [.ref C_LogError, .ref C_NothingLeft], some 1, fun a cls d => (tsRet (tpTup (tlCons (tpXat K a cls d 1 "tag") (tlCons (tpC .non) tlNil)))))])
end PL
set_option Elab.async false
set_option linter.all false
set_option maxRecDepth 100000
set_option maxHeartbeats 4000000
namespace PySem
open Builtin PySem.Spec PyProof.Rows
theorem list_repr_headA {M : Model} {A : Around} {E : Value → Shared → Prop} {s : Shared} {Q : Fin → Shared → Prop} {a : Addr} {o : Obj} {x : Value} {l : List Value} {n : Nat} {b : Nat}
    (hget : s.heap.get? a = some o) (hd : o.data = .seq (x :: l).toArray n)
    (h0 : wpAny M A (do rule "list.__repr__.in-itself"; return ← retStr "[...]") Q E s)
    (h : wpAny M A (do again (.builtin "list.__repr__.loop" ⟨[.ref a, rawInt 0, ← newList [], rawInt b], []⟩)) Q E s) : wpAny M A (Builtin.listReprAt b ⟨[.ref a], []⟩) Q E s := by
  intro Γ p hΓ
  have h1 := h Γ p hΓ
  have h2 := h0 Γ p hΓ
  unfold Builtin.listReprAt
  simp [slotArgs, List.listItems, seqItems?, Sem.wp_load_of (h := hget), hd, stack]
  show Sem.wp M Γ (if (Γ.below.any _) = true then _ else _) _ _ p s
  split
  · exact h2
  · exact h1
section
variable {prog : Program} {w : World} {A : Around} {E : Value → Shared → Prop} {s : Shared} {a : Addr} {o : Obj} {y : PySem.Str} {ty : Tok} {n : Nat} {Q : Value → Shared → Prop}
theorem call_list_repr1 (ha : s.heap.get? a = some o) (hc : o.cls = .type "list") (hd : o.data = .seq #[.str y ty] n) (hsz : (reprText y).length + 10 ≤ sizeLine)
    (h : ∀ (m : PySem.Str) (h' : Heap) (u tk : Tok), m.length ≤ (reprText y).length + 10 → (∀ b o, s.heap.get? b = some o → h'.get? b = some o) → Q (.str m u) { s with heap := h', toks := tk }) :
    wpAny (model prog w) A (call (.builtin "list.__repr__") [.ref a]) Q E s := by
  have hl : (listText [reprText y]).length ≤ (reprText y).length + 10 := by
    show ((("[" : PySem.Str) ++ (if (0 : Nat) > 0 then ", " else "" : String) ++ reprText y) ++ "]").length ≤ _
    rw [strLen_append, strLen_append, strLen_append, if_neg (by decide)]
    have e1 : ((("[" : String) : PySem.Str)).length = 1 := rfl
    have e2 : ((("]" : String) : PySem.Str)).length = 1 := rfl
    have e3 : ((("" : String) : PySem.Str)).length = 0 := rfl
    omega
  refine wpAny_call (codeAny_call_builtin F.slot_list_repr.plain F.entry_list_repr (F.slot_list_repr.check _ _ _ _ _ _ _ _ ⟨o, ha, hc⟩ (F.args_list_repr_1 _) ?_))
  refine list_repr_headA (x := .str y ty) (l := []) ha hd ?_ ?_
  · refine wpAny_bind (wpAny_rule ?_)
    refine wpAny_bind (wpAny_mkStr (x := "[...]") (wpAny_pure ?_) (by decide +kernel))
    exact h "[...]" s.heap _ _ (Nat.le_trans (by decide +kernel : (("[...]" : String) : PySem.Str).length ≤ 10) (Nat.le_add_left _ _)) fun _ _ e => e
  · refine wpAny_bind (m := newList []) (wpAny_newObj_type ?_)
    refine wpAny_pure ⟨F.quiet_list_repr_loop _, ?_⟩
    refine codeAny_list_repr_start (P := s.heap.objs.size) (ts := [reprText y]) (items := #[.str y ty]) (Nat.ne_of_lt (Heap.lt_size ha)) rfl (fun i x hx => ?_) (Heap.get?_push_of_some _ ha) hd (Heap.get?_push_size _ rfl) (fun h' u tk hk => ?_) (by omega)
    · cases i with
      | zero =>
        cases hx
        exact ⟨_, rfl, ReprIs.str y ty (by omega)⟩
      | succ i => simp at hx
    · exact h _ h' u tk hl fun b o e => hk b o (Nat.ne_of_lt (Heap.lt_size e)) (Heap.get?_push_of_some _ e)
theorem str_list1 (hu : A.units + 5 < cLine) (ha : s.heap.get? a = some o) (hc : o.cls = .type "list") (hd : o.data = .seq #[.str y ty] n) (hsz : (reprText y).length + 10 ≤ sizeLine)
    (h : ∀ (m : PySem.Str) (h' : Heap) (u tk : Tok), m.length ≤ (reprText y).length + 10 → (∀ b o, s.heap.get? b = some o → h'.get? b = some o) → Q (.str m u) { s with heap := h', toks := tk }) :
    wpAny (model prog w) A (call (.type "str") [.ref a]) Q E s :=
  callType_new F.called_str (by decide) (F.typeCall_str_1 _) (F.newCall_str_1 _) (fun obj => F.args_object_init_2 obj _) F.entry_str_new
    (meets_str_new (S := fun A' R s' => A'.units + 4 < cLine ∧ s'.heap.get? a = some o ∧
        ∀ (m : PySem.Str) (h' : Heap) (u tk : Tok), m.length ≤ (reprText y).length + 10 → (∀ b o, s'.heap.get? b = some o → h'.get? b = some o) → R (.ok (.ret (.str m u))) { s' with heap := h', toks := tk })
      fun prog' w' A' R s' h => wpAny_strOf_slot (A := A'.in1) rfl (by show A'.units + 1 + 1 < cLine; have := h.1; omega) ⟨o, h.2.1, hc⟩ F.slot_list_str F.slot_list_repr.toG
        (call_list_repr1 h.2.1 hc hd hsz fun m h' u tk hm hk => ⟨m, u, rfl, h.2.2 m h' u tk hm hk⟩))
    ⟨by show A.units + 1 + 4 < cLine; omega, ha, fun m h' u tk hm hk => ⟨typeIs_str _ _ _, h m h' u tk hm hk⟩⟩
end
end PySem
namespace PL
open PySem PySem.Spec PyProof.Rows L2
def rStrAny (K : PySem.W.Frag) : List V → Hp → VK → Prop := fun xs H Q => (∃ y, xs = [.str y] ∧ Q (.str y) H) ∨ (xs = [.non] ∧ Q (.str "None") H) ∨ (∃ i, xs = [.int i] ∧ i.natAbs.log2 < 1920 ∧ Q (.str (toString i)) H) ∨
  (∃ a y, xs = [.ref a] ∧ SqL K H a [.str y] ∧ (∀ c ∈ y.cps.toList, c < 16 ^ 8) ∧ 10 * y.length + 20 ≤ sizeLine ∧ ∀ m : PySem.Str, m.length ≤ 10 * y.length + 20 → Q (.str m) H)
theorem call_str_any {X : Cx} {k : Nat} (hr : Room k X.A) : CallR X (.type "str") (rStrAny X.K) := by
  intro pins s σ H xs us Q I r h
  rcases h with ⟨y, rfl, q⟩ | ⟨rfl, q⟩ | ⟨i, rfl, hz, q⟩ | ⟨a, y, rfl, hs, hc, hz, q⟩
  · obtain ⟨u, rfl, t, rfl⟩ := vals1 r
    exact PySem.P.str_of_str ⟨.str y, H, I, ⟨t, rfl⟩, q⟩
  · obtain ⟨u, rfl, r1⟩ := vals1 r
    cases r1
    exact PySem.P.str_of_none ⟨.str _, H, I.tok _, ⟨_, rfl⟩, q⟩
  · obtain ⟨u, rfl, t, rfl⟩ := vals1 r
    exact PySem.P.str_of_int hz ⟨.str _, H, I.tok _, ⟨_, rfl⟩, q⟩
  · obtain ⟨u, rfl, r1⟩ := vals1 r
    cases r1
    obtain ⟨its, rv, pl, _⟩ := I.list hs
    obtain ⟨u, rfl, t, rfl⟩ := vals1 rv
    obtain ⟨o, n, ho, hcl, _, hd⟩ := pl
    have h1 := StrLaws.reprText_len y hc
    have hu := hr.units
    exact str_list1 (by omega) ho hcl hd (by omega) fun m h' u tk hm hk => ⟨.str m, H, I.kept hk, ⟨u, rfl⟩, q m (by omega)⟩
variable [Tabl]
def fStrAny : F1
  | .str s, k => k (.str s)
  | .non, k => k (.str [78, 111, 110, 101])
  | .int i, k => i.natAbs.log2 < 1920 ∧ k (.str (toString i : PySem.Str).cps.toList)
  | .lst [.str y], k => (∀ c ∈ y, c < 16 ^ 8) ∧ 10 * y.length + 20 ≤ sizeLine ∧ ∀ s : List Nat, s.length ≤ 10 * y.length + 20 → k (.str s)
  | _, _ => False
theorem ss_of (m : PySem.Str) : SS m.cps.toList = m := by
  unfold SS
  simp
theorem c_strAny {X : Cx} {k : Nat} (hr : Room k X.A) : CallR X (.type "str") (rStrAny X.K) ∧ RdC1 X.K (rStrAny X.K) fStrAny := by
  refine ⟨call_str_any hr, fun H0 G H v d k Q s n h hk => ?_⟩
  cases d with
  | str l =>
    cases n.str
    exact .inl ⟨SS l, rfl, hk _ _ _ _ h (Ext.refl s) (.str l)⟩
  | non => 
    have e : v = V.non := by
      rcases n with n | n
      · cases n; rfl
      · exact nomatch n
    exact .inr (.inl ⟨by rw [e], hk _ _ _ _ h (Ext.refl s) (.str _)⟩)
  | int i => 
    have e : v = V.int i := by
      rcases n with n | n
      · cases n; rfl
      · exact nomatch n
    refine .inr (.inr (.inl ⟨i, by rw [e], h.1, ?_⟩))
    have := hk _ _ _ _ h.2 (Ext.refl s) (.str _)
    rwa [ss_of] at this
  | lst xs =>
    match xs, h, n with
    | [.str y], h, n =>
      obtain ⟨a, vs, rfl, ha, hv⟩ := n.lst s
      cases hv with
      | cons h1 h2 =>
        cases h2
        cases h1
        obtain ⟨h1, h2, h3⟩ := h
        refine .inr (.inr (.inr ⟨a, SS y, rfl, SqL.of ha, ?_, ?_, fun m hm => ?_⟩))
        · intro c hc
          exact h1 c (by simpa [SS] using hc)
        · rw [ss_length]; exact h2
        · rw [ss_length] at hm
          have := hk _ _ _ _ (h3 m.cps.toList (by simpa [PySem.Str.length] using hm)) (Ext.refl s) (.str _)
          rwa [ss_of] at this
  | _ => exact h.elim
theorem p_strAny {X : Cx} {W : WX} {e : Expr} {t : TP} {k : Nat} {p pos : Pos} (hr : Room k X.A) (hm : X.mg "str" = none) (he : PU X W e t) (hg : Gl X "str" := by rfl)
    (h1 : starEach (e :: []) X.env = (false, eval e X.env) :: starEach [] X.env := by rfl) (h2 : (backTo pos (starEach [] X.env)).any (·.1) = false := by rfl) : PP X W (.Call (.Name "str" p) [e] [] pos) (tp1 fStrAny t) :=
  p_t1 (c_strAny hr) hm (by decide +kernel) he hg (by decide) (by decide) h1 h2
end PL
set_option Elab.async false
set_option linter.all false
set_option maxRecDepth 100000
set_option maxHeartbeats 4000000
namespace PL
open PySem PySem.Spec PyProof.Rows L2
end PL
set_option Elab.async false
set_option linter.all false
set_option maxRecDepth 100000
set_option maxHeartbeats 4000000
namespace PL
open PySem L2 PyProof.Rows
variable [Tabl]
abbrev TZ := Ga → (D → Ga → Prop) → (XD → Ga → Prop) → Prop
abbrev TBZ := Ga → (Bool → Ga → Prop) → (XD → Ga → Prop) → Prop
def RdZ (K : PySem.W.Frag) (W : WX) (te : TE) (t : TZ) : Prop := ∀ (G0 H0 : Hp) (Γ : Ga) (σ : L2.St) (G H : Hp) (k : D → Ga → Prop) (kx : XD → Ga → Prop) (Q : VK), Fr K G0 H0 Γ σ G H → t Γ k kx →
  (∀ d v Γ' G' H', k d Γ' → Fr K G0 H0 Γ' σ G' H' → Den K G' v d → Q v H') → (∀ x cls dA Γ' G' H', kx x Γ' → Fr K G0 H0 Γ' σ G' H' → XDen K G' H' cls dA x → W cls dA σ H') → te σ H Q
def RdBZ (K : PySem.W.Frag) (W : WX) (te : TT) (t : TBZ) : Prop := ∀ (G0 H0 : Hp) (Γ : Ga) (σ : L2.St) (G H : Hp) (k : Bool → Ga → Prop) (kx : XD → Ga → Prop) (Q : Bool → Hp → Prop), Fr K G0 H0 Γ σ G H → t Γ k kx →
  (∀ b Γ' G' H', k b Γ' → Fr K G0 H0 Γ' σ G' H' → Q b H') → (∀ x cls dA Γ' G' H', kx x Γ' → Fr K G0 H0 Γ' σ G' H' → XDen K G' H' cls dA x → W cls dA σ H') → te σ H Q
structure PZ (X : Cx) (W : WX) (e : Expr) (t : TZ) : Prop where
  ex : ∃ te, PE X e te ∧ RdZ X.K W te t
structure PBZ (X : Cx) (W : WX) (e : Expr) (t : TBZ) : Prop where
  ex : ∃ te, PT X e te ∧ RdBZ X.K W te t
/-- a method that changes its own instance -/
structure MtI (P : Program) (w : World) (K : PySem.W.Frag) (mg : PySem.Str → Option Value) (base : Heap) (C : Addr) (m : PySem.Str) (k n : Nat) (g : FSo) : Prop where
  c : Cls K C
  ex : ∃ f, Meth K C m f ∧ FnR P w K mg base (L2.CX P w) k f (spOi K (n + 1) g)
def tzMeth (i : Nat) (ms : List (Addr × FSo)) (m : PySem.Str) (n : Nat) (tl : TL) : TZ := fun Γ k kx => noKp Γ = true ∧ (onOI Γ i fun C fs => fs.lookup m = none ∧ ∃ g, (C, g) ∈ ms ∧ tl Γ (fun ds => ds.length = n ∧ g (.ins C fs :: ds) (fun d y => k d (oput Γ i y)) (fun z => kx z (gset Γ i .un))) (fun x => kx x Γ))
def tbzV (t : TZ) : TBZ := fun Γ k kx => t Γ (fun d Γ' => onB d fun b => k b Γ') kx
def tbzNot (t : TBZ) : TBZ := fun Γ k kx => t Γ (fun b Γ' => k (!b) Γ') kx
section
variable {X : Cx} {W : WX} {e a b c o : Expr} {es : List Expr} {t ta : TP} {tl : TL} {tz : TZ} {tb : TBZ} {m x y : PySem.Str} {pos apos p p2 : Pos} {k n j i : Nat} {ms : List (Addr × FSo)} {s u : TSp} {body els : List Stmt}
theorem read_meth {i : Nat} {G0 H0 G1 H1 : Hp} {Γ : Ga} {σ : L2.St} {K : PySem.W.Frag} {Q : VK} {C : Addr} {fs : List (PySem.Str × D)} {ds : List D} {vs : List V} {g : FSo} {k : D → Ga → Prop} {kx : XD → Ga → Prop} {q : Addr} (nk : noKp Γ = true) (hg : (gat Γ i).og = some (.ins C fs)) (e1 : σ[i]? = some (some (.ref q))) (F1 : Fr K G0 H0 Γ σ G1 H1) (n1 : DenL K G1 vs ds) (hl : ds.length = n) (hf : g (.ins C fs :: ds) (fun d y => k d (oput Γ i y)) (fun z => kx z (gset Γ i .un)))
    (hk : ∀ d v Γ' G' H', k d Γ' → Fr K G0 H0 Γ' σ G' H' → Den K G' v d → Q v H') (hx : ∀ x cls dA Γ' G' H', kx x Γ' → Fr K G0 H0 Γ' σ G' H' → XDen K G' H' cls dA x → W cls dA σ H') : spOi K (n + 1) g (.ref q :: vs) H1 Q (WE W σ) := by
  obtain ⟨hsl, q', e1', g1, h01, dx, fvs, q1, q2, q3, q4, q5⟩ := own_at F1 hg
  rw [e1] at e1'
  cases e1'
  have FH := F1.hole hsl (by cases e : gat Γ i <;> (rw [e] at hg; first | trivial | cases hg)) e1 g1 q3 h01 q4 q1 q2 nk
  have free : ∀ a, H1 a = none → H0 a = none := fun a z => F1.e.h.free z
  refine ⟨G1, .ins C fs :: ds, _, _, q, dx, C, fs, fvs, by rw [List.length_cons, n1.length, hl], by rw [List.length_cons, hl], F1.sub, g1, q3, rfl, rfl, q1, q2, q5, fun i v d hi hv hd => ?_, hf, fun d y v G' H' kk x gp o n => ?_, fun z cls dA G' H' kk x nz => ?_⟩
  · match i, hi with
    | i + 1, _ =>
      rw [List.getElem?_cons_succ] at hv hd
      obtain ⟨d', e', n'⟩ := n1.gv hv
      rw [hd] at e'
      cases e'
      exact n'
  · exact hk d v _ G' H' kk (F1.ret hsl hg e1 h01 (FH.up x) gp (o.base free h01 q4)) n
  · exact hx z cls dA _ G' H' kk (FH.up x) nz
theorem z_meth (i : Nat) (hm : ∀ q ∈ ms, MtI X.prog X.w X.K X.mg X.base q.1 m k n q.2) (hr : Room j X.A) (hj : k ≤ j) (tk : Takes X W) (ha : PL' X W (e :: es) tl) (hN : X.N[i]? = some x := by rfl) (hv : Vis X.env.scope x := by first | exact Or.inl rfl | exact Or.inr (Or.inl rfl) | exact Or.inr (Or.inr rfl)) (hd : (x == ("__debug__" : PySem.Str)) = false := by decide) (hcd : (x == ("__classdict__" : PySem.Str)) = false := by decide) {pl : Sem Bool}
    (hst : starEach (e :: es) X.env = (false, eval e X.env) :: starEach es X.env := by rfl) (hpl : (backTo pos (starEach es X.env)).any (·.1) = false := by rfl)
    (ht : eval (.Call (.Attribute (.Name x p) m apos) (e :: es) [] pos) X.env = (do
      let ov ← eval (.Name x p) X.env
      standAt apos.atName
      let (f, first) ← holding [ov] (getMethod ov m pl)
      callWith pos f first (backTo pos (starEach (e :: es) X.env)) (backToKw pos (keywordEach [] X.env))) := by rfl) : PZ X W (.Call (.Attribute (.Name x p) m apos) (e :: es) [] pos) (tzMeth i ms m n tl) := by
  obtain ⟨ea, pa, ra⟩ := ha.ex
  refine ⟨fun σ H Q => ∃ a C dx fvs fn g, σ[i]? = some (some (.ref a)) ∧ H a = some (.ins C dx fvs) ∧ fvs.lookup m = none ∧ Cls X.K C ∧ Meth X.K C m fn ∧ FnR X.prog X.w X.K X.mg X.base (L2.CX X.prog X.w) k fn (spOi X.K (n + 1) g) ∧ ea σ H fun vs H2 => spOi X.K (n + 1) g (.ref a :: vs) H2 Q (WE W σ), ⟨fun pins s σ H Q I h => ?_⟩, fun G0 H0 Γ σ G H kd kx Q F ht hk hx => ?_⟩
  · obtain ⟨a, C, dx, fvs, fn, g, hs, ea', l, c, mt, R, q⟩ := h
    refine PySem.W.methodCall_KW (pl := pl) (thn ((pe_var (pos := p) (i := i) hN hv hd hcd).run pins s σ H (fun v H1 => v = .ref a ∧ H1 = H) I ⟨.ref a, hs, rfl, rfl⟩) fun u s1 ⟨v, H1, I1, rx, ev, eH⟩ => ?_) ht
    subst ev
    subst eH
    obtain rfl : u = Value.ref a := rx
    refine getmeth_ok I1 ea' c mt l ?_
    refine PySem.W.callWith_K (first := [.ref a]) (h₀ := X.base) I.ok.mod.kin mt.kp (thn (pa.run pos pins s1 σ H1 _ I1 q) fun us s2 ⟨vs, H2, I2, r, q2⟩ => ⟨I2.kIn, ?_⟩) hst hpl
    exact wpAny_call (run_fnRS (us := .ref a :: us) (vs := .ref a :: vs) R (hr.mono hj) (passAt tk σ) I2 (.cons rfl r) q2)
  · obtain ⟨nk, ht⟩ := ht
    obtain ⟨C, fs, hg, hl, g, hmem, ht⟩ := onOI_elim ht
    obtain ⟨hsl, q, e1, g1, h01, dx0, fvs0, q1, q2, q3, q4, q5⟩ := own_at F hg
    have M := hm _ hmem
    obtain ⟨fn, mt, R⟩ := M.ex
    refine ⟨q, C, dx0, fvs0, fn, g, e1, q1, q5.no hl, M.c, mt, R, ?_⟩
    refine ra G0 H0 Γ σ G H _ _ _ F ht (fun ds vs G1 H1 k1 x1 n1 => ?_) (fun z cls dA G' H' kd ex dn => hx z cls dA Γ G' H' kd (F.up ex) dn)
    exact read_meth nk hg e1 (F.up x1) n1 k1.1 k1.2 hk hx
theorem bz_val (h : PZ X W e tz) (he : ∀ whole, isTrue e X.env whole = (do let v ← whole; standAt e.pos; holding [v] (truthy v)) := by intro _; rfl) : PBZ X W e (tbzV tz) := by
  obtain ⟨ea, pa, ra⟩ := h.ex
  refine ⟨_, pt_val pa he, fun G0 H0 Γ σ G H k kx Q F ht hk hx => ?_⟩
  refine ra G0 H0 Γ σ G H _ kx _ F ht (fun d1 v1 Γ1 G1 H1 k1 F1 n1 => ?_) hx
  obtain ⟨c, rfl, k1⟩ := onB_elim k1
  exact ⟨c, DenU.bl (.inl n1) (H0 := H0) (H := H1), hk _ Γ1 G1 H1 k1 F1⟩
theorem bz_not (ha : PBZ X W a tb) : PBZ X W (.UnaryOp .Not a pos) (tbzNot tb) := by
  obtain ⟨ea, pa, ra⟩ := ha.ex
  refine ⟨_, pt_not pa, fun G0 H0 Γ σ G H k kx Q F ht hk hx => ?_⟩
  exact ra G0 H0 Γ σ G H _ kx _ F ht (fun c Γ1 G1 H1 k1 x1 => hk _ Γ1 G1 H1 k1 x1) hx
def tsSetZ (i : Nat) (t : TZ) : TSp := fun P Γ => t Γ (fun d Γ' => P.nx (gset Γ' i (.pu d))) P.xx
def tsIfZ (t : TBZ) (a b : TSp) : TSp := fun P Γ => t Γ (fun c Γ' => if c = true then a P Γ' else b P Γ') P.xx
def whZ (c : TBZ) (b : TSp) (P : PEn) : Nat → Ga → Prop
  | 0, _ => False
  | m + 1, Γ => c Γ (fun r Γ' => if r = true then b { P with nx := whZ c b P m, ct := whZ c b P m, bk := P.nx } Γ' else P.nx Γ') P.xx
def tsWhileZ (c : TBZ) (b : TSp) : TSp := fun P Γ => ∃ m, whZ c b P m Γ
theorem s_setZ (i : Nat) {p2 : Pos} (h : PZ X W e tz) (nd : X.N.Nodup) (hi : X.N[i]? = some x := by rfl) (hx : Loc X.env.scope x := by first | exact Or.inl rfl | exact Or.inr rfl)
    (hf : X.fn x = true ∨ X.env.scope.names.lookup x = some .local := by first | exact .inl rfl | exact .inr rfl) (hs : swapsWith e (some (.Name x p2)) pos.line X.env = pure false := by rfl) : PS1 X W (.Assign [.Name x p2] e pos) (tsSetZ i tz) := by
  obtain ⟨ea, pa, ra⟩ := h.ex
  refine ⟨_, ps_set nd hi hx pa hs hf, fun G0 H0 Γ σ G H P E F ht ok => ?_⟩
  exact ra G0 H0 Γ σ G H _ _ _ F ht (fun d v Γ' G' H' k F' n => ok.nx _ _ G' H' k (F'.set i n)) (fun z cls dA Γ' G' H' kd F' dn => ok.xx z cls dA Γ' σ G' H' kd F' dn)
theorem s_ifZ (hc : PBZ X W c tb) (ha : PSS X W body s) (hb : PSS X W els u) : PS1 X W (.If c body els pos) (tsIfZ tb s u) := by
  obtain ⟨ec, pc, rc⟩ := hc.ex
  obtain ⟨ea, pa, ra⟩ := ha.ex
  obtain ⟨eb, pb, rb⟩ := hb.ex
  refine ⟨_, ps_if pc pa pb, fun G0 H0 Γ σ G H P E F ht ok => ?_⟩
  refine rc G0 H0 Γ σ G H _ _ _ F ht (fun c Γ1 G1 H1 k1 F1 => ?_) (fun z cls dA Γ' G' H' kd F' dn => ok.xx z cls dA Γ' σ G' H' kd F' dn)
  cases c with
  | true => exact ra G0 H0 Γ1 σ G1 H1 P E F1 k1 ok
  | false => exact rb G0 H0 Γ1 σ G1 H1 P E F1 k1 ok
theorem s_whileZ (hp : PassesOwn (model X.prog X.w) X.A X.env X.xe) (hc : PBZ X W c tb) (hb : PSS X W body s) : PS1 X W (.While c body [] pos) (tsWhileZ tb s) := by
  obtain ⟨ec, pc, rc⟩ := hc.ex
  obtain ⟨eb, pb, rb⟩ := hb.ex
  refine ⟨_, ps_while hp pc pb, fun G0 H0 Γ σ G H P E F ⟨m, ht⟩ ok => ?_⟩
  refine ⟨fun m σ' H' => ∃ Γ' G', Fr X.K G0 H0 Γ' σ' G' H' ∧ whZ tb s P m Γ', ⟨m, Γ, G, F, ht⟩, ?_⟩
  rintro m σ2 H2 ⟨Γ2, G2, F2, k2⟩
  cases m with
  | zero => exact k2.elim
  | succ m =>
    refine rc G0 H0 Γ2 σ2 G2 H2 _ _ _ F2 k2 (fun r Γ3 G3 H3 k3 F3 => ?_) (fun z cls dA Γ' G' H' kd F' dn => ok.xx z cls dA Γ' σ2 G' H' kd F' dn)
    cases r with
    | true =>
      rw [if_pos rfl]
      refine ⟨fun σ' H' => ∃ Γ' G', Fr X.K G0 H0 Γ' σ' G' H' ∧ whZ tb s P m Γ', fun σ' H' q => ⟨m, Nat.lt_succ_self m, q⟩, ?_⟩
      exact rb G0 H0 Γ3 σ2 G3 H3 _ _ F3 k3 (ok.loop fun Γ5 σ5 G5 H5 n5 F5 => ⟨Γ5, G5, F5, n5⟩)
    | false =>
      rw [if_neg Bool.false_ne_true]
      exact ok.nx _ _ _ _ k3 F3
/-- x = [e], a list of one's own -/
def tsOwn1Z (i : Nat) (t : TZ) : TSp := fun P Γ => t Γ (fun d Γ' => P.nx (gset Γ' i (.ow (.lst [d])))) P.xx
theorem s_own1Z (i : Nat) {p2 q : Pos} (h : PZ X W e tz) (nd : X.N.Nodup) (hi : X.N[i]? = some x := by rfl) (hx : Loc X.env.scope x := by first | exact Or.inl rfl | exact Or.inr rfl)
    (hf : X.fn x = true ∨ X.env.scope.names.lookup x = some .local := by first | exact .inl rfl | exact .inr rfl) (hs : swapsWith (.List [e] q) (some (.Name x p2)) pos.line X.env = pure false := by rfl) (hst : starEach [e] X.env = (false, eval e X.env) :: starEach [] X.env := by rfl) : PS1 X W (.Assign [.Name x p2] (.List [e] q) pos) (tsOwn1Z i tz) := by
  obtain ⟨ea, pa, ra⟩ := h.ex
  refine ⟨_, ps_set nd hi hx (pe_lst (pa_cons pa pa_nil hst)) hs hf, fun G0 H0 Γ σ G H P E F ht ok => ?_⟩
  refine ra G0 H0 Γ σ G H _ _ _ F ht (fun d v Γ' G' H' k F' n => ?_) (fun z cls dA Γ' G' H' kd F' dn => ok.xx z cls dA Γ' σ G' H' kd F' dn)
  exact ⟨by show 1 ≤ sizeLine; decide, fun p hp => ok.nx _ _ G' _ k (F'.own i hp ⟨[v], upd_same, .cons n .nil⟩)⟩
/-- x.append(e) of an own list -/
def tsAppZ (i : Nat) (t : TZ) : TSp := fun P Γ => (∃ ds, (gat Γ i).og = some (.lst ds)) ∧ t Γ (fun d Γ' => ∃ ds, (gat Γ' i).og = some (.lst ds) ∧ ds.length < 100000 ∧ P.nx (oput Γ' i (.lst (ds ++ [d])))) P.xx
theorem s_appendZ (i : Nat) {call : Expr} (h : PZ X W e tz) (hp : ∀ ea, PE X e ea → PE X call (tBM X.K "list" rAppend (tVar i) (tCons ea tNil))) (hs : swapsWith call none pos.line X.env = pure false := by rfl) : PS1 X W (.Expr call pos) (tsAppZ i tz) := by
  obtain ⟨ea, pa, ra⟩ := h.ex
  refine ⟨_, ps_expr (hp _ pa) hs, fun G0 H0 Γ σ G H P E F ht ok => ?_⟩
  obtain ⟨⟨ds, hs⟩, ht⟩ := ht
  obtain ⟨key, p, e1, g1, h01, xs0, q1, q2⟩ := own_at F hs
  refine ⟨.ref p, e1, .inl ⟨rfl, xs0, SqL.of q1⟩, ?_⟩
  refine ra G0 H0 Γ σ G H _ _ _ F ht (fun d v Γ' G' H' k F' n => ?_) (fun z cls dA Γ' G' H' kd F' dn => ok.xx z cls dA Γ' σ G' H' kd F' dn)
  obtain ⟨ds', hs', hz, k⟩ := k
  obtain ⟨key', p', e2, g2, h02, xs, q3, q4⟩ := own_at F' hs'
  rw [e1] at e2
  cases e2
  exact ⟨p, xs, v, rfl, rfl, q3, by rw [q4.length]; exact sz5' hz, ok.nx _ _ _ _ k (F'.mut key' hs' e1 g2 h02 q3 trivial ⟨_, upd_same, q4.append (.cons n .nil)⟩)⟩
/-- x, y = e, c -/
def tsPar2Z (i j : Nat) (t : TZ) (tb : TP) : TSp := fun P Γ => t Γ (fun d Γ' => tb Γ' (fun d2 => P.nx (gset (gset Γ' i (.pu d)) j (.pu d2))) (fun x => P.xx x Γ')) P.xx
theorem s_par2Z (i j : Nat) {px py pt : Pos} {kt k2 pt2} (hc : X.calm = true) (hN : X.N.Nodup) (h : PZ X W a tz) (hb : PP X W b ta) (hij : i ≠ j := by decide) (hi : X.N[i]? = some x := by rfl) (hj : X.N[j]? = some y := by rfl)
    (hx : X.env.scope.names.lookup x = some .local := by rfl) (hy : X.env.scope.names.lookup y = some .local := by rfl)
    (hw : swappedStores [.Tuple [.Name x px, .Name y py] kt pt] (.Tuple [a, b] k2 pt2) X.env = pure (some [x, y]) := by rfl)
    (hs : swapsWithSole [.Tuple [.Name x px, .Name y py] kt pt] (.Tuple [a, b] k2 pt2) pos.line X.env = pure false := by rfl)
    (h1 : starEach [a, b] X.env = (false, eval a X.env) :: starEach [b] X.env := by rfl) (h2 : starEach [b] X.env = (false, eval b X.env) :: starEach [] X.env := by rfl) :
    PS1 X W (.Assign [.Tuple [.Name x px, .Name y py] kt pt] (.Tuple [a, b] k2 pt2) pos) (tsPar2Z i j tz ta) := by
  obtain ⟨ea, pa, ra⟩ := h.ex
  obtain ⟨eb, pb, rb⟩ := hb.ex
  refine ⟨_, ps_par hc hN hi hj hij hx hy (pa_cons pa (pa_cons pb pa_nil h2) h1) hw hs, fun G0 H0 Γ σ G H P E F ht ok => ?_⟩
  refine ra G0 H0 Γ σ G H _ _ _ F ht (fun d v Γ' G' H' k F' n => ?_) (fun z cls dA Γ' G' H' kd F' dn => ok.xx z cls dA Γ' σ G' H' kd F' dn)
  refine rb G0 H0 Γ' σ G' H' _ _ _ F' k (fun d2 v2 G2 H2 k2 x2 n2 => ?_) (ok.x F')
  exact ⟨_, _, rfl, ok.nx _ _ G2 H2 k2 (((F'.up x2).set i (n.up x2.g)).set j n2)⟩
def tlStar (t : TP) (tl : TL) : TL := fun Γ k kx => t Γ (fun d => match d with
  | .lst xs => tl Γ (fun ds => k (xs ++ ds)) kx
  | .tup xs => tl Γ (fun ds => k (xs ++ ds)) kx
  | _ => False) kx
theorem l_star (ha : PU X W e t) (hr : PL' X W es tl) (hs : starEach (.Starred e p :: es) X.env = (true, eval e X.env) :: starEach es X.env := by rfl) : PL' X W (.Starred e p :: es) (tlStar t tl) := by
  obtain ⟨ea, pa, ra⟩ := ha.ex
  obtain ⟨eb, pb, rb⟩ := hr.ex
  refine ⟨_, StX.pa_star pa pb hs, fun G0 H0 Γ σ G H k kx Q F ht hk hx => ?_⟩
  refine ra G0 H0 Γ σ G H _ kx _ F ht (fun d1 v1 G1 H1 k1 x1 n1 => ?_) hx
  cases d1 with
  | lst xs =>
    obtain ⟨a, vs, rfl, h1, r1⟩ := n1.lst x1.sub
    refine ⟨a, vs, rfl, .inr (SqL.of h1), ?_⟩
    exact rb G0 H0 Γ σ G1 H1 _ kx _ (F.up x1) k1 (fun ds ws G' H' kd ex dn => hk (xs ++ ds) (vs ++ ws) G' H' kd (x1.trans ex) ((r1.up ex.g).append dn)) (hx.up x1)
  | tup xs =>
    obtain ⟨a, vs, rfl, h1, r1⟩ := n1.tup x1.sub
    refine ⟨a, vs, rfl, .inl h1, ?_⟩
    exact rb G0 H0 Γ σ G1 H1 _ kx _ (F.up x1) k1 (fun ds ws G' H' kd ex dn => hk (xs ++ ds) (vs ++ ws) G' H' kd (x1.trans ex) ((r1.up ex.g).append dn)) (hx.up x1)
  | _ => exact k1.elim
def tCases : List (PySem.Str × TS) → PySem.Str → TS
  | [], _, D, σ, H => D.nx σ H
  | (c, b) :: r, s, D, σ, H => if s = c then b D σ H else tCases r s D σ H
def tMatch (te : TE) (l : List (PySem.Str × TS)) : TS := fun D σ H => te σ H fun v H1 => ∃ s, v = .str s ∧ tCases l s D σ H1
inductive MCs (X : Cx) : List MatchCase → List (PySem.Str × TS) → Prop where
  | nil : MCs X [] []
  | cons {c : PySem.Str} {j : Nat} {p q : Pos} {body : List Stmt} {ts : TS} {r : List MatchCase} {l : List (PySem.Str × TS)} (hb : PSs X body ts) (hr : MCs X r l) : MCs X (⟨.MatchValue (.Constant (.str c) j p) q, none, body⟩ :: r) ((c, ts) :: l)
theorem run_cases {cs : List MatchCase} {l : List (PySem.Str × TS)} (h : MCs X cs l) : ∀ (pins : List (Addr × Obj)) (s : Shared) (σ : L2.St) (H : Hp) (D : Ends) (x : PySem.Str) (t : Tok) (first : Bool), Inv X pins σ H s → tCases l x D σ H → wpAny (model X.prog X.w) X.A (matchCases cs X.env (.str x t) first) (SP X pins D) X.xe s := by
  induction h with
  | nil =>
    intro pins s σ H D x t first I q
    exact wpAny_matchCases_nil ⟨σ, H, I, q⟩
  | @cons c j p q body ts r l hb hr ih =>
    intro pins s σ H D x t first I h
    refine wpAny_matchCases_cons (wpAny_matchPattern_Value ?_)
    refine thn ((pe_str (X := X) (x := c) (pos := p)).run pins s σ H (fun v H1 => v = .str c ∧ H1 = H) I ⟨rfl, rfl⟩) fun u s1 ⟨v, H1, I1, rx, ev, eH⟩ => ?_
    subst ev
    subst eH
    refine thn (op_eq pins s1 σ H1 (.str x) (.str c) (.str x t) u (fun v H2 => v = .bl (decide (V.str x = V.str c)) ∧ H2 = H1) I1 ⟨t, rfl⟩ rx ⟨rfl, rfl, rfl⟩) fun w s2 ⟨v2, H2, I2, rw2, ev2, eH2⟩ => ?_
    subst ev2
    subst eH2
    obtain rfl : w = Value.bool (decide (V.str x = V.str c)) := rw2
    refine wpAny_truthy_bool ?_
    have h : (if x = c then ts D σ H2 else tCases l x D σ H2) := h
    by_cases e : x = c
    · rw [if_pos e] at h
      rw [decide_eq_true (by rw [e])]
      rw [if_pos rfl]
      refine wpAny_assignInOrder_none ?_
      exact hb.run pins s2 σ H2 D I2 h
    · rw [if_neg e] at h
      rw [decide_eq_false (fun z => e (V.str.inj z))]
      rw [if_neg Bool.false_ne_true]
      exact ih pins s2 σ H2 D x t false I2 h
theorem ps_match {cs : List MatchCase} {l : List (PySem.Str × TS)} {te : TE} (he : PE X e te) (h : MCs X cs l) : PS X (.Match e cs pos) (tMatch te l) := by
  refine ⟨fun pins s σ H D I q => ?_⟩
  refine wpAny_Match (thn (he.run pins s σ H _ I q) fun u s1 ⟨v, H1, I1, rv, x, ev, q1⟩ => ?_)
  subst ev
  obtain ⟨t, rfl⟩ := rv
  exact run_cases h pins s1 σ H1 D x t true I1 q1
/-- over data -/
def casesW : List (List Nat × TSp) → List Nat → TSp
  | [], _, P, Γ => P.nx Γ
  | (c, b) :: r, s, P, Γ => if s = c then b P Γ else casesW r s P Γ
def tsMatch (t : TP) (l : List (List Nat × TSp)) : TSp := fun P Γ => t Γ (fun d => match d with
  | .str s => casesW l s P Γ
  | _ => False) (fun x => P.xx x Γ)
inductive MCp (X : Cx) (W : WX) : List MatchCase → List (List Nat × TSp) → Prop where
  | nil : MCp X W [] []
  | cons (s : List Nat) {c : PySem.Str} {j : Nat} {p q : Pos} {body : List Stmt} {ts : TSp} {r : List MatchCase} {l : List (List Nat × TSp)} (hb : PSS X W body ts) (hr : MCp X W r l) (h : c.cps.toList = s := by decide) : MCp X W (⟨.MatchValue (.Constant (.str c) j p) q, none, body⟩ :: r) ((s, ts) :: l)
theorem mcp_ex {cs : List MatchCase} {l : List (List Nat × TSp)} (h : MCp X W cs l) : ∃ l', MCs X cs l' ∧ ∀ (G0 H0 : Hp) (Γ : Ga) (σ : L2.St) (G H : Hp) (P : PEn) (E : Ends) (s : List Nat), Fr X.K G0 H0 Γ σ G H → casesW l s P Γ → EOk X.K W G0 H0 P E → tCases l' (SS s) E σ H := by
  induction h with
  | nil => exact ⟨[], .nil, fun G0 H0 Γ σ G H P E s F ht ok => ok.nx Γ σ G H ht F⟩
  | @cons s0 c j p q body ts r l hb hr h ih =>
    obtain ⟨l', m, rd⟩ := ih
    obtain ⟨tb, pb, rb⟩ := hb.ex
    refine ⟨(c, tb) :: l', .cons pb m, fun G0 H0 Γ σ G H P E s F ht ok => ?_⟩
    have ec : c = SS s0 := by rw [← h]
    have ht : (if s = s0 then ts P Γ else casesW l s P Γ) := ht
    show (if SS s = c then _ else _)
    by_cases e : s = s0
    · rw [if_pos e] at ht
      rw [if_pos (by rw [e, ec])]
      exact rb G0 H0 Γ σ G H P E F ht ok
    · rw [if_neg e] at ht
      rw [if_neg (fun z => e (by rw [ec] at z; have := congrArg (fun x : PySem.Str => x.cps.toList) z; simpa [SS] using this))]
      exact rd G0 H0 Γ σ G H P E s F ht ok
theorem s_match {cs : List MatchCase} {l : List (List Nat × TSp)} (he : PP X W e t) (h : MCp X W cs l) : PS1 X W (.Match e cs pos) (tsMatch t l) := by
  obtain ⟨te, pe, re⟩ := he.ex
  obtain ⟨l', m, rd⟩ := mcp_ex h
  refine ⟨_, ps_match pe m, fun G0 H0 Γ σ G H P E F ht ok => ?_⟩
  refine re G0 H0 Γ σ G H _ _ _ F ht (fun d v G1 H1 k1 x1 n1 => ?_) (ok.x F)
  cases d with
  | str s =>
    cases n1
    exact ⟨SS s, rfl, rd G0 H0 Γ σ G1 H1 P E s (F.up x1) k1 ok⟩
  | _ => exact k1.elim
end
end PL
set_option Elab.async false
set_option linter.all false
set_option maxRecDepth 100000
set_option maxHeartbeats 4000000
namespace PL
open PySem L2 PyProof.Rows
variable [Tabl]
theorem hole_tab {H : Hp} {p P C d : Addr} {fvs : List (PySem.Str × V)} {q : PySem.Str} (t : LamX.TabS H P q) (hp : H p = some (.ins C d fvs)) : LamX.TabS (hole H p) P q := by
  have at_ : ∀ {a : Addr} {o : HO}, H a = some o → o ≠ .ins C d fvs → hole H p a = some o := fun {a o} e n1 => by
    rw [hole_ne (fun z => by rw [z, hp] at e; exact n1 (Option.some.inj e).symm)]
    exact e
  obtain ⟨ps, h1, h2, h3⟩ := t
  refine ⟨ps, at_ h1 (fun z => nomatch z), h2, fun pos cv hc => ?_⟩
  obtain ⟨c, e1, e2⟩ := h3 pos cv hc
  exact ⟨c, e1, at_ e2 (fun z => by unfold LamX.CodeO at z; cases z)⟩
theorem made_specN {K : PySem.W.Frag} {C : Addr} {g : FSo} {n : Nat} {G H H0 : Hp} {vs : List V} {ds : List D} {k : KD} {kx : KX} {Q : VK} {E : XK} (s : Sub G H) (nd : DenL K G vs ds) (hl : ds.length = n) (hg : g (.ins C [] :: ds) (fun d y => d = .non ∧ onIns y k) kx) (h0 : ∀ a, H a = none → H0 a = none)
    (hk : ∀ d G' H' p o, k d → Ext G H G' H' → H' p = none → OwnAt K H0 G' (upd H' p o) p d → Q (.ref p) (upd H' p o)) (hx : ∀ x cls dA G' H', kx x → Ext G H G' H' → XDen K G' H' cls dA x → E cls dA H') :
    ∀ x dx, H x = none → H dx = none → dx ≠ x → spOi K (n + 1) g (.ref x :: vs) (upd (upd H dx (.own x)) x (.ins C dx [])) (fun v H2 => v = .non ∧ Q (.ref x) H2) E := by
  intro x dx hx0 hd0 ne
  have gx := s.none hx0
  have gd := s.none hd0
  have eh : hole2 (upd (upd H dx (.own x)) x (.ins C dx [])) x dx = H := by
    funext a
    by_cases a1 : a = x
    · rw [a1, hole2_p, hx0]
    · by_cases a2 : a = dx
      · rw [a2, hole2_d, hd0]
      · rw [hole2_ne a1 a2, upd_ne a1, upd_ne a2]
  have s2 : Same H (upd (upd H dx (.own x)) x (.ins C dx [])) := fun a o e => by
    rw [upd_ne (ne_of_none e hx0), upd_ne (ne_of_none e hd0)]
    exact e
  refine ⟨G, .ins C [] :: ds, _, kx, x, dx, C, [], [], by rw [List.length_cons, nd.length, hl], by rw [List.length_cons, hl], s.up s2, gx, gd, rfl, rfl, upd_same, by rw [upd_ne ne, upd_same], .nil, fun i v d hi hv hd => ?_, hg, fun d y v G' H' kk ex gp o dn => ?_, fun z cls dA G' H' kk ex nz => ?_⟩
  · match i, hi with
    | i + 1, _ =>
      rw [List.getElem?_cons_succ] at hv hd
      obtain ⟨d', e', n'⟩ := nd.gv hv
      rw [hd] at e'
      cases e'
      exact n'
  · rw [eh] at ex o
    obtain ⟨rfl, ky⟩ := kk
    cases dn
    refine ⟨rfl, ?_⟩
    cases y with
    | ins C' fs =>
      obtain ⟨dx', fvs, o1, o2, o3, o4, o5⟩ := o
      have ne' : dx' ≠ x := fun z => by rw [z, o1] at o2; cases o2
      have e2 : upd (hole H' x) x (.ins C' dx' fvs) = H' := by
        funext a
        by_cases a1 : a = x
        · rw [a1, upd_same, o1]
        · rw [upd_ne a1, hole_ne a1]
      have key := hk (.ins C' fs) G' (hole H' x) x (.ins C' dx' fvs) ky ⟨⟨fun a u e n => ?_, fun a u e => ?_, fun t q hq => ?_⟩, ex.g, fun a q ⟨u, e⟩ => ex.nw a q ⟨u, e⟩, ⟨fun a u e => ?_, ex.sub.nt, fun q hq => ?_⟩⟩ hole_at
      · rw [e2] at key
        exact key ⟨dx', fvs, o1, o2, o3, h0 _ o4, o5⟩
      · rw [hole_ne (ne_of_none e hx0)]
        exact ex.h.k a u e n
      · rw [hole_ne (ne_of_none e hx0)]
        exact ex.h.t a u e
      · exact hole_tab (ex.h.tb t q hq) o1
      · have n1 : a ≠ x := fun z => by rw [z, gp] at e; cases e
        rw [hole_ne n1]
        exact ex.sub.m a u e
      · exact hole_tab (ex.sub.tb q hq) o1
    | _ => exact ky.elim
  · rw [eh] at ex
    exact hx z cls dA G' H' kk ex nz
section
variable {X : Cx} {W : WX} {e : Expr} {es : List Expr} {tl : TL} {x : PySem.Str} {pos p : Pos} {k n j : Nat} {C : Addr} {g : FSo}
theorem n_make (M : MkI X.prog X.w X.K X.mg X.base C k n g) (hr : Room j X.A) (hj : k + 1 ≤ j) (tk : Takes X W) (hm : X.mg x = some (.ref C)) (ha : PL' X W (e :: es) tl) (hg : Gl X x := by rfl) (hdb : (x == ("__debug__" : PySem.Str)) = false := by decide)
    (hst : starEach (e :: es) X.env = (false, eval e X.env) :: starEach es X.env := by rfl) (hpl : (backTo pos (starEach es X.env)).any (·.1) = false := by rfl) : PN X W (.Call (.Name x p) (e :: es) [] pos) (tpMake C g n tl) := by
  obtain ⟨ea, pa, ra⟩ := ha.ex
  obtain ⟨f, mk, R⟩ := M.ex
  refine ⟨fun σ H Q => ea σ H fun vs H1 => ∀ x dx, H1 x = none → H1 dx = none → dx ≠ x → spOi X.K (n + 1) g (.ref x :: vs) (upd (upd H1 dx (.own x)) x (.ins C dx [])) (fun v H2 => v = .non ∧ Q (.ref x) H2) (WE W σ), ⟨fun pins s σ H Q I h => ?_⟩, fun G0 H0 Γ σ G H kd kx Q F ht hk hx => ?_⟩
  · refine wpAny_Call_Name_kw (ld_glob I hg hm ?_ hdb)
    refine PySem.W.callWith_K (h₀ := X.base) I.ok.mod.kin mk.kp (thn (pa.run pos pins s σ H _ I h) fun us s1 ⟨vs, H1, I1, r, q⟩ => ⟨I1.kIn, ?_⟩) hst hpl
    exact run_makeS mk R (hr.mono hj) (passAt tk σ) I1 r q
  · refine ra G0 H0 Γ σ G H _ kx _ F ht (fun ds vs G1 H1 k1 x1 n1 => ?_) hx
    exact made_specN x1.sub n1 k1.1 k1.2 (fun a z => (F.up x1).e.h.free z) (fun d G' H' p o kk ex hn ow => hk d G' H' p o kk (x1.trans ex) hn ow) (fun y cls dA G' H' kk ex dn => hx y cls dA G' H' kk (x1.trans ex) dn)
end
def fIntS : F1
  | .str s, k => ∃ n : Int, PySem.intText? (SS s) = some n ∧ s.length ≤ 640 ∧ k (.int n)
  | _, _ => False
def rIntS : List V → Hp → VK → Prop := fun xs H Q => ∃ a n, xs = [.str a] ∧ PySem.intText? a = some n ∧ a.length ≤ 640 ∧ Q (.int n) H
theorem c_intS {X : Cx} : CallR X (.type "int") rIntS ∧ RdC1 X.K rIntS fIntS := by
  refine ⟨call_int_str, fun H0 G H v d k Q s n h hk => ?_⟩
  cases d with
  | str l =>
    obtain ⟨z, h1, h2, h3⟩ := h
    exact ⟨SS l, z, by rw [n.str], h1, by rw [ss_length]; exact h2, hk _ _ G H h3 (Ext.refl s) (.int _)⟩
  | _ => exact h.elim
end PL
set_option Elab.async false
set_option linter.all false
set_option maxRecDepth 100000
set_option maxHeartbeats 4000000
namespace PL
open PySem L2
def m_is_name : FS := fun ds k kx =>
  (tsRet (tpAnd (tp1 (fIsi "str") (tpVar 0)) (tpAnd (tpChain fLe fLe (tpC (.int 1)) (tp1 fLenS (tpVar 0)) (tpC (.int 6))) (tp1 fAll (tpLc [1] (tiStr (tpVar 0)) (tgName 1) tbYes (tpOp fInS (tpVar 1) (tpC (.str [65, 66, 67, 68, 69, 70, 71, 72, 73, 74, 75, 76, 77, 78, 79, 80, 81, 82, 83, 84, 85, 86, 87, 88, 89, 90]))))))))
  (fEnds k kx) (ga0 2 ds)
def m_is_row : FS := fun ds k kx =>
  (tsSeq (tsIf (tbV (tpOp fEq (tpVar 0) (tpC (.str [101, 105, 116, 104, 101, 114]))))
    (tsRet (tpC (.bl true)))
    tsNext)
    (tsSeq (tsSet 2 (tpLc [3] (tiTup (tpVar 1)) (tgName 3) tbYes (tpOp fEq (tpOp fIx (tpVar 3) (tpC (.int 0))) (tpC (.str [100, 101, 101, 100, 115])))))
    (tsSeq (tsIf (tbV (tp1 fAny (tpLc [3] (tiTup (tpVar 1)) (tgName 3) tbYes (tpOr (tpOp fEq (tpOp fIx (tpVar 3) (tpC (.int 0))) (tpC (.str [116, 104, 101, 110]))) (tpOp fEq (tpVar 3) (tpTup (tlCons (tpC (.str [100, 101, 101, 100, 115])) (tlCons (tpC (.str [])) tlNil))))))))
    (tsRet (tpC (.bl false)))
    tsNext)
    (tsRet (tpNot (tp1 fAny (tpLc [4] (tiRng2 (tlCons (tpC (.int 1)) (tlCons (tp1 fLenS (tpVar 2)) tlNil))) (tgName 4) tbYes (tpAnd (tpOp fIx (tpVar 2) (tpOp fSub (tpVar 4) (tpC (.int 1)))) (tpOp fIx (tpVar 2) (tpVar 4))))))))))
  (fEnds k kx) (ga0 5 ds)
def m_is_tree (fs_is_log fs_is_name fs_is_tree fs_is_within fs_is_row : FS) : FS := fun ds k kx =>
  (tsSeq (tsIf (tbOr (tbV (tpOp fEq (tpVar 1) (tpC (.int 0)))) (tbOr (tbNot (tbV (tp1 (fIsi "tuple") (tpVar 0)))) (tbOr (tbV (tpOp fLt (tp1 fLenS (tpVar 0)) (tpC (.int 2)))) (tbNot (tbV (tp1 (fIsi "str") (tpOp fIx (tpVar 0) (tpC (.int 0)))))))))
    (tsRet (tpC (.bl false)))
    tsNext)
    (tsSeq (tsSet 2 (tpOp fIx (tpVar 0) (tpC (.int 0))))
    (tsSeq (tsIf (tbV (tpOp fEq (tpVar 2) (tpC (.str [100, 101, 101, 100, 115]))))
    (tsRet (tpAnd (tpOp fEq (tp1 fLenS (tpVar 0)) (tpC (.int 2))) (tpCall 1 fs_is_log (tlCons (tpOp fIx (tpVar 0) (tpC (.int 1))) tlNil))))
    tsNext)
    (tsSeq (tsIf (tbV (tpOp fEq (tpVar 2) (tpC (.str [110, 97, 109, 101]))))
    (tsRet (tpAnd (tpOp fEq (tp1 fLenS (tpVar 0)) (tpC (.int 2))) (tpCall 1 fs_is_name (tlCons (tpOp fIx (tpVar 0) (tpC (.int 1))) tlNil))))
    tsNext)
    (tsSeq (tsIf (tbV (tpOp fEq (tpVar 2) (tpC (.str [97, 103, 97, 105, 110]))))
    (tsRet (tpAnd (tpOp fEq (tp1 fLenS (tpVar 0)) (tpC (.int 2))) (tpCall 2 fs_is_tree (tlCons (tpOp fIx (tpVar 0) (tpC (.int 1))) (tlCons (tpOp fSub (tpVar 1) (tpC (.int 1))) tlNil)))))
    tsNext)
    (tsSeq (tsIf (tbV (tpOp fEq (tpVar 2) (tpC (.str [116, 105, 109, 101, 115]))))
    (tsRet (tpAnd (tpOp fEq (tp1 fLenS (tpVar 0)) (tpC (.int 3))) (tpAnd (tpCall 2 fs_is_tree (tlCons (tpOp fIx (tpVar 0) (tpC (.int 1))) (tlCons (tpOp fSub (tpVar 1) (tpC (.int 1))) tlNil))) (tpCall 3 fs_is_within (tlCons (tpOp fIx (tpVar 0) (tpC (.int 2))) (tlCons (tpC (.int 0)) (tlCons (tpC (.int 1000000000000000000000000000000)) tlNil)))))))
    tsNext)
    (tsSeq (tsIf (tbOr (tbV (tpOp (fInD true) (tpVar 2) (tpTup (tlCons (tpC (.str [116, 104, 101, 110])) (tlCons (tpC (.str [101, 105, 116, 104, 101, 114])) tlNil))))) (tbNot (tbV (tpChain fLe fLe (tpC (.int 3)) (tp1 fLenS (tpVar 0)) (tpOp fAdd (tpC (.int 20)) (tpC (.int 1)))))))
    (tsRet (tpC (.bl false)))
    tsNext)
    (tsRet (tpAnd (tp1 fAll (tpLc [3] (tiTup (tpSl (tpVar 0) (toSome (tpC (.int 1))) toNo)) (tgName 3) tbYes (tpCall 2 fs_is_tree (tlCons (tpVar 3) (tlCons (tpOp fSub (tpVar 1) (tpC (.int 1))) tlNil))))) (tpCall 2 fs_is_row (tlCons (tpVar 2) (tlCons (tpSl (tpVar 0) (toSome (tpC (.int 1))) toNo) tlNil))))))))))))
  (fEnds k kx) (ga0 4 ds)
def m_need_tree (C_InvalidTree : Addr) (fs_is_tree : FS) : FS := fun ds k kx =>
  (tsIf (tbNot (tbV (tpCall 1 fs_is_tree (tlCons (tpVar 0) tlNil))))
    (tsRaise0 C_InvalidTree "InvalidTree")
    tsNext)
  (fEnds k kx) (ga0 1 ds)
def m_text_of (fs_text_of : FS) : FS := fun ds k kx =>
  (tsSeq (tsMatch (tpOp fIx (tpVar 0) (tpC (.int 0))) [([100, 101, 101, 100, 115], (tsRet (tpIf (tbV (tpOp fNe (tpOp fIx (tpVar 0) (tpC (.int 1))) (tpC (.str [])))) (tpOp fIx (tpVar 0) (tpC (.int 1))) (tpC (.str [45]))))),
    ([110, 97, 109, 101], (tsRet (tpOp fIx (tpVar 0) (tpC (.int 1))))),
    ([116, 104, 101, 110], (tsRet (tpJoin (tpC (.str [46])) (tpLc [1] (tiTup (tpSl (tpVar 0) (toSome (tpC (.int 1))) toNo)) (tgName 1) tbYes (tpCall 1 fs_text_of (tlCons (tpVar 1) tlNil)))))),
    ([101, 105, 116, 104, 101, 114], (tsRet (tpJs [(tpC (.str [40])), (tpFmt (tpJoin (tpC (.str [124])) (tpLc [1] (tiTup (tpSl (tpVar 0) (toSome (tpC (.int 1))) toNo)) (tgName 1) tbYes (tpCall 1 fs_text_of (tlCons (tpVar 1) tlNil))))), (tpC (.str [41]))] [])))])
    (tsSeq (tsSet 2 (tpIf (tbV (tpOp fEq (tpOp fIx (tpOp fIx (tpVar 0) (tpC (.int 1))) (tpC (.int 0))) (tpC (.str [116, 104, 101, 110])))) (tpJs [(tpC (.str [40])), (tpFmt (tpCall 1 fs_text_of (tlCons (tpOp fIx (tpVar 0) (tpC (.int 1))) tlNil))), (tpC (.str [41]))] []) (tpCall 1 fs_text_of (tlCons (tpOp fIx (tpVar 0) (tpC (.int 1))) tlNil))))
    (tsRet (tpIf (tbV (tpOp fEq (tpOp fIx (tpVar 0) (tpC (.int 0))) (tpC (.str [116, 105, 109, 101, 115])))) (tpJs [(tpFmt (tpVar 2)), (tpC (.str [94])), (tpFmt (tpOp fIx (tpVar 0) (tpC (.int 2))))] []) (tpJs [(tpFmt (tpVar 2)), (tpC (.str [94, 42]))] [])))))
  (fEnds k kx) (ga0 3 ds)
def m_script_text (fs_need_tree fs_text_of : FS) : FS := fun ds k kx =>
  (tsSeq (tsDrop (tpCall 1 fs_need_tree (tlCons (tpVar 0) tlNil)))
    (tsRet (tpCall 1 fs_text_of (tlCons (tpVar 0) tlNil))))
  (fEnds k kx) (ga0 1 ds)
def m_Reader___init__ (C_Reader : Addr) : FSo := fun ds k kx => ∀ p,
  (tsSetF [C_Reader] 0 "text_left" (tpVar 1))
  (iEnds p k kx) (gaO 2 0 p ds)
def m_Reader_run (C_Reader : Addr) : FSo := fun ds k kx => ∀ p,
  (tsSeq (tsSet 2 (tpC (.int 0)))
    (tsSeq (tsWhile (tbAnd (tbV (tpOp fLt (tpVar 2) (tp1 fLenS (tpFld [C_Reader] "text_left" (tpVarU 0))))) (tbV (tpOp fInS (tpOp fIx (tpFld [C_Reader] "text_left" (tpVarU 0)) (tpVar 2)) (tpVar 1))))
    (tsAug 2 (fun i j => i + j) (tpC (.int 1))))
    (tsSeq (tsSet 3 (tpSl (tpFld [C_Reader] "text_left" (tpVarU 0)) toNo (toSome (tpVar 2))))
    (tsSeq (tsSetF [C_Reader] 0 "text_left" (tpSl (tpFld [C_Reader] "text_left" (tpVarU 0)) (toSome (tpVar 2)) toNo))
    (tsRet (tpVar 3))))))
  (iEnds p k kx) (gaO 4 0 p ds)
def m_Reader_passed (C_Reader : Addr) : FSo := fun ds k kx => ∀ p,
  (tsSeq (tsIf (tbV (tpOp fNe (tpSl (tpFld [C_Reader] "text_left" (tpVarU 0)) toNo (toSome (tpC (.int 1)))) (tpVar 1)))
    (tsRet (tpC (.bl false)))
    tsNext)
    (tsSeq (tsSetF [C_Reader] 0 "text_left" (tpSl (tpFld [C_Reader] "text_left" (tpVarU 0)) (toSome (tpC (.int 1))) toNo))
    (tsRet (tpC (.bl true)))))
  (iEnds p k kx) (gaO 2 0 p ds)
def m_Reader_atom (C_InvalidText C_Reader : Addr) (fs_is_name : FS) (gs_Reader_passed gs_Reader_row gs_Reader_run : FSo) : FSo := fun ds k kx => ∀ p,
  (tsSeq (tsIf (tbV (tpOp fEq (tpVar 1) (tpC (.int 0))))
    (tsRaise0 C_InvalidText "InvalidText")
    tsNext)
    (tsSeq (tsIfZ (tbzV (tzMeth 0 [(C_Reader, gs_Reader_passed)] "passed" 1 (tlCons (tpC (.str [40])) tlNil)))
    (tsSeq (tsOwn1Z 2 (tzMeth 0 [(C_Reader, gs_Reader_row)] "row" 1 (tlCons (tpOp fSub (tpVar 1) (tpC (.int 1))) tlNil)))
    (tsSeq (tsWhileZ (tbzV (tzMeth 0 [(C_Reader, gs_Reader_passed)] "passed" 1 (tlCons (tpC (.str [124])) tlNil)))
    (tsAppZ 2 (tzMeth 0 [(C_Reader, gs_Reader_row)] "row" 1 (tlCons (tpOp fSub (tpVar 1) (tpC (.int 1))) tlNil))))
    (tsSeq (tsIfZ (tbzNot (tbzV (tzMeth 0 [(C_Reader, gs_Reader_passed)] "passed" 1 (tlCons (tpC (.str [41])) tlNil))))
    (tsRaise0 C_InvalidText "InvalidText")
    tsNext)
    (tsRet (tpIf (tbV (tpOp fGt (tp1 fLenS (tpVarU 2)) (tpC (.int 1)))) (tpTup (tlCons (tpC (.str [101, 105, 116, 104, 101, 114])) (tlStar (tpVarU 2) tlNil))) (tpOp fIx (tpVarU 2) (tpC (.int 0))))))))
    tsNext)
    (tsSeq (tsIfZ (tbzV (tzMeth 0 [(C_Reader, gs_Reader_passed)] "passed" 1 (tlCons (tpC (.str [45])) tlNil)))
    (tsRet (tpTup (tlCons (tpC (.str [100, 101, 101, 100, 115])) (tlCons (tpC (.str [])) tlNil))))
    tsNext)
    (tsSeq (tsSetZ 3 (tzMeth 0 [(C_Reader, gs_Reader_run)] "run" 1 (tlCons (tpC (.str [97, 98, 99, 100, 101, 102, 103, 104, 105, 106, 107, 108, 109, 110, 111, 112, 113, 114, 115, 116, 117, 118, 119, 120, 121, 122])) tlNil)))
    (tsSeq (tsIf (tbV (tpOp fNe (tpVar 3) (tpC (.str []))))
    (tsRet (tpTup (tlCons (tpC (.str [100, 101, 101, 100, 115])) (tlCons (tpVar 3) tlNil))))
    tsNext)
    (tsSeq (tsSetZ 4 (tzMeth 0 [(C_Reader, gs_Reader_run)] "run" 1 (tlCons (tpC (.str [65, 66, 67, 68, 69, 70, 71, 72, 73, 74, 75, 76, 77, 78, 79, 80, 81, 82, 83, 84, 85, 86, 87, 88, 89, 90])) tlNil)))
    (tsSeq (tsIf (tbNot (tbV (tpCall 1 fs_is_name (tlCons (tpVar 4) tlNil))))
    (tsRaise0 C_InvalidText "InvalidText")
    tsNext)
    (tsRet (tpTup (tlCons (tpC (.str [110, 97, 109, 101])) (tlCons (tpVar 4) tlNil)))))))))))
  (iEnds p k kx) (gaO 5 0 p ds)
def m_Reader_powers (C_InvalidText C_Reader : Addr) (gs_Reader_atom gs_Reader_passed gs_Reader_run : FSo) : FSo := fun ds k kx => ∀ p,
  (tsSeq (tsPar2Z 2 3 (tzMeth 0 [(C_Reader, gs_Reader_atom)] "atom" 1 (tlCons (tpVar 1) tlNil)) (tpC (.int 0)))
    (tsSeq (tsWhileZ (tbzV (tzMeth 0 [(C_Reader, gs_Reader_passed)] "passed" 1 (tlCons (tpC (.str [94])) tlNil)))
    (tsSeq (tsAug 3 (fun i j => i + j) (tpC (.int 1)))
    (tsSeq (tsIf (tbV (tpOp fGt (tpVar 3) (tpC (.int 12))))
    (tsRaise0 C_InvalidText "InvalidText")
    tsNext)
    (tsSeq (tsIfZ (tbzV (tzMeth 0 [(C_Reader, gs_Reader_passed)] "passed" 1 (tlCons (tpC (.str [42])) tlNil)))
    (tsSeq (tsSet 2 (tpTup (tlCons (tpC (.str [97, 103, 97, 105, 110])) (tlCons (tpVar 2) tlNil))))
    tsCont)
    tsNext)
    (tsSeq (tsSetZ 4 (tzMeth 0 [(C_Reader, gs_Reader_run)] "run" 1 (tlCons (tpC (.str [48, 49, 50, 51, 52, 53, 54, 55, 56, 57])) tlNil)))
    (tsSeq (tsIf (tbOr (tbNot (tbV (tpChain fLe fLe (tpC (.int 1)) (tp1 fLenS (tpVar 4)) (tpC (.int 31))))) (tbAnd (tbV (tpOp fEq (tpOp fIx (tpVar 4) (tpC (.int 0))) (tpC (.str [48])))) (tbV (tpOp fNe (tpVar 4) (tpC (.str [48]))))))
    (tsRaise0 C_InvalidText "InvalidText")
    tsNext)
    (tsSet 2 (tpTup (tlCons (tpC (.str [116, 105, 109, 101, 115])) (tlCons (tpVar 2) (tlCons (tp1 fIntS (tpVar 4)) tlNil)))))))))))
    (tsRet (tpVar 2))))
  (iEnds p k kx) (gaO 5 0 p ds)
def m_Reader_row (C_Reader : Addr) (gs_Reader_powers gs_Reader_passed : FSo) : FSo := fun ds k kx => ∀ p,
  (tsSeq (tsOwn1Z 2 (tzMeth 0 [(C_Reader, gs_Reader_powers)] "powers" 1 (tlCons (tpVar 1) tlNil)))
    (tsSeq (tsWhileZ (tbzV (tzMeth 0 [(C_Reader, gs_Reader_passed)] "passed" 1 (tlCons (tpC (.str [46])) tlNil)))
    (tsAppZ 2 (tzMeth 0 [(C_Reader, gs_Reader_powers)] "powers" 1 (tlCons (tpVar 1) tlNil))))
    (tsRet (tpIf (tbV (tpOp fGt (tp1 fLenS (tpVarU 2)) (tpC (.int 1)))) (tpTup (tlCons (tpC (.str [116, 104, 101, 110])) (tlStar (tpVarU 2) tlNil))) (tpOp fIx (tpVarU 2) (tpC (.int 0)))))))
  (iEnds p k kx) (gaO 3 0 p ds)
def m_read_script (C_InvalidText C_Reader : Addr) (fs_text_of fs_is_tree : FS) (g_Reader gs_Reader_row : FSo) : FS := fun ds k kx =>
  (tsSeq (tsIf (tbNot (tbV (tp1 (fIsi "str") (tpVar 0))))
    (tsRaise0 C_InvalidText "InvalidText")
    tsNext)
    (tsSeq (tsOwn 1 (tpMake C_Reader g_Reader 1 (tlCons (tpVar 0) tlNil)))
    (tsSeq (tsSetZ 2 (tzMeth 1 [(C_Reader, gs_Reader_row)] "row" 1 (tlCons (tpOp fAdd (tpC (.int 12)) (tpC (.int 1))) tlNil)))
    (tsSeq (tsIf (tbOr (tbV (tpOp fNe (tpFld [C_Reader] "text_left" (tpVarU 1)) (tpC (.str [])))) (tbOr (tbNot (tbV (tpCall 1 fs_is_tree (tlCons (tpVar 2) tlNil)))) (tbV (tpOp fNe (tpCall 1 fs_text_of (tlCons (tpVar 2) tlNil)) (tpVar 0)))))
    (tsRaise0 C_InvalidText "InvalidText")
    tsNext)
    (tsRet (tpVar 2))))))
  (fEnds k kx) (ga0 3 ds)
def m_law_tree_so (K : PySem.W.Frag) (C_LogError C_InvalidDeed C_InvalidStore C_InvalidStand C_TooMany C_InvalidName C_DuplicateName C_WrongSort C_ForeignDeed C_Circular C_InUse C_Full C_InvalidLimit C_InvalidCommand C_InvalidPage C_UnknownName C_NothingLeft : Addr) (fs_read_script fs_script_text fs_law_same fs_is_tree : FS) : FS := fun ds k kx =>
  (tsSeq (tsSet 3 (tpLst (tlCons (tpCall 1 fs_is_tree (tlCons (tpVar 0) tlNil)) (tlCons (tpLam 2 (m_law_asked K C_LogError C_InvalidDeed C_InvalidStore C_InvalidStand C_TooMany C_InvalidName C_DuplicateName C_WrongSort C_ForeignDeed C_Circular C_InUse C_Full C_InvalidLimit C_InvalidCommand C_InvalidPage C_UnknownName C_NothingLeft) (tpCall 1 fs_read_script (tlCons (tpVar 1) tlNil))) (tlCons (tpLam 2 (m_law_asked K C_LogError C_InvalidDeed C_InvalidStore C_InvalidStand C_TooMany C_InvalidName C_DuplicateName C_WrongSort C_ForeignDeed C_Circular C_InUse C_Full C_InvalidLimit C_InvalidCommand C_InvalidPage C_UnknownName C_NothingLeft) (tpCall 1 fs_script_text (tlCons (tpVar 0) tlNil))) tlNil)))))
    (tsSeq (tsSet 4 (tpLst (tlCons (tpVar 2) (tlCons (tpTup (tlCons (tpC (.str [])) (tlCons (tpVar 0) tlNil))) (tlCons (tpTup (tlCons (tpC (.str [])) (tlCons (tpVar 1) tlNil))) tlNil)))))
    (tsSeq (tsIf (tbNot (tbV (tpVar 2)))
    (tsSet 4 (tpLst (tlCons (tpVar 2) (tlCons (tpTup (tlCons (tpC (.str [73, 110, 118, 97, 108, 105, 100, 84, 101, 120, 116])) (tlCons (tpC .non) tlNil))) (tlCons (tpTup (tlCons (tpC (.str [73, 110, 118, 97, 108, 105, 100, 84, 114, 101, 101])) (tlCons (tpC .non) tlNil))) tlNil)))))
    tsNext)
    (tsRet (tpCall 2 fs_law_same (tlCons (tpVar 3) (tlCons (tpVar 4) tlNil)))))))
  (fEnds k kx) (ga0 5 ds)
def m_law_script (fs_law_script : FS) : FS := fun ds k kx =>
  (tsSeq (tsSet 1 (tpOp fIx (tpVar 0) (tpC (.int 0))))
    (tsSeq (tsIf (tbV (tpOp fEq (tpVar 1) (tpC (.str [100, 101, 101, 100, 115]))))
    (tsRet (tpIf (tbV (tpOp fEq (tpOp fIx (tpVar 0) (tpC (.int 1))) (tpC (.str [])))) (tpC (.str [45])) (tpOp fIx (tpVar 0) (tpC (.int 1)))))
    tsNext)
    (tsSeq (tsIf (tbV (tpOp fEq (tpVar 1) (tpC (.str [110, 97, 109, 101]))))
    (tsRet (tpOp fIx (tpVar 0) (tpC (.int 1))))
    tsNext)
    (tsSeq (tsIf (tbV (tpOp fEq (tpVar 1) (tpC (.str [116, 104, 101, 110]))))
    (tsRet (tpJoin (tpC (.str [46])) (tpLc [2] (tiTup (tpSl (tpVar 0) (toSome (tpC (.int 1))) toNo)) (tgName 2) tbYes (tpCall 1 fs_law_script (tlCons (tpVar 2) tlNil)))))
    tsNext)
    (tsSeq (tsIf (tbV (tpOp fEq (tpVar 1) (tpC (.str [101, 105, 116, 104, 101, 114]))))
    (tsRet (tpOp fAdd (tpOp fAdd (tpC (.str [40])) (tpJoin (tpC (.str [124])) (tpLc [2] (tiTup (tpSl (tpVar 0) (toSome (tpC (.int 1))) toNo)) (tgName 2) tbYes (tpCall 1 fs_law_script (tlCons (tpVar 2) tlNil))))) (tpC (.str [41]))))
    tsNext)
    (tsSeq (tsSet 3 (tpCall 1 fs_law_script (tlCons (tpOp fIx (tpVar 0) (tpC (.int 1))) tlNil)))
    (tsSeq (tsSet 3 (tpIf (tbV (tpOp fEq (tpOp fIx (tpOp fIx (tpVar 0) (tpC (.int 1))) (tpC (.int 0))) (tpC (.str [116, 104, 101, 110])))) (tpOp fAdd (tpOp fAdd (tpC (.str [40])) (tpVar 3)) (tpC (.str [41]))) (tpVar 3)))
    (tsRet (tpOp fAdd (tpOp fAdd (tpVar 3) (tpC (.str [94]))) (tpIf (tbV (tpOp fEq (tpVar 1) (tpC (.str [97, 103, 97, 105, 110])))) (tpC (.str [42])) (tp1 fStrAny (tpOp fIx (tpVar 0) (tpC (.int 2))))))))))))))
  (fEnds k kx) (ga0 4 ds)
end PL
set_option Elab.async false
set_option linter.all false
set_option maxRecDepth 100000
set_option maxHeartbeats 4000000
namespace PL
open PySem L2
def cnt : Nat → Nat
  | 0 => 1
  | 1 => 1
  | n + 2 => ((n + 2) * cnt (n + 1)) ^ 2
end PL
set_option Elab.async false
set_option linter.all false
set_option maxRecDepth 100000
set_option maxHeartbeats 4000000
set_option exponentiation.threshold 4000
namespace PL
open PySem L2
section
variable {ds : List D} {kd : KD} {kx : KX} {C : Addr}
local instance : Tabl := ⟨[], fun p hp => absurd hp (by simp)⟩
end
end PL
set_option Elab.async false
set_option linter.all false
set_option maxRecDepth 100000
set_option maxHeartbeats 4000000
set_option exponentiation.threshold 4000
namespace PL
open PySem L2
section
variable {ds : List D} {kd : KD} {kx : KX} {C : Addr}
local instance : Tabl := ⟨[], fun p hp => absurd hp (by simp)⟩
end
end PL
set_option Elab.async false
set_option linter.all false
set_option maxRecDepth 100000
set_option maxHeartbeats 4000000
set_option exponentiation.threshold 4000
namespace PL
open PySem L2
section
variable {ds : List D} {kd : KD} {kx : KX} {C : Addr}
local instance : Tabl := ⟨[], fun p hp => absurd hp (by simp)⟩
end
end PL
set_option Elab.async false
set_option linter.all false
set_option maxRecDepth 100000
set_option maxHeartbeats 4000000
set_option exponentiation.threshold 4000
namespace PL
open PySem L2
section
variable {ds : List D} {kd : KD} {kx : KX} {C : Addr}
local instance : Tabl := ⟨[], fun p hp => absurd hp (by simp)⟩
end
end PL
set_option Elab.async false
set_option linter.all false
set_option maxRecDepth 100000
set_option maxHeartbeats 4000000
set_option exponentiation.threshold 4000
namespace PL
open PySem L2
end PL
set_option Elab.async false
set_option linter.all false
set_option maxRecDepth 100000
set_option maxHeartbeats 4000000
namespace PL
open PySem L2
section
variable {ds : List D} {kd : KD} {kx : KX} {CC CN CL : Addr} {K : Ks} {m : KindM} {Γ : Ga} {tl : TL} {i n : Nat} {ta tb : TP}
local instance : Tabl := ⟨[], fun p hp => absurd hp (by simp)⟩
end
end PL
set_option Elab.async false
set_option linter.all false
set_option maxRecDepth 100000
set_option maxHeartbeats 4000000
namespace PL
open PySem L2
abbrev letD : List Nat := [65, 66, 67, 68, 69, 70, 71, 72, 73, 74, 75, 76, 77, 78, 79, 80, 81, 82, 83, 84]
def nms : List (List Nat) := (letD.map fun c => [80, c]) ++ (letD.map fun c => [81, c])
theorem nms_len : nms.length = 40 := by decide
end PL
set_option Elab.async false
set_option linter.all false
set_option maxRecDepth 100000
set_option maxHeartbeats 4000000
namespace PL
open PySem L2 PyProof.Rows
end PL
set_option Elab.async false
set_option linter.all false
set_option maxRecDepth 100000
set_option maxHeartbeats 4000000
namespace PL
open PySem L2
end PL
set_option Elab.async false
set_option linter.all false
set_option maxRecDepth 100000
set_option maxHeartbeats 4000000
namespace PL
open PySem L2
section
variable {ds : List D} {kd : KD} {kx : KX} {K : Ks} {m : KindM} {Γ : Ga} {t ta tb : TP} {tl : TL} {es : List D} {d : D} {l i n : Nat}
local instance : Tabl := ⟨[], fun p hp => absurd hp (by simp)⟩
end
end PL
set_option Elab.async false
set_option linter.all false
set_option maxRecDepth 100000
set_option maxHeartbeats 4000000
namespace PL
open PySem L2
def m_law_name (fs_law_pick fs_law_pull : FS) : FS := fun ds k kx =>
  (tsRet (tpJoin (tpC (.str [])) (tpLc [1] (tiRng1 (tlCons (tpCall 2 fs_law_pick (tlCons (tpVar 0) (tlCons (tpLst (tlCons (tpC (.int 1)) (tlCons (tpC (.int 1)) (tlCons (tpC (.int 2)) (tlCons (tpC (.int 6)) (tlCons (tpOp fAdd (tpC (.int 1)) (tpCall 2 fs_law_pull (tlCons (tpVar 0) (tlCons (tpC (.int 6)) tlNil)))) tlNil)))))) tlNil))) tlNil)) (tgName 1) tbYes (tpCall 2 fs_law_pick (tlCons (tpVar 0) (tlCons (tpC (.str [65, 66, 67, 68, 69, 70, 71, 72, 73, 74, 75, 76, 77, 78, 79, 80, 81, 82, 83, 84, 85, 86, 87, 88, 89, 90])) tlNil))))))
  (fEnds k kx) (ga0 2 ds)
end PL
set_option Elab.async false
set_option linter.all false
set_option maxRecDepth 100000
set_option maxHeartbeats 8000000
namespace K71
open PySem L2 PL
def m_law (fs_law_start fs_law_pick fs_law_pull fs_law_name fs_law_tree_so fs_law_script : FS) : FS := fun ds k kx =>
  (tsSeq (tsSet 1 (tpCall 1 fs_law_start (tlCons (tpVar 0) tlNil)))
    (tsSeq (tsFor (tiRng1 (tlCons (tpC (.int 4)) tlNil)) (tgName 2)
    (tsSeq (tsSet 3 (tpCall 2 fs_law_pick (tlCons (tpVar 1) (tlCons (tpLst (tlCons (tpC (.int 20)) (tlCons (tpC (.int 21)) (tlCons (tpC (.int 2)) (tlCons (tpOp fAdd (tpC (.int 19)) (tpCall 2 fs_law_pull (tlCons (tpVar 1) (tlCons (tpC (.int 4)) tlNil)))) tlNil))))) tlNil))))
    (tsSeq (tsSet 4 (tpLc [5] (tiRng1 (tlCons (tpVar 3) tlNil)) (tgName 5) tbYes (tpTup (tlCons (tpC (.str [110, 97, 109, 101])) (tlCons (tpCall 1 fs_law_name (tlCons (tpVar 1) tlNil)) tlNil)))))
    (tsSeq (tsSet 6 (tpCall 2 fs_law_pick (tlCons (tpVar 1) (tlCons (tpLst (tlCons (tpC (.str [116, 104, 101, 110])) (tlCons (tpC (.str [101, 105, 116, 104, 101, 114])) tlNil))) tlNil))))
    (tsSeq (tsSet 7 (tp1 fTup (tpOp fAdd (tpLst (tlCons (tpVar 6) tlNil)) (tpVar 4))))
    (tsSeq (tsSet 8 (tpJoin (tpIf (tbV (tpOp fEq (tpVar 6) (tpC (.str [116, 104, 101, 110])))) (tpC (.str [46])) (tpC (.str [124]))) (tpLc [9] (tiLst (tpVar 4)) (tgName 9) tbYes (tpOp fIx (tpVar 9) (tpC (.int 1))))))
    (tsSeq (tsSet 8 (tpIf (tbV (tpOp fEq (tpVar 6) (tpC (.str [116, 104, 101, 110])))) (tpVar 8) (tpOp fAdd (tpOp fAdd (tpC (.str [40])) (tpVar 8)) (tpC (.str [41])))))
    (tsSeq (tsIf (tbNot (tbV (tpCall 3 fs_law_tree_so (tlCons (tpVar 7) (tlCons (tpVar 8) (tlCons (tpOp fLe (tpVar 3) (tpC (.int 20))) tlNil))))))
    (tsRet (tpC (.bl false)))
    tsNext)
    (tsSeq (tsPar [10, 11] (tlCons (tpTup (tlCons (tpC (.str [100, 101, 101, 100, 115])) (tlCons (tpCall 2 fs_law_pick (tlCons (tpVar 1) (tlCons (tpLst (tlCons (tpC (.str [97])) (tlCons (tpC (.str [])) (tlCons (tpC (.str [98, 97])) tlNil)))) tlNil))) tlNil))) (tlCons (tpC (.int 1)) tlNil)))
    (tsSeq (tsSet 12 (tpCall 2 fs_law_pick (tlCons (tpVar 1) (tlCons (tpLst (tlCons (tpC (.int 12)) (tlCons (tpC (.int 13)) (tlCons (tpOp fAdd (tpC (.int 11)) (tpCall 2 fs_law_pull (tlCons (tpVar 1) (tlCons (tpC (.int 4)) tlNil)))) tlNil)))) tlNil))))
    (tsSeq (tsWhile (tbV (tpOp fLt (tpVar 11) (tpVar 12)))
    (tsSeq (tsSet 13 (tpCall 2 fs_law_pick (tlCons (tpVar 1) (tlCons (tpLst (tlCons (tpC (.str [116, 105, 109, 101, 115])) (tlCons (tpC (.str [97, 103, 97, 105, 110])) (tlCons (tpC (.str [116, 104, 101, 110])) (tlCons (tpC (.str [101, 105, 116, 104, 101, 114])) tlNil))))) tlNil))))
    (tsSeq (tsIf (tbAnd (tbV (tpOp fEq (tpVar 13) (tpC (.str [116, 104, 101, 110])))) (tbV (tpOp (fInD true) (tpOp fIx (tpVar 10) (tpC (.int 0))) (tpTup (tlCons (tpC (.str [116, 104, 101, 110])) (tlCons (tpC (.str [100, 101, 101, 100, 115])) tlNil))))))
    (tsSet 10 (tpCall 2 fs_law_pick (tlCons (tpVar 1) (tlCons (tpLst (tlCons (tpTup (tlCons (tpC (.str [116, 104, 101, 110])) (tlCons (tpTup (tlCons (tpC (.str [110, 97, 109, 101])) (tlCons (tpC (.str [65])) tlNil))) (tlCons (tpVar 10) tlNil)))) (tlCons (tpTup (tlCons (tpC (.str [116, 104, 101, 110])) (tlCons (tpVar 10) (tlCons (tpTup (tlCons (tpC (.str [100, 101, 101, 100, 115])) (tlCons (tpC (.str [97])) tlNil))) tlNil)))) tlNil))) tlNil))))
    (tsIf (tbV (tpOp fEq (tpVar 13) (tpC (.str [101, 105, 116, 104, 101, 114]))))
    (tsSet 10 (tpCall 2 fs_law_pick (tlCons (tpVar 1) (tlCons (tpLst (tlCons (tpTup (tlCons (tpC (.str [101, 105, 116, 104, 101, 114])) (tlCons (tpTup (tlCons (tpC (.str [100, 101, 101, 100, 115])) (tlCons (tpC (.str [])) tlNil))) (tlCons (tpVar 10) tlNil)))) (tlCons (tpTup (tlCons (tpC (.str [101, 105, 116, 104, 101, 114])) (tlCons (tpVar 10) (tlCons (tpTup (tlCons (tpC (.str [110, 97, 109, 101])) (tlCons (tpC (.str [66])) tlNil))) (tlCons (tpVar 10) tlNil))))) tlNil))) tlNil))))
    (tsIf (tbV (tpOp fEq (tpVar 13) (tpC (.str [97, 103, 97, 105, 110]))))
    (tsSet 10 (tpTup (tlCons (tpC (.str [97, 103, 97, 105, 110])) (tlCons (tpVar 10) tlNil))))
    (tsSet 10 (tpTup (tlCons (tpC (.str [116, 105, 109, 101, 115])) (tlCons (tpVar 10) (tlCons (tpCall 2 fs_law_pick (tlCons (tpVar 1) (tlCons (tpLst (tlCons (tpC (.int 0)) (tlCons (tpC (.int 7)) (tlCons (tpOp fPow (tpC (.int 10)) (tpC (.int 30))) tlNil)))) tlNil))) tlNil))))))))
    (tsSeq (tsSet 11 (tpOp fAdd (tpVar 11) (tpC (.int 1))))
    (tsIf (tbV (tpOp fGt (tp1 fLenS (tpCall 1 fs_law_script (tlCons (tpVar 10) tlNil))) (tpC (.int 900))))
    (tsRet (tpC (.bl true)))
    tsNext)))))
    (tsIf (tbNot (tbV (tpCall 3 fs_law_tree_so (tlCons (tpVar 10) (tlCons (tpCall 1 fs_law_script (tlCons (tpVar 10) tlNil)) (tlCons (tpOp fLe (tpVar 11) (tpC (.int 12))) tlNil))))))
    (tsRet (tpC (.bl false)))
    tsNext))))))))))))
    (tsSeq (tsSet 14 (tp1 fTup (tpOp fAdd (tpLst (tlCons (tpC (.str [101, 105, 116, 104, 101, 114])) tlNil)) (tpOp fMul (tpLst (tlCons (tpTup (tlCons (tpC (.str [100, 101, 101, 100, 115])) (tlCons (tpC (.str [97])) tlNil))) tlNil)) (tpC (.int 20))))))
    (tsRet (tpCall 3 fs_law_tree_so (tlCons (tpTup (tlCons (tpC (.str [116, 105, 109, 101, 115])) (tlCons (tpVar 14) (tlCons (tpOp fPow (tpC (.int 10)) (tpC (.int 30))) tlNil)))) (tlCons (tpCall 1 fs_law_script (tlCons (tpTup (tlCons (tpC (.str [116, 105, 109, 101, 115])) (tlCons (tpVar 14) (tlCons (tpOp fPow (tpC (.int 10)) (tpC (.int 30))) tlNil)))) tlNil)) (tlCons (tpC (.bl true)) tlNil))))))))
  (fEnds k kx) (ga0 15 ds)
def top (i : Nat) : Stmt := PySem.Challenge.pw_replaylog_k71_bounds_of_trees.main.body.getD i (.Pass ⟨0, 0, 0, 0⟩)
abbrev s_is_number : Stmt := top 23
abbrev s_is_within : Stmt := top 24
abbrev s_is_log : Stmt := top 25
abbrev s_is_name : Stmt := top 33
abbrev s_is_row : Stmt := top 34
abbrev s_is_tree : Stmt := top 35
abbrev s_need_tree : Stmt := top 36
abbrev s_text_of : Stmt := top 37
abbrev s_script_text : Stmt := top 38
abbrev s_Reader___init__ : Stmt := (inClass (top 39) 0)
abbrev s_Reader_run : Stmt := (inClass (top 39) 1)
abbrev s_Reader_passed : Stmt := (inClass (top 39) 2)
abbrev s_Reader_atom : Stmt := (inClass (top 39) 3)
abbrev s_Reader_powers : Stmt := (inClass (top 39) 4)
abbrev s_Reader_row : Stmt := (inClass (top 39) 5)
abbrev s_read_script : Stmt := top 40
abbrev s_law_pull : Stmt := top 43
abbrev s_law_pick : Stmt := top 44
abbrev s_law_name : Stmt := top 45
abbrev s_law_asked : Stmt := top 46
abbrev s_law_same : Stmt := top 47
abbrev s_law_tree_so : Stmt := top 48
abbrev s_law_script : Stmt := top 49
abbrev s_law : Stmt := top 50
structure Cls where
  LogError : Addr
  InvalidDeed : Addr
  InvalidStore : Addr
  InvalidStand : Addr
  InvalidText : Addr
  InvalidTree : Addr
  TooMany : Addr
  InvalidName : Addr
  DuplicateName : Addr
  WrongSort : Addr
  ForeignDeed : Addr
  Circular : Addr
  InUse : Addr
  Full : Addr
  InvalidLimit : Addr
  InvalidCommand : Addr
  InvalidPage : Addr
  UnknownName : Addr
  NothingLeft : Addr
  Reader : Addr
structure Txt (P : Program) (K : PySem.W.Frag) (mg : PySem.Str → Option Value) (C : Cls) : Prop where
  CAPITALS : ∃ t, mg "CAPITALS" = some (.str (SS [65, 66, 67, 68, 69, 70, 71, 72, 73, 74, 75, 76, 77, 78, 79, 80, 81, 82, 83, 84, 85, 86, 87, 88, 89, 90]) t)
  DIGITS : ∃ t, mg "DIGITS" = some (.str (SS [48, 49, 50, 51, 52, 53, 54, 55, 56, 57]) t)
  LETTERS : ∃ t, mg "LETTERS" = some (.str (SS [97, 98, 99, 100, 101, 102, 103, 104, 105, 106, 107, 108, 109, 110, 111, 112, 113, 114, 115, 116, 117, 118, 119, 120, 121, 122]) t)
  MOST_DEPTH : ∃ t, mg "MOST_DEPTH" = some (.int 12 t)
  MOST_LETTERS : ∃ t, mg "MOST_LETTERS" = some (.int 6 t)
  MOST_PARTS : ∃ t, mg "MOST_PARTS" = some (.int 20 t)
  MOST_TIMES : ∃ t, mg "MOST_TIMES" = some (.int 1000000000000000000000000000000 t)
  b_all : mg "all" = none
  b_any : mg "any" = none
  b_bool : mg "bool" = none
  b_int : mg "int" = none
  b_isinstance : mg "isinstance" = none
  b_len : mg "len" = none
  b_list : mg "list" = none
  b_range : mg "range" = none
  b_str : mg "str" = none
  b_tuple : mg "tuple" = none
  g_LogError : mg "LogError" = some (.ref C.LogError)
  g_InvalidDeed : mg "InvalidDeed" = some (.ref C.InvalidDeed)
  g_InvalidStore : mg "InvalidStore" = some (.ref C.InvalidStore)
  g_InvalidStand : mg "InvalidStand" = some (.ref C.InvalidStand)
  g_InvalidText : mg "InvalidText" = some (.ref C.InvalidText)
  g_InvalidTree : mg "InvalidTree" = some (.ref C.InvalidTree)
  g_TooMany : mg "TooMany" = some (.ref C.TooMany)
  g_InvalidName : mg "InvalidName" = some (.ref C.InvalidName)
  g_DuplicateName : mg "DuplicateName" = some (.ref C.DuplicateName)
  g_WrongSort : mg "WrongSort" = some (.ref C.WrongSort)
  g_ForeignDeed : mg "ForeignDeed" = some (.ref C.ForeignDeed)
  g_Circular : mg "Circular" = some (.ref C.Circular)
  g_InUse : mg "InUse" = some (.ref C.InUse)
  g_Full : mg "Full" = some (.ref C.Full)
  g_InvalidLimit : mg "InvalidLimit" = some (.ref C.InvalidLimit)
  g_InvalidCommand : mg "InvalidCommand" = some (.ref C.InvalidCommand)
  g_InvalidPage : mg "InvalidPage" = some (.ref C.InvalidPage)
  g_UnknownName : mg "UnknownName" = some (.ref C.UnknownName)
  g_NothingLeft : mg "NothingLeft" = some (.ref C.NothingLeft)
  n_Reader_text_left : L2.Cls K C.Reader ∧ NoAttr K C.Reader "text_left"
  g_Reader : mg "Reader" = some (.ref C.Reader)
  x_InvalidText : PySem.ExcX.XC0 P K mg "InvalidText" C.InvalidText
  x_InvalidTree : PySem.ExcX.XC0 P K mg "InvalidTree" C.InvalidTree
section
variable [Tabl] {P : Program} {w : World} {K : PySem.W.Frag} {mg : PySem.Str → Option Value} {base : Heap} {C : Cls}
theorem sc_is_number : FnScope ["value"] ["value"] (defScope s_is_number) := ⟨rfl, rfl, rfl, by decide +kernel, rfl, by decide +kernel, by decide +kernel⟩
theorem ok_is_number {f : Addr} {fd : FuncData} (F : Fun K "is_number" "is_number" s_is_number f fd) (T : Txt P K mg C)  : FnOk P w K mg base (L2.CX P w) (0 + 1) f fd ["value"] (spOf K 1 (m_is_number   )) := by
  refine fn_ok F sc_is_number rfl (fun cdv A outer s H E hr => ⟨_, ?_, fun ds kd kx _ hf => hf⟩)
  have tk := takes_of (X := (cxOf (L2.CX P w) P w K mg base ["value"] "is_number" (defScope s_is_number) f cdv A outer s H E)) rfl rfl rfl rfl
  have po : PassesOwn (model P w) (cxOf (L2.CX P w) P w K mg base ["value"] "is_number" (defScope s_is_number) f cdv A outer s H E).A (cxOf (L2.CX P w) P w K mg base ["value"] "is_number" (defScope s_is_number) f cdv A outer s H E).env (cxOf (L2.CX P w) P w K mg base ["value"] "is_number" (defScope s_is_number) f cdv A outer s H E).xe := passes_of rfl
  exact (ss_one (s_ret (p_and (p_isi "int" (PP.u (p_var 0)) (pe_bltn (v := .ty "int") (by rfl) T.b_int (by decide +kernel) rfl) T.b_isinstance) (p_one (p_not (p_isi "bool" (PP.u (p_var 0)) (pe_bltn (v := .ty "bool") (by rfl) T.b_bool (by decide +kernel) rfl) T.b_isinstance))))))
theorem sc_is_within : FnScope ["value", "low", "high"] ["value", "low", "high"] (defScope s_is_within) := ⟨rfl, rfl, rfl, by decide +kernel, rfl, by decide +kernel, by decide +kernel⟩
theorem ok_is_within {f : Addr} {fd : FuncData} {fs_is_number : FS} (F : Fun K "is_within" "is_within" s_is_within f fd) (T : Txt P K mg C) (D_is_number : Df P w K mg base "is_number" 1 1 fs_is_number) : FnOk P w K mg base (L2.CX P w) (1 + 1) f fd ["value", "low", "high"] (spOf K 3 (m_is_within  fs_is_number )) := by
  refine fn_ok F sc_is_within rfl (fun cdv A outer s H E hr => ⟨_, ?_, fun ds kd kx _ hf => hf⟩)
  have tk := takes_of (X := (cxOf (L2.CX P w) P w K mg base ["value", "low", "high"] "is_within" (defScope s_is_within) f cdv A outer s H E)) rfl rfl rfl rfl
  have po : PassesOwn (model P w) (cxOf (L2.CX P w) P w K mg base ["value", "low", "high"] "is_within" (defScope s_is_within) f cdv A outer s H E).A (cxOf (L2.CX P w) P w K mg base ["value", "low", "high"] "is_within" (defScope s_is_within) f cdv A outer s H E).env (cxOf (L2.CX P w) P w K mg base ["value", "low", "high"] "is_within" (defScope s_is_within) f cdv A outer s H E).xe := passes_of rfl
  exact (ss_one (s_ret (p_and (p_call D_is_number hr (by decide) tk (l_cons (p_var 0) l_nil)) (p_one (p_chain o_le o_le (PP.u (p_var 1)) (PP.u (p_var 0)) (PP.u (p_var 2)) (fun pa pb pc => pe_chain o_le.1 o_le.1 pa pb pc))))))
theorem sc_is_log : FnScope ["value", "sign"] ["value"] (defScope s_is_log) := ⟨rfl, rfl, rfl, by decide +kernel, rfl, by decide +kernel, by decide +kernel⟩
theorem ok_is_log {f : Addr} {fd : FuncData} (F : Fun K "is_log" "is_log" s_is_log f fd) (T : Txt P K mg C)  : FnOk P w K mg base (L2.CX P w) (0 + 1) f fd ["value"] (spOf K 1 (m_is_log   )) := by
  refine fn_ok F sc_is_log rfl (fun cdv A outer s H E hr => ⟨_, ?_, fun ds kd kx _ hf => hf⟩)
  have tk := takes_of (X := (cxOf (L2.CX P w) P w K mg base ["value", "sign"] "is_log" (defScope s_is_log) f cdv A outer s H E)) rfl rfl rfl rfl
  have po : PassesOwn (model P w) (cxOf (L2.CX P w) P w K mg base ["value", "sign"] "is_log" (defScope s_is_log) f cdv A outer s H E).A (cxOf (L2.CX P w) P w K mg base ["value", "sign"] "is_log" (defScope s_is_log) f cdv A outer s H E).env (cxOf (L2.CX P w) P w K mg base ["value", "sign"] "is_log" (defScope s_is_log) f cdv A outer s H E).xe := passes_of rfl
  exact (ss_one (s_ret (p_and (p_isi "str" (PP.u (p_var 0)) (pe_bltn (v := .ty "str") (by rfl) T.b_str (by decide +kernel) rfl) T.b_isinstance) (p_one (p_b1 (c_all rfl) T.b_all (by decide +kernel) (PP.u (p_lc [("sign", 1)] rfl sc_is_log.nd (i_str (p_var 0)) (blkOk_by (N := ["value", "sign"]) (sc := defScope s_is_log) (by decide +kernel)) (fun _ => (g_name 1 sc_is_log.nd)) (fun _ => bs_nil) (fun _ => (p_cmp o_inS (PP.u (p_var 1)) (PP.u (p_globS (s := [97, 98, 99, 100, 101, 102, 103, 104, 105, 106, 107, 108, 109, 110, 111, 112, 113, 114, 115, 116, 117, 118, 119, 120, 121, 122]) (by rfl) T.LETTERS)))))))))))
theorem sc_is_name : FnScope ["value", "sign"] ["value"] (defScope s_is_name) := ⟨rfl, rfl, rfl, by decide +kernel, rfl, by decide +kernel, by decide +kernel⟩
theorem ok_is_name {f : Addr} {fd : FuncData} (F : Fun K "is_name" "is_name" s_is_name f fd) (T : Txt P K mg C)  : FnOk P w K mg base (L2.CX P w) (0 + 1) f fd ["value"] (spOf K 1 (m_is_name   )) := by
  refine fn_ok F sc_is_name rfl (fun cdv A outer s H E hr => ⟨_, ?_, fun ds kd kx _ hf => hf⟩)
  have tk := takes_of (X := (cxOf (L2.CX P w) P w K mg base ["value", "sign"] "is_name" (defScope s_is_name) f cdv A outer s H E)) rfl rfl rfl rfl
  have po : PassesOwn (model P w) (cxOf (L2.CX P w) P w K mg base ["value", "sign"] "is_name" (defScope s_is_name) f cdv A outer s H E).A (cxOf (L2.CX P w) P w K mg base ["value", "sign"] "is_name" (defScope s_is_name) f cdv A outer s H E).env (cxOf (L2.CX P w) P w K mg base ["value", "sign"] "is_name" (defScope s_is_name) f cdv A outer s H E).xe := passes_of rfl
  exact (ss_one (s_ret (p_and (p_isi "str" (PP.u (p_var 0)) (pe_bltn (v := .ty "str") (by rfl) T.b_str (by decide +kernel) rfl) T.b_isinstance) (p_and (p_chain o_le o_le (PP.u p_int) (PP.u (p_b1 c_len T.b_len (by decide +kernel) (PP.u (p_var 0)))) (PP.u (p_globI (by rfl) T.MOST_LETTERS)) (fun pa pb pc => pe_chain o_le.1 o_le.1 pa pb pc)) (p_one (p_b1 (c_all rfl) T.b_all (by decide +kernel) (PP.u (p_lc [("sign", 1)] rfl sc_is_name.nd (i_str (p_var 0)) (blkOk_by (N := ["value", "sign"]) (sc := defScope s_is_name) (by decide +kernel)) (fun _ => (g_name 1 sc_is_name.nd)) (fun _ => bs_nil) (fun _ => (p_cmp o_inS (PP.u (p_var 1)) (PP.u (p_globS (s := [65, 66, 67, 68, 69, 70, 71, 72, 73, 74, 75, 76, 77, 78, 79, 80, 81, 82, 83, 84, 85, 86, 87, 88, 89, 90]) (by rfl) T.CAPITALS))))))))))))
theorem sc_is_row : FnScope ["word", "parts", "logs", "part", "at"] ["word", "parts"] (defScope s_is_row) := ⟨rfl, rfl, rfl, by decide +kernel, rfl, by decide +kernel, by decide +kernel⟩
theorem ok_is_row {f : Addr} {fd : FuncData} (F : Fun K "is_row" "is_row" s_is_row f fd) (T : Txt P K mg C)  : FnOk P w K mg base (L2.CX P w) (0 + 1) f fd ["word", "parts"] (spOf K 2 (m_is_row   )) := by
  refine fn_ok F sc_is_row rfl (fun cdv A outer s H E hr => ⟨_, ?_, fun ds kd kx _ hf => hf⟩)
  have tk := takes_of (X := (cxOf (L2.CX P w) P w K mg base ["word", "parts", "logs", "part", "at"] "is_row" (defScope s_is_row) f cdv A outer s H E)) rfl rfl rfl rfl
  have po : PassesOwn (model P w) (cxOf (L2.CX P w) P w K mg base ["word", "parts", "logs", "part", "at"] "is_row" (defScope s_is_row) f cdv A outer s H E).A (cxOf (L2.CX P w) P w K mg base ["word", "parts", "logs", "part", "at"] "is_row" (defScope s_is_row) f cdv A outer s H E).env (cxOf (L2.CX P w) P w K mg base ["word", "parts", "logs", "part", "at"] "is_row" (defScope s_is_row) f cdv A outer s H E).xe := passes_of rfl
  exact (ss_cons (s_if (b_cmp (o_eq hr.units) (PP.u (p_var 0)) (PP.u (p_str [101, 105, 116, 104, 101, 114])))
    (ss_one (s_ret p_bl))
    ss_nil)
    (ss_cons (s_set 2 (p_lc [("part", 3)] rfl sc_is_row.nd (i_tup (p_var 1)) (blkOk_by (N := ["word", "parts", "logs", "part", "at"]) (sc := defScope s_is_row) (by decide +kernel)) (fun _ => (g_name 3 sc_is_row.nd)) (fun _ => bs_nil) (fun _ => (p_cmp (o_eq hr.units) (PP.u (p_ix (PP.u (p_var 3)) (PP.u p_int))) (PP.u (p_str [100, 101, 101, 100, 115]))))) sc_is_row.nd)
    (ss_cons (s_if (b_val (p_b1 (c_any rfl) T.b_any (by decide +kernel) (PP.u (p_lc [("part", 3)] rfl sc_is_row.nd (i_tup (p_var 1)) (blkOk_by (N := ["word", "parts", "logs", "part", "at"]) (sc := defScope s_is_row) (by decide +kernel)) (fun _ => (g_name 3 sc_is_row.nd)) (fun _ => bs_nil) (fun _ => (p_or (p_cmp (o_eq hr.units) (PP.u (p_ix (PP.u (p_var 3)) (PP.u p_int))) (PP.u (p_str [116, 104, 101, 110]))) (p_one (p_cmp (o_eq hr.units) (PP.u (p_var 3)) (PP.u (p_tup (l_cons (p_str [100, 101, 101, 100, 115]) (l_cons (p_str []) l_nil))))))))))))
    (ss_one (s_ret p_bl))
    ss_nil)
    (ss_one (s_ret (p_not (p_b1 (c_any rfl) T.b_any (by decide +kernel) (PP.u (p_lc [("at", 4)] rfl sc_is_row.nd (i_rng2 T.b_range (l_cons p_int (l_cons (p_b1 c_len T.b_len (by decide +kernel) (PP.u (p_var 2))) l_nil))) (blkOk_by (N := ["word", "parts", "logs", "part", "at"]) (sc := defScope s_is_row) (by decide +kernel)) (fun _ => (g_name 4 sc_is_row.nd)) (fun _ => bs_nil) (fun _ => (p_and (p_ix (PP.u (p_var 2)) (PP.u (p_op o_sub (PP.u (p_var 4)) (PP.u p_int)))) (p_one (p_ix (PP.u (p_var 2)) (PP.u (p_var 4)))))))))))))))
theorem sc_is_tree : FnScope ["value", "depth", "word", "part"] ["value", "depth"] (defScope s_is_tree) := ⟨rfl, rfl, rfl, by decide +kernel, rfl, by decide +kernel, by decide +kernel⟩
theorem ok_is_tree {f : Addr} {fd : FuncData} {fs_is_log fs_is_name fs_is_tree fs_is_within fs_is_row : FS} {dvs : List V} {kws : List (PySem.Str × V)} (F : L2.FunD K "is_tree" "is_tree" (defArgs s_is_tree) (defBody s_is_tree) (defScope s_is_tree) dvs kws f fd) (T : Txt P K mg C) {kk : Nat} (hkk : 2 ≤ kk) (D_is_log : Df P w K mg base "is_log" 1 1 fs_is_log) (D_is_name : Df P w K mg base "is_name" 1 1 fs_is_name) (D_is_tree : Df P w K mg base "is_tree" kk 2 fs_is_tree) (D_is_within : Df P w K mg base "is_within" 2 3 fs_is_within) (D_is_row : Df P w K mg base "is_row" 1 2 fs_is_row) : FnOk P w K mg base (L2.CX P w) (kk + 1) f fd ["value", "depth"] (spOf K 2 (m_is_tree  fs_is_log fs_is_name fs_is_tree fs_is_within fs_is_row )) := by
  refine fn_okD F sc_is_tree rfl (fun cdv A outer s H E hr => ⟨_, ?_, fun ds kd kx _ hf => hf⟩)
  have tk := takes_of (X := (cxOf (L2.CX P w) P w K mg base ["value", "depth", "word", "part"] "is_tree" (defScope s_is_tree) f cdv A outer s H E)) rfl rfl rfl rfl
  have po : PassesOwn (model P w) (cxOf (L2.CX P w) P w K mg base ["value", "depth", "word", "part"] "is_tree" (defScope s_is_tree) f cdv A outer s H E).A (cxOf (L2.CX P w) P w K mg base ["value", "depth", "word", "part"] "is_tree" (defScope s_is_tree) f cdv A outer s H E).env (cxOf (L2.CX P w) P w K mg base ["value", "depth", "word", "part"] "is_tree" (defScope s_is_tree) f cdv A outer s H E).xe := passes_of rfl
  exact (ss_cons (s_if (PBw.to (b_or (b_cmp (o_eq hr.units) (PP.u (p_var 1)) (PP.u p_int)) (b_or (b_not (b_val (p_isi "tuple" (PP.u (p_var 0)) (pe_bltn (v := .ty "tuple") (by rfl) T.b_tuple (by decide +kernel) rfl) T.b_isinstance))) (b_or (b_cmp o_lt (PP.u (p_b1 c_len T.b_len (by decide +kernel) (PP.u (p_var 0)))) (PP.u p_int)) (b_or1 (b_not (b_val (p_isi "str" (PP.u (p_ix (PP.u (p_var 0)) (PP.u p_int))) (pe_bltn (v := .ty "str") (by rfl) T.b_str (by decide +kernel) rfl) T.b_isinstance))))))))
    (ss_one (s_ret p_bl))
    ss_nil)
    (ss_cons (s_set 2 (p_ix (PP.u (p_var 0)) (PP.u p_int)) sc_is_tree.nd)
    (ss_cons (s_if (b_cmp (o_eq hr.units) (PP.u (p_var 2)) (PP.u (p_str [100, 101, 101, 100, 115])))
    (ss_one (s_ret (p_and (p_cmp (o_eq hr.units) (PP.u (p_b1 c_len T.b_len (by decide +kernel) (PP.u (p_var 0)))) (PP.u p_int)) (p_one (p_call D_is_log hr (by omega) tk (l_cons (p_ix (PP.u (p_var 0)) (PP.u p_int)) l_nil))))))
    ss_nil)
    (ss_cons (s_if (b_cmp (o_eq hr.units) (PP.u (p_var 2)) (PP.u (p_str [110, 97, 109, 101])))
    (ss_one (s_ret (p_and (p_cmp (o_eq hr.units) (PP.u (p_b1 c_len T.b_len (by decide +kernel) (PP.u (p_var 0)))) (PP.u p_int)) (p_one (p_call D_is_name hr (by omega) tk (l_cons (p_ix (PP.u (p_var 0)) (PP.u p_int)) l_nil))))))
    ss_nil)
    (ss_cons (s_if (b_cmp (o_eq hr.units) (PP.u (p_var 2)) (PP.u (p_str [97, 103, 97, 105, 110])))
    (ss_one (s_ret (p_and (p_cmp (o_eq hr.units) (PP.u (p_b1 c_len T.b_len (by decide +kernel) (PP.u (p_var 0)))) (PP.u p_int)) (p_one (p_call D_is_tree hr (by omega) tk (l_cons (p_ix (PP.u (p_var 0)) (PP.u p_int)) (l_cons (p_op o_sub (PP.u (p_var 1)) (PP.u p_int)) l_nil)))))))
    ss_nil)
    (ss_cons (s_if (b_cmp (o_eq hr.units) (PP.u (p_var 2)) (PP.u (p_str [116, 105, 109, 101, 115])))
    (ss_one (s_ret (p_and (p_cmp (o_eq hr.units) (PP.u (p_b1 c_len T.b_len (by decide +kernel) (PP.u (p_var 0)))) (PP.u p_int)) (p_and (p_call D_is_tree hr (by omega) tk (l_cons (p_ix (PP.u (p_var 0)) (PP.u p_int)) (l_cons (p_op o_sub (PP.u (p_var 1)) (PP.u p_int)) l_nil))) (p_one (p_call D_is_within hr (by omega) tk (l_cons (p_ix (PP.u (p_var 0)) (PP.u p_int)) (l_cons p_int (l_cons (p_globI (by rfl) T.MOST_TIMES) l_nil)))))))))
    ss_nil)
    (ss_cons (s_if (PBw.to (b_or (b_cmp (o_notInDT hr.units) (PP.u (p_var 2)) (PP.u (p_tup (l_cons (p_str [116, 104, 101, 110]) (l_cons (p_str [101, 105, 116, 104, 101, 114]) l_nil))))) (b_or1 (b_not (b_chain o_le o_le (PP.u p_int) (PP.u (p_b1 c_len T.b_len (by decide +kernel) (PP.u (p_var 0)))) (PP.u (p_op o_add (PP.u (p_globI (by rfl) T.MOST_PARTS)) (PP.u p_int))))))))
    (ss_one (s_ret p_bl))
    ss_nil)
    (ss_one (s_ret (p_and (p_b1 (c_all rfl) T.b_all (by decide +kernel) (PP.u (p_lc [("part", 3)] rfl sc_is_tree.nd (i_tup (p_slice (PP.u (p_var 0)) (s_some p_int) s_none)) (blkOk_by (N := ["value", "depth", "word", "part"]) (sc := defScope s_is_tree) (by decide +kernel)) (fun _ => (g_name 3 sc_is_tree.nd)) (fun _ => bs_nil) (fun _ => (p_call D_is_tree hr (by omega) takes0 (l_cons (p_var 3) (l_cons (p_op o_sub (PP.u (p_var 1)) (PP.u p_int)) l_nil))))))) (p_one (p_call D_is_row hr (by omega) tk (l_cons (p_var 2) (l_cons (p_slice (PP.u (p_var 0)) (s_some p_int) s_none) l_nil))))))))))))))
theorem sc_need_tree : FnScope ["value"] ["value"] (defScope s_need_tree) := ⟨rfl, rfl, rfl, by decide +kernel, rfl, by decide +kernel, by decide +kernel⟩
theorem ok_need_tree {f : Addr} {fd : FuncData} {fs_is_tree : FS} (F : Fun K "need_tree" "need_tree" s_need_tree f fd) (T : Txt P K mg C) (DR_is_tree : DfR P w K mg base "is_tree" 18 1 fs_is_tree) : FnOk P w K mg base (L2.CX P w) (18 + 1) f fd ["value"] (spOf K 1 (m_need_tree C.InvalidTree fs_is_tree )) := by
  refine fn_ok F sc_need_tree rfl (fun cdv A outer s H E hr => ⟨_, ?_, fun ds kd kx _ hf => hf⟩)
  have tk := takes_of (X := (cxOf (L2.CX P w) P w K mg base ["value"] "need_tree" (defScope s_need_tree) f cdv A outer s H E)) rfl rfl rfl rfl
  have po : PassesOwn (model P w) (cxOf (L2.CX P w) P w K mg base ["value"] "need_tree" (defScope s_need_tree) f cdv A outer s H E).A (cxOf (L2.CX P w) P w K mg base ["value"] "need_tree" (defScope s_need_tree) f cdv A outer s H E).env (cxOf (L2.CX P w) P w K mg base ["value"] "need_tree" (defScope s_need_tree) f cdv A outer s H E).xe := passes_of rfl
  exact (ss_one (s_if (b_not (b_val (p_callR DR_is_tree hr (by decide) tk (l_cons (p_var 0) l_nil))))
    (ss_one (s_raise0 rfl T.x_InvalidTree (by decide) hr tk))
    ss_nil))
theorem sc_text_of : FnScope ["tree", "part", "text"] ["tree"] (defScope s_text_of) := ⟨rfl, rfl, rfl, by decide +kernel, rfl, by decide +kernel, by decide +kernel⟩
theorem ok_text_of {f : Addr} {fd : FuncData} {fs_text_of : FS} (F : Fun K "text_of" "text_of" s_text_of f fd) (T : Txt P K mg C) {kk : Nat} (hkk : 0 ≤ kk) (D_text_of : Df P w K mg base "text_of" kk 1 fs_text_of) : FnOk P w K mg base (L2.CX P w) (kk + 1) f fd ["tree"] (spOf K 1 (m_text_of  fs_text_of )) := by
  refine fn_ok F sc_text_of rfl (fun cdv A outer s H E hr => ⟨_, ?_, fun ds kd kx _ hf => hf⟩)
  have tk := takes_of (X := (cxOf (L2.CX P w) P w K mg base ["tree", "part", "text"] "text_of" (defScope s_text_of) f cdv A outer s H E)) rfl rfl rfl rfl
  have po : PassesOwn (model P w) (cxOf (L2.CX P w) P w K mg base ["tree", "part", "text"] "text_of" (defScope s_text_of) f cdv A outer s H E).A (cxOf (L2.CX P w) P w K mg base ["tree", "part", "text"] "text_of" (defScope s_text_of) f cdv A outer s H E).env (cxOf (L2.CX P w) P w K mg base ["tree", "part", "text"] "text_of" (defScope s_text_of) f cdv A outer s H E).xe := passes_of rfl
  exact (ss_cons (s_match (p_ix (PP.u (p_var 0)) (PP.u p_int)) (.cons [100, 101, 101, 100, 115] (ss_one (s_ret (p_ifExp (b_cmp (o_ne hr.units) (PP.u (p_ix (PP.u (p_var 0)) (PP.u p_int))) (PP.u (p_str []))) (p_ix (PP.u (p_var 0)) (PP.u p_int)) (p_str [45]))))
    (.cons [110, 97, 109, 101] (ss_one (s_ret (p_ix (PP.u (p_var 0)) (PP.u p_int))))
    (.cons [116, 104, 101, 110] (ss_one (s_ret (p_join (p_str [46]) (PP.u (p_lc [("part", 1)] rfl sc_text_of.nd (i_tup (p_slice (PP.u (p_var 0)) (s_some p_int) s_none)) (blkOk_by (N := ["tree", "part", "text"]) (sc := defScope s_text_of) (by decide +kernel)) (fun _ => (g_name 1 sc_text_of.nd)) (fun _ => bs_nil) (fun _ => (p_call D_text_of hr (by omega) takes0 (l_cons (p_var 1) l_nil))))) (fun _ _ pa pb => pe_join pa pb))))
    (.cons [101, 105, 116, 104, 101, 114] (ss_one (s_ret (p_joined (FJ.cons (p_str [40]) (FJ.cons (p_fmt (p_join (p_str [124]) (PP.u (p_lc [("part", 1)] rfl sc_text_of.nd (i_tup (p_slice (PP.u (p_var 0)) (s_some p_int) s_none)) (blkOk_by (N := ["tree", "part", "text"]) (sc := defScope s_text_of) (by decide +kernel)) (fun _ => (g_name 1 sc_text_of.nd)) (fun _ => bs_nil) (fun _ => (p_call D_text_of hr (by omega) takes0 (l_cons (p_var 1) l_nil))))) (fun _ _ pa pb => pe_join pa pb))) (FJ.cons (p_str [41]) FJ.nil))))))
    .nil)))))
    (ss_cons (s_set 2 (p_ifExp (b_cmp (o_eq hr.units) (PP.u (p_ix (PP.u (p_ix (PP.u (p_var 0)) (PP.u p_int))) (PP.u p_int))) (PP.u (p_str [116, 104, 101, 110]))) (p_joined (FJ.cons (p_str [40]) (FJ.cons (p_fmt (p_call D_text_of hr (by omega) tk (l_cons (p_ix (PP.u (p_var 0)) (PP.u p_int)) l_nil))) (FJ.cons (p_str [41]) FJ.nil)))) (p_call D_text_of hr (by omega) tk (l_cons (p_ix (PP.u (p_var 0)) (PP.u p_int)) l_nil))) sc_text_of.nd)
    (ss_one (s_ret (p_ifExp (b_cmp (o_eq hr.units) (PP.u (p_ix (PP.u (p_var 0)) (PP.u p_int))) (PP.u (p_str [116, 105, 109, 101, 115]))) (p_joined (FJ.cons (p_fmt (p_var 2)) (FJ.cons (p_str [94]) (FJ.cons (p_fmt (p_ix (PP.u (p_var 0)) (PP.u p_int))) FJ.nil)))) (p_joined (FJ.cons (p_fmt (p_var 2)) (FJ.cons (p_str [94, 42]) FJ.nil))))))))
theorem sc_script_text : FnScope ["tree"] ["tree"] (defScope s_script_text) := ⟨rfl, rfl, rfl, by decide +kernel, rfl, by decide +kernel, by decide +kernel⟩
theorem ok_script_text {f : Addr} {fd : FuncData} {fs_need_tree fs_text_of : FS} (F : Fun K "script_text" "script_text" s_script_text f fd) (T : Txt P K mg C) (D_need_tree : Df P w K mg base "need_tree" 19 1 fs_need_tree) (D_text_of : Df P w K mg base "text_of" 22 1 fs_text_of) : FnOk P w K mg base (L2.CX P w) (22 + 1) f fd ["tree"] (spOf K 1 (m_script_text  fs_need_tree fs_text_of )) := by
  refine fn_ok F sc_script_text rfl (fun cdv A outer s H E hr => ⟨_, ?_, fun ds kd kx _ hf => hf⟩)
  have tk := takes_of (X := (cxOf (L2.CX P w) P w K mg base ["tree"] "script_text" (defScope s_script_text) f cdv A outer s H E)) rfl rfl rfl rfl
  have po : PassesOwn (model P w) (cxOf (L2.CX P w) P w K mg base ["tree"] "script_text" (defScope s_script_text) f cdv A outer s H E).A (cxOf (L2.CX P w) P w K mg base ["tree"] "script_text" (defScope s_script_text) f cdv A outer s H E).env (cxOf (L2.CX P w) P w K mg base ["tree"] "script_text" (defScope s_script_text) f cdv A outer s H E).xe := passes_of rfl
  exact (ss_cons (s_expr (PP.u (p_call D_need_tree hr (by decide) tk (l_cons (p_var 0) l_nil))))
    (ss_one (s_ret (p_call D_text_of hr (by decide) tk (l_cons (p_var 0) l_nil)))))
theorem sc_Reader___init__ : FnScope ["self", "text"] ["self", "text"] (defScope s_Reader___init__) := ⟨rfl, rfl, rfl, by decide +kernel, rfl, by decide +kernel, by decide +kernel⟩
theorem ok_Reader___init__ {f : Addr} {fd : FuncData} (F : Fun K "__init__" "Reader.__init__" s_Reader___init__ f fd) (T : Txt P K mg C)  : FnOk P w K mg base (L2.CX P w) (0 + 1) f fd ["self", "text"] (spOi K 2 (m_Reader___init__ C.Reader  )) := by
  refine fn_okI F sc_Reader___init__ rfl (fun cdv A outer s H E hr => ⟨_, ?_, fun ds kd kx p _ hf => hf p⟩)
  have tk := takes_of (X := (cxOf (L2.CX P w) P w K mg base ["self", "text"] "Reader.__init__" (defScope s_Reader___init__) f cdv A outer s H E)) rfl rfl rfl rfl
  have po : PassesOwn (model P w) (cxOf (L2.CX P w) P w K mg base ["self", "text"] "Reader.__init__" (defScope s_Reader___init__) f cdv A outer s H E).A (cxOf (L2.CX P w) P w K mg base ["self", "text"] "Reader.__init__" (defScope s_Reader___init__) f cdv A outer s H E).env (cxOf (L2.CX P w) P w K mg base ["self", "text"] "Reader.__init__" (defScope s_Reader___init__) f cdv A outer s H E).xe := passes_of rfl
  exact (ss_one (s_setF (cs := [C.Reader]) 0 (fun c hc => by (rcases List.mem_cons.mp hc with rfl | hc; exact T.n_Reader_text_left; cases hc)) (p_var 1)))
theorem sc_Reader_run : FnScope ["self", "signs", "size", "piece"] ["self", "signs"] (defScope s_Reader_run) := ⟨rfl, rfl, rfl, by decide +kernel, rfl, by decide +kernel, by decide +kernel⟩
theorem ok_Reader_run {f : Addr} {fd : FuncData} (F : Fun K "run" "Reader.run" s_Reader_run f fd) (T : Txt P K mg C)  : FnOk P w K mg base (L2.CX P w) (0 + 1) f fd ["self", "signs"] (spOi K 2 (m_Reader_run C.Reader  )) := by
  refine fn_okI F sc_Reader_run rfl (fun cdv A outer s H E hr => ⟨_, ?_, fun ds kd kx p _ hf => hf p⟩)
  have tk := takes_of (X := (cxOf (L2.CX P w) P w K mg base ["self", "signs", "size", "piece"] "Reader.run" (defScope s_Reader_run) f cdv A outer s H E)) rfl rfl rfl rfl
  have po : PassesOwn (model P w) (cxOf (L2.CX P w) P w K mg base ["self", "signs", "size", "piece"] "Reader.run" (defScope s_Reader_run) f cdv A outer s H E).A (cxOf (L2.CX P w) P w K mg base ["self", "signs", "size", "piece"] "Reader.run" (defScope s_Reader_run) f cdv A outer s H E).env (cxOf (L2.CX P w) P w K mg base ["self", "signs", "size", "piece"] "Reader.run" (defScope s_Reader_run) f cdv A outer s H E).xe := passes_of rfl
  exact (ss_cons (s_set 2 p_int sc_Reader_run.nd)
    (ss_cons (s_while po (PBw.to (b_and (b_cmp o_lt (PP.u (p_var 2)) (PP.u (p_b1 c_len T.b_len (by decide +kernel) (PP.u (p_fld (cs := [C.Reader]) (fun c hc => by (rcases List.mem_cons.mp hc with rfl | hc; exact T.n_Reader_text_left; cases hc)) (u_var 0)))))) (b_and1 (b_cmp o_inS (PP.u (p_ix (PP.u (p_fld (cs := [C.Reader]) (fun c hc => by (rcases List.mem_cons.mp hc with rfl | hc; exact T.n_Reader_text_left; cases hc)) (u_var 0))) (PP.u (p_var 2)))) (PP.u (p_var 1))))))
    (ss_one (s_aug 2 ip_add p_int sc_Reader_run.nd)))
    (ss_cons (s_set 3 (p_slice (PP.u (p_fld (cs := [C.Reader]) (fun c hc => by (rcases List.mem_cons.mp hc with rfl | hc; exact T.n_Reader_text_left; cases hc)) (u_var 0))) s_none (s_some (p_var 2))) sc_Reader_run.nd)
    (ss_cons (s_setF (cs := [C.Reader]) 0 (fun c hc => by (rcases List.mem_cons.mp hc with rfl | hc; exact T.n_Reader_text_left; cases hc)) (p_slice (PP.u (p_fld (cs := [C.Reader]) (fun c hc => by (rcases List.mem_cons.mp hc with rfl | hc; exact T.n_Reader_text_left; cases hc)) (u_var 0))) (s_some (p_var 2)) s_none))
    (ss_one (s_ret (p_var 3)))))))
theorem sc_Reader_passed : FnScope ["self", "sign"] ["self", "sign"] (defScope s_Reader_passed) := ⟨rfl, rfl, rfl, by decide +kernel, rfl, by decide +kernel, by decide +kernel⟩
theorem ok_Reader_passed {f : Addr} {fd : FuncData} (F : Fun K "passed" "Reader.passed" s_Reader_passed f fd) (T : Txt P K mg C)  : FnOk P w K mg base (L2.CX P w) (0 + 1) f fd ["self", "sign"] (spOi K 2 (m_Reader_passed C.Reader  )) := by
  refine fn_okI F sc_Reader_passed rfl (fun cdv A outer s H E hr => ⟨_, ?_, fun ds kd kx p _ hf => hf p⟩)
  have tk := takes_of (X := (cxOf (L2.CX P w) P w K mg base ["self", "sign"] "Reader.passed" (defScope s_Reader_passed) f cdv A outer s H E)) rfl rfl rfl rfl
  have po : PassesOwn (model P w) (cxOf (L2.CX P w) P w K mg base ["self", "sign"] "Reader.passed" (defScope s_Reader_passed) f cdv A outer s H E).A (cxOf (L2.CX P w) P w K mg base ["self", "sign"] "Reader.passed" (defScope s_Reader_passed) f cdv A outer s H E).env (cxOf (L2.CX P w) P w K mg base ["self", "sign"] "Reader.passed" (defScope s_Reader_passed) f cdv A outer s H E).xe := passes_of rfl
  exact (ss_cons (s_if (b_cmp (o_ne hr.units) (PP.u (p_slice (PP.u (p_fld (cs := [C.Reader]) (fun c hc => by (rcases List.mem_cons.mp hc with rfl | hc; exact T.n_Reader_text_left; cases hc)) (u_var 0))) s_none (s_some p_int))) (PP.u (p_var 1)))
    (ss_one (s_ret p_bl))
    ss_nil)
    (ss_cons (s_setF (cs := [C.Reader]) 0 (fun c hc => by (rcases List.mem_cons.mp hc with rfl | hc; exact T.n_Reader_text_left; cases hc)) (p_slice (PP.u (p_fld (cs := [C.Reader]) (fun c hc => by (rcases List.mem_cons.mp hc with rfl | hc; exact T.n_Reader_text_left; cases hc)) (u_var 0))) (s_some p_int) s_none))
    (ss_one (s_ret p_bl))))
theorem sc_Reader_atom : FnScope ["self", "depth", "parts", "log", "name"] ["self", "depth"] (defScope s_Reader_atom) := ⟨rfl, rfl, rfl, by decide +kernel, rfl, by decide +kernel, by decide +kernel⟩
theorem ok_Reader_atom {f : Addr} {fd : FuncData} {fs_is_name : FS} {gs_Reader_passed gs_Reader_row gs_Reader_run : FSo} (F : Fun K "atom" "Reader.atom" s_Reader_atom f fd) (T : Txt P K mg C) {kk : Nat} (hkk : 1 ≤ kk) (D_is_name : Df P w K mg base "is_name" 1 1 fs_is_name) (MI_Reader_passed : MtI P w K mg base C.Reader "passed" 1 1 gs_Reader_passed) (MI_Reader_row : MtI P w K mg base C.Reader "row" kk 1 gs_Reader_row) (MI_Reader_run : MtI P w K mg base C.Reader "run" 1 1 gs_Reader_run) : FnOk P w K mg base (L2.CX P w) (kk + 1) f fd ["self", "depth"] (spOi K 2 (m_Reader_atom C.InvalidText C.Reader fs_is_name gs_Reader_passed gs_Reader_row gs_Reader_run)) := by
  refine fn_okI F sc_Reader_atom rfl (fun cdv A outer s H E hr => ⟨_, ?_, fun ds kd kx p _ hf => hf p⟩)
  have tk := takes_of (X := (cxOf (L2.CX P w) P w K mg base ["self", "depth", "parts", "log", "name"] "Reader.atom" (defScope s_Reader_atom) f cdv A outer s H E)) rfl rfl rfl rfl
  have po : PassesOwn (model P w) (cxOf (L2.CX P w) P w K mg base ["self", "depth", "parts", "log", "name"] "Reader.atom" (defScope s_Reader_atom) f cdv A outer s H E).A (cxOf (L2.CX P w) P w K mg base ["self", "depth", "parts", "log", "name"] "Reader.atom" (defScope s_Reader_atom) f cdv A outer s H E).env (cxOf (L2.CX P w) P w K mg base ["self", "depth", "parts", "log", "name"] "Reader.atom" (defScope s_Reader_atom) f cdv A outer s H E).xe := passes_of rfl
  exact (ss_cons (s_if (b_cmp (o_eq hr.units) (PP.u (p_var 1)) (PP.u p_int))
    (ss_one (s_raise0 rfl T.x_InvalidText (by decide) (Room.mono hr (show 0 + 1 ≤ _ by omega)) tk))
    ss_nil)
    (ss_cons (s_ifZ (bz_val (z_meth 0 (ms := [(C.Reader, gs_Reader_passed)]) (fun c hc => by (rcases List.mem_cons.mp hc with rfl | hc; exact MI_Reader_passed; cases hc)) hr (by omega) tk (l_cons (p_str [40]) l_nil)))
    (ss_cons (s_own1Z 2 (z_meth 0 (ms := [(C.Reader, gs_Reader_row)]) (fun c hc => by (rcases List.mem_cons.mp hc with rfl | hc; exact MI_Reader_row; cases hc)) hr (by omega) tk (l_cons (p_op o_sub (PP.u (p_var 1)) (PP.u p_int)) l_nil)) sc_Reader_atom.nd)
    (ss_cons (s_whileZ po (bz_val (z_meth 0 (ms := [(C.Reader, gs_Reader_passed)]) (fun c hc => by (rcases List.mem_cons.mp hc with rfl | hc; exact MI_Reader_passed; cases hc)) hr (by omega) tk (l_cons (p_str [124]) l_nil)))
    (ss_one (s_appendZ 2 (z_meth 0 (ms := [(C.Reader, gs_Reader_row)]) (fun c hc => by (rcases List.mem_cons.mp hc with rfl | hc; exact MI_Reader_row; cases hc)) hr (by omega) tk (l_cons (p_op o_sub (PP.u (p_var 1)) (PP.u p_int)) l_nil)) (fun _ pa => pe_bm PySem.F.plainAttrs_list PySem.F.slot_list_append PySem.F.type_list_append mt_append (pv 2) (pa_cons pa pa_nil)))))
    (ss_cons (s_ifZ (bz_not (bz_val (z_meth 0 (ms := [(C.Reader, gs_Reader_passed)]) (fun c hc => by (rcases List.mem_cons.mp hc with rfl | hc; exact MI_Reader_passed; cases hc)) hr (by omega) tk (l_cons (p_str [41]) l_nil))))
    (ss_one (s_raise0 rfl T.x_InvalidText (by decide) (Room.mono hr (show 0 + 1 ≤ _ by omega)) tk))
    ss_nil)
    (ss_one (s_ret (p_ifExp (b_cmp o_gt (PP.u (p_b1 c_len T.b_len (by decide +kernel) (u_var 2))) (PP.u p_int)) (p_tup (l_cons (p_str [101, 105, 116, 104, 101, 114]) (l_star (u_var 2) l_nil))) (p_ix (u_var 2) (PP.u p_int))))))))
    ss_nil)
    (ss_cons (s_ifZ (bz_val (z_meth 0 (ms := [(C.Reader, gs_Reader_passed)]) (fun c hc => by (rcases List.mem_cons.mp hc with rfl | hc; exact MI_Reader_passed; cases hc)) hr (by omega) tk (l_cons (p_str [45]) l_nil)))
    (ss_one (s_ret (p_tup (l_cons (p_str [100, 101, 101, 100, 115]) (l_cons (p_str []) l_nil)))))
    ss_nil)
    (ss_cons (s_setZ 3 (z_meth 0 (ms := [(C.Reader, gs_Reader_run)]) (fun c hc => by (rcases List.mem_cons.mp hc with rfl | hc; exact MI_Reader_run; cases hc)) hr (by omega) tk (l_cons (p_globS (s := [97, 98, 99, 100, 101, 102, 103, 104, 105, 106, 107, 108, 109, 110, 111, 112, 113, 114, 115, 116, 117, 118, 119, 120, 121, 122]) (by rfl) T.LETTERS) l_nil)) sc_Reader_atom.nd)
    (ss_cons (s_if (b_cmp (o_ne hr.units) (PP.u (p_var 3)) (PP.u (p_str [])))
    (ss_one (s_ret (p_tup (l_cons (p_str [100, 101, 101, 100, 115]) (l_cons (p_var 3) l_nil)))))
    ss_nil)
    (ss_cons (s_setZ 4 (z_meth 0 (ms := [(C.Reader, gs_Reader_run)]) (fun c hc => by (rcases List.mem_cons.mp hc with rfl | hc; exact MI_Reader_run; cases hc)) hr (by omega) tk (l_cons (p_globS (s := [65, 66, 67, 68, 69, 70, 71, 72, 73, 74, 75, 76, 77, 78, 79, 80, 81, 82, 83, 84, 85, 86, 87, 88, 89, 90]) (by rfl) T.CAPITALS) l_nil)) sc_Reader_atom.nd)
    (ss_cons (s_if (b_not (b_val (p_call D_is_name hr (by omega) tk (l_cons (p_var 4) l_nil))))
    (ss_one (s_raise0 rfl T.x_InvalidText (by decide) (Room.mono hr (show 0 + 1 ≤ _ by omega)) tk))
    ss_nil)
    (ss_one (s_ret (p_tup (l_cons (p_str [110, 97, 109, 101]) (l_cons (p_var 4) l_nil))))))))))))
theorem sc_Reader_powers : FnScope ["self", "depth", "found", "count", "digits"] ["self", "depth"] (defScope s_Reader_powers) := ⟨rfl, rfl, rfl, by decide +kernel, rfl, by decide +kernel, by decide +kernel⟩
theorem ok_Reader_powers {f : Addr} {fd : FuncData} {gs_Reader_atom gs_Reader_passed gs_Reader_run : FSo} (F : Fun K "powers" "Reader.powers" s_Reader_powers f fd) (T : Txt P K mg C) {kk : Nat} (hkk : 1 ≤ kk) (MI_Reader_atom : MtI P w K mg base C.Reader "atom" kk 1 gs_Reader_atom) (MI_Reader_passed : MtI P w K mg base C.Reader "passed" 1 1 gs_Reader_passed) (MI_Reader_run : MtI P w K mg base C.Reader "run" 1 1 gs_Reader_run) : FnOk P w K mg base (L2.CX P w) (kk + 1) f fd ["self", "depth"] (spOi K 2 (m_Reader_powers C.InvalidText C.Reader  gs_Reader_atom gs_Reader_passed gs_Reader_run)) := by
  refine fn_okI F sc_Reader_powers rfl (fun cdv A outer s H E hr => ⟨_, ?_, fun ds kd kx p _ hf => hf p⟩)
  have tk := takes_of (X := (cxOf (L2.CX P w) P w K mg base ["self", "depth", "found", "count", "digits"] "Reader.powers" (defScope s_Reader_powers) f cdv A outer s H E)) rfl rfl rfl rfl
  have po : PassesOwn (model P w) (cxOf (L2.CX P w) P w K mg base ["self", "depth", "found", "count", "digits"] "Reader.powers" (defScope s_Reader_powers) f cdv A outer s H E).A (cxOf (L2.CX P w) P w K mg base ["self", "depth", "found", "count", "digits"] "Reader.powers" (defScope s_Reader_powers) f cdv A outer s H E).env (cxOf (L2.CX P w) P w K mg base ["self", "depth", "found", "count", "digits"] "Reader.powers" (defScope s_Reader_powers) f cdv A outer s H E).xe := passes_of rfl
  exact (ss_cons (s_par2Z 2 3 rfl sc_Reader_powers.nd (z_meth 0 (ms := [(C.Reader, gs_Reader_atom)]) (fun c hc => by (rcases List.mem_cons.mp hc with rfl | hc; exact MI_Reader_atom; cases hc)) hr (by omega) tk (l_cons (p_var 1) l_nil)) p_int)
    (ss_cons (s_whileZ po (bz_val (z_meth 0 (ms := [(C.Reader, gs_Reader_passed)]) (fun c hc => by (rcases List.mem_cons.mp hc with rfl | hc; exact MI_Reader_passed; cases hc)) hr (by omega) tk (l_cons (p_str [94]) l_nil)))
    (ss_cons (s_aug 3 ip_add p_int sc_Reader_powers.nd)
    (ss_cons (s_if (b_cmp o_gt (PP.u (p_var 3)) (PP.u (p_globI (by rfl) T.MOST_DEPTH)))
    (ss_one (s_raise0 rfl T.x_InvalidText (by decide) (Room.mono hr (show 0 + 1 ≤ _ by omega)) tk))
    ss_nil)
    (ss_cons (s_ifZ (bz_val (z_meth 0 (ms := [(C.Reader, gs_Reader_passed)]) (fun c hc => by (rcases List.mem_cons.mp hc with rfl | hc; exact MI_Reader_passed; cases hc)) hr (by omega) tk (l_cons (p_str [42]) l_nil)))
    (ss_cons (s_set 2 (p_tup (l_cons (p_str [97, 103, 97, 105, 110]) (l_cons (p_var 2) l_nil))) sc_Reader_powers.nd)
    (ss_one s_cont))
    ss_nil)
    (ss_cons (s_setZ 4 (z_meth 0 (ms := [(C.Reader, gs_Reader_run)]) (fun c hc => by (rcases List.mem_cons.mp hc with rfl | hc; exact MI_Reader_run; cases hc)) hr (by omega) tk (l_cons (p_globS (s := [48, 49, 50, 51, 52, 53, 54, 55, 56, 57]) (by rfl) T.DIGITS) l_nil)) sc_Reader_powers.nd)
    (ss_cons (s_if (PBw.to (b_or (b_not (b_chain o_le o_le (PP.u p_int) (PP.u (p_b1 c_len T.b_len (by decide +kernel) (PP.u (p_var 4)))) (PP.u p_int))) (b_or1 (PBw.to (b_and (b_cmp (o_eq hr.units) (PP.u (p_ix (PP.u (p_var 4)) (PP.u p_int))) (PP.u (p_str [48]))) (b_and1 (b_cmp (o_ne hr.units) (PP.u (p_var 4)) (PP.u (p_str [48])))))))))
    (ss_one (s_raise0 rfl T.x_InvalidText (by decide) (Room.mono hr (show 0 + 1 ≤ _ by omega)) tk))
    ss_nil)
    (ss_one (s_set 2 (p_tup (l_cons (p_str [116, 105, 109, 101, 115]) (l_cons (p_var 2) (l_cons (p_t1 c_intS T.b_int (by decide +kernel) (PP.u (p_var 4))) l_nil)))) sc_Reader_powers.nd))))))))
    (ss_one (s_ret (p_var 2)))))
theorem sc_Reader_row : FnScope ["self", "depth", "parts"] ["self", "depth"] (defScope s_Reader_row) := ⟨rfl, rfl, rfl, by decide +kernel, rfl, by decide +kernel, by decide +kernel⟩
theorem ok_Reader_row {f : Addr} {fd : FuncData} {gs_Reader_powers gs_Reader_passed : FSo} (F : Fun K "row" "Reader.row" s_Reader_row f fd) (T : Txt P K mg C) {kk : Nat} (hkk : 1 ≤ kk) (MI_Reader_powers : MtI P w K mg base C.Reader "powers" kk 1 gs_Reader_powers) (MI_Reader_passed : MtI P w K mg base C.Reader "passed" 1 1 gs_Reader_passed) : FnOk P w K mg base (L2.CX P w) (kk + 1) f fd ["self", "depth"] (spOi K 2 (m_Reader_row C.Reader  gs_Reader_powers gs_Reader_passed)) := by
  refine fn_okI F sc_Reader_row rfl (fun cdv A outer s H E hr => ⟨_, ?_, fun ds kd kx p _ hf => hf p⟩)
  have tk := takes_of (X := (cxOf (L2.CX P w) P w K mg base ["self", "depth", "parts"] "Reader.row" (defScope s_Reader_row) f cdv A outer s H E)) rfl rfl rfl rfl
  have po : PassesOwn (model P w) (cxOf (L2.CX P w) P w K mg base ["self", "depth", "parts"] "Reader.row" (defScope s_Reader_row) f cdv A outer s H E).A (cxOf (L2.CX P w) P w K mg base ["self", "depth", "parts"] "Reader.row" (defScope s_Reader_row) f cdv A outer s H E).env (cxOf (L2.CX P w) P w K mg base ["self", "depth", "parts"] "Reader.row" (defScope s_Reader_row) f cdv A outer s H E).xe := passes_of rfl
  exact (ss_cons (s_own1Z 2 (z_meth 0 (ms := [(C.Reader, gs_Reader_powers)]) (fun c hc => by (rcases List.mem_cons.mp hc with rfl | hc; exact MI_Reader_powers; cases hc)) hr (by omega) tk (l_cons (p_var 1) l_nil)) sc_Reader_row.nd)
    (ss_cons (s_whileZ po (bz_val (z_meth 0 (ms := [(C.Reader, gs_Reader_passed)]) (fun c hc => by (rcases List.mem_cons.mp hc with rfl | hc; exact MI_Reader_passed; cases hc)) hr (by omega) tk (l_cons (p_str [46]) l_nil)))
    (ss_one (s_appendZ 2 (z_meth 0 (ms := [(C.Reader, gs_Reader_powers)]) (fun c hc => by (rcases List.mem_cons.mp hc with rfl | hc; exact MI_Reader_powers; cases hc)) hr (by omega) tk (l_cons (p_var 1) l_nil)) (fun _ pa => pe_bm PySem.F.plainAttrs_list PySem.F.slot_list_append PySem.F.type_list_append mt_append (pv 2) (pa_cons pa pa_nil)))))
    (ss_one (s_ret (p_ifExp (b_cmp o_gt (PP.u (p_b1 c_len T.b_len (by decide +kernel) (u_var 2))) (PP.u p_int)) (p_tup (l_cons (p_str [116, 104, 101, 110]) (l_star (u_var 2) l_nil))) (p_ix (u_var 2) (PP.u p_int)))))))
theorem sc_read_script : FnScope ["text", "reader", "found"] ["text"] (defScope s_read_script) := ⟨rfl, rfl, rfl, by decide +kernel, rfl, by decide +kernel, by decide +kernel⟩
theorem ok_read_script {f : Addr} {fd : FuncData} {fs_text_of fs_is_tree : FS} {g_Reader gs_Reader_row : FSo} (F : Fun K "read_script" "read_script" s_read_script f fd) (T : Txt P K mg C) (D_text_of : Df P w K mg base "text_of" 22 1 fs_text_of) (Mk_Reader : MkI P w K mg base C.Reader 1 1 g_Reader) (MI_Reader_row : MtI P w K mg base C.Reader "row" 43 1 gs_Reader_row) (DR_is_tree : DfR P w K mg base "is_tree" 18 1 fs_is_tree) : FnOk P w K mg base (L2.CX P w) (43 + 1) f fd ["text"] (spOf K 1 (m_read_script C.InvalidText C.Reader fs_text_of fs_is_tree g_Reader gs_Reader_row)) := by
  refine fn_ok F sc_read_script rfl (fun cdv A outer s H E hr => ⟨_, ?_, fun ds kd kx _ hf => hf⟩)
  have tk := takes_of (X := (cxOf (L2.CX P w) P w K mg base ["text", "reader", "found"] "read_script" (defScope s_read_script) f cdv A outer s H E)) rfl rfl rfl rfl
  have po : PassesOwn (model P w) (cxOf (L2.CX P w) P w K mg base ["text", "reader", "found"] "read_script" (defScope s_read_script) f cdv A outer s H E).A (cxOf (L2.CX P w) P w K mg base ["text", "reader", "found"] "read_script" (defScope s_read_script) f cdv A outer s H E).env (cxOf (L2.CX P w) P w K mg base ["text", "reader", "found"] "read_script" (defScope s_read_script) f cdv A outer s H E).xe := passes_of rfl
  exact (ss_cons (s_if (b_not (b_val (p_isi "str" (PP.u (p_var 0)) (pe_bltn (v := .ty "str") (by rfl) T.b_str (by decide +kernel) rfl) T.b_isinstance)))
    (ss_one (s_raise0 rfl T.x_InvalidText (by decide) hr tk))
    ss_nil)
    (ss_cons (s_own 1 (n_make Mk_Reader hr (by decide) tk T.g_Reader (l_cons (p_var 0) l_nil)) sc_read_script.nd)
    (ss_cons (s_setZ 2 (z_meth 1 (ms := [(C.Reader, gs_Reader_row)]) (fun c hc => by (rcases List.mem_cons.mp hc with rfl | hc; exact MI_Reader_row; cases hc)) hr (by decide) tk (l_cons (p_op o_add (PP.u (p_globI (by rfl) T.MOST_DEPTH)) (PP.u p_int)) l_nil)) sc_read_script.nd)
    (ss_cons (s_if (PBw.to (b_or (b_cmp (o_ne hr.units) (PP.u (p_fld (cs := [C.Reader]) (fun c hc => by (rcases List.mem_cons.mp hc with rfl | hc; exact T.n_Reader_text_left; cases hc)) (u_var 1))) (PP.u (p_str []))) (b_or (b_not (b_val (p_callR DR_is_tree hr (by decide) tk (l_cons (p_var 2) l_nil)))) (b_or1 (b_cmp (o_ne hr.units) (PP.u (p_call D_text_of hr (by decide) tk (l_cons (p_var 2) l_nil))) (PP.u (p_var 0)))))))
    (ss_one (s_raise0 rfl T.x_InvalidText (by decide) hr tk))
    ss_nil)
    (ss_one (s_ret (p_var 2)))))))
theorem sc_law_pull : FnScope ["_law_bag", "_law_many", "_law_cell", "_law_got", "_law_seed"] ["_law_bag", "_law_many"] (defScope s_law_pull) := ⟨rfl, rfl, rfl, by decide +kernel, rfl, by decide +kernel, by decide +kernel⟩
theorem ok_law_pull {f : Addr} {fd : FuncData} (F : Fun K "_law_pull" "_law_pull" s_law_pull f fd) (T : Txt P K mg C)  : FnOk P w K mg base (L2.CX P w) (0 + 1) f fd ["_law_bag", "_law_many"] (spOw K 2 0 (m_law_pull   )) := by
  refine fn_okO F sc_law_pull rfl (fun cdv A outer s H E hr => ⟨_, ?_, fun ds kd kx p _ hf => hf p⟩)
  have tk := takes_of (X := (cxOf (L2.CX P w) P w K mg base ["_law_bag", "_law_many", "_law_cell", "_law_got", "_law_seed"] "_law_pull" (defScope s_law_pull) f cdv A outer s H E)) rfl rfl rfl rfl
  have po : PassesOwn (model P w) (cxOf (L2.CX P w) P w K mg base ["_law_bag", "_law_many", "_law_cell", "_law_got", "_law_seed"] "_law_pull" (defScope s_law_pull) f cdv A outer s H E).A (cxOf (L2.CX P w) P w K mg base ["_law_bag", "_law_many", "_law_cell", "_law_got", "_law_seed"] "_law_pull" (defScope s_law_pull) f cdv A outer s H E).env (cxOf (L2.CX P w) P w K mg base ["_law_bag", "_law_many", "_law_cell", "_law_got", "_law_seed"] "_law_pull" (defScope s_law_pull) f cdv A outer s H E).xe := passes_of rfl
  exact (ss_cons (s_if (PBw.to (b_and (b_cmp (o_eq hr.units) (PP.u (p_ix (u_var 0) (PP.u p_int))) (PP.u p_int)) (b_and1 (b_cmp o_lt (PP.u (p_ix (u_var 0) (PP.u p_int))) (PP.u (p_b1 c_len T.b_len (by decide +kernel) (PP.u (p_ix (u_var 0) (PP.u p_int)))))))))
    (ss_cons (s_set 2 (p_ix (PP.u (p_ix (u_var 0) (PP.u p_int))) (PP.u (p_ix (u_var 0) (PP.u p_int)))) sc_law_pull.nd)
    (ss_cons (s_setIx 0 (pv 0) p_int (p_op o_add (PP.u (p_ix (u_var 0) (PP.u p_int))) (PP.u p_int)) (fun pi pe => ps_asg pe (pg_sub (pv 0) pi set_list)))
    (ss_one (s_if (b_cmp o_ge (PP.u (p_var 2)) (PP.u (p_op o_pow (PP.u p_int) (PP.u p_int))))
    (ss_one (s_setIx 0 (pv 0) p_int (p_var 2) (fun pi pe => ps_asg pe (pg_sub (pv 0) pi set_list))))
    (ss_one (s_setIx 0 (pv 0) p_int (p_op o_mod (PP.u (p_t1 c_int T.b_int (by decide +kernel) (PP.u (p_op o_add (PP.u (p_op o_add (PP.u (p_op o_mul (PP.u (p_ix (u_var 0) (PP.u p_int))) (PP.u p_int))) (PP.u (p_op o_mul (PP.u (p_op o_mod (PP.u (p_t1 c_int T.b_int (by decide +kernel) (PP.u (p_var 2)))) (PP.u p_int))) (PP.u p_int))))) (PP.u p_int))))) (PP.u p_int)) (fun pi pe => ps_asg pe (pg_sub (pv 0) pi set_list))))))))
    ss_nil)
    (ss_cons (s_if (b_cmp o_gt (PP.u (p_ix (u_var 0) (PP.u p_int))) (PP.u p_int))
    (ss_cons (s_set 3 (p_op o_mod (PP.u (p_t1 c_int T.b_int (by decide +kernel) (PP.u (p_ix (u_var 0) (PP.u p_int))))) (PP.u (p_var 1))) sc_law_pull.nd)
    (ss_cons (s_setIx 0 (pv 0) p_int (p_op o_fdiv (PP.u (p_ix (u_var 0) (PP.u p_int))) (PP.u (p_var 1))) (fun pi pe => ps_asg pe (pg_sub (pv 0) pi set_list)))
    (ss_one (s_ret (p_var 3)))))
    ss_nil)
    (ss_cons (s_set 4 (p_ix (u_var 0) (PP.u p_int)) sc_law_pull.nd)
    (ss_cons (s_setIx 0 (pv 0) p_int (p_op o_mod (PP.u (p_t1 c_int T.b_int (by decide +kernel) (PP.u (p_op o_add (PP.u (p_op o_add (PP.u (p_op o_mul (PP.u (p_var 4)) (PP.u (p_var 4)))) (PP.u (p_op o_mul (PP.u (p_var 4)) (PP.u p_int))))) (PP.u p_int))))) (PP.u p_int)) (fun pi pe => ps_asg pe (pg_sub (pv 0) pi set_list)))
    (ss_one (s_ret (p_op o_mod (PP.u (p_t1 c_int T.b_int (by decide +kernel) (PP.u (p_op o_add (PP.u (p_op o_fdiv (PP.u (p_ix (u_var 0) (PP.u p_int))) (PP.u p_int))) (PP.u (p_op o_mul (PP.u (p_op o_mod (PP.u (p_t1 c_int T.b_int (by decide +kernel) (PP.u (p_ix (u_var 0) (PP.u p_int))))) (PP.u p_int))) (PP.u p_int))))))) (PP.u (p_var 1)))))))))
theorem sc_law_pick : FnScope ["_law_bag", "_law_some"] ["_law_bag", "_law_some"] (defScope s_law_pick) := ⟨rfl, rfl, rfl, by decide +kernel, rfl, by decide +kernel, by decide +kernel⟩
theorem ok_law_pick {f : Addr} {fd : FuncData} {fs_law_pull : FS} (F : Fun K "_law_pick" "_law_pick" s_law_pick f fd) (T : Txt P K mg C) (D_law_pull : Df P w K mg base "_law_pull" 1 2 fs_law_pull) : FnOk P w K mg base (L2.CX P w) (1 + 1) f fd ["_law_bag", "_law_some"] (spOf K 2 (m_law_pick  fs_law_pull )) := by
  refine fn_ok F sc_law_pick rfl (fun cdv A outer s H E hr => ⟨_, ?_, fun ds kd kx _ hf => hf⟩)
  have tk := takes_of (X := (cxOf (L2.CX P w) P w K mg base ["_law_bag", "_law_some"] "_law_pick" (defScope s_law_pick) f cdv A outer s H E)) rfl rfl rfl rfl
  have po : PassesOwn (model P w) (cxOf (L2.CX P w) P w K mg base ["_law_bag", "_law_some"] "_law_pick" (defScope s_law_pick) f cdv A outer s H E).A (cxOf (L2.CX P w) P w K mg base ["_law_bag", "_law_some"] "_law_pick" (defScope s_law_pick) f cdv A outer s H E).env (cxOf (L2.CX P w) P w K mg base ["_law_bag", "_law_some"] "_law_pick" (defScope s_law_pick) f cdv A outer s H E).xe := passes_of rfl
  exact (ss_one (s_ret (p_ix (PP.u (p_var 1)) (PP.u (p_call D_law_pull hr (by decide) tk (l_cons (p_var 0) (l_cons (p_b1 c_len T.b_len (by decide +kernel) (PP.u (p_var 1))) l_nil)))))))
theorem sc_law_name : FnScope ["_law_bag", "_law_k"] ["_law_bag"] (defScope s_law_name) := ⟨rfl, rfl, rfl, by decide +kernel, rfl, by decide +kernel, by decide +kernel⟩
theorem ok_law_name {f : Addr} {fd : FuncData} {fs_law_pick fs_law_pull : FS} (F : Fun K "_law_name" "_law_name" s_law_name f fd) (T : Txt P K mg C) (D_law_pick : Df P w K mg base "_law_pick" 2 2 fs_law_pick) (D_law_pull : Df P w K mg base "_law_pull" 1 2 fs_law_pull) : FnOk P w K mg base (L2.CX P w) (2 + 1) f fd ["_law_bag"] (spOf K 1 (m_law_name  fs_law_pick fs_law_pull )) := by
  refine fn_ok F sc_law_name rfl (fun cdv A outer s H E hr => ⟨_, ?_, fun ds kd kx _ hf => hf⟩)
  have tk := takes_of (X := (cxOf (L2.CX P w) P w K mg base ["_law_bag", "_law_k"] "_law_name" (defScope s_law_name) f cdv A outer s H E)) rfl rfl rfl rfl
  have po : PassesOwn (model P w) (cxOf (L2.CX P w) P w K mg base ["_law_bag", "_law_k"] "_law_name" (defScope s_law_name) f cdv A outer s H E).A (cxOf (L2.CX P w) P w K mg base ["_law_bag", "_law_k"] "_law_name" (defScope s_law_name) f cdv A outer s H E).env (cxOf (L2.CX P w) P w K mg base ["_law_bag", "_law_k"] "_law_name" (defScope s_law_name) f cdv A outer s H E).xe := passes_of rfl
  exact (ss_one (s_ret (p_join (p_str []) (PP.u (p_lc [("_law_k", 1)] rfl sc_law_name.nd (i_rng1 T.b_range (l_cons (p_call D_law_pick hr (by decide) tk (l_cons (p_var 0) (l_cons (p_lst (l_cons p_int (l_cons p_int (l_cons p_int (l_cons p_int (l_cons (p_op o_add (PP.u p_int) (PP.u (p_call D_law_pull hr (by decide) tk (l_cons (p_var 0) (l_cons p_int l_nil))))) l_nil)))))) l_nil))) l_nil)) (blkOk_by (N := ["_law_bag", "_law_k"]) (sc := defScope s_law_name) (by decide +kernel)) (fun _ => (g_name 1 sc_law_name.nd)) (fun _ => bs_nil) (fun _ => (p_call D_law_pick hr (by decide) takes0 (l_cons (p_var 0) (l_cons (p_str [65, 66, 67, 68, 69, 70, 71, 72, 73, 74, 75, 76, 77, 78, 79, 80, 81, 82, 83, 84, 85, 86, 87, 88, 89, 90]) l_nil)))))) (fun _ _ pa pb => pe_join pa pb))))
theorem sc_law_asked : FnScope ["_law_f", "e"] ["_law_f"] (defScope s_law_asked) := ⟨rfl, rfl, rfl, by decide +kernel, rfl, by decide +kernel, by decide +kernel⟩
theorem ask_law_asked (T : Txt P K mg C) (k : Nat) : AskOk P w K mg base "_law_asked" "_law_f" s_law_asked ["_law_f", "e"] k (m_law_asked K C.LogError C.InvalidDeed C.InvalidStore C.InvalidStand C.TooMany C.InvalidName C.DuplicateName C.WrongSort C.ForeignDeed C.Circular C.InUse C.Full C.InvalidLimit C.InvalidCommand C.InvalidPage C.UnknownName C.NothingLeft) := by
  intro g cdv A outer s H E tact hr act
  have tk := takes_of (X := (cxOf (L2.CX P w) P w K mg base ["_law_f", "e"] "_law_asked" (defScope s_law_asked) g cdv A outer s H E)) rfl rfl rfl rfl
  exact (ss_one (s_try rfl rfl tk (fun W pn xe tkb _ => (ss_one (s_ret (p_tup (l_cons (p_str []) (l_cons (act _ _ _ _ _ tkb) l_nil))))))
    (.cons (.tup (.cons ⟨by rfl, by decide, .inl T.g_InvalidName⟩ (.cons ⟨by rfl, by decide, .inl T.g_DuplicateName⟩ (.cons ⟨by rfl, by decide, .inl T.g_WrongSort⟩ (.cons ⟨by rfl, by decide, .inl T.g_Circular⟩ (.cons ⟨by rfl, by decide, .inl T.g_UnknownName⟩ .nil))))) (by simp)) (.as sc_law_asked.nd rfl rfl) (fun a oe cls d pn hz hf => (ss_one (s_ret (p_tup (l_cons (p_xat 1 hz hf) (l_cons (p_xat 1 hz hf) l_nil))))))
    (.cons (.tup (.cons ⟨by rfl, by decide, .inl T.g_InvalidDeed⟩ (.cons ⟨by rfl, by decide, .inl T.g_InvalidStand⟩ (.cons ⟨by rfl, by decide, .inl T.g_InvalidLimit⟩ .nil))) (by simp)) (.as sc_law_asked.nd rfl rfl) (fun a oe cls d pn hz hf => (ss_one (s_ret (p_tup (l_cons (p_xat 1 hz hf) (l_cons (p_xat 1 hz hf) l_nil))))))
    (.cons (.tup (.cons ⟨by rfl, by decide, .inl T.g_InvalidStore⟩ (.cons ⟨by rfl, by decide, .inl T.g_InvalidCommand⟩ .nil)) (by simp)) (.as sc_law_asked.nd rfl rfl) (fun a oe cls d pn hz hf => (ss_one (s_ret (p_tup (l_cons (p_xat 1 hz hf) (l_cons (p_xat 1 hz hf) l_nil))))))
    (.cons (.tup (.cons ⟨by rfl, by decide, .inl T.g_TooMany⟩ (.cons ⟨by rfl, by decide, .inl T.g_Full⟩ .nil)) (by simp)) (.as sc_law_asked.nd rfl rfl) (fun a oe cls d pn hz hf => (ss_one (s_ret (p_tup (l_cons (p_xat 1 hz hf) (l_cons (p_xat 1 hz hf) l_nil))))))
    (.cons (.one ⟨by rfl, by decide, .inl T.g_ForeignDeed⟩) (.as sc_law_asked.nd rfl rfl) (fun a oe cls d pn hz hf => (ss_one (s_ret (p_tup (l_cons (p_xat 1 hz hf) (l_cons (p_xat 1 hz hf) l_nil))))))
    (.cons (.one ⟨by rfl, by decide, .inl T.g_InUse⟩) (.as sc_law_asked.nd rfl rfl) (fun a oe cls d pn hz hf => (ss_one (s_ret (p_tup (l_cons (p_xat 1 hz hf) (l_cons (p_xat 1 hz hf) l_nil))))))
    (.cons (.one ⟨by rfl, by decide, .inl T.g_InvalidPage⟩) (.as sc_law_asked.nd rfl rfl) (fun a oe cls d pn hz hf => (ss_one (s_ret (p_tup (l_cons (p_xat 1 hz hf) (l_cons (p_xat 1 hz hf) l_nil))))))
    (.cons (.tup (.cons ⟨by rfl, by decide, .inl T.g_LogError⟩ (.cons ⟨by rfl, by decide, .inl T.g_NothingLeft⟩ .nil)) (by simp)) (.as sc_law_asked.nd rfl rfl) (fun a oe cls d pn hz hf => (ss_one (s_ret (p_tup (l_cons (p_xat 1 hz hf) (l_cons p_non l_nil))))))
    .nil))))))))))
theorem sc_law_same : FnScope ["_law_found", "_law_due", "_law_at"] ["_law_found", "_law_due"] (defScope s_law_same) := ⟨rfl, rfl, rfl, by decide +kernel, rfl, by decide +kernel, by decide +kernel⟩
theorem ok_law_same {f : Addr} {fd : FuncData} {fs_law_same : FS} (F : Fun K "_law_same" "_law_same" s_law_same f fd) (T : Txt P K mg C) {kk : Nat} (hkk : 0 ≤ kk) (D_law_same : Df P w K mg base "_law_same" kk 2 fs_law_same) : FnOk P w K mg base (L2.CX P w) (kk + 1) f fd ["_law_found", "_law_due"] (spOf K 2 (m_law_same  fs_law_same )) := by
  refine fn_ok F sc_law_same rfl (fun cdv A outer s H E hr => ⟨_, ?_, fun ds kd kx _ hf => hf⟩)
  have tk := takes_of (X := (cxOf (L2.CX P w) P w K mg base ["_law_found", "_law_due", "_law_at"] "_law_same" (defScope s_law_same) f cdv A outer s H E)) rfl rfl rfl rfl
  have po : PassesOwn (model P w) (cxOf (L2.CX P w) P w K mg base ["_law_found", "_law_due", "_law_at"] "_law_same" (defScope s_law_same) f cdv A outer s H E).A (cxOf (L2.CX P w) P w K mg base ["_law_found", "_law_due", "_law_at"] "_law_same" (defScope s_law_same) f cdv A outer s H E).env (cxOf (L2.CX P w) P w K mg base ["_law_found", "_law_due", "_law_at"] "_law_same" (defScope s_law_same) f cdv A outer s H E).xe := passes_of rfl
  exact (ss_cons (s_if (PBw.to (b_or (b_isN (PP.u (p_var 1))) (b_or1 (b_isN (PP.u (p_var 0))))))
    (ss_one (s_ret (p_and (p_isN (PP.u (p_var 1))) (p_one (p_isN (PP.u (p_var 0)))))))
    ss_nil)
    (ss_cons (s_if (PBw.to (b_or (b_val (p_isi "bool" (PP.u (p_var 1)) (pe_bltn (v := .ty "bool") (by rfl) T.b_bool (by decide +kernel) rfl) T.b_isinstance)) (b_or1 (b_val (p_isi "bool" (PP.u (p_var 0)) (pe_bltn (v := .ty "bool") (by rfl) T.b_bool (by decide +kernel) rfl) T.b_isinstance)))))
    (ss_one (s_ret (p_and (p_isi "bool" (PP.u (p_var 1)) (pe_bltn (v := .ty "bool") (by rfl) T.b_bool (by decide +kernel) rfl) T.b_isinstance) (p_and (p_isi "bool" (PP.u (p_var 0)) (pe_bltn (v := .ty "bool") (by rfl) T.b_bool (by decide +kernel) rfl) T.b_isinstance) (p_one (p_cmp (o_eq hr.units) (PP.u (p_var 0)) (PP.u (p_var 1))))))))
    ss_nil)
    (ss_cons (s_if (b_val (p_isi "int" (PP.u (p_var 1)) (pe_bltn (v := .ty "int") (by rfl) T.b_int (by decide +kernel) rfl) T.b_isinstance))
    (ss_one (s_ret (p_and (p_isi "int" (PP.u (p_var 0)) (pe_bltn (v := .ty "int") (by rfl) T.b_int (by decide +kernel) rfl) T.b_isinstance) (p_one (p_cmp (o_eq hr.units) (PP.u (p_var 0)) (PP.u (p_var 1)))))))
    ss_nil)
    (ss_cons (s_if (b_val (p_isi "str" (PP.u (p_var 1)) (pe_bltn (v := .ty "str") (by rfl) T.b_str (by decide +kernel) rfl) T.b_isinstance))
    (ss_one (s_ret (p_and (p_isi "str" (PP.u (p_var 0)) (pe_bltn (v := .ty "str") (by rfl) T.b_str (by decide +kernel) rfl) T.b_isinstance) (p_one (p_cmp (o_eq hr.units) (PP.u (p_var 0)) (PP.u (p_var 1)))))))
    ss_nil)
    (ss_cons (s_if (PBw.to (b_or (b_cmp (o_ne hr.units) (PP.u (p_isi "list" (PP.u (p_var 1)) (pe_bltn (v := .ty "list") (by rfl) T.b_list (by decide +kernel) rfl) T.b_isinstance)) (PP.u (p_isi "list" (PP.u (p_var 0)) (pe_bltn (v := .ty "list") (by rfl) T.b_list (by decide +kernel) rfl) T.b_isinstance))) (b_or1 (b_cmp (o_ne hr.units) (PP.u (p_isi "tuple" (PP.u (p_var 1)) (pe_bltn (v := .ty "tuple") (by rfl) T.b_tuple (by decide +kernel) rfl) T.b_isinstance)) (PP.u (p_isi "tuple" (PP.u (p_var 0)) (pe_bltn (v := .ty "tuple") (by rfl) T.b_tuple (by decide +kernel) rfl) T.b_isinstance))))))
    (ss_one (s_ret p_bl))
    ss_nil)
    (ss_one (s_ret (p_and (p_cmp (o_eq hr.units) (PP.u (p_b1 c_len T.b_len (by decide +kernel) (PP.u (p_var 0)))) (PP.u (p_b1 c_len T.b_len (by decide +kernel) (PP.u (p_var 1))))) (p_one (p_b1 (c_all rfl) T.b_all (by decide +kernel) (PP.u (p_lc [("_law_at", 2)] rfl sc_law_same.nd (i_rng1 T.b_range (l_cons (p_b1 c_len T.b_len (by decide +kernel) (PP.u (p_var 1))) l_nil)) (blkOk_by (N := ["_law_found", "_law_due", "_law_at"]) (sc := defScope s_law_same) (by decide +kernel)) (fun _ => (g_name 2 sc_law_same.nd)) (fun _ => bs_nil) (fun _ => (p_call D_law_same hr (by omega) takes0 (l_cons (p_ix (PP.u (p_var 0)) (PP.u (p_var 2))) (l_cons (p_ix (PP.u (p_var 1)) (PP.u (p_var 2))) l_nil))))))))))))))))
theorem sc_law_tree_so : FnScope ["_law_tree", "_law_text", "_law_good", "_law_found", "_law_due"] ["_law_tree", "_law_text", "_law_good"] (defScope s_law_tree_so) := ⟨rfl, rfl, rfl, by decide +kernel, rfl, by decide +kernel, by decide +kernel⟩
theorem ok_law_tree_so {f c Pt : Addr} {kV doc pm ct oc : Value} {an od : Option Addr} {osl : Array (Option Value)} {fs_read_script fs_script_text fs_law_same fs_is_tree : FS} (lk : K.lookup f = some ⟨oc, od, .func (PySem.W.fnOf "_law_tree_so" "_law_tree_so" (defArgs s_law_tree_so) (defBody s_law_tree_so) (defScope s_law_tree_so) .none kV doc pm an (.ref c) ct), osl⟩)
    (hcd : PySem.W.codeIn K (.ref c) "_law_tree_so" = true) (TB : LamX.TabB base mg c Pt) (hT : (Pt, ((("_law_tree_so" : PySem.Str) ++ ".<locals>.") ++ "<lambda>" : PySem.Str)) ∈ Tabl.T) (T : Txt P K mg C) (D_read_script : Df P w K mg base "read_script" 44 1 fs_read_script) (D_script_text : Df P w K mg base "script_text" 23 1 fs_script_text) (D_law_same : Df P w K mg base "_law_same" 16 2 fs_law_same) {g_law_asked : Addr} {fd_law_asked : FuncData} (F_law_asked : Fun K "_law_asked" "_law_asked" s_law_asked g_law_asked fd_law_asked) (g_law_asked_is : mg "_law_asked" = some (.ref g_law_asked)) (B_law_asked : Binds K fd_law_asked ["_law_f"] []) (DR_is_tree : DfR P w K mg base "is_tree" 18 1 fs_is_tree) : FnOk P w K mg base (L2.CX P w) (61 + 1) f (PySem.W.fnOf "_law_tree_so" "_law_tree_so" (defArgs s_law_tree_so) (defBody s_law_tree_so) (defScope s_law_tree_so) .none kV doc pm an (.ref c) ct) ["_law_tree", "_law_text", "_law_good"] (spOf K 3 (m_law_tree_so K C.LogError C.InvalidDeed C.InvalidStore C.InvalidStand C.TooMany C.InvalidName C.DuplicateName C.WrongSort C.ForeignDeed C.Circular C.InUse C.Full C.InvalidLimit C.InvalidCommand C.InvalidPage C.UnknownName C.NothingLeft fs_read_script fs_script_text fs_law_same fs_is_tree )) := by
  refine fn_okC lk hcd sc_law_tree_so rfl (fun A outer s H E hr => ⟨_, ?_, fun ds kd kx _ hf => hf⟩)
  have tk := takes_of (X := (cxOf (L2.CX P w) P w K mg base ["_law_tree", "_law_text", "_law_good", "_law_found", "_law_due"] "_law_tree_so" (defScope s_law_tree_so) f (.ref c) A outer s H E)) rfl rfl rfl rfl
  have po : PassesOwn (model P w) (cxOf (L2.CX P w) P w K mg base ["_law_tree", "_law_text", "_law_good", "_law_found", "_law_due"] "_law_tree_so" (defScope s_law_tree_so) f (.ref c) A outer s H E).A (cxOf (L2.CX P w) P w K mg base ["_law_tree", "_law_text", "_law_good", "_law_found", "_law_due"] "_law_tree_so" (defScope s_law_tree_so) f (.ref c) A outer s H E).env (cxOf (L2.CX P w) P w K mg base ["_law_tree", "_law_text", "_law_good", "_law_found", "_law_due"] "_law_tree_so" (defScope s_law_tree_so) f (.ref c) A outer s H E).xe := passes_of rfl
  have A_law_asked := ask_law_asked (P := P) (w := w) (base := base) T 60
  exact (ss_cons (s_set 3 (p_lst (l_cons (p_callR DR_is_tree hr (by decide) tk (l_cons (p_var 0) l_nil)) (l_cons (p_lamcall F_law_asked sc_law_asked g_law_asked_is B_law_asked A_law_asked TB rfl hT (Room.mono hr (by decide)) (kl := 44) (by decide) tk (by show LamX.lamSB (defScope s_law_tree_so) _ = true; decide +kernel) (fun f c E A outer s H hrl => (p_call D_read_script hrl (by decide) (takes_of rfl rfl rfl rfl) (l_cons (p_var 1) l_nil)))) (l_cons (p_lamcallD F_law_asked sc_law_asked g_law_asked_is B_law_asked A_law_asked TB rfl hT (Room.mono hr (by decide)) (kl := 23) (by decide) tk (by show lamSDB ["_law_tree", "_law_text", "_law_good", "_law_found", "_law_due"] (defScope s_law_tree_so) _ = true; decide +kernel) (fun f c E A outer s H hrl => (p_call D_script_text hrl (by decide) (takes_of rfl rfl rfl rfl) (l_cons (p_var 0) l_nil))) pe_int (y := "_law_a")) l_nil)))) sc_law_tree_so.nd)
    (ss_cons (s_set 4 (p_lst (l_cons (p_var 2) (l_cons (p_tup (l_cons (p_str []) (l_cons (p_var 0) l_nil))) (l_cons (p_tup (l_cons (p_str []) (l_cons (p_var 1) l_nil))) l_nil)))) sc_law_tree_so.nd)
    (ss_cons (s_if (b_not (b_val (p_var 2)))
    (ss_one (s_set 4 (p_lst (l_cons (p_var 2) (l_cons (p_tup (l_cons (p_str [73, 110, 118, 97, 108, 105, 100, 84, 101, 120, 116]) (l_cons p_non l_nil))) (l_cons (p_tup (l_cons (p_str [73, 110, 118, 97, 108, 105, 100, 84, 114, 101, 101]) (l_cons p_non l_nil))) l_nil)))) sc_law_tree_so.nd))
    ss_nil)
    (ss_one (s_ret (p_call D_law_same hr (by decide) tk (l_cons (p_var 3) (l_cons (p_var 4) l_nil))))))))
theorem sc_law_script : FnScope ["_law_tree", "_law_word", "_law_part", "_law_text"] ["_law_tree"] (defScope s_law_script) := ⟨rfl, rfl, rfl, by decide +kernel, rfl, by decide +kernel, by decide +kernel⟩
theorem ok_law_script {f : Addr} {fd : FuncData} {fs_law_script : FS} (F : Fun K "_law_script" "_law_script" s_law_script f fd) (T : Txt P K mg C) {kk : Nat} (hkk : 0 ≤ kk) (D_law_script : Df P w K mg base "_law_script" kk 1 fs_law_script) : FnOk P w K mg base (L2.CX P w) (kk + 1) f fd ["_law_tree"] (spOf K 1 (m_law_script  fs_law_script )) := by
  refine fn_ok F sc_law_script rfl (fun cdv A outer s H E hr => ⟨_, ?_, fun ds kd kx _ hf => hf⟩)
  have tk := takes_of (X := (cxOf (L2.CX P w) P w K mg base ["_law_tree", "_law_word", "_law_part", "_law_text"] "_law_script" (defScope s_law_script) f cdv A outer s H E)) rfl rfl rfl rfl
  have po : PassesOwn (model P w) (cxOf (L2.CX P w) P w K mg base ["_law_tree", "_law_word", "_law_part", "_law_text"] "_law_script" (defScope s_law_script) f cdv A outer s H E).A (cxOf (L2.CX P w) P w K mg base ["_law_tree", "_law_word", "_law_part", "_law_text"] "_law_script" (defScope s_law_script) f cdv A outer s H E).env (cxOf (L2.CX P w) P w K mg base ["_law_tree", "_law_word", "_law_part", "_law_text"] "_law_script" (defScope s_law_script) f cdv A outer s H E).xe := passes_of rfl
  exact (ss_cons (s_set 1 (p_ix (PP.u (p_var 0)) (PP.u p_int)) sc_law_script.nd)
    (ss_cons (s_if (b_cmp (o_eq hr.units) (PP.u (p_var 1)) (PP.u (p_str [100, 101, 101, 100, 115])))
    (ss_one (s_ret (p_ifExp (b_cmp (o_eq hr.units) (PP.u (p_ix (PP.u (p_var 0)) (PP.u p_int))) (PP.u (p_str []))) (p_str [45]) (p_ix (PP.u (p_var 0)) (PP.u p_int)))))
    ss_nil)
    (ss_cons (s_if (b_cmp (o_eq hr.units) (PP.u (p_var 1)) (PP.u (p_str [110, 97, 109, 101])))
    (ss_one (s_ret (p_ix (PP.u (p_var 0)) (PP.u p_int))))
    ss_nil)
    (ss_cons (s_if (b_cmp (o_eq hr.units) (PP.u (p_var 1)) (PP.u (p_str [116, 104, 101, 110])))
    (ss_one (s_ret (p_join (p_str [46]) (PP.u (p_lc [("_law_part", 2)] rfl sc_law_script.nd (i_tup (p_slice (PP.u (p_var 0)) (s_some p_int) s_none)) (blkOk_by (N := ["_law_tree", "_law_word", "_law_part", "_law_text"]) (sc := defScope s_law_script) (by decide +kernel)) (fun _ => (g_name 2 sc_law_script.nd)) (fun _ => bs_nil) (fun _ => (p_call D_law_script hr (by omega) takes0 (l_cons (p_var 2) l_nil))))) (fun _ _ pa pb => pe_join pa pb))))
    ss_nil)
    (ss_cons (s_if (b_cmp (o_eq hr.units) (PP.u (p_var 1)) (PP.u (p_str [101, 105, 116, 104, 101, 114])))
    (ss_one (s_ret (p_op o_add (PP.u (p_op o_add (PP.u (p_str [40])) (PP.u (p_join (p_str [124]) (PP.u (p_lc [("_law_part", 2)] rfl sc_law_script.nd (i_tup (p_slice (PP.u (p_var 0)) (s_some p_int) s_none)) (blkOk_by (N := ["_law_tree", "_law_word", "_law_part", "_law_text"]) (sc := defScope s_law_script) (by decide +kernel)) (fun _ => (g_name 2 sc_law_script.nd)) (fun _ => bs_nil) (fun _ => (p_call D_law_script hr (by omega) takes0 (l_cons (p_var 2) l_nil))))) (fun _ _ pa pb => pe_join pa pb))))) (PP.u (p_str [41])))))
    ss_nil)
    (ss_cons (s_set 3 (p_call D_law_script hr (by omega) tk (l_cons (p_ix (PP.u (p_var 0)) (PP.u p_int)) l_nil)) sc_law_script.nd)
    (ss_cons (s_set 3 (p_ifExp (b_cmp (o_eq hr.units) (PP.u (p_ix (PP.u (p_ix (PP.u (p_var 0)) (PP.u p_int))) (PP.u p_int))) (PP.u (p_str [116, 104, 101, 110]))) (p_op o_add (PP.u (p_op o_add (PP.u (p_str [40])) (PP.u (p_var 3)))) (PP.u (p_str [41]))) (p_var 3)) sc_law_script.nd)
    (ss_one (s_ret (p_op o_add (PP.u (p_op o_add (PP.u (p_var 3)) (PP.u (p_str [94])))) (PP.u (p_ifExp (b_cmp (o_eq hr.units) (PP.u (p_var 1)) (PP.u (p_str [97, 103, 97, 105, 110]))) (p_str [42]) (p_strAny hr T.b_str (PP.u (p_ix (PP.u (p_var 0)) (PP.u p_int))))))))))))))))
theorem sc_law : FnScope ["_law_script_here", "_law_bag", "_law_turn", "_law_many", "_law_names", "_law_k", "_law_word", "_law_tree", "_law_text", "_law_name_here", "_law_deep", "_law_levels", "_law_most", "_law_way", "_law_wide"] ["_law_script_here"] (defScope s_law) := ⟨rfl, rfl, rfl, by decide +kernel, rfl, by decide +kernel, by decide +kernel⟩
theorem ok_law {f : Addr} {fd : FuncData} {fs_law_start fs_law_pick fs_law_pull fs_law_name fs_law_tree_so fs_law_script : FS} (F : Fun K "law" "law" s_law f fd) (T : Txt P K mg C) (D_law_start : Df P w K mg base "_law_start" 1 1 fs_law_start) (D_law_pick : Df P w K mg base "_law_pick" 2 2 fs_law_pick) (D_law_pull : Df P w K mg base "_law_pull" 1 2 fs_law_pull) (D_law_name : Df P w K mg base "_law_name" 3 1 fs_law_name) (D_law_tree_so : Df P w K mg base "_law_tree_so" 62 3 fs_law_tree_so) (D_law_script : Df P w K mg base "_law_script" 16 1 fs_law_script) : FnOk P w K mg base (L2.CX P w) (62 + 1) f fd ["_law_script_here"] (spOf K 1 (m_law  fs_law_start fs_law_pick fs_law_pull fs_law_name fs_law_tree_so fs_law_script )) := by
  refine fn_ok F sc_law rfl (fun cdv A outer s H E hr => ⟨_, ?_, fun ds kd kx _ hf => hf⟩)
  have tk := takes_of (X := (cxOf (L2.CX P w) P w K mg base ["_law_script_here", "_law_bag", "_law_turn", "_law_many", "_law_names", "_law_k", "_law_word", "_law_tree", "_law_text", "_law_name_here", "_law_deep", "_law_levels", "_law_most", "_law_way", "_law_wide"] "law" (defScope s_law) f cdv A outer s H E)) rfl rfl rfl rfl
  have po : PassesOwn (model P w) (cxOf (L2.CX P w) P w K mg base ["_law_script_here", "_law_bag", "_law_turn", "_law_many", "_law_names", "_law_k", "_law_word", "_law_tree", "_law_text", "_law_name_here", "_law_deep", "_law_levels", "_law_most", "_law_way", "_law_wide"] "law" (defScope s_law) f cdv A outer s H E).A (cxOf (L2.CX P w) P w K mg base ["_law_script_here", "_law_bag", "_law_turn", "_law_many", "_law_names", "_law_k", "_law_word", "_law_tree", "_law_text", "_law_name_here", "_law_deep", "_law_levels", "_law_most", "_law_way", "_law_wide"] "law" (defScope s_law) f cdv A outer s H E).env (cxOf (L2.CX P w) P w K mg base ["_law_script_here", "_law_bag", "_law_turn", "_law_many", "_law_names", "_law_k", "_law_word", "_law_tree", "_law_text", "_law_name_here", "_law_deep", "_law_levels", "_law_most", "_law_way", "_law_wide"] "law" (defScope s_law) f cdv A outer s H E).xe := passes_of rfl
  exact (ss_cons (s_set 1 (p_call D_law_start hr (by decide) tk (l_cons (p_var 0) l_nil)) sc_law.nd)
    (ss_cons (s_for po rfl (i_rng1 T.b_range (l_cons p_int l_nil)) (g_name 2 sc_law.nd)
    (ss_cons (s_set 3 (p_call D_law_pick hr (by decide) tk (l_cons (p_var 1) (l_cons (p_lst (l_cons p_int (l_cons p_int (l_cons p_int (l_cons (p_op o_add (PP.u p_int) (PP.u (p_call D_law_pull hr (by decide) tk (l_cons (p_var 1) (l_cons p_int l_nil))))) l_nil))))) l_nil))) sc_law.nd)
    (ss_cons (s_setLc 4 [("_law_k", 5)] rfl sc_law.nd (i_rng1 T.b_range (l_cons (p_var 3) l_nil)) (blkOk_by (N := ["_law_script_here", "_law_bag", "_law_turn", "_law_many", "_law_names", "_law_k", "_law_word", "_law_tree", "_law_text", "_law_name_here", "_law_deep", "_law_levels", "_law_most", "_law_way", "_law_wide"]) (sc := defScope s_law) (by decide +kernel)) (fun _ => (g_name 5 sc_law.nd)) (fun _ => bs_nil) (fun _ => (p_tup (l_cons (p_str [110, 97, 109, 101]) (l_cons (p_call D_law_name hr (by decide) takes0 (l_cons (p_var 1) l_nil)) l_nil)))))
    (ss_cons (s_set 6 (p_call D_law_pick hr (by decide) tk (l_cons (p_var 1) (l_cons (p_lst (l_cons (p_str [116, 104, 101, 110]) (l_cons (p_str [101, 105, 116, 104, 101, 114]) l_nil))) l_nil))) sc_law.nd)
    (ss_cons (s_set 7 (p_t1 c_tup T.b_tuple (by decide +kernel) (PP.u (p_op o_add (PP.u (p_lst (l_cons (p_var 6) l_nil))) (PP.u (p_var 4))))) sc_law.nd)
    (ss_cons (s_set 8 (p_join (p_ifExp (b_cmp (o_eq hr.units) (PP.u (p_var 6)) (PP.u (p_str [116, 104, 101, 110]))) (p_str [46]) (p_str [124])) (PP.u (p_lc [("_law_name_here", 9)] rfl sc_law.nd (i_lst (p_var 4)) (blkOk_by (N := ["_law_script_here", "_law_bag", "_law_turn", "_law_many", "_law_names", "_law_k", "_law_word", "_law_tree", "_law_text", "_law_name_here", "_law_deep", "_law_levels", "_law_most", "_law_way", "_law_wide"]) (sc := defScope s_law) (by decide +kernel)) (fun _ => (g_name 9 sc_law.nd)) (fun _ => bs_nil) (fun _ => (p_ix (PP.u (p_var 9)) (PP.u p_int))))) (fun _ _ pa pb => pe_join pa pb)) sc_law.nd)
    (ss_cons (s_set 8 (p_ifExp (b_cmp (o_eq hr.units) (PP.u (p_var 6)) (PP.u (p_str [116, 104, 101, 110]))) (p_var 8) (p_op o_add (PP.u (p_op o_add (PP.u (p_str [40])) (PP.u (p_var 8)))) (PP.u (p_str [41])))) sc_law.nd)
    (ss_cons (s_if (b_not (b_val (p_call D_law_tree_so hr (by decide) tk (l_cons (p_var 7) (l_cons (p_var 8) (l_cons (p_cmp o_le (PP.u (p_var 3)) (PP.u p_int)) l_nil))))))
    (ss_one (s_ret p_bl))
    ss_nil)
    (ss_cons (s_par2 10 11 rfl sc_law.nd (l_cons (p_tup (l_cons (p_str [100, 101, 101, 100, 115]) (l_cons (p_call D_law_pick hr (by decide) tk (l_cons (p_var 1) (l_cons (p_lst (l_cons (p_str [97]) (l_cons (p_str []) (l_cons (p_str [98, 97]) l_nil)))) l_nil))) l_nil))) (l_cons p_int l_nil)))
    (ss_cons (s_set 12 (p_call D_law_pick hr (by decide) tk (l_cons (p_var 1) (l_cons (p_lst (l_cons p_int (l_cons p_int (l_cons (p_op o_add (PP.u p_int) (PP.u (p_call D_law_pull hr (by decide) tk (l_cons (p_var 1) (l_cons p_int l_nil))))) l_nil)))) l_nil))) sc_law.nd)
    (ss_cons (s_while po (b_cmp o_lt (PP.u (p_var 11)) (PP.u (p_var 12)))
    (ss_cons (s_set 13 (p_call D_law_pick hr (by decide) tk (l_cons (p_var 1) (l_cons (p_lst (l_cons (p_str [116, 105, 109, 101, 115]) (l_cons (p_str [97, 103, 97, 105, 110]) (l_cons (p_str [116, 104, 101, 110]) (l_cons (p_str [101, 105, 116, 104, 101, 114]) l_nil))))) l_nil))) sc_law.nd)
    (ss_cons (s_if (PBw.to (b_and (b_cmp (o_eq hr.units) (PP.u (p_var 13)) (PP.u (p_str [116, 104, 101, 110]))) (b_and1 (b_cmp (o_notInDT hr.units) (PP.u (p_ix (PP.u (p_var 10)) (PP.u p_int))) (PP.u (p_tup (l_cons (p_str [116, 104, 101, 110]) (l_cons (p_str [100, 101, 101, 100, 115]) l_nil))))))))
    (ss_one (s_set 10 (p_call D_law_pick hr (by decide) tk (l_cons (p_var 1) (l_cons (p_lst (l_cons (p_tup (l_cons (p_str [116, 104, 101, 110]) (l_cons (p_tup (l_cons (p_str [110, 97, 109, 101]) (l_cons (p_str [65]) l_nil))) (l_cons (p_var 10) l_nil)))) (l_cons (p_tup (l_cons (p_str [116, 104, 101, 110]) (l_cons (p_var 10) (l_cons (p_tup (l_cons (p_str [100, 101, 101, 100, 115]) (l_cons (p_str [97]) l_nil))) l_nil)))) l_nil))) l_nil))) sc_law.nd))
    (ss_one (s_if (b_cmp (o_eq hr.units) (PP.u (p_var 13)) (PP.u (p_str [101, 105, 116, 104, 101, 114])))
    (ss_one (s_set 10 (p_call D_law_pick hr (by decide) tk (l_cons (p_var 1) (l_cons (p_lst (l_cons (p_tup (l_cons (p_str [101, 105, 116, 104, 101, 114]) (l_cons (p_tup (l_cons (p_str [100, 101, 101, 100, 115]) (l_cons (p_str []) l_nil))) (l_cons (p_var 10) l_nil)))) (l_cons (p_tup (l_cons (p_str [101, 105, 116, 104, 101, 114]) (l_cons (p_var 10) (l_cons (p_tup (l_cons (p_str [110, 97, 109, 101]) (l_cons (p_str [66]) l_nil))) (l_cons (p_var 10) l_nil))))) l_nil))) l_nil))) sc_law.nd))
    (ss_one (s_if (b_cmp (o_eq hr.units) (PP.u (p_var 13)) (PP.u (p_str [97, 103, 97, 105, 110])))
    (ss_one (s_set 10 (p_tup (l_cons (p_str [97, 103, 97, 105, 110]) (l_cons (p_var 10) l_nil))) sc_law.nd))
    (ss_one (s_set 10 (p_tup (l_cons (p_str [116, 105, 109, 101, 115]) (l_cons (p_var 10) (l_cons (p_call D_law_pick hr (by decide) tk (l_cons (p_var 1) (l_cons (p_lst (l_cons p_int (l_cons p_int (l_cons (p_op o_pow (PP.u p_int) (PP.u p_int)) l_nil)))) l_nil))) l_nil)))) sc_law.nd)))))))
    (ss_cons (s_set 11 (p_op o_add (PP.u (p_var 11)) (PP.u p_int)) sc_law.nd)
    (ss_one (s_if (b_cmp o_gt (PP.u (p_b1 c_len T.b_len (by decide +kernel) (PP.u (p_call D_law_script hr (by decide) tk (l_cons (p_var 10) l_nil))))) (PP.u p_int))
    (ss_one (s_ret p_bl))
    ss_nil))))))
    (ss_one (s_if (b_not (b_val (p_call D_law_tree_so hr (by decide) tk (l_cons (p_var 10) (l_cons (p_call D_law_script hr (by decide) tk (l_cons (p_var 10) l_nil)) (l_cons (p_cmp o_le (PP.u (p_var 11)) (PP.u p_int)) l_nil))))))
    (ss_one (s_ret p_bl))
    ss_nil)))))))))))))
    (ss_cons (s_set 14 (p_t1 c_tup T.b_tuple (by decide +kernel) (PP.u (p_op o_add (PP.u (p_lst (l_cons (p_str [101, 105, 116, 104, 101, 114]) l_nil))) (PP.u (p_op o_mul (PP.u (p_lst (l_cons (p_tup (l_cons (p_str [100, 101, 101, 100, 115]) (l_cons (p_str [97]) l_nil))) l_nil))) (PP.u p_int)))))) sc_law.nd)
    (ss_one (s_ret (p_call D_law_tree_so hr (by decide) tk (l_cons (p_tup (l_cons (p_str [116, 105, 109, 101, 115]) (l_cons (p_var 14) (l_cons (p_op o_pow (PP.u p_int) (PP.u p_int)) l_nil)))) (l_cons (p_call D_law_script hr (by decide) tk (l_cons (p_tup (l_cons (p_str [116, 105, 109, 101, 115]) (l_cons (p_var 14) (l_cons (p_op o_pow (PP.u p_int) (PP.u p_int)) l_nil)))) l_nil)) (l_cons p_bl l_nil)))))))))
end
end K71
set_option Elab.async false
set_option linter.all false
set_option maxRecDepth 100000
set_option maxHeartbeats 4000000
namespace PL
open PySem L2
mutual
def wt (K : Nat) : Tr → Nat
  | .dd v => v.length
  | .nm _ => K
  | .th ps => wtL K ps
  | .ei ps => wtL K ps
  | .ti t _ => wt K t
  | .ag t => wt K t
def wtL (K : Nat) : List Tr → Nat
  | [] => 0
  | t :: r => wt K t + wtL K r
end
theorem wt_dd (K : Nat) (v : List Nat) : wt K (.dd v) = v.length := by rw [wt]
theorem wt_nm (K : Nat) (v : List Nat) : wt K (.nm v) = K := by rw [wt]
theorem wt_th (K : Nat) (v : List Tr) : wt K (.th v) = wtL K v := by rw [wt]
theorem wt_ti (K : Nat) (t : Tr) (n : Nat) : wt K (.ti t n) = wt K t := by rw [wt]
theorem wtL_cons (K : Nat) (t : Tr) (r : List Tr) : wtL K (t :: r) = wt K t + wtL K r := by rw [wtL]
/-- a drawn tree, its deeds, its names, its counts -/
def TrD (al : List Nat) (ns : List (List Nat)) (cb : Nat) : Nat → Tr → Prop
  | 0, _ => False
  | _ + 1, .dd v => ∀ c ∈ v, c ∈ al
  | _ + 1, .nm s => s ∈ ns
  | n + 1, .th ps => ps.length ≤ 20 ∧ ∀ p ∈ ps, TrD al ns cb n p
  | n + 1, .ti t c => c ≤ cb ∧ TrD al ns cb n t
  | _ + 1, _ => False
section
variable {al : List Nat} {ns ns' : List (List Nat)} {cb : Nat}
theorem TrD.mono : ∀ {n m : Nat} {t : Tr}, TrD al ns cb n t → n ≤ m → TrD al ns cb m t
  | n + 1, 0, _, h, e => by omega
  | n + 1, m + 1, .dd _, h, e => h
  | n + 1, m + 1, .nm s, h, e => h
  | n + 1, m + 1, .th ps, ⟨h1, h2⟩, e => ⟨h1, fun p hp => (h2 p hp).mono (by omega)⟩
  | n + 1, m + 1, .ti t _, ⟨h1, h2⟩, e => ⟨h1, h2.mono (by omega)⟩
  | n + 1, m + 1, .ei ps, h, e => h.elim
  | n + 1, m + 1, .ag t, h, e => h.elim
theorem TrD.names (hn : ∀ s ∈ ns, s ∈ ns') : ∀ {n : Nat} {t : Tr}, TrD al ns cb n t → TrD al ns' cb n t
  | n + 1, .dd _, h => h
  | n + 1, .nm s, h => hn s h
  | n + 1, .th ps, ⟨h1, h2⟩ => ⟨h1, fun p hp => (h2 p hp).names hn⟩
  | n + 1, .ti t _, ⟨h1, h2⟩ => ⟨h1, h2.names hn⟩
  | n + 1, .ei ps, h => h.elim
  | n + 1, .ag t, h => h.elim
theorem plainL_map {ts : List Tr} : (∀ t ∈ ts, (Tr.dat t).plain = true) → D.plainL (ts.map Tr.dat) = true := by
  induction ts with
  | nil => exact fun _ => rfl
  | cons t r ih =>
    intro h
    show ((Tr.dat t).plain && D.plainL (r.map Tr.dat)) = true
    rw [h t List.mem_cons_self, ih fun x hx => h x (List.mem_cons_of_mem _ hx)]
    rfl
theorem depL_map {ts : List Tr} {n : Nat} : (∀ t ∈ ts, (Tr.dat t).dep ≤ n) → D.depL (ts.map Tr.dat) ≤ n := by
  induction ts with
  | nil => exact fun _ => Nat.zero_le _
  | cons t r ih =>
    intro h
    show max (Tr.dat t).dep (D.depL (r.map Tr.dat)) ≤ n
    have := h t List.mem_cons_self
    have := ih fun x hx => h x (List.mem_cons_of_mem _ hx)
    omega
theorem TrD.plain (hal : ∀ c ∈ al, c ∈ LET) (hns : ∀ s ∈ ns, D.plain (.str s) = true) : ∀ {n : Nat} {t : Tr}, TrD al ns cb n t → t.dat.plain = true ∧ t.dat.dep ≤ n
  | n + 1, .dd v, h => by
    rw [dat_eq]
    refine ⟨?_, by show 1 ≤ n + 1; omega⟩
    show (D.plain (.str DDS) && (D.plain (.str v) && true)) = true
    rw [plain_of fun c hc => hal c (h c hc)]
    rfl
  | n + 1, .nm s, h => by
    rw [dat_eq]
    refine ⟨?_, by show 1 ≤ n + 1; omega⟩
    show (D.plain (.str wNAM) && (D.plain (.str s) && true)) = true
    rw [hns s h]
    rfl
  | n + 1, .th ps, ⟨h1, h2⟩ => by
    rw [dat_eq]
    refine ⟨?_, ?_⟩
    · show (D.plain (.str wTHE) && D.plainL (ps.map Tr.dat)) = true
      rw [plainL_map fun t ht => ((h2 t ht).plain hal hns).1]
      rfl
    · show max 0 (D.depL (ps.map Tr.dat)) + 1 ≤ n + 1
      have := depL_map fun t ht => ((h2 t ht).plain hal hns).2
      omega
  | n + 1, .ti t c, ⟨h1, h2⟩ => by
    obtain ⟨a, b⟩ := h2.plain hal hns
    rw [dat_eq]
    refine ⟨?_, ?_⟩
    · show (D.plain (.str wTIM) && ((Tr.dat t).plain && true)) = true
      rw [a]
      rfl
    · show max 0 (max (Tr.dat t).dep 0) + 1 ≤ n + 1
      omega
end
theorem eqD_w {t u : Tr} (h : t.w ≠ u.w) : eqD t.dat u.dat = false := by
  rw [dat_eq, dat_eq]
  show (eqD (.str t.w) (.str u.w) && _) = false
  rw [eqD_str, decide_eq_false h]
  rfl
section
variable {ds : List D} {kd : KD} {ko : D → D → Prop} {kx : KX} {Γ : Ga} {t ta tb tc : TP} {tl : TL} {d e c c0 : D} {n i j : Nat} {P : PEn} {u v : List Nat} {s r : TSp} {cb : TB} {env : Env} {q : Tr} {b : Bool}
local instance : Tabl := ⟨[], fun p hp => absurd hp (by simp)⟩
end
end PL
set_option Elab.async false
set_option linter.all false
set_option maxRecDepth 100000
set_option maxHeartbeats 4000000
namespace PL
open PySem L2
abbrev CAP : List Nat := [65, 66, 67, 68, 69, 70, 71, 72, 73, 74, 75, 76, 77, 78, 79, 80, 81, 82, 83, 84, 85, 86, 87, 88, 89, 90]
/-- trees of names, each with names ahead of its own -/
def WorldOk (al : List Nat) (cb : Nat) (env : Env) : Prop := (env.map (·.1)).Nodup ∧ (∀ q ∈ env, D.plain (.str q.1) = true) ∧ ∀ (i : Nat) (q : List Nat × Tr), env[i]? = some q → TrD al ((env.take i).map (·.1)) cb 3 q.2 ∧ ∀ K, 6 ≤ K → wt K q.2 ≤ K * 9
section
variable {ds : List D} {kd : KD} {ko : D → D → Prop} {kx : KX} {Γ : Ga} {t ta tb tc : TP} {tl : TL} {d e c c0 : D} {n i j : Nat} {P : PEn} {u v : List Nat} {s r : TSp} {cb : TB} {env : Env} {q : Tr} {b : Bool} {al : List Nat} {ns : List (List Nat)}
local instance : Tabl := ⟨[], fun p hp => absurd hp (by simp)⟩
theorem evn_1p {k : Nat} (hb : Ev tb Γ .bag) (hk : 1 ≤ k ∧ k ≤ 100) : EvN (tpOp fAdd (tpC (.int 1)) (tpCall 2 fsPull (tlCons tb (tlCons (tpC (.int (k : Nat))) tlNil)))) Γ (fun d => ∃ n : Nat, (1 ≤ n ∧ n ≤ k) ∧ d = .int (n : Nat)) :=
  evn_op (evn (ev_c (.int 1))) (evn_pull hb (ev_c (.int (k : Nat))) (by omega) (by omega)) fun x y hx ⟨r, r0, r1, hy⟩ kk z => by
    subst hx hy
    exact z _ ⟨(1 + r).toNat, ⟨by omega, by omega⟩, by congr 1; omega⟩
theorem evn_joinCs {A : List Nat → Prop} (h : EvN t Γ (fun d => ∃ u, (A u ∧ u.length ≤ 3000) ∧ d = .lst (u.map fun c => .str [c]))) : EvN (tpJoin (tpC (.str [])) t) Γ (fun d => ∃ u, A u ∧ d = .str u) := fun k kx z => h _ _ fun d ⟨u, ⟨hA, hz⟩, e⟩ => by
  subst e
  have e : (u.map fun c => D.str [c]) = (u.map fun c => [c]).map D.str := by rw [List.map_map]; rfl
  show onSs (u.map fun c => D.str [c]) _
  rw [e, onSs_map]
  refine ⟨?_, ?_⟩
  · show ((u.map fun c => [c]).map (·.length)).sum + (u.map fun c => [c]).length * 0 ≤ 16777216
    rw [← List.length_flatten, flat_signs]
    omega
  · rw [joinL_nil, flat_signs]
    exact z _ ⟨u, hA, rfl⟩
end
end PL
set_option Elab.async false
set_option linter.all false
set_option maxRecDepth 100000
set_option maxHeartbeats 4000000
namespace PL
open PySem L2
def Tr.isTh : Tr → Bool
  | .th _ => true
  | _ => false
def wrB (b : Bool) (s : List Nat) : List Nat := if b = true then 40 :: (s ++ [41]) else s
mutual
def scT : Tr → List Nat
  | .dd v => if v = [] then [45] else v
  | .nm s => s
  | .th ps => (scS 46 ps).tail
  | .ei ps => 40 :: ((scS 124 ps).tail ++ [41])
  | .ti t n => wrB t.isTh (scT t) ++ 94 :: TL.numL n
  | .ag t => wrB t.isTh (scT t) ++ [94, 42]
def scS (c : Nat) : List Tr → List Nat
  | [] => []
  | t :: r => c :: (scT t ++ scS c r)
end
mutual
def Tr.dp : Tr → Nat
  | .dd _ => 1
  | .nm _ => 1
  | .th ps => dpL ps + 1
  | .ei ps => dpL ps + 1
  | .ti t _ => Tr.dp t + 1
  | .ag t => Tr.dp t + 1
def dpL : List Tr → Nat
  | [] => 0
  | t :: r => max (Tr.dp t) (dpL r)
end
inductive OkT : Tr → Prop
  | dd {v : List Nat} (h : ∀ c ∈ v, c ∈ LET) (hz : v.length ≤ 3000) : OkT (.dd v)
  | nm {s : List Nat} (h1 : 1 ≤ s.length) (h2 : s.length ≤ 6) (h3 : ∀ c ∈ s, c ∈ CAP) : OkT (.nm s)
  | th {ps : List Tr} (h1 : 2 ≤ ps.length) (h2 : ps.length ≤ 1000) (h3 : ∀ p ∈ ps, OkT p) (h4 : ∀ p ∈ ps, p.isTh = false ∧ p ≠ .dd []) (h5 : ∀ (i : Nat) (v w : List Nat), ps[i]? = some (.dd v) → ps[i + 1]? ≠ some (.dd w)) : OkT (.th ps)
  | ei {ps : List Tr} (h1 : 2 ≤ ps.length) (h2 : ps.length ≤ 1000) (h3 : ∀ p ∈ ps, OkT p) : OkT (.ei ps)
  | ti {t : Tr} {n : Nat} (h : OkT t) (hn : n ≤ 10 ^ 30) : OkT (.ti t n)
  | ag {t : Tr} (h : OkT t) : OkT (.ag t)
theorem scS_cons (c : Nat) (t : Tr) (r : List Tr) : scS c (t :: r) = c :: (scT t ++ scS c r) := by rw [scS]
theorem scS_tail (c : Nat) (t : Tr) (r : List Tr) : (scS c (t :: r)).tail = scT t ++ scS c r := by rw [scS]; rfl
theorem dp_pos (t : Tr) : 1 ≤ t.dp := by cases t <;> simp [Tr.dp]
theorem dpL_le {p : Tr} : ∀ {ps : List Tr}, p ∈ ps → p.dp ≤ dpL ps
  | t :: r, h => by
    rw [dpL]
    rcases List.mem_cons.mp h with rfl | h
    · exact Nat.le_max_left _ _
    · exact Nat.le_trans (dpL_le h) (Nat.le_max_right _ _)
def Tr.bs : Tr → Tr
  | .ti t _ => t.bs
  | .ag t => t.bs
  | t => t
def Tr.pw : Tr → List (Option Nat)
  | .ti t n => t.pw ++ [some n]
  | .ag t => t.pw ++ [none]
  | _ => []
def appP (u : Tr) : Option Nat → Tr
  | some n => .ti u n
  | none => .ag u
def pwS : Option Nat → List Nat
  | some n => 94 :: TL.numL n
  | none => [94, 42]
def pwsS : List (Option Nat) → List Nat
  | [] => []
  | p :: r => pwS p ++ pwsS r
theorem pwsS_app : ∀ a b : List (Option Nat), pwsS (a ++ b) = pwsS a ++ pwsS b
  | [], _ => rfl
  | p :: r, b => by
    show pwS p ++ pwsS (r ++ b) = _
    rw [pwsS_app r b, ← List.append_assoc]
    rfl
theorem bs_app : ∀ t : Tr, t.pw.foldl appP t.bs = t
  | .dd _ => rfl
  | .nm _ => rfl
  | .th _ => rfl
  | .ei _ => rfl
  | .ti t n => by
    show (t.pw ++ [some n]).foldl appP t.bs = _
    rw [List.foldl_append, bs_app t]
    rfl
  | .ag t => by
    show (t.pw ++ [none]).foldl appP t.bs = _
    rw [List.foldl_append, bs_app t]
    rfl
theorem sc_ti (t : Tr) (n : Nat) : scT (.ti t n) = wrB t.isTh (scT t) ++ 94 :: TL.numL n := by rw [scT]
theorem sc_ag (t : Tr) : scT (.ag t) = wrB t.isTh (scT t) ++ [94, 42] := by rw [scT]
/-- a base bears no chain -/
def Tr.plainB : Tr → Bool
  | .ti _ _ => false
  | .ag _ => false
  | _ => true
theorem bs_plain : ∀ t : Tr, t.bs.plainB = true
  | .dd _ => rfl
  | .nm _ => rfl
  | .th _ => rfl
  | .ei _ => rfl
  | .ti t _ => bs_plain t
  | .ag t => bs_plain t
theorem bs_ok : ∀ {t : Tr}, OkT t → OkT t.bs
  | .dd _, h => h
  | .nm _, h => h
  | .th _, h => h
  | .ei _, h => h
  | .ti t _, .ti h _ => bs_ok (t := t) h
  | .ag t, .ag h => bs_ok (t := t) h
theorem pw_ok : ∀ {t : Tr}, OkT t → ∀ n, some n ∈ t.pw → n ≤ 10 ^ 30
  | .dd _, h, n, z => nomatch z
  | .nm _, h, n, z => nomatch z
  | .th _, h, n, z => nomatch z
  | .ei _, h, n, z => nomatch z
  | .ti t m, .ti h hm, n, z => by
    rcases List.mem_append.mp (show some n ∈ t.pw ++ [some m] from z) with z | z
    · exact pw_ok h n z
    · cases List.mem_singleton.mp z
      exact hm
  | .ag t, .ag h, n, z => by
    rcases List.mem_append.mp (show some n ∈ t.pw ++ [none] from z) with z | z
    · exact pw_ok h n z
    · cases List.mem_singleton.mp z
/-- the text of a tree with its brackets, if any -/
abbrev wrT (t : Tr) : List Nat := wrB t.isTh (scT t)
theorem wr_chain : ∀ t : Tr, wrT t = wrT t.bs ++ pwsS t.pw
  | .dd _ => (List.append_nil _).symm
  | .nm _ => (List.append_nil _).symm
  | .th _ => (List.append_nil _).symm
  | .ei _ => (List.append_nil _).symm
  | .ti t n => by
    show scT (.ti t n) = wrT t.bs ++ pwsS (t.pw ++ [some n])
    rw [sc_ti, pwsS_app, ← List.append_assoc, ← wr_chain t]
    show _ = wrT t ++ ((94 :: TL.numL n) ++ [])
    rw [List.append_nil]
  | .ag t => by
    show scT (.ag t) = wrT t.bs ++ pwsS (t.pw ++ [none])
    rw [sc_ag, pwsS_app, ← List.append_assoc, ← wr_chain t]
    rfl
/-- how deep the reader goes into a base -/
def wdp (t : Tr) : Nat := if t.isTh = true then t.dp + 1 else t.dp
theorem wdp_le (t : Tr) : wdp t ≤ t.dp + 1 := by
  unfold wdp
  split <;> omega
theorem wdp_chain : ∀ t : Tr, wdp t.bs ≤ wdp t ∧ t.pw.length + 1 ≤ t.dp
  | .dd _ => ⟨Nat.le_refl _, dp_pos _⟩
  | .nm _ => ⟨Nat.le_refl _, dp_pos _⟩
  | .th _ => ⟨Nat.le_refl _, dp_pos _⟩
  | .ei _ => ⟨Nat.le_refl _, dp_pos _⟩
  | .ti t n => by
    have ih := wdp_chain t
    have := wdp_le t
    show wdp t.bs ≤ Tr.dp (.ti t n) ∧ (t.pw ++ [some n]).length + 1 ≤ Tr.dp (.ti t n)
    rw [List.length_append, Tr.dp]
    exact ⟨by omega, by show _ + 1 + 1 ≤ _; omega⟩
  | .ag t => by
    have ih := wdp_chain t
    have := wdp_le t
    show wdp t.bs ≤ Tr.dp (.ag t) ∧ (t.pw ++ [none]).length + 1 ≤ Tr.dp (.ag t)
    rw [List.length_append, Tr.dp]
    exact ⟨by omega, by show _ + 1 + 1 ≤ _; omega⟩
end PL
set_option Elab.async false
set_option linter.all false
set_option maxRecDepth 100000
set_option maxHeartbeats 4000000
namespace PL
open PySem L2
abbrev rdr (CR : Addr) (s : List Nat) : D := .ins CR [(("text_left" : PySem.Str), .str s)]
structure TxOk (s : List Nat) : Prop where
  hz : s.length ≤ 20000
  hc : ∀ c ∈ s, c < 128
theorem TxOk.suf {a b : List Nat} (h : TxOk (a ++ b)) : TxOk b := ⟨by have := h.hz; rw [List.length_append] at this; omega, fun c hc => h.hc c (List.mem_append_right _ hc)⟩
theorem TxOk.pre {a b : List Nat} (h : TxOk (a ++ b)) : TxOk a := ⟨by have := h.hz; rw [List.length_append] at this; omega, fun c hc => h.hc c (List.mem_append_left _ hc)⟩
theorem TxOk.tl {a : Nat} {b : List Nat} (h : TxOk (a :: b)) : TxOk b := TxOk.suf (a := [a]) h
theorem TxOk.hd {a : Nat} {b : List Nat} (h : TxOk (a :: b)) : a < 128 := h.hc a List.mem_cons_self
theorem TxOk.pl {a : List Nat} (h : TxOk a) : D.plain (.str a) = true := by
  show (a.all fun c => decide (c < 1114112)) = true
  rw [List.all_eq_true]
  exact fun c hc => decide_eq_true (Nat.lt_trans (h.hc c hc) (by decide))
theorem TxOk.ln {a : List Nat} (h : TxOk a) : a.length ≤ sizeLine := Nat.le_trans h.hz (by decide)
def fsPassed (CR : Addr) : FSo := fun ds k _ => ∃ (s : List Nat) (c : Nat), (ds = [rdr CR s, .str [c]] ∧ TxOk s ∧ c < 128) ∧ match s with
  | [] => k (.bl false) (rdr CR [])
  | x :: r => if x = c then k (.bl true) (rdr CR r) else k (.bl false) (rdr CR (x :: r))
def tkW (g s : List Nat) : List Nat := s.takeWhile fun c => decide (c ∈ g)
def drW (g s : List Nat) : List Nat := s.dropWhile fun c => decide (c ∈ g)
def fsRunR (CR : Addr) : FSo := fun ds k _ => ∃ (s g : List Nat), (ds = [rdr CR s, .str g] ∧ TxOk s) ∧ k (.str (tkW g s)) (rdr CR (drW g s))
def xText (CX : Addr) : XD := ⟨.ref CX, [(("tag" : PySem.Str), .str ("InvalidText" : PySem.Str).cps.toList)]⟩
section
variable {ds : List D} {kd : KD} {ko : D → D → Prop} {kx : KX} {Γ : Ga} {t ta tb tc : TP} {tl : TL} {d e c c0 : D} {n i j : Nat} {P : PEn} {u v : List Nat} {s r : TSp} {cb : TB} {q : Tr} {b : Bool} {CR CX : Addr} {p : Addr}
local instance : Tabl := ⟨[], fun p hp => absurd hp (by simp)⟩
theorem ev_varW {p : Addr} (e : gat Γ i = .pw p d) : Ev (tpVarU i) Γ d := fun k kx h => by
  show (match gat Γ i with | .pu d => k d | .ow d => k d | .lk _ _ d => k d | .pw _ d => k d | _ => False)
  rw [e]
  exact h
theorem ev_left {s : List Nat} {T : Ga} : Ev (tpFld [CR] "text_left" (tpVarU 0)) (.pw p (rdr CR s) :: T) (.str s) := ev_fld (ev_varW rfl) List.mem_cons_self rfl
theorem st_setFW {cs : List Addr} {f : PySem.Str} (h : Ev t Γ d) (g : onOI Γ i fun C fs => C ∈ cs ∧ fs.length < 900 ∧ s P (oput Γ i (.ins C (putFD f d fs)))) : tsSeq (tsSetF cs i f t) s P Γ := h _ _ g
theorem passed_ok' : fsPassed CR ds ko kx → m_Reader_passed CR ds ko kx := by
  rintro ⟨s, c, ⟨rfl, hs, hc⟩, h⟩ p
  let G : Ga := [.pw p (rdr CR s), .pu (.str [c])]
  have sl : Ev (tpSl (tpFld [CR] "text_left" (tpVarU 0)) toNo (toSome (tpC (.int 1)))) G (.str (s.take 1)) := ev_slT ev_left (ev_c (.int 1)) rfl hs.ln
  have pc : D.plain (.str [c]) = true := TxOk.pl (a := [c]) ⟨by show 1 ≤ 20000; decide, fun x hx => by rw [List.mem_singleton.mp hx]; exact hc⟩
  have ps : D.plain (.str (s.take 1)) = true := TxOk.pl ⟨Nat.le_trans (List.length_take_le _ _) (by decide), fun x hx => hs.hc x (List.mem_of_mem_take hx)⟩
  have ne := ev_neS sl (ev_var (Γ := G) (i := 1) (d := .str [c]) rfl) ps pc
  refine st_ifNB (Γ := G) (evb_v ne) (fun e => ?_) (fun e => ?_)
  · have e : s.take 1 ≠ [c] := by simpa using e
    refine st_ret (ev_c _) ?_
    show p = p ∧ ko (.bl false) (rdr CR s)
    match s, h with
    | [], h => exact ⟨rfl, h⟩
    | x :: r, h =>
      have : ¬ x = c := fun z => e (by rw [z]; rfl)
      have h : if x = c then ko (.bl true) (rdr CR r) else ko (.bl false) (rdr CR (x :: r)) := h
      rw [if_neg this] at h
      exact ⟨rfl, h⟩
  · have e : s.take 1 = [c] := by simpa using e
    cases s with
    | nil => cases e
    | cons x r =>
      have : x = c := (List.cons.inj e).1
      have h : if x = c then ko (.bl true) (rdr CR r) else ko (.bl false) (rdr CR (x :: r)) := h
      rw [if_pos this] at h
      have dr : Ev (tpSl (tpFld [CR] "text_left" (tpVarU 0)) (toSome (tpC (.int 1))) toNo) G (.str r) := ev_slD ev_left (ev_c (.int 1)) rfl hs.ln
      exact st_setFW (Γ := G) (i := 0) (f := "text_left") dr ⟨List.mem_cons_self, by show 1 < 900; decide, st_ret (ev_c _) ⟨rfl, h⟩⟩
abbrev rnC (CR : Addr) : TB := (tbAnd (tbV (tpOp fLt (tpVar 2) (tp1 fLenS (tpFld [CR] "text_left" (tpVarU 0))))) (tbV (tpOp fInS (tpOp fIx (tpFld [CR] "text_left" (tpVarU 0)) (tpVar 2)) (tpVar 1))))
theorem run_wh {s g : List Nat} {s3 : Sl} (hs : TxOk s) (hk : P.nx [.pw p (rdr CR s), .pu (.str g), .pu (.int ((tkW g s).length : Nat)), s3]) :
    ∀ (post pre : List Nat), s = pre ++ post → (∀ c ∈ pre, c ∈ g) → whW (rnC CR) (tsAug 2 (fun i j => i + j) (tpC (.int 1))) P (post.length + 1) [.pw p (rdr CR s), .pu (.str g), .pu (.int (pre.length : Nat)), s3]
  | [], pre, e, hp => by
    have z : tkW g s = pre := by
      rw [e, List.append_nil]
      unfold tkW
      exact NumText.takeWhile_all fun c hc => decide_eq_true (hp c hc)
    rw [z] at hk
    have lt := ev_ltI (Γ := [.pw p (rdr CR s), .pu (.str g), .pu (.int (pre.length : Nat)), s3]) (ta := tpVar 2) (ev_var rfl) (ev_lenS (ev_left (CR := CR) (p := p) (s := s)) hs.ln)
    rw [decide_eq_false (by rw [e, List.append_nil]; omega)] at lt
    exact evb_andF (evb_v lt) _ _ hk
  | c :: post, pre, e, hp => by
    let G : Ga := [.pw p (rdr CR s), .pu (.str g), .pu (.int (pre.length : Nat)), s3]
    have lt := ev_ltI (Γ := G) (ta := tpVar 2) (ev_var rfl) (ev_lenS (ev_left (CR := CR) (p := p) (s := s)) hs.ln)
    have hl : pre.length < s.length := by rw [e, List.length_append, List.length_cons]; omega
    rw [decide_eq_true (by omega)] at lt
    have at_ : atI s ((pre.length : Nat) : Int) = some c := by
      rw [at_nat s _ hl]
      subst e
      simp
    have inn := ev_inS (Γ := G) (ev_ixS (ev_left (CR := CR) (p := p) (s := s)) (ev_var (i := 2) (d := .int (pre.length : Nat)) rfl) hs.ln at_) (ev_var (i := 1) (d := .str g) rfl)
    by_cases hc : c ∈ g
    · rw [decide_eq_true hc] at inn
      have ih := run_wh (s3 := s3) hs hk post (pre ++ [c]) (by rw [e, List.append_assoc]; rfl) (fun x hx => by
        rcases List.mem_append.mp hx with hx | hx
        · exact hp x hx
        · rw [List.mem_singleton.mp hx]; exact hc)
      have cast : (((pre ++ [c]).length : Nat) : Int) = (pre.length : Nat) + 1 := by rw [List.length_append]; rfl
      rw [cast] at ih
      exact evb_andT (evb_v lt) (evb_v inn) _ _ ih
    · rw [decide_eq_false hc] at inn
      have z : tkW g s = pre := by
        rw [e]
        unfold tkW
        rw [List.takeWhile_append_of_pos fun c hc => decide_eq_true (hp c hc), List.takeWhile_cons, decide_eq_false hc]
        exact List.append_nil _
      rw [z] at hk
      exact evb_andT (evb_v lt) (evb_v inn) _ _ hk
theorem tk_dr (g s : List Nat) : s.take (tkW g s).length = tkW g s ∧ s.drop (tkW g s).length = drW g s := by
  have e : tkW g s ++ drW g s = s := List.takeWhile_append_dropWhile
  generalize tkW g s = a at e
  generalize drW g s = b at e
  subst e
  exact ⟨List.take_left, List.drop_left⟩
theorem run_ok' : fsRunR CR ds ko kx → m_Reader_run CR ds ko kx := by
  rintro ⟨s, g, ⟨rfl, hs⟩, h⟩ p
  obtain ⟨e1, e2⟩ := tk_dr g s
  refine st_set (Γ := [.pw p (rdr CR s), .pu (.str g), .un, .un]) (ev_c (.int 0)) ?_
  refine st_while (Γ := [.pw p (rdr CR s), .pu (.str g), .pu (.int 0), .un]) (s.length + 1) (run_wh hs ?_ s [] rfl fun _ z => nomatch z)
  let G : Ga := [.pw p (rdr CR s), .pu (.str g), .pu (.int ((tkW g s).length : Nat)), .un]
  refine st_set (Γ := G) (d := .str (tkW g s)) (by
    have := ev_slT (Γ := G) (ev_left (CR := CR) (p := p) (s := s)) (ev_var (i := 2) (d := .int ((tkW g s).length : Nat)) rfl) rfl hs.ln
    rwa [e1] at this) ?_
  let G2 : Ga := [.pw p (rdr CR s), .pu (.str g), .pu (.int ((tkW g s).length : Nat)), .pu (.str (tkW g s))]
  have dr := ev_slD (Γ := G2) (ev_left (CR := CR) (p := p) (s := s)) (ev_var (i := 2) (d := .int ((tkW g s).length : Nat)) rfl) rfl hs.ln
  rw [e2] at dr
  exact st_setFW (Γ := G2) (i := 0) (f := "text_left") dr ⟨List.mem_cons_self, by show 1 < 900; decide, st_ret (ev_var rfl) ⟨rfl, h⟩⟩
end
end PL
set_option Elab.async false
set_option linter.all false
set_option maxRecDepth 100000
set_option maxHeartbeats 4000000
namespace PL
open PySem L2
abbrev DIG : List Nat := [48, 49, 50, 51, 52, 53, 54, 55, 56, 57]
def StopA (r : List Nat) : Prop := ∀ c, r.head? = some c → c = 46 ∨ c = 124 ∨ c = 41 ∨ c = 94
def StopP (r : List Nat) : Prop := ∀ c, r.head? = some c → c = 46 ∨ c = 124 ∨ c = 41
def StopR (r : List Nat) : Prop := ∀ c, r.head? = some c → c = 124 ∨ c = 41
theorem StopR.p {r : List Nat} (h : StopR r) : StopP r := fun c e => (h c e).elim (fun z => .inr (.inl z)) fun z => .inr (.inr z)
theorem StopP.a {r : List Nat} (h : StopP r) : StopA r := fun c e => (h c e).elim .inl fun z => z.elim (fun z => .inr (.inl z)) fun z => .inr (.inr (.inl z))
def nameB (s : List Nat) : Bool := (decide (1 ≤ s.length) && decide (s.length ≤ 6)) && s.all fun c => decide (c ∈ CAP)
def fsIsName : FS := fun ds k _ => match ds with
  | [.str s] => s.length ≤ 20000 ∧ k (.bl (nameB s))
  | _ => False
def fsScAtom (CR CX : Addr) (n : Nat) : FSo := fun ds k kx => ∃ (t : Tr) (r : List Nat) (d : Nat), (ds = [rdr CR (wrT t ++ r), .int (d : Nat)] ∧ OkT t ∧ t.plainB = true ∧ d ≤ n ∧ TxOk (wrT t ++ r) ∧ StopA r) ∧ (wdp t ≤ d ∧ t.dp ≤ 12 ∨ kx (xText CX)) ∧ k t.dat (rdr CR r)
def fsScPow (CR CX : Addr) (n : Nat) : FSo := fun ds k kx => ∃ (t : Tr) (r : List Nat) (d : Nat), (ds = [rdr CR (scT t ++ r), .int (d : Nat)] ∧ OkT t ∧ t.isTh = false ∧ d ≤ n ∧ TxOk (scT t ++ r) ∧ StopP r) ∧ (t.dp ≤ d ∧ t.dp ≤ 12 ∨ kx (xText CX)) ∧ k t.dat (rdr CR r)
def fsScRow (CR CX : Addr) (n : Nat) : FSo := fun ds k kx => ∃ (t : Tr) (r : List Nat) (d : Nat), (ds = [rdr CR (scT t ++ r), .int (d : Nat)] ∧ OkT t ∧ d < n ∧ TxOk (scT t ++ r) ∧ StopR r) ∧ (t.dp ≤ d ∧ t.dp ≤ 12 ∨ kx (xText CX)) ∧ k t.dat (rdr CR r)
section
variable {ds : List D} {kd : KD} {ko : D → D → Prop} {kx : KX} {Γ T : Ga} {t ta tb tc : TP} {tl : TL} {d e c0 : D} {n i j c : Nat} {P : PEn} {u v s g : List Nat} {cb : TB} {q : Tr} {b : Bool} {CR CX : Addr} {p : Addr} {gq : FSo} {nm : PySem.Str} {k : D → Ga → Prop} {kb : Bool → Ga → Prop} {kxx : XD → Ga → Prop}
local instance : Tabl := ⟨[], fun p hp => absurd hp (by simp)⟩
theorem zm (nk : noKp T = true) (hnm : List.lookup nm [(("text_left" : PySem.Str), D.str s)] = none) (hl : EvL tl (.pw p (rdr CR s) :: T) ds) (hn : ds.length = n) (hg : gq (rdr CR s :: ds) (fun d y => k d (.pw p y :: T)) (fun z => kxx z (.un :: T))) : tzMeth 0 [(CR, gq)] nm n tl (.pw p (rdr CR s) :: T) k kxx :=
  ⟨nk, hnm, gq, List.mem_cons_self, hl _ _ ⟨hn, hg⟩⟩
abbrev tbPass (CR : Addr) (c : Nat) : TBZ := tbzV (tzMeth 0 [(CR, fsPassed CR)] "passed" 1 (tlCons (tpC (.str [c])) tlNil))
theorem bz_yes (nk : noKp T = true) (hs : TxOk (c :: s)) (hk : kb true (.pw p (rdr CR s) :: T)) : tbPass CR c (.pw p (rdr CR (c :: s)) :: T) kb kxx :=
  zm nk rfl (evl_1 (ev_c _)) rfl ⟨c :: s, c, ⟨rfl, hs, hs.hd⟩, by
    show if c = c then _ else _
    rw [if_pos rfl]
    exact hk⟩
theorem bz_no (nk : noKp T = true) (hs : TxOk s) (hh : s.head? ≠ some c) (hc : c < 128) (hk : kb false (.pw p (rdr CR s) :: T)) : tbPass CR c (.pw p (rdr CR s) :: T) kb kxx :=
  zm nk rfl (evl_1 (ev_c _)) rfl ⟨s, c, ⟨rfl, hs, hc⟩, by
    match s, hh, hk with
    | [], _, hk => exact hk
    | x :: r, hh, hk =>
      show if x = c then _ else _
      rw [if_neg fun z => hh (by rw [z]; rfl)]
      exact hk⟩
abbrev tzRun (CR : Addr) (g : List Nat) : TZ := tzMeth 0 [(CR, fsRunR CR)] "run" 1 (tlCons (tpC (.str g)) tlNil)
theorem zrun {a r : List Nat} (nk : noKp T = true) (hs : TxOk (a ++ r)) (ha : ∀ c ∈ a, c ∈ g) (hr : ∀ c, r.head? = some c → c ∉ g) (hk : k (.str a) (.pw p (rdr CR r) :: T)) : tzRun CR g (.pw p (rdr CR (a ++ r)) :: T) k kxx := by
  have e : tkW g (a ++ r) = a ∧ drW g (a ++ r) = r := by
    have z : tkW g r = [] ∧ drW g r = r := by
      cases r with
      | nil => exact ⟨rfl, rfl⟩
      | cons c r =>
        have := hr c rfl
        constructor
        · show (c :: r).takeWhile _ = _
          rw [List.takeWhile_cons, decide_eq_false this]
          rfl
        · show (c :: r).dropWhile _ = _
          rw [List.dropWhile_cons, decide_eq_false this]
          rfl
    constructor
    · show (a ++ r).takeWhile _ = _
      rw [List.takeWhile_append_of_pos fun c hc => decide_eq_true (ha c hc)]
      show a ++ tkW g r = a
      rw [z.1, List.append_nil]
    · show (a ++ r).dropWhile _ = _
      rw [List.dropWhile_append_of_pos fun c hc => decide_eq_true (ha c hc)]
      exact z.2
  refine zm nk rfl (evl_1 (ev_c _)) rfl ⟨a ++ r, g, ⟨rfl, hs⟩, ?_⟩
  rw [e.1, e.2]
  exact hk
theorem evl_star {xs : List D} (h : Ev t Γ (.lst xs)) (hr : EvL tl Γ ds) : EvL (tlStar t tl) Γ (xs ++ ds) := fun k kx z => h _ _ (hr _ _ z)
/-- a part is read -/
def RdPc (gq : FSo) (CR CX : Addr) (z : Int) (Stop : List Nat → Prop) (A : Prop) (t : Tr) : Prop := ∀ (r : List Nat) (k : D → D → Prop) (kx : KX), TxOk (scT t ++ r) → Stop r → (A → kx (xText CX)) → k t.dat (rdr CR r) → gq [rdr CR (scT t ++ r), .int z] k kx
theorem loopZ {Stop : List Nat → Prop} {A : Prop} {z : Int} {tail : List Nat} {arg : TP} {T : Ga} {x1 : Sl} (nk : noKp (x1 :: T) = true) (hnm : ∀ s : List Nat, List.lookup nm [(("text_left" : PySem.Str), D.str s)] = none) (hc : c < 128) (ht : tail.head? ≠ some c) (hA : ∀ Γ, A → P.xx (xText CX) Γ)
    (harg : ∀ (y : D) (acc : List D), Ev arg (.pw p y :: x1 :: .ow (.lst acc) :: T) (.int z)) : ∀ (qs : List Tr) (acc : List D), (∀ q ∈ qs, RdPc gq CR CX z Stop A q) → (∀ qs, Stop (scS c qs ++ tail)) → acc.length + qs.length < 100000 → TxOk (scS c qs ++ tail) →
    P.nx (.pw p (rdr CR tail) :: x1 :: .ow (.lst (acc ++ qs.map Tr.dat)) :: T) →
    whZ (tbPass CR c) (tsAppZ 2 (tzMeth 0 [(CR, gq)] nm 1 (tlCons arg tlNil))) P (qs.length + 1) (.pw p (rdr CR (scS c qs ++ tail)) :: x1 :: .ow (.lst acc) :: T)
  | [], acc, _, _, _, hs, hk => by
    have nk2 : noKp (x1 :: .ow (.lst acc) :: T) = true := by
      unfold noKp at nk ⊢
      rw [List.all_cons] at nk ⊢
      rw [List.all_cons]
      exact nk
    rw [List.map_nil, List.append_nil] at hk
    exact bz_no (s := tail) nk2 hs ht hc hk
  | q :: qs, acc, hq, hst, hl, hs, hk => by
    have nk2 : noKp (x1 :: .ow (.lst acc) :: T) = true := by
      unfold noKp at nk ⊢
      rw [List.all_cons] at nk ⊢
      rw [List.all_cons]
      exact nk
    rw [scS_cons, List.cons_append, List.append_assoc] at hs ⊢
    rw [List.length_cons] at hl
    refine bz_yes nk2 hs ?_
    show tsAppZ 2 _ _ _
    refine ⟨⟨acc, rfl⟩, ?_⟩
    refine zm nk2 (hnm _) (evl_1 (harg _ _)) rfl ?_
    refine hq q List.mem_cons_self _ _ _ hs.tl (hst qs) (fun a => hA _ a) ⟨acc, rfl, by omega, ?_⟩
    refine loopZ nk hnm hc ht hA harg qs (acc ++ [q.dat]) (fun q' h => hq q' (List.mem_cons_of_mem _ h)) hst (by rw [List.length_append]; show _ + 1 + _ < _; omega) hs.tl.suf ?_
    rw [List.append_assoc]
    exact hk
end
end PL
set_option Elab.async false
set_option linter.all false
set_option maxRecDepth 100000
set_option maxHeartbeats 4000000
namespace PL
open PySem L2
theorem numL_hd : ∀ {n : Nat}, 1 ≤ n → (TL.numL n).head? ≠ some 48 := by
  intro n
  induction n using Nat.strongRecOn with
  | _ n ih =>
    intro h
    by_cases h10 : n < 10
    · rw [TL.numL_lt h10]
      intro z
      have := Option.some.inj z
      omega
    · rw [TL.numL_step (by omega)]
      have ih := ih (n / 10) (by omega) (by omega)
      cases e : TL.numL (n / 10) with
      | nil => exact absurd e (TL.numL_ne _)
      | cons c r =>
        rw [e] at ih
        exact ih
theorem intS_num (n : Nat) : intS ((n : Nat) : Int) = TL.numL n := TL.tl_num n
theorem numL_30 {n : Nat} (h : n ≤ 10 ^ 30) : (TL.numL n).length ≤ 31 := TL.numL_len (by decide) (Nat.lt_of_le_of_lt h (by decide))
section
variable {ds : List D} {kd : KD} {ko : D → D → Prop} {kx : KX} {Γ T : Ga} {t ta tb tc : TP} {tl : TL} {d e c0 : D} {n i j c : Nat} {P : PEn} {u v s g : List Nat} {cb : TB} {q : Tr} {b : Bool} {CR CX : Addr} {p : Addr} {gq : FSo} {nm : PySem.Str} {k : D → Ga → Prop} {kb : Bool → Ga → Prop} {kxx : XD → Ga → Prop}
local instance : Tabl := ⟨[], fun p hp => absurd hp (by simp)⟩
theorem ss_num (n : Nat) : SS (TL.numL n) = PySem.Str.ofString (toString ((n : Nat) : Int)) := by
  rw [← intS_num, ss_intS]
theorem ev_intS {n : Nat} (h : Ev t Γ (.str (TL.numL n))) (hn : n ≤ 10 ^ 30) : Ev (tp1 fIntS t) Γ (.int (n : Nat)) := ev_1 h fun k z => ⟨n, by
    rw [ss_num]
    exact TL.int_num (Nat.le_trans (numL_30 hn) (by decide)), Nat.le_trans (numL_30 hn) (by decide), z⟩
theorem rw_arg {T : Ga} {z : Int} : ∀ (y : D) (acc : List D), Ev (tpVar 1) (.pw p y :: .pu (.int z) :: .ow (.lst acc) :: T) (.int z) := fun y acc => ev_var rfl
theorem rdPow {A : Prop} {t : Tr} {d : Nat} (ht : OkT t) (hth : t.isTh = false) (hd : d ≤ n) (hf : t.dp ≤ d ∧ t.dp ≤ 12 ∨ A) : RdPc (fsScPow CR CX n) CR CX (d : Nat) StopP A t := fun r k kx hs hst hx hk => ⟨t, r, d, ⟨rfl, ht, hth, hd, hs, hst⟩, hf.imp_right hx, hk⟩
theorem rdRow {A : Prop} {t : Tr} {d : Nat} (ht : OkT t) (hd : d < n) (hf : t.dp ≤ d ∧ t.dp ≤ 12 ∨ A) : RdPc (fsScRow CR CX n) CR CX (d : Nat) StopR A t := fun r k kx hs hst hx hk => ⟨t, r, d, ⟨rfl, ht, hd, hs, hst⟩, hf.imp_right hx, hk⟩
theorem stopP_S {qs : List Tr} {r : List Nat} (h : StopR r) : StopP (scS 46 qs ++ r) := by
  cases qs with
  | nil => exact h.p
  | cons q qs =>
    rw [scS_cons]
    exact fun c e => .inl (Option.some.inj e).symm
theorem stopR_S {qs : List Tr} {r : List Nat} : StopR (scS 124 qs ++ 41 :: r) := by
  cases qs with
  | nil => exact fun c e => .inr (Option.some.inj e).symm
  | cons q qs =>
    rw [scS_cons]
    exact fun c e => .inl (Option.some.inj e).symm
abbrev retP (w : List Nat) : TSp := (tsRet (tpIf (tbV (tpOp fGt (tp1 fLenS (tpVarU 2)) (tpC (.int 1)))) (tpTup (tlCons (tpC (.str w)) (tlStar (tpVarU 2) tlNil))) (tpOp fIx (tpVarU 2) (tpC (.int 0)))))
theorem ret_many {w : List Nat} {s0 s1 : Sl} {l : List D} (h : 2 ≤ l.length) (hz : l.length ≤ 1000) (hk : P.rt (.tup (.str w :: l)) (s0 :: s1 :: .ow (.lst l) :: T)) : retP w P (s0 :: s1 :: .ow (.lst l) :: T) := by
  have g := ev_gtI (Γ := s0 :: s1 :: .ow (.lst l) :: T) (ev_lenL (ev_varO (i := 2) (d := .lst l) rfl)) (ev_c (.int 1))
  rw [decide_eq_true (by omega)] at g
  refine st_ret (ev_ifT (evb_v g) (ev_tup (evl_cons (ev_c (.str w)) (evl_star (ev_varO (i := 2) (d := .lst l) rfl) evl_nil)) (by rw [List.append_nil, List.length_cons]; omega))) ?_
  rw [List.append_nil]
  exact hk
theorem ret_one {w : List Nat} {s0 s1 : Sl} {d : D} (hk : P.rt d (s0 :: s1 :: .ow (.lst [d]) :: T)) : retP w P (s0 :: s1 :: .ow (.lst [d]) :: T) := by
  have g := ev_gtI (Γ := s0 :: s1 :: .ow (.lst [d]) :: T) (ev_lenL (ev_varO (i := 2) (d := .lst [d]) rfl)) (ev_c (.int 1))
  rw [decide_eq_false (by show ¬ (1 : Int) < 1; decide)] at g
  exact st_ret (ev_ifF (evb_v g) (ev_ixL (ev_varO (i := 2) (d := .lst [d]) rfl) (ev_c (.int 0)) rfl)) hk
/-- the first part, and then the others -/
theorem row_go {qs : List Tr} {q : Tr} {r : List Nat} {d : Nat} (hq : ∀ t ∈ q :: qs, OkT t ∧ t.isTh = false ∧ (t.dp ≤ d ∧ t.dp ≤ 12 ∨ kx (xText CX))) (hd : d ≤ n) (hs : TxOk (scT q ++ (scS 46 qs ++ r))) (hst : StopR r) (hl : qs.length ≤ 1000)
    (hk : ∀ p, retP wTHE (iEnds p ko kx) [.pw p (rdr CR r), .pu (.int (d : Nat)), .ow (.lst (q.dat :: qs.map Tr.dat))]) :
    m_Reader_row CR (fsScPow CR CX n) (fsPassed CR) [rdr CR (scT q ++ (scS 46 qs ++ r)), .int (d : Nat)] ko kx := by
  intro p
  have hp : ∀ t ∈ q :: qs, RdPc (fsScPow CR CX n) CR CX (d : Nat) StopP (kx (xText CX)) t := fun t ht => by
    obtain ⟨h1, h2, h3⟩ := hq t ht
    exact rdPow h1 h2 hd h3
  have nt : r.head? ≠ some 46 := fun z => by rcases hst _ z with z | z <;> cases z
  show tsOwn1Z 2 _ _ _
  refine zm (T := [.pu (.int (d : Nat)), .un]) rfl rfl (evl_1 (ev_var rfl)) rfl (hp q List.mem_cons_self _ _ _ hs (stopP_S hst) (fun a => a) ?_)
  show tsSeq (tsWhileZ _ _) _ _ _
  refine ⟨qs.length + 1, loopZ (T := []) rfl (fun _ => rfl) (by decide) nt (fun _ a => a) rw_arg qs [q.dat] (fun t ht => hp t (List.mem_cons_of_mem _ ht)) (fun qs => stopP_S hst) (by show 1 + _ < _; omega) hs.suf ?_⟩
  exact hk p
theorem scRow_ok' : fsScRow CR CX (n + 1) ds ko kx → m_Reader_row CR (fsScPow CR CX n) (fsPassed CR) ds ko kx := by
  rintro ⟨t, r, d, ⟨rfl, ht, hd, hs, hst⟩, hf, hk⟩
  by_cases e : t.isTh = true
  · cases t with
    | th ps =>
      cases ht with
      | th h1 h2 h3 h4 h5 =>
        match ps, h1, h2, h3, h4 with
        | q :: qs, h1, h2, h3, h4 =>
          have tx : scT (.th (q :: qs)) ++ r = scT q ++ (scS 46 qs ++ r) := by rw [scT, scS_tail, List.append_assoc]
          rw [tx] at hs ⊢
          refine row_go (fun t ht => ⟨h3 t ht, (h4 t ht).1, hf.imp_left fun z => ?_⟩) (by omega) hs hst (by rw [List.length_cons] at h2; omega) fun p => ?_
          · have := dpL_le ht
            rw [Tr.dp] at z
            omega
          · refine ret_many (l := (q :: qs).map Tr.dat) (by rw [List.length_map]; exact h1) (by rw [List.length_map]; exact h2) ?_
            rw [dat_eq (.th (q :: qs))] at hk
            exact ⟨rfl, hk⟩
    | _ => cases e
  · have e : t.isTh = false := by simpa using e
    have := row_go (CR := CR) (CX := CX) (n := n) (qs := []) (q := t) (r := r) (d := d) (ko := ko) (kx := kx) (fun u hu => by
      rw [List.mem_singleton.mp hu]
      exact ⟨ht, e, hf⟩) (by omega) hs hst (by decide) fun p => ret_one ⟨rfl, hk⟩
    exact this
theorem ev_chLL {a b c : Int} (h : Ev ta Γ (.int a)) (g : Ev tb Γ (.int b)) (f : Ev tc Γ (.int c)) : Ev (tpChain fLe fLe ta tb tc) Γ (.bl (decide (a ≤ b) && decide (b ≤ c))) := fun k kx z => h _ _ (g _ _ (by
  show (if decide (a ≤ b) = true then _ else _)
  by_cases q : a ≤ b
  · rw [if_pos (decide_eq_true q)]
    rw [decide_eq_true q, Bool.true_and] at z
    exact f _ _ z
  · rw [if_neg (by rw [decide_eq_true_eq]; exact q)]
    rw [decide_eq_false q, Bool.false_and] at z
    exact z))
theorem rd_digits {c : Nat} : c ∈ DIG ↔ 48 ≤ c ∧ c ≤ 57 := by
  simp only [List.mem_cons, List.not_mem_nil, or_false]
  omega
theorem pows_go {r : List Nat} {d : Nat} (hst : StopP r) (ps : List (Option Nat)) : ∀ c, (pwsS ps ++ r).head? = some c → c ∉ DIG ∧ c ∉ CAP ∧ c ∉ LET := fun c e => by
  have : c = 94 ∨ c = 46 ∨ c = 124 ∨ c = 41 := by
    match ps, e with
    | [], e => exact .inr (hst c e)
    | some n :: ps, e => exact .inl (Option.some.inj e).symm
    | none :: ps, e => exact .inl (Option.some.inj e).symm
  rcases this with rfl | rfl | rfl | rfl <;> decide
abbrev pwBody (CR CX : Addr) : TSp := (tsSeq (tsAug 3 (fun i j => i + j) (tpC (.int 1)))
    (tsSeq (tsIf (tbV (tpOp fGt (tpVar 3) (tpC (.int 12))))
    (tsRaise0 CX "InvalidText")
    tsNext)
    (tsSeq (tsIfZ (tbzV (tzMeth 0 [(CR, fsPassed CR)] "passed" 1 (tlCons (tpC (.str [42])) tlNil)))
    (tsSeq (tsSet 2 (tpTup (tlCons (tpC (.str [97, 103, 97, 105, 110])) (tlCons (tpVar 2) tlNil))))
    tsCont)
    tsNext)
    (tsSeq (tsSetZ 4 (tzMeth 0 [(CR, fsRunR CR)] "run" 1 (tlCons (tpC (.str [48, 49, 50, 51, 52, 53, 54, 55, 56, 57])) tlNil)))
    (tsSeq (tsIf (tbOr (tbNot (tbV (tpChain fLe fLe (tpC (.int 1)) (tp1 fLenS (tpVar 4)) (tpC (.int 31))))) (tbAnd (tbV (tpOp fEq (tpOp fIx (tpVar 4) (tpC (.int 0))) (tpC (.str [48])))) (tbV (tpOp fNe (tpVar 4) (tpC (.str [48]))))))
    (tsRaise0 CX "InvalidText")
    tsNext)
    (tsSet 2 (tpTup (tlCons (tpC (.str [116, 105, 109, 101, 115])) (tlCons (tpVar 2) (tlCons (tp1 fIntS (tpVar 4)) tlNil))))))))))
theorem pw_loop {r : List Nat} {dI : D} (hst : StopP r) (hx : ∀ Γ, kx (xText CX) → P.xx (xText CX) Γ) : ∀ (ps : List (Option Nat)) (u : Tr) (j : Nat) (s4 : Sl), noKp [s4] = true → (∀ n, some n ∈ ps → n ≤ 10 ^ 30) → (j + ps.length ≤ 12 ∨ kx (xText CX)) → TxOk (pwsS ps ++ r) →
    (∀ j s4, P.nx [.pw p (rdr CR r), .pu dI, .pu (ps.foldl appP u).dat, .pu (.int j), s4]) →
    whZ (tbPass CR 94) (pwBody CR CX) P (ps.length + 1) [.pw p (rdr CR (pwsS ps ++ r)), .pu dI, .pu u.dat, .pu (.int (j : Nat)), s4]
  | [], u, j, s4, nk, _, _, hs, hk => bz_no (s := r) (T := [.pu dI, .pu u.dat, .pu (.int (j : Nat)), s4]) nk hs (fun z => by rcases hst _ z with z | z | z <;> cases z) (by decide) (hk _ _)
  | o :: ps, u, j, s4, nk, hn, hf, hs, hk => by
    have step : ∀ (rest : List Nat) (y : Ga), y = [.pw p (rdr CR rest), .pu dI, .pu u.dat, .pu (.int ((j + 1 : Nat) : Nat)), s4] → True := fun _ _ _ => trivial
    have g12 : ∀ {s : List Nat}, Ev (tpOp fGt (tpVar 3) (tpC (.int 12))) [.pw p (rdr CR s), .pu dI, .pu u.dat, .pu (.int ((j : Nat) + 1)), s4] (.bl (decide ((12 : Int) < (j : Nat) + 1))) := fun {s} => ev_gtI (ev_var (d := .int ((j : Nat) + 1)) rfl) (ev_c (.int 12))
    have cast : ((j : Nat) : Int) + 1 = ((j + 1 : Nat) : Int) := by omega
    have fit : j + 1 + ps.length ≤ 12 ∨ kx (xText CX) := hf.imp_left fun z => by rw [List.length_cons] at z; omega
    match o, hn, hs, hk with
    | none, hn, hs, hk =>
      have hs : TxOk (94 :: 42 :: (pwsS ps ++ r)) := hs
      refine bz_yes (T := [.pu dI, .pu u.dat, .pu (.int (j : Nat)), s4]) nk hs ?_
      show tsSeq (tsAug _ _ _) _ _ _
      refine st_ifNB (Γ := [.pw p (rdr CR (42 :: (pwsS ps ++ r))), .pu dI, .pu u.dat, .pu (.int ((j : Nat) + 1)), s4]) (evb_v g12) (fun e => ?_) (fun e => ?_)
      · have e : (12 : Int) < (j : Nat) + 1 := by simpa using e
        exact hx _ (hf.resolve_left fun z => by rw [List.length_cons] at z; omega)
      show tsIfZ (tbPass CR 42) _ _ _ _
      refine bz_yes (c := 42) (T := [.pu dI, .pu u.dat, .pu (.int ((j : Nat) + 1)), s4]) nk hs.tl ?_
      refine st_set (Γ := [.pw p (rdr CR (pwsS ps ++ r)), .pu dI, .pu u.dat, .pu (.int ((j : Nat) + 1)), s4]) (d := (Tr.ag u).dat) (by
        rw [dat_eq (.ag u)]
        exact ev_tup (evl_2 (ev_c _) (ev_var rfl)) (by show 2 ≤ 100000; decide)) ?_
      rw [cast]
      exact pw_loop hst hx ps (.ag u) (j + 1) s4 nk (fun n h => hn n (List.mem_cons_of_mem _ h)) fit hs.tl.tl hk
    | some n, hn, hs, hk =>
      have n30 := hn n List.mem_cons_self
      have tx : pwsS (some n :: ps) ++ r = 94 :: (TL.numL n ++ (pwsS ps ++ r)) := by
        show (94 :: TL.numL n) ++ pwsS ps ++ r = _
        rw [List.append_assoc]
        rfl
      rw [tx] at hs ⊢
      refine bz_yes (T := [.pu dI, .pu u.dat, .pu (.int (j : Nat)), s4]) nk hs ?_
      show tsSeq (tsAug _ _ _) _ _ _
      refine st_ifNB (Γ := [.pw p (rdr CR (TL.numL n ++ (pwsS ps ++ r))), .pu dI, .pu u.dat, .pu (.int ((j : Nat) + 1)), s4]) (evb_v g12) (fun e => ?_) (fun e => ?_)
      · have e : (12 : Int) < (j : Nat) + 1 := by simpa using e
        exact hx _ (hf.resolve_left fun z => by rw [List.length_cons] at z; omega)
      show tsIfZ (tbPass CR 42) _ _ _ _
      refine bz_no (c := 42) (T := [.pu dI, .pu u.dat, .pu (.int ((j : Nat) + 1)), s4]) nk hs.tl (fun z => ?_) (by decide) ?_
      · cases e2 : TL.numL n with
        | nil => exact TL.numL_ne _ e2
        | cons c l =>
          rw [e2] at z
          have := TL.numL_digits n c (by rw [e2]; exact List.mem_cons_self)
          have : c = 42 := Option.some.inj z
          omega
      show tsSetZ 4 (tzRun CR DIG) _ _
      unfold tsSetZ
      refine zrun (T := [.pu dI, .pu u.dat, .pu (.int ((j : Nat) + 1)), s4]) nk hs.tl (fun c hc => rd_digits.mpr (TL.numL_digits n c hc)) (fun c hc => (pows_go (d := 0) hst ps c hc).1) ?_
      let G : Ga := [.pw p (rdr CR (pwsS ps ++ r)), .pu dI, .pu u.dat, .pu (.int ((j : Nat) + 1)), .pu (.str (TL.numL n))]
      have v4 : Ev (tpVar 4) G (.str (TL.numL n)) := ev_var rfl
      have tn : TxOk (TL.numL n) := hs.tl.pre
      have l1 : 1 ≤ (TL.numL n).length := by
        have := TL.numL_ne n
        cases e2 : TL.numL n with
        | nil => exact absurd e2 this
        | cons c l => rw [List.length_cons]; omega
      have l2 := numL_30 n30
      have ch : Ev (tpChain fLe fLe (tpC (.int 1)) (tp1 fLenS (tpVar 4)) (tpC (.int 31))) G (.bl true) := by
        have := ev_chLL (ev_c (Γ := G) (.int 1)) (ev_lenS v4 tn.ln) (ev_c (.int 31))
        rw [decide_eq_true (by omega), decide_eq_true (by omega)] at this
        exact this
      have hd0 : ∃ c l, TL.numL n = c :: l := by
        cases e2 : TL.numL n with
        | nil => exact absurd e2 (TL.numL_ne n)
        | cons c l => exact ⟨c, l, rfl⟩
      obtain ⟨c, l, e2⟩ := hd0
      have ix : Ev (tpOp fIx (tpVar 4) (tpC (.int 0))) G (.str [c]) := ev_ixS v4 (ev_c (.int 0)) tn.ln (by
        rw [e2]
        show atI (c :: l) ((0 : Nat) : Int) = _
        rw [at_nat _ _ (by simp)]
        rfl)
      have pc : D.plain (.str [c]) = true := TxOk.pl (a := [c]) ⟨by show 1 ≤ 20000; decide, fun x hx => tn.hc x (by rw [e2, List.mem_singleton.mp hx]; exact List.mem_cons_self)⟩
      have eq := ev_eqS ix (ev_c (.str [48])) pc (by decide)
      have an : EvB (tbAnd (tbV (tpOp fEq (tpOp fIx (tpVar 4) (tpC (.int 0))) (tpC (.str [48])))) (tbV (tpOp fNe (tpVar 4) (tpC (.str [48]))))) G false := by
        by_cases hc : c = 48
        · have n0 : n = 0 := by
            rcases Nat.eq_zero_or_pos n with h | h
            · exact h
            · have := numL_hd h
              rw [e2, hc] at this
              exact absurd rfl this
          have ne := ev_neS v4 (ev_c (.str [48])) tn.pl (by decide)
          rw [hc] at eq
          subst n0
          exact evb_andT (evb_v eq) (evb_v ne)
        · rw [decide_eq_false (by intro z; exact hc (List.cons.inj z).1)] at eq
          exact evb_andF (evb_v eq)
      refine st_ifN (Γ := G) (evb_orF (evb_not (evb_v ch)) an) ?_
      refine st_set1 (Γ := G) (d := (Tr.ti u n).dat) (by
        rw [dat_eq (.ti u n)]
        exact ev_tup (evl_3 (ev_c _) (ev_var rfl) (ev_intS v4 n30)) (by show 3 ≤ 100000; decide)) ?_
      show whZ (tbPass CR 94) (pwBody CR CX) P (ps.length + 1) [.pw p (rdr CR (pwsS ps ++ r)), .pu dI, .pu (Tr.ti u n).dat, .pu (.int ((j : Nat) + 1)), .pu (.str (TL.numL n))]
      rw [cast]
      exact pw_loop hst hx ps (.ti u n) (j + 1) _ rfl (fun n h => hn n (List.mem_cons_of_mem _ h)) fit hs.tl.suf hk
theorem scPow_ok' : fsScPow CR CX n ds ko kx → m_Reader_powers CX CR (fsScAtom CR CX n) (fsPassed CR) (fsRunR CR) ds ko kx := by
  rintro ⟨t, r, d, ⟨rfl, ht, hth, hd, hs, hst⟩, hf, hk⟩ p
  have w : wrT t = scT t := by
    show wrB t.isTh _ = _
    rw [hth]
    rfl
  have wd : wdp t = t.dp := by
    unfold wdp
    rw [hth]
    rfl
  obtain ⟨c1, c2⟩ := wdp_chain t
  have tx : scT t ++ r = wrT t.bs ++ (pwsS t.pw ++ r) := by rw [← w, wr_chain t, List.append_assoc]
  rw [tx] at hs ⊢
  have le : t.bs.dp ≤ wdp t.bs := by unfold wdp; split <;> omega
  show tsPar2Z 2 3 _ _ _ _
  refine zm (T := [.pu (.int (d : Nat)), .un, .un, .un]) rfl rfl (evl_1 (ev_var rfl)) rfl ⟨t.bs, pwsS t.pw ++ r, d, ⟨rfl, bs_ok ht, bs_plain t, hd, hs, ?_⟩, hf.imp_left fun z => ⟨by omega, by omega⟩, ?_⟩
  · intro c e
    match h : t.pw, e with
    | [], e => exact hst.a c e
    | some n :: ps, e => exact .inr (.inr (.inr (Option.some.inj e).symm))
    | none :: ps, e => exact .inr (.inr (.inr (Option.some.inj e).symm))
  · show tsSeq (tsWhileZ _ _) _ _ _
    refine ⟨t.pw.length + 1, pw_loop (kx := kx) hst (fun _ z => z) t.pw t.bs 0 .un rfl (pw_ok ht) (hf.imp_left fun z => by omega) hs.suf fun j s4 => ?_⟩
    rw [bs_app]
    exact st_ret (P := iEnds p ko kx) (Γ := [.pw p (rdr CR r), .pu (.int (d : Nat)), .pu t.dat, .pu (.int j), s4]) (ev_var (i := 2) rfl) ⟨rfl, hk⟩
theorem let_ne {c : Nat} (h : c ∈ LET) : c ≠ 40 ∧ c ≠ 45 ∧ c < 128 ∧ c ∉ CAP := by
  have : ∀ c ∈ LET, c ≠ 40 ∧ c ≠ 45 ∧ c < 128 ∧ c ∉ CAP := by decide
  exact this c h
theorem cap_ne {c : Nat} (h : c ∈ CAP) : c ≠ 40 ∧ c ≠ 45 ∧ c < 128 ∧ c ∉ LET := by
  have : ∀ c ∈ CAP, c ≠ 40 ∧ c ≠ 45 ∧ c < 128 ∧ c ∉ LET := by decide
  exact this c h
theorem stopA_no {r : List Nat} (h : StopA r) : ∀ c, r.head? = some c → c ∉ CAP ∧ c ∉ LET := fun c e => by
  rcases h c e with rfl | rfl | rfl | rfl <;> decide
abbrev atA (CR CX : Addr) (gr : FSo) : TSp := (tsSeq (tsOwn1Z 2 (tzMeth 0 [(CR, gr)] "row" 1 (tlCons (tpOp fSub (tpVar 1) (tpC (.int 1))) tlNil)))
    (tsSeq (tsWhileZ (tbzV (tzMeth 0 [(CR, fsPassed CR)] "passed" 1 (tlCons (tpC (.str [124])) tlNil)))
    (tsAppZ 2 (tzMeth 0 [(CR, gr)] "row" 1 (tlCons (tpOp fSub (tpVar 1) (tpC (.int 1))) tlNil))))
    (tsSeq (tsIfZ (tbzNot (tbzV (tzMeth 0 [(CR, fsPassed CR)] "passed" 1 (tlCons (tpC (.str [41])) tlNil))))
    (tsRaise0 CX "InvalidText")
    tsNext)
    (retP wEIT))))
/-- what stands in brackets -/
theorem at_in {qs : List Tr} {q : Tr} {r : List Nat} {d : Nat} {A : Prop} (hq : ∀ t ∈ q :: qs, OkT t ∧ (t.dp ≤ d ∧ t.dp ≤ 12 ∨ A)) (hA : ∀ Γ, A → P.xx (xText CX) Γ) (hd : d < n) (hs : TxOk (scT q ++ (scS 124 qs ++ 41 :: r))) (hl : qs.length ≤ 1000)
    (hk : retP wEIT P [.pw p (rdr CR r), .pu (.int ((d : Nat) + 1)), .ow (.lst (q.dat :: qs.map Tr.dat)), .un, .un]) :
    atA CR CX (fsScRow CR CX n) P [.pw p (rdr CR (scT q ++ (scS 124 qs ++ 41 :: r))), .pu (.int ((d : Nat) + 1)), .un, .un, .un] := by
  have hp : ∀ t ∈ q :: qs, RdPc (fsScRow CR CX n) CR CX (d : Nat) StopR A t := fun t ht => by
    obtain ⟨h1, h3⟩ := hq t ht
    exact rdRow h1 hd h3
  have arg : ∀ (y : D) (T : Ga), Ev (tpOp fSub (tpVar 1) (tpC (.int 1))) (.pw p y :: .pu (.int ((d : Nat) + 1)) :: T) (.int (d : Nat)) := fun y T => by
    have := ev_subI (Γ := .pw p y :: .pu (.int ((d : Nat) + 1)) :: T) (ev_var (i := 1) rfl) (ev_c (.int 1))
    rwa [show ((d : Nat) : Int) + 1 - 1 = (d : Nat) by omega] at this
  show tsOwn1Z 2 _ _ _
  unfold tsOwn1Z
  refine zm (T := [.pu (.int ((d : Nat) + 1)), .un, .un, .un]) rfl rfl (evl_1 (arg _ _)) rfl (hp q List.mem_cons_self _ _ _ hs stopR_S (fun a => hA _ a) ?_)
  show tsSeq (tsWhileZ _ _) _ _ _
  show ∃ m, whZ (tbPass CR 124) (tsAppZ 2 (tzMeth 0 [(CR, fsScRow CR CX n)] "row" 1 (tlCons (tpOp fSub (tpVar 1) (tpC (.int 1))) tlNil))) { P with nx := tsSeq (tsIfZ (tbzNot (tbPass CR 41)) (tsRaise0 CX "InvalidText") tsNext) (retP wEIT) P } m [.pw p (rdr CR (scS 124 qs ++ 41 :: r)), .pu (.int ((d : Nat) + 1)), .ow (.lst [q.dat]), .un, .un]
  refine ⟨qs.length + 1, loopZ (P := { P with nx := tsSeq (tsIfZ (tbzNot (tbPass CR 41)) (tsRaise0 CX "InvalidText") tsNext) (retP wEIT) P }) (CX := CX) (nm := "row") (A := A) (Stop := StopR) (z := (d : Nat)) (T := [.un, .un]) (tail := 41 :: r) rfl (fun _ => rfl) (by decide) (by intro z; cases z) (fun Γ a => hA Γ a) (fun y acc => arg y _) qs [q.dat] (fun t ht => hp t (List.mem_cons_of_mem _ ht)) (fun qs => stopR_S) (by show 1 + _ < _; omega) hs.suf ?_⟩
  show tsIfZ (tbzNot (tbPass CR 41)) _ _ _ _
  unfold tsIfZ tbzNot
  refine bz_yes (c := 41) (T := [.pu (.int ((d : Nat) + 1)), .ow (.lst (q.dat :: qs.map Tr.dat)), .un, .un]) rfl hs.suf.suf ?_
  exact hk
theorem atom_no {s : List Nat} {d : Nat} {tb : TSp} {X Y : TSp} {c : Nat} (hs : TxOk s) (hh : s.head? ≠ some c) (hc : c < 128) (nk : noKp T = true) (h : Y P (.pw p (rdr CR s) :: T)) : tsSeq (tsIfZ (tbPass CR c) X tsNext) Y P (.pw p (rdr CR s) :: T) := by
  show tsIfZ (tbPass CR c) _ _ _ _
  unfold tsIfZ
  exact bz_no nk hs hh hc h
theorem atom_ok' : fsScAtom CR CX n ds ko kx → m_Reader_atom CX CR fsIsName (fsPassed CR) (fsScRow CR CX n) (fsRunR CR) ds ko kx := by
  rintro ⟨t, r, d, ⟨rfl, ht, hb, hd, hs, hst⟩, hf, hk⟩ p
  let G : Ga := [.pw p (rdr CR (wrT t ++ r)), .pu (.int (d : Nat)), .un, .un, .un]
  have e0 := ev_eqI (Γ := G) (ev_var (i := 1) (d := .int (d : Nat)) rfl) (ev_c (.int 0))
  have wp : 1 ≤ wdp t := by
    have := dp_pos t
    unfold wdp
    split <;> omega
  refine st_ifNB (Γ := G) (evb_v e0) (fun e => ?_) (fun e => ?_)
  · have e : ((d : Nat) : Int) = 0 := by simpa using e
    exact hf.resolve_left fun z => by omega
  have e : ¬ ((d : Nat) : Int) = 0 := by simpa using e
  obtain ⟨d', rfl⟩ : ∃ d', d = d' + 1 := ⟨d - 1, by omega⟩
  have cast : ((d' + 1 : Nat) : Int) = ((d' : Nat) : Int) + 1 := by omega
  have open_ : ∀ {s : List Nat}, wrT t ++ r = 40 :: s → atA CR CX (fsScRow CR CX n) (iEnds p ko kx) [.pw p (rdr CR s), .pu (.int ((d' : Nat) + 1)), .un, .un, .un] → TxOk (40 :: s) → ∀ Y : TSp,
      tsSeq (tsIfZ (tbPass CR 40) (atA CR CX (fsScRow CR CX n)) tsNext) Y (iEnds p ko kx) G := fun {s} e2 h hs Y => by
    show tsIfZ (tbPass CR 40) _ _ _ [.pw p (rdr CR (wrT t ++ r)), .pu (.int ((d' + 1 : Nat) : Nat)), .un, .un, .un]
    rw [e2]
    unfold tsIfZ
    refine bz_yes (T := [.pu (.int ((d' + 1 : Nat) : Nat)), .un, .un, .un]) rfl hs ?_
    rw [cast]
    exact h
  have swap : ∀ {s : List Nat} (X : TSp), wrT t ++ r = s → X (iEnds p ko kx) [.pw p (rdr CR s), .pu (.int ((d' + 1 : Nat) : Nat)), .un, .un, .un] → X (iEnds p ko kx) G := fun X e h => by
    subst e
    exact h
  cases t with
  | ti t n => cases hb
  | ag t => cases hb
  | ei ps =>
    cases ht with
    | ei h1 h2 h3 =>
      match ps, h1, h2, h3 with
      | q :: qs, h1, h2, h3 =>
        have tx : wrT (.ei (q :: qs)) ++ r = 40 :: (scT q ++ (scS 124 qs ++ 41 :: r)) := by
          show scT (.ei (q :: qs)) ++ r = _
          rw [scT, scS_tail, List.cons_append, List.append_assoc, List.append_assoc]
          rfl
        refine open_ tx (at_in (A := kx (xText CX)) (fun t ht => ⟨h3 t ht, hf.imp_left fun z => ?_⟩) (fun _ a => a) (by omega) (by rw [tx] at hs; exact hs.tl) (by rw [List.length_cons] at h2; omega) ?_) (by rw [tx] at hs; exact hs) _
        · have := dpL_le ht
          obtain ⟨z1, z2⟩ := z
          have z1 : Tr.dp (.ei (q :: qs)) ≤ d' + 1 := z1
          rw [Tr.dp] at z1 z2
          omega
        · refine ret_many (l := (q :: qs).map Tr.dat) (by rw [List.length_map]; exact h1) (by rw [List.length_map]; exact h2) ?_
          rw [dat_eq (.ei (q :: qs))] at hk
          exact ⟨rfl, hk⟩
  | th ps =>
    have tx : wrT (.th ps) ++ r = 40 :: (scT (.th ps) ++ (scS 124 [] ++ 41 :: r)) := by
      show 40 :: (scT (.th ps) ++ [41]) ++ r = _
      rw [List.cons_append, List.append_assoc]
      rfl
    refine open_ tx (at_in (A := kx (xText CX)) (qs := []) (fun t h => ⟨by rw [List.mem_singleton.mp h]; exact ht, hf.imp_left fun z => ?_⟩) (fun _ a => a) (by omega) (by rw [tx] at hs; exact hs.tl) (by decide) ?_) (by rw [tx] at hs; exact hs) _
    · rw [List.mem_singleton.mp h]
      obtain ⟨z1, z2⟩ := z
      have z1 : Tr.dp (.th ps) + 1 ≤ d' + 1 := z1
      omega
    · exact ret_one ⟨rfl, hk⟩
  | nm s =>
    cases ht with
    | nm h1 h2 h3 =>
      match s, h1, h2, h3 with
      | c :: s, h1, h2, h3 =>
        obtain ⟨n1, n2, n3, n4⟩ := cap_ne (h3 c List.mem_cons_self)
        have tx : wrT (.nm (c :: s)) ++ r = c :: s ++ r := by
          show scT (.nm (c :: s)) ++ r = _
          rw [scT]
        refine swap _ tx ?_
        rw [tx] at hs
        refine atom_no (d := 0) (tb := tsNext) hs (fun z => n1 (Option.some.inj z)) (by decide) rfl ?_
        refine atom_no (d := 0) (tb := tsNext) hs (fun z => n2 (Option.some.inj z)) (by decide) rfl ?_
        show tsSetZ 3 (tzRun CR LET) _ _
        unfold tsSetZ
        refine zrun (a := []) (T := [.pu (.int ((d' + 1 : Nat) : Nat)), .un, .un, .un]) rfl hs (fun _ z => nomatch z) (fun x hx => by rw [← Option.some.inj hx]; exact n4) ?_
        let G3 : Ga := [.pw p (rdr CR (c :: s ++ r)), .pu (.int ((d' + 1 : Nat) : Nat)), .un, .pu (.str []), .un]
        have ne := ev_neS (Γ := G3) (ev_var (i := 3) (d := .str []) rfl) (ev_c (.str [])) rfl rfl
        refine st_ifN (Γ := G3) (evb_v ne) ?_
        show tsSetZ 4 (tzRun CR CAP) _ _
        unfold tsSetZ
        refine zrun (a := c :: s) (r := r) (T := [.pu (.int ((d' + 1 : Nat) : Nat)), .un, .pu (.str []), .un]) rfl hs h3 (fun x hx => (stopA_no hst x hx).1) ?_
        let G4 : Ga := [.pw p (rdr CR r), .pu (.int ((d' + 1 : Nat) : Nat)), .un, .pu (.str []), .pu (.str (c :: s))]
        have v4 : Ev (tpVar 4) G4 (.str (c :: s)) := ev_var rfl
        have isn : Ev (tpCall 1 fsIsName (tlCons (tpVar 4) tlNil)) G4 (.bl true) := ev_call (evl_1 v4) rfl fun k kx z => ⟨by omega, by
          have : nameB (c :: s) = true := by
            unfold nameB
            rw [decide_eq_true h1, decide_eq_true h2, List.all_eq_true.mpr fun x hx => decide_eq_true (h3 x hx)]
            rfl
          rw [this]
          exact z⟩
        refine st_ifN (Γ := G4) (evb_not (evb_v isn)) ?_
        refine st_ret (Γ := G4) (P := iEnds p ko kx) (ev_tup (evl_2 (ev_c _) v4) (by show 2 ≤ 100000; decide)) ?_
        rw [dat_eq (.nm (c :: s))] at hk
        exact ⟨rfl, hk⟩
  | dd v =>
    cases ht with
    | dd h3 hz3 =>
      match v, h3 with
      | [], h3 =>
        have tx : wrT (.dd []) ++ r = 45 :: r := by
          show scT (.dd []) ++ r = _
          rw [scT]
          rfl
        refine swap _ tx ?_
        rw [tx] at hs
        refine atom_no (d := 0) (tb := tsNext) hs (by intro z; cases z) (by decide) rfl ?_
        show tsIfZ (tbPass CR 45) _ _ _ _
        unfold tsIfZ
        refine bz_yes (T := [.pu (.int ((d' + 1 : Nat) : Nat)), .un, .un, .un]) rfl hs ?_
        refine st_ret (Γ := [.pw p (rdr CR r), .pu (.int ((d' + 1 : Nat) : Nat)), .un, .un, .un]) (P := iEnds p ko kx) (ev_tup (evl_2 (ev_c _) (ev_c _)) (by show 2 ≤ 100000; decide)) ?_
        rw [dat_eq (.dd [])] at hk
        exact ⟨rfl, hk⟩
      | c :: v, h3 =>
        obtain ⟨n1, n2, n3, n4⟩ := let_ne (h3 c List.mem_cons_self)
        have tx : wrT (.dd (c :: v)) ++ r = c :: v ++ r := by
          show scT (.dd (c :: v)) ++ r = _
          rw [scT, if_neg (by simp)]
        refine swap _ tx ?_
        rw [tx] at hs
        refine atom_no (d := 0) (tb := tsNext) hs (fun z => n1 (Option.some.inj z)) (by decide) rfl ?_
        refine atom_no (d := 0) (tb := tsNext) hs (fun z => n2 (Option.some.inj z)) (by decide) rfl ?_
        show tsSetZ 3 (tzRun CR LET) _ _
        unfold tsSetZ
        refine zrun (a := c :: v) (r := r) (T := [.pu (.int ((d' + 1 : Nat) : Nat)), .un, .un, .un]) rfl hs h3 (fun x hx => (stopA_no hst x hx).2) ?_
        let G3 : Ga := [.pw p (rdr CR r), .pu (.int ((d' + 1 : Nat) : Nat)), .un, .pu (.str (c :: v)), .un]
        have v3 : Ev (tpVar 3) G3 (.str (c :: v)) := ev_var rfl
        have ne := ev_neS (Γ := G3) v3 (ev_c (.str [])) hs.pre.pl rfl
        rw [decide_eq_false (by simp)] at ne
        refine st_ifT (Γ := G3) (evb_v ne) ?_
        refine st_ret (Γ := G3) (ev_tup (evl_2 (ev_c _) v3) (by show 2 ≤ 100000; decide)) ?_
        rw [dat_eq (.dd (c :: v))] at hk
        exact ⟨rfl, hk⟩
end
end PL
set_option Elab.async false
set_option linter.all false
set_option maxRecDepth 100000
set_option maxHeartbeats 4000000
namespace PL
open PySem L2 PyProof.Rows
end PL
set_option Elab.async false
set_option linter.all false
set_option maxRecDepth 100000
set_option maxHeartbeats 4000000
namespace PL
open PySem L2 PyProof.Rows
end PL
set_option Elab.async false
set_option linter.all false
set_option maxRecDepth 100000
set_option maxHeartbeats 4000000
namespace PL
open PySem L2 PyProof.Rows
end PL
set_option Elab.async false
set_option linter.all false
set_option maxRecDepth 100000
set_option maxHeartbeats 4000000
namespace PL
open PySem L2
end PL
set_option Elab.async false
set_option linter.all false
set_option maxRecDepth 100000
set_option maxHeartbeats 4000000
namespace PL
open PySem L2
section
variable {ds : List D} {kd : KD} {kx : KX} {CD : Addr} {Γ : Ga} {tl : TL} {i n : Nat} {ta tb : TP}
local instance : Tabl := ⟨[], fun p hp => absurd hp (by simp)⟩
theorem gd {s : List Nat} {j : Nat} (h : j < s.length) : s.getD j 0 = s[j] := by
  rw [List.getD_eq_getElem?_getD, List.getElem?_eq_getElem h]
  rfl
end
end PL
set_option Elab.async false
set_option linter.all false
set_option maxRecDepth 100000
set_option maxHeartbeats 4000000
namespace PL
open PySem L2
section
variable {ds : List D} {kd : KD} {kx : KX} {C CS CD CI CT CC CN CE CL : Addr} {Γ : Ga} {tl : TL} {i n : Nat} {ta tb t : TP} {d : D} {P : PEn} {s u r : TSp} {al : List Nat} {rs : List (List Int)} {x : XD} {cb : TB}
local instance : Tabl := ⟨[], fun p hp => absurd hp (by simp)⟩
theorem ev_within {d : D} {lo hi : Int} (h : Ev t Γ d) (g : Ev ta Γ (.int lo)) (f : Ev tb Γ (.int hi)) (ht : (tyD d).isSome = true) : Ev (tpCall 3 fsWithin (tlCons t (tlCons ta (tlCons tb tlNil)))) Γ (.bl (within lo hi d)) := ev_call (evl_3 h g f) rfl fun k kx z => ⟨ht, z⟩
end
end PL
set_option Elab.async false
set_option linter.all false
set_option maxRecDepth 100000
set_option maxHeartbeats 4000000
namespace PL
open PySem L2
def isB : Nat → Tr → Bool
  | 0, _ => false
  | _ + 1, .dd _ => true
  | _ + 1, .nm _ => true
  | d + 1, .ag t => isB d t
  | d + 1, .ti t _ => isB d t
  | d + 1, .th ps => decide (ps.length ≤ 20) && ps.all (isB d)
  | d + 1, .ei ps => decide (ps.length ≤ 20) && ps.all (isB d)
theorem dpL_of {d : Nat} : ∀ {ps : List Tr}, (∀ p ∈ ps, p.dp ≤ d) → dpL ps ≤ d
  | [], _ => Nat.zero_le _
  | t :: r, h => by
    rw [dpL]
    exact Nat.max_le.mpr ⟨h t List.mem_cons_self, dpL_of fun p hp => h p (List.mem_cons_of_mem _ hp)⟩
theorem isB_dp : ∀ {d : Nat} {t : Tr}, isB d t = true → t.dp ≤ d
  | d + 1, .dd _, h => by rw [Tr.dp]; omega
  | d + 1, .nm _, h => by rw [Tr.dp]; omega
  | d + 1, .ag t, h => by rw [Tr.dp]; exact Nat.succ_le_succ (isB_dp (d := d) (t := t) h)
  | d + 1, .ti t n, h => by rw [Tr.dp]; exact Nat.succ_le_succ (isB_dp (d := d) (t := t) h)
  | d + 1, .th ps, h => by
    have h : (decide (ps.length ≤ 20) && ps.all (isB d)) = true := h
    rw [Bool.and_eq_true, List.all_eq_true] at h
    rw [Tr.dp]
    exact Nat.succ_le_succ (dpL_of fun p hp => isB_dp (h.2 p hp))
  | d + 1, .ei ps, h => by
    have h : (decide (ps.length ≤ 20) && ps.all (isB d)) = true := h
    rw [Bool.and_eq_true, List.all_eq_true] at h
    rw [Tr.dp]
    exact Nat.succ_le_succ (dpL_of fun p hp => isB_dp (h.2 p hp))
theorem okT_plain : ∀ {t : Tr}, OkT t → t.dat.plain = true ∧ t.dat.dep ≤ t.dp := by
  intro t h
  induction h with
  | @dd v h hz =>
    rw [dat_eq, Tr.dp]
    refine ⟨?_, by show 1 ≤ 1; omega⟩
    show (D.plain (.str DDS) && (D.plain (.str v) && true)) = true
    rw [plain_of h]
    rfl
  | @nm s h1 h2 h3 =>
    rw [dat_eq, Tr.dp]
    refine ⟨?_, by show 1 ≤ 1; omega⟩
    have : D.plain (.str s) = true := TxOk.pl ⟨by omega, fun c hc => (cap_ne (h3 c hc)).2.2.1⟩
    show (D.plain (.str wNAM) && (D.plain (.str s) && true)) = true
    rw [this]
    rfl
  | @th ps h1 h2 h3 h4 h5 ih =>
    rw [dat_eq, Tr.dp]
    refine ⟨?_, ?_⟩
    · show (D.plain (.str wTHE) && D.plainL (ps.map Tr.dat)) = true
      rw [plainL_map fun t ht => (ih t ht).1]
      rfl
    · show max 0 (D.depL (ps.map Tr.dat)) + 1 ≤ _
      have := depL_map (n := dpL ps) fun t ht => Nat.le_trans (ih t ht).2 (dpL_le ht)
      omega
  | @ei ps h1 h2 h3 ih =>
    rw [dat_eq, Tr.dp]
    refine ⟨?_, ?_⟩
    · show (D.plain (.str wEIT) && D.plainL (ps.map Tr.dat)) = true
      rw [plainL_map fun t ht => (ih t ht).1]
      rfl
    · show max 0 (D.depL (ps.map Tr.dat)) + 1 ≤ _
      have := depL_map (n := dpL ps) fun t ht => Nat.le_trans (ih t ht).2 (dpL_le ht)
      omega
  | @ti t n h hn ih =>
    rw [dat_eq, Tr.dp]
    refine ⟨?_, ?_⟩
    · show (D.plain (.str wTIM) && ((Tr.dat t).plain && true)) = true
      rw [ih.1]
      rfl
    · show max 0 (max (Tr.dat t).dep 0) + 1 ≤ _
      omega
  | @ag t h ih =>
    rw [dat_eq, Tr.dp]
    refine ⟨?_, ?_⟩
    · show (D.plain (.str wAGA) && ((Tr.dat t).plain && true)) = true
      rw [ih.1]
      rfl
    · show max 0 (max (Tr.dat t).dep 0) + 1 ≤ _
      omega
def fsIsRow : FS := fun ds k _ => ∃ (w : List Nat) (ps : List Tr), (ds = [.str w, .tup (ps.map Tr.dat)] ∧ (w = wEIT ∨ w = wTHE ∧ OkT (.th ps) ∧ Tr.dp (.th ps) ≤ 40)) ∧ k (.bl true)
def fsIsTree (n : Nat) : FS := fun ds k _ => ∃ (t : Tr) (d : Nat), (ds = [t.dat, .int (d : Nat)] ∧ OkT t ∧ t.dp ≤ 40 ∧ d < n) ∧ k (.bl (isB d t))
def fsIsTree1 : FS := fun ds k _ => ∃ (t : Tr), (ds = [t.dat] ∧ OkT t ∧ t.dp ≤ 40) ∧ k (.bl (isB 12 t))
def xTree (CX : Addr) : XD := ⟨.ref CX, [(("tag" : PySem.Str), .str ("InvalidTree" : PySem.Str).cps.toList)]⟩
def fsNeedTree (CX : Addr) : FS := fun ds k kx => ∃ (t : Tr), (ds = [t.dat] ∧ OkT t ∧ t.dp ≤ 40) ∧ (isB 12 t = true → k .non) ∧ (isB 12 t = false → kx (xTree CX))
section
variable {ds : List D} {kd : KD} {ko : D → D → Prop} {kx : KX} {Γ T : Ga} {t ta tb tc : TP} {tl : TL} {d e c0 : D} {n i j c : Nat} {P : PEn} {u v s g : List Nat} {cb : TB} {q : Tr} {b : Bool} {CR CX : Addr}
local instance : Tabl := ⟨[], fun p hp => absurd hp (by simp)⟩
theorem ev_lcA {is : List Nat} {ti : TL} {te : TP} {α : Type} {items : List α} {pa : α → D} {f : α → D} (h : EvL ti Γ (items.map pa)) (hl : items.length ≤ 100000) (he : ∀ x ∈ items, Ev te (gset (wipeG Γ is) i (.pu (pa x))) (f x)) : Ev (tpLc is ti (tgName i) tbYes te) Γ (.lst (items.map f)) := fun k kx z => h _ _ (by
  refine ⟨by rw [List.length_map]; exact hl, ?_⟩
  have go : ∀ (items : List α) {k : List D → Prop}, (∀ x ∈ items, Ev te (gset (wipeG Γ is) i (.pu (pa x))) (f x)) → k (items.map f) → lcW (tgName i) tbYes te (wipeG Γ is) (items.map pa) k := fun items => by
    induction items with
    | nil => exact fun _ h => h
    | cons x r ih => exact fun hx h => hx x List.mem_cons_self _ _ (ih (fun y hy => hx y (List.mem_cons_of_mem _ hy)) h)
  exact go items he z)
theorem ev_tail {x : D} {l : List D} (h : Ev t Γ (.tup (x :: l))) : Ev (tpSl t (toSome (tpC (.int 1))) toNo) Γ (.tup l) := fun k kx z => h _ _ (by
  show k (.tup (cutL (x :: l) (some 1) none))
  have : cutL (x :: l) (some 1) none = l := by
    unfold cutL
    have e1 : HT.sIx (x :: l).length 0 (some 1) = 1 := by simp [HT.sIx]
    have e2 : HT.sIx (x :: l).length (x :: l).length none = l.length + 1 := by simp [HT.sIx]
    rw [e1, e2]
    show (l.take (l.length + 1 - 1)) = _
    exact List.take_of_length_le (by simp)
  rw [this]
  exact z)
theorem ev_allB {α : Type} {items : List α} {f : α → Bool} (h : Ev t Γ (.lst (items.map fun x => .bl (f x)))) : Ev (tp1 fAll t) Γ (.bl (items.all f)) := by
  have e : (items.map fun x => D.bl (f x)) = (items.map f).map .bl := by rw [List.map_map]; rfl
  rw [e] at h
  have := ev_all h
  rwa [List.all_map] at this
theorem ev_anyB {α : Type} {items : List α} {f : α → Bool} (h : Ev t Γ (.lst (items.map fun x => .bl (f x)))) : Ev (tp1 fAny t) Γ (.bl (items.any f)) := by
  have e : (items.map fun x => D.bl (f x)) = (items.map f).map .bl := by rw [List.map_map]; rfl
  rw [e] at h
  exact ev_1 h fun k z => by
    show onBs ((items.map f).map D.bl) _
    rw [onBs_map, List.any_map]
    exact z
theorem ev_an {b c : Bool} (h : Ev ta Γ (.bl b)) (g : b = true → Ev tb Γ (.bl c)) : Ev (tpAnd ta tb) Γ (.bl (b && c)) := by
  cases b with
  | false => exact ev_and h (fun z => nomatch z) (fun _ => rfl)
  | true => exact ev_and h g (fun z => nomatch z)
theorem ev_orF {c : Bool} (h : Ev ta Γ (.bl false)) (g : Ev tb Γ (.bl c)) : Ev (tpOr ta tb) Γ (.bl c) := fun k kx z => h _ _ (g k kx z)
theorem is_name_ok' : fsIsName ds kd kx → m_is_name ds kd kx := by
  intro h0
  match ds, h0 with
  | [.str s], ⟨hz, h⟩ =>
    let G : Ga := [.pu (.str s), .un]
    have v : Ev (tpVar 0) G (.str s) := ev_var rfl
    have ln := ev_lenS v (Nat.le_trans hz (by decide))
    have lc := ev_lcA (Γ := G) (is := [1]) (i := 1) (te := tpOp fInS (tpVar 1) (tpC (.str CAP))) (items := s) (pa := fun c => .str [c]) (f := fun c => .bl (decide (c ∈ CAP))) (evl_tiStr v) (by omega) fun x hx => ev_inS (ev_var rfl) (ev_c _)
    have al := ev_allB lc
    have ch := ev_chLL (ev_c (Γ := G) (.int 1)) ln (ev_c (.int 6))
    have is : Ev (tp1 (fIsi "str") (tpVar 0)) G (.bl true) := ev_1 v fun k z => z
    have an := ev_an is fun _ => ev_an ch fun _ => al
    refine st_ret an ?_
    have e : (true && ((decide ((1 : Int) ≤ (s.length : Nat)) && decide (((s.length : Nat) : Int) ≤ 6)) && s.all fun c => decide (c ∈ CAP))) = nameB s := by
      unfold nameB
      have e1 : decide ((1 : Int) ≤ (s.length : Nat)) = decide (1 ≤ s.length) := decide_eq_decide.mpr (by omega)
      have e2 : decide (((s.length : Nat) : Int) ≤ 6) = decide (s.length ≤ 6) := decide_eq_decide.mpr (by omega)
      rw [e1, e2]
      rfl
    rw [e]
    exact h
theorem eqD_dat {t : Tr} (h : t ≠ .dd []) : eqD t.dat (tD []) = false := by
  by_cases e : t.w = DDS
  · cases t with
    | dd v =>
      have hv : v ≠ [] := fun z => h (by rw [z])
      rw [dat_eq]
      show eqD (.tup [.str DDS, .str v]) (.tup [.str DDS, .str []]) = false
      have : eqD (.tup [.str DDS, .str v]) (.tup [.str DDS, .str []]) = (eqD (.str DDS) (.str DDS) && (eqD (.str v) (.str []) && true)) := rfl
      rw [this, eqD_str v [], decide_eq_false hv]
      rw [Bool.false_and, Bool.and_false]
    | _ => cases e
  · exact eqD_w (t := t) (u := .dd []) e
theorem isRow_ok' : fsIsRow ds kd kx → m_is_row ds kd kx := by
  rintro ⟨w, ps, ⟨rfl, hw⟩, h⟩
  let G : Ga := [.pu (.str w), .pu (.tup (ps.map Tr.dat)), .un, .un, .un]
  have v0 : Ev (tpVar 0) G (.str w) := ev_var rfl
  rcases hw with rfl | ⟨rfl, ht, hd⟩
  · exact st_ifT (evb_v (ev_eqST v0 (ev_c _) rfl rfl rfl)) (st_ret (ev_c _) h)
  cases ht with
  | th h1 h2 h3 h4 h5 =>
    refine st_ifN (evb_v (ev_eqSF v0 (ev_c _) rfl rfl (by decide))) ?_
    have pls : ∀ p ∈ ps, p.dat.plain = true ∧ p.dat.dep ≤ 40 := fun p hp => by
      have := okT_plain (h3 p hp)
      have := dpL_le hp
      rw [Tr.dp] at hd
      exact ⟨(okT_plain (h3 p hp)).1, by omega⟩
    have v1 : Ev (tpVar 1) G (.tup (ps.map Tr.dat)) := ev_var rfl
    have logs := ev_lcA (Γ := G) (is := [3]) (i := 3) (te := tpOp fEq (tpOp fIx (tpVar 3) (tpC (.int 0))) (tpC (.str [100, 101, 101, 100, 115]))) (items := ps) (pa := Tr.dat) (f := fun p => .bl (decide (p.w = DDS))) (evl_tiTup v1) (by omega) fun p hp => ev_isW (ev_var rfl) rfl rfl
    refine st_set logs ?_
    let G2 : Ga := [.pu (.str wTHE), .pu (.tup (ps.map Tr.dat)), .pu (.lst (ps.map fun p => .bl (decide (p.w = DDS)))), .un, .un]
    have anyL := ev_lcA (Γ := G2) (is := [3]) (i := 3) (te := tpOr (tpOp fEq (tpOp fIx (tpVar 3) (tpC (.int 0))) (tpC (.str [116, 104, 101, 110]))) (tpOp fEq (tpVar 3) (tpTup (tlCons (tpC (.str [100, 101, 101, 100, 115])) (tlCons (tpC (.str [])) tlNil))))) (items := ps) (pa := Tr.dat) (f := fun p => .bl false) (evl_tiTup (t := tpVar 1) (ev_var rfl)) (by omega) fun p hp => by
      have isth : Ev (tpOp fEq (tpOp fIx (tpVar 3) (tpC (.int 0))) (tpC (.str [116, 104, 101, 110]))) (gset (wipeG G2 [3]) 3 (.pu p.dat)) (.bl false) := ev_isW (ev_var rfl) rfl (by
        have := (h4 p hp).1
        cases p with
        | th _ => cases this
        | _ => rfl)
      refine ev_orF isth ?_
      have e0 := eqD_dat (h4 p hp).2
      refine ev_op (ev_var (d := p.dat) rfl) (ev_tup (ds := [.str DDS, .str []]) (evl_2 (ev_c _) (ev_c _)) (by show 2 ≤ 100000; decide)) fun k z => ⟨⟨(pls p hp).1, rfl, by have := (pls p hp).2; omega, by decide⟩, ?_⟩
      show k (.bl (eqD p.dat (tD [])))
      rw [e0]
      exact z
    have any1 := ev_anyB (f := fun _ => false) anyL
    rw [show (ps.any fun _ => false) = false by simp] at any1
    refine st_ifN (Γ := G2) (evb_v any1) ?_
    have ll := ev_lenL (Γ := G2) (ev_var (i := 2) (d := .lst (ps.map fun p => .bl (decide (p.w = DDS)))) rfl)
    rw [List.length_map] at ll
    have rg := evl_rg2 (Γ := G2) (a := 1) (b := ps.length) (ev_c _) ll (by decide) (Nat.lt_of_le_of_lt h2 (by decide))
    have adj := ev_lcA (Γ := G2) (is := [4]) (i := 4) (te := tpAnd (tpOp fIx (tpVar 2) (tpOp fSub (tpVar 4) (tpC (.int 1)))) (tpOp fIx (tpVar 2) (tpVar 4))) (items := List.range' 1 (ps.length - 1)) (pa := fun i => .int (i : Nat)) (f := fun _ => .bl false) rg (by rw [List.length_range']; omega) fun x hx => by
      obtain ⟨x1, x2⟩ := List.mem_range'_1.mp hx
      obtain ⟨y, rfl⟩ : ∃ y, x = y + 1 := ⟨x - 1, by omega⟩
      have hy1 : y + 1 < ps.length := by omega
      have hy : y < ps.length := by omega
      let G3 : Ga := [.pu (.str wTHE), .pu (.tup (ps.map Tr.dat)), .pu (.lst (ps.map fun p => .bl (decide (p.w = DDS)))), .un, .pu (.int ((y + 1 : Nat) : Nat))]
      have at_ : ∀ {z : Nat} (hz : z < ps.length), atI (ps.map fun p => D.bl (decide (p.w = DDS))) ((z : Nat) : Int) = some (.bl (decide (ps[z].w = DDS))) := fun {z} hz => by
        rw [at_nat _ _ (by rw [List.length_map]; exact hz)]
        simp
      have a0 : Ev (tpOp fIx (tpVar 2) (tpOp fSub (tpVar 4) (tpC (.int 1)))) G3 (.bl (decide (ps[y].w = DDS))) := ev_ixL (ev_var rfl) (ev_subI (ev_var (i := 4) (d := .int ((y + 1 : Nat) : Nat)) rfl) (ev_c (.int 1))) (by
        rw [show ((y + 1 : Nat) : Int) - 1 = (y : Nat) by omega]
        exact at_ hy)
      have a1 : Ev (tpOp fIx (tpVar 2) (tpVar 4)) G3 (.bl (decide (ps[y + 1].w = DDS))) := ev_ixL (ev_var rfl) (ev_var (i := 4) (d := .int ((y + 1 : Nat) : Nat)) rfl) (at_ hy1)
      have an := ev_an a0 fun _ => a1
      have z : (decide (ps[y].w = DDS) && decide (ps[y + 1].w = DDS)) = false := by
        cases e1 : ps[y] with
        | dd v =>
          cases e2 : ps[y + 1] with
          | dd w =>
            have q1 : ps[y]? = some (.dd v) := by rw [List.getElem?_eq_getElem hy, e1]
            have q2 : ps[y + 1]? = some (.dd w) := by rw [List.getElem?_eq_getElem hy1, e2]
            exact absurd q2 (h5 y v w q1)
          | _ => rfl
        | _ => rfl
      rw [z] at an
      exact an
    have any2 := ev_anyB (f := fun _ => false) adj
    rw [show ((List.range' 1 (ps.length - 1)).any fun _ => false) = false by simp] at any2
    exact st_ret (Γ := G2) (ev_not0 any2) h
theorem ev_notIn {w : List Nat} (h : Ev t Γ (.str w)) (hw : w = wTHE ∨ w = wEIT) : Ev (tpOp (fInD true) t (tpTup (tlCons (tpC (.str [116, 104, 101, 110])) (tlCons (tpC (.str [101, 105, 116, 104, 101, 114])) tlNil)))) Γ (.bl false) :=
  ev_op h (ev_tup (evl_2 (ev_c _) (ev_c _)) (by show 2 ≤ 100000; decide)) fun k z => ⟨⟨by rcases hw with rfl | rfl <;> rfl, rfl, by show 0 ≤ 8; decide⟩, by
    have : ([D.str wTHE, .str wEIT].any fun z => eqD z (.str w)) = true := by
      show (eqD (.str wTHE) (.str w) || (eqD (.str wEIT) (.str w) || false)) = true
      rw [eqD_str, eqD_str]
      rcases hw with rfl | rfl <;> decide
    show k (.bl (true != _))
    rw [this]
    exact z⟩
theorem isTree_ok' : fsIsTree (n + 1) ds kd kx → m_is_tree fsIsLog fsIsName (fsIsTree n) fsWithin fsIsRow ds kd kx := by
  rintro ⟨t, d, ⟨rfl, ht, hd, hn⟩, h⟩
  let G : Ga := [.pu t.dat, .pu (.int (d : Nat)), .un, .un]
  have v0 : Ev (tpVar 0) G t.dat := ev_var rfl
  have v0t : Ev (tpVar 0) G (.tup (.str t.w :: t.args)) := by rw [← dat_eq]; exact v0
  have e0 := ev_eqI (Γ := G) (ev_var (i := 1) (d := .int (d : Nat)) rfl) (ev_c (.int 0))
  cases d with
  | zero => exact st_ifT (evb_orT (evb_v e0)) (st_ret (ev_c _) h)
  | succ d =>
    rw [decide_eq_false (by omega)] at e0
    have isT : Ev (tp1 (fIsi "tuple") (tpVar 0)) G (.bl true) := ev_1 v0t fun k z => z
    have isS : Ev (tp1 (fIsi "str") (tpOp fIx (tpVar 0) (tpC (.int 0)))) G (.bl true) := ev_1 (ev_w v0) fun k z => z
    have ln := ev_lenT v0t
    have l2 := ev_ltI ln (ev_c (.int 2))
    have pos : 1 ≤ t.args.length := by
      cases ht with
      | dd _ => exact Nat.le_refl _
      | nm _ _ _ => exact Nat.le_refl _
      | th h1 _ _ _ _ => show 1 ≤ (List.map Tr.dat _).length; rw [List.length_map]; omega
      | ei h1 _ _ => show 1 ≤ (List.map Tr.dat _).length; rw [List.length_map]; omega
      | ti _ _ => exact Nat.le_succ _
      | ag _ => exact Nat.le_refl _
    rw [decide_eq_false (by rw [List.length_cons]; omega)] at l2
    refine st_ifN (Γ := G) (evb_orF (evb_v e0) (evb_orF (evb_not (evb_v isT)) (evb_orF (evb_v l2) (evb_not (evb_v isS))))) ?_
    refine st_set (Γ := G) (ev_w v0) ?_
    let G2 : Ga := [.pu t.dat, .pu (.int ((d + 1 : Nat) : Nat)), .pu (.str t.w), .un]
    have w0 : Ev (tpVar 0) G2 (.tup (.str t.w :: t.args)) := by rw [← dat_eq]; exact ev_var rfl
    have w2 : Ev (tpVar 2) G2 (.str t.w) := ev_var rfl
    have len := ev_lenT w0
    have isn : ∀ {s : List Nat}, D.plain (.str s) = true → decide (t.w = s) = false → EvB (tbV (tpOp fEq (tpVar 2) (tpC (.str s)))) G2 false := fun hs hne => evb_v (ev_eqSF w2 (ev_c _) (w_plain t) hs (of_decide_eq_false hne))
    have isy : ∀ {s : List Nat}, D.plain (.str s) = true → t.w = s → EvB (tbV (tpOp fEq (tpVar 2) (tpC (.str s)))) G2 true := fun hs he => evb_v (ev_eqST w2 (ev_c _) (w_plain t) hs he)
    have dn : Ev (tpOp fSub (tpVar 1) (tpC (.int 1))) G2 (.int (d : Nat)) := by
      have := ev_subI (Γ := G2) (ev_var (i := 1) (d := .int ((d + 1 : Nat) : Nat)) rfl) (ev_c (.int 1))
      rwa [show ((d + 1 : Nat) : Int) - 1 = (d : Nat) by omega] at this
    have parts : ∀ (ps : List Tr) (w : List Nat), t.args = ps.map Tr.dat → t.w = w → (∀ p ∈ ps, OkT p ∧ p.dp ≤ 40) → (w = wEIT ∨ w = wTHE ∧ OkT (.th ps) ∧ Tr.dp (.th ps) ≤ 40) → ps.length ≤ 1000 →
        Ev (tpAnd (tp1 fAll (tpLc [3] (tiTup (tpSl (tpVar 0) (toSome (tpC (.int 1))) toNo)) (tgName 3) tbYes (tpCall 2 (fsIsTree n) (tlCons (tpVar 3) (tlCons (tpOp fSub (tpVar 1) (tpC (.int 1))) tlNil))))) (tpCall 2 fsIsRow (tlCons (tpVar 2) (tlCons (tpSl (tpVar 0) (toSome (tpC (.int 1))) toNo) tlNil)))) G2 (.bl (ps.all (isB d))) := fun ps w e1 e2 h1 h2 h3 => by
      have tail : ∀ {Γ : Ga}, gat Γ 0 = .pu t.dat → Ev (tpSl (tpVar 0) (toSome (tpC (.int 1))) toNo) Γ (.tup (ps.map Tr.dat)) := fun {Γ} g => by
        rw [← e1]
        exact ev_tail (x := .str t.w) (by rw [← dat_eq]; exact ev_var g)
      have lc := ev_lcA (Γ := G2) (is := [3]) (i := 3) (te := tpCall 2 (fsIsTree n) (tlCons (tpVar 3) (tlCons (tpOp fSub (tpVar 1) (tpC (.int 1))) tlNil))) (items := ps) (pa := Tr.dat) (f := fun p => .bl (isB d p)) (evl_tiTup (tail rfl)) (by omega) fun p hp => ev_call (evl_2 (ev_var rfl) (by
          have := ev_subI (Γ := gset (wipeG G2 [3]) 3 (.pu p.dat)) (ev_var (i := 1) (d := .int ((d + 1 : Nat) : Nat)) rfl) (ev_c (.int 1))
          rwa [show ((d + 1 : Nat) : Int) - 1 = (d : Nat) by omega] at this)) rfl fun k kx z => ⟨p, d, ⟨rfl, (h1 p hp).1, (h1 p hp).2, by omega⟩, z⟩
      have an := ev_an (ev_allB lc) fun _ => ev_call (n := 2) (d := .bl true) (f := fsIsRow) (evl_2 w2 (tail (Γ := G2) rfl)) rfl fun k kx z => ⟨t.w, ps, ⟨rfl, by rw [e2]; exact h2⟩, z⟩
      rwa [Bool.and_true] at an
    have chain : ∀ m : Nat, t.args.length = m → 2 ≤ m → EvB (tbNot (tbV (tpChain fLe fLe (tpC (.int 3)) (tp1 fLenS (tpVar 0)) (tpOp fAdd (tpC (.int 20)) (tpC (.int 1)))))) G2 (!decide (m ≤ 20)) := fun m e hm => by
      have := ev_chLL (ev_c (Γ := G2) (.int 3)) len (ev_addI (ev_c (.int 20)) (ev_c (.int 1)))
      rw [List.length_cons, e, decide_eq_true (by omega), Bool.true_and] at this
      rw [show decide (m ≤ 20) = decide (((m + 1 : Nat) : Int) ≤ 20 + 1) from decide_eq_decide.mpr (by omega)]
      exact evb_not (evb_v this)
    cases ht with
    | @dd v hv hz =>
      refine st_ifT (isy rfl rfl) (st_ret (P := { fEnds kd kx with nx := _ }) (d := .bl true) ?_ h)
      have c1 := ev_eqI len (ev_c (.int 2))
      have il : Ev (tpCall 1 fsIsLog (tlCons (tpOp fIx (tpVar 0) (tpC (.int 1))) tlNil)) G2 (.bl true) := ev_call (evl_1 (ev_1of (s := DDS) (l := []) w0)) rfl fun k kx z => ⟨⟨rfl, fun s e => by cases e; exact hz⟩, by
        have : isLog (.str v) = true := List.all_eq_true.mpr fun c hc => decide_eq_true (hv c hc)
        rw [this]
        exact z⟩
      exact ev_an c1 fun _ => il
    | @nm s h1 h2 h3 =>
      refine st_ifN (isn rfl rfl) ?_
      refine st_ifT (isy rfl rfl) (st_ret (P := { fEnds kd kx with nx := _ }) (d := .bl true) ?_ h)
      have c1 := ev_eqI len (ev_c (.int 2))
      have il : Ev (tpCall 1 fsIsName (tlCons (tpOp fIx (tpVar 0) (tpC (.int 1))) tlNil)) G2 (.bl true) := ev_call (evl_1 (ev_1of (s := wNAM) (l := []) w0)) rfl fun k kx z => ⟨by omega, by
        have : nameB s = true := by
          unfold nameB
          rw [decide_eq_true h1, decide_eq_true h2, List.all_eq_true.mpr fun x hx => decide_eq_true (h3 x hx)]
          rfl
        rw [this]
        exact z⟩
      exact ev_an c1 fun _ => il
    | @ag u hu =>
      have du : u.dp ≤ 40 := by rw [Tr.dp] at hd; omega
      refine st_ifN (isn rfl rfl) (st_ifN (isn rfl rfl) ?_)
      refine st_ifT (isy rfl rfl) (st_ret (P := { fEnds kd kx with nx := _ }) (d := .bl (isB d u)) ?_ h)
      have c1 := ev_eqI len (ev_c (.int 2))
      have il : Ev (tpCall 2 (fsIsTree n) (tlCons (tpOp fIx (tpVar 0) (tpC (.int 1))) (tlCons (tpOp fSub (tpVar 1) (tpC (.int 1))) tlNil))) G2 (.bl (isB d u)) := ev_call (evl_2 (ev_1of (s := wAGA) (l := []) w0) dn) rfl fun k kx z => ⟨u, d, ⟨rfl, hu, du, by omega⟩, z⟩
      exact ev_an c1 fun _ => il
    | @ti u m hu hm =>
      have du : u.dp ≤ 40 := by rw [Tr.dp] at hd; omega
      refine st_ifN (isn rfl rfl) (st_ifN (isn rfl rfl) (st_ifN (isn rfl rfl) ?_))
      refine st_ifT (isy rfl rfl) (st_ret (P := { fEnds kd kx with nx := _ }) (d := .bl (isB d u)) ?_ h)
      have c1 := ev_eqI len (ev_c (.int 3))
      have il : Ev (tpCall 2 (fsIsTree n) (tlCons (tpOp fIx (tpVar 0) (tpC (.int 1))) (tlCons (tpOp fSub (tpVar 1) (tpC (.int 1))) tlNil))) G2 (.bl (isB d u)) := ev_call (evl_2 (ev_1of (s := wTIM) (l := [.int (m : Nat)]) w0) dn) rfl fun k kx z => ⟨u, d, ⟨rfl, hu, du, by omega⟩, z⟩
      have wi := ev_within (Γ := G2) (lo := 0) (hi := 1000000000000000000000000000000) (ev_2of (s := wTIM) (x := u.dat) (y := .int (m : Nat)) (l := []) w0) (ev_c _) (ev_c _) rfl
      have wt : within 0 1000000000000000000000000000000 (.int (m : Nat)) = true := by
        show (decide ((0 : Int) ≤ (m : Nat)) && decide (((m : Nat) : Int) ≤ 1000000000000000000000000000000)) = true
        rw [decide_eq_true (by omega), decide_eq_true (by
          have : (10 ^ 30 : Nat) = 1000000000000000000000000000000 := by decide
          omega)]
        rfl
      rw [wt] at wi
      have an := ev_an c1 fun _ => ev_an il fun _ => wi
      rw [Bool.and_true] at an
      exact an
    | @ei ps h1 h2 h3 =>
      refine st_ifN (isn rfl rfl) (st_ifN (isn rfl rfl) (st_ifN (isn rfl rfl) (st_ifN (isn rfl rfl) ?_)))
      have ch := chain ps.length (by show (ps.map Tr.dat).length = _; rw [List.length_map]) h1
      have h : kd (.bl (decide (ps.length ≤ 20) && ps.all (isB d))) := h
      refine st_ifNB (Γ := G2) (evb_orF (evb_v (ev_notIn w2 (.inr rfl))) ch) (fun e => ?_) (fun e => ?_)
      · rw [show decide (ps.length ≤ 20) = false by simpa using e] at h
        exact st_ret (ev_c _) h
      · rw [show decide (ps.length ≤ 20) = true by simpa using e, Bool.true_and] at h
        exact st_ret (parts ps wEIT rfl rfl (fun p hp => ⟨h3 p hp, by have := dpL_le hp; rw [Tr.dp] at hd; omega⟩) (.inl rfl) h2) h
    | @th ps h1 h2 h3 h4 h5 =>
      refine st_ifN (isn rfl rfl) (st_ifN (isn rfl rfl) (st_ifN (isn rfl rfl) (st_ifN (isn rfl rfl) ?_)))
      have ch := chain ps.length (by show (ps.map Tr.dat).length = _; rw [List.length_map]) h1
      have h : kd (.bl (decide (ps.length ≤ 20) && ps.all (isB d))) := h
      refine st_ifNB (Γ := G2) (evb_orF (evb_v (ev_notIn w2 (.inl rfl))) ch) (fun e => ?_) (fun e => ?_)
      · rw [show decide (ps.length ≤ 20) = false by simpa using e] at h
        exact st_ret (ev_c _) h
      · rw [show decide (ps.length ≤ 20) = true by simpa using e, Bool.true_and] at h
        exact st_ret (parts ps wTHE rfl rfl (fun p hp => ⟨h3 p hp, by have := dpL_le hp; rw [Tr.dp] at hd; omega⟩) (.inr ⟨rfl, .th h1 h2 h3 h4 h5, hd⟩) h2) h
theorem isTree1_ok' {m : Nat} (hm : 12 < m) : fsIsTree1 ds kd kx → fsIsTree m (ds ++ [.int 12]) kd kx := by
  rintro ⟨t, ⟨rfl, ht, hd⟩, h⟩
  exact ⟨t, 12, ⟨rfl, ht, hd, hm⟩, h⟩
theorem needTree_ok' : fsNeedTree CX ds kd kx → m_need_tree CX fsIsTree1 ds kd kx := by
  rintro ⟨t, ⟨rfl, ht, hd⟩, h1, h2⟩
  let G : Ga := [.pu t.dat]
  have is : Ev (tpCall 1 fsIsTree1 (tlCons (tpVar 0) tlNil)) G (.bl (isB 12 t)) := ev_call (evl_1 (ev_var rfl)) rfl fun k kx z => ⟨t, ⟨rfl, ht, hd⟩, z⟩
  exact st_if1B (Γ := G) (evb_not (evb_v is)) (fun e => h2 (by simpa using e)) (fun e => h1 (by simpa using e))
end
end PL
set_option Elab.async false
set_option linter.all false
set_option maxRecDepth 100000
set_option maxHeartbeats 4000000
namespace PL
open PySem L2
theorem scS_part {c : Nat} {p : Tr} : ∀ {ps : List Tr}, p ∈ ps → TxOk (scS c ps) → TxOk (scT p)
  | q :: r, hp, h => by
    rw [scS_cons] at h
    rcases List.mem_cons.mp hp with rfl | hp
    · exact h.tl.pre
    · exact scS_part hp h.tl.suf
theorem scS_partT {c : Nat} {p : Tr} {ps : List Tr} (hp : p ∈ ps) (h : TxOk (scS c ps).tail) : TxOk (scT p) := by
  match ps, hp, h with
  | q :: r, hp, h =>
    rw [scS_tail] at h
    rcases List.mem_cons.mp hp with rfl | hp
    · exact h.pre
    · exact scS_part hp h.suf
theorem join_sc {c : Nat} : ∀ {ps : List Tr}, TL.joinL [c] (ps.map scT) = (scS c ps).tail
  | [] => by rw [scS]; rfl
  | [q] => by
    rw [scS_tail, scS, List.append_nil]
    rfl
  | q :: u :: r => by
    have ih := join_sc (c := c) (ps := u :: r)
    rw [scS_tail] at ih ⊢
    rw [scS_cons, ← ih]
    rfl
theorem flat_sc {c : Nat} : ∀ {ps : List Tr}, (ps.map scT).flatten.length + ps.length = (scS c ps).length
  | [] => by rw [scS]; rfl
  | q :: r => by
    have ih := flat_sc (c := c) (ps := r)
    rw [scS_cons, List.map_cons, List.flatten_cons, List.length_append, List.length_cons, List.length_cons, List.length_append]
    omega
theorem log2_30 {m : Nat} (h : m ≤ 10 ^ 30) : ((m : Nat) : Int).natAbs.log2 < 1920 := by
  rw [Int.natAbs_natCast]
  by_cases z : m = 0
  · subst z
    decide
  · exact Nat.lt_trans ((Nat.log2_lt (k := 100) z).mpr (Nat.lt_of_le_of_lt h (by decide))) (by decide)
def fsTextOf (n : Nat) : FS := fun ds k _ => ∃ t : Tr, (ds = [t.dat] ∧ OkT t ∧ t.dp ≤ n ∧ TxOk (scT t)) ∧ k (.str (scT t))
theorem textOf0 {ds : List D} {k : KD} {kx : KX} (h : fsTextOf 0 ds k kx) : False := by
  obtain ⟨t, ⟨_, _, h, _⟩, _⟩ := h
  have := dp_pos t
  omega
def fsScriptText (CX : Addr) : FS := fun ds k kx => ∃ t : Tr, (ds = [t.dat] ∧ OkT t ∧ t.dp ≤ 40 ∧ TxOk (scT t)) ∧ (isB 12 t = true → k (.str (scT t))) ∧ (isB 12 t = false → kx (xTree CX))
def fsReadS (CX : Addr) : FS := fun ds k kx => ∃ t : Tr, (ds = [.str (scT t)] ∧ OkT t ∧ t.dp ≤ 40 ∧ TxOk (scT t)) ∧ (isB 12 t = true → k t.dat) ∧ (isB 12 t = false → kx (xText CX))
def fsRdrI (CR : Addr) : FSo := fun ds k _ => ∃ s : List Nat, ds = [.ins CR [], .str s] ∧ k .non (rdr CR s)
section
variable {ds : List D} {kd : KD} {ko : D → D → Prop} {kx : KX} {Γ T : Ga} {t ta tb tc : TP} {tl : TL} {d e c0 : D} {n i j c : Nat} {P : PEn} {u v s g : List Nat} {cb : TB} {q : Tr} {b : Bool} {CR CX CT : Addr}
local instance : Tabl := ⟨[], fun p hp => absurd hp (by simp)⟩
theorem st_matchW {l : List (List Nat × TSp)} {r : TSp} (h : Ev t Γ (.str s)) (g : casesW l s { P with nx := r P } Γ) : tsSeq (tsMatch t l) r P Γ := h _ _ g
theorem st_dropCallW {f : FS} {r : TSp} (hl : EvL tl Γ ds) (hn : ds.length = n) (hf : f ds (fun _ => r P Γ) (fun x => P.xx x Γ)) : tsSeq (tsDrop (tpCall n f tl)) r P Γ := hl _ _ ⟨hn, hf⟩
theorem st_ownMake {g : FSo} {C : Addr} {r : TSp} (hl : EvL tl Γ ds) (hn : ds.length = n) (hg : g (.ins C [] :: ds) (fun d y => d = .non ∧ onIns y fun d => r P (gset Γ i (.ow d))) (fun x => P.xx x Γ)) : tsSeq (tsOwn i (tpMake C g n tl)) r P Γ := hl _ _ ⟨hn, hg⟩
/-- texts of parts, joined -/
theorem ev_parts {ps : List Tr} {c i : Nat} {is : List Nat} (hv : Ev t Γ (.tup (.str v :: ps.map Tr.dat))) (hz : ps.length ≤ 1000) (ht : TxOk (scS c ps).tail) (hf : ∀ p ∈ ps, Ev ta (gset (wipeG Γ is) i (.pu p.dat)) (.str (scT p))) :
    Ev (tpJoin (tpC (.str [c])) (tpLc is (tiTup (tpSl t (toSome (tpC (.int 1))) toNo)) (tgName i) tbYes ta)) Γ (.str (scS c ps).tail) := by
  have lc := ev_lcA (Γ := Γ) (is := is) (i := i) (te := ta) (items := ps) (pa := Tr.dat) (f := fun p => .str (scT p)) (evl_tiTup (ev_tail hv)) (by omega) hf
  have e : (ps.map fun p => D.str (scT p)) = (ps.map scT).map D.str := by rw [List.map_map]; rfl
  rw [e] at lc
  have jn := ev_joinW (w := [c]) lc (by
    have := flat_sc (c := c) (ps := ps)
    have := ht.hz
    rw [List.length_tail] at this
    rw [List.length_map]
    show _ + ps.length * 1 ≤ _
    omega)
  rwa [join_sc] at jn
theorem wr_ok {t : Tr} {r : List Nat} (h : TxOk (wrB t.isTh (scT t) ++ r)) : TxOk (scT t) := by
  have h := h.pre
  unfold wrB at h
  split at h
  · exact h.tl.pre
  · exact h
theorem sc_dd (v : List Nat) : scT (.dd v) = if v = [] then [45] else v := by rw [scT]
theorem sc_nm (v : List Nat) : scT (.nm v) = v := by rw [scT]
theorem sc_th (ps : List Tr) : scT (.th ps) = (scS 46 ps).tail := by rw [scT]
theorem sc_ei (ps : List Tr) : scT (.ei ps) = 40 :: ((scS 124 ps).tail ++ [41]) := by rw [scT]
theorem w_th (t : Tr) : decide (t.w = wTHE) = t.isTh := by cases t <;> rfl
theorem textOf_ok' : fsTextOf (n + 1) ds kd kx → m_text_of (fsTextOf n) ds kd kx := by
  rintro ⟨t, ⟨rfl, ht, hd, hs⟩, h⟩
  let G : Ga := [.pu t.dat, .un, .un]
  have v0 : Ev (tpVar 0) G t.dat := ev_var rfl
  have v0t : Ev (tpVar 0) G (.tup (.str t.w :: t.args)) := by rw [← dat_eq]; exact v0
  have call : ∀ {Γ : Ga} {te : TP} {p : Tr}, Ev te Γ p.dat → OkT p → p.dp ≤ n → TxOk (scT p) → Ev (tpCall 1 (fsTextOf n) (tlCons te tlNil)) Γ (.str (scT p)) := fun h1 h2 h3 h4 => ev_call (evl_1 h1) rfl fun k kx z => ⟨_, ⟨rfl, h2, h3, h4⟩, z⟩
  refine st_matchW (Γ := G) (ev_w v0) ?_
  have rep : ∀ (u : Tr) (r : List D) (s : List Nat), t.args = u.dat :: r → OkT u → u.dp ≤ n → TxOk (wrB u.isTh (scT u) ++ s) → ∀ X : TSp,
      X (fEnds kd kx) [.pu t.dat, .un, .pu (.str (wrT u))] →
      tsSeq (tsSet 2 (tpIf (tbV (tpOp fEq (tpOp fIx (tpOp fIx (tpVar 0) (tpC (.int 1))) (tpC (.int 0))) (tpC (.str [116, 104, 101, 110])))) (tpJs [(tpC (.str [40])), (tpFmt (tpCall 1 (fsTextOf n) (tlCons (tpOp fIx (tpVar 0) (tpC (.int 1))) tlNil))), (tpC (.str [41]))] []) (tpCall 1 (fsTextOf n) (tlCons (tpOp fIx (tpVar 0) (tpC (.int 1))) tlNil)))) X (fEnds kd kx) G := fun u r s e1 hu du tx X hX => by
    have su := wr_ok tx
    have a1 : Ev (tpOp fIx (tpVar 0) (tpC (.int 1))) G u.dat := by
      rw [e1] at v0t
      exact ev_1of v0t
    have c1 := call a1 hu du su
    have is := ev_isW (s := wTHE) a1 rfl (w_th u)
    refine st_set (d := .str (wrT u)) ?_ hX
    unfold wrT wrB
    by_cases hth : u.isTh = true
    · rw [if_pos hth]
      rw [hth] at is
      refine ev_ifT (evb_v is) ?_
      have js := ev_js0 (Γ := G) (.cons (ev_c (.str [40])) (.cons (ev_fmtS c1 su.ln) (.cons (ev_c (.str [41])) .nil))) (by
        have := su.hz
        have : ([[40], scT u, [41]] : List (List Nat)).flatten.length = (scT u).length + 2 := by simp
        rw [this]
        exact Nat.le_trans (show _ ≤ 20002 by omega) (by decide))
      have e2 : ([[40], scT u, [41]] : List (List Nat)).flatten = 40 :: (scT u ++ [41]) := by simp
      rw [e2] at js
      exact js
    · rw [if_neg hth]
      have hth : u.isTh = false := by simpa using hth
      rw [hth] at is
      exact ev_ifF (evb_v is) c1
  cases ht with
  | @dd v hv hz =>
    have a1 : Ev (tpOp fIx (tpVar 0) (tpC (.int 1))) G (.str v) := ev_1of (s := DDS) (l := []) v0t
    rw [sc_dd] at h hs
    have ne := ev_neS a1 (ev_c (.str [])) (plain_of hv) rfl
    have iff := ev_ifB (ta := tpOp fIx (tpVar 0) (tpC (.int 1))) (tb := tpC (.str [45])) (d := .str v) (e := .str [45]) (evb_v ne) (fun _ => a1) (fun _ => ev_c _)
    refine st_ret (P := { fEnds kd kx with nx := _ }) iff ?_
    show kd _
    by_cases hv : v = []
    · rw [if_pos hv] at h
      rw [decide_eq_true hv]
      exact h
    · rw [if_neg hv] at h
      rw [decide_eq_false hv]
      exact h
  | @nm s h1 h2 h3 =>
    rw [sc_nm] at h
    exact st_ret (P := { fEnds kd kx with nx := _ }) (ev_1of (s := wNAM) (l := []) v0t) h
  | @th ps h1 h2 h3 h4 h5 =>
    rw [sc_th] at h hs
    refine st_ret (P := { fEnds kd kx with nx := _ }) (ev_parts (v := wTHE) v0t h2 hs fun p hp => call (ev_var rfl) (h3 p hp) ?_ (scS_partT hp hs)) h
    have := dpL_le hp
    rw [Tr.dp] at hd
    omega
  | @ei ps h1 h2 h3 =>
    rw [sc_ei] at h hs
    have tx := hs.tl.pre
    have pt := ev_parts (Γ := G) (i := 1) (is := [1]) (ta := tpCall 1 (fsTextOf n) (tlCons (tpVar 1) tlNil)) (v := wEIT) v0t h2 tx fun p hp => call (ev_var rfl) (h3 p hp) (by
      have := dpL_le hp
      rw [Tr.dp] at hd
      omega) (scS_partT hp tx)
    have js := ev_js0 (Γ := G) (.cons (ev_c (.str [40])) (.cons (ev_fmtS pt tx.ln) (.cons (ev_c (.str [41])) .nil))) (by
      have := tx.hz
      have : ([[40], (scS 124 ps).tail, [41]] : List (List Nat)).flatten.length = (scS 124 ps).tail.length + 2 := by simp
      rw [this]
      exact Nat.le_trans (show _ ≤ 20002 by omega) (by decide))
    have e2 : ([[40], (scS 124 ps).tail, [41]] : List (List Nat)).flatten = 40 :: ((scS 124 ps).tail ++ [41]) := by simp
    rw [e2] at js
    exact st_ret (P := { fEnds kd kx with nx := _ }) js h
  | @ti u m hu hm =>
    rw [sc_ti] at h hs
    refine rep u [.int (m : Nat)] _ rfl hu (by rw [Tr.dp] at hd; omega) hs _ ?_
    let G2 : Ga := [.pu (Tr.ti u m).dat, .un, .pu (.str (wrT u))]
    have w0 : Ev (tpVar 0) G2 (Tr.ti u m).dat := ev_var rfl
    have w0t : Ev (tpVar 0) G2 (.tup [.str wTIM, u.dat, .int (m : Nat)]) := by
      rw [dat_eq] at w0
      exact w0
    have is := ev_isW (s := wTIM) (b := true) w0 rfl rfl
    have js := ev_js0 (Γ := G2) (.cons (ev_fmtS (ev_var (i := 2) (d := .str (wrT u)) rfl) hs.pre.ln) (.cons (ev_c (.str [94])) (.cons (ev_fmtI (ev_2of w0t) (log2_30 hm)) .nil))) (by
      have := hs.hz
      rw [intS_num]
      have : ([wrT u, [94], TL.numL m] : List (List Nat)).flatten.length = (wrB u.isTh (scT u) ++ 94 :: TL.numL m).length := by simp
      rw [this]
      exact hs.ln)
    rw [intS_num] at js
    have e2 : ([wrT u, [94], TL.numL m] : List (List Nat)).flatten = wrB u.isTh (scT u) ++ 94 :: TL.numL m := by simp
    rw [e2] at js
    exact st_ret (Γ := G2) (ev_ifT (evb_v is) js) h
  | @ag u hu =>
    rw [sc_ag] at h hs
    refine rep u [] _ rfl hu (by rw [Tr.dp] at hd; omega) hs _ ?_
    let G2 : Ga := [.pu (Tr.ag u).dat, .un, .pu (.str (wrT u))]
    have w0 : Ev (tpVar 0) G2 (Tr.ag u).dat := ev_var rfl
    have is := ev_isW (s := wTIM) (b := false) w0 rfl rfl
    have e2 : ([wrT u, [94, 42]] : List (List Nat)).flatten = wrB u.isTh (scT u) ++ [94, 42] := by simp
    have js := ev_js0 (Γ := G2) (.cons (ev_fmtS (ev_var (i := 2) (d := .str (wrT u)) rfl) hs.pre.ln) (.cons (ev_c (.str [94, 42])) .nil)) (by
      rw [e2]
      exact hs.ln)
    rw [e2] at js
    exact st_ret (Γ := G2) (ev_ifF (evb_v is) js) h
theorem scriptText_ok' {m : Nat} (hm : 12 ≤ m) : fsScriptText CT ds kd kx → m_script_text (fsNeedTree CT) (fsTextOf m) ds kd kx := by
  rintro ⟨t, ⟨rfl, ht, hd, hs⟩, h1, h2⟩
  let G : Ga := [.pu t.dat]
  have v0 : Ev (tpVar 0) G t.dat := ev_var rfl
  refine st_dropCallW (Γ := G) (evl_1 v0) rfl ⟨t, ⟨rfl, ht, hd⟩, fun e => ?_, fun e => h2 e⟩
  exact st_ret (Γ := G) (ev_call (evl_1 v0) rfl fun k kx z => ⟨t, ⟨rfl, ht, Nat.le_trans (isB_dp e) hm, hs⟩, z⟩) (h1 e)
theorem rdrI_ok' : fsRdrI CR ds ko kx → m_Reader___init__ CR ds ko kx := by
  rintro ⟨s, rfl, h⟩ p
  let G : Ga := [.pw p (.ins CR []), .pu (.str s)]
  exact (ev_var (Γ := G) (i := 1) (d := .str s) rfl) _ _ ⟨List.mem_cons_self, by show 0 < 900; decide, rfl, h⟩
theorem readS_ok' {m : Nat} (hm : 12 ≤ m) : fsReadS CX ds kd kx → m_read_script CX CR (fsTextOf m) fsIsTree1 (fsRdrI CR) (fsScRow CR CX 14) ds kd kx := by
  rintro ⟨t, ⟨rfl, ht, hd, hs⟩, h1, h2⟩
  let G : Ga := [.pu (.str (scT t)), .un, .un]
  have v0 : Ev (tpVar 0) G (.str (scT t)) := ev_var rfl
  have is : Ev (tp1 (fIsi "str") (tpVar 0)) G (.bl true) := ev_1 v0 fun k z => z
  refine st_ifN (Γ := G) (evb_not (evb_v is)) ?_
  refine st_ownMake (Γ := G) (evl_1 v0) rfl ⟨scT t, rfl, rfl, ?_⟩
  let G1 : Ga := [.pu (.str (scT t)), .ow (rdr CR (scT t)), .un]
  show tsSeq (tsSetZ 2 _) _ _ G1
  show tsSetZ 2 _ _ G1
  refine ⟨rfl, rfl, fsScRow CR CX 14, List.mem_cons_self, evl_1 (ev_addI (ev_c (.int 12)) (ev_c (.int 1))) _ _ ⟨rfl, t, [], 13, ⟨by rw [List.append_nil]; rfl, ht, by decide, by rw [List.append_nil]; exact hs, fun c z => nomatch z⟩, ?_, ?_⟩⟩
  · cases e : isB 12 t with
    | true =>
      have := isB_dp e
      exact .inl ⟨by omega, this⟩
    | false => exact .inr (h2 e)
  · let G2 : Ga := [.pu (.str (scT t)), .ow (rdr CR []), .pu t.dat]
    have fl : Ev (tpFld [CR] "text_left" (tpVarU 1)) G2 (.str []) := ev_fld (ev_varO (d := rdr CR []) rfl) List.mem_cons_self rfl
    have ne := ev_neS fl (ev_c (.str [])) rfl rfl
    have v2 : Ev (tpVar 2) G2 t.dat := ev_var rfl
    have isT : Ev (tpCall 1 fsIsTree1 (tlCons (tpVar 2) tlNil)) G2 (.bl (isB 12 t)) := ev_call (evl_1 v2) rfl fun k kx z => ⟨t, ⟨rfl, ht, hd⟩, z⟩
    dsimp only
    show tsSeq (tsIf _ _ _) (tsRet (tpVar 2)) (fEnds kd kx) G2
    cases e : isB 12 t with
    | false =>
      rw [e] at isT
      exact st_ifT (Γ := G2) (evb_orF (evb_v ne) (evb_orT (evb_not (evb_v isT)))) (h2 e)
    | true =>
      rw [e] at isT
      have tx : Ev (tpCall 1 (fsTextOf m) (tlCons (tpVar 2) tlNil)) G2 (.str (scT t)) := ev_call (evl_1 v2) rfl fun k kx z => ⟨t, ⟨rfl, ht, Nat.le_trans (isB_dp e) hm, hs⟩, z⟩
      have ne2 := ev_neS tx (ev_var (i := 0) (d := .str (scT t)) rfl) hs.pl hs.pl
      rw [decide_eq_true rfl] at ne2
      exact st_ifN (Γ := G2) (evb_orF (evb_v ne) (evb_orF (evb_not (evb_v isT)) (evb_v ne2))) (st_ret (Γ := G2) v2 (h1 e))
end
end PL
set_option Elab.async false
set_option linter.all false
set_option maxRecDepth 100000
set_option maxHeartbeats 4000000
namespace PL
open PySem L2
def fsNameS : FS := fun ds k _ => match ds with
  | [.bag] => ∀ s : List Nat, 1 ≤ s.length → s.length ≤ 6 → (∀ c ∈ s, c ∈ CAP) → k (.str s)
  | _ => False
def fsTreeSo : FS := fun ds k _ => ∃ t : Tr, (ds = [t.dat, .str (scT t), .bl (isB 12 t)] ∧ OkT t ∧ t.dp ≤ 40 ∧ TxOk (scT t)) ∧ k (.bl true)
section
variable {ds : List D} {kd : KD} {ko : D → D → Prop} {kx : KX} {Γ T : Ga} {t ta tb tc : TP} {tl : TL} {d e c0 : D} {n i j c : Nat} {P : PEn} {u v s g : List Nat} {cb : TB} {q : Tr} {b : Bool} {CR CX CT : Addr} {KK : PySem.W.Frag} {C0 C1 C2 C3 C4 C5 C6 C7 C8 C9 C10 C11 C12 C13 C14 C15 C16 : Addr}
local instance : Tabl := ⟨[], fun p hp => absurd hp (by simp)⟩
theorem script_ok' : fsTextOf (n + 1) ds kd kx → m_law_script (fsTextOf n) ds kd kx := by
  rintro ⟨t, ⟨rfl, ht, hd, hs⟩, h⟩
  let G : Ga := [.pu t.dat, .un, .un, .un]
  let G1 : Ga := [.pu t.dat, .pu (.str t.w), .un, .un]
  have v0 : Ev (tpVar 0) G1 t.dat := ev_var rfl
  have v0t : Ev (tpVar 0) G1 (.tup (.str t.w :: t.args)) := by rw [← dat_eq]; exact v0
  have v1 : Ev (tpVar 1) G1 (.str t.w) := ev_var rfl
  have call : ∀ {Γ : Ga} {te : TP} {p : Tr}, Ev te Γ p.dat → OkT p → p.dp ≤ n → TxOk (scT p) → Ev (tpCall 1 (fsTextOf n) (tlCons te tlNil)) Γ (.str (scT p)) := fun h1 h2 h3 h4 => ev_call (evl_1 h1) rfl fun k kx z => ⟨_, ⟨rfl, h2, h3, h4⟩, z⟩
  have isn : ∀ {s : List Nat}, D.plain (.str s) = true → decide (t.w = s) = false → EvB (tbV (tpOp fEq (tpVar 1) (tpC (.str s)))) G1 false := fun hs hne => evb_v (ev_eqSF v1 (ev_c _) (w_plain t) hs (of_decide_eq_false hne))
  have isy : ∀ {s : List Nat}, D.plain (.str s) = true → t.w = s → EvB (tbV (tpOp fEq (tpVar 1) (tpC (.str s)))) G1 true := fun hs he => evb_v (ev_eqST v1 (ev_c _) (w_plain t) hs he)
  refine st_set (Γ := G) (ev_w (ev_var rfl)) ?_
  have rep : ∀ (u : Tr) (r : List D) (s : List Nat), t.args = u.dat :: r → OkT u → u.dp ≤ n → TxOk (wrB u.isTh (scT u) ++ s) → ∀ X : TSp,
      X (fEnds kd kx) [.pu t.dat, .pu (.str t.w), .un, .pu (.str (wrT u))] →
      tsSeq (tsSet 3 (tpCall 1 (fsTextOf n) (tlCons (tpOp fIx (tpVar 0) (tpC (.int 1))) tlNil))) (tsSeq (tsSet 3 (tpIf (tbV (tpOp fEq (tpOp fIx (tpOp fIx (tpVar 0) (tpC (.int 1))) (tpC (.int 0))) (tpC (.str [116, 104, 101, 110])))) (tpOp fAdd (tpOp fAdd (tpC (.str [40])) (tpVar 3)) (tpC (.str [41]))) (tpVar 3))) X) (fEnds kd kx) G1 := fun u r s e1 hu du tx X hX => by
    have su := wr_ok tx
    have a1 : ∀ {Γ : Ga}, gat Γ 0 = .pu t.dat → Ev (tpOp fIx (tpVar 0) (tpC (.int 1))) Γ u.dat := fun {Γ} g0 => by
      have v : Ev (tpVar 0) Γ (.tup (.str t.w :: t.args)) := by rw [← dat_eq]; exact ev_var g0
      rw [e1] at v
      exact ev_1of v
    refine st_set (Γ := G1) (call (a1 rfl) hu du su) ?_
    let G2 : Ga := [.pu t.dat, .pu (.str t.w), .un, .pu (.str (scT u))]
    have is := ev_isW (Γ := G2) (s := wTHE) (a1 rfl) rfl (w_th u)
    have v3 : Ev (tpVar 3) G2 (.str (scT u)) := ev_var rfl
    refine st_set (Γ := G2) (d := .str (wrT u)) ?_ hX
    unfold wrT wrB
    by_cases hth : u.isTh = true
    · rw [if_pos hth]
      rw [hth] at is
      have z := su.hz
      have big : 30000 ≤ sizeLine := by decide
      exact ev_ifT (evb_v is) (ev_addS (ev_addS (ev_c (.str [40])) v3 (by show 1 + _ ≤ _; omega)) (ev_c (.str [41])) (by show ([40] ++ scT u).length + 1 ≤ _; rw [List.length_append]; show 1 + _ + 1 ≤ _; omega))
    · rw [if_neg hth]
      have hth : u.isTh = false := by simpa using hth
      rw [hth] at is
      exact ev_ifF (evb_v is) v3
  have big : 30000 ≤ sizeLine := by decide
  cases ht with
  | @dd v hv hz =>
    have a1 : Ev (tpOp fIx (tpVar 0) (tpC (.int 1))) G1 (.str v) := ev_1of (s := DDS) (l := []) v0t
    rw [sc_dd] at h hs
    have eq := ev_eqS a1 (ev_c (.str [])) (plain_of hv) rfl
    have iff := ev_ifB (ta := tpC (.str [45])) (tb := tpOp fIx (tpVar 0) (tpC (.int 1))) (e := .str v) (d := .str [45]) (evb_v eq) (fun _ => ev_c _) (fun _ => a1)
    refine st_ifT (Γ := G1) (isy rfl rfl) (st_ret (Γ := G1) iff ?_)
    show kd _
    by_cases hv : v = []
    · rw [if_pos hv] at h
      rw [decide_eq_true hv]
      exact h
    · rw [if_neg hv] at h
      rw [decide_eq_false hv]
      exact h
  | @nm s h1 h2 h3 =>
    rw [sc_nm] at h
    exact st_ifN (Γ := G1) (isn rfl rfl) (st_ifT (Γ := G1) (isy rfl rfl) (st_ret (Γ := G1) (ev_1of (s := wNAM) (l := []) v0t) h))
  | @th ps h1 h2 h3 h4 h5 =>
    rw [sc_th] at h hs
    refine st_ifN (Γ := G1) (isn rfl rfl) (st_ifN (Γ := G1) (isn rfl rfl) (st_ifT (Γ := G1) (isy rfl rfl) (st_ret (Γ := G1) (ev_parts (v := wTHE) v0t h2 hs fun p hp => call (ev_var rfl) (h3 p hp) ?_ (scS_partT hp hs)) h)))
    have := dpL_le hp
    rw [Tr.dp] at hd
    omega
  | @ei ps h1 h2 h3 =>
    rw [sc_ei] at h hs
    have tx := hs.tl.pre
    have pt := ev_parts (Γ := G1) (i := 2) (is := [2]) (ta := tpCall 1 (fsTextOf n) (tlCons (tpVar 2) tlNil)) (v := wEIT) v0t h2 tx fun p hp => call (ev_var rfl) (h3 p hp) (by
      have := dpL_le hp
      rw [Tr.dp] at hd
      omega) (scS_partT hp tx)
    have z := tx.hz
    have ad := ev_addS (ev_addS (ev_c (Γ := G1) (.str [40])) pt (by show 1 + _ ≤ _; omega)) (ev_c (.str [41])) (by show ([40] ++ _).length + 1 ≤ _; rw [List.length_append]; show 1 + _ + 1 ≤ _; omega)
    exact st_ifN (Γ := G1) (isn rfl rfl) (st_ifN (Γ := G1) (isn rfl rfl) (st_ifN (Γ := G1) (isn rfl rfl) (st_ifT (Γ := G1) (isy rfl rfl) (st_ret (Γ := G1) ad h))))
  | @ti u m hu hm =>
    rw [sc_ti] at h hs
    refine st_ifN (Γ := G1) (isn rfl rfl) (st_ifN (Γ := G1) (isn rfl rfl) (st_ifN (Γ := G1) (isn rfl rfl) (st_ifN (Γ := G1) (isn rfl rfl) ?_)))
    refine rep u [.int (m : Nat)] _ rfl hu (by rw [Tr.dp] at hd; omega) hs _ ?_
    let G2 : Ga := [.pu (Tr.ti u m).dat, .pu (.str wTIM), .un, .pu (.str (wrT u))]
    have w0 : Ev (tpVar 0) G2 (.tup [.str wTIM, u.dat, .int (m : Nat)]) := by
      have w0 : Ev (tpVar 0) G2 (Tr.ti u m).dat := ev_var rfl
      rw [dat_eq] at w0
      exact w0
    have is := ev_eqSF (Γ := G2) (ev_var (i := 1) (d := .str wTIM) rfl) (ev_c (.str wAGA)) rfl rfl (by decide)
    have st : Ev (tp1 fStrAny (tpOp fIx (tpVar 0) (tpC (.int 2)))) G2 (.str (TL.numL m)) := ev_1 (ev_2of w0) fun k z => ⟨log2_30 hm, by
      show k (.str (intS ((m : Nat) : Int)))
      rw [intS_num]
      exact z⟩
    have z := hs.hz
    rw [List.length_append, List.length_cons] at z
    have ad := ev_addS (ev_addS (ev_var (Γ := G2) (i := 3) (d := .str (wrT u)) rfl) (ev_c (.str [94])) (by show (wrB _ _).length + 1 ≤ _; omega)) (ev_ifF (ta := tpC (.str [42])) (evb_v is) st) (by rw [List.length_append]; show (wrB _ _).length + 1 + _ ≤ _; omega)
    rw [List.append_assoc] at ad
    exact st_ret (Γ := G2) ad h
  | @ag u hu =>
    rw [sc_ag] at h hs
    refine st_ifN (Γ := G1) (isn rfl rfl) (st_ifN (Γ := G1) (isn rfl rfl) (st_ifN (Γ := G1) (isn rfl rfl) (st_ifN (Γ := G1) (isn rfl rfl) ?_)))
    refine rep u [] _ rfl hu (by rw [Tr.dp] at hd; omega) hs _ ?_
    let G2 : Ga := [.pu (Tr.ag u).dat, .pu (.str wAGA), .un, .pu (.str (wrT u))]
    have is := ev_eqST (Γ := G2) (ev_var (i := 1) (d := .str wAGA) rfl) (ev_c (.str wAGA)) rfl rfl rfl
    have z := hs.hz
    rw [List.length_append] at z
    have z : (wrB u.isTh (scT u)).length + 2 ≤ 20000 := z
    have ad := ev_addS (ev_addS (ev_var (Γ := G2) (i := 3) (d := .str (wrT u)) rfl) (ev_c (.str [94])) (by show (wrB _ _).length + 1 ≤ _; omega)) (ev_ifT (tb := tp1 fStrAny (tpOp fIx (tpVar 0) (tpC (.int 2)))) (evb_v is) (ev_c (.str [42]))) (by rw [List.length_append]; show (wrB _ _).length + 1 + 1 ≤ _; omega)
    rw [List.append_assoc] at ad
    exact st_ret (Γ := G2) ad h
theorem nameS_ok' : fsNameS ds kd kx → m_law_name fsPick fsPull ds kd kx := by
  intro h0
  match ds, h0 with
  | [.bag], h =>
    let G : Ga := [.pu .bag, .un]
    have cnt : EvN (tpCall 2 fsPick (tlCons (tpVar 0) (tlCons (tpLst (tlCons (tpC (.int 1)) (tlCons (tpC (.int 1)) (tlCons (tpC (.int 2)) (tlCons (tpC (.int 6)) (tlCons (tpOp fAdd (tpC (.int 1)) (tpCall 2 fsPull (tlCons (tpVar 0) (tlCons (tpC (.int 6)) tlNil)))) tlNil)))))) tlNil))) G (fun d => ∃ n : Nat, (1 ≤ n ∧ n ≤ 6) ∧ d = .int (n : Nat)) := by
      refine evn_pickN (ev_var rfl) (evn_lst (evnl_cons (evn (ev_c (.int 1))) (evnl_cons (evn (ev_c (.int 1))) (evnl_cons (evn (ev_c (.int 2))) (evnl_cons (evn (ev_c (.int 6))) (evnl_cons (evn_1p (k := 6) (ev_var rfl) (by decide)) evnl_nil))))) fun ds hd => ?_) fun d hd => ?_
      · obtain ⟨_, _, _, ⟨_, _, _, ⟨_, _, _, ⟨_, _, _, ⟨_, _, _, rfl, rfl⟩, rfl⟩, rfl⟩, rfl⟩, rfl⟩ := hd
        show 5 ≤ 100000
        decide
      · obtain ⟨_, ⟨_, _, rfl, ⟨_, _, rfl, ⟨_, _, rfl, ⟨_, _, rfl, ⟨_, _, h1, rfl, rfl⟩, rfl⟩, rfl⟩, rfl⟩, rfl⟩, rfl⟩ := hd
        refine ⟨_, rfl, by simp, by show 5 ≤ 100000; decide, fun y hy => ?_⟩
        simp only [List.mem_cons, List.not_mem_nil, or_false] at hy
        rcases hy with rfl | rfl | rfl | rfl | rfl
        · exact ⟨1, ⟨by decide, by decide⟩, rfl⟩
        · exact ⟨1, ⟨by decide, by decide⟩, rfl⟩
        · exact ⟨2, ⟨by decide, by decide⟩, rfl⟩
        · exact ⟨6, ⟨by decide, by decide⟩, rfl⟩
        · exact h1
    have rg : EvNL (tiRng1 (tlCons (tpCall 2 fsPick (tlCons (tpVar 0) (tlCons (tpLst (tlCons (tpC (.int 1)) (tlCons (tpC (.int 1)) (tlCons (tpC (.int 2)) (tlCons (tpC (.int 6)) (tlCons (tpOp fAdd (tpC (.int 1)) (tpCall 2 fsPull (tlCons (tpVar 0) (tlCons (tpC (.int 6)) tlNil)))) tlNil)))))) tlNil))) tlNil)) G (fun ds => 1 ≤ ds.length ∧ ds.length ≤ 6) := fun kk kx z => cnt _ _ fun d ⟨n, hn, e⟩ => by
      subst e
      refine (evl_rg1 (Γ := G) (ta := tpC (.int (n : Nat))) (ev_c _) (by omega)) kk kx (z _ ?_)
      show 1 ≤ (natsD 0 n).length ∧ (natsD 0 n).length ≤ 6
      unfold natsD
      rw [List.length_map, List.length_range']
      omega
    have lc := evn_lc (is := [1]) (i := 1) (te := tpCall 2 fsPick (tlCons (tpVar 0) (tlCons (tpC (.str CAP)) tlNil))) (B := fun d => ∃ c ∈ CAP, d = .str [c]) rg (fun ds hd => by omega) fun x => evn_pickS (ev_var rfl) (ev_c _) (by decide) (by decide)
    have ex : ∀ ys : List D, (∀ y ∈ ys, ∃ c ∈ CAP, y = .str [c]) → ∃ u : List Nat, (∀ c ∈ u, c ∈ CAP) ∧ ys = u.map fun c => .str [c] := fun ys => by
      induction ys with
      | nil => exact fun _ => ⟨[], fun _ z => (nomatch z), rfl⟩
      | cons y r ih =>
        intro h
        obtain ⟨u, h1, h2⟩ := ih fun z hz => h z (List.mem_cons_of_mem _ hz)
        obtain ⟨c, h3, h4⟩ := h y List.mem_cons_self
        refine ⟨c :: u, fun d hd => ?_, by rw [h4, h2]; rfl⟩
        rcases List.mem_cons.mp hd with rfl | hd
        · exact h3
        · exact h1 d hd
    have jn := evn_joinCs (A := fun s => 1 ≤ s.length ∧ s.length ≤ 6 ∧ ∀ c ∈ s, c ∈ CAP) (evn_imp lc fun d ⟨items, ys, hi, hy, hb, e⟩ => by
      obtain ⟨u, h1, h2⟩ := ex ys hb
      have lu : ys.length = u.length := by rw [h2, List.length_map]
      exact ⟨u, ⟨⟨by omega, by omega, h1⟩, by omega⟩, by rw [e, h2]⟩)
    exact st_retN (Γ := G) jn fun d ⟨s, ⟨h1, h2, h3⟩, e⟩ => by
      subst e
      exact h s h1 h2 h3
theorem askedM_val (h : Ev t (purify Γ) d) : Ev (tpLam 2 (m_law_asked KK C0 C1 C2 C3 C4 C5 C6 C7 C8 C9 C10 C11 C12 C13 C14 C15 C16) t) Γ (.tup [.str [], d]) := fun k kx z =>
  fun v cA u Gx => ⟨⟨rfl, rfl, rfl, rfl⟩, h _ _ ⟨by show 2 ≤ 100000; decide, z⟩⟩
theorem askedM_none {CX : Addr} {T : List Nat} (XF : XFld KK (.ref CX) "tag") (e1 : PySem.W.exmAny KK (.ref CX) [.ref C5, .ref C6, .ref C7, .ref C9, .ref C15] = some false) (e2 : PySem.W.exmAny KK (.ref CX) [.ref C1, .ref C3, .ref C12] = some false)
    (e3 : PySem.W.exmAny KK (.ref CX) [.ref C2, .ref C13] = some false) (e4 : PySem.W.exmAny KK (.ref CX) [.ref C4, .ref C11] = some false) (e5 : PySem.W.exmOne KK (.ref CX) (.ref C8) = some false) (e6 : PySem.W.exmOne KK (.ref CX) (.ref C10) = some false) (e7 : PySem.W.exmOne KK (.ref CX) (.ref C14) = some false) (e8 : PySem.W.exmAny KK (.ref CX) [.ref C0, .ref C16] = some true)
    (h : EvX t (purify Γ) ⟨.ref CX, [(("tag" : PySem.Str), .str T)]⟩) : Ev (tpLam 2 (m_law_asked KK C0 C1 C2 C3 C4 C5 C6 C7 C8 C9 C10 C11 C12 C13 C14 C15 C16) t) Γ (.tup [.str T, .non]) := fun k kx z =>
  fun v cA u Gx => ⟨⟨rfl, rfl, rfl, rfl⟩, h _ _ ⟨false, e1, fun z => Bool.noConfusion z, fun _ => ⟨false, e2, fun z => Bool.noConfusion z, fun _ => ⟨false, e3, fun z => Bool.noConfusion z, fun _ => ⟨false, e4, fun z => Bool.noConfusion z, fun _ => ⟨false, e5, fun z => Bool.noConfusion z, fun _ => ⟨false, e6, fun z => Bool.noConfusion z, fun _ => ⟨false, e7, fun z => Bool.noConfusion z, fun _ => ⟨true, e8, fun _ a dA => ⟨rfl, rfl, XF, by show 2 ≤ 100000; decide, z⟩, fun z => Bool.noConfusion z⟩⟩⟩⟩⟩⟩⟩⟩⟩
end
end PL
set_option Elab.async false
set_option linter.all false
set_option maxRecDepth 100000
set_option maxHeartbeats 4000000
namespace PL
open PySem L2
section
variable {ds : List D} {kd : KD} {ko : D → D → Prop} {kx : KX} {Γ : Ga} {t ta tb tc : TP} {tl : TL} {d e c c0 : D} {n i j : Nat} {P : PEn} {u v : List Nat} {s r : TSp} {cb : TB} {env : Env} {q : Tr} {b : Bool} {al : List Nat} {ns : List (List Nat)}
local instance : Tabl := ⟨[], fun p hp => absurd hp (by simp)⟩
theorem ev_fTup {l : List D} (h : Ev t Γ (.lst l)) : Ev (tp1 fTup t) Γ (.tup l) := ev_1 h fun k z => z
theorem WorldOk.nil {cb : Nat} : WorldOk al cb [] := ⟨List.nodup_nil, fun _ z => (nomatch z), fun i q h => (nomatch (show none = some q from h))⟩
end
end PL
set_option Elab.async false
set_option linter.all false
set_option maxRecDepth 100000
set_option maxHeartbeats 4000000
namespace PL
open PySem L2
section
variable {ds : List D} {kd : KD} {ko : D → D → Prop} {kx : KX} {CC CG : Addr} {Γ : Ga} {t ta tb tc : TP} {tl : TL} {d e c c0 : D} {n i j : Nat} {P : PEn} {u v : List Nat} {tx ty : TX} {R S T : D → D → Prop} {s r : TSp} {cb : TB} {env : Env} {q : Tr} {b : Bool}
local instance : Tabl := ⟨[], fun p hp => absurd hp (by simp)⟩
end
end PL
set_option Elab.async false
set_option linter.all false
set_option maxRecDepth 100000
set_option maxHeartbeats 4000000
namespace PL
open PySem L2
end PL
set_option Elab.async false
set_option linter.all false
set_option maxRecDepth 100000
set_option maxHeartbeats 4000000
namespace PL
open PySem L2
mutual
/-- the run of a tree, every count taken for one; nought stays nought -/
def rn (val : List Nat → List Nat) : Tr → List Nat
  | .dd v => v
  | .nm s => val s
  | .th ps => rnL val ps
  | .ei _ => []
  | .ti t n => if n = 0 then [] else rn val t
  | .ag _ => []
def rnL (val : List Nat → List Nat) : List Tr → List Nat
  | [] => []
  | t :: r => rn val t ++ rnL val r
end
mutual
def szt (val : List Nat → Nat) : Tr → Nat
  | .dd v => v.length
  | .nm s => val s
  | .th ps => sztL val ps
  | .ei _ => 0
  | .ti t n => szt val t * n
  | .ag _ => 0
def sztL (val : List Nat → Nat) : List Tr → Nat
  | [] => 0
  | t :: r => szt val t + sztL val r
end
section
variable {al : List Nat} {ns : List (List Nat)} {cb d K n e : Nat} {val val' : List Nat → List Nat} {vz vz' : List Nat → Nat} {env : Env} {m : KindM}
theorem rn_dd (v : List Nat) : rn val (.dd v) = v := by rw [rn]
theorem rn_nm (v : List Nat) : rn val (.nm v) = val v := by rw [rn]
theorem rn_th (v : List Tr) : rn val (.th v) = rnL val v := by rw [rn]
theorem rn_ti (t : Tr) (n : Nat) : rn val (.ti t n) = if n = 0 then [] else rn val t := by rw [rn]
theorem rnL_nil : rnL val [] = [] := by rw [rnL]
theorem rnL_cons (t : Tr) (r : List Tr) : rnL val (t :: r) = rn val t ++ rnL val r := by rw [rnL]
theorem sz_dd (v : List Nat) : szt vz (.dd v) = v.length := by rw [szt]
theorem sz_nm (v : List Nat) : szt vz (.nm v) = vz v := by rw [szt]
theorem sz_th (v : List Tr) : szt vz (.th v) = sztL vz v := by rw [szt]
theorem sz_ti (t : Tr) (n : Nat) : szt vz (.ti t n) = szt vz t * n := by rw [szt]
theorem sztL_nil : sztL vz [] = 0 := by rw [sztL]
theorem sztL_cons (t : Tr) (r : List Tr) : sztL vz (t :: r) = szt vz t + sztL vz r := by rw [sztL]
theorem rn_len (hv : ∀ s ∈ ns, (val s).length ≤ K) : ∀ {d : Nat} {t : Tr}, TrD al ns cb d t → (rn val t).length ≤ wt K t
  | d + 1, .dd _, _ => by rw [rn_dd, wt_dd]; exact Nat.le_refl _
  | d + 1, .nm s, q => by rw [rn_nm, wt_nm]; exact hv s q
  | d + 1, .th ps, ⟨_, q⟩ => by
    rw [rn_th, wt_th]
    have go : ∀ ps : List Tr, (∀ p ∈ ps, (rn val p).length ≤ wt K p) → (rnL val ps).length ≤ wtL K ps := fun ps => by
      induction ps with
      | nil => exact fun _ => by rw [rnL_nil]; exact Nat.zero_le _
      | cons t r ih =>
        intro h
        rw [rnL_cons, wtL_cons, List.length_append]
        have := h t List.mem_cons_self
        have := ih fun p hp => h p (List.mem_cons_of_mem _ hp)
        omega
    exact go ps fun p hp => rn_len hv (q p hp)
  | d + 1, .ti t n, ⟨_, q⟩ => by
    rw [rn_ti, wt_ti]
    by_cases z : n = 0
    · rw [if_pos z]; exact Nat.zero_le _
    · rw [if_neg z]; exact rn_len hv q
  | d + 1, .ei ps, q => q.elim
  | d + 1, .ag t, q => q.elim
theorem Rk.ext {r : Env} (hx : ∀ s t, env.lookup s = some t → (env ++ r).lookup s = some t) : ∀ {n : Nat} {t : Tr}, Rk env n t → Rk (env ++ r) n t
  | n + 1, .dd _, h => trivial
  | n + 1, .nm s, ⟨t, h1, h2⟩ => ⟨t, hx _ _ h1, h2.ext hx⟩
  | n + 1, .th ps, ⟨h1, h2⟩ => ⟨h1, fun p hp => (h2 p hp).ext hx⟩
  | n + 1, .ei ps, ⟨h1, h2⟩ => ⟨h1, fun p hp => (h2 p hp).ext hx⟩
  | n + 1, .ti t _, h => Rk.ext (t := t) hx h
  | n + 1, .ag t, h => Rk.ext (t := t) hx h
/-- trees of names, each with names ahead of its own -/
inductive Ch (al : List Nat) (cb d : Nat) : Env → Prop
  | nil : Ch al cb d []
  | snoc {env : Env} {s : List Nat} {t : Tr} : Ch al cb d env → s ∉ env.map (·.1) → D.plain (.str s) = true → TrD al (env.map (·.1)) cb d t → (∀ K, 6 ≤ K → wt K t ≤ K * 9) → Ch al cb d (env ++ [(s, t)])
theorem nm_snoc {s : List Nat} {t : Tr} : (env ++ [(s, t)]).map (·.1) = env.map (·.1) ++ [s] := by rw [List.map_append]; rfl
theorem Ch.mem (h : Ch al cb d env) : ∀ q ∈ env, TrD al (env.map (·.1)) cb d q.2 ∧ (∀ K, 6 ≤ K → wt K q.2 ≤ K * 9) ∧ D.plain (.str q.1) = true := by
  induction h with
  | nil => exact fun _ z => nomatch z
  | snoc h0 hn hp ht hw ih =>
    intro q hq
    rw [nm_snoc]
    rcases List.mem_append.mp hq with hq | hq
    · obtain ⟨a, b, c⟩ := ih q hq
      exact ⟨a.names fun s hs => List.mem_append_left _ hs, b, c⟩
    · obtain rfl : q = _ := List.mem_singleton.mp hq
      exact ⟨ht.names fun s hs => List.mem_append_left _ hs, hw, hp⟩
/-- values of names, one by one -/
def fE {α : Type} (f : (List Nat → α) → Tr → α) (z : α) (env : Env) : List Nat → α := env.foldl (fun vl q => fun s => if s = q.1 then f vl q.2 else vl s) (fun _ => z)
theorem fE_snoc {α : Type} {f : (List Nat → α) → Tr → α} {z : α} {s x : List Nat} {t : Tr} : fE f z (env ++ [(s, t)]) x = if x = s then f (fE f z env) t else fE f z env x := by
  unfold fE
  rw [List.foldl_append]
  rfl
theorem Ch.len (h : Ch al cb d env) : ∀ s ∈ env.map (·.1), (fE rn [] env s).length ≤ 6 * 9 ^ env.length := by
  induction h with
  | nil => exact fun _ z => nomatch z
  | @snoc env s t h0 hn hp ht hw ih =>
    intro x hx
    rw [fE_snoc, List.length_append, List.length_singleton, Nat.pow_succ]
    have p : 1 ≤ 9 ^ env.length := Nat.pos_of_ne_zero (by simp)
    rw [nm_snoc] at hx
    by_cases e : x = s
    · rw [if_pos e]
      have h1 := rn_len ih ht
      have h2 := hw (6 * 9 ^ env.length) (by omega)
      omega
    · rw [if_neg e]
      have := ih x ((List.mem_append.mp hx).resolve_right fun z => e (List.mem_singleton.mp z))
      omega
theorem Ch.ok (h : Ch al cb d env) (hl : env.length ≤ 3) : env.ok := ⟨by omega, fun q hq => (h.mem q hq).2.2⟩
end
end PL
set_option Elab.async false
set_option linter.all false
set_option maxRecDepth 100000
set_option maxHeartbeats 4000000
namespace PL
end PL
set_option Elab.async false
set_option linter.all false
set_option maxRecDepth 100000
set_option maxHeartbeats 4000000
namespace PL
open PySem L2
section
variable {ds : List D} {kd : KD} {ko : D → D → Prop} {kx : KX} {CC CG CT : Addr} {Γ : Ga} {t ta tb tc : TP} {tl : TL} {d e c c0 : D} {n i j : Nat} {P : PEn} {K : Ks} {m : KindM} {u v w : List Nat} {tx ty : TX} {R S T : D → D → Prop} {s r : TSp} {cb : TB} {env : Env} {q : Tr} {b : Bool}
local instance : Tabl := ⟨[], fun p hp => absurd hp (by simp)⟩
end
end PL
set_option Elab.async false
set_option linter.all false
set_option maxRecDepth 100000
set_option maxHeartbeats 4000000
namespace PL
open PySem L2
mutual
def w4 (K : Nat) : Tr → Nat
  | .dd v => v.length
  | .nm _ => K
  | .th ps => w4L K ps
  | .ei ps => w4L K ps
  | .ti t n => w4 K t * max n 1
  | .ag t => w4 K t
def w4L (K : Nat) : List Tr → Nat
  | [] => 0
  | t :: r => w4 K t + w4L K r
end
theorem w4_dd (K : Nat) (v : List Nat) : w4 K (.dd v) = v.length := by rw [w4]
theorem w4_nm (K : Nat) (v : List Nat) : w4 K (.nm v) = K := by rw [w4]
theorem w4_th (K : Nat) (v : List Tr) : w4 K (.th v) = w4L K v := by rw [w4]
theorem w4_ti (K : Nat) (t : Tr) (n : Nat) : w4 K (.ti t n) = w4 K t * max n 1 := by rw [w4]
theorem w4L_nil (K : Nat) : w4L K [] = 0 := by rw [w4L]
theorem w4L_cons (K : Nat) (t : Tr) (r : List Tr) : w4L K (t :: r) = w4 K t + w4L K r := by rw [w4L]
/-- trees of names, each with names ahead of its own -/
def WorldO4 (al : List Nat) (cb : Nat) (env : Env) : Prop := (env.map (·.1)).Nodup ∧ (∀ q ∈ env, D.plain (.str q.1) = true) ∧ ∀ (i : Nat) (q : List Nat × Tr), env[i]? = some q → TrD al ((env.take i).map (·.1)) cb 3 q.2 ∧ ∀ K, 6 ≤ K → w4 K q.2 ≤ K * 16
section
variable {ds : List D} {kd : KD} {ko : D → D → Prop} {kx : KX} {Γ : Ga} {t ta tb tc : TP} {tl : TL} {d e c c0 : D} {n i j : Nat} {P : PEn} {u v : List Nat} {s r : TSp} {cb : TB} {env : Env} {q : Tr} {b : Bool} {al : List Nat} {ns : List (List Nat)}
local instance : Tabl := ⟨[], fun p hp => absurd hp (by simp)⟩
theorem WorldO4.nil {cb : Nat} : WorldO4 al cb [] := ⟨List.nodup_nil, fun _ z => (nomatch z), fun i q h => (nomatch (show none = some q from h))⟩
end
end PL
set_option Elab.async false
set_option linter.all false
set_option maxRecDepth 100000
set_option maxHeartbeats 4000000
namespace PL
open PySem L2
section
variable {ap : Nat → Nat → Bool} {own : Nat → Nat} {s : Nat} {R : List Blk} {w : List Nat}
/-- each piece of one sender -/
def Pcs (own : Nat → Nat) (ps : List (List Nat)) : Prop := ∀ p ∈ ps, ∃ s, ∀ c ∈ p, own c = s
theorem pcs_drop : ∀ (ps : List (List Nat)) (a : Nat), Pcs own ps → ∃ qs, qs.length ≤ ps.length ∧ qs.flatten = ps.flatten.drop a ∧ Pcs own qs
  | [], a, h => ⟨[], Nat.le_refl _, by simp, h⟩
  | p :: ps, a, h => by
    have hr : Pcs own ps := fun q hq => h q (List.mem_cons_of_mem _ hq)
    by_cases z : a ≤ p.length
    · refine ⟨p.drop a :: ps, Nat.le_refl _, ?_, fun q hq => ?_⟩
      · rw [List.flatten_cons, List.flatten_cons, List.drop_append_of_le_length z]
      · rcases List.mem_cons.mp hq with rfl | hq
        · obtain ⟨s, hs⟩ := h p List.mem_cons_self
          exact ⟨s, fun c hc => hs c (List.mem_of_mem_drop hc)⟩
        · exact hr q hq
    · obtain ⟨qs, h1, h2, h3⟩ := pcs_drop ps (a - p.length) hr
      refine ⟨qs, by rw [List.length_cons]; omega, ?_, h3⟩
      have e : p.drop a = [] := List.drop_eq_nil_of_le (by omega)
      rw [h2, List.flatten_cons, List.drop_append, e, List.nil_append]
theorem pcs_take : ∀ (ps : List (List Nat)) (a : Nat), Pcs own ps → ∃ qs, qs.length ≤ ps.length ∧ qs.flatten = ps.flatten.take a ∧ Pcs own qs
  | [], a, h => ⟨[], Nat.le_refl _, by simp, h⟩
  | p :: ps, a, h => by
    have hr : Pcs own ps := fun q hq => h q (List.mem_cons_of_mem _ hq)
    by_cases z : a ≤ p.length
    · refine ⟨[p.take a], by rw [List.length_cons]; exact Nat.succ_le_succ (Nat.zero_le _), ?_, fun q hq => ?_⟩
      · have e : (p :: ps).flatten.take a = p.take a := by rw [List.flatten_cons, List.take_append_of_le_length z]
        rw [e]
        simp
      · rw [List.mem_singleton.mp hq]
        obtain ⟨s, hs⟩ := h p List.mem_cons_self
        exact ⟨s, fun c hc => hs c (List.mem_of_mem_take hc)⟩
    · obtain ⟨qs, h1, h2, h3⟩ := pcs_take ps (a - p.length) hr
      refine ⟨p :: qs, Nat.succ_le_succ h1, ?_, fun q hq => ?_⟩
      · have e : p.take a = p := List.take_of_length_le (by omega)
        rw [List.flatten_cons, h2, List.flatten_cons, List.take_append, e]
      · rcases List.mem_cons.mp hq with rfl | hq
        · exact h _ List.mem_cons_self
        · exact h3 q hq
end
/-- who owns a deed -/
def KindM.own : KindM → Nat → Nat
  | .free ss _ => ownF ss
  | _ => fun _ => 0
/-- a log of few pieces -/
def pcLog (m : KindM) (j : Nat) (v : List Nat) : Prop := (∀ c ∈ v, c ∈ m.al) ∧ ∃ ps, ps.length ≤ j ∧ v = ps.flatten ∧ Pcs m.own ps
section
variable {m : KindM} {j : Nat} {u v w : List Nat}
theorem pcLog.drop (h : pcLog m j v) (a : Nat) : pcLog m j (v.drop a) := by
  obtain ⟨h0, ps, h1, rfl, h3⟩ := h
  obtain ⟨qs, q1, q2, q3⟩ := pcs_drop ps a h3
  exact ⟨fun c hc => h0 c (List.mem_of_mem_drop hc), qs, by omega, q2.symm, q3⟩
theorem pcLog.take (h : pcLog m j v) (a : Nat) : pcLog m j (v.take a) := by
  obtain ⟨h0, ps, h1, rfl, h3⟩ := h
  obtain ⟨qs, q1, q2, q3⟩ := pcs_take ps a h3
  exact ⟨fun c hc => h0 c (List.mem_of_mem_take hc), qs, by omega, q2.symm, q3⟩
end
end PL
set_option Elab.async false
set_option linter.all false
set_option maxRecDepth 100000
set_option maxHeartbeats 4000000
namespace PL
open PySem L2
end PL
set_option Elab.async false
set_option linter.all false
set_option maxRecDepth 100000
set_option maxHeartbeats 4000000
namespace PL
open PySem L2
mutual
/-- the run of a tree -/
def rt (val : List Nat → List Nat) : Tr → List Nat
  | .dd v => v
  | .nm s => val s
  | .th ps => rtL val ps
  | .ei _ => []
  | .ti t n => (List.replicate n (rt val t)).flatten
  | .ag _ => []
def rtL (val : List Nat → List Nat) : List Tr → List Nat
  | [] => []
  | t :: r => rt val t ++ rtL val r
end
section
variable {al : List Nat} {ns : List (List Nat)} {cb d K n e : Nat} {val val' : List Nat → List Nat} {vz vz' : List Nat → Nat} {env : Env} {m : KindM} {x y z u : List Nat}
theorem rt_dd (v : List Nat) : rt val (.dd v) = v := by rw [rt]
theorem rt_nm (v : List Nat) : rt val (.nm v) = val v := by rw [rt]
theorem rt_th (v : List Tr) : rt val (.th v) = rtL val v := by rw [rt]
theorem rt_ti (t : Tr) (n : Nat) : rt val (.ti t n) = (List.replicate n (rt val t)).flatten := by rw [rt]
theorem rtL_nil : rtL val [] = [] := by rw [rtL]
theorem rtL_cons (t : Tr) (r : List Tr) : rtL val (t :: r) = rt val t ++ rtL val r := by rw [rtL]
/-- the run's length -/
theorem rt_sz : ∀ {d : Nat} {t : Tr}, TrD al ns cb d t → (rt val t).length = szt (fun s => (val s).length) t
  | d + 1, .dd _, _ => by rw [rt_dd, sz_dd]
  | d + 1, .nm s, q => by rw [rt_nm, sz_nm]
  | d + 1, .th ps, ⟨_, q⟩ => by
    rw [rt_th, sz_th]
    have go : ∀ ps : List Tr, (∀ p ∈ ps, (rt val p).length = szt (fun s => (val s).length) p) → (rtL val ps).length = sztL (fun s => (val s).length) ps := fun ps => by
      induction ps with
      | nil => exact fun _ => by rw [rtL_nil, sztL_nil]; rfl
      | cons t r ih =>
        intro h
        rw [rtL_cons, sztL_cons, List.length_append, h t List.mem_cons_self, ih fun p hp => h p (List.mem_cons_of_mem _ hp)]
    exact go ps fun p hp => rt_sz (q p hp)
  | d + 1, .ti t n, ⟨_, q⟩ => by rw [rt_ti, sz_ti, rep_len, rt_sz q, Nat.mul_comm]
  | d + 1, .ei ps, q => q.elim
  | d + 1, .ag t, q => q.elim
theorem sz_w4 (hv : ∀ s ∈ ns, vz s ≤ K) : ∀ {d : Nat} {t : Tr}, TrD al ns cb d t → szt vz t ≤ w4 K t
  | d + 1, .dd _, _ => by rw [sz_dd, w4_dd]; exact Nat.le_refl _
  | d + 1, .nm s, q => by rw [sz_nm, w4_nm]; exact hv s q
  | d + 1, .th ps, ⟨_, q⟩ => by
    rw [sz_th, w4_th]
    have go : ∀ ps : List Tr, (∀ p ∈ ps, szt vz p ≤ w4 K p) → sztL vz ps ≤ w4L K ps := fun ps => by
      induction ps with
      | nil => exact fun _ => by rw [sztL_nil, w4L_nil]; exact Nat.le_refl _
      | cons t r ih =>
        intro h
        rw [sztL_cons, w4L_cons]
        exact Nat.add_le_add (h t List.mem_cons_self) (ih fun p hp => h p (List.mem_cons_of_mem _ hp))
    exact go ps fun p hp => sz_w4 hv (q p hp)
  | d + 1, .ti t n, ⟨_, q⟩ => by
    rw [sz_ti, w4_ti]
    exact Nat.mul_le_mul (sz_w4 hv q) (Nat.le_max_left _ _)
  | d + 1, .ei ps, q => q.elim
  | d + 1, .ag t, q => q.elim
theorem rt_w4 (hv : ∀ s ∈ ns, (val s).length ≤ K) {d : Nat} {t : Tr} (h : TrD al ns cb d t) : (rt val t).length ≤ w4 K t := by
  rw [rt_sz h]
  exact sz_w4 hv h
/-- trees of names, each with names ahead of its own -/
inductive Ch4 (al : List Nat) (cb d : Nat) : Env → Prop
  | nil : Ch4 al cb d []
  | snoc {env : Env} {s : List Nat} {t : Tr} : Ch4 al cb d env → s ∉ env.map (·.1) → D.plain (.str s) = true → TrD al (env.map (·.1)) cb d t → (∀ K, 6 ≤ K → w4 K t ≤ K * 16) → Ch4 al cb d (env ++ [(s, t)])
theorem Ch4.mem (h : Ch4 al cb d env) : ∀ q ∈ env, TrD al (env.map (·.1)) cb d q.2 ∧ (∀ K, 6 ≤ K → w4 K q.2 ≤ K * 16) ∧ D.plain (.str q.1) = true := by
  induction h with
  | nil => exact fun _ z => nomatch z
  | snoc h0 hn hp ht hw ih =>
    intro q hq
    rw [nm_snoc]
    rcases List.mem_append.mp hq with hq | hq
    · obtain ⟨a, b, c⟩ := ih q hq
      exact ⟨a.names fun s hs => List.mem_append_left _ hs, b, c⟩
    · obtain rfl : q = _ := List.mem_singleton.mp hq
      exact ⟨ht.names fun s hs => List.mem_append_left _ hs, hw, hp⟩
theorem Ch4.len (h : Ch4 al cb d env) : ∀ s ∈ env.map (·.1), (fE rt [] env s).length ≤ 6 * 16 ^ env.length := by
  induction h with
  | nil => exact fun _ z => nomatch z
  | @snoc env s t h0 hn hp ht hw ih =>
    intro x hx
    rw [fE_snoc, List.length_append, List.length_singleton, Nat.pow_succ]
    have p : 1 ≤ 16 ^ env.length := Nat.pos_of_ne_zero (by simp)
    rw [nm_snoc] at hx
    by_cases e : x = s
    · rw [if_pos e]
      have h1 := rt_w4 ih ht
      have h2 := hw (6 * 16 ^ env.length) (by omega)
      omega
    · rw [if_neg e]
      have := ih x ((List.mem_append.mp hx).resolve_right fun z => e (List.mem_singleton.mp z))
      omega
theorem Ch4.ok (h : Ch4 al cb d env) (hl : env.length ≤ 3) : env.ok := ⟨by omega, fun q hq => (h.mem q hq).2.2⟩
end
end PL
set_option Elab.async false
set_option linter.all false
set_option maxRecDepth 100000
set_option maxHeartbeats 4000000
namespace PL
open PySem L2
theorem TrD.cb {al : List Nat} {ns : List (List Nat)} {c c' : Nat} (hc : c ≤ c') : ∀ {d : Nat} {t : Tr}, TrD al ns c d t → TrD al ns c' d t
  | d + 1, .dd _, q => q
  | d + 1, .nm s, q => q
  | d + 1, .th ps, ⟨h, q⟩ => ⟨h, fun p hp => (q p hp).cb hc⟩
  | d + 1, .ti t n, ⟨h, q⟩ => ⟨Nat.le_trans h hc, q.cb hc⟩
  | d + 1, .ei ps, q => q.elim
  | d + 1, .ag t, q => q.elim
theorem pur_pu : ∀ {Γ : Ga} {i : Nat} {d : D}, gat Γ i = .pu d → gat (purify Γ) i = .pu d
  | s :: r, 0, d, h => by
    show purS s = .pu d
    rw [show s = .pu d from h]
    rfl
  | s :: r, i + 1, d, h => pur_pu (Γ := r) (i := i) h
end PL
set_option Elab.async false
set_option linter.all false
set_option maxRecDepth 100000
set_option maxHeartbeats 4000000
namespace K71
open PySem L2 PL
theorem isTree0 {ds : List D} {k : KD} {kx : KX} (h : fsIsTree 0 ds k kx) : False := by
  obtain ⟨t, d, ⟨_, _, _, h⟩, _⟩ := h
  omega
theorem ring0 [Tabl] {K : PySem.W.Frag} {CR CX : Addr} {n : Nat} {vs : List V} {H : Hp} {Q : VK} {E : XK} (h : spOi K n (fsScRow CR CX 0) vs H Q E) : False := by
  obtain ⟨G, ds, kd, kx, p, dx, C, fs0, fvs, a1, a2, a3, a4, a5, a6, a7, a8, a9, a10, a11, ⟨t, r, d, ⟨_, _, h, _⟩, _⟩, a13⟩ := h
  omega
theorem okS_s (n : Nat) {s : List Nat} (h1 : s.length ≤ 100000) (h2 : D.plain (.str s) = true) : okS n (.str s) := by cases n <;> exact ⟨h1, h2⟩
theorem okSL_map {n : Nat} : ∀ {ps : List Tr}, (∀ p ∈ ps, okS n p.dat) → okSL n (ps.map Tr.dat)
  | [], _ => by cases n <;> trivial
  | p :: r, h => ⟨h p List.mem_cons_self, okSL_map fun q hq => h q (List.mem_cons_of_mem _ hq)⟩
theorem w_len (t : Tr) : t.w.length ≤ 100000 := by cases t <;> simp [Tr.w]
theorem okS_i (n : Nat) (i : Int) : okS n (.int i) := by cases n <;> trivial
theorem okS_t {t : Tr} (h : OkT t) : ∀ n, t.dp ≤ n → okS n t.dat := by
  induction h with
  | @dd v h hz =>
    intro n hn
    rw [Tr.dp] at hn
    rw [dat_eq]
    match n, hn with
    | n + 1, hn => exact ⟨by show 2 ≤ 100000; decide, okS_s n (w_len _) rfl, okS_s n (by omega) (plain_of h), by cases n <;> trivial⟩
  | @nm s h1 h2 h3 =>
    intro n hn
    rw [Tr.dp] at hn
    rw [dat_eq]
    match n, hn with
    | n + 1, hn => exact ⟨by show 2 ≤ 100000; decide, okS_s n (w_len _) rfl, okS_s n (by omega) (TxOk.pl ⟨by omega, fun c hc => (cap_ne (h3 c hc)).2.2.1⟩), by cases n <;> trivial⟩
  | @th ps h1 h2 h3 h4 h5 ih =>
    intro n hn
    rw [Tr.dp] at hn
    rw [dat_eq]
    match n, hn with
    | n + 1, hn => exact ⟨by show (D.str wTHE :: ps.map Tr.dat).length ≤ 100000; rw [List.length_cons, List.length_map]; omega, okS_s n (w_len _) rfl, okSL_map fun p hp => ih p hp n (by have := dpL_le hp; omega)⟩
  | @ei ps h1 h2 h3 ih =>
    intro n hn
    rw [Tr.dp] at hn
    rw [dat_eq]
    match n, hn with
    | n + 1, hn => exact ⟨by show (D.str wEIT :: ps.map Tr.dat).length ≤ 100000; rw [List.length_cons, List.length_map]; omega, okS_s n (w_len _) rfl, okSL_map fun p hp => ih p hp n (by have := dpL_le hp; omega)⟩
  | @ti t m h hm ih =>
    intro n hn
    rw [Tr.dp] at hn
    rw [dat_eq]
    match n, hn with
    | n + 1, hn => exact ⟨by show 3 ≤ 100000; decide, okS_s n (w_len _) rfl, ih n (by omega), okS_i n _, by cases n <;> trivial⟩
  | @ag t h ih =>
    intro n hn
    rw [Tr.dp] at hn
    rw [dat_eq]
    match n, hn with
    | n + 1, hn => exact ⟨by show 2 ≤ 100000; decide, okS_s n (w_len _) rfl, ih n (by omega), by cases n <;> trivial⟩
/-- signs of printed trees -/
theorem scS_lt {c : Nat} (hc : c < 128) : ∀ {ps : List Tr}, (∀ p ∈ ps, ∀ x ∈ scT p, x < 128) → ∀ x ∈ scS c ps, x < 128
  | [], _, x, hx => by rw [scS] at hx; cases hx
  | p :: r, h, x, hx => by
    rw [scS_cons] at hx
    rcases List.mem_cons.mp hx with rfl | hx
    · exact hc
    · rcases List.mem_append.mp hx with hx | hx
      · exact h p List.mem_cons_self x hx
      · exact scS_lt hc (fun q hq => h q (List.mem_cons_of_mem _ hq)) x hx
theorem wr_lt {t : Tr} (h : ∀ x ∈ scT t, x < 128) : ∀ x ∈ wrB t.isTh (scT t), x < 128 := fun x hx => by
  unfold wrB at hx
  split at hx
  · rcases List.mem_cons.mp hx with rfl | hx
    · decide
    · rcases List.mem_append.mp hx with hx | hx
      · exact h x hx
      · rw [List.mem_singleton.mp hx]; decide
  · exact h x hx
theorem sc_lt {t : Tr} (h : OkT t) : ∀ x ∈ scT t, x < 128 := by
  induction h with
  | @dd v h hz =>
    intro x hx
    rw [sc_dd] at hx
    split at hx
    · rw [List.mem_singleton.mp hx]; decide
    · exact (let_ne (h x hx)).2.2.1
  | @nm s h1 h2 h3 =>
    intro x hx
    rw [sc_nm] at hx
    exact (cap_ne (h3 x hx)).2.2.1
  | @th ps h1 h2 h3 h4 h5 ih =>
    intro x hx
    rw [sc_th] at hx
    exact scS_lt (by decide) ih x (List.mem_of_mem_tail hx)
  | @ei ps h1 h2 h3 ih =>
    intro x hx
    rw [sc_ei] at hx
    rcases List.mem_cons.mp hx with rfl | hx
    · decide
    · rcases List.mem_append.mp hx with hx | hx
      · exact scS_lt (by decide) ih x (List.mem_of_mem_tail hx)
      · rw [List.mem_singleton.mp hx]; decide
  | @ti t m h hm ih =>
    intro x hx
    rw [sc_ti] at hx
    rcases List.mem_append.mp hx with hx | hx
    · exact wr_lt ih x hx
    · rcases List.mem_cons.mp hx with rfl | hx
      · decide
      · have := TL.numL_digits m x hx
        omega
  | @ag t h ih =>
    intro x hx
    rw [sc_ag] at hx
    rcases List.mem_append.mp hx with hx | hx
    · exact wr_lt ih x hx
    · simp only [List.mem_cons, List.not_mem_nil, or_false] at hx
      rcases hx with rfl | rfl <;> decide
theorem wr_len (t : Tr) : (wrB t.isTh (scT t)).length ≤ (scT t).length + 2 := by
  unfold wrB
  split
  · simp
  · omega
/-- a tree of so many levels, none of them wide -/
structure Lv (L : Nat) (t : Tr) : Prop where
  ok : OkT t
  dp : t.dp = L
  is : ∀ d, isB d t = decide (L ≤ d)
theorem Lv.dd {v : List Nat} (h : ∀ c ∈ v, c ∈ LET) (hz : v.length ≤ 3000) : Lv 1 (.dd v) := ⟨.dd h hz, by rw [Tr.dp], fun d => by cases d <;> simp [isB]⟩
theorem Lv.nm {s : List Nat} (h1 : 1 ≤ s.length) (h2 : s.length ≤ 6) (h3 : ∀ c ∈ s, c ∈ CAP) : Lv 1 (.nm s) := ⟨.nm h1 h2 h3, by rw [Tr.dp], fun d => by cases d <;> simp [isB]⟩
variable {L : Nat} {t : Tr}
theorem Lv.pos (h : Lv L t) : 1 ≤ L := h.dp ▸ dp_pos t
theorem Lv.ag (h : Lv L t) : Lv (L + 1) (.ag t) := ⟨.ag h.ok, by rw [Tr.dp, h.dp], fun d => by
  cases d with
  | zero => exact (decide_eq_false (by omega)).symm
  | succ d => show isB d t = _; rw [h.is]; exact decide_eq_decide.mpr (by omega)⟩
theorem Lv.ti {n : Nat} (h : Lv L t) (hn : n ≤ 10 ^ 30) : Lv (L + 1) (.ti t n) := ⟨.ti h.ok hn, by rw [Tr.dp, h.dp], fun d => by
  cases d with
  | zero => exact (decide_eq_false (by omega)).symm
  | succ d => show isB d t = _; rw [h.is]; exact decide_eq_decide.mpr (by omega)⟩
theorem is_parts {ps : List Tr} {d : Nat} (hl : ps.length ≤ 20) (h : ∀ p ∈ ps, ∃ l, l ≤ L ∧ Lv l p) (h1 : ∃ p ∈ ps, Lv L p) : (decide (ps.length ≤ 20) && ps.all (isB d)) = decide (L ≤ d) := by
  rw [decide_eq_true hl, Bool.true_and]
  by_cases e : L ≤ d
  · rw [decide_eq_true e, List.all_eq_true]
    intro p hp
    obtain ⟨l, hl, h⟩ := h p hp
    rw [h.is]
    exact decide_eq_true (by omega)
  · rw [decide_eq_false e]
    obtain ⟨p, hp, h⟩ := h1
    cases q : ps.all (isB d) with
    | false => rfl
    | true =>
      have := List.all_eq_true.mp q p hp
      rw [h.is, decide_eq_false e] at this
      cases this
theorem dp_parts {ps : List Tr} (h : ∀ p ∈ ps, ∃ l, l ≤ L ∧ Lv l p) (h1 : ∃ p ∈ ps, Lv L p) : dpL ps = L := by
  obtain ⟨p, hp, h1⟩ := h1
  have a := dpL_le hp
  have b := dpL_of (d := L) (ps := ps) fun q hq => by
    obtain ⟨l, hl, h⟩ := h q hq
    rw [h.dp]
    exact hl
  have := h1.dp
  omega
theorem Lv.ei {ps : List Tr} (h2 : 2 ≤ ps.length) (hl : ps.length ≤ 20) (h : ∀ p ∈ ps, ∃ l, l ≤ L ∧ Lv l p) (h1 : ∃ p ∈ ps, Lv L p) : Lv (L + 1) (.ei ps) := ⟨.ei h2 (by omega) fun p hp => by
    obtain ⟨l, _, h⟩ := h p hp
    exact h.ok, by rw [Tr.dp, dp_parts h h1], fun d => by
  cases d with
  | zero => exact (decide_eq_false (by omega)).symm
  | succ d => show (decide (ps.length ≤ 20) && ps.all (isB d)) = _; rw [is_parts hl h h1]; exact decide_eq_decide.mpr (by omega)⟩
theorem Lv.th {ps : List Tr} (h2 : 2 ≤ ps.length) (hl : ps.length ≤ 20) (h : ∀ p ∈ ps, ∃ l, l ≤ L ∧ Lv l p) (h1 : ∃ p ∈ ps, Lv L p) (h4 : ∀ p ∈ ps, p.isTh = false ∧ p ≠ .dd []) (h5 : ∀ (i : Nat) (v w : List Nat), ps[i]? = some (.dd v) → ps[i + 1]? ≠ some (.dd w)) : Lv (L + 1) (.th ps) := ⟨.th h2 (by omega) (fun p hp => by
    obtain ⟨l, _, h⟩ := h p hp
    exact h.ok) h4 h5, by rw [Tr.dp, dp_parts h h1], fun d => by
  cases d with
  | zero => exact (decide_eq_false (by omega)).symm
  | succ d => show (decide (ps.length ≤ 20) && ps.all (isB d)) = _; rw [is_parts hl h h1]; exact decide_eq_decide.mpr (by omega)⟩
structure AskN (KK : PySem.W.Frag) (C0 C1 C2 C3 C4 C5 C6 C7 C8 C9 C10 C11 C12 C13 C14 C15 C16 CX : Addr) : Prop where
  xf : XFld KK (.ref CX) "tag"
  e1 : PySem.W.exmAny KK (.ref CX) [.ref C5, .ref C6, .ref C7, .ref C9, .ref C15] = some false
  e2 : PySem.W.exmAny KK (.ref CX) [.ref C1, .ref C3, .ref C12] = some false
  e3 : PySem.W.exmAny KK (.ref CX) [.ref C2, .ref C13] = some false
  e4 : PySem.W.exmAny KK (.ref CX) [.ref C4, .ref C11] = some false
  e5 : PySem.W.exmOne KK (.ref CX) (.ref C8) = some false
  e6 : PySem.W.exmOne KK (.ref CX) (.ref C10) = some false
  e7 : PySem.W.exmOne KK (.ref CX) (.ref C14) = some false
  e8 : PySem.W.exmAny KK (.ref CX) [.ref C0, .ref C16] = some true
section
variable {ds : List D} {kd : KD} {kx : KX} {Γ : Ga} {tl : TL} {i n : Nat} {t' ta tb tj : TP} {P : PEn} {u v w own : List Nat} {d e : D} {s r : TSp} {KK : PySem.W.Frag} {C0 C1 C2 C3 C4 C5 C6 C7 C8 C9 C10 C11 C12 C13 C14 C15 C16 CX CT : Addr}
local instance : Tabl := ⟨[], fun p hp => absurd hp (by simp)⟩
theorem treeSo_ok' (A1 : AskN KK C0 C1 C2 C3 C4 C5 C6 C7 C8 C9 C10 C11 C12 C13 C14 C15 C16 CX) (A2 : AskN KK C0 C1 C2 C3 C4 C5 C6 C7 C8 C9 C10 C11 C12 C13 C14 C15 C16 CT) :
    fsTreeSo ds kd kx → m_law_tree_so KK C0 C1 C2 C3 C4 C5 C6 C7 C8 C9 C10 C11 C12 C13 C14 C15 C16 (fsReadS CX) (fsScriptText CT) (fsSame 16) fsIsTree1 ds kd kx := by
  rintro ⟨t, ⟨rfl, ht, hd, hs⟩, h⟩
  let G : Ga := [.pu t.dat, .pu (.str (scT t)), .pu (.bl (isB 12 t)), .un, .un]
  have is : Ev (tpCall 1 fsIsTree1 (tlCons (tpVar 0) tlNil)) G (.bl (isB 12 t)) := ev_call (evl_1 (ev_var rfl)) rfl fun k kx z => ⟨t, ⟨rfl, ht, hd⟩, z⟩
  have p0 : Ev (tpVar 0) (purify G) t.dat := ev_var (pur_pu rfl)
  have p1 : Ev (tpVar 1) (purify G) (.str (scT t)) := ev_var (pur_pu rfl)
  have l3 : ∀ {a b c : D}, [a, b, c].length ≤ 100000 := fun {a b c} => by show 3 ≤ 100000; decide
  have l2 : ∀ {a b : D}, [a, b].length ≤ 100000 := fun {a b} => by show 2 ≤ 100000; decide
  cases e : isB 12 t with
  | true =>
    rw [show G = [.pu t.dat, .pu (.str (scT t)), .pu (.bl true), .un, .un] by show [_, _, Sl.pu (.bl (isB 12 t)), _, _] = _; rw [e]] at is p0 p1
    let G : Ga := [.pu t.dat, .pu (.str (scT t)), .pu (.bl true), .un, .un]
    have rd := askedM_val (Γ := G) (KK := KK) (C0 := C0) (C1 := C1) (C2 := C2) (C3 := C3) (C4 := C4) (C5 := C5) (C6 := C6) (C7 := C7) (C8 := C8) (C9 := C9) (C10 := C10) (C11 := C11) (C12 := C12) (C13 := C13) (C14 := C14) (C15 := C15) (C16 := C16) (ev_call (f := fsReadS CX) (evl_1 p1) rfl fun k kx z => ⟨t, ⟨rfl, ht, hd, hs⟩, fun _ => z, fun q => by rw [e] at q; cases q⟩)
    have sc := askedM_val (Γ := G) (KK := KK) (C0 := C0) (C1 := C1) (C2 := C2) (C3 := C3) (C4 := C4) (C5 := C5) (C6 := C6) (C7 := C7) (C8 := C8) (C9 := C9) (C10 := C10) (C11 := C11) (C12 := C12) (C13 := C13) (C14 := C14) (C15 := C15) (C16 := C16) (ev_call (f := fsScriptText CT) (evl_1 p0) rfl fun k kx z => ⟨t, ⟨rfl, ht, hd, hs⟩, fun _ => z, fun q => by rw [e] at q; cases q⟩)
    rw [e] at is
    refine st_set (Γ := G) (ev_lst (evl_3 is rd sc) l3) ?_
    let F : D := .lst [.bl true, .tup [.str [], t.dat], .tup [.str [], .str (scT t)]]
    let G1 : Ga := [.pu t.dat, .pu (.str (scT t)), .pu (.bl true), .pu F, .un]
    have v2 : Ev (tpVar 2) G1 (.bl true) := ev_var rfl
    refine st_set (Γ := G1) (ev_lst (evl_3 v2 (ev_tup (evl_2 (ev_c _) (ev_var (i := 0) rfl)) l2) (ev_tup (evl_2 (ev_c _) (ev_var (i := 1) rfl)) l2)) l3) ?_
    let G2 : Ga := [.pu t.dat, .pu (.str (scT t)), .pu (.bl true), .pu F, .pu F]
    have v22 : Ev (tpVar 2) G2 (.bl true) := ev_var rfl
    refine st_ifN (Γ := G2) (evb_not (evb_v v22)) ?_
    have lt := isB_dp e
    have so : okS 15 F := ⟨l3, trivial, ⟨l2, okS_s 13 (Nat.zero_le _) rfl, okS_t ht 13 (by omega), trivial⟩, ⟨l2, okS_s 13 (Nat.zero_le _) rfl, okS_s 13 (by have := hs.hz; omega) hs.pl, trivial⟩, trivial⟩
    exact st_ret (Γ := G2) (ev_call (evl_2 (ev_var (i := 3) rfl) (ev_var (i := 4) rfl)) rfl fun k kx z => ⟨rfl, so, z⟩) h
  | false =>
    rw [show G = [.pu t.dat, .pu (.str (scT t)), .pu (.bl false), .un, .un] by show [_, _, Sl.pu (.bl (isB 12 t)), _, _] = _; rw [e]] at is p0 p1
    let G : Ga := [.pu t.dat, .pu (.str (scT t)), .pu (.bl false), .un, .un]
    have rx : EvX (tpCall 1 (fsReadS CX) (tlCons (tpVar 1) tlNil)) (purify G) (xText CX) := fun k kx z => evl_1 p1 _ _ ⟨rfl, t, ⟨rfl, ht, hd, hs⟩, (fun q => by rw [e] at q; cases q), fun _ => z⟩
    have sx : EvX (tpCall 1 (fsScriptText CT) (tlCons (tpVar 0) tlNil)) (purify G) (xTree CT) := fun k kx z => evl_1 p0 _ _ ⟨rfl, t, ⟨rfl, ht, hd, hs⟩, (fun q => by rw [e] at q; cases q), fun _ => z⟩
    have rd := askedM_none A1.xf A1.e1 A1.e2 A1.e3 A1.e4 A1.e5 A1.e6 A1.e7 A1.e8 rx
    have sc := askedM_none A2.xf A2.e1 A2.e2 A2.e3 A2.e4 A2.e5 A2.e6 A2.e7 A2.e8 sx
    have q1 : ("InvalidText" : PySem.Str).cps.toList = [73, 110, 118, 97, 108, 105, 100, 84, 101, 120, 116] := by decide
    have q2 : ("InvalidTree" : PySem.Str).cps.toList = [73, 110, 118, 97, 108, 105, 100, 84, 114, 101, 101] := by decide
    rw [q1] at rd
    rw [q2] at sc
    rw [e] at is
    refine st_set (Γ := G) (ev_lst (evl_3 is rd sc) l3) ?_
    let F : D := .lst [.bl false, .tup [.str [73, 110, 118, 97, 108, 105, 100, 84, 101, 120, 116], .non], .tup [.str [73, 110, 118, 97, 108, 105, 100, 84, 114, 101, 101], .non]]
    let G1 : Ga := [.pu t.dat, .pu (.str (scT t)), .pu (.bl false), .pu F, .un]
    have v2 : Ev (tpVar 2) G1 (.bl false) := ev_var rfl
    refine st_set (Γ := G1) (ev_lst (evl_3 v2 (ev_tup (evl_2 (ev_c _) (ev_var (i := 0) rfl)) l2) (ev_tup (evl_2 (ev_c _) (ev_var (i := 1) rfl)) l2)) l3) ?_
    let G2 : Ga := [.pu t.dat, .pu (.str (scT t)), .pu (.bl false), .pu F, .pu (.lst [.bl false, .tup [.str [], t.dat], .tup [.str [], .str (scT t)]])]
    have v22 : Ev (tpVar 2) G2 (.bl false) := ev_var rfl
    refine st_ifT (Γ := G2) (evb_not (evb_v v22)) (st_set1 (Γ := G2) (ev_lst (evl_3 v22 (ev_tup (evl_2 (ev_c _) (ev_c _)) l2) (ev_tup (evl_2 (ev_c _) (ev_c _)) l2)) l3) ?_)
    let G3 : Ga := [.pu t.dat, .pu (.str (scT t)), .pu (.bl false), .pu F, .pu F]
    have so : okS 15 F := ⟨l3, trivial, ⟨l2, okS_s 13 (by decide) rfl, trivial, trivial⟩, ⟨l2, okS_s 13 (by decide) rfl, trivial, trivial⟩, trivial⟩
    exact st_ret (Γ := G3) (ev_call (evl_2 (ev_var (i := 3) rfl) (ev_var (i := 4) rfl)) rfl fun k kx z => ⟨rfl, so, z⟩) h
end
section
variable {ds : List D} {kd : KD} {kx : KX} {Γ : Ga} {tl : TL} {i n : Nat} {t' ta tb tj : TP} {P : PEn} {u v w own : List Nat} {d e : D} {s r : TSp}
local instance : Tabl := ⟨[], fun p hp => absurd hp (by simp)⟩
theorem evl_4L {a b c d : D} {t1 t2 t3 t4 : TP} (h1 : Ev t1 Γ a) (h2 : Ev t2 Γ b) (h3 : Ev t3 Γ c) (h4 : Ev t4 Γ d) : EvL (tlCons t1 (tlCons t2 (tlCons t3 (tlCons t4 tlNil)))) Γ [a, b, c, d] := evl_cons h1 (evl_3 h2 h3 h4)
theorem st_parN {is : List Nat} {L : List D → Prop} {r : TSp} (h : EvNL tl Γ L) (g : ∀ ds, L ds → ∃ Γ', stores is ds Γ = some Γ' ∧ r P Γ') : tsSeq (tsPar is tl) r P Γ := h _ _ fun ds hd => by
  obtain ⟨G, e, q⟩ := g ds hd
  show (match stores is ds Γ with | some Γ' => r P Γ' | none => False)
  rw [e]
  exact q
abbrev wC : TB := (tbV (tpOp fLt (tpVar 11) (tpVar 12)))
abbrev wB : TSp := (tsSeq (tsSet 13 (tpCall 2 fsPick (tlCons (tpVar 1) (tlCons (tpLst (tlCons (tpC (.str [116, 105, 109, 101, 115])) (tlCons (tpC (.str [97, 103, 97, 105, 110])) (tlCons (tpC (.str [116, 104, 101, 110])) (tlCons (tpC (.str [101, 105, 116, 104, 101, 114])) tlNil))))) tlNil))))
    (tsSeq (tsIf (tbAnd (tbV (tpOp fEq (tpVar 13) (tpC (.str [116, 104, 101, 110])))) (tbV (tpOp (fInD true) (tpOp fIx (tpVar 10) (tpC (.int 0))) (tpTup (tlCons (tpC (.str [116, 104, 101, 110])) (tlCons (tpC (.str [100, 101, 101, 100, 115])) tlNil))))))
    (tsSet 10 (tpCall 2 fsPick (tlCons (tpVar 1) (tlCons (tpLst (tlCons (tpTup (tlCons (tpC (.str [116, 104, 101, 110])) (tlCons (tpTup (tlCons (tpC (.str [110, 97, 109, 101])) (tlCons (tpC (.str [65])) tlNil))) (tlCons (tpVar 10) tlNil)))) (tlCons (tpTup (tlCons (tpC (.str [116, 104, 101, 110])) (tlCons (tpVar 10) (tlCons (tpTup (tlCons (tpC (.str [100, 101, 101, 100, 115])) (tlCons (tpC (.str [97])) tlNil))) tlNil)))) tlNil))) tlNil))))
    (tsIf (tbV (tpOp fEq (tpVar 13) (tpC (.str [101, 105, 116, 104, 101, 114]))))
    (tsSet 10 (tpCall 2 fsPick (tlCons (tpVar 1) (tlCons (tpLst (tlCons (tpTup (tlCons (tpC (.str [101, 105, 116, 104, 101, 114])) (tlCons (tpTup (tlCons (tpC (.str [100, 101, 101, 100, 115])) (tlCons (tpC (.str [])) tlNil))) (tlCons (tpVar 10) tlNil)))) (tlCons (tpTup (tlCons (tpC (.str [101, 105, 116, 104, 101, 114])) (tlCons (tpVar 10) (tlCons (tpTup (tlCons (tpC (.str [110, 97, 109, 101])) (tlCons (tpC (.str [66])) tlNil))) (tlCons (tpVar 10) tlNil))))) tlNil))) tlNil))))
    (tsIf (tbV (tpOp fEq (tpVar 13) (tpC (.str [97, 103, 97, 105, 110]))))
    (tsSet 10 (tpTup (tlCons (tpC (.str [97, 103, 97, 105, 110])) (tlCons (tpVar 10) tlNil))))
    (tsSet 10 (tpTup (tlCons (tpC (.str [116, 105, 109, 101, 115])) (tlCons (tpVar 10) (tlCons (tpCall 2 fsPick (tlCons (tpVar 1) (tlCons (tpLst (tlCons (tpC (.int 0)) (tlCons (tpC (.int 7)) (tlCons (tpOp fPow (tpC (.int 10)) (tpC (.int 30))) tlNil)))) tlNil))) tlNil))))))))
    (tsSeq (tsSet 11 (tpOp fAdd (tpVar 11) (tpC (.int 1))))
    (tsIf (tbV (tpOp fGt (tp1 fLenS (tpCall 1 (fsTextOf 16) (tlCons (tpVar 10) tlNil))) (tpC (.int 900))))
    (tsRet (tpC (.bl true)))
    tsNext))))
abbrev fin : TSp := (tsIf (tbNot (tbV (tpCall 3 fsTreeSo (tlCons (tpVar 10) (tlCons (tpCall 1 (fsTextOf 16) (tlCons (tpVar 10) tlNil)) (tlCons (tpOp fLe (tpVar 11) (tpC (.int 12))) tlNil))))))
    (tsRet (tpC (.bl false)))
    tsNext)
abbrev bod : TSp := (tsSeq (tsSet 3 (tpCall 2 fsPick (tlCons (tpVar 1) (tlCons (tpLst (tlCons (tpC (.int 20)) (tlCons (tpC (.int 21)) (tlCons (tpC (.int 2)) (tlCons (tpOp fAdd (tpC (.int 19)) (tpCall 2 fsPull (tlCons (tpVar 1) (tlCons (tpC (.int 4)) tlNil)))) tlNil))))) tlNil))))
    (tsSeq (tsSet 4 (tpLc [5] (tiRng1 (tlCons (tpVar 3) tlNil)) (tgName 5) tbYes (tpTup (tlCons (tpC (.str [110, 97, 109, 101])) (tlCons (tpCall 1 fsNameS (tlCons (tpVar 1) tlNil)) tlNil)))))
    (tsSeq (tsSet 6 (tpCall 2 fsPick (tlCons (tpVar 1) (tlCons (tpLst (tlCons (tpC (.str [116, 104, 101, 110])) (tlCons (tpC (.str [101, 105, 116, 104, 101, 114])) tlNil))) tlNil))))
    (tsSeq (tsSet 7 (tp1 fTup (tpOp fAdd (tpLst (tlCons (tpVar 6) tlNil)) (tpVar 4))))
    (tsSeq (tsSet 8 (tpJoin (tpIf (tbV (tpOp fEq (tpVar 6) (tpC (.str [116, 104, 101, 110])))) (tpC (.str [46])) (tpC (.str [124]))) (tpLc [9] (tiLst (tpVar 4)) (tgName 9) tbYes (tpOp fIx (tpVar 9) (tpC (.int 1))))))
    (tsSeq (tsSet 8 (tpIf (tbV (tpOp fEq (tpVar 6) (tpC (.str [116, 104, 101, 110])))) (tpVar 8) (tpOp fAdd (tpOp fAdd (tpC (.str [40])) (tpVar 8)) (tpC (.str [41])))))
    (tsSeq (tsIf (tbNot (tbV (tpCall 3 fsTreeSo (tlCons (tpVar 7) (tlCons (tpVar 8) (tlCons (tpOp fLe (tpVar 3) (tpC (.int 20))) tlNil))))))
    (tsRet (tpC (.bl false)))
    tsNext)
    (tsSeq (tsPar [10, 11] (tlCons (tpTup (tlCons (tpC (.str [100, 101, 101, 100, 115])) (tlCons (tpCall 2 fsPick (tlCons (tpVar 1) (tlCons (tpLst (tlCons (tpC (.str [97])) (tlCons (tpC (.str [])) (tlCons (tpC (.str [98, 97])) tlNil)))) tlNil))) tlNil))) (tlCons (tpC (.int 1)) tlNil)))
    (tsSeq (tsSet 12 (tpCall 2 fsPick (tlCons (tpVar 1) (tlCons (tpLst (tlCons (tpC (.int 12)) (tlCons (tpC (.int 13)) (tlCons (tpOp fAdd (tpC (.int 11)) (tpCall 2 fsPull (tlCons (tpVar 1) (tlCons (tpC (.int 4)) tlNil)))) tlNil)))) tlNil))))
    (tsSeq (tsWhile wC wB)
    fin))))))))))
abbrev rest : TSp := (tsSeq (tsSet 14 (tp1 fTup (tpOp fAdd (tpLst (tlCons (tpC (.str [101, 105, 116, 104, 101, 114])) tlNil)) (tpOp fMul (tpLst (tlCons (tpTup (tlCons (tpC (.str [100, 101, 101, 100, 115])) (tlCons (tpC (.str [97])) tlNil))) tlNil)) (tpC (.int 20))))))
    (tsRet (tpCall 3 fsTreeSo (tlCons (tpTup (tlCons (tpC (.str [116, 105, 109, 101, 115])) (tlCons (tpVar 14) (tlCons (tpOp fPow (tpC (.int 10)) (tpC (.int 30))) tlNil)))) (tlCons (tpCall 1 (fsTextOf 16) (tlCons (tpTup (tlCons (tpC (.str [116, 105, 109, 101, 115])) (tlCons (tpVar 14) (tlCons (tpOp fPow (tpC (.int 10)) (tpC (.int 30))) tlNil)))) tlNil)) (tlCons (tpC (.bl true)) tlNil))))))
abbrev Gl (s2 s3 s4 s5 s6 s7 s8 s9 s10 s11 s12 s13 s14 : Sl) : Ga := [.pu .scr, .pu .bag, s2, s3, s4, s5, s6, s7, s8, s9, s10, s11, s12, s13, s14]
theorem ev_script {te : TP} {t : Tr} {L : Nat} (h : Ev te Γ t.dat) (hl : Lv L t) (hL : L ≤ 16) (hz : (scT t).length ≤ 20000) : Ev (tpCall 1 (fsTextOf 16) (tlCons te tlNil)) Γ (.str (scT t)) := ev_call (evl_1 h) rfl fun k kx z => ⟨t, ⟨rfl, hl.ok, by rw [hl.dp]; exact hL, ⟨hz, sc_lt hl.ok⟩⟩, z⟩
theorem ev_treeSo {te ts tb : TP} {t : Tr} {b : Bool} (h : Ev te Γ t.dat) (g : Ev ts Γ (.str (scT t))) (f : Ev tb Γ (.bl b)) (e : b = isB 12 t) (ok : OkT t) (hd : t.dp ≤ 40) (hz : (scT t).length ≤ 20000) : Ev (tpCall 3 fsTreeSo (tlCons te (tlCons ts (tlCons tb tlNil)))) Γ (.bl true) := ev_call (evl_3 h g f) rfl fun k kx z => ⟨t, ⟨by rw [e], ok, hd, ⟨hz, sc_lt ok⟩⟩, z⟩
theorem ev_notIn2 {w : List Nat} (h : Ev t' Γ (.str w)) (hw : D.plain (.str w) = true) : Ev (tpOp (fInD true) t' (tpTup (tlCons (tpC (.str wTHE)) (tlCons (tpC (.str DDS)) tlNil)))) Γ (.bl (!(decide (wTHE = w) || decide (DDS = w)))) :=
  ev_op h (ev_tup (evl_2 (ev_c _) (ev_c _)) (by show 2 ≤ 100000; decide)) fun k z => ⟨⟨hw, rfl, by show 0 ≤ 8; decide⟩, by
    have : ([D.str wTHE, .str DDS].any fun z => eqD z (.str w)) = (decide (wTHE = w) || decide (DDS = w)) := by
      show (eqD (.str wTHE) (.str w) || (eqD (.str DDS) (.str w) || false)) = _
      rw [eqD_str, eqD_str, Bool.or_false]
    show k (.bl (true != _))
    rw [this]
    cases q : (decide (wTHE = w) || decide (DDS = w)) <;> (rw [q] at z; exact z)⟩
theorem ti_len (t : Tr) {n : Nat} (h : n ≤ 10 ^ 30) : (scT (.ti t n)).length ≤ (scT t).length + 34 := by
  have := wr_len t
  have := numL_30 h
  rw [sc_ti, List.length_append, List.length_cons]
  omega
theorem ag_len (t : Tr) : (scT (.ag t)).length ≤ (scT t).length + 4 := by
  have := wr_len t
  rw [sc_ag, List.length_append]
  show _ + 2 ≤ _
  omega
/-- the deep tree grows -/
theorem wh_all {s2 s3 s4 s5 s6 s7 s8 s9 s14 : Sl} {M : Nat} (hM : M ≤ 14) (hr : P.rt (.bl true) = (fun _ => True) ∨ ∀ Γ, P.rt (.bl true) Γ) (hk : ∀ (t : Tr) s13, Lv M t → (scT t).length ≤ 900 → P.nx (Gl s2 s3 s4 s5 s6 s7 s8 s9 (.pu t.dat) (.pu (.int (M : Nat))) (.pu (.int (M : Nat))) s13 s14)) :
    ∀ (r L : Nat) (t : Tr) (s13 : Sl), L + r = M → Lv L t → (scT t).length ≤ 900 → whW wC wB P (r + 1) (Gl s2 s3 s4 s5 s6 s7 s8 s9 (.pu t.dat) (.pu (.int (L : Nat))) (.pu (.int (M : Nat))) s13 s14)
  | 0, L, t, s13, e, hL, hz => by
    obtain rfl : L = M := by omega
    have lt := ev_ltI (Γ := Gl s2 s3 s4 s5 s6 s7 s8 s9 (.pu t.dat) (.pu (.int (L : Nat))) (.pu (.int (L : Nat))) s13 s14) (ev_var (i := 11) rfl) (ev_var (i := 12) rfl)
    rw [decide_eq_false (by omega)] at lt
    exact wh_no (evb_v lt) (hk t s13 hL hz)
  | r + 1, L, t, s13, e, hL, hz => by
    have rt : ∀ Γ, P.rt (.bl true) Γ := fun Γ => by
      rcases hr with h | h
      · rw [h]; trivial
      · exact h Γ
    have lt := ev_ltI (Γ := Gl s2 s3 s4 s5 s6 s7 s8 s9 (.pu t.dat) (.pu (.int (L : Nat))) (.pu (.int (M : Nat))) s13 s14) (ev_var (i := 11) rfl) (ev_var (i := 12) rfl)
    rw [decide_eq_true (by omega)] at lt
    refine wh_go2 (evb_v lt) ?_
    have two : ∀ {a b : D}, [a, b].length ≤ 100000 := fun {a b} => by show 2 ≤ 100000; decide
    have three : ∀ {a b c : D}, [a, b, c].length ≤ 100000 := fun {a b c} => by show 3 ≤ 100000; decide
    have next : ∀ (t' : Tr) (s13 : Sl), Lv (L + 1) t' → (scT t').length ≤ 3000 →
        tsSeq (tsSet 11 (tpOp fAdd (tpVar 11) (tpC (.int 1)))) (tsIf (tbV (tpOp fGt (tp1 fLenS (tpCall 1 (fsTextOf 16) (tlCons (tpVar 10) tlNil))) (tpC (.int 900)))) (tsRet (tpC (.bl true))) tsNext)
          { P with nx := whW wC wB P (r + 1), ct := whW wC wB P (r + 1), bk := P.nx } (Gl s2 s3 s4 s5 s6 s7 s8 s9 (.pu t'.dat) (.pu (.int (L : Nat))) (.pu (.int (M : Nat))) s13 s14) := fun t' s13 hl hz' => by
      refine st_set (Γ := Gl s2 s3 s4 s5 s6 s7 s8 s9 (.pu t'.dat) (.pu (.int (L : Nat))) (.pu (.int (M : Nat))) s13 s14) (ev_addI (ev_var (i := 11) (d := .int (L : Nat)) rfl) (ev_c (.int 1))) ?_
      let G2 : Ga := Gl s2 s3 s4 s5 s6 s7 s8 s9 (.pu t'.dat) (.pu (.int ((L : Nat) + 1))) (.pu (.int (M : Nat))) s13 s14
      have ln := ev_lenS (ev_script (Γ := G2) (te := tpVar 10) (ev_var rfl) hl (by omega) (by omega)) (Nat.le_trans hz' (by decide))
      have gt := ev_gtI ln (ev_c (.int 900))
      refine st_if1B (Γ := G2) (evb_v gt) (fun _ => st_ret (ev_c _) (rt _)) (fun e2 => ?_)
      have e2 : ¬ (900 : Int) < ((scT t').length : Nat) := by simpa using e2
      have ih := wh_all hM hr hk r (L + 1) t' s13 (by omega) hl (by omega)
      rw [show ((L + 1 : Nat) : Int) = (L : Nat) + 1 by omega] at ih
      exact ih
    let G : Ga := Gl s2 s3 s4 s5 s6 s7 s8 s9 (.pu t.dat) (.pu (.int (L : Nat))) (.pu (.int (M : Nat))) s13 s14
    refine st_setN (Γ := G) (evn_pick (l := [.str wTIM, .str wAGA, .str wTHE, .str wEIT]) (ev_var (i := 1) rfl) (ev_lst (evl_4L (ev_c _) (ev_c _) (ev_c _) (ev_c _)) (by show 4 ≤ 100000; decide)) (by simp) (by show 4 ≤ 100000; decide)) fun d hd => ?_
    obtain ⟨w, rfl, hw⟩ : ∃ w, d = .str w ∧ w ∈ [wTIM, wAGA, wTHE, wEIT] := by
      simp only [List.mem_cons, List.not_mem_nil, or_false] at hd
      rcases hd with rfl | rfl | rfl | rfl <;> exact ⟨_, rfl, by simp⟩
    have wp : D.plain (.str w) = true := by
      simp only [List.mem_cons, List.not_mem_nil, or_false] at hw
      rcases hw with rfl | rfl | rfl | rfl <;> rfl
    let G1 : Ga := Gl s2 s3 s4 s5 s6 s7 s8 s9 (.pu t.dat) (.pu (.int (L : Nat))) (.pu (.int (M : Nat))) (.pu (.str w)) s14
    have vb : Ev (tpVar 1) G1 .bag := ev_var rfl
    have v10 : Ev (tpVar 10) G1 t.dat := ev_var rfl
    have v13 : Ev (tpVar 13) G1 (.str w) := ev_var rfl
    have isT := ev_eqS v13 (ev_c (.str wTHE)) wp rfl
    have isE := ev_eqS v13 (ev_c (.str wEIT)) wp rfl
    have isA := ev_eqS v13 (ev_c (.str wAGA)) wp rfl
    have ni := ev_notIn2 (ev_w v10) (w_plain t)
    have hp := hL.pos
    have nA : Ev (tpTup (tlCons (tpC (.str wNAM)) (tlCons (tpC (.str [65])) tlNil))) G1 (Tr.nm [65]).dat := by rw [dat_eq (.nm _)]; exact ev_tup (evl_2 (ev_c _) (ev_c _)) two
    have nB : Ev (tpTup (tlCons (tpC (.str wNAM)) (tlCons (tpC (.str [66])) tlNil))) G1 (Tr.nm [66]).dat := by rw [dat_eq (.nm _)]; exact ev_tup (evl_2 (ev_c _) (ev_c _)) two
    have da : Ev (tpTup (tlCons (tpC (.str DDS)) (tlCons (tpC (.str [97])) tlNil))) G1 (Tr.dd [97]).dat := by rw [dat_eq (.dd _)]; exact ev_tup (evl_2 (ev_c _) (ev_c _)) two
    have d0 : Ev (tpTup (tlCons (tpC (.str DDS)) (tlCons (tpC (.str [])) tlNil))) G1 (Tr.dd []).dat := by rw [dat_eq (.dd _)]; exact ev_tup (evl_2 (ev_c _) (ev_c _)) two
    have lA : Lv 1 (.nm [65]) := .nm (by decide) (by decide) (by decide)
    have lB : Lv 1 (.nm [66]) := .nm (by decide) (by decide) (by decide)
    have la : Lv 1 (.dd [97]) := .dd (by decide) (by decide)
    have l0 : Lv 1 (.dd []) := .dd (by decide) (by decide)
    have in2 : ∀ {a b : Tr}, Lv 1 a → Lv L b → (∀ p ∈ [a, b], ∃ l, l ≤ L ∧ Lv l p) ∧ (∃ p ∈ [a, b], Lv L p) := fun {a b} h1 h2 => ⟨fun p hp' => by
      simp only [List.mem_cons, List.not_mem_nil, or_false] at hp'
      rcases hp' with rfl | rfl
      · exact ⟨1, hp, h1⟩
      · exact ⟨L, Nat.le_refl _, h2⟩, b, by simp, h2⟩
    have in2' : ∀ {a b : Tr}, Lv L a → Lv 1 b → (∀ p ∈ [a, b], ∃ l, l ≤ L ∧ Lv l p) ∧ (∃ p ∈ [a, b], Lv L p) := fun {a b} h2 h1 => ⟨fun p hp' => by
      simp only [List.mem_cons, List.not_mem_nil, or_false] at hp'
      rcases hp' with rfl | rfl
      · exact ⟨L, Nat.le_refl _, h2⟩
      · exact ⟨1, hp, h1⟩, a, by simp, h2⟩
    by_cases cT : w = wTHE ∧ (decide (wTHE = t.w) || decide (DDS = t.w)) = false
    · obtain ⟨rfl, cw⟩ := cT
      rw [cw] at ni
      have cw := Bool.or_eq_false_iff.mp cw
      have nth : t.isTh = false := by
        rw [← w_th]
        exact decide_eq_false fun z => of_decide_eq_false cw.1 z.symm
      have ndd : ∀ v, t ≠ .dd v := fun v z => by
        rw [z] at cw
        exact of_decide_eq_false cw.2 rfl
      refine st_ifT (Γ := G1) (evb_andT (evb_v isT) (evb_v ni)) ?_
      have a1 : Ev (tpTup (tlCons (tpC (.str wTHE)) (tlCons (tpTup (tlCons (tpC (.str wNAM)) (tlCons (tpC (.str [65])) tlNil))) (tlCons (tpVar 10) tlNil)))) G1 (Tr.th [.nm [65], t]).dat := by rw [dat_eq (.th _)]; exact ev_tup (evl_3 (ev_c _) nA v10) three
      have a2 : Ev (tpTup (tlCons (tpC (.str wTHE)) (tlCons (tpVar 10) (tlCons (tpTup (tlCons (tpC (.str DDS)) (tlCons (tpC (.str [97])) tlNil))) tlNil)))) G1 (Tr.th [t, .dd [97]]).dat := by rw [dat_eq (.th _)]; exact ev_tup (evl_3 (ev_c _) v10 da) three
      refine st_set1N (Γ := G1) (evn_pick vb (ev_lst (evl_2 a1 a2) two) (by simp) two) fun d hd => ?_
      simp only [List.mem_cons, List.not_mem_nil, or_false] at hd
      rcases hd with rfl | rfl
      · refine next (.th [.nm [65], t]) _ (.th (by show 2 ≤ 2; decide) (by show 2 ≤ 20; decide) (in2 lA hL).1 (in2 lA hL).2 (fun p hp' => ?_) (fun i v w h => ?_)) ?_
        · simp only [List.mem_cons, List.not_mem_nil, or_false] at hp'
          rcases hp' with rfl | rfl
          · exact ⟨rfl, fun z => nomatch z⟩
          · exact ⟨nth, ndd _⟩
        · match i, h with
          | 1, h => exact absurd (Option.some.inj h) (ndd v)
        · rw [sc_th, scS_tail, scS_cons, scS, sc_nm, List.append_nil]
          simp only [List.length_cons, List.length_append, List.length_nil]
          omega
      · refine next (.th [t, .dd [97]]) _ (.th (by show 2 ≤ 2; decide) (by show 2 ≤ 20; decide) (in2' hL la).1 (in2' hL la).2 (fun p hp' => ?_) (fun i v w h => ?_)) ?_
        · simp only [List.mem_cons, List.not_mem_nil, or_false] at hp'
          rcases hp' with rfl | rfl
          · exact ⟨nth, ndd _⟩
          · exact ⟨rfl, fun z => nomatch z⟩
        · match i, h with
          | 0, h => exact absurd (Option.some.inj h) (ndd v)
          | 1, h => exact fun z => nomatch z
        · rw [sc_th, scS_tail, scS_cons, scS, sc_dd, List.append_nil, if_neg (by simp)]
          simp only [List.length_cons, List.length_append, List.length_nil]
          omega
    · have c0 : EvB (tbAnd (tbV (tpOp fEq (tpVar 13) (tpC (.str wTHE)))) (tbV (tpOp (fInD true) (tpOp fIx (tpVar 10) (tpC (.int 0))) (tpTup (tlCons (tpC (.str wTHE)) (tlCons (tpC (.str DDS)) tlNil)))))) G1 false := by
        by_cases e1 : w = wTHE
        · rw [decide_eq_true e1] at isT
          have : (decide (wTHE = t.w) || decide (DDS = t.w)) = true := by
            cases q : (decide (wTHE = t.w) || decide (DDS = t.w)) with
            | true => rfl
            | false => exact absurd ⟨e1, q⟩ cT
          rw [this] at ni
          exact evb_andT (evb_v isT) (evb_v ni)
        · rw [decide_eq_false e1] at isT
          exact evb_andF (evb_v isT)
      refine st_ifF (Γ := G1) c0 ?_
      refine st_if1B (Γ := G1) (evb_v isE) (fun e1 => ?_) (fun e1 => ?_)
      · have a1 : Ev (tpTup (tlCons (tpC (.str wEIT)) (tlCons (tpTup (tlCons (tpC (.str DDS)) (tlCons (tpC (.str [])) tlNil))) (tlCons (tpVar 10) tlNil)))) G1 (Tr.ei [.dd [], t]).dat := by rw [dat_eq (.ei _)]; exact ev_tup (evl_3 (ev_c _) d0 v10) three
        have a2 : Ev (tpTup (tlCons (tpC (.str wEIT)) (tlCons (tpVar 10) (tlCons (tpTup (tlCons (tpC (.str wNAM)) (tlCons (tpC (.str [66])) tlNil))) (tlCons (tpVar 10) tlNil))))) G1 (Tr.ei [t, .nm [66], t]).dat := by rw [dat_eq (.ei _)]; exact ev_tup (evl_4L (ev_c _) v10 nB v10) (by show 4 ≤ 100000; decide)
        refine st_set1N (Γ := G1) (evn_pick vb (ev_lst (evl_2 a1 a2) two) (by simp) two) fun d hd => ?_
        simp only [List.mem_cons, List.not_mem_nil, or_false] at hd
        rcases hd with rfl | rfl
        · refine next (.ei [.dd [], t]) _ (.ei (by show 2 ≤ 2; decide) (by show 2 ≤ 20; decide) (in2 l0 hL).1 (in2 l0 hL).2) ?_
          rw [sc_ei, scS_tail, scS_cons, scS, sc_dd, List.append_nil, if_pos rfl]
          simp only [List.length_cons, List.length_append, List.length_nil]
          omega
        · refine next (.ei [t, .nm [66], t]) _ (.ei (by show 2 ≤ 3; decide) (by show 3 ≤ 20; decide) (fun p hp' => ?_) ⟨t, by simp, hL⟩) ?_
          · simp only [List.mem_cons, List.not_mem_nil, or_false] at hp'
            rcases hp' with rfl | rfl | rfl
            · exact ⟨L, Nat.le_refl _, hL⟩
            · exact ⟨1, hp, lB⟩
            · exact ⟨L, Nat.le_refl _, hL⟩
          · rw [sc_ei, scS_tail, scS_cons, scS_cons, scS, sc_nm, List.append_nil]
            simp only [List.length_cons, List.length_append, List.length_nil]
            omega
      · refine st_if1B (Γ := G1) (evb_v isA) (fun e2 => ?_) (fun e2 => ?_)
        · refine st_set1 (Γ := G1) (d := (Tr.ag t).dat) (by rw [dat_eq (.ag _)]; exact ev_tup (evl_2 (ev_c _) v10) two) (next (.ag t) _ hL.ag ?_)
          have := ag_len t
          omega
        · have pw : Ev (tpOp fPow (tpC (.int 10)) (tpC (.int 30))) G1 (.int ((10 ^ 30 : Nat) : Nat)) := ev_op (ev_c _) (ev_c _) fun k z => ⟨⟨by decide, by decide, by decide⟩, z⟩
          have pk := evn_pick vb (ev_lst (evl_3 (ev_c (.int ((0 : Nat) : Nat))) (ev_c (.int ((7 : Nat) : Nat))) pw) three) (by simp) three
          refine st_set1N (Γ := G1) (A := fun d => ∃ n : Nat, n ≤ 10 ^ 30 ∧ d = (Tr.ti t n).dat) (evn_imp (evn_tup (evnl_cons (evn (ev_c _)) (evnl_cons (evn v10) (evnl_cons pk evnl_nil))) fun ds hd => ?_) fun d hd => ?_) fun d ⟨n, hn, e3⟩ => ?_
          · obtain ⟨_, _, _, ⟨_, _, _, ⟨_, _, _, rfl, rfl⟩, rfl⟩, rfl⟩ := hd
            exact three
          · obtain ⟨_, ⟨_, _, rfl, ⟨_, _, rfl, ⟨x, _, hx, rfl, rfl⟩, rfl⟩, rfl⟩, rfl⟩ := hd
            simp only [List.mem_cons, List.not_mem_nil, or_false] at hx
            rcases hx with rfl | rfl | rfl
            · exact ⟨0, by decide, by rw [dat_eq (.ti _ _)]; rfl⟩
            · exact ⟨7, by decide, by rw [dat_eq (.ti _ _)]; rfl⟩
            · exact ⟨10 ^ 30, Nat.le_refl _, by rw [dat_eq (.ti _ _)]; rfl⟩
          · subst e3
            refine next (.ti t n) _ (hL.ti hn) ?_
            have := ti_len t hn
            omega
end
section
variable {ds : List D} {kd : KD} {kx : KX} {Γ : Ga} {tl : TL} {i n : Nat} {t' ta tb tj : TP} {P : PEn} {u v w own : List Nat} {d e : D} {s r : TSp}
local instance : Tabl := ⟨[], fun p hp => absurd hp (by simp)⟩
theorem ev_joinE {w : List Nat} {l : List (List Nat)} (hs : Ev ta Γ (.str w)) (h : Ev tb Γ (.lst (l.map .str))) (hz : l.flatten.length + l.length * w.length ≤ 16777216) : Ev (tpJoin ta tb) Γ (.str (TL.joinL w l)) := fun k kx z => hs _ _ (h _ _ (by
  show onSs (l.map D.str) _
  rw [onSs_map]
  refine ⟨?_, z⟩
  show (l.map (·.length)).sum + l.length * w.length ≤ 16777216
  rw [← List.length_flatten]
  exact hz))
structure NmOk (s : List Nat) : Prop where
  h1 : 1 ≤ s.length
  h2 : s.length ≤ 6
  h3 : ∀ c ∈ s, c ∈ CAP
theorem nms_of : ∀ {ys : List D}, (∀ y ∈ ys, ∃ s, NmOk s ∧ y = (Tr.nm s).dat) → ∃ ns : List (List Nat), (∀ s ∈ ns, NmOk s) ∧ ys = ns.map fun s => (Tr.nm s).dat
  | [], _ => ⟨[], fun _ z => (nomatch z), rfl⟩
  | y :: r, h => by
    obtain ⟨ns, h1, h2⟩ := nms_of fun z hz => h z (List.mem_cons_of_mem _ hz)
    obtain ⟨s, h3, h4⟩ := h y List.mem_cons_self
    refine ⟨s :: ns, fun d hd => ?_, by rw [h4, h2]; rfl⟩
    rcases List.mem_cons.mp hd with rfl | hd
    · exact h3
    · exact h1 d hd
/-- a wide tree of names -/
def wideT (th : Bool) (ns : List (List Nat)) : Tr := if th = true then .th (ns.map .nm) else .ei (ns.map .nm)
theorem wide_ok {th : Bool} {ns : List (List Nat)} (hn : ∀ s ∈ ns, NmOk s) (h2 : 2 ≤ ns.length) (hz : ns.length ≤ 30) : OkT (wideT th ns) := by
  have a : ∀ p ∈ ns.map Tr.nm, ∃ s, s ∈ ns ∧ p = .nm s := fun p hp => by
    obtain ⟨s, h, rfl⟩ := List.mem_map.mp hp
    exact ⟨s, h, rfl⟩
  have ok : ∀ p ∈ ns.map Tr.nm, OkT p := fun p hp => by
    obtain ⟨s, h, rfl⟩ := a p hp
    exact .nm (hn s h).h1 (hn s h).h2 (hn s h).h3
  unfold wideT
  cases th with
  | true =>
    rw [if_pos rfl]
    refine .th (by rw [List.length_map]; exact h2) (by rw [List.length_map]; omega) ok (fun p hp => ?_) fun i v w h => ?_
    · obtain ⟨s, h, rfl⟩ := a p hp
      exact ⟨rfl, fun z => nomatch z⟩
    · obtain ⟨s, _, e⟩ := a _ (List.mem_of_getElem? h)
      cases e
  | false =>
    rw [if_neg Bool.false_ne_true]
    exact .ei (by rw [List.length_map]; exact h2) (by rw [List.length_map]; omega) ok
theorem wide_is {th : Bool} {ns : List (List Nat)} : isB 12 (wideT th ns) = decide (ns.length ≤ 20) := by
  have al : (ns.map Tr.nm).all (isB 11) = true := by
    rw [List.all_eq_true]
    intro p hp
    obtain ⟨s, h, rfl⟩ := List.mem_map.mp hp
    rfl
  unfold wideT
  cases th with
  | true =>
    rw [if_pos rfl]
    show (decide ((ns.map Tr.nm).length ≤ 20) && (ns.map Tr.nm).all (isB 11)) = _
    rw [al, Bool.and_true, List.length_map]
  | false =>
    rw [if_neg Bool.false_ne_true]
    show (decide ((ns.map Tr.nm).length ≤ 20) && (ns.map Tr.nm).all (isB 11)) = _
    rw [al, Bool.and_true, List.length_map]
theorem wide_dp {th : Bool} {ns : List (List Nat)} : (wideT th ns).dp ≤ 40 := by
  have : dpL (ns.map Tr.nm) ≤ 1 := dpL_of fun p hp => by
    obtain ⟨s, h, rfl⟩ := List.mem_map.mp hp
    rw [Tr.dp]
    omega
  unfold wideT
  cases th with
  | true => rw [if_pos rfl, Tr.dp]; omega
  | false => rw [if_neg Bool.false_ne_true, Tr.dp]; omega
theorem nms_len {c : Nat} : ∀ {ns : List (List Nat)}, (∀ s ∈ ns, NmOk s) → (scS c (ns.map .nm)).length ≤ 7 * ns.length
  | [], _ => by rw [List.map_nil, scS]; exact Nat.zero_le _
  | s :: r, h => by
    have ih := nms_len (c := c) fun x hx => h x (List.mem_cons_of_mem _ hx)
    have := (h s List.mem_cons_self).h2
    rw [List.map_cons, scS_cons, sc_nm, List.length_cons, List.length_append, List.length_cons]
    omega
theorem wide_len {th : Bool} {ns : List (List Nat)} (hn : ∀ s ∈ ns, NmOk s) (hz : ns.length ≤ 30) : (scT (wideT th ns)).length ≤ 300 := by
  have a := nms_len (c := 46) hn
  have b := nms_len (c := 124) hn
  unfold wideT
  cases th with
  | true => rw [if_pos rfl, sc_th, List.length_tail]; omega
  | false => rw [if_neg Bool.false_ne_true, sc_ei, List.length_cons, List.length_append, List.length_tail]; show _ + 1 + 1 ≤ _; omega
theorem two {a b : D} : [a, b].length ≤ 100000 := by show 2 ≤ 100000; decide
end
end K71
set_option Elab.async false
set_option linter.all false
set_option maxRecDepth 100000
set_option maxHeartbeats 4000000
namespace K71
open PySem L2 PL
section
variable {ds : List D} {kd : KD} {kx : KX} {Γ : Ga} {tl : TL} {i n : Nat} {t' ta tb tj : TP} {P : PEn} {u v w own : List Nat} {d e : D} {s r : TSp}
local instance : Tabl := ⟨[], fun p hp => absurd hp (by simp)⟩
theorem body_ok {s2 s3 s4 s5 s6 s7 s8 s9 s10 s11 s12 s13 s14 : Sl} (hr : ∀ Γ, P.rt (.bl true) Γ) (hk : ∀ s3 s4 s5 s6 s7 s8 s9 s10 s11 s12 s13, P.nx (Gl s2 s3 s4 s5 s6 s7 s8 s9 s10 s11 s12 s13 s14)) : bod P (Gl s2 s3 s4 s5 s6 s7 s8 s9 s10 s11 s12 s13 s14) := by
  let G0 : Ga := Gl s2 s3 s4 s5 s6 s7 s8 s9 s10 s11 s12 s13 s14
  have pk : ∀ {Γ : Ga} {a b : Nat} {l : List Nat}, gat Γ 1 = .pu .bag → EvN (tpOp fAdd (tpC (.int (a : Nat))) (tpCall 2 fsPull (tlCons (tpVar 1) (tlCons (tpC (.int 4)) tlNil)))) Γ (fun d => ∃ m : Nat, (a ≤ m ∧ m ≤ a + 3) ∧ d = .int (m : Nat)) := fun {Γ a b l} g => evn_op (evn (ev_c _)) (evn_pull (ev_var g) (ev_c _) (by decide) (by decide)) fun x y hx ⟨r, r0, r1, hy⟩ k z => by
    subst hx hy
    exact z _ ⟨(a + r).toNat, ⟨by omega, by omega⟩, by congr 1; omega⟩
  -- how many
  have many : EvN (tpCall 2 fsPick (tlCons (tpVar 1) (tlCons (tpLst (tlCons (tpC (.int 20)) (tlCons (tpC (.int 21)) (tlCons (tpC (.int 2)) (tlCons (tpOp fAdd (tpC (.int 19)) (tpCall 2 fsPull (tlCons (tpVar 1) (tlCons (tpC (.int 4)) tlNil)))) tlNil))))) tlNil))) G0 (fun d => ∃ m : Nat, (2 ≤ m ∧ m ≤ 22) ∧ d = .int (m : Nat)) := by
    refine evn_pickN (ev_var rfl) (evn_lst (evnl_cons (evn (ev_c (.int 20))) (evnl_cons (evn (ev_c (.int 21))) (evnl_cons (evn (ev_c (.int 2))) (evnl_cons (pk (a := 19) (b := 0) (l := []) rfl) evnl_nil)))) fun ds hd => ?_) fun d hd => ?_
    · obtain ⟨_, _, _, ⟨_, _, _, ⟨_, _, _, ⟨_, _, _, rfl, rfl⟩, rfl⟩, rfl⟩, rfl⟩ := hd
      show 4 ≤ 100000
      decide
    · obtain ⟨_, ⟨_, _, rfl, ⟨_, _, rfl, ⟨_, _, rfl, ⟨_, _, ⟨m, hm, rfl⟩, rfl, rfl⟩, rfl⟩, rfl⟩, rfl⟩, rfl⟩ := hd
      refine ⟨_, rfl, by simp, by show 4 ≤ 100000; decide, fun y hy => ?_⟩
      simp only [List.mem_cons, List.not_mem_nil, or_false] at hy
      rcases hy with rfl | rfl | rfl | rfl
      · exact ⟨20, ⟨by decide, by decide⟩, rfl⟩
      · exact ⟨21, ⟨by decide, by decide⟩, rfl⟩
      · exact ⟨2, ⟨by decide, by decide⟩, rfl⟩
      · exact ⟨m, ⟨by omega, by omega⟩, rfl⟩
  refine st_setN (Γ := G0) many fun d ⟨m, hm, e⟩ => ?_
  subst e
  let G1 : Ga := Gl s2 (.pu (.int (m : Nat))) s4 s5 s6 s7 s8 s9 s10 s11 s12 s13 s14
  have rg : EvNL (tiRng1 (tlCons (tpVar 3) tlNil)) G1 (fun ds => ds.length = m) := fun kk kx z => evl_rg1 (Γ := G1) (ev_var (i := 3) rfl) (by omega) kk kx (z _ (by
    show (natsD 0 m).length = m
    unfold natsD
    rw [List.length_map, List.length_range']))
  have lc := evn_lc (is := [5]) (i := 5) (te := tpTup (tlCons (tpC (.str wNAM)) (tlCons (tpCall 1 fsNameS (tlCons (tpVar 1) tlNil)) tlNil))) (B := fun d => ∃ s, NmOk s ∧ d = (Tr.nm s).dat) rg (fun ds hd => by omega) fun x => evn_imp (evn_tup (evnl_cons (evn (ev_c _)) (evnl_cons (A := fun d => ∃ s, NmOk s ∧ d = .str s) (evn_call (evnl (evl_1 (ev_var rfl))) fun ds hd => by
    subst hd
    exact ⟨rfl, fun k kx z s h1 h2 h3 => z _ ⟨s, ⟨h1, h2, h3⟩, rfl⟩⟩) evnl_nil)) fun ds hd => by
      obtain ⟨_, _, _, ⟨_, _, _, rfl, rfl⟩, rfl⟩ := hd
      exact two) fun d hd => by
    obtain ⟨_, ⟨_, _, rfl, ⟨_, _, ⟨s, hs, rfl⟩, rfl, rfl⟩, rfl⟩, rfl⟩ := hd
    exact ⟨s, hs, by rw [dat_eq]; rfl⟩
  refine st_setN (Γ := G1) lc fun d ⟨items, ys, hi, hy, hb, e⟩ => ?_
  obtain ⟨ns, hn, rfl⟩ := nms_of hb
  subst e
  have ln : ns.length = m := by rw [List.length_map] at hy; omega
  let NS : D := .lst (ns.map fun s => (Tr.nm s).dat)
  let G2 : Ga := Gl s2 (.pu (.int (m : Nat))) (.pu NS) s5 s6 s7 s8 s9 s10 s11 s12 s13 s14
  refine st_setN (Γ := G2) (evn_pick (l := [.str wTHE, .str wEIT]) (ev_var rfl) (ev_lst (evl_2 (ev_c _) (ev_c _)) two) (by simp) two) fun d hd => ?_
  obtain ⟨th, rfl⟩ : ∃ th : Bool, d = .str (if th = true then wTHE else wEIT) := by
    simp only [List.mem_cons, List.not_mem_nil, or_false] at hd
    rcases hd with rfl | rfl
    · exact ⟨true, rfl⟩
    · exact ⟨false, rfl⟩
  let W : List Nat := if th = true then wTHE else wEIT
  let G3 : Ga := Gl s2 (.pu (.int (m : Nat))) (.pu NS) s5 (.pu (.str W)) s7 s8 s9 s10 s11 s12 s13 s14
  have wt : (wideT th ns).dat = .tup (.str W :: ns.map fun s => (Tr.nm s).dat) := by
    unfold wideT
    cases th with
    | true => rw [if_pos rfl, dat_eq]; show D.tup (.str wTHE :: (ns.map Tr.nm).map Tr.dat) = _; rw [List.map_map]; rfl
    | false => rw [if_neg Bool.false_ne_true, dat_eq]; show D.tup (.str wEIT :: (ns.map Tr.nm).map Tr.dat) = _; rw [List.map_map]; rfl
  have big : 30000 ≤ sizeLine := by decide
  refine st_set (Γ := G3) (d := (wideT th ns).dat) (by
    rw [wt]
    exact ev_fTup (ev_addL (ev_lst (evl_1 (ev_var (i := 6) rfl)) (by show 1 ≤ 100000; decide)) (ev_var (i := 4) (d := NS) rfl) (by rw [List.length_map]; show 1 + _ ≤ _; omega))) ?_
  let G4 : Ga := Gl s2 (.pu (.int (m : Nat))) (.pu NS) s5 (.pu (.str W)) (.pu (wideT th ns).dat) s8 s9 s10 s11 s12 s13 s14
  have isW : ∀ {Γ : Ga}, gat Γ 6 = .pu (.str W) → Ev (tpOp fEq (tpVar 6) (tpC (.str wTHE))) Γ (.bl th) := fun {Γ} g => by
    have := ev_eqS (ev_var g) (ev_c (.str wTHE)) (by cases th <;> rfl) rfl
    have e : decide (W = wTHE) = th := by cases th <;> decide
    rwa [e] at this
  let S : List Nat := if th = true then [46] else [124]
  have sep : Ev (tpIf (tbV (tpOp fEq (tpVar 6) (tpC (.str [116, 104, 101, 110])))) (tpC (.str [46])) (tpC (.str [124]))) G4 (.str S) := by
    have := ev_ifB (ta := tpC (.str [46])) (tb := tpC (.str [124])) (d := .str [46]) (e := .str [124]) (evb_v (isW (Γ := G4) rfl)) (fun _ => ev_c _) fun _ => ev_c _
    cases th <;> exact this
  have lcn := ev_lcA (Γ := G4) (is := [9]) (i := 9) (te := tpOp fIx (tpVar 9) (tpC (.int 1))) (items := ns) (pa := fun s => (Tr.nm s).dat) (f := fun s => .str s) (evl_tiLst (t := tpVar 4) (ev_var rfl)) (by omega) fun s hs => by
    refine ev_1of (s := wNAM) (l := []) ?_
    have : Ev (tpVar 9) (gset (wipeG G4 [9]) 9 (.pu (Tr.nm s).dat)) (Tr.nm s).dat := ev_var rfl
    rw [dat_eq] at this
    rw [dat_eq]
    exact this
  have fl : ns.flatten.length ≤ 6 * ns.length := by
    have : ∀ l : List (List Nat), (∀ s ∈ l, NmOk s) → l.flatten.length ≤ 6 * l.length := fun l => by
      induction l with
      | nil => exact fun _ => Nat.zero_le _
      | cons a r ih =>
        intro h
        have := ih fun x hx => h x (List.mem_cons_of_mem _ hx)
        have := (h a List.mem_cons_self).h2
        rw [List.flatten_cons, List.length_append, List.length_cons]
        omega
    exact this ns hn
  have sl : S.length = 1 := by cases th <;> rfl
  have jn := ev_joinE sep lcn (by rw [sl]; omega)
  have je : ∀ c : Nat, TL.joinL [c] ns = (scS c (ns.map .nm)).tail := fun c => by
    rw [← join_sc, List.map_map]
    congr 1
    have : (scT ∘ Tr.nm) = id := funext fun s => sc_nm s
    rw [this, List.map_id]
  refine st_set (Γ := G4) jn ?_
  let G5 : Ga := Gl s2 (.pu (.int (m : Nat))) (.pu NS) s5 (.pu (.str W)) (.pu (wideT th ns).dat) (.pu (.str (TL.joinL S ns))) s9 s10 s11 s12 s13 s14
  have wl := wide_len (th := th) hn (by omega)
  have v8 : Ev (tpVar 8) G5 (.str (TL.joinL S ns)) := ev_var rfl
  have txt : Ev (tpIf (tbV (tpOp fEq (tpVar 6) (tpC (.str [116, 104, 101, 110])))) (tpVar 8) (tpOp fAdd (tpOp fAdd (tpC (.str [40])) (tpVar 8)) (tpC (.str [41])))) G5 (.str (scT (wideT th ns))) := by
    have is := isW (Γ := G5) rfl
    unfold wideT at wl ⊢
    cases th with
    | true =>
      rw [if_pos rfl, sc_th, ← je 46]
      exact ev_ifT (evb_v is) v8
    | false =>
      rw [if_neg Bool.false_ne_true, sc_ei, ← je 124] at wl ⊢
      rw [List.length_cons, List.length_append] at wl
      have wl : (TL.joinL S ns).length + 1 + 1 ≤ 300 := wl
      exact ev_ifF (evb_v is) (ev_addS (ev_addS (ev_c (.str [40])) v8 (by show 1 + _ ≤ _; omega)) (ev_c (.str [41])) (by rw [List.length_append]; show 1 + _ + 1 ≤ _; omega))
  refine st_set (Γ := G5) txt ?_
  let G6 : Ga := Gl s2 (.pu (.int (m : Nat))) (.pu NS) s5 (.pu (.str W)) (.pu (wideT th ns).dat) (.pu (.str (scT (wideT th ns)))) s9 s10 s11 s12 s13 s14
  have le20 := ev_leI (Γ := G6) (ev_var (i := 3) (d := .int (m : Nat)) rfl) (ev_c (.int 20))
  have so := ev_treeSo (Γ := G6) (t := wideT th ns) (te := tpVar 7) (ts := tpVar 8) (ev_var rfl) (ev_var rfl) le20 (by rw [wide_is, ln]; exact decide_eq_decide.mpr (by omega)) (wide_ok hn (by omega) (by omega)) wide_dp (by omega)
  refine st_ifN (Γ := G6) (evb_not (evb_v so)) ?_
  have pd := evn_pick (Γ := G6) (tb := tpVar 1) (l := [.str [97], .str [], .str [98, 97]]) (ev_var rfl) (ev_lst (evl_3 (ev_c _) (ev_c _) (ev_c _)) (by show 3 ≤ 100000; decide)) (by simp) (by show 3 ≤ 100000; decide)
  refine st_parN (Γ := G6) (L := fun ds => ∃ v : List Nat, v ∈ [[97], [], [98, 97]] ∧ ds = [(Tr.dd v).dat, .int 1]) (fun k kx z => evnl_cons (evn_tup (evnl_cons (evn (ev_c _)) (evnl_cons pd evnl_nil)) fun ds hd => by
    obtain ⟨_, _, _, ⟨_, _, _, rfl, rfl⟩, rfl⟩ := hd
    exact two) (evnl_cons (evn (ev_c _)) evnl_nil) k kx fun ds hd => z ds (by
    obtain ⟨_, _, ⟨_, ⟨_, _, rfl, ⟨x, _, hx, rfl, rfl⟩, rfl⟩, rfl⟩, ⟨_, _, rfl, rfl, rfl⟩, rfl⟩ := hd
    simp only [List.mem_cons, List.not_mem_nil, or_false] at hx
    rcases hx with rfl | rfl | rfl
    · exact ⟨[97], by simp, by rw [dat_eq]; rfl⟩
    · exact ⟨[], by simp, by rw [dat_eq]; rfl⟩
    · exact ⟨[98, 97], by simp, by rw [dat_eq]; rfl⟩)) fun ds ⟨v, hv, e⟩ => ?_
  subst e
  refine ⟨_, rfl, ?_⟩
  let G7 : Ga := Gl s2 (.pu (.int (m : Nat))) (.pu NS) s5 (.pu (.str W)) (.pu (wideT th ns).dat) (.pu (.str (scT (wideT th ns)))) s9 (.pu (Tr.dd v).dat) (.pu (.int 1)) s12 s13 s14
  have most : EvN (tpCall 2 fsPick (tlCons (tpVar 1) (tlCons (tpLst (tlCons (tpC (.int 12)) (tlCons (tpC (.int 13)) (tlCons (tpOp fAdd (tpC (.int 11)) (tpCall 2 fsPull (tlCons (tpVar 1) (tlCons (tpC (.int 4)) tlNil)))) tlNil)))) tlNil))) G7 (fun d => ∃ m : Nat, (11 ≤ m ∧ m ≤ 14) ∧ d = .int (m : Nat)) := by
    refine evn_pickN (ev_var rfl) (evn_lst (evnl_cons (evn (ev_c (.int 12))) (evnl_cons (evn (ev_c (.int 13))) (evnl_cons (pk (a := 11) (b := 0) (l := []) rfl) evnl_nil))) fun ds hd => ?_) fun d hd => ?_
    · obtain ⟨_, _, _, ⟨_, _, _, ⟨_, _, _, rfl, rfl⟩, rfl⟩, rfl⟩ := hd
      show 3 ≤ 100000
      decide
    · obtain ⟨_, ⟨_, _, rfl, ⟨_, _, rfl, ⟨_, _, ⟨m, hm, rfl⟩, rfl, rfl⟩, rfl⟩, rfl⟩, rfl⟩ := hd
      refine ⟨_, rfl, by simp, by show 3 ≤ 100000; decide, fun y hy => ?_⟩
      simp only [List.mem_cons, List.not_mem_nil, or_false] at hy
      rcases hy with rfl | rfl | rfl
      · exact ⟨12, ⟨by decide, by decide⟩, rfl⟩
      · exact ⟨13, ⟨by decide, by decide⟩, rfl⟩
      · exact ⟨m, ⟨by omega, by omega⟩, rfl⟩
  refine st_setN (Γ := G7) most fun d ⟨M, hM, e⟩ => ?_
  subst e
  have dv : (∀ c ∈ v, c ∈ LET) ∧ (scT (.dd v)).length ≤ 900 ∧ v.length ≤ 3000 := by
    rw [sc_dd]
    simp only [List.mem_cons, List.not_mem_nil, or_false] at hv
    rcases hv with rfl | rfl | rfl <;> exact ⟨by decide, by decide, by decide⟩
  let G9 : Ga := Gl s2 (.pu (.int (m : Nat))) (.pu NS) s5 (.pu (.str W)) (.pu (wideT th ns).dat) (.pu (.str (scT (wideT th ns)))) s9 (.pu (Tr.dd v).dat) (.pu (.int ((1 : Nat) : Nat))) (.pu (.int (M : Nat))) s13 s14
  show tsSeq (tsWhile wC wB) fin P G9
  refine st_while (Γ := G9) (r := fin) (M - 1 + 1) ?_
  refine wh_all (P := { P with nx := fin P }) (M := M) (s2 := s2) (s3 := .pu (.int (m : Nat))) (s4 := .pu NS) (s5 := s5) (s6 := .pu (.str W)) (s7 := .pu (wideT th ns).dat) (s8 := .pu (.str (scT (wideT th ns)))) (s9 := s9) (s14 := s14) hM.2 (.inr hr) (fun t s13 hL hz => ?_) (M - 1) 1 (.dd v) s13 (by omega) (.dd dv.1 dv.2.2) dv.2.1
  let G8 : Ga := Gl s2 (.pu (.int (m : Nat))) (.pu NS) s5 (.pu (.str W)) (.pu (wideT th ns).dat) (.pu (.str (scT (wideT th ns)))) s9 (.pu t.dat) (.pu (.int (M : Nat))) (.pu (.int (M : Nat))) s13 s14
  have le12 := ev_leI (Γ := G8) (ev_var (i := 11) (d := .int (M : Nat)) rfl) (ev_c (.int 12))
  have so2 := ev_treeSo (Γ := G8) (t := t) (te := tpVar 10) (ev_var rfl) (ev_script (ev_var (i := 10) rfl) hL (by omega) (by omega)) le12 (by rw [hL.is]; exact decide_eq_decide.mpr (by omega)) hL.ok (by rw [hL.dp]; omega) (by omega)
  show fin P G8
  exact st_if1F (Γ := G8) (evb_not (evb_v so2)) (hk _ _ _ _ _ _ _ _ _ _ _)
theorem loop_ok {s14 : Sl} (hr : ∀ Γ, P.rt (.bl true) Γ) (hk : ∀ s2 s3 s4 s5 s6 s7 s8 s9 s10 s11 s12 s13, P.nx (Gl s2 s3 s4 s5 s6 s7 s8 s9 s10 s11 s12 s13 s14)) : ∀ (l : List D) (s2 s3 s4 s5 s6 s7 s8 s9 s10 s11 s12 s13 : Sl), forW (tgName 2) bod P l (Gl s2 s3 s4 s5 s6 s7 s8 s9 s10 s11 s12 s13 s14)
  | [], _, _, _, _, _, _, _, _, _, _, _, _ => hk _ _ _ _ _ _ _ _ _ _ _ _
  | d :: r, _, s3, s4, s5, s6, s7, s8, s9, s10, s11, s12, s13 => for_cons (body_ok (P := { P with nx := forW (tgName 2) bod P r, ct := forW (tgName 2) bod P r, bk := P.nx }) hr fun _ _ _ _ _ _ _ _ _ _ _ => loop_ok hr hk r _ _ _ _ _ _ _ _ _ _ _ _)
theorem wide20 : Lv 2 (.ei (List.replicate 20 (.dd [97]))) := by
  have l1 : Lv 1 (.dd [97]) := .dd (by decide) (by decide)
  exact .ei (by decide) (by decide) (fun p hp => ⟨1, Nat.le_refl _, (List.mem_replicate.mp hp).2 ▸ l1⟩) ⟨_, List.mem_replicate.mpr ⟨by decide, rfl⟩, l1⟩
theorem law_ok' : fsLaw ds kd kx → m_law fsStart fsPick fsPull fsNameS fsTreeSo (fsTextOf 16) ds kd kx := by
  intro h0
  match ds, h0 with
  | [.scr], h =>
    have start : Ev (tpCall 1 fsStart (tlCons (tpVar 0) tlNil)) [.pu .scr, .un, .un, .un, .un, .un, .un, .un, .un, .un, .un, .un, .un, .un, .un] .bag := ev_call (evl_1 (ev_var rfl)) rfl fun k kx z => z
    refine st_set start ?_
    refine st_for (Γ := Gl .un .un .un .un .un .un .un .un .un .un .un .un .un) (s := bod) (evl_rg1 (b := 4) (ev_c (.int 4)) (by decide)) (loop_ok (P := { fEnds kd kx with nx := rest (fEnds kd kx) }) (fun Γ => h) (fun s2 s3 s4 s5 s6 s7 s8 s9 s10 s11 s12 s13 => ?_) _ _ _ _ _ _ _ _ _ _ _ _ _)
    let G : Ga := Gl s2 s3 s4 s5 s6 s7 s8 s9 s10 s11 s12 s13 .un
    let T : Tr := .ei (List.replicate 20 (.dd [97]))
    show rest (fEnds kd kx) G
    have ta : Ev (tpTup (tlCons (tpC (.str DDS)) (tlCons (tpC (.str [97])) tlNil))) G (Tr.dd [97]).dat := by rw [dat_eq]; exact ev_tup (evl_2 (ev_c _) (ev_c _)) two
    have ml := ev_mulL (ev_lst (evl_1 ta) (by show 1 ≤ 100000; decide)) (ev_c (.int 20)) (by decide) (by decide) (by decide)
    have wd : T.dat = .tup (.str wEIT :: (List.replicate 20 [(Tr.dd [97]).dat]).flatten) := by
      rw [dat_eq]
      show D.tup (.str wEIT :: (List.replicate 20 (Tr.dd [97])).map Tr.dat) = _
      rw [List.map_replicate]
      rfl
    refine st_set (Γ := G) (d := T.dat) (by
      rw [wd]
      exact ev_fTup (ev_addL (ev_lst (evl_1 (ev_c _)) (by show 1 ≤ 100000; decide)) ml (by decide))) ?_
    let G2 : Ga := Gl s2 s3 s4 s5 s6 s7 s8 s9 s10 s11 s12 s13 (.pu T.dat)
    have pw : Ev (tpOp fPow (tpC (.int 10)) (tpC (.int 30))) G2 (.int ((10 ^ 30 : Nat) : Nat)) := ev_op (ev_c _) (ev_c _) fun k z => ⟨⟨by decide, by decide, by decide⟩, z⟩
    have tt : Ev (tpTup (tlCons (tpC (.str wTIM)) (tlCons (tpVar 14) (tlCons (tpOp fPow (tpC (.int 10)) (tpC (.int 30))) tlNil)))) G2 (Tr.ti T (10 ^ 30)).dat := by
      rw [dat_eq (.ti _ _)]
      exact ev_tup (evl_3 (ev_c _) (ev_var rfl) pw) (by show 3 ≤ 100000; decide)
    have lv : Lv 3 (.ti T (10 ^ 30)) := wide20.ti (Nat.le_refl _)
    have ln : (scT (.ti T (10 ^ 30))).length ≤ 900 := by
      have := ti_len T (Nat.le_refl (10 ^ 30))
      have e : (scT T).length = 41 := by
        show (scT (.ei (List.replicate 20 (.dd [97])))).length = 41
        rw [sc_ei, List.length_cons, List.length_append, List.length_tail, ← flat_sc]
        have : (List.replicate 20 (Tr.dd [97])).map scT = List.replicate 20 [97] := by
          rw [List.map_replicate, sc_dd]
          rfl
        rw [this]
        decide
      omega
    exact st_ret (Γ := G2) (ev_treeSo tt (ev_script tt lv (by decide) (by omega)) (ev_c (.bl true)) (by rw [lv.is]; rfl) lv.ok (by rw [lv.dp]; decide) (by omega)) h
end
end K71
set_option Elab.async false
set_option linter.all false
set_option maxRecDepth 100000
set_option maxHeartbeats 8000000
namespace K71
open PySem L2 PL
abbrev s_law_start : Stmt := top 42
theorem sc_law_start : FnScope ["_law_script_here"] ["_law_script_here"] (defScope s_law_start) := ⟨rfl, rfl, rfl, by decide +kernel, rfl, by decide +kernel, by decide +kernel⟩
section
variable {P : Program} {w : World} {K : PySem.W.Frag} {mg : PySem.Str → Option Value} {base : Heap} {C : Cls}
theorem ok_law_start [Tabl] {f : Addr} {fd : FuncData} (F : Fun K "_law_start" "_law_start" s_law_start f fd) (T : Txt P K mg C) : FnOk P w K mg base (L2.CX P w) (0 + 1) f fd ["_law_script_here"] (spOf K 1 fsStart) :=
  start_ok F sc_law_start rfl fun cdv A outer s H E => pss_one (ps_ret (pe_lst (pa_cons (pe_callTy call_list_of (by rfl) T.b_list (by decide +kernel) (pa_cons (pe_slice sl_list (pv 0) po_none (po_some pe_int)) pa_nil)) (pa_cons pe_int (pa_cons pe_int (pa_cons (pe_op op_add pe_int (pe_callB call_len (by rfl) T.b_len (by decide +kernel) (pa_cons (pv 0) pa_nil))) pa_nil))))))
end
theorem xtext_InvalidText : PySem.ExcX.XText0 (inClass (top 6) 0) "InvalidText" :=
  ⟨⟨_, rfl⟩, ⟨_, _, _, _, _, _, _, _, _, _, rfl, fun env => ⟨_, rfl⟩⟩, rfl, fun _ _ _ _ _ _ _ _ _ _ => rfl⟩
theorem xtext_InvalidTree : PySem.ExcX.XText0 (inClass (top 7) 0) "InvalidTree" :=
  ⟨⟨_, rfl⟩, ⟨_, _, _, _, _, _, _, _, _, _, rfl, fun env => ⟨_, rfl⟩⟩, rfl, fun _ _ _ _ _ _ _ _ _ _ => rfl⟩
theorem all_mk {l : PySem.W.OpenLaw} {w : World} {K : PySem.W.Frag} {h : Heap} {mg : PySem.Str → Option Value} {fa : Addr} (KX : K.In h) (G : h.Ns mainGlobals mg) (hfa : mg "law" = some (.ref fa))
    {C_Reader : Addr} {f_is_number : Addr} {oc_is_number kV_is_number dc_is_number pm_is_number cd_is_number ct_is_number : Value} {od_is_number an_is_number : Option Addr} {sl_is_number : Array (Option Value)} {f_is_within : Addr} {oc_is_within kV_is_within dc_is_within pm_is_within cd_is_within ct_is_within : Value} {od_is_within an_is_within : Option Addr} {sl_is_within : Array (Option Value)} {f_is_log : Addr} {oc_is_log kV_is_log dc_is_log pm_is_log cd_is_log ct_is_log : Value} {od_is_log an_is_log : Option Addr} {sl_is_log : Array (Option Value)} {f_is_name : Addr} {oc_is_name kV_is_name dc_is_name pm_is_name cd_is_name ct_is_name : Value} {od_is_name an_is_name : Option Addr} {sl_is_name : Array (Option Value)} {f_is_row : Addr} {oc_is_row kV_is_row dc_is_row pm_is_row cd_is_row ct_is_row : Value} {od_is_row an_is_row : Option Addr} {sl_is_row : Array (Option Value)} {f_is_tree dT_is_tree : Addr} {oc_is_tree kV_is_tree dc_is_tree pm_is_tree cd_is_tree ct_is_tree dtc_is_tree : Value} {od_is_tree an_is_tree dtd_is_tree : Option Addr} {sl_is_tree dts_is_tree : Array (Option Value)} {dtn_is_tree : Nat} {dtt_is_tree : Tok} {f_need_tree : Addr} {oc_need_tree kV_need_tree dc_need_tree pm_need_tree cd_need_tree ct_need_tree : Value} {od_need_tree an_need_tree : Option Addr} {sl_need_tree : Array (Option Value)} {f_text_of : Addr} {oc_text_of kV_text_of dc_text_of pm_text_of cd_text_of ct_text_of : Value} {od_text_of an_text_of : Option Addr} {sl_text_of : Array (Option Value)} {f_script_text : Addr} {oc_script_text kV_script_text dc_script_text pm_script_text cd_script_text ct_script_text : Value} {od_script_text an_script_text : Option Addr} {sl_script_text : Array (Option Value)} {f_Reader___init__ : Addr} {oc_Reader___init__ kV_Reader___init__ dc_Reader___init__ pm_Reader___init__ cd_Reader___init__ ct_Reader___init__ : Value} {od_Reader___init__ an_Reader___init__ : Option Addr} {sl_Reader___init__ : Array (Option Value)} {f_Reader_run : Addr} {oc_Reader_run kV_Reader_run dc_Reader_run pm_Reader_run cd_Reader_run ct_Reader_run : Value} {od_Reader_run an_Reader_run : Option Addr} {sl_Reader_run : Array (Option Value)} {f_Reader_passed : Addr} {oc_Reader_passed kV_Reader_passed dc_Reader_passed pm_Reader_passed cd_Reader_passed ct_Reader_passed : Value} {od_Reader_passed an_Reader_passed : Option Addr} {sl_Reader_passed : Array (Option Value)} {f_Reader_atom : Addr} {oc_Reader_atom kV_Reader_atom dc_Reader_atom pm_Reader_atom cd_Reader_atom ct_Reader_atom : Value} {od_Reader_atom an_Reader_atom : Option Addr} {sl_Reader_atom : Array (Option Value)} {f_Reader_powers : Addr} {oc_Reader_powers kV_Reader_powers dc_Reader_powers pm_Reader_powers cd_Reader_powers ct_Reader_powers : Value} {od_Reader_powers an_Reader_powers : Option Addr} {sl_Reader_powers : Array (Option Value)} {f_Reader_row : Addr} {oc_Reader_row kV_Reader_row dc_Reader_row pm_Reader_row cd_Reader_row ct_Reader_row : Value} {od_Reader_row an_Reader_row : Option Addr} {sl_Reader_row : Array (Option Value)} {f_read_script : Addr} {oc_read_script kV_read_script dc_read_script pm_read_script cd_read_script ct_read_script : Value} {od_read_script an_read_script : Option Addr} {sl_read_script : Array (Option Value)} {f_law_pull : Addr} {oc_law_pull kV_law_pull dc_law_pull pm_law_pull cd_law_pull ct_law_pull : Value} {od_law_pull an_law_pull : Option Addr} {sl_law_pull : Array (Option Value)} {f_law_pick : Addr} {oc_law_pick kV_law_pick dc_law_pick pm_law_pick cd_law_pick ct_law_pick : Value} {od_law_pick an_law_pick : Option Addr} {sl_law_pick : Array (Option Value)} {f_law_name : Addr} {oc_law_name kV_law_name dc_law_name pm_law_name cd_law_name ct_law_name : Value} {od_law_name an_law_name : Option Addr} {sl_law_name : Array (Option Value)} {f_law_asked : Addr} {oc_law_asked kV_law_asked dc_law_asked pm_law_asked cd_law_asked ct_law_asked : Value} {od_law_asked an_law_asked : Option Addr} {sl_law_asked : Array (Option Value)} {f_law_same : Addr} {oc_law_same kV_law_same dc_law_same pm_law_same cd_law_same ct_law_same : Value} {od_law_same an_law_same : Option Addr} {sl_law_same : Array (Option Value)} {f_law_tree_so c_law_tree_so Pt : Addr} {oc_law_tree_so kV_law_tree_so dc_law_tree_so pm_law_tree_so ct_law_tree_so : Value} {od_law_tree_so an_law_tree_so : Option Addr} {sl_law_tree_so : Array (Option Value)} {f_law_script : Addr} {oc_law_script kV_law_script dc_law_script pm_law_script cd_law_script ct_law_script : Value} {od_law_script an_law_script : Option Addr} {sl_law_script : Array (Option Value)} {f_law : Addr} {oc_law kV_law dc_law pm_law cd_law ct_law : Value} {od_law an_law : Option Addr} {sl_law : Array (Option Value)} {f_law_start : Addr} {oc_law_start kV_law_start dc_law_start pm_law_start cd_law_start ct_law_start : Value} {od_law_start an_law_start : Option Addr} {sl_law_start : Array (Option Value)} {ccl_law_tree_so : Value} {cdd_law_tree_so : Option Addr} {vs_law_tree_so : Array Value} {ccs_law_tree_so : Array (Option Value)} {t_CAPITALS : Tok} {t_DIGITS : Tok} {t_LETTERS : Tok} {t_MOST_DEPTH : Tok} {t_MOST_LETTERS : Tok} {t_MOST_PARTS : Tok} {t_MOST_TIMES : Tok} {C_LogError : Addr} {C_InvalidDeed : Addr} {C_InvalidStore : Addr} {C_InvalidStand : Addr} {C_InvalidText : Addr} {C_InvalidTree : Addr} {C_TooMany : Addr} {C_InvalidName : Addr} {C_DuplicateName : Addr} {C_WrongSort : Addr} {C_ForeignDeed : Addr} {C_Circular : Addr} {C_InUse : Addr} {C_Full : Addr} {C_InvalidLimit : Addr} {C_InvalidCommand : Addr} {C_InvalidPage : Addr} {C_UnknownName : Addr} {C_NothingLeft : Addr} {nm_InvalidText q_InvalidText : PySem.Str} {N_InvalidText : Addr} {bs_InvalidText bm_InvalidText : List Value} {sn_InvalidText : List PySem.Str} {sub_InvalidText : List Value} {ab_InvalidText : Bool} {col_InvalidText : Option Bool} {dd_InvalidText : Option Addr} {m0_InvalidText m1_InvalidText m2_InvalidText m3_InvalidText m5_InvalidText : Option Value} {fI_InvalidText cda_InvalidText cc_InvalidText : Addr} {oc_InvalidText dc_InvalidText pm_InvalidText ct_InvalidText ccl_InvalidText cl_InvalidText : Value} {od_InvalidText an_InvalidText cdd_InvalidText cld_InvalidText : Option Addr} {sl_InvalidText ccs_InvalidText csl_InvalidText : Array (Option Value)} {vs_InvalidText : Array Value} {fl_InvalidText : PySem.Str} {tf_InvalidText : Tok} {nm_InvalidTree q_InvalidTree : PySem.Str} {N_InvalidTree : Addr} {bs_InvalidTree bm_InvalidTree : List Value} {sn_InvalidTree : List PySem.Str} {sub_InvalidTree : List Value} {ab_InvalidTree : Bool} {col_InvalidTree : Option Bool} {dd_InvalidTree : Option Addr} {m0_InvalidTree m1_InvalidTree m2_InvalidTree m3_InvalidTree m5_InvalidTree : Option Value} {fI_InvalidTree cda_InvalidTree cc_InvalidTree : Addr} {oc_InvalidTree dc_InvalidTree pm_InvalidTree ct_InvalidTree ccl_InvalidTree cl_InvalidTree : Value} {od_InvalidTree an_InvalidTree cdd_InvalidTree cld_InvalidTree : Option Addr} {sl_InvalidTree ccs_InvalidTree csl_InvalidTree : Array (Option Value)} {vs_InvalidTree : Array Value} {fl_InvalidTree : PySem.Str} {tf_InvalidTree : Tok}
    (tb : h.get? Pt = some (PySem.W.tabObj #[]))
    (g_Reader : PySem.W.nsIn K mainGlobals "Reader" = some (some (.ref C_Reader)))
    (kg_Reader : PySem.W.plainGet K C_Reader PySem.Str.empty = true)
    (kh_Reader : PySem.W.hasDictIn K C_Reader = true)
    (ko_Reader : PySem.W.plainOver K C_Reader = true)
    (ks_Reader : PySem.W.findIn K (.ref C_Reader) "__setattr__" = some (some (.builtin "object.__setattr__")))
    (fn_Reader_text_left : PySem.W.findIn K (.ref C_Reader) "text_left" = some none)
    (ma_Reader_passed : PySem.W.findIn K (.ref C_Reader) "passed" = some (some (.ref f_Reader_passed)))
    (mf_Reader_passed : PySem.W.isFn K (.ref f_Reader_passed) = true)
    (mk_Reader_passed : PySem.W.keepIn K (.ref f_Reader_passed) = true)
    (ma_Reader_row : PySem.W.findIn K (.ref C_Reader) "row" = some (some (.ref f_Reader_row)))
    (mf_Reader_row : PySem.W.isFn K (.ref f_Reader_row) = true)
    (mk_Reader_row : PySem.W.keepIn K (.ref f_Reader_row) = true)
    (ma_Reader_run : PySem.W.findIn K (.ref C_Reader) "run" = some (some (.ref f_Reader_run)))
    (mf_Reader_run : PySem.W.isFn K (.ref f_Reader_run) = true)
    (mk_Reader_run : PySem.W.keepIn K (.ref f_Reader_run) = true)
    (ma_Reader_atom : PySem.W.findIn K (.ref C_Reader) "atom" = some (some (.ref f_Reader_atom)))
    (mf_Reader_atom : PySem.W.isFn K (.ref f_Reader_atom) = true)
    (mk_Reader_atom : PySem.W.keepIn K (.ref f_Reader_atom) = true)
    (ma_Reader_powers : PySem.W.findIn K (.ref C_Reader) "powers" = some (some (.ref f_Reader_powers)))
    (mf_Reader_powers : PySem.W.isFn K (.ref f_Reader_powers) = true)
    (mk_Reader_powers : PySem.W.keepIn K (.ref f_Reader_powers) = true)
    (ia_Reader : PySem.W.makesIn K C_Reader = true)
    (ib_Reader : PySem.W.findIn K (.ref C_Reader) "__init__" = some (some (.ref f_Reader___init__)))
    (ic_Reader : PySem.W.isFn K (.ref f_Reader___init__) = true)
    (id_Reader : PySem.W.keepIn K (.ref C_Reader) = true)
    (a_is_number : PySem.W.nsIn K mainGlobals "is_number" = some (some (.ref f_is_number)))
    (l_is_number : K.lookup f_is_number = some ⟨oc_is_number, od_is_number, .func (PySem.W.fnOf "is_number" "is_number" (defArgs s_is_number) (defBody s_is_number) (defScope s_is_number) .none kV_is_number dc_is_number pm_is_number an_is_number cd_is_number ct_is_number), sl_is_number⟩)
    (c_is_number_ : PySem.W.codeIn K cd_is_number "is_number" = true)
    (k_is_number : PySem.W.keepIn K (.ref f_is_number) = true)
    (a_is_within : PySem.W.nsIn K mainGlobals "is_within" = some (some (.ref f_is_within)))
    (l_is_within : K.lookup f_is_within = some ⟨oc_is_within, od_is_within, .func (PySem.W.fnOf "is_within" "is_within" (defArgs s_is_within) (defBody s_is_within) (defScope s_is_within) .none kV_is_within dc_is_within pm_is_within an_is_within cd_is_within ct_is_within), sl_is_within⟩)
    (c_is_within_ : PySem.W.codeIn K cd_is_within "is_within" = true)
    (k_is_within : PySem.W.keepIn K (.ref f_is_within) = true)
    (a_is_log : PySem.W.nsIn K mainGlobals "is_log" = some (some (.ref f_is_log)))
    (l_is_log : K.lookup f_is_log = some ⟨oc_is_log, od_is_log, .func (PySem.W.fnOf "is_log" "is_log" (defArgs s_is_log) (defBody s_is_log) (defScope s_is_log) .none kV_is_log dc_is_log pm_is_log an_is_log cd_is_log ct_is_log), sl_is_log⟩)
    (c_is_log_ : PySem.W.codeIn K cd_is_log "is_log" = true)
    (k_is_log : PySem.W.keepIn K (.ref f_is_log) = true)
    (a_is_name : PySem.W.nsIn K mainGlobals "is_name" = some (some (.ref f_is_name)))
    (l_is_name : K.lookup f_is_name = some ⟨oc_is_name, od_is_name, .func (PySem.W.fnOf "is_name" "is_name" (defArgs s_is_name) (defBody s_is_name) (defScope s_is_name) .none kV_is_name dc_is_name pm_is_name an_is_name cd_is_name ct_is_name), sl_is_name⟩)
    (c_is_name_ : PySem.W.codeIn K cd_is_name "is_name" = true)
    (k_is_name : PySem.W.keepIn K (.ref f_is_name) = true)
    (a_is_row : PySem.W.nsIn K mainGlobals "is_row" = some (some (.ref f_is_row)))
    (l_is_row : K.lookup f_is_row = some ⟨oc_is_row, od_is_row, .func (PySem.W.fnOf "is_row" "is_row" (defArgs s_is_row) (defBody s_is_row) (defScope s_is_row) .none kV_is_row dc_is_row pm_is_row an_is_row cd_is_row ct_is_row), sl_is_row⟩)
    (c_is_row_ : PySem.W.codeIn K cd_is_row "is_row" = true)
    (k_is_row : PySem.W.keepIn K (.ref f_is_row) = true)
    (a_is_tree : PySem.W.nsIn K mainGlobals "is_tree" = some (some (.ref f_is_tree)))
    (l_is_tree : K.lookup f_is_tree = some ⟨oc_is_tree, od_is_tree, .func (PySem.W.fnOf "is_tree" "is_tree" (defArgs s_is_tree) (defBody s_is_tree) (defScope s_is_tree) (.ref dT_is_tree) kV_is_tree dc_is_tree pm_is_tree an_is_tree cd_is_tree ct_is_tree), sl_is_tree⟩)
    (c_is_tree_ : PySem.W.codeIn K cd_is_tree "is_tree" = true)
    (k_is_tree : PySem.W.keepIn K (.ref f_is_tree) = true)
    (ld_is_tree : K.lookup dT_is_tree = some ⟨dtc_is_tree, dtd_is_tree, .seq #[.int 12 dtt_is_tree] dtn_is_tree, dts_is_tree⟩)
    (a_need_tree : PySem.W.nsIn K mainGlobals "need_tree" = some (some (.ref f_need_tree)))
    (l_need_tree : K.lookup f_need_tree = some ⟨oc_need_tree, od_need_tree, .func (PySem.W.fnOf "need_tree" "need_tree" (defArgs s_need_tree) (defBody s_need_tree) (defScope s_need_tree) .none kV_need_tree dc_need_tree pm_need_tree an_need_tree cd_need_tree ct_need_tree), sl_need_tree⟩)
    (c_need_tree_ : PySem.W.codeIn K cd_need_tree "need_tree" = true)
    (k_need_tree : PySem.W.keepIn K (.ref f_need_tree) = true)
    (a_text_of : PySem.W.nsIn K mainGlobals "text_of" = some (some (.ref f_text_of)))
    (l_text_of : K.lookup f_text_of = some ⟨oc_text_of, od_text_of, .func (PySem.W.fnOf "text_of" "text_of" (defArgs s_text_of) (defBody s_text_of) (defScope s_text_of) .none kV_text_of dc_text_of pm_text_of an_text_of cd_text_of ct_text_of), sl_text_of⟩)
    (c_text_of_ : PySem.W.codeIn K cd_text_of "text_of" = true)
    (k_text_of : PySem.W.keepIn K (.ref f_text_of) = true)
    (a_script_text : PySem.W.nsIn K mainGlobals "script_text" = some (some (.ref f_script_text)))
    (l_script_text : K.lookup f_script_text = some ⟨oc_script_text, od_script_text, .func (PySem.W.fnOf "script_text" "script_text" (defArgs s_script_text) (defBody s_script_text) (defScope s_script_text) .none kV_script_text dc_script_text pm_script_text an_script_text cd_script_text ct_script_text), sl_script_text⟩)
    (c_script_text_ : PySem.W.codeIn K cd_script_text "script_text" = true)
    (k_script_text : PySem.W.keepIn K (.ref f_script_text) = true)
    (l_Reader___init__ : K.lookup f_Reader___init__ = some ⟨oc_Reader___init__, od_Reader___init__, .func (PySem.W.fnOf "__init__" "Reader.__init__" (defArgs s_Reader___init__) (defBody s_Reader___init__) (defScope s_Reader___init__) .none kV_Reader___init__ dc_Reader___init__ pm_Reader___init__ an_Reader___init__ cd_Reader___init__ ct_Reader___init__), sl_Reader___init__⟩)
    (c_Reader___init___ : PySem.W.codeIn K cd_Reader___init__ "Reader.__init__" = true)
    (k_Reader___init__ : PySem.W.keepIn K (.ref f_Reader___init__) = true)
    (l_Reader_run : K.lookup f_Reader_run = some ⟨oc_Reader_run, od_Reader_run, .func (PySem.W.fnOf "run" "Reader.run" (defArgs s_Reader_run) (defBody s_Reader_run) (defScope s_Reader_run) .none kV_Reader_run dc_Reader_run pm_Reader_run an_Reader_run cd_Reader_run ct_Reader_run), sl_Reader_run⟩)
    (c_Reader_run_ : PySem.W.codeIn K cd_Reader_run "Reader.run" = true)
    (l_Reader_passed : K.lookup f_Reader_passed = some ⟨oc_Reader_passed, od_Reader_passed, .func (PySem.W.fnOf "passed" "Reader.passed" (defArgs s_Reader_passed) (defBody s_Reader_passed) (defScope s_Reader_passed) .none kV_Reader_passed dc_Reader_passed pm_Reader_passed an_Reader_passed cd_Reader_passed ct_Reader_passed), sl_Reader_passed⟩)
    (c_Reader_passed_ : PySem.W.codeIn K cd_Reader_passed "Reader.passed" = true)
    (l_Reader_atom : K.lookup f_Reader_atom = some ⟨oc_Reader_atom, od_Reader_atom, .func (PySem.W.fnOf "atom" "Reader.atom" (defArgs s_Reader_atom) (defBody s_Reader_atom) (defScope s_Reader_atom) .none kV_Reader_atom dc_Reader_atom pm_Reader_atom an_Reader_atom cd_Reader_atom ct_Reader_atom), sl_Reader_atom⟩)
    (c_Reader_atom_ : PySem.W.codeIn K cd_Reader_atom "Reader.atom" = true)
    (l_Reader_powers : K.lookup f_Reader_powers = some ⟨oc_Reader_powers, od_Reader_powers, .func (PySem.W.fnOf "powers" "Reader.powers" (defArgs s_Reader_powers) (defBody s_Reader_powers) (defScope s_Reader_powers) .none kV_Reader_powers dc_Reader_powers pm_Reader_powers an_Reader_powers cd_Reader_powers ct_Reader_powers), sl_Reader_powers⟩)
    (c_Reader_powers_ : PySem.W.codeIn K cd_Reader_powers "Reader.powers" = true)
    (l_Reader_row : K.lookup f_Reader_row = some ⟨oc_Reader_row, od_Reader_row, .func (PySem.W.fnOf "row" "Reader.row" (defArgs s_Reader_row) (defBody s_Reader_row) (defScope s_Reader_row) .none kV_Reader_row dc_Reader_row pm_Reader_row an_Reader_row cd_Reader_row ct_Reader_row), sl_Reader_row⟩)
    (c_Reader_row_ : PySem.W.codeIn K cd_Reader_row "Reader.row" = true)
    (a_read_script : PySem.W.nsIn K mainGlobals "read_script" = some (some (.ref f_read_script)))
    (l_read_script : K.lookup f_read_script = some ⟨oc_read_script, od_read_script, .func (PySem.W.fnOf "read_script" "read_script" (defArgs s_read_script) (defBody s_read_script) (defScope s_read_script) .none kV_read_script dc_read_script pm_read_script an_read_script cd_read_script ct_read_script), sl_read_script⟩)
    (c_read_script_ : PySem.W.codeIn K cd_read_script "read_script" = true)
    (k_read_script : PySem.W.keepIn K (.ref f_read_script) = true)
    (a_law_pull : PySem.W.nsIn K mainGlobals "_law_pull" = some (some (.ref f_law_pull)))
    (l_law_pull : K.lookup f_law_pull = some ⟨oc_law_pull, od_law_pull, .func (PySem.W.fnOf "_law_pull" "_law_pull" (defArgs s_law_pull) (defBody s_law_pull) (defScope s_law_pull) .none kV_law_pull dc_law_pull pm_law_pull an_law_pull cd_law_pull ct_law_pull), sl_law_pull⟩)
    (c_law_pull_ : PySem.W.codeIn K cd_law_pull "_law_pull" = true)
    (k_law_pull : PySem.W.keepIn K (.ref f_law_pull) = true)
    (a_law_pick : PySem.W.nsIn K mainGlobals "_law_pick" = some (some (.ref f_law_pick)))
    (l_law_pick : K.lookup f_law_pick = some ⟨oc_law_pick, od_law_pick, .func (PySem.W.fnOf "_law_pick" "_law_pick" (defArgs s_law_pick) (defBody s_law_pick) (defScope s_law_pick) .none kV_law_pick dc_law_pick pm_law_pick an_law_pick cd_law_pick ct_law_pick), sl_law_pick⟩)
    (c_law_pick_ : PySem.W.codeIn K cd_law_pick "_law_pick" = true)
    (k_law_pick : PySem.W.keepIn K (.ref f_law_pick) = true)
    (a_law_name : PySem.W.nsIn K mainGlobals "_law_name" = some (some (.ref f_law_name)))
    (l_law_name : K.lookup f_law_name = some ⟨oc_law_name, od_law_name, .func (PySem.W.fnOf "_law_name" "_law_name" (defArgs s_law_name) (defBody s_law_name) (defScope s_law_name) .none kV_law_name dc_law_name pm_law_name an_law_name cd_law_name ct_law_name), sl_law_name⟩)
    (c_law_name_ : PySem.W.codeIn K cd_law_name "_law_name" = true)
    (k_law_name : PySem.W.keepIn K (.ref f_law_name) = true)
    (a_law_asked : PySem.W.nsIn K mainGlobals "_law_asked" = some (some (.ref f_law_asked)))
    (l_law_asked : K.lookup f_law_asked = some ⟨oc_law_asked, od_law_asked, .func (PySem.W.fnOf "_law_asked" "_law_asked" (defArgs s_law_asked) (defBody s_law_asked) (defScope s_law_asked) .none kV_law_asked dc_law_asked pm_law_asked an_law_asked cd_law_asked ct_law_asked), sl_law_asked⟩)
    (c_law_asked_ : PySem.W.codeIn K cd_law_asked "_law_asked" = true)
    (k_law_asked : PySem.W.keepIn K (.ref f_law_asked) = true)
    (a_law_same : PySem.W.nsIn K mainGlobals "_law_same" = some (some (.ref f_law_same)))
    (l_law_same : K.lookup f_law_same = some ⟨oc_law_same, od_law_same, .func (PySem.W.fnOf "_law_same" "_law_same" (defArgs s_law_same) (defBody s_law_same) (defScope s_law_same) .none kV_law_same dc_law_same pm_law_same an_law_same cd_law_same ct_law_same), sl_law_same⟩)
    (c_law_same_ : PySem.W.codeIn K cd_law_same "_law_same" = true)
    (k_law_same : PySem.W.keepIn K (.ref f_law_same) = true)
    (a_law_tree_so : PySem.W.nsIn K mainGlobals "_law_tree_so" = some (some (.ref f_law_tree_so)))
    (l_law_tree_so : K.lookup f_law_tree_so = some ⟨oc_law_tree_so, od_law_tree_so, .func (PySem.W.fnOf "_law_tree_so" "_law_tree_so" (defArgs s_law_tree_so) (defBody s_law_tree_so) (defScope s_law_tree_so) .none kV_law_tree_so dc_law_tree_so pm_law_tree_so an_law_tree_so (.ref c_law_tree_so) ct_law_tree_so), sl_law_tree_so⟩)
    (c_law_tree_so_ : PySem.W.codeIn K (.ref c_law_tree_so) "_law_tree_so" = true)
    (k_law_tree_so : PySem.W.keepIn K (.ref f_law_tree_so) = true)
    (a_law_script : PySem.W.nsIn K mainGlobals "_law_script" = some (some (.ref f_law_script)))
    (l_law_script : K.lookup f_law_script = some ⟨oc_law_script, od_law_script, .func (PySem.W.fnOf "_law_script" "_law_script" (defArgs s_law_script) (defBody s_law_script) (defScope s_law_script) .none kV_law_script dc_law_script pm_law_script an_law_script cd_law_script ct_law_script), sl_law_script⟩)
    (c_law_script_ : PySem.W.codeIn K cd_law_script "_law_script" = true)
    (k_law_script : PySem.W.keepIn K (.ref f_law_script) = true)
    (a_law : PySem.W.nsIn K mainGlobals "law" = some (some (.ref f_law)))
    (l_law : K.lookup f_law = some ⟨oc_law, od_law, .func (PySem.W.fnOf "law" "law" (defArgs s_law) (defBody s_law) (defScope s_law) .none kV_law dc_law pm_law an_law cd_law ct_law), sl_law⟩)
    (c_law_ : PySem.W.codeIn K cd_law "law" = true)
    (k_law : PySem.W.keepIn K (.ref f_law) = true)
    (a_law_start : PySem.W.nsIn K mainGlobals "_law_start" = some (some (.ref f_law_start)))
    (l_law_start : K.lookup f_law_start = some ⟨oc_law_start, od_law_start, .func (PySem.W.fnOf "_law_start" "_law_start" (defArgs s_law_start) (defBody s_law_start) (defScope s_law_start) .none kV_law_start dc_law_start pm_law_start an_law_start cd_law_start ct_law_start), sl_law_start⟩)
    (c_law_start_ : PySem.W.codeIn K cd_law_start "_law_start" = true)
    (k_law_start : PySem.W.keepIn K (.ref f_law_start) = true)
    (lc_law_tree_so : K.lookup c_law_tree_so = some ⟨ccl_law_tree_so, cdd_law_tree_so, .fields vs_law_tree_so, ccs_law_tree_so⟩)
    (lp_law : vs_law_tree_so[11]? = some (.ref Pt))
    (hd : PySem.W.codeHdIn K c_law_tree_so Pt = true)
    (nP : K.lookup Pt = none)
    (z_all : PySem.W.nsIn K mainGlobals "all" = some none)
    (z_any : PySem.W.nsIn K mainGlobals "any" = some none)
    (z_bool : PySem.W.nsIn K mainGlobals "bool" = some none)
    (z_int : PySem.W.nsIn K mainGlobals "int" = some none)
    (z_isinstance : PySem.W.nsIn K mainGlobals "isinstance" = some none)
    (z_len : PySem.W.nsIn K mainGlobals "len" = some none)
    (z_list : PySem.W.nsIn K mainGlobals "list" = some none)
    (z_range : PySem.W.nsIn K mainGlobals "range" = some none)
    (z_str : PySem.W.nsIn K mainGlobals "str" = some none)
    (z_tuple : PySem.W.nsIn K mainGlobals "tuple" = some none)
    (q_CAPITALS : PySem.W.nsIn K mainGlobals "CAPITALS" = some (some (.str (SS [65, 66, 67, 68, 69, 70, 71, 72, 73, 74, 75, 76, 77, 78, 79, 80, 81, 82, 83, 84, 85, 86, 87, 88, 89, 90]) t_CAPITALS)))
    (q_DIGITS : PySem.W.nsIn K mainGlobals "DIGITS" = some (some (.str (SS [48, 49, 50, 51, 52, 53, 54, 55, 56, 57]) t_DIGITS)))
    (q_LETTERS : PySem.W.nsIn K mainGlobals "LETTERS" = some (some (.str (SS [97, 98, 99, 100, 101, 102, 103, 104, 105, 106, 107, 108, 109, 110, 111, 112, 113, 114, 115, 116, 117, 118, 119, 120, 121, 122]) t_LETTERS)))
    (q_MOST_DEPTH : PySem.W.nsIn K mainGlobals "MOST_DEPTH" = some (some (.int 12 t_MOST_DEPTH)))
    (q_MOST_LETTERS : PySem.W.nsIn K mainGlobals "MOST_LETTERS" = some (some (.int 6 t_MOST_LETTERS)))
    (q_MOST_PARTS : PySem.W.nsIn K mainGlobals "MOST_PARTS" = some (some (.int 20 t_MOST_PARTS)))
    (q_MOST_TIMES : PySem.W.nsIn K mainGlobals "MOST_TIMES" = some (some (.int 1000000000000000000000000000000 t_MOST_TIMES)))
    (g_LogError : PySem.W.nsIn K mainGlobals "LogError" = some (some (.ref C_LogError)))
    (g_InvalidDeed : PySem.W.nsIn K mainGlobals "InvalidDeed" = some (some (.ref C_InvalidDeed)))
    (g_InvalidStore : PySem.W.nsIn K mainGlobals "InvalidStore" = some (some (.ref C_InvalidStore)))
    (g_InvalidStand : PySem.W.nsIn K mainGlobals "InvalidStand" = some (some (.ref C_InvalidStand)))
    (g_InvalidText : PySem.W.nsIn K mainGlobals "InvalidText" = some (some (.ref C_InvalidText)))
    (g_InvalidTree : PySem.W.nsIn K mainGlobals "InvalidTree" = some (some (.ref C_InvalidTree)))
    (g_TooMany : PySem.W.nsIn K mainGlobals "TooMany" = some (some (.ref C_TooMany)))
    (g_InvalidName : PySem.W.nsIn K mainGlobals "InvalidName" = some (some (.ref C_InvalidName)))
    (g_DuplicateName : PySem.W.nsIn K mainGlobals "DuplicateName" = some (some (.ref C_DuplicateName)))
    (g_WrongSort : PySem.W.nsIn K mainGlobals "WrongSort" = some (some (.ref C_WrongSort)))
    (g_ForeignDeed : PySem.W.nsIn K mainGlobals "ForeignDeed" = some (some (.ref C_ForeignDeed)))
    (g_Circular : PySem.W.nsIn K mainGlobals "Circular" = some (some (.ref C_Circular)))
    (g_InUse : PySem.W.nsIn K mainGlobals "InUse" = some (some (.ref C_InUse)))
    (g_Full : PySem.W.nsIn K mainGlobals "Full" = some (some (.ref C_Full)))
    (g_InvalidLimit : PySem.W.nsIn K mainGlobals "InvalidLimit" = some (some (.ref C_InvalidLimit)))
    (g_InvalidCommand : PySem.W.nsIn K mainGlobals "InvalidCommand" = some (some (.ref C_InvalidCommand)))
    (g_InvalidPage : PySem.W.nsIn K mainGlobals "InvalidPage" = some (some (.ref C_InvalidPage)))
    (g_UnknownName : PySem.W.nsIn K mainGlobals "UnknownName" = some (some (.ref C_UnknownName)))
    (g_NothingLeft : PySem.W.nsIn K mainGlobals "NothingLeft" = some (some (.ref C_NothingLeft)))
    (xc_InvalidText : K.lookup C_InvalidText = some (excClassObj nm_InvalidText q_InvalidText C_InvalidText N_InvalidText bs_InvalidText bm_InvalidText true sn_InvalidText sub_InvalidText ab_InvalidText col_InvalidText dd_InvalidText m0_InvalidText m1_InvalidText m2_InvalidText m3_InvalidText m5_InvalidText "ValueError.__new__"))
    (xm_InvalidText : PySem.HandSPX.refsVE bm_InvalidText = true)
    (xsa_InvalidText : PySem.W.findIn K (.ref C_InvalidText) "__setattr__" = some (some (.builtin "object.__setattr__")))
    (xga_InvalidText : PySem.W.findIn K (.ref C_InvalidText) "__getattribute__" = some (some (.builtin "BaseException.__getattribute__")))
    (xgg_InvalidText : PySem.W.findIn K (.ref C_InvalidText) "__getattr__" = some none)
    (xnt_InvalidText : PySem.W.findIn K (.ref C_InvalidText) "tag" = some none)
    (xk_InvalidText : PySem.W.keepIn K (.ref C_InvalidText) = true)
    (xe_InvalidText : PySem.W.subIn K (.ref C_InvalidText) (.type "BaseException") = some true)
    (xv_InvalidText : PySem.W.subIn K (.ref C_InvalidText) (.type "ValueError") = some true)
    (xt_InvalidText : PySem.W.typeIn K (.ref C_InvalidText) = some (.type "type"))
    (xd_InvalidText : PySem.W.hasDictIn K C_InvalidText = true)
    (xi_InvalidText : PySem.W.findIn K (.ref C_InvalidText) "__init__" = some (some (.ref fI_InvalidText)))
    (xit_InvalidText : PySem.W.typeIn K (.ref fI_InvalidText) = some (.type "function"))
    (xl_InvalidText : K.lookup fI_InvalidText = some ⟨oc_InvalidText, od_InvalidText, .func (PySem.W.ksFn "__init__" "InvalidText.__init__" (defArgs (inClass (top 6) 0)) (defBody (inClass (top 6) 0)) (defScope (inClass (top 6) 0)) .none .none dc_InvalidText pm_InvalidText an_InvalidText (.ref cda_InvalidText) ct_InvalidText cc_InvalidText), sl_InvalidText⟩)
    (xco_InvalidText : PySem.W.codeIn K (.ref cda_InvalidText) "InvalidText.__init__" = true)
    (xcd_InvalidText : K.lookup cda_InvalidText = some ⟨ccl_InvalidText, cdd_InvalidText, .fields vs_InvalidText, ccs_InvalidText⟩)
    (xcf_InvalidText : vs_InvalidText[2]? = some (.str fl_InvalidText tf_InvalidText))
    (xcg_InvalidText : ((l.prog.main.file : PySem.Str) == fl_InvalidText) = true)
    (xcc_InvalidText : K.lookup cc_InvalidText = some ⟨cl_InvalidText, cld_InvalidText, .cell (some (.ref C_InvalidText)), csl_InvalidText⟩)
    (xmr_InvalidText : PySem.W.mroIn K C_InvalidText (.ref C_InvalidText) = some true)
    (xsu_InvalidText : PySem.W.ks_superIn K C_InvalidText C_InvalidText "__init__" = some (some (.builtin "ValueError.__init__")))
    (xc_InvalidTree : K.lookup C_InvalidTree = some (excClassObj nm_InvalidTree q_InvalidTree C_InvalidTree N_InvalidTree bs_InvalidTree bm_InvalidTree true sn_InvalidTree sub_InvalidTree ab_InvalidTree col_InvalidTree dd_InvalidTree m0_InvalidTree m1_InvalidTree m2_InvalidTree m3_InvalidTree m5_InvalidTree "ValueError.__new__"))
    (xm_InvalidTree : PySem.HandSPX.refsVE bm_InvalidTree = true)
    (xsa_InvalidTree : PySem.W.findIn K (.ref C_InvalidTree) "__setattr__" = some (some (.builtin "object.__setattr__")))
    (xga_InvalidTree : PySem.W.findIn K (.ref C_InvalidTree) "__getattribute__" = some (some (.builtin "BaseException.__getattribute__")))
    (xgg_InvalidTree : PySem.W.findIn K (.ref C_InvalidTree) "__getattr__" = some none)
    (xnt_InvalidTree : PySem.W.findIn K (.ref C_InvalidTree) "tag" = some none)
    (xk_InvalidTree : PySem.W.keepIn K (.ref C_InvalidTree) = true)
    (xe_InvalidTree : PySem.W.subIn K (.ref C_InvalidTree) (.type "BaseException") = some true)
    (xv_InvalidTree : PySem.W.subIn K (.ref C_InvalidTree) (.type "ValueError") = some true)
    (xt_InvalidTree : PySem.W.typeIn K (.ref C_InvalidTree) = some (.type "type"))
    (xd_InvalidTree : PySem.W.hasDictIn K C_InvalidTree = true)
    (xi_InvalidTree : PySem.W.findIn K (.ref C_InvalidTree) "__init__" = some (some (.ref fI_InvalidTree)))
    (xit_InvalidTree : PySem.W.typeIn K (.ref fI_InvalidTree) = some (.type "function"))
    (xl_InvalidTree : K.lookup fI_InvalidTree = some ⟨oc_InvalidTree, od_InvalidTree, .func (PySem.W.ksFn "__init__" "InvalidTree.__init__" (defArgs (inClass (top 7) 0)) (defBody (inClass (top 7) 0)) (defScope (inClass (top 7) 0)) .none .none dc_InvalidTree pm_InvalidTree an_InvalidTree (.ref cda_InvalidTree) ct_InvalidTree cc_InvalidTree), sl_InvalidTree⟩)
    (xco_InvalidTree : PySem.W.codeIn K (.ref cda_InvalidTree) "InvalidTree.__init__" = true)
    (xcd_InvalidTree : K.lookup cda_InvalidTree = some ⟨ccl_InvalidTree, cdd_InvalidTree, .fields vs_InvalidTree, ccs_InvalidTree⟩)
    (xcf_InvalidTree : vs_InvalidTree[2]? = some (.str fl_InvalidTree tf_InvalidTree))
    (xcg_InvalidTree : ((l.prog.main.file : PySem.Str) == fl_InvalidTree) = true)
    (xcc_InvalidTree : K.lookup cc_InvalidTree = some ⟨cl_InvalidTree, cld_InvalidTree, .cell (some (.ref C_InvalidTree)), csl_InvalidTree⟩)
    (xmr_InvalidTree : PySem.W.mroIn K C_InvalidTree (.ref C_InvalidTree) = some true)
    (xsu_InvalidTree : PySem.W.ks_superIn K C_InvalidTree C_InvalidTree "__init__" = some (some (.builtin "ValueError.__init__")))
    (xop : PySem.W.nsIn K cStatics "thirdparty.any" = some none)
    (xsup : PySem.W.nsIn K mainGlobals "super" = some none)
    (xtop : (l.prog.main.scope.names.lookup ("super" : PySem.Str)).isSome = false)
    (e_InvalidText_InvalidName : PySem.W.exmOne K (.ref C_InvalidText) (.ref C_InvalidName) = some false)
    (e_InvalidText_DuplicateName : PySem.W.exmOne K (.ref C_InvalidText) (.ref C_DuplicateName) = some false)
    (e_InvalidText_WrongSort : PySem.W.exmOne K (.ref C_InvalidText) (.ref C_WrongSort) = some false)
    (e_InvalidText_Circular : PySem.W.exmOne K (.ref C_InvalidText) (.ref C_Circular) = some false)
    (e_InvalidText_UnknownName : PySem.W.exmOne K (.ref C_InvalidText) (.ref C_UnknownName) = some false)
    (e_InvalidText_InvalidDeed : PySem.W.exmOne K (.ref C_InvalidText) (.ref C_InvalidDeed) = some false)
    (e_InvalidText_InvalidStand : PySem.W.exmOne K (.ref C_InvalidText) (.ref C_InvalidStand) = some false)
    (e_InvalidText_InvalidLimit : PySem.W.exmOne K (.ref C_InvalidText) (.ref C_InvalidLimit) = some false)
    (e_InvalidText_InvalidStore : PySem.W.exmOne K (.ref C_InvalidText) (.ref C_InvalidStore) = some false)
    (e_InvalidText_InvalidCommand : PySem.W.exmOne K (.ref C_InvalidText) (.ref C_InvalidCommand) = some false)
    (e_InvalidText_TooMany : PySem.W.exmOne K (.ref C_InvalidText) (.ref C_TooMany) = some false)
    (e_InvalidText_Full : PySem.W.exmOne K (.ref C_InvalidText) (.ref C_Full) = some false)
    (e_InvalidText_ForeignDeed : PySem.W.exmOne K (.ref C_InvalidText) (.ref C_ForeignDeed) = some false)
    (e_InvalidText_InUse : PySem.W.exmOne K (.ref C_InvalidText) (.ref C_InUse) = some false)
    (e_InvalidText_InvalidPage : PySem.W.exmOne K (.ref C_InvalidText) (.ref C_InvalidPage) = some false)
    (e_InvalidText_LogError : PySem.W.exmOne K (.ref C_InvalidText) (.ref C_LogError) = some true)
    (e_InvalidText_NothingLeft : PySem.W.exmOne K (.ref C_InvalidText) (.ref C_NothingLeft) = some false)
    (e_InvalidTree_InvalidName : PySem.W.exmOne K (.ref C_InvalidTree) (.ref C_InvalidName) = some false)
    (e_InvalidTree_DuplicateName : PySem.W.exmOne K (.ref C_InvalidTree) (.ref C_DuplicateName) = some false)
    (e_InvalidTree_WrongSort : PySem.W.exmOne K (.ref C_InvalidTree) (.ref C_WrongSort) = some false)
    (e_InvalidTree_Circular : PySem.W.exmOne K (.ref C_InvalidTree) (.ref C_Circular) = some false)
    (e_InvalidTree_UnknownName : PySem.W.exmOne K (.ref C_InvalidTree) (.ref C_UnknownName) = some false)
    (e_InvalidTree_InvalidDeed : PySem.W.exmOne K (.ref C_InvalidTree) (.ref C_InvalidDeed) = some false)
    (e_InvalidTree_InvalidStand : PySem.W.exmOne K (.ref C_InvalidTree) (.ref C_InvalidStand) = some false)
    (e_InvalidTree_InvalidLimit : PySem.W.exmOne K (.ref C_InvalidTree) (.ref C_InvalidLimit) = some false)
    (e_InvalidTree_InvalidStore : PySem.W.exmOne K (.ref C_InvalidTree) (.ref C_InvalidStore) = some false)
    (e_InvalidTree_InvalidCommand : PySem.W.exmOne K (.ref C_InvalidTree) (.ref C_InvalidCommand) = some false)
    (e_InvalidTree_TooMany : PySem.W.exmOne K (.ref C_InvalidTree) (.ref C_TooMany) = some false)
    (e_InvalidTree_Full : PySem.W.exmOne K (.ref C_InvalidTree) (.ref C_Full) = some false)
    (e_InvalidTree_ForeignDeed : PySem.W.exmOne K (.ref C_InvalidTree) (.ref C_ForeignDeed) = some false)
    (e_InvalidTree_InUse : PySem.W.exmOne K (.ref C_InvalidTree) (.ref C_InUse) = some false)
    (e_InvalidTree_InvalidPage : PySem.W.exmOne K (.ref C_InvalidTree) (.ref C_InvalidPage) = some false)
    (e_InvalidTree_LogError : PySem.W.exmOne K (.ref C_InvalidTree) (.ref C_LogError) = some true)
    (e_InvalidTree_NothingLeft : PySem.W.exmOne K (.ref C_InvalidTree) (.ref C_NothingLeft) = some false) : LamX.LawAtS l w K (L2.CX l.prog w) 63 63 "_law_script_here" mg fa h := by
  have e := hfa.symm.trans (PySem.W.mg_of KX G a_law)
  cases e
  letI : Tabl := ⟨[(Pt, ((("_law_tree_so" : PySem.Str) ++ ".<locals>.") ++ "<lambda>" : PySem.Str))], by simp⟩
  let C : Cls := ⟨C_LogError, C_InvalidDeed, C_InvalidStore, C_InvalidStand, C_InvalidText, C_InvalidTree, C_TooMany, C_InvalidName, C_DuplicateName, C_WrongSort, C_ForeignDeed, C_Circular, C_InUse, C_Full, C_InvalidLimit, C_InvalidCommand, C_InvalidPage, C_UnknownName, C_NothingLeft, C_Reader⟩
  have x_InvalidText : PySem.ExcX.XC0 l.prog K mg "InvalidText" C.InvalidText :=
    { gC := PySem.W.mg_of KX G g_InvalidText, cls := ⟨_, _, _, _, _, _, _, _, _, _, _, _, _, _, _, xc_InvalidText, xm_InvalidText⟩, sa := xsa_InvalidText, ga := xga_InvalidText, gg := xgg_InvalidText, noT := xnt_InvalidText, kC := xk_InvalidText, exC := xe_InvalidText,
      veC := xv_InvalidText, tyC := xt_InvalidText, hdC := xd_InvalidText, sub := xmr_InvalidText, sup := PySem.W.mg_none_of KX G xsup, supI := xsu_InvalidText, opq := xop, htop := xtop,
      fn := ⟨_, _, _, _, _, _, _, _, _, _, _, _, _, _, _, _, _, _, _, _, _, xi_InvalidText, xit_InvalidText, xl_InvalidText, xco_InvalidText, xcd_InvalidText, xcf_InvalidText, xcg_InvalidText, xcc_InvalidText, xtext_InvalidText⟩ }
  have x_InvalidTree : PySem.ExcX.XC0 l.prog K mg "InvalidTree" C.InvalidTree :=
    { gC := PySem.W.mg_of KX G g_InvalidTree, cls := ⟨_, _, _, _, _, _, _, _, _, _, _, _, _, _, _, xc_InvalidTree, xm_InvalidTree⟩, sa := xsa_InvalidTree, ga := xga_InvalidTree, gg := xgg_InvalidTree, noT := xnt_InvalidTree, kC := xk_InvalidTree, exC := xe_InvalidTree,
      veC := xv_InvalidTree, tyC := xt_InvalidTree, hdC := xd_InvalidTree, sub := xmr_InvalidTree, sup := PySem.W.mg_none_of KX G xsup, supI := xsu_InvalidTree, opq := xop, htop := xtop,
      fn := ⟨_, _, _, _, _, _, _, _, _, _, _, _, _, _, _, _, _, _, _, _, _, xi_InvalidTree, xit_InvalidTree, xl_InvalidTree, xco_InvalidTree, xcd_InvalidTree, xcf_InvalidTree, xcg_InvalidTree, xcc_InvalidTree, xtext_InvalidTree⟩ }
  have T : Txt l.prog K mg C :=
    { CAPITALS := ⟨_, PySem.W.mg_of KX G q_CAPITALS⟩, DIGITS := ⟨_, PySem.W.mg_of KX G q_DIGITS⟩, LETTERS := ⟨_, PySem.W.mg_of KX G q_LETTERS⟩, MOST_DEPTH := ⟨_, PySem.W.mg_of KX G q_MOST_DEPTH⟩, MOST_LETTERS := ⟨_, PySem.W.mg_of KX G q_MOST_LETTERS⟩, MOST_PARTS := ⟨_, PySem.W.mg_of KX G q_MOST_PARTS⟩, MOST_TIMES := ⟨_, PySem.W.mg_of KX G q_MOST_TIMES⟩, b_all := PySem.W.mg_none_of KX G z_all, b_any := PySem.W.mg_none_of KX G z_any, b_bool := PySem.W.mg_none_of KX G z_bool, b_int := PySem.W.mg_none_of KX G z_int, b_isinstance := PySem.W.mg_none_of KX G z_isinstance, b_len := PySem.W.mg_none_of KX G z_len, b_list := PySem.W.mg_none_of KX G z_list, b_range := PySem.W.mg_none_of KX G z_range, b_str := PySem.W.mg_none_of KX G z_str, b_tuple := PySem.W.mg_none_of KX G z_tuple, g_LogError := PySem.W.mg_of KX G g_LogError, g_InvalidDeed := PySem.W.mg_of KX G g_InvalidDeed, g_InvalidStore := PySem.W.mg_of KX G g_InvalidStore, g_InvalidStand := PySem.W.mg_of KX G g_InvalidStand, g_InvalidText := PySem.W.mg_of KX G g_InvalidText, g_InvalidTree := PySem.W.mg_of KX G g_InvalidTree, g_TooMany := PySem.W.mg_of KX G g_TooMany, g_InvalidName := PySem.W.mg_of KX G g_InvalidName, g_DuplicateName := PySem.W.mg_of KX G g_DuplicateName, g_WrongSort := PySem.W.mg_of KX G g_WrongSort, g_ForeignDeed := PySem.W.mg_of KX G g_ForeignDeed, g_Circular := PySem.W.mg_of KX G g_Circular, g_InUse := PySem.W.mg_of KX G g_InUse, g_Full := PySem.W.mg_of KX G g_Full, g_InvalidLimit := PySem.W.mg_of KX G g_InvalidLimit, g_InvalidCommand := PySem.W.mg_of KX G g_InvalidCommand, g_InvalidPage := PySem.W.mg_of KX G g_InvalidPage, g_UnknownName := PySem.W.mg_of KX G g_UnknownName, g_NothingLeft := PySem.W.mg_of KX G g_NothingLeft, n_Reader_text_left := ⟨⟨kg_Reader, kh_Reader, ko_Reader, ks_Reader⟩, fn_Reader_text_left⟩, g_Reader := PySem.W.mg_of KX G g_Reader, x_InvalidText := x_InvalidText, x_InvalidTree := x_InvalidTree }
  have XF_InvalidText : XFld K (.ref C.InvalidText) "tag" := ⟨_, rfl, xga_InvalidText, xgg_InvalidText, xe_InvalidText, xd_InvalidText, by assumption⟩
  have XF_InvalidTree : XFld K (.ref C.InvalidTree) "tag" := ⟨_, rfl, xga_InvalidTree, xgg_InvalidTree, xe_InvalidTree, xd_InvalidTree, by assumption⟩
  have F_is_number := fun_mk (st := s_is_number) l_is_number c_is_number_ k_is_number
  have b_is_number := F_is_number.binds (ps := ["value"]) fun _ _ _ _ _ _ us hl => match us, hl with | [_], _ => rfl
  have F_is_within := fun_mk (st := s_is_within) l_is_within c_is_within_ k_is_within
  have b_is_within := F_is_within.binds (ps := ["value", "low", "high"]) fun _ _ _ _ _ _ us hl => match us, hl with | [_, _, _], _ => rfl
  have F_is_log := fun_mk (st := s_is_log) l_is_log c_is_log_ k_is_log
  have b_is_log := F_is_log.binds (ps := ["value"]) fun _ _ _ _ _ _ us hl => match us, hl with | [_], _ => rfl
  have F_is_name := fun_mk (st := s_is_name) l_is_name c_is_name_ k_is_name
  have b_is_name := F_is_name.binds (ps := ["value"]) fun _ _ _ _ _ _ us hl => match us, hl with | [_], _ => rfl
  have F_is_row := fun_mk (st := s_is_row) l_is_row c_is_row_ k_is_row
  have b_is_row := F_is_row.binds (ps := ["word", "parts"]) fun _ _ _ _ _ _ us hl => match us, hl with | [_, _], _ => rfl
  have F_is_tree : FunD K "is_tree" "is_tree" (defArgs s_is_tree) (defBody s_is_tree) (defScope s_is_tree) [.int 12] [] f_is_tree _ := ⟨⟨_, _, _, _, _, _, _, _, _, _, rfl, l_is_tree, c_is_tree_, .inr ⟨by simp, _, _, _, _, rfl, ld_is_tree, rfl, .cons ⟨_, rfl⟩ .nil⟩, .inl rfl⟩, k_is_tree⟩
  obtain ⟨dv_is_tree, dr_is_tree, b_is_tree⟩ := F_is_tree.binds1 (ps := ["value", "depth"]) 1 0 (by simp) rfl fun _ _ _ _ _ _ _ us its h1 h2 => match us, h1, its, h2 with | [_], _, [_], _ => ⟨_, rfl, rfl⟩
  have F_need_tree := fun_mk (st := s_need_tree) l_need_tree c_need_tree_ k_need_tree
  have b_need_tree := F_need_tree.binds (ps := ["value"]) fun _ _ _ _ _ _ us hl => match us, hl with | [_], _ => rfl
  have F_text_of := fun_mk (st := s_text_of) l_text_of c_text_of_ k_text_of
  have b_text_of := F_text_of.binds (ps := ["tree"]) fun _ _ _ _ _ _ us hl => match us, hl with | [_], _ => rfl
  have F_script_text := fun_mk (st := s_script_text) l_script_text c_script_text_ k_script_text
  have b_script_text := F_script_text.binds (ps := ["tree"]) fun _ _ _ _ _ _ us hl => match us, hl with | [_], _ => rfl
  have F_Reader___init__ := fun_mk (st := s_Reader___init__) l_Reader___init__ c_Reader___init___ k_Reader___init__
  have b_Reader___init__ := F_Reader___init__.binds (ps := ["self", "text"]) fun _ _ _ _ _ _ us hl => match us, hl with | [_, _], _ => rfl
  have F_Reader_run := fun_mk (st := s_Reader_run) l_Reader_run c_Reader_run_ mk_Reader_run
  have b_Reader_run := F_Reader_run.binds (ps := ["self", "signs"]) fun _ _ _ _ _ _ us hl => match us, hl with | [_, _], _ => rfl
  have F_Reader_passed := fun_mk (st := s_Reader_passed) l_Reader_passed c_Reader_passed_ mk_Reader_passed
  have b_Reader_passed := F_Reader_passed.binds (ps := ["self", "sign"]) fun _ _ _ _ _ _ us hl => match us, hl with | [_, _], _ => rfl
  have F_Reader_atom := fun_mk (st := s_Reader_atom) l_Reader_atom c_Reader_atom_ mk_Reader_atom
  have b_Reader_atom := F_Reader_atom.binds (ps := ["self", "depth"]) fun _ _ _ _ _ _ us hl => match us, hl with | [_, _], _ => rfl
  have F_Reader_powers := fun_mk (st := s_Reader_powers) l_Reader_powers c_Reader_powers_ mk_Reader_powers
  have b_Reader_powers := F_Reader_powers.binds (ps := ["self", "depth"]) fun _ _ _ _ _ _ us hl => match us, hl with | [_, _], _ => rfl
  have F_Reader_row := fun_mk (st := s_Reader_row) l_Reader_row c_Reader_row_ mk_Reader_row
  have b_Reader_row := F_Reader_row.binds (ps := ["self", "depth"]) fun _ _ _ _ _ _ us hl => match us, hl with | [_, _], _ => rfl
  have F_read_script := fun_mk (st := s_read_script) l_read_script c_read_script_ k_read_script
  have b_read_script := F_read_script.binds (ps := ["text"]) fun _ _ _ _ _ _ us hl => match us, hl with | [_], _ => rfl
  have F_law_pull := fun_mk (st := s_law_pull) l_law_pull c_law_pull_ k_law_pull
  have b_law_pull := F_law_pull.binds (ps := ["_law_bag", "_law_many"]) fun _ _ _ _ _ _ us hl => match us, hl with | [_, _], _ => rfl
  have F_law_pick := fun_mk (st := s_law_pick) l_law_pick c_law_pick_ k_law_pick
  have b_law_pick := F_law_pick.binds (ps := ["_law_bag", "_law_some"]) fun _ _ _ _ _ _ us hl => match us, hl with | [_, _], _ => rfl
  have F_law_name := fun_mk (st := s_law_name) l_law_name c_law_name_ k_law_name
  have b_law_name := F_law_name.binds (ps := ["_law_bag"]) fun _ _ _ _ _ _ us hl => match us, hl with | [_], _ => rfl
  have F_law_asked := fun_mk (st := s_law_asked) l_law_asked c_law_asked_ k_law_asked
  have b_law_asked := F_law_asked.binds (ps := ["_law_f"]) fun _ _ _ _ _ _ us hl => match us, hl with | [_], _ => rfl
  have F_law_same := fun_mk (st := s_law_same) l_law_same c_law_same_ k_law_same
  have b_law_same := F_law_same.binds (ps := ["_law_found", "_law_due"]) fun _ _ _ _ _ _ us hl => match us, hl with | [_, _], _ => rfl
  have F_law_tree_so := fun_mk (st := s_law_tree_so) l_law_tree_so c_law_tree_so_ k_law_tree_so
  have b_law_tree_so := F_law_tree_so.binds (ps := ["_law_tree", "_law_text", "_law_good"]) fun _ _ _ _ _ _ us hl => match us, hl with | [_, _, _], _ => rfl
  have F_law_script := fun_mk (st := s_law_script) l_law_script c_law_script_ k_law_script
  have b_law_script := F_law_script.binds (ps := ["_law_tree"]) fun _ _ _ _ _ _ us hl => match us, hl with | [_], _ => rfl
  have F_law := fun_mk (st := s_law) l_law c_law_ k_law
  have F_law_start := fun_mk (st := s_law_start) l_law_start c_law_start_ k_law_start
  have b_law_start := F_law_start.binds (ps := ["_law_script_here"]) fun _ _ _ _ _ _ us hl => match us, hl with | [_], _ => rfl
  refine ⟨PySem.W.fnOf "law" "law" (defArgs s_law) (defBody s_law) (defScope s_law) .none kV_law dc_law pm_law an_law cd_law ct_law, [(c_law_tree_so, Pt)], spOf K 1 fsLaw, fun p hp => ?_, fun p hp => ?_, fun p hp => ?_, fun s u => .of_eq rfl, fun H a ns hn _ hT hS => ?_, fun base KB GB TB => ?_⟩
  · rw [List.mem_singleton.mp hp]
    exact tb
  · rw [List.mem_singleton.mp hp]
    exact nP
  · rw [List.mem_singleton.mp hp]
    exact PySem.W.codeHd_of_K KX hd
  · exact law_entry (fun p hp => by rw [List.mem_singleton.mp hp]; exact LamX.TabS.nil (hT _ List.mem_cons_self)) hS hn
  · have D_law_start : Df l.prog w K mg base "_law_start" 1 1 fsStart := df_mk F_law_start (PySem.W.mg_of KX G a_law_start) b_law_start rfl (ok_law_start (w := w) F_law_start T)
    have ok_is_number := (ok_is_number (w := w) (base := base) F_is_number T )
    have D_is_number := (df_mk F_is_number (PySem.W.mg_of KX G a_is_number) b_is_number rfl ok_is_number).imp (fs' := fsIsNum) fun ds kd kx _ => is_num_ok'
    have ok_is_within := (ok_is_within (w := w) (base := base) F_is_within T D_is_number)
    have D_is_within := (df_mk F_is_within (PySem.W.mg_of KX G a_is_within) b_is_within rfl ok_is_within).imp (fs' := fsWithin) fun ds kd kx _ => within_ok'
    have ok_is_log := (ok_is_log (w := w) (base := base) F_is_log T )
    have D_is_log := (df_mk F_is_log (PySem.W.mg_of KX G a_is_log) b_is_log rfl ok_is_log).imp (fs' := fsIsLog) fun ds kd kx _ => is_log_ok'
    have ok_is_name := (ok_is_name (w := w) (base := base) F_is_name T )
    have D_is_name := (df_mk F_is_name (PySem.W.mg_of KX G a_is_name) b_is_name rfl ok_is_name).imp (fs' := fsIsName) fun ds kd kx _ => is_name_ok'
    have ok_is_row := (ok_is_row (w := w) (base := base) F_is_row T )
    have D_is_row := (df_mk F_is_row (PySem.W.mg_of KX G a_is_row) b_is_row rfl ok_is_row).imp (fs' := fsIsRow) fun ds kd kx _ => isRow_ok'
    obtain ⟨_, ⟨⟩, b2_is_tree⟩ := F_is_tree.binds1 (ps := ["value", "depth"]) 2 1 (by simp) rfl fun _ _ _ _ _ _ _ us its h1 h2 => match us, h1, its, h2 with | [_, _], _, [_], _ => ⟨_, rfl, rfl⟩
    have rec_is_tree : ∀ n, Df l.prog w K mg base "is_tree" (n + 2) 2 (fsIsTree n) := fun n => by
      induction n with
      | zero => exact ⟨_, _, _, ⟨fun vs H Q E ⟨G, ds, k, kx, _, _, _, h, _⟩ => (isTree0 h).elim, fun A outer s H args us vs Q E _ _ _ _ ⟨G, ds, k, kx, _, _, _, h, _⟩ => (isTree0 h).elim⟩, PySem.W.mg_of KX G a_is_tree, k_is_tree, b2_is_tree, rfl⟩
      | succ n ih => exact (show n + 1 + 2 = n + 2 + 1 by omega) ▸ (⟨_, _, _, ok_is_tree (w := w) (base := base) F_is_tree T (Nat.le_add_left _ _) D_is_log D_is_name ih D_is_within D_is_row, PySem.W.mg_of KX G a_is_tree, k_is_tree, b2_is_tree, rfl⟩ : Df l.prog w K mg base "is_tree" (n + 2 + 1) 2 _).imp fun ds kd kx _ => isTree_ok'
    have R_is_tree := imp_spOf (fs' := fsIsTree1) (pad_spOf (n := 1) (dds := [.int 12]) (fnR_def (ok_is_tree (w := w) (base := base) F_is_tree T (Nat.le_add_left _ _) D_is_log D_is_name (rec_is_tree 15) D_is_within D_is_row) b_is_tree dr_is_tree) (fun G => .cons (.int _) .nil) rfl) fun ds kd kx h => isTree_ok' (isTree1_ok' (m := 16) (by decide) h)
    have DR_is_tree : DfR l.prog w K mg base "is_tree" 18 1 fsIsTree1 := ⟨_, R_is_tree, PySem.W.mg_of KX G a_is_tree, k_is_tree⟩
    have ok_need_tree := (ok_need_tree (w := w) (base := base) F_need_tree T DR_is_tree)
    have D_need_tree := (df_mk F_need_tree (PySem.W.mg_of KX G a_need_tree) b_need_tree rfl ok_need_tree).imp (fs' := (fsNeedTree C.InvalidTree)) fun ds kd kx _ => needTree_ok'
    have rec_text_of : ∀ n, Df l.prog w K mg base "text_of" (n + 0) 1 (fsTextOf n) := fun n => by
      induction n with
      | zero => exact df_mk F_text_of (PySem.W.mg_of KX G a_text_of) b_text_of rfl ⟨fun vs H Q E ⟨G, ds, k, kx, _, _, _, h, _⟩ => (textOf0 h).elim, fun A outer s H args us vs Q E _ _ _ _ ⟨G, ds, k, kx, _, _, _, h, _⟩ => (textOf0 h).elim⟩
      | succ n ih => exact (show n + 1 + 0 = n + 0 + 1 by omega) ▸ (df_mk (base := base) F_text_of (PySem.W.mg_of KX G a_text_of) b_text_of rfl (ok_text_of (w := w) F_text_of T (Nat.le_add_left _ _) ih)).imp fun ds kd kx _ => textOf_ok'
    have D_text_of := rec_text_of 22
    have ok_script_text := (ok_script_text (w := w) (base := base) F_script_text T D_need_tree D_text_of)
    have D_script_text := (df_mk F_script_text (PySem.W.mg_of KX G a_script_text) b_script_text rfl ok_script_text).imp (fs' := (fsScriptText C.InvalidTree)) fun ds kd kx _ => scriptText_ok' (by decide)
    have R_Reader___init__ := imp_spOi (fs' := (fsRdrI C.Reader)) (fnR_of (ok_Reader___init__ (w := w) (base := base) F_Reader___init__ T ) b_Reader___init__) fun ds kd kx h => rdrI_ok' h
    have Mk_Reader : MkI l.prog w K mg base C.Reader 1 1 (fsRdrI C.Reader) := ⟨_, ⟨ia_Reader, ib_Reader, ic_Reader, id_Reader⟩, R_Reader___init__⟩
    have R_Reader_run := imp_spOi (fs' := (fsRunR C.Reader)) (fnR_of (ok_Reader_run (w := w) (base := base) F_Reader_run T ) b_Reader_run) fun ds kd kx h => run_ok' h
    have MI_Reader_run : MtI l.prog w K mg base C.Reader "run" 1 1 (fsRunR C.Reader) := ⟨⟨kg_Reader, kh_Reader, ko_Reader, ks_Reader⟩, _, ⟨ma_Reader_run, mf_Reader_run, mk_Reader_run⟩, R_Reader_run⟩
    have R_Reader_passed := imp_spOi (fs' := (fsPassed C.Reader)) (fnR_of (ok_Reader_passed (w := w) (base := base) F_Reader_passed T ) b_Reader_passed) fun ds kd kx h => passed_ok' h
    have MI_Reader_passed : MtI l.prog w K mg base C.Reader "passed" 1 1 (fsPassed C.Reader) := ⟨⟨kg_Reader, kh_Reader, ko_Reader, ks_Reader⟩, _, ⟨ma_Reader_passed, mf_Reader_passed, mk_Reader_passed⟩, R_Reader_passed⟩
    have ring : ∀ n, MtI l.prog w K mg base C.Reader "row" (3 * n + 1) 1 (fsScRow C.Reader C.InvalidText n) := fun n => by
      induction n with
      | zero => exact ⟨⟨kg_Reader, kh_Reader, ko_Reader, ks_Reader⟩, _, ⟨ma_Reader_row, mf_Reader_row, mk_Reader_row⟩, fun A outer s H us vs Q E hr e0 r h => (ring0 h).elim⟩
      | succ n ih =>
        have MA : MtI l.prog w K mg base C.Reader "atom" (3 * n + 1 + 1) 1 (fsScAtom C.Reader C.InvalidText n) := ⟨⟨kg_Reader, kh_Reader, ko_Reader, ks_Reader⟩, _, ⟨ma_Reader_atom, mf_Reader_atom, mk_Reader_atom⟩, imp_spOi (fnR_of (ok_Reader_atom (w := w) (base := base) F_Reader_atom T (Nat.le_add_left _ _) D_is_name MI_Reader_passed ih MI_Reader_run) b_Reader_atom) fun ds kd kx h => atom_ok' h⟩
        have MP : MtI l.prog w K mg base C.Reader "powers" (3 * n + 1 + 1 + 1) 1 (fsScPow C.Reader C.InvalidText n) := ⟨⟨kg_Reader, kh_Reader, ko_Reader, ks_Reader⟩, _, ⟨ma_Reader_powers, mf_Reader_powers, mk_Reader_powers⟩, imp_spOi (fnR_of (ok_Reader_powers (w := w) (base := base) F_Reader_powers T (Nat.le_add_left _ _) MA MI_Reader_passed MI_Reader_run) b_Reader_powers) fun ds kd kx h => scPow_ok' h⟩
        have MR : MtI l.prog w K mg base C.Reader "row" (3 * n + 1 + 1 + 1 + 1) 1 (fsScRow C.Reader C.InvalidText (n + 1)) := ⟨⟨kg_Reader, kh_Reader, ko_Reader, ks_Reader⟩, _, ⟨ma_Reader_row, mf_Reader_row, mk_Reader_row⟩, imp_spOi (fnR_of (ok_Reader_row (w := w) (base := base) F_Reader_row T (Nat.le_add_left _ _) MP MI_Reader_passed) b_Reader_row) fun ds kd kx h => scRow_ok' h⟩
        exact (show 3 * (n + 1) + 1 = 3 * n + 1 + 1 + 1 + 1 by omega) ▸ MR
    have MI_Reader_row : MtI l.prog w K mg base C.Reader "row" 43 1 (fsScRow C.Reader C.InvalidText 14) := ring 14
    have ok_read_script := (ok_read_script (w := w) (base := base) F_read_script T D_text_of Mk_Reader MI_Reader_row DR_is_tree)
    have D_read_script := (df_mk F_read_script (PySem.W.mg_of KX G a_read_script) b_read_script rfl ok_read_script).imp (fs' := (fsReadS C.InvalidText)) fun ds kd kx _ => readS_ok' (by decide)
    have D_law_pull : Df l.prog w K mg base "_law_pull" 1 2 fsPull := df_mk F_law_pull (PySem.W.mg_of KX G a_law_pull) b_law_pull rfl (pull_conv (ok_law_pull (w := w) F_law_pull T) rfl pull_ok')
    have ok_law_pick := (ok_law_pick (w := w) (base := base) F_law_pick T D_law_pull)
    have D_law_pick := (df_mk F_law_pick (PySem.W.mg_of KX G a_law_pick) b_law_pick rfl ok_law_pick).imp (fs' := fsPick) fun ds kd kx _ => pick_ok'
    have ok_law_name := (ok_law_name (w := w) (base := base) F_law_name T D_law_pick D_law_pull)
    have D_law_name := (df_mk F_law_name (PySem.W.mg_of KX G a_law_name) b_law_name rfl ok_law_name).imp (fs' := fsNameS) fun ds kd kx _ => nameS_ok'
    have same : ∀ n, Df l.prog w K mg base "_law_same" n 2 (fsSame n) := fun n => by
      induction n with
      | zero => exact df_mk F_law_same (PySem.W.mg_of KX G a_law_same) b_law_same rfl same_zero
      | succ n ih => exact (df_mk (base := base) F_law_same (PySem.W.mg_of KX G a_law_same) b_law_same rfl (ok_law_same (w := w) F_law_same T (Nat.zero_le n) ih)).imp fun ds kd kx _ => same_ok'
    have D_law_same := same 16
    have ok_law_tree_so := (ok_law_tree_so (w := w) (base := base) l_law_tree_so c_law_tree_so_ (TB _ List.mem_cons_self) List.mem_cons_self T D_read_script D_script_text D_law_same F_law_asked (PySem.W.mg_of KX G a_law_asked) b_law_asked DR_is_tree)
    have D_law_tree_so := (df_mk F_law_tree_so (PySem.W.mg_of KX G a_law_tree_so) b_law_tree_so rfl ok_law_tree_so).imp (fs' := fsTreeSo) fun ds kd kx _ => treeSo_ok' ⟨XF_InvalidText, (by
      show PySem.W.exmAny K (.ref C_InvalidText) [.ref C_InvalidName, .ref C_DuplicateName, .ref C_WrongSort, .ref C_Circular, .ref C_UnknownName] = some false
      simp only [PySem.W.exmAny, e_InvalidText_InvalidName, e_InvalidText_DuplicateName, e_InvalidText_WrongSort, e_InvalidText_Circular, e_InvalidText_UnknownName]
      rfl), (by
      show PySem.W.exmAny K (.ref C_InvalidText) [.ref C_InvalidDeed, .ref C_InvalidStand, .ref C_InvalidLimit] = some false
      simp only [PySem.W.exmAny, e_InvalidText_InvalidDeed, e_InvalidText_InvalidStand, e_InvalidText_InvalidLimit]
      rfl), (by
      show PySem.W.exmAny K (.ref C_InvalidText) [.ref C_InvalidStore, .ref C_InvalidCommand] = some false
      simp only [PySem.W.exmAny, e_InvalidText_InvalidStore, e_InvalidText_InvalidCommand]
      rfl), (by
      show PySem.W.exmAny K (.ref C_InvalidText) [.ref C_TooMany, .ref C_Full] = some false
      simp only [PySem.W.exmAny, e_InvalidText_TooMany, e_InvalidText_Full]
      rfl), e_InvalidText_ForeignDeed, e_InvalidText_InUse, e_InvalidText_InvalidPage, (by
      show PySem.W.exmAny K (.ref C_InvalidText) [.ref C_LogError, .ref C_NothingLeft] = some true
      simp only [PySem.W.exmAny, e_InvalidText_LogError, e_InvalidText_NothingLeft]
      rfl)⟩ ⟨XF_InvalidTree, (by
      show PySem.W.exmAny K (.ref C_InvalidTree) [.ref C_InvalidName, .ref C_DuplicateName, .ref C_WrongSort, .ref C_Circular, .ref C_UnknownName] = some false
      simp only [PySem.W.exmAny, e_InvalidTree_InvalidName, e_InvalidTree_DuplicateName, e_InvalidTree_WrongSort, e_InvalidTree_Circular, e_InvalidTree_UnknownName]
      rfl), (by
      show PySem.W.exmAny K (.ref C_InvalidTree) [.ref C_InvalidDeed, .ref C_InvalidStand, .ref C_InvalidLimit] = some false
      simp only [PySem.W.exmAny, e_InvalidTree_InvalidDeed, e_InvalidTree_InvalidStand, e_InvalidTree_InvalidLimit]
      rfl), (by
      show PySem.W.exmAny K (.ref C_InvalidTree) [.ref C_InvalidStore, .ref C_InvalidCommand] = some false
      simp only [PySem.W.exmAny, e_InvalidTree_InvalidStore, e_InvalidTree_InvalidCommand]
      rfl), (by
      show PySem.W.exmAny K (.ref C_InvalidTree) [.ref C_TooMany, .ref C_Full] = some false
      simp only [PySem.W.exmAny, e_InvalidTree_TooMany, e_InvalidTree_Full]
      rfl), e_InvalidTree_ForeignDeed, e_InvalidTree_InUse, e_InvalidTree_InvalidPage, (by
      show PySem.W.exmAny K (.ref C_InvalidTree) [.ref C_LogError, .ref C_NothingLeft] = some true
      simp only [PySem.W.exmAny, e_InvalidTree_LogError, e_InvalidTree_NothingLeft]
      rfl)⟩
    have rec_law_script : ∀ n, Df l.prog w K mg base "_law_script" (n + 0) 1 (fsTextOf n) := fun n => by
      induction n with
      | zero => exact df_mk F_law_script (PySem.W.mg_of KX G a_law_script) b_law_script rfl ⟨fun vs H Q E ⟨G, ds, k, kx, _, _, _, h, _⟩ => (textOf0 h).elim, fun A outer s H args us vs Q E _ _ _ _ ⟨G, ds, k, kx, _, _, _, h, _⟩ => (textOf0 h).elim⟩
      | succ n ih => exact (show n + 1 + 0 = n + 0 + 1 by omega) ▸ (df_mk (base := base) F_law_script (PySem.W.mg_of KX G a_law_script) b_law_script rfl (ok_law_script (w := w) F_law_script T (Nat.le_add_left _ _) ih)).imp fun ds kd kx _ => script_ok'
    have D_law_script := rec_law_script 16
    refine (ok_law (w := w) (base := base) F_law T D_law_start D_law_pick D_law_pull D_law_name D_law_tree_so D_law_script).imp fun vs H Q E ⟨G, ds, k, kx, a, b, c, d, e⟩ => ⟨G, ds, k, kx, a, b, c, law_ok' d, e⟩
end K71
def PySem.W.Fast.tw6085515127211776760 : Unit := ()
def PySem.W.Fast.tw12339818667087541812 : Unit := ()
def PySem.W.Fast.tw15746727244080040968 : Unit := ()
def PySem.W.Fast.tw17195141015438715426 : Unit := ()
def PySem.W.Fast.tw8586236425755309307 : Unit := ()
def PySem.W.Fast.tw16954307236461097280 : Unit := ()
def PySem.W.Fast.tw9469388537135777430 : Unit := ()
def PySem.W.Fast.tw5103188452735933931 : Unit := ()
def PySem.W.Fast.tw10339449827567060915 : Unit := ()
def PySem.W.Fast.tw13027749824308624132 : Unit := ()
def PySem.W.Fast.tw4345426544660141074 : Unit := ()
def PySem.W.Fast.tw5707179519636798189 : Unit := ()
def PySem.W.Fast.tw13642267397923165719 : Unit := ()
def PySem.W.Fast.tw14201210384226011701 : Unit := ()
def PySem.W.Fast.tw7645156811283454500 : Unit := ()
def PySem.W.Fast.tw11962542298836006270 : Unit := ()
def PySem.W.Fast.tw17860744138619202913 : Unit := ()
def PySem.W.Fast.tw1756977553585431557 : Unit := ()
def PySem.W.Fast.tw9476467690796261747 : Unit := ()
def PySem.W.Fast.tw15886324264959251479 : Unit := ()
def PySem.W.Fast.tw2169531857169182658 : Unit := ()
def PySem.W.Fast.tw5200905601069154120 : Unit := ()
def PySem.W.Fast.tw14282971439504982491 : Unit := ()
def PySem.W.Fast.tw15233013748166663788 : Unit := ()
def PySem.W.Fast.tw5348414636779828957 : Unit := ()
def PySem.W.Fast.tw16363599727204494426 : Unit := ()
def PySem.W.Fast.tw4225395797493441009 : Unit := ()
def PySem.W.Fast.tw1495271152734070955 : Unit := ()
def PySem.W.Fast.tw10159162157084007783 : Unit := ()
def PySem.W.Fast.tw13276657680835205794 : Unit := ()
def PySem.W.Fast.tw13966544789223321144 : Unit := ()
def PySem.W.Fast.tw10112278977866401233 : Unit := ()
def PySem.W.Fast.tw16410648254077528600 : Unit := ()
def PySem.W.Fast.tw12126948456723133801 : Unit := ()
def PySem.W.Fast.tw14239771942415437585 : Unit := ()
def PySem.W.Fast.tw6659145300028400659 : Unit := ()
def PySem.W.Fast.tw2403537580323403713 : Unit := ()
def PySem.W.Fast.tw5265338385041034610 : Unit := ()
def PySem.W.Fast.tw13400257975914614505 : Unit := ()
def PySem.W.Fast.tw5821628994011298163 : Unit := ()
def PySem.W.Fast.tw18409374836241378712 : Unit := ()
def PySem.W.Fast.tw5562071531591309378 : Unit := ()
def PySem.W.Fast.tw17519451630419223580 : Unit := ()
def PySem.W.Fast.tw7098076819756698878 : Unit := ()
def PySem.W.Fast.tw8909752578346642561 : Unit := ()
def PySem.W.Fast.tw884499392891235361 : Unit := ()
def PySem.W.Fast.tw13864459862679158786 : Unit := ()
def PySem.W.Fast.tw16051104646175312033 : Unit := ()
def PySem.W.Fast.tw7676620276204618095 : Unit := ()
def PySem.W.Fast.tw3707877647932369588 : Unit := ()
def PySem.W.Fast.tw13257150792826210302 : Unit := ()
def PySem.W.Fast.tw17140423114446702028 : Unit := ()
def PySem.W.Fast.tw13812415661056860170 : Unit := ()
def PySem.W.Fast.tw14303647991700105310 : Unit := ()
def PySem.W.Fast.tw5280710018796716110 : Unit := ()
def PySem.W.Fast.tw5508985047944827467 : Unit := ()
def PySem.W.Fast.tw8333667550995199047 : Unit := ()
def PySem.W.Fast.tw9814587878003898496 : Unit := ()
def PySem.W.Fast.tw10315254961988209738 : Unit := ()
def PySem.W.Fast.tw9800032046804029502 : Unit := ()
def PySem.W.Fast.tw7544807069031510366 : Unit := ()
def PySem.W.Fast.tw4477182729834457961 : Unit := ()
def PySem.W.Fast.tw11834268653785758938 : Unit := ()
def PySem.W.Fast.tw9044548223840909996 : Unit := ()
def PySem.W.Fast.tw1895900194204478746 : Unit := ()
def PySem.W.Fast.tw1180568231784531640 : Unit := ()
def PySem.W.Fast.tw17159399806893728451 : Unit := ()
def PySem.W.Fast.tw17923485989745953257 : Unit := ()
def PySem.W.Fast.tw632494601968236784 : Unit := ()
def PySem.W.Fast.tw4101300006896808696 : Unit := ()
def PySem.W.Fast.tw3448663923928641962 : Unit := ()
def PySem.W.Fast.tw16971807860593313770 : Unit := ()
def PySem.W.Fast.tw2831172130773262480 : Unit := ()
def PySem.W.Fast.tw6229509097295179269 : Unit := ()
def PySem.W.Fast.tw10260272488949345425 : Unit := ()
def PySem.W.Fast.tw9464960502956624485 : Unit := ()
def PySem.W.Fast.tw13394645995728087224 : Unit := ()
def PySem.W.Fast.tw3525660055718152818 : Unit := ()
def PySem.W.Fast.tw12189305044292400062 : Unit := ()
def PySem.W.Fast.tw12221741684436050752 : Unit := ()
def PySem.W.Fast.tw4734285827002632246 : Unit := ()
def PySem.W.Fast.tw3623143071776224137 : Unit := ()
def PySem.W.Fast.tw15038477329854377087 : Unit := ()
def PySem.W.Fast.tw13850078459598133716 : Unit := ()
def PySem.W.Fast.tw13052685579554062567 : Unit := ()
def PySem.W.Fast.tw4268866748991343537 : Unit := ()
def PySem.W.Fast.tw2779689754106289354 : Unit := ()
def PySem.W.Fast.tw4782729985752248160 : Unit := ()
def PySem.W.Fast.tw1254875457804532608 : Unit := ()
def PySem.W.Fast.tw11068484131378738437 : Unit := ()
def PySem.W.Fast.tw17522113233105584296 : Unit := ()
def PySem.W.Fast.tw13588769911102304143 : Unit := ()
def PySem.W.Fast.tw17319741490171962140 : Unit := ()
def PySem.W.Fast.tw14187787284544567209 : Unit := ()
def PySem.W.Fast.tw14136689693429395083 : Unit := ()
def PySem.W.Fast.tw13671212585119478619 : Unit := ()
def PySem.W.Fast.tw3141082584921993968 : Unit := ()
def PySem.W.Fast.tw563854593100115194 : Unit := ()
def PySem.W.Fast.tw13718817525990849892 : Unit := ()
def PySem.W.Fast.tw188714484313185670 : Unit := ()
def PySem.W.Fast.tw3536650040955320143 : Unit := ()
def PySem.W.Fast.tw6723652934498423966 : Unit := ()
def PySem.W.Fast.tw14907608480290187842 : Unit := ()
def PySem.W.Fast.tw18234179533881842523 : Unit := ()
def PySem.W.Fast.tw15164668858848675546 : Unit := ()
def PySem.W.Fast.tw16351981483665864202 : Unit := ()
def PySem.W.Fast.tw12364830109110560132 : Unit := ()
def PySem.W.Fast.tw5850278662572183261 : Unit := ()
def PySem.W.Fast.tw8948367871635860720 : Unit := ()
def PySem.W.Fast.tw3597391467328528918 : Unit := ()
def PySem.W.Fast.tw12786068217692767236 : Unit := ()
def PySem.W.Fast.tw5318304812883706458 : Unit := ()
def PySem.W.Fast.tw13598627644103792477 : Unit := ()
def PySem.W.Fast.tw2817662724766093819 : Unit := ()
def PySem.W.Fast.tw15802328108555114153 : Unit := ()
def PySem.W.Fast.tw14362275535331762005 : Unit := ()
def PySem.W.Fast.tw9343410312786596616 : Unit := ()
def PySem.W.Fast.tw17422114606823481509 : Unit := ()
def PySem.W.Fast.tw13044307773807890335 : Unit := ()
def PySem.W.Fast.tw16489304992832959715 : Unit := ()
def PySem.W.Fast.tw13539538693395364999 : Unit := ()
def PySem.W.Fast.tw4435500756561274662 : Unit := ()
def PySem.W.Fast.tw7726513350369112462 : Unit := ()
def PySem.W.Fast.tw6649382299397258858 : Unit := ()
def PySem.W.Fast.tw11336124320181039880 : Unit := ()
def PySem.W.Fast.tw12390162265771781465 : Unit := ()
def PySem.W.Fast.tw1496004836076862758 : Unit := ()
def PySem.W.Fast.tw2801223934877038277 : Unit := ()
def PySem.W.Fast.tw3733472245091618328 : Unit := ()
def PySem.W.Fast.tw16440524499113430711 : Unit := ()
def PySem.W.Fast.tw15359080475095541313 : Unit := ()
def PySem.W.Fast.tw7040286596880283364 : Unit := ()
def PySem.W.Fast.tw3938782841485844420 : Unit := ()
def PySem.W.Fast.tw865216983381224128 : Unit := ()
def PySem.W.Fast.tw16548502232448043452 : Unit := ()
def PySem.W.Fast.tw11631138778450231272 : Unit := ()
def PySem.W.Fast.tw8634759969499000447 : Unit := ()
def PySem.W.Fast.tw18007404652072187538 : Unit := ()
def PySem.W.Fast.tw17618972115921447970 : Unit := ()
def PySem.W.Fast.tw9433298237955391131 : Unit := ()
def PySem.W.Fast.tw9380511668206205939 : Unit := ()
def PySem.W.Fast.tw9587748066081341523 : Unit := ()
def PySem.W.Fast.tw12594335676960315787 : Unit := ()
def PySem.W.Fast.tw15595928314890291317 : Unit := ()
def PySem.W.Fast.tw14396697656857384816 : Unit := ()
def PySem.W.Fast.tw8427630836455200019 : Unit := ()
def PySem.W.Fast.tw10847190041233504993 : Unit := ()
def PySem.W.Fast.tw1073278518219412431 : Unit := ()
def PySem.W.Fast.tw4951800692981447549 : Unit := ()
def PySem.W.Fast.tw13371644623504520233 : Unit := ()
def PySem.W.Fast.tw6721647230010394180 : Unit := ()
def PySem.W.Fast.tw16965291069124285840 : Unit := ()
def PySem.W.Fast.tw12073740934962182760 : Unit := ()
def PySem.W.Fast.tw1487024907279819047 : Unit := ()
def PySem.W.Fast.tw1424566042617473231 : Unit := ()
def PySem.W.Fast.tw5497892459430137053 : Unit := ()
def PySem.W.Fast.tw10397565852093532442 : Unit := ()
def PySem.W.Fast.tw12768125886873840110 : Unit := ()
def PySem.W.Fast.tw12120823387848497772 : Unit := ()
def PySem.W.Fast.tw8003168049312824229 : Unit := ()
def PySem.W.Fast.tw8407363031711875468 : Unit := ()
def PySem.W.Fast.tw5330241829932964400 : Unit := ()
def PySem.W.Fast.tw12150348489131102170 : Unit := ()
def PySem.W.Fast.tw11856263313490699922 : Unit := ()
def PySem.W.Fast.tw5145308336407890435 : Unit := ()
def PySem.W.Fast.tw12699558620212528300 : Unit := ()
def PySem.W.Fast.tw11339435094758272423 : Unit := ()
def PySem.W.Fast.tw1363132906554051784 : Unit := ()
def PySem.W.Fast.tw13253331305377174269 : Unit := ()
def PySem.W.Fast.tw16511908778722493489 : Unit := ()
def PySem.W.Fast.tw11643944375758794677 : Unit := ()
def PySem.W.Fast.tw5835499380406951520 : Unit := ()
def PySem.W.Fast.tw10402962352468099136 : Unit := ()
def PySem.W.Fast.tw8466894177546913110 : Unit := ()
def PySem.W.Fast.tw7278586871755580581 : Unit := ()
def PySem.W.Fast.tw13959977920168604523 : Unit := ()
def PySem.W.Fast.tw7492268838691672828 : Unit := ()
def PySem.W.Fast.tw17623761259027443170 : Unit := ()
def PySem.W.Fast.tw955435064639052214 : Unit := ()
def PySem.W.Fast.tw15247805199009866230 : Unit := ()
def PySem.W.Fast.tw14663444543499266045 : Unit := ()
def PySem.W.Fast.tw11431842497880362185 : Unit := ()
def PySem.W.Fast.tw13955952434652584413 : Unit := ()
def PySem.W.Fast.tw7675282581039163903 : Unit := ()
def PySem.W.Fast.tw3915928799681464727 : Unit := ()
def PySem.W.Fast.tw11266631704757680756 : Unit := ()
def PySem.W.Fast.tw16602878290453244063 : Unit := ()
def PySem.W.Fast.tw15949468593940093300 : Unit := ()
def PySem.W.Fast.tw1737190789260926148 : Unit := ()
def PySem.W.Fast.tw6591680615729174418 : Unit := ()
def PySem.W.Fast.tw15270451758907954456 : Unit := ()
def PySem.W.Fast.tw267812558985088467 : Unit := ()
def PySem.W.Fast.tw2359993191192065985 : Unit := ()
def PySem.W.Fast.tw12683927120964546562 : Unit := ()
def PySem.W.Fast.tw15815785573622096753 : Unit := ()
def PySem.W.Fast.tw3263842274197772438 : Unit := ()
def PySem.W.Fast.tw938143275867389466 : Unit := ()
def PySem.W.Fast.tw11750059365292238663 : Unit := ()
def PySem.W.Fast.tw14757253504660858501 : Unit := ()
def PySem.W.Fast.tw18346935310851588669 : Unit := ()
def PySem.W.Fast.tw8311215366569836707 : Unit := ()
def PySem.W.Fast.tw10893942194653810122 : Unit := ()
def PySem.W.Fast.tw12797119479014369237 : Unit := ()
def PySem.W.Fast.tw8059089740442885762 : Unit := ()
def PySem.W.Fast.tw1350665439956265871 : Unit := ()
def PySem.W.Fast.tw5330793886125018736 : Unit := ()
def PySem.W.Fast.tw16983978505379298848 : Unit := ()
def PySem.W.Fast.tw7375208291836676208 : Unit := ()
def PySem.W.Fast.tw11222384531853136810 : Unit := ()
def PySem.W.Fast.tw14787351551295627794 : Unit := ()
def PySem.W.Fast.tw11627537031362701698 : Unit := ()
def PySem.W.Fast.tw2751408518999366912 : Unit := ()
def PySem.W.Fast.tw17400753575912398006 : Unit := ()
def PySem.W.Fast.tw2532735499611111833 : Unit := ()
def PySem.W.Fast.tw7436977681090696403 : Unit := ()
def PySem.W.Fast.tw5169608610702511262 : Unit := ()
def PySem.W.Fast.tw17591186306119304758 : Unit := ()
def PySem.W.Fast.tw2929545669326332661 : Unit := ()
def PySem.W.Fast.tw13129246468572168725 : Unit := ()
def PySem.W.Fast.tw4544412289421107361 : Unit := ()
def PySem.W.Fast.tw7900359916823269299 : Unit := ()
def PySem.W.Fast.tw13677559313718786517 : Unit := ()
def PySem.W.Fast.tw6159311947917613581 : Unit := ()
def PySem.W.Fast.tw5335522346870447118 : Unit := ()
def PySem.W.Fast.tw6679245700439651902 : Unit := ()
def PySem.W.Fast.tw6645059801687436369 : Unit := ()
def PySem.W.Fast.tw6881344359611113836 : Unit := ()
def PySem.W.Fast.tw5244203442553646250 : Unit := ()
def PySem.W.Fast.tw4175016410542332843 : Unit := ()
def PySem.W.Fast.tw18024219674247974569 : Unit := ()
def PySem.W.Fast.tw746488100899267556 : Unit := ()
def PySem.W.Fast.tw4409110576592022367 : Unit := ()
def PySem.W.Fast.tw17700830674025530777 : Unit := ()
def PySem.W.Fast.tw13792608957411174654 : Unit := ()
def PySem.W.Fast.tw10939775022993226168 : Unit := ()
def PySem.W.Fast.tw9048048200980294452 : Unit := ()
def PySem.W.Fast.tw1774216169028153157 : Unit := ()
def PySem.W.Fast.tw2193851275863369359 : Unit := ()
def PySem.W.Fast.tw17727888049347345608 : Unit := ()
def PySem.W.Fast.tw18201622518986755842 : Unit := ()
def PySem.W.Fast.tw3473376390647008477 : Unit := ()
def PySem.W.Fast.tw16082480651189303790 : Unit := ()
def PySem.W.Fast.tw4105231456942032181 : Unit := ()
def PySem.W.Fast.tw11987379451692722098 : Unit := ()
def PySem.W.Fast.tw15477387608038649808 : Unit := ()
def PySem.W.Fast.tw2234287515822532705 : Unit := ()
def PySem.W.Fast.tw13612103823241480037 : Unit := ()
def PySem.W.Fast.tw13860853965556341051 : Unit := ()
def PySem.W.Fast.tw10428571298079419274 : Unit := ()
def PySem.W.Fast.tw10425219090369143854 : Unit := ()
def PySem.W.Fast.tw16851190225384753008 : Unit := ()
def PySem.W.Fast.tw14784758085592567607 : Unit := ()
def PySem.W.Fast.tw550190284216453068 : Unit := ()
def PySem.W.Fast.tw16960618060797537453 : Unit := ()
def PySem.W.Fast.tw7690270282592809632 : Unit := ()
def PySem.W.Fast.tw15634406760050020899 : Unit := ()
def PySem.W.Fast.tw5555009459698658943 : Unit := ()
def PySem.W.Fast.tw2795697982269612146 : Unit := ()
def PySem.W.Fast.tw2006421452081823083 : Unit := ()
def PySem.W.Fast.tw16358950753892469082 : Unit := ()
def PySem.W.Fast.tw18105130149744199290 : Unit := ()
def PySem.W.Fast.tw16498482129565005804 : Unit := ()
def PySem.W.Fast.tw11742492836027835763 : Unit := ()
def PySem.W.Fast.tw2470573226893838447 : Unit := ()
def PySem.W.Fast.tw10407763719509662390 : Unit := ()
def PySem.W.Fast.tw12295198887529228638 : Unit := ()
def PySem.W.Fast.tw15552039867062953028 : Unit := ()
def PySem.W.Fast.tw13057318067524397337 : Unit := ()
def PySem.W.Fast.tw13788950717721337565 : Unit := ()
def PySem.W.Fast.tw17589785011556239122 : Unit := ()
def PySem.W.Fast.tw2699622548650986716 : Unit := ()
def PySem.W.Fast.tw17050456150394975097 : Unit := ()
def PySem.W.Fast.tw11824454190372091482 : Unit := ()
def PySem.W.Fast.tw2196056675616699174 : Unit := ()
def PySem.W.Fast.tw16791614226524709597 : Unit := ()
def PySem.W.Fast.tw13586685836331741127 : Unit := ()
def PySem.W.Fast.tw3752261533521994147 : Unit := ()
def PySem.W.Fast.tw16079655519718157513 : Unit := ()
def PySem.W.Fast.tw17150345865443054604 : Unit := ()
def PySem.W.Fast.tw17118481514767620324 : Unit := ()
def PySem.W.Fast.tw12107485729256182125 : Unit := ()
def PySem.W.Fast.tw14069204611685399649 : Unit := ()
def PySem.W.Fast.tw11607603818402462725 : Unit := ()
def PySem.W.Fast.tw16975573061627887060 : Unit := ()
def PySem.W.Fast.tw16302253846538648786 : Unit := ()
def PySem.W.Fast.tw679154938287373528 : Unit := ()
def PySem.W.Fast.tw8583285651541217899 : Unit := ()
def PySem.W.Fast.tw16096475973273433612 : Unit := ()
def PySem.W.Fast.tw12523207871814245709 : Unit := ()
def PySem.W.Fast.tw16060575403565026157 : Unit := ()
def PySem.W.Fast.tw5977451467188787423 : Unit := ()
def PySem.W.Fast.tw8401457349746430730 : Unit := ()
def PySem.W.Fast.tw6204029894109098256 : Unit := ()
def PySem.W.Fast.tw16534540178687274872 : Unit := ()
def PySem.W.Fast.tw7732426005504778340 : Unit := ()
def PySem.W.Fast.tw4920374138695196841 : Unit := ()
def PySem.W.Fast.tw2153996954686493891 : Unit := ()
def PySem.W.Fast.tw8050338973741715068 : Unit := ()
def PySem.W.Fast.tw17711792894123356801 : Unit := ()
def PySem.W.Fast.tw2659523156671756378 : Unit := ()
def PySem.W.Fast.tw10985226879823136468 : Unit := ()
def PySem.W.Fast.tw9892981084543150649 : Unit := ()
def PySem.W.Fast.tw13700396974927431626 : Unit := ()
def PySem.W.Fast.tw9546062630056319283 : Unit := ()
def PySem.W.Fast.tw5602189455676410663 : Unit := ()
def PySem.W.Fast.tw9387238886614454452 : Unit := ()
def PySem.W.Fast.tw5985802752472051086 : Unit := ()
def PySem.W.Fast.tw4135244709434453969 : Unit := ()
def PySem.W.Fast.tw7951312767397854412 : Unit := ()
def PySem.W.Fast.tw15538054859903875975 : Unit := ()
def PySem.W.Fast.tw13451962719284363804 : Unit := ()
def PySem.W.Fast.tw13949077800715168166 : Unit := ()
def PySem.W.Fast.tw15141046916898154218 : Unit := ()
def PySem.W.Fast.tw13258800489119842538 : Unit := ()
def PySem.W.Fast.tw6693642109790634100 : Unit := ()
def PySem.W.Fast.tw13908099899007072363 : Unit := ()
def PySem.W.Fast.tw6952893401259463460 : Unit := ()
def PySem.W.Fast.tw16582293181041132730 : Unit := ()
def PySem.W.Fast.tw12186202726195757596 : Unit := ()
def PySem.W.Fast.tw1533159199844987832 : Unit := ()
def PySem.W.Fast.tw16567229846505088436 : Unit := ()
def PySem.W.Fast.tw2773809957644582693 : Unit := ()
def PySem.W.Fast.tw7412284334034895496 : Unit := ()
def PySem.W.Fast.tw16204672911466075670 : Unit := ()
def PySem.W.Fast.tw16519199550981198460 : Unit := ()
def PySem.W.Fast.tw5200059419192889595 : Unit := ()
def PySem.W.Fast.tw11785422692578182705 : Unit := ()
def PySem.W.Fast.tw3168082414855878277 : Unit := ()
def PySem.W.Fast.tw14545251488836871910 : Unit := ()
def PySem.W.Fast.tw11749690467584447574 : Unit := ()
def PySem.W.Fast.tw5163239095429120011 : Unit := ()
def PySem.W.Fast.tw502602717339946908 : Unit := ()
def PySem.W.Fast.tw10348873270791387234 : Unit := ()
def PySem.W.Fast.tw5794220153762036428 : Unit := ()
def PySem.W.Fast.tw17286887958798484381 : Unit := ()
def PySem.W.Fast.tw8317914605305131170 : Unit := ()
def PySem.W.Fast.tw8115327280231951719 : Unit := ()
def PySem.W.Fast.tw11425612279243066297 : Unit := ()
def PySem.W.Fast.tw12749251524013862714 : Unit := ()
def PySem.W.Fast.tw17321277997678860269 : Unit := ()
def PySem.W.Fast.tw8971736031837452342 : Unit := ()
def PySem.W.Fast.tw2267940872973185168 : Unit := ()
def PySem.W.Fast.tw5826086132940204271 : Unit := ()
def PySem.W.Fast.tw8325353459668078921 : Unit := ()
def PySem.W.Fast.tw5288285597275743913 : Unit := ()
def PySem.W.Fast.tw13072001946246400617 : Unit := ()
def PySem.W.Fast.tw15728860211533931969 : Unit := ()
def PySem.W.Fast.tw10712732508725828661 : Unit := ()
def PySem.W.Fast.tw13706184473737500246 : Unit := ()
def PySem.W.Fast.tw8667440765129010031 : Unit := ()
def PySem.W.Fast.tw869230768771195294 : Unit := ()
def PySem.W.Fast.tw5921598497322379701 : Unit := ()
def PySem.W.Fast.tw12089017471696833214 : Unit := ()
def PySem.W.Fast.tw12387399673682258991 : Unit := ()
def PySem.W.Fast.tw16515216416089062522 : Unit := ()
def PySem.W.Fast.tw9170905853843088453 : Unit := ()
def PySem.W.Fast.tw5128754677885650410 : Unit := ()
def PySem.W.Fast.tw8374561759632150784 : Unit := ()
def PySem.W.Fast.tw423440802404889149 : Unit := ()
def PySem.W.Fast.tw16460227339529114533 : Unit := ()
def PySem.W.Fast.tw15868012372432449918 : Unit := ()
def PySem.W.Fast.tw16530146423584105534 : Unit := ()
def PySem.W.Fast.tw9177681163702401228 : Unit := ()
def PySem.W.Fast.tw9032351855706885661 : Unit := ()
def PySem.W.Fast.tw9468545355550124904 : Unit := ()
def PySem.W.Fast.tw14590438987202772364 : Unit := ()
def PySem.W.Fast.tw6076162828174866304 : Unit := ()
def PySem.W.Fast.tw8011063777734765291 : Unit := ()
def PySem.W.Fast.tw86553460725515800 : Unit := ()
def PySem.W.Fast.tw16509363561896993866 : Unit := ()
def PySem.W.Fast.tw1957613797987559118 : Unit := ()
def PySem.W.Fast.tw9083739955902420445 : Unit := ()
def PySem.W.Fast.tw6206354247458883991 : Unit := ()
def PySem.W.Fast.tw17459999467846410821 : Unit := ()
def PySem.W.Fast.tw10288566606376589480 : Unit := ()
def PySem.W.Fast.tw18024513654260819320 : Unit := ()
def PySem.W.Fast.tw16041041143135934407 : Unit := ()
def PySem.W.Fast.tw8187670681532433555 : Unit := ()
def PySem.W.Fast.tw2737525858206676718 : Unit := ()
def PySem.W.Fast.tw3010045053594270834 : Unit := ()
def PySem.W.Fast.tw15664191949416776372 : Unit := ()
def PySem.W.Fast.tw6275863171874254906 : Unit := ()
def PySem.W.Fast.tw4947825136795439663 : Unit := ()
def PySem.W.Fast.tw13667394109359815317 : Unit := ()
def PySem.W.Fast.tw13010332289274104132 : Unit := ()
def PySem.W.Fast.tw11015838212035924148 : Unit := ()
def PySem.W.Fast.tw12939955700337318461 : Unit := ()
def PySem.W.Fast.tw14811714812031646122 : Unit := ()
def PySem.W.Fast.tw16163125159421012151 : Unit := ()
def PySem.W.Fast.tw2056037888459388923 : Unit := ()
def PySem.W.Fast.tw6510309212158125827 : Unit := ()
def PySem.W.Fast.tw13332917481408986777 : Unit := ()
def PySem.W.Fast.tw8441419681715506687 : Unit := ()
def PySem.W.Fast.tw14350568318976048933 : Unit := ()
def PySem.W.Fast.tw11797866459734650744 : Unit := ()
def PySem.W.Fast.tw17666955048385057375 : Unit := ()
def PySem.W.Fast.tw15403932786505591681 : Unit := ()
def PySem.W.Fast.tw16704265594296058196 : Unit := ()
def PySem.W.Fast.tw5449455173338050196 : Unit := ()
def PySem.W.Fast.tw13194908078506968419 : Unit := ()
def PySem.W.Fast.tw15117872187743096774 : Unit := ()
def PySem.W.Fast.tw2750609631167887353 : Unit := ()
def PySem.W.Fast.tw4077113726499124981 : Unit := ()
def PySem.W.Fast.tw11303988680145033686 : Unit := ()
def PySem.W.Fast.tw14773814924376502441 : Unit := ()
def PySem.W.Fast.tw2429685683092046411 : Unit := ()
def PySem.W.Fast.tw14547499505793151211 : Unit := ()
def PySem.W.Fast.tw14486274095766560777 : Unit := ()
def PySem.W.Fast.tw11457639809240318951 : Unit := ()
def PySem.W.Fast.tw14015112057378443100 : Unit := ()
def PySem.W.Fast.tw16827131417417727607 : Unit := ()
def PySem.W.Fast.tw15873307442872589002 : Unit := ()
def PySem.W.Fast.tw7646859255337168231 : Unit := ()
def PySem.W.Fast.tw1133722208992443652 : Unit := ()
def PySem.W.Fast.tw2507796493160710630 : Unit := ()
def PySem.W.Fast.tw2418059232532667065 : Unit := ()
def PySem.W.Fast.tw13902825391376433001 : Unit := ()
def PySem.W.Fast.tw15660353236963800834 : Unit := ()
def PySem.W.Fast.tw4041751067984569782 : Unit := ()
def PySem.W.Fast.tw14757448021322033694 : Unit := ()
def PySem.W.Fast.tw4460850237841861724 : Unit := ()
def PySem.W.Fast.tw4011196988332782262 : Unit := ()
def PySem.W.Fast.tw621944818035020507 : Unit := ()
def PySem.W.Fast.tw17170348709088062882 : Unit := ()
def PySem.W.Fast.tw15498614620509896736 : Unit := ()
def PySem.W.Fast.tw5016783278248315695 : Unit := ()
def PySem.W.Fast.tw2995699039194907007 : Unit := ()
def PySem.W.Fast.tw11546904076073150963 : Unit := ()
def PySem.W.Fast.tw10254680924933057807 : Unit := ()
def PySem.W.Fast.tw7668872977646815135 : Unit := ()
def PySem.W.Fast.tw2772359306510518720 : Unit := ()
def PySem.W.Fast.tw13813731365571133247 : Unit := ()
def PySem.W.Fast.tw6538583669098238873 : Unit := ()
def PySem.W.Fast.tw3648282143107071024 : Unit := ()
def PySem.W.Fast.tw9673575547381319893 : Unit := ()
def PySem.W.Fast.tw6210570636342239241 : Unit := ()
def PySem.W.Fast.tw14907056117005277388 : Unit := ()
def PySem.W.Fast.tw7018057722875228878 : Unit := ()
def PySem.W.Fast.tw10413315646584010882 : Unit := ()
def PySem.W.Fast.tw6363218527351817018 : Unit := ()
def PySem.W.Fast.tw111287676284172931 : Unit := ()
def PySem.W.Fast.tw15890059195272817550 : Unit := ()
def PySem.W.Fast.tw15246957521803435736 : Unit := ()
def PySem.W.Fast.tw17555217085324393588 : Unit := ()
def PySem.W.Fast.tw672916790807733462 : Unit := ()
def PySem.W.Fast.tw6958688545942507718 : Unit := ()
def PySem.W.Fast.tw990487474483358184 : Unit := ()
def PySem.W.Fast.tw13664918731071599103 : Unit := ()
def PySem.W.Fast.tw11548663847283420573 : Unit := ()
def PySem.W.Fast.tw10922196812968849671 : Unit := ()
def PySem.W.Fast.tw9535095503652884946 : Unit := ()
def PySem.W.Fast.tw2797067808020117552 : Unit := ()
def PySem.W.Fast.tw7901216206285464229 : Unit := ()
def PySem.W.Fast.tw7539151987472230293 : Unit := ()
def PySem.W.Fast.tw18142653515385809444 : Unit := ()
def PySem.W.Fast.tw9324399843697609579 : Unit := ()
def PySem.W.Fast.tw17203653428494915456 : Unit := ()
def PySem.W.Fast.tw10586626808807611774 : Unit := ()
def PySem.W.Fast.tw8772198629390852471 : Unit := ()
def PySem.W.Fast.tw9040194021051022911 : Unit := ()
def PySem.W.Fast.tw9382994704396087392 : Unit := ()
def PySem.W.Fast.tw3636216967797544472 : Unit := ()
def PySem.W.Fast.tw3919027370974694897 : Unit := ()
def PySem.W.Fast.tw10988522525094921845 : Unit := ()
def PySem.W.Fast.tw7793256031307602214 : Unit := ()
def PySem.W.Fast.tw9690266630103480929 : Unit := ()
def PySem.W.Fast.tw12132620962273812944 : Unit := ()
def PySem.W.Fast.tw11741752095899424275 : Unit := ()
def PySem.W.Fast.tw8119077923409955094 : Unit := ()
def PySem.W.Fast.tw10052208427469618203 : Unit := ()
def PySem.W.Fast.tw672281660378406057 : Unit := ()
def PySem.W.Fast.tw12828932321628101359 : Unit := ()
def PySem.W.Fast.tw11835407543601100066 : Unit := ()
def PySem.W.Fast.tw16037788780538607945 : Unit := ()
def PySem.W.Fast.tw8513889771844594642 : Unit := ()
def PySem.W.Fast.tw2713240533309811949 : Unit := ()
def PySem.W.Fast.tw5584631188009095368 : Unit := ()
def PySem.W.Fast.tw6023550392781529423 : Unit := ()
def PySem.W.Fast.tw11514294757637766201 : Unit := ()
def PySem.W.Fast.tw16661333873960108284 : Unit := ()
def PySem.W.Fast.tw12666054521802581037 : Unit := ()
def PySem.W.Fast.tw6884917476247467692 : Unit := ()
def PySem.W.Fast.tw14989185888411632632 : Unit := ()
def PySem.W.Fast.tw6587329328738816790 : Unit := ()
def PySem.W.Fast.tw74990198431004327 : Unit := ()
def PySem.W.Fast.tw14066361656109384688 : Unit := ()
def PySem.W.Fast.tw14619530769010316180 : Unit := ()
def PySem.W.Fast.tw6164882856468439601 : Unit := ()
def PySem.W.Fast.tw11164943918020927747 : Unit := ()
def PySem.W.Fast.tw1665861840758822242 : Unit := ()
def PySem.W.Fast.tw8690745457734089143 : Unit := ()
def PySem.W.Fast.tw6428838845668708843 : Unit := ()
def PySem.W.Fast.tw987218093045033934 : Unit := ()
def PySem.W.Fast.tw14670536153367344974 : Unit := ()
def PySem.W.Fast.tw9708880821423754538 : Unit := ()
def PySem.W.Fast.tw16264570877429186473 : Unit := ()
def PySem.W.Fast.tw4187150861780691110 : Unit := ()
def PySem.W.Fast.tw4598567858280601897 : Unit := ()
def PySem.W.Fast.tw5675971054706401559 : Unit := ()
def PySem.W.Fast.tw4128219559518020077 : Unit := ()
def PySem.W.Fast.tw15430686575262858780 : Unit := ()
def PySem.W.Fast.tw1182232915088948820 : Unit := ()
def PySem.W.Fast.tw6035970677015474406 : Unit := ()
def PySem.W.Fast.tw8075185656017898141 : Unit := ()
def PySem.W.Fast.tw17524641859151517779 : Unit := ()
def PySem.W.Fast.tw6521517026430783694 : Unit := ()
def PySem.W.Fast.tw4782491993151722315 : Unit := ()
def PySem.W.Fast.tw1120163234319607810 : Unit := ()
def PySem.W.Fast.tw16480738416819813796 : Unit := ()
def PySem.W.Fast.tw7192560388683344816 : Unit := ()
def PySem.W.Fast.tw2596446365992497146 : Unit := ()
def PySem.W.Fast.tw7281343394369115009 : Unit := ()
def PySem.W.Fast.tw15113999508234348070 : Unit := ()
def PySem.W.Fast.tw8221646754227643201 : Unit := ()
def PySem.W.Fast.tw6215500452391331371 : Unit := ()
def PySem.W.Fast.tw1193517391314470763 : Unit := ()
def PySem.W.Fast.tw2668621946010767005 : Unit := ()
def PySem.W.Fast.tw4200284466072643600 : Unit := ()
def PySem.W.Fast.tw2303646027346357837 : Unit := ()
def PySem.W.Fast.tw16286393739831782698 : Unit := ()
def PySem.W.Fast.tw4348742441534971171 : Unit := ()
def PySem.W.Fast.tw12171403238653523838 : Unit := ()
def PySem.W.Fast.tw13928577823967037194 : Unit := ()
def PySem.W.Fast.tw2920881698003275516 : Unit := ()
def PySem.W.Fast.tw3382385600040971754 : Unit := ()
def PySem.W.Fast.tw11070357598644273233 : Unit := ()
def PySem.W.Fast.tw4632121036792305913 : Unit := ()
def PySem.W.Fast.tw9314376560170920689 : Unit := ()
def PySem.W.Fast.tw14678203607027863895 : Unit := ()
def PySem.W.Fast.tw15047072350048246859 : Unit := ()
def PySem.W.Fast.tw14862281738125475270 : Unit := ()
def PySem.W.Fast.tw8674177183508037736 : Unit := ()
def PySem.W.Fast.tw7090010001045288918 : Unit := ()
def PySem.W.Fast.tw18278289579408652561 : Unit := ()
def PySem.W.Fast.tw5141869742414323068 : Unit := ()
def PySem.W.Fast.tw9608084531861493231 : Unit := ()
def PySem.W.Fast.tw10576078455931207100 : Unit := ()
def PySem.W.Fast.tw16470091475337515869 : Unit := ()
def PySem.W.Fast.tw16065844202077469645 : Unit := ()
def PySem.W.Fast.tw284095352028465196 : Unit := ()
def PySem.W.Fast.tw4370732928693687748 : Unit := ()
def PySem.W.Fast.tw5500381963344658243 : Unit := ()
def PySem.W.Fast.tw6155340869707118909 : Unit := ()
def PySem.W.Fast.tw2936993675199421573 : Unit := ()
def PySem.W.Fast.tw9474020608660580416 : Unit := ()
def PySem.W.Fast.tw839923526859950955 : Unit := ()
def PySem.W.Fast.tw13732064197696097129 : Unit := ()
def PySem.W.Fast.tw17215644611002089325 : Unit := ()
def PySem.W.Fast.tw1426477336063255096 : Unit := ()
def PySem.W.Fast.tw12919581987926798234 : Unit := ()
def PySem.W.Fast.tw12657184678343007294 : Unit := ()
def PySem.W.Fast.tw13854766854512915464 : Unit := ()
def PySem.W.Fast.tw9496460454341799945 : Unit := ()
def PySem.W.Fast.tw15178346908331543386 : Unit := ()
def PySem.W.Fast.tw16291150009693648440 : Unit := ()
def PySem.W.Fast.tw3400930240566864689 : Unit := ()
def PySem.W.Fast.tw11349965593332901744 : Unit := ()
def PySem.W.Fast.tw1032394207970600807 : Unit := ()
def PySem.W.Fast.tw15211706981524237359 : Unit := ()
def PySem.W.Fast.tw10329667195565038378 : Unit := ()
def PySem.W.Fast.tw4733470593425543715 : Unit := ()
def PySem.W.Fast.tw16239111213813336968 : Unit := ()
def PySem.W.Fast.tw11514739976626463251 : Unit := ()
def PySem.W.Fast.tw17739013798981323485 : Unit := ()
def PySem.W.Fast.tw15600070811971237035 : Unit := ()
def PySem.W.Fast.tw13376602073021419189 : Unit := ()
def PySem.W.Fast.tw7715095786964558294 : Unit := ()
def PySem.W.Fast.tw15522999845797833188 : Unit := ()
def PySem.W.Fast.tw11589521822364051685 : Unit := ()
def PySem.W.Fast.tw1184810060540778602 : Unit := ()
def PySem.W.Fast.tw5183618082335535443 : Unit := ()
def PySem.W.Fast.tw4759695130436010765 : Unit := ()
def PySem.W.Fast.tw13376837271865815055 : Unit := ()
def PySem.W.Fast.tw15293509169550275165 : Unit := ()
def PySem.W.Fast.tw18335738196588573239 : Unit := ()
def PySem.W.Fast.tw11779868094765890514 : Unit := ()
def PySem.W.Fast.tw519011127095105342 : Unit := ()
def PySem.W.Fast.tw5074491910454777232 : Unit := ()
def PySem.W.Fast.tw17040692823715329061 : Unit := ()
def PySem.W.Fast.tw6598554704056917634 : Unit := ()
def PySem.W.Fast.tw15353242255844684252 : Unit := ()
def PySem.W.Fast.tw8288621868965491914 : Unit := ()
def PySem.W.Fast.tw16257945579070407177 : Unit := ()
def PySem.W.Fast.tw742084482607806440 : Unit := ()
def PySem.W.Fast.tw13075214626310978294 : Unit := ()
def PySem.W.Fast.tw576939487485239801 : Unit := ()
def PySem.W.Fast.tw10120865907007774434 : Unit := ()
def PySem.W.Fast.tw17254430477627438861 : Unit := ()
def PySem.W.Fast.tw11012761709061092905 : Unit := ()
def PySem.W.Fast.tw1722616765447595882 : Unit := ()
def PySem.W.Fast.tw15229271806450620091 : Unit := ()
def PySem.W.Fast.tw15468189191995084745 : Unit := ()
def PySem.W.Fast.tw7765715292482448390 : Unit := ()
def PySem.W.Fast.tw12810283250132909105 : Unit := ()
def PySem.W.Fast.tw16816604264233037416 : Unit := ()
def PySem.W.Fast.tw13181498597013754150 : Unit := ()
def PySem.W.Fast.tw13789131572697564293 : Unit := ()
def PySem.W.Fast.tw12467647672429265472 : Unit := ()
def PySem.W.Fast.tw12472583982088362525 : Unit := ()
def PySem.W.Fast.tw14003906868754605968 : Unit := ()
def PySem.W.Fast.tw8240601448608305675 : Unit := ()
def PySem.W.Fast.tw1261353556564600576 : Unit := ()
def PySem.W.Fast.tw6243332831878489377 : Unit := ()
def PySem.W.Fast.tw8137604058033927234 : Unit := ()
def PySem.W.Fast.tw2277124444368987564 : Unit := ()
def PySem.W.Fast.tw13835983330071776693 : Unit := ()
def PySem.W.Fast.tw1281481014947604579 : Unit := ()
def PySem.W.Fast.tw15860927532649545056 : Unit := ()
def PySem.W.Fast.tw7971464305117754087 : Unit := ()
def PySem.W.Fast.tw11750186273243749526 : Unit := ()
def PySem.W.Fast.tw7380553638231924944 : Unit := ()
def PySem.W.Fast.tw6281942951660148578 : Unit := ()
def PySem.W.Fast.tw6678195342661430074 : Unit := ()
def PySem.W.Fast.tw18095024392486386833 : Unit := ()
def PySem.W.Fast.tw17347356439813271695 : Unit := ()
def PySem.W.Fast.tw11397286997427091216 : Unit := ()
def PySem.W.Fast.tw13938602107446987846 : Unit := ()
def PySem.W.Fast.tw7415953457939755726 : Unit := ()
def PySem.W.Fast.tw9131524336722419277 : Unit := ()
def PySem.W.Fast.tw10089961800282636691 : Unit := ()
def PySem.W.Fast.tw13208739127053991243 : Unit := ()
def PySem.W.Fast.tw2995486357281934769 : Unit := ()
def PySem.W.Fast.tw5269399530710352614 : Unit := ()
def PySem.W.Fast.tw13060749645257220264 : Unit := ()
def PySem.W.Fast.tw6150475758405958434 : Unit := ()
def PySem.W.Fast.tw17472604055890505513 : Unit := ()
def PySem.W.Fast.tw3585520561284622810 : Unit := ()
def PySem.W.Fast.tw6325569409281951986 : Unit := ()
def PySem.W.Fast.tw4708974893510629408 : Unit := ()
def PySem.W.Fast.tw10621607284468719353 : Unit := ()
def PySem.W.Fast.tw7533653076347889771 : Unit := ()
def PySem.W.Fast.tw14431425111876749858 : Unit := ()
def PySem.W.Fast.tw10476297147472204492 : Unit := ()
def PySem.W.Fast.tw14697277812611341573 : Unit := ()
def PySem.W.Fast.tw7922715436988304485 : Unit := ()
def PySem.W.Fast.tw12414822727818077512 : Unit := ()
def PySem.W.Fast.tw3976872642115128254 : Unit := ()
def PySem.W.Fast.tw1777120228566822067 : Unit := ()
def PySem.W.Fast.tw12284834431410781377 : Unit := ()
def PySem.W.Fast.tw465701399271592737 : Unit := ()
def PySem.W.Fast.tw16068681897228751197 : Unit := ()
def PySem.W.Fast.tw10233382430519183497 : Unit := ()
def PySem.W.Fast.tw27224216202059358 : Unit := ()
def PySem.W.Fast.tw602280797033957396 : Unit := ()
def PySem.W.Fast.tw16966574852402209631 : Unit := ()
def PySem.W.Fast.tw3888158890626064688 : Unit := ()
def PySem.W.Fast.tw10415173236801313538 : Unit := ()
def PySem.W.Fast.tw13529656911147377686 : Unit := ()
def PySem.W.Fast.tw14151784076967867423 : Unit := ()
def PySem.W.Fast.tw16078880875318050122 : Unit := ()
def PySem.W.Fast.tw3353195448368771930 : Unit := ()
def PySem.W.Fast.tw2800421790500740666 : Unit := ()
def PySem.W.Fast.tw10960275674252253946 : Unit := ()
def PySem.W.Fast.tw12809722518505399971 : Unit := ()
def PySem.W.Fast.tw2292864220272746046 : Unit := ()
def PySem.W.Fast.tw15690373594444364757 : Unit := ()
def PySem.W.Fast.tw14763187295718193729 : Unit := ()
def PySem.W.Fast.tw2150669289537878376 : Unit := ()
def PySem.W.Fast.tw3048534905899916844 : Unit := ()
def PySem.W.Fast.tw16294145893360666626 : Unit := ()
def PySem.W.Fast.tw13237631807245065559 : Unit := ()
def PySem.W.Fast.tw4145580536757993714 : Unit := ()
def PySem.W.Fast.tw6450620363071332739 : Unit := ()
def PySem.W.Fast.tw12939090333534685645 : Unit := ()
def PySem.W.Fast.tw2934607082494402119 : Unit := ()
def PySem.W.Fast.tw10877655514715681120 : Unit := ()
def PySem.W.Fast.tw6840307398808170231 : Unit := ()
def PySem.W.Fast.tw9689908099121392010 : Unit := ()
def PySem.W.Fast.tw11584843341646481026 : Unit := ()
def PySem.W.Fast.tw8522384420212836582 : Unit := ()
def PySem.W.Fast.tw5869973116052999236 : Unit := ()
def PySem.W.Fast.tw6259750387242648650 : Unit := ()
def PySem.W.Fast.tw12088992175372499404 : Unit := ()
def PySem.W.Fast.tw5822259448117137692 : Unit := ()
def PySem.W.Fast.tw6139460083812746083 : Unit := ()
def PySem.W.Fast.tw2151507558984589995 : Unit := ()
def PySem.W.Fast.tw11447637548311561412 : Unit := ()
def PySem.W.Fast.tw12199560608820323524 : Unit := ()
def PySem.W.Fast.tw10002060519603313280 : Unit := ()
def PySem.W.Fast.tw194829686736126094 : Unit := ()
def PySem.W.Fast.tw1620695632704331878 : Unit := ()
def PySem.W.Fast.tw3701323964945999007 : Unit := ()
def PySem.W.Fast.tw18110251761029674918 : Unit := ()
def PySem.W.Fast.tw10974347406152202220 : Unit := ()
def PySem.W.Fast.tw5939005746329337958 : Unit := ()
def PySem.W.Fast.tw15568268053928704642 : Unit := ()
def PySem.W.Fast.tw12182255372026838677 : Unit := ()
def PySem.W.Fast.tw16712617388267232952 : Unit := ()
def PySem.W.Fast.tw1073539207718152490 : Unit := ()
def PySem.W.Fast.tw11996692292497936658 : Unit := ()
def PySem.W.Fast.tw4143751971277587984 : Unit := ()
def PySem.W.Fast.tw16386448144502602844 : Unit := ()
def PySem.W.Fast.tw9109708207421970607 : Unit := ()
def PySem.W.Fast.tw16016959641555769395 : Unit := ()
def PySem.W.Fast.tw5345525311327730782 : Unit := ()
def PySem.W.Fast.tw6015096029348787452 : Unit := ()
def PySem.W.Fast.tw9671785072077663648 : Unit := ()
def PySem.W.Fast.tw1575352936691833427 : Unit := ()
def PySem.W.Fast.tw1867335534146150989 : Unit := ()
def PySem.W.Fast.tw2010509704820154174 : Unit := ()
def PySem.W.Fast.tw11107485574337193072 : Unit := ()
def PySem.W.Fast.tw9357208946771078211 : Unit := ()
def PySem.W.Fast.tw7066016684506937656 : Unit := ()
def PySem.W.Fast.tw13344675803060070124 : Unit := ()
def PySem.W.Fast.tw7054326593410369180 : Unit := ()
def PySem.W.Fast.tw2385352913848963887 : Unit := ()
def PySem.W.Fast.tw8207316299993520099 : Unit := ()
def PySem.W.Fast.tw8133948801504491157 : Unit := ()
def PySem.W.Fast.tw11306871219127170680 : Unit := ()
def PySem.W.Fast.tw15573949690706572979 : Unit := ()
def PySem.W.Fast.tw18270781138385174782 : Unit := ()
def PySem.W.Fast.tw9206640134403361035 : Unit := ()
def PySem.W.Fast.tw11965488422643829264 : Unit := ()
def PySem.W.Fast.tw2656804051456762419 : Unit := ()
def PySem.W.Fast.tw5064091536950794236 : Unit := ()
def PySem.W.Fast.tw6455552738614132960 : Unit := ()
def PySem.W.Fast.tw7042488078015213027 : Unit := ()
def PySem.W.Fast.tw6694560046956574290 : Unit := ()
def PySem.W.Fast.tw3609708402988467507 : Unit := ()
def PySem.W.Fast.tw5834089589305870376 : Unit := ()
def PySem.W.Fast.tw13451971713971795062 : Unit := ()
def PySem.W.Fast.tw12911805576803975433 : Unit := ()
def PySem.W.Fast.tw767054367069708378 : Unit := ()
def PySem.W.Fast.tw18027266874104882378 : Unit := ()
def PySem.W.Fast.tw18172335080415128929 : Unit := ()
def PySem.W.Fast.tw15556042306541109823 : Unit := ()
def PySem.W.Fast.tw14618445970065751132 : Unit := ()
def PySem.W.Fast.tw10648733890885474983 : Unit := ()
def PySem.W.Fast.tw12742076148522878624 : Unit := ()
def PySem.W.Fast.tw9195094150537257289 : Unit := ()
def PySem.W.Fast.tw5554596493950470868 : Unit := ()
def PySem.W.Fast.tw17530595630906446198 : Unit := ()
def PySem.W.Fast.tw9566236994235815331 : Unit := ()
def PySem.W.Fast.tw13014109201450786861 : Unit := ()
def PySem.W.Fast.tw9832430095999176385 : Unit := ()
def PySem.W.Fast.tw14127386743964235326 : Unit := ()
def PySem.W.Fast.tw7649006758216918979 : Unit := ()
def PySem.W.Fast.tw2767819829309474645 : Unit := ()
def PySem.W.Fast.tw16110172967048632667 : Unit := ()
def PySem.W.Fast.tw16744084876580619335 : Unit := ()
def PySem.W.Fast.tw9569723289430458228 : Unit := ()
def PySem.W.Fast.tw10194993951157682034 : Unit := ()
def PySem.W.Fast.tw17148855952978751115 : Unit := ()
def PySem.W.Fast.tw12265433240578806082 : Unit := ()
def PySem.W.Fast.tw10917383145163832796 : Unit := ()
def PySem.W.Fast.tw795723102728634177 : Unit := ()
def PySem.W.Fast.tw14659434597254516039 : Unit := ()
def PySem.W.Fast.tw14338680715212754964 : Unit := ()
def PySem.W.Fast.tw6141067062704518805 : Unit := ()
def PySem.W.Fast.tw13133660680926853370 : Unit := ()
def PySem.W.Fast.tw15456818149291881751 : Unit := ()
def PySem.W.Fast.tw5902865438104069622 : Unit := ()
def PySem.W.Fast.tw3871060805873129758 : Unit := ()
def PySem.W.Fast.tw1436435278292957597 : Unit := ()
def PySem.W.Fast.tw11357863552141596345 : Unit := ()
def PySem.W.Fast.tw5912235479784357870 : Unit := ()
def PySem.W.Fast.tw13433845424996548112 : Unit := ()
def PySem.W.Fast.tw13404278093479091855 : Unit := ()
def PySem.W.Fast.tw6694694184211231826 : Unit := ()
def PySem.W.Fast.tw46162220296742136 : Unit := ()
def PySem.W.Fast.tw17089016439172626918 : Unit := ()
def PySem.W.Fast.tw873276895807973867 : Unit := ()
def PySem.W.Fast.tw17067361955410888386 : Unit := ()
def PySem.W.Fast.tw15387255442123712684 : Unit := ()
def PySem.W.Fast.tw319671613357869872 : Unit := ()
def PySem.W.Fast.tw15851416648856545035 : Unit := ()
def PySem.W.Fast.tw3702035762435638542 : Unit := ()
def PySem.W.Fast.tw9717340915512611075 : Unit := ()
def PySem.W.Fast.tw5923874845275696432 : Unit := ()
def PySem.W.Fast.tw17699666216447789427 : Unit := ()
def PySem.W.Fast.tw2640130272357396060 : Unit := ()
def PySem.W.Fast.tw11335627878543430424 : Unit := ()
def PySem.W.Fast.tw7991714230127674233 : Unit := ()
def PySem.W.Fast.tw9163941488776192466 : Unit := ()
def PySem.W.Fast.tw445521563440423564 : Unit := ()
def PySem.W.Fast.tw15335130416320942812 : Unit := ()
def PySem.W.Fast.tw9425153920091833141 : Unit := ()
def PySem.W.Fast.tw15212455935138064199 : Unit := ()
def PySem.W.Fast.tw5200482836715359023 : Unit := ()
def PySem.W.Fast.tw5966956645486150121 : Unit := ()
def PySem.W.Fast.tw13303298416112968414 : Unit := ()
def PySem.W.Fast.tw6145913378759925388 : Unit := ()
def PySem.W.Fast.tw6260280878604023140 : Unit := ()
def PySem.W.Fast.tw268257517277021841 : Unit := ()
def PySem.W.Fast.tw3518774275882772681 : Unit := ()
def PySem.W.Fast.tw15156602224417660976 : Unit := ()
def PySem.W.Fast.tw17878457805764174692 : Unit := ()
def PySem.W.Fast.tw16507999314956553819 : Unit := ()
def PySem.W.Fast.tw11415710546907407517 : Unit := ()
def PySem.W.Fast.tw1513541408346390223 : Unit := ()
def PySem.W.Fast.tw14580530752618353105 : Unit := ()
def PySem.W.Fast.tw8831628074017733074 : Unit := ()
def PySem.W.Fast.tw9691136915799338443 : Unit := ()
def PySem.W.Fast.tw9269453810368631710 : Unit := ()
def PySem.W.Fast.tw9620336580650978969 : Unit := ()
def PySem.W.Fast.tw12381893991264279649 : Unit := ()
def PySem.W.Fast.tw10848740368142230630 : Unit := ()
def PySem.W.Fast.tw16566813204067370964 : Unit := ()
def PySem.W.Fast.tw6237851108082677196 : Unit := ()
def PySem.W.Fast.tw11817178277876528182 : Unit := ()
def PySem.W.Fast.tw882297666756531164 : Unit := ()
def PySem.W.Fast.tw737872793015471799 : Unit := ()
def PySem.W.Fast.tw9074419639575883070 : Unit := ()
def PySem.W.Fast.tw13797309930021722553 : Unit := ()
def PySem.W.Fast.tw10705856713511144302 : Unit := ()
def PySem.W.Fast.tw15059786760099917204 : Unit := ()
def PySem.W.Fast.tw16617216976326246622 : Unit := ()
def PySem.W.Fast.tw14847603386900437849 : Unit := ()
def PySem.W.Fast.tw12564503695375339982 : Unit := ()
def PySem.W.Fast.tw9117436767220871188 : Unit := ()
def PySem.W.Fast.tw10703872473577935435 : Unit := ()
def PySem.W.Fast.tw6350482984004982223 : Unit := ()
def PySem.W.Fast.tw12437601787782982781 : Unit := ()
def PySem.W.Fast.tw5266733199781003524 : Unit := ()
def PySem.W.Fast.tw5928466964162518313 : Unit := ()
def PySem.W.Fast.tw12805490371548826903 : Unit := ()
def PySem.W.Fast.tw8758943682434752994 : Unit := ()
def PySem.W.Fast.tw8742705511801517292 : Unit := ()
def PySem.W.Fast.tw3562317929857682207 : Unit := ()
def PySem.W.Fast.tw13384406590565825882 : Unit := ()
def PySem.W.Fast.tw15259371573433278233 : Unit := ()
def PySem.W.Fast.tw4909205217821461411 : Unit := ()
def PySem.W.Fast.tw2655616323871221414 : Unit := ()
def PySem.W.Fast.tw9992508801217973098 : Unit := ()
def PySem.W.Fast.tw2372077820089921592 : Unit := ()
def PySem.W.Fast.tw8593453765829071529 : Unit := ()
def PySem.W.Fast.tw15534553847161828130 : Unit := ()
def PySem.W.Fast.tw9125657271936978798 : Unit := ()
def PySem.W.Fast.tw2900771299649538382 : Unit := ()
def PySem.W.Fast.tw14226728909599780485 : Unit := ()
def PySem.W.Fast.tw5065941231717074708 : Unit := ()
def PySem.W.Fast.tw5611826316831475608 : Unit := ()
def PySem.W.Fast.tw8301883777542675211 : Unit := ()
def PySem.W.Fast.tw3413334294853217777 : Unit := ()
def PySem.W.Fast.tw15084966493884839738 : Unit := ()
def PySem.W.Fast.tw2465475799255306403 : Unit := ()
def PySem.W.Fast.tw9417494416525298669 : Unit := ()
def PySem.W.Fast.tw13749726401731966780 : Unit := ()
def PySem.W.Fast.tw12928080673673914737 : Unit := ()
def PySem.W.Fast.tw5413299202146542272 : Unit := ()
def PySem.W.Fast.tw7073912662462467754 : Unit := ()
def PySem.W.Fast.tw8849654844643288147 : Unit := ()
def PySem.W.Fast.tw13527634420514781530 : Unit := ()
def PySem.W.Fast.tw16599198876855200500 : Unit := ()
def PySem.W.Fast.tw2822847562892867197 : Unit := ()
def PySem.W.Fast.tw14148217333667551078 : Unit := ()
def PySem.W.Fast.tw12121762649435462955 : Unit := ()
def PySem.W.Fast.tw796391026457320876 : Unit := ()
def PySem.W.Fast.tw1120734033100203835 : Unit := ()
def PySem.W.Fast.tw6367527243352270683 : Unit := ()
def PySem.W.Fast.tw3709729394698288063 : Unit := ()
def PySem.W.Fast.tw17742704964487437167 : Unit := ()
def PySem.W.Fast.tw10315728963540441359 : Unit := ()
def PySem.W.Fast.tw6142586010247401804 : Unit := ()
def PySem.W.Fast.tw15282267792563041282 : Unit := ()
def PySem.W.Fast.tw14895872112655333063 : Unit := ()
def PySem.W.Fast.tw9131794649217160351 : Unit := ()
def PySem.W.Fast.tw14184615370250033033 : Unit := ()
def PySem.W.Fast.tw6705124659855496002 : Unit := ()
def PySem.W.Fast.tw11338138095128897979 : Unit := ()
def PySem.W.Fast.tw10021515841401015206 : Unit := ()
def PySem.W.Fast.tw8880409686582748424 : Unit := ()
def PySem.W.Fast.tw10635742545368545565 : Unit := ()
def PySem.W.Fast.tw13202281217713193046 : Unit := ()
def PySem.W.Fast.tw3556309418934924756 : Unit := ()
def PySem.W.Fast.tw1007734085525079318 : Unit := ()
def PySem.W.Fast.tw5775368784324171468 : Unit := ()
def PySem.W.Fast.tw4583479566898032808 : Unit := ()
def PySem.W.Fast.tw15972896300683283813 : Unit := ()
def PySem.W.Fast.tw11269573900751161743 : Unit := ()
def PySem.W.Fast.tw4775237472778360260 : Unit := ()
def PySem.W.Fast.tw12699817719821807110 : Unit := ()
def PySem.W.Fast.tw5208829502576427803 : Unit := ()
def PySem.W.Fast.tw14763526744451694874 : Unit := ()
def PySem.W.Fast.tw11493732331171025234 : Unit := ()
def PySem.W.Fast.tw12196871956054605685 : Unit := ()
def PySem.W.Fast.tw10620445936264808142 : Unit := ()
def PySem.W.Fast.tw10289395528229227063 : Unit := ()
def PySem.W.Fast.tw2746874287687563584 : Unit := ()
def PySem.W.Fast.tw572977200221137445 : Unit := ()
def PySem.W.Fast.tw2980846424212212008 : Unit := ()
def PySem.W.Fast.tw16384616287809529303 : Unit := ()
def PySem.W.Fast.tw17019711228045747883 : Unit := ()
def PySem.W.Fast.tw894261546285360796 : Unit := ()
def PySem.W.Fast.tw11695848577845505247 : Unit := ()
def PySem.W.Fast.tw18348958930340749695 : Unit := ()
def PySem.W.Fast.tw16725215851853755061 : Unit := ()
def PySem.W.Fast.tw7732979610907570320 : Unit := ()
def PySem.W.Fast.tw9367181334642623132 : Unit := ()
def PySem.W.Fast.tw14403029928654606039 : Unit := ()
def PySem.W.Fast.tw3589062765985082368 : Unit := ()
def PySem.W.Fast.tw5011960130560368515 : Unit := ()
def PySem.W.Fast.tw1849007581404038038 : Unit := ()
def PySem.W.Fast.tw15009712938085310898 : Unit := ()
def PySem.W.Fast.tw3883077144159354484 : Unit := ()
def PySem.W.Fast.tw702793519940465403 : Unit := ()
def PySem.W.Fast.tw3805585359155231939 : Unit := ()
def PySem.W.Fast.tw5408809079635023992 : Unit := ()
def PySem.W.Fast.tw8618405404330851943 : Unit := ()
def PySem.W.Fast.tw10916946568043325688 : Unit := ()
def PySem.W.Fast.tw11792470797420788164 : Unit := ()
def PySem.W.Fast.tw13085240919717429763 : Unit := ()
def PySem.W.Fast.tw16853122267465100258 : Unit := ()
def PySem.W.Fast.tw3489308030768380628 : Unit := ()
def PySem.W.Fast.tw1581460025072573401 : Unit := ()
def PySem.W.Fast.tw16865814165147938945 : Unit := ()
def PySem.W.Fast.tw8304383661202275043 : Unit := ()
def PySem.W.Fast.tw5295634209070246203 : Unit := ()
def PySem.W.Fast.tw5505523324290459856 : Unit := ()
def PySem.W.Fast.tw12675303164214205403 : Unit := ()
def PySem.W.Fast.tw1088447556912575213 : Unit := ()
def PySem.W.Fast.tw10640846518141659120 : Unit := ()
def PySem.W.Fast.tw644119130541011873 : Unit := ()
def PySem.W.Fast.tw15658624388922522962 : Unit := ()
def PySem.W.Fast.tw1750868631515833224 : Unit := ()
def PySem.W.Fast.tw13776319551921119667 : Unit := ()
def PySem.W.Fast.tw3849338547285698868 : Unit := ()
def PySem.W.Fast.tw3777502321786193215 : Unit := ()
def PySem.W.Fast.tw6654160416627472064 : Unit := ()
def PySem.W.Fast.tw5586857392538625846 : Unit := ()
def PySem.W.Fast.tw5149102722158002029 : Unit := ()
def PySem.W.Fast.tw9632262931439338334 : Unit := ()
def PySem.W.Fast.tw15963452986475170058 : Unit := ()
def PySem.W.Fast.tw5550917717320600753 : Unit := ()
def PySem.W.Fast.tw6174704722468980908 : Unit := ()
def PySem.W.Fast.tw4633116871254835961 : Unit := ()
def PySem.W.Fast.tw3519393139692149387 : Unit := ()
def PySem.W.Fast.tw16084404482887462702 : Unit := ()
def PySem.W.Fast.tw2848550222205280193 : Unit := ()
def PySem.W.Fast.tw5707866999750543339 : Unit := ()
def PySem.W.Fast.tw6522815036244221100 : Unit := ()
def PySem.W.Fast.tw16208431588463930688 : Unit := ()
def PySem.W.Fast.tw661710530024510527 : Unit := ()
def PySem.W.Fast.tw5875506334931187453 : Unit := ()
def PySem.W.Fast.tw9772946714944295038 : Unit := ()
def PySem.W.Fast.tw17289263280594915802 : Unit := ()
def PySem.W.Fast.tw4211581279462255862 : Unit := ()
def PySem.W.Fast.tw5973346297143549502 : Unit := ()
def PySem.W.Fast.tw3177010343365010026 : Unit := ()
def PySem.W.Fast.tw15398493508171331406 : Unit := ()
def PySem.W.Fast.tw6427561004708081257 : Unit := ()
def PySem.W.Fast.tw2189435571445953656 : Unit := ()
def PySem.W.Fast.tw12610558568508896331 : Unit := ()
def PySem.W.Fast.tw2838860491194136200 : Unit := ()
def PySem.W.Fast.tw5229696164837067590 : Unit := ()
def PySem.W.Fast.tw7483199741387536667 : Unit := ()
def PySem.W.Fast.tw14534736956144704642 : Unit := ()
def PySem.W.Fast.tw11627809487873798156 : Unit := ()
def PySem.W.Fast.tw14764771411032202704 : Unit := ()
def PySem.W.Fast.tw12129456007458732748 : Unit := ()
def PySem.W.Fast.tw7245100011662215572 : Unit := ()
def PySem.W.Fast.tw18080844564500785336 : Unit := ()
def PySem.W.Fast.tw13913743929700162236 : Unit := ()
def PySem.W.Fast.tw13046329311623149937 : Unit := ()
def PySem.W.Fast.tw11469036050153195526 : Unit := ()
def PySem.W.Fast.tw16196571726530704789 : Unit := ()
def PySem.W.Fast.tw3107840146551630446 : Unit := ()
def PySem.W.Fast.tw18056158473536093407 : Unit := ()
def PySem.W.Fast.tw4924500146275127234 : Unit := ()
def PySem.W.Fast.tw10771587850814254802 : Unit := ()
def PySem.W.Fast.tw10979529419996321928 : Unit := ()
def PySem.W.Fast.tw17420374283389092048 : Unit := ()
def PySem.W.Fast.tw16578660479098114120 : Unit := ()
def PySem.W.Fast.tw7000413742990179090 : Unit := ()
def PySem.W.Fast.tw5285465738342713299 : Unit := ()
def PySem.W.Fast.tw6883213138531695094 : Unit := ()
def PySem.W.Fast.tw12874713997571370829 : Unit := ()
def PySem.W.Fast.tw14211358262489548799 : Unit := ()
def PySem.W.Fast.tw1246535673692596775 : Unit := ()
def PySem.W.Fast.tw11799977121668767712 : Unit := ()
def PySem.W.Fast.tw16440922725512323086 : Unit := ()
def PySem.W.Fast.tw13645591499982089857 : Unit := ()
def PySem.W.Fast.tw7346515601068383411 : Unit := ()
def PySem.W.Fast.tw11518967156656202805 : Unit := ()
def PySem.W.Fast.tw1730967685861220132 : Unit := ()
def PySem.W.Fast.tw2619596320872078276 : Unit := ()
def PySem.W.Fast.tw16071112332624101230 : Unit := ()
def PySem.W.Fast.tw17814832134775176052 : Unit := ()
def PySem.W.Fast.tw3329928926405505252 : Unit := ()
def PySem.W.Fast.tw4536641142348025014 : Unit := ()
def PySem.W.Fast.tw3677473713576078058 : Unit := ()
def PySem.W.Fast.tw11163109884085358325 : Unit := ()
def PySem.W.Fast.tw10327341982855837546 : Unit := ()
def PySem.W.Fast.tw6934515703707723025 : Unit := ()
def PySem.W.Fast.tw4188561250962285290 : Unit := ()
def PySem.W.Fast.tw12823908305209815230 : Unit := ()
def PySem.W.Fast.tw10220414489514208407 : Unit := ()
def PySem.W.Fast.tw5762768778131694277 : Unit := ()
def PySem.W.Fast.tw14626376582296717262 : Unit := ()
def PySem.W.Fast.tw14545474725951619608 : Unit := ()
def PySem.W.Fast.tw13889093182239072291 : Unit := ()
def PySem.W.Fast.tw8661018442694051919 : Unit := ()
def PySem.W.Fast.tw7693010837751233553 : Unit := ()
def PySem.W.Fast.tw4226988378470821729 : Unit := ()
def PySem.W.Fast.tw11477695624334418275 : Unit := ()
def PySem.W.Fast.tw17669259685198158855 : Unit := ()
def PySem.W.Fast.tw398498298119307881 : Unit := ()
def PySem.W.Fast.tw13758420456935549500 : Unit := ()
def PySem.W.Fast.tw17648555235415597817 : Unit := ()
def PySem.W.Fast.tw14501892043517797572 : Unit := ()
def PySem.W.Fast.tw3569688825529780605 : Unit := ()
def PySem.W.Fast.tw15709854395453388033 : Unit := ()
def PySem.W.Fast.tw9632441930113665880 : Unit := ()
def PySem.W.Fast.tw14988486835297281098 : Unit := ()
def PySem.W.Fast.tw17536411607834419693 : Unit := ()
def PySem.W.Fast.tw10762999611993570213 : Unit := ()
def PySem.W.Fast.tw1847257513482923120 : Unit := ()
def PySem.W.Fast.tw3243114933283474278 : Unit := ()
def PySem.W.Fast.tw7698948972115140249 : Unit := ()
def PySem.W.Fast.tw12346806099702870283 : Unit := ()
def PySem.W.Fast.tw16123093156676291541 : Unit := ()
def PySem.W.Fast.tw9737408812133955311 : Unit := ()
def PySem.W.Fast.tw10441855572047344916 : Unit := ()
def PySem.W.Fast.tw1397448866970903942 : Unit := ()
def PySem.W.Fast.tw3180474541732023986 : Unit := ()
def PySem.W.Fast.tw9344266902394772925 : Unit := ()
def PySem.W.Fast.tw7485541240813611697 : Unit := ()
def PySem.W.Fast.tw6626354608029759980 : Unit := ()
def PySem.W.Fast.tw1703197329727158413 : Unit := ()
def PySem.W.Fast.tw12178286359380190165 : Unit := ()
def PySem.W.Fast.tw10294987748875422843 : Unit := ()
def PySem.W.Fast.tw4937004238944241446 : Unit := ()
def PySem.W.Fast.tw4405765556686944330 : Unit := ()
def PySem.W.Fast.tw6390691781997744518 : Unit := ()
def PySem.W.Fast.tw116692569763071595 : Unit := ()
def PySem.W.Fast.tw18415587341174636892 : Unit := ()
def PySem.W.Fast.tw13076523840176683330 : Unit := ()
def PySem.W.Fast.tw14801919616289783386 : Unit := ()
def PySem.W.Fast.tw1635543964476238887 : Unit := ()
def PySem.W.Fast.tw1406125515000786484 : Unit := ()
def PySem.W.Fast.tw10498924074084463447 : Unit := ()
def PySem.W.Fast.tw11158487859347370421 : Unit := ()
def PySem.W.Fast.tw12567624378220162661 : Unit := ()
def PySem.W.Fast.tw15360209793622223675 : Unit := ()
def PySem.W.Fast.tw7004237426219543853 : Unit := ()
def PySem.W.Fast.tw16877392454368053302 : Unit := ()
def PySem.W.Fast.tw13823936459031164704 : Unit := ()
def PySem.W.Fast.tw5506858100234956290 : Unit := ()
def PySem.W.Fast.tw6239286118103271439 : Unit := ()
def PySem.W.Fast.tw12854314576271362998 : Unit := ()
def PySem.W.Fast.tw571050853399957242 : Unit := ()
def PySem.W.Fast.tw14209531271429754944 : Unit := ()
def PySem.W.Fast.tw874923162022605366 : Unit := ()
def PySem.W.Fast.tw3322596901846165598 : Unit := ()
def PySem.W.Fast.tw819763794226880878 : Unit := ()
def PySem.W.Fast.tw13916036530632029974 : Unit := ()
def PySem.W.Fast.tw4131819506685863629 : Unit := ()
def PySem.W.Fast.tw2986785149361039978 : Unit := ()
def PySem.W.Fast.tw5196875653159780148 : Unit := ()
def PySem.W.Fast.tw8809684961233247480 : Unit := ()
def PySem.W.Fast.tw13526196296873150911 : Unit := ()
def PySem.W.Fast.tw8806450358556568040 : Unit := ()
def PySem.W.Fast.tw18080361834278701352 : Unit := ()
def PySem.W.Fast.tw16662122722341813138 : Unit := ()
def PySem.W.Fast.tw10185139614783938701 : Unit := ()
def PySem.W.Fast.tw9766667360758612714 : Unit := ()
def PySem.W.Fast.tw15858363037316555638 : Unit := ()
def PySem.W.Fast.tw4686344290820092996 : Unit := ()
def PySem.W.Fast.tw3643365872626703203 : Unit := ()
def PySem.W.Fast.tw1544357703318293249 : Unit := ()
def PySem.W.Fast.tw1119470067171552416 : Unit := ()
def PySem.W.Fast.tw11068513704939548980 : Unit := ()
def PySem.W.Fast.tw13484477599849246623 : Unit := ()
def PySem.W.Fast.tw4996764040882276843 : Unit := ()
def PySem.W.Fast.tw17431904744830404080 : Unit := ()
def PySem.W.Fast.tw17973563422814662869 : Unit := ()
def PySem.W.Fast.tw16827093346166228457 : Unit := ()
def PySem.W.Fast.tw11796662381759464092 : Unit := ()
def PySem.W.Fast.tw394749560643004572 : Unit := ()
def PySem.W.Fast.tw5118419296495592509 : Unit := ()
def PySem.W.Fast.tw14649565374543344020 : Unit := ()
def PySem.W.Fast.tw10756703626337837833 : Unit := ()
def PySem.W.Fast.tw7228157078210653094 : Unit := ()
def PySem.W.Fast.tw4292501482924923607 : Unit := ()
def PySem.W.Fast.tw212950361424472046 : Unit := ()
def PySem.W.Fast.tw16385608191032527019 : Unit := ()
def PySem.W.Fast.tw9996231528788470666 : Unit := ()
def PySem.W.Fast.tw16620068259833755883 : Unit := ()
def PySem.W.Fast.tw13362568669329973154 : Unit := ()
def PySem.W.Fast.tw17670626475265240396 : Unit := ()
def PySem.W.Fast.tw16481815131984386689 : Unit := ()
def PySem.W.Fast.tw11277185461022886564 : Unit := ()
def PySem.W.Fast.tw17463550156010535418 : Unit := ()
def PySem.W.Fast.tw6884609320571789972 : Unit := ()
def PySem.W.Fast.tw13101589306765339515 : Unit := ()
def PySem.W.Fast.tw17408525076984977403 : Unit := ()
def PySem.W.Fast.tw14180318259713214274 : Unit := ()
def PySem.W.Fast.tw11595166614905841922 : Unit := ()
def PySem.W.Fast.tw16507177218267189937 : Unit := ()
def PySem.W.Fast.tw11129373517774757669 : Unit := ()
def PySem.W.Fast.tw15502500439689832335 : Unit := ()
def PySem.W.Fast.tw15542331868784980747 : Unit := ()
def PySem.W.Fast.tw7892778129228234386 : Unit := ()
def PySem.W.Fast.tw743955766942037563 : Unit := ()
def PySem.W.Fast.tw7221888151690196175 : Unit := ()
def PySem.W.Fast.tw17175096397733797890 : Unit := ()
def PySem.W.Fast.tw10134473963059922356 : Unit := ()
def PySem.W.Fast.tw2777128472691259970 : Unit := ()
def PySem.W.Fast.tw10059680495134105985 : Unit := ()
def PySem.W.Fast.tw6530049713428098799 : Unit := ()
def PySem.W.Fast.tw651754078256560960 : Unit := ()
def PySem.W.Fast.tw13452594744182572101 : Unit := ()
def PySem.W.Fast.tw8328183634675469096 : Unit := ()
def PySem.W.Fast.tw15181726829735491275 : Unit := ()
def PySem.W.Fast.tw8868372073958103917 : Unit := ()
def PySem.W.Fast.tw8606130492074274071 : Unit := ()
def PySem.W.Fast.tw10409339651139250597 : Unit := ()
def PySem.W.Fast.tw3264464094199755998 : Unit := ()
def PySem.W.Fast.tw10125234234574282670 : Unit := ()
def PySem.W.Fast.tw8205047138560752258 : Unit := ()
def PySem.W.Fast.tw1025854630653842318 : Unit := ()
def PySem.W.Fast.tw618631974897309398 : Unit := ()
def PySem.W.Fast.tw5736405330719267165 : Unit := ()
def PySem.W.Fast.tw1390109119287219621 : Unit := ()
def PySem.W.Fast.tw7065585397458123100 : Unit := ()
def PySem.W.Fast.tw14916946760288521275 : Unit := ()
def PySem.W.Fast.tw16367696298784329370 : Unit := ()
def PySem.W.Fast.tw2524541205222595597 : Unit := ()
def PySem.W.Fast.tw18383532665856141886 : Unit := ()
def PySem.W.Fast.tw18433326979814758896 : Unit := ()
def PySem.W.Fast.tw2798656241367547588 : Unit := ()
def PySem.W.Fast.tw1376677763627399047 : Unit := ()
def PySem.W.Fast.tw1421130965931990052 : Unit := ()
def PySem.W.Fast.tw18329202532327769519 : Unit := ()
def PySem.W.Fast.tw419251611544346284 : Unit := ()
def PySem.W.Fast.tw2652878612331982355 : Unit := ()
def PySem.W.Fast.tw11431590230318600296 : Unit := ()
def PySem.W.Fast.tw13390404318743605812 : Unit := ()
def PySem.W.Fast.tw14143619654662371057 : Unit := ()
def PySem.W.Fast.tw16423849626610597699 : Unit := ()
def PySem.W.Fast.tw10410983851500649038 : Unit := ()
def PySem.W.Fast.tw15669538359713989420 : Unit := ()
def PySem.W.Fast.tw17674964709570135398 : Unit := ()
def PySem.W.Fast.tw4651823057618446217 : Unit := ()
def PySem.W.Fast.tw11764272699314738943 : Unit := ()
def PySem.W.Fast.tw7657314773516047689 : Unit := ()
def PySem.W.Fast.tw17584700049221852980 : Unit := ()
def PySem.W.Fast.tw16336260512454377022 : Unit := ()
def PySem.W.Fast.tw16646331796161797375 : Unit := ()
def PySem.W.Fast.tw15751484227642719625 : Unit := ()
def PySem.W.Fast.tw17119535379811536829 : Unit := ()
def PySem.W.Fast.tw15602556704035843429 : Unit := ()
def PySem.W.Fast.tw6659730994186393108 : Unit := ()
def PySem.W.Fast.tw17028471548913278891 : Unit := ()
def PySem.W.Fast.tw16835159536142732989 : Unit := ()
def PySem.W.Fast.tw1989715207034886123 : Unit := ()
def PySem.W.Fast.tw17106042463834177747 : Unit := ()
def PySem.W.Fast.tw2091318504365742348 : Unit := ()
def PySem.W.Fast.tw13400985121977211703 : Unit := ()
def PySem.W.Fast.tw15525284051067537692 : Unit := ()
def PySem.W.Fast.tw17110217239459570488 : Unit := ()
def PySem.W.Fast.tw9228284475241310836 : Unit := ()
def PySem.W.Fast.tw17947326464588639320 : Unit := ()
def PySem.W.Fast.tw1695214858921557364 : Unit := ()
def PySem.W.Fast.tw4760219625943653902 : Unit := ()
def PySem.W.Fast.tw3794685489551025947 : Unit := ()
def PySem.W.Fast.tw17722528089824110738 : Unit := ()
def PySem.W.Fast.tw2535830283848149225 : Unit := ()
def PySem.W.Fast.tw12444059153935848791 : Unit := ()
def PySem.W.Fast.tw7256292241518325523 : Unit := ()
def PySem.W.Fast.tw13066248704304267831 : Unit := ()
def PySem.W.Fast.tw17494451327846662657 : Unit := ()
def PySem.W.Fast.tw8138439449014288969 : Unit := ()
def PySem.W.Fast.tw4180095793092637108 : Unit := ()
def PySem.W.Fast.tw10257616046395054727 : Unit := ()
def PySem.W.Fast.tw6656174009050017644 : Unit := ()
def PySem.W.Fast.tw9587625282710181463 : Unit := ()
def PySem.W.Fast.tw4620482670180946107 : Unit := ()
def PySem.W.Fast.tw1870952272103082040 : Unit := ()
def PySem.W.Fast.tw9673351395925506459 : Unit := ()
def PySem.W.Fast.tw4496472023619092062 : Unit := ()
def PySem.W.Fast.tw1761357693048774305 : Unit := ()
def PySem.W.Fast.tw9083949327340764047 : Unit := ()
def PySem.W.Fast.tw4101204374135247628 : Unit := ()
def PySem.W.Fast.tw13903250406436931457 : Unit := ()
def PySem.W.Fast.tw11976505016964079678 : Unit := ()
def PySem.W.Fast.tw5911323934305121373 : Unit := ()
def PySem.W.Fast.tw8132232131029411970 : Unit := ()
def PySem.W.Fast.tw15307225527551131154 : Unit := ()
def PySem.W.Fast.tw4060348181028065912 : Unit := ()
def PySem.W.Fast.tw11751690305815211571 : Unit := ()
def PySem.W.Fast.tw7452478108552828526 : Unit := ()
def PySem.W.Fast.tw14593169666213247137 : Unit := ()
def PySem.W.Fast.tw12282765522469680087 : Unit := ()
def PySem.W.Fast.tw4368380034004432587 : Unit := ()
def PySem.W.Fast.tw18441568747161010307 : Unit := ()
def PySem.W.Fast.tw5557217058269952952 : Unit := ()
def PySem.W.Fast.tw17753625720030733905 : Unit := ()
def PySem.W.Fast.tw1613269202832133623 : Unit := ()
def PySem.W.Fast.tw9756844633368071674 : Unit := ()
def PySem.W.Fast.tw9781899514917528234 : Unit := ()
def PySem.W.Fast.tw14703596205765076615 : Unit := ()
def PySem.W.Fast.tw15347577610585589043 : Unit := ()
def PySem.W.Fast.tw1453877145687170118 : Unit := ()
def PySem.W.Fast.tw14235327477382116845 : Unit := ()
def PySem.W.Fast.tw5873778926486162784 : Unit := ()
def PySem.W.Fast.tw14673221112257878261 : Unit := ()
def PySem.W.Fast.tw7157267396665449036 : Unit := ()
def PySem.W.Fast.tw7825369658381582274 : Unit := ()
def PySem.W.Fast.tw17067152019833397045 : Unit := ()
def PySem.W.Fast.tw10850645162220040615 : Unit := ()
def PySem.W.Fast.tw3449220092911725764 : Unit := ()
def PySem.W.Fast.tw17417940165591252344 : Unit := ()
def PySem.W.Fast.tw5639254333066088196 : Unit := ()
def PySem.W.Fast.tw9927589659510341956 : Unit := ()
def PySem.W.Fast.tw18121544602795652367 : Unit := ()
def PySem.W.Fast.tw2824571121479288647 : Unit := ()
def PySem.W.Fast.tw15102247373835526380 : Unit := ()
def PySem.W.Fast.tw9572980536871208452 : Unit := ()
def PySem.W.Fast.tw14781357728429298837 : Unit := ()
def PySem.W.Fast.tw11746611928154026785 : Unit := ()
def PySem.W.Fast.tw7535612573822851798 : Unit := ()
def PySem.W.Fast.tw5135681215262702640 : Unit := ()
def PySem.W.Fast.tw12707949265127295085 : Unit := ()
def PySem.W.Fast.tw3343776012863296534 : Unit := ()
def PySem.W.Fast.tw16954511435888820678 : Unit := ()
def PySem.W.Fast.tw8962582784846646615 : Unit := ()
def PySem.W.Fast.tw10897004739974413333 : Unit := ()
def PySem.W.Fast.tw2753928212273439806 : Unit := ()
def PySem.W.Fast.tw11768569043805946650 : Unit := ()
def PySem.W.Fast.tw18353988369028266745 : Unit := ()
def PySem.W.Fast.tw15670460321014007709 : Unit := ()
def PySem.W.Fast.tw11469204335072138076 : Unit := ()
def PySem.W.Fast.tw14175475289080607615 : Unit := ()
def PySem.W.Fast.tw17200977095999524462 : Unit := ()
def PySem.W.Fast.tw16291353499080903922 : Unit := ()
def PySem.W.Fast.tw6443651986574652817 : Unit := ()
def PySem.W.Fast.tw2032048577632720137 : Unit := ()
def PySem.W.Fast.tw4386400005829203713 : Unit := ()
def PySem.W.Fast.tw4442781770583032934 : Unit := ()
def PySem.W.Fast.tw11407693540247527662 : Unit := ()
def PySem.W.Fast.tw14649728575549838919 : Unit := ()
def PySem.W.Fast.tw13224331543751426248 : Unit := ()
def PySem.W.Fast.tw8946308055526450456 : Unit := ()
def PySem.W.Fast.tw8530898026918127654 : Unit := ()
def PySem.W.Fast.tw9948454914831665256 : Unit := ()
def PySem.W.Fast.tw3123306409982184229 : Unit := ()
def PySem.W.Fast.tw1365943971467192543 : Unit := ()
def PySem.W.Fast.tw1058291424040402205 : Unit := ()
def PySem.W.Fast.tw10813635717014720644 : Unit := ()
def PySem.W.Fast.tw6498137869824861602 : Unit := ()
def PySem.W.Fast.tw1174651560099536482 : Unit := ()
def PySem.W.Fast.tw1491468212565782112 : Unit := ()
def PySem.W.Fast.tw4639242844781152904 : Unit := ()
def PySem.W.Fast.tw13314691898567588186 : Unit := ()
def PySem.W.Fast.tw14363023323983588812 : Unit := ()
def PySem.W.Fast.tw758323060720505540 : Unit := ()
def PySem.W.Fast.tw9728385482818368516 : Unit := ()
def PySem.W.Fast.tw357385065263830880 : Unit := ()
def PySem.W.Fast.tw12882709002336223676 : Unit := ()
def PySem.W.Fast.tw9021323653761375538 : Unit := ()
def PySem.W.Fast.tw3873340893469866686 : Unit := ()
def PySem.W.Fast.tw88061427137671043 : Unit := ()
def PySem.W.Fast.tw6039956920469130335 : Unit := ()
def PySem.W.Fast.tw64392901382751446 : Unit := ()
def PySem.W.Fast.tw3707842512689602672 : Unit := ()
def PySem.W.Fast.tw14179558982951008325 : Unit := ()
def PySem.W.Fast.tw77635749216101000 : Unit := ()
def PySem.W.Fast.tw15320750989326616668 : Unit := ()
def PySem.W.Fast.tw10830902930973011621 : Unit := ()
def PySem.W.Fast.tw7429298018148707314 : Unit := ()
def PySem.W.Fast.tw478215518614330283 : Unit := ()
def PySem.W.Fast.tw6480210689160061060 : Unit := ()
def PySem.W.Fast.tw16929374782714469956 : Unit := ()
def PySem.W.Fast.tw10176406831344141507 : Unit := ()
def PySem.W.Fast.tw8382613894383459164 : Unit := ()
def PySem.W.Fast.tw7544825291433173695 : Unit := ()
def PySem.W.Fast.tw15752367684362808497 : Unit := ()
def PySem.W.Fast.tw17607367189066837519 : Unit := ()
def PySem.W.Fast.tw17604544607211413849 : Unit := ()
def PySem.W.Fast.tw3822890574281737800 : Unit := ()
def PySem.W.Fast.tw2828816769747793675 : Unit := ()
def PySem.W.Fast.tw1761614943033805364 : Unit := ()
def PySem.W.Fast.tw18046793539154017260 : Unit := ()
def PySem.W.Fast.tw1106394889619248661 : Unit := ()
def PySem.W.Fast.tw3568486873337753362 : Unit := ()
def PySem.W.Fast.tw15216071127848148435 : Unit := ()
def PySem.W.Fast.tw6672263653556429791 : Unit := ()
def PySem.W.Fast.tw5271516703537983910 : Unit := ()
def PySem.W.Fast.tw17559435328424579844 : Unit := ()
def PySem.W.Fast.tw13641473346528101137 : Unit := ()
def PySem.W.Fast.tw15795706923983262376 : Unit := ()
def PySem.W.Fast.tw13804003552502307605 : Unit := ()
def PySem.W.Fast.tw11958073449284980541 : Unit := ()
def PySem.W.Fast.tw4607996765935004900 : Unit := ()
def PySem.W.Fast.tw10141497083813646605 : Unit := ()
def PySem.W.Fast.tw17130208147765890200 : Unit := ()
def PySem.W.Fast.tw13571605608180404377 : Unit := ()
def PySem.W.Fast.tw14049272284166904148 : Unit := ()
def PySem.W.Fast.tw9636294642987891047 : Unit := ()
def PySem.W.Fast.tw6207176196798252998 : Unit := ()
def PySem.W.Fast.tw11736581118952409937 : Unit := ()
def PySem.W.Fast.tw12955432267753850323 : Unit := ()
def PySem.W.Fast.tw1079749574103884932 : Unit := ()
def PySem.W.Fast.tw9922702415033008935 : Unit := ()
def PySem.W.Fast.tw13112443633738568147 : Unit := ()
def PySem.W.Fast.tw6494479500275252370 : Unit := ()
def PySem.W.Fast.tw13623260727016327676 : Unit := ()
def PySem.W.Fast.tw11181792986085947217 : Unit := ()
def PySem.W.Fast.tw3190144169909765893 : Unit := ()
def PySem.W.Fast.tw11163132547781594859 : Unit := ()
def PySem.W.Fast.tw17151802758400833545 : Unit := ()
def PySem.W.Fast.tw17192877552290487907 : Unit := ()
def PySem.W.Fast.tw15265010159294114496 : Unit := ()
def PySem.W.Fast.tw12801349676573344651 : Unit := ()
def PySem.W.Fast.tw8184965973957542721 : Unit := ()
def PySem.W.Fast.tw10338763375236894973 : Unit := ()
def PySem.W.Fast.tw12968373663421588620 : Unit := ()
def PySem.W.Fast.tw10678501880262882810 : Unit := ()
def PySem.W.Fast.tw6757411617775041726 : Unit := ()
def PySem.W.Fast.tw14584211729779411382 : Unit := ()
def PySem.W.Fast.tw10414380495727192190 : Unit := ()
def PySem.W.Fast.tw4799846454284632815 : Unit := ()
def PySem.W.Fast.tw11538394120652774501 : Unit := ()
def PySem.W.Fast.tw7957282063911882503 : Unit := ()
def PySem.W.Fast.tw29177242718133960 : Unit := ()
def PySem.W.Fast.tw7210768488476524692 : Unit := ()
def PySem.W.Fast.tw12328441037292098975 : Unit := ()
def PySem.W.Fast.tw9440053735686467461 : Unit := ()
def PySem.W.Fast.tw7170214279355935959 : Unit := ()
def PySem.W.Fast.tw1659059573964380337 : Unit := ()
def PySem.W.Fast.tw5996182332034243723 : Unit := ()
def PySem.W.Fast.tw14628718448246869845 : Unit := ()
def PySem.W.Fast.tw7767602421131413265 : Unit := ()
def PySem.W.Fast.tw10702495878080214710 : Unit := ()
def PySem.W.Fast.tw1417180122350463343 : Unit := ()
def PySem.W.Fast.tw15975074919646756058 : Unit := ()
def PySem.W.Fast.tw357656556189772244 : Unit := ()
def PySem.W.Fast.tw16479444002098070011 : Unit := ()
def PySem.W.Fast.tw14902730405727392269 : Unit := ()
def PySem.W.Fast.tw9071119611775257552 : Unit := ()
def PySem.W.Fast.tw17844945592722527074 : Unit := ()
def PySem.W.Fast.tw9234301068915860729 : Unit := ()
def PySem.W.Fast.tw5871230082863867215 : Unit := ()
def PySem.W.Fast.tw1913842853926620262 : Unit := ()
def PySem.W.Fast.tw906701222549241586 : Unit := ()
def PySem.W.Fast.tw6505915786891418113 : Unit := ()
def PySem.W.Fast.tw9838372826004796664 : Unit := ()
def PySem.W.Fast.tw14634529280867065860 : Unit := ()
def PySem.W.Fast.tw6923685170870461682 : Unit := ()
def PySem.W.Fast.tw15584313022803031316 : Unit := ()
def PySem.W.Fast.tw2077362873795803483 : Unit := ()
def PySem.W.Fast.tw14555006343446989220 : Unit := ()
def PySem.W.Fast.tw742953110996331883 : Unit := ()
def PySem.W.Fast.tw15287228905408538851 : Unit := ()
def PySem.W.Fast.tw3540431154999078908 : Unit := ()
def PySem.W.Fast.tw18380779794882755562 : Unit := ()
def PySem.W.Fast.tw13571309889331266707 : Unit := ()
def PySem.W.Fast.tw16330283131489457009 : Unit := ()
def PySem.W.Fast.tw6134226107763088053 : Unit := ()
def PySem.W.Fast.tw8481965503848631027 : Unit := ()
def PySem.W.Fast.tw16891311606469049868 : Unit := ()
def PySem.W.Fast.tw3446966221192119402 : Unit := ()
def PySem.W.Fast.tw14840288952656246333 : Unit := ()
def PySem.W.Fast.tw6640090388928713925 : Unit := ()
def PySem.W.Fast.tw4960865605421213185 : Unit := ()
def PySem.W.Fast.tw2733208034029290728 : Unit := ()
def PySem.W.Fast.tw12438995252967361499 : Unit := ()
def PySem.W.Fast.tw15161437450758988675 : Unit := ()
def PySem.W.Fast.tw10009155242797364033 : Unit := ()
def PySem.W.Fast.tw4635895081616618105 : Unit := ()
def PySem.W.Fast.tw6780421760663659390 : Unit := ()
def PySem.W.Fast.tw4738508595705553681 : Unit := ()
def PySem.W.Fast.tw13774221651972158044 : Unit := ()
def PySem.W.Fast.tw17282604600959358921 : Unit := ()
def PySem.W.Fast.tw15486111526128074453 : Unit := ()
def PySem.W.Fast.tw16558886719409254355 : Unit := ()
def PySem.W.Fast.tw8410117075578500432 : Unit := ()
def PySem.W.Fast.tw4057519785097534042 : Unit := ()
def PySem.W.Fast.tw13242751659235429471 : Unit := ()
def PySem.W.Fast.tw11654023011970541104 : Unit := ()
def PySem.W.Fast.tw4322801142110903238 : Unit := ()
def PySem.W.Fast.tw12259691032715004118 : Unit := ()
def PySem.W.Fast.tw865385905364477334 : Unit := ()
def PySem.W.Fast.tw15094640785006030780 : Unit := ()
def PySem.W.Fast.tw15130128896171765260 : Unit := ()
def PySem.W.Fast.tw256010694714803473 : Unit := ()
def PySem.W.Fast.tw4729847812853302752 : Unit := ()
def PySem.W.Fast.tw11906604512817969356 : Unit := ()
def PySem.W.Fast.tw11739542507429791780 : Unit := ()
def PySem.W.Fast.tw5779961682882153361 : Unit := ()
def PySem.W.Fast.tw10868865896877110699 : Unit := ()
def PySem.W.Fast.tw14729101084944349477 : Unit := ()
def PySem.W.Fast.tw5744156856108695093 : Unit := ()
def PySem.W.Fast.tw12486816648590428607 : Unit := ()
def PySem.W.Fast.tw857976223354937860 : Unit := ()
def PySem.W.Fast.tw90143018230335160 : Unit := ()
def PySem.W.Fast.tw3526371017211862682 : Unit := ()
def PySem.W.Fast.tw1926388009672342091 : Unit := ()
def PySem.W.Fast.tw16013777823976218148 : Unit := ()
def PySem.W.Fast.tw8254193062443284508 : Unit := ()
def PySem.W.Fast.tw4959372969331747237 : Unit := ()
def PySem.W.Fast.tw7849992334494103967 : Unit := ()
def PySem.W.Fast.tw16454801550080795660 : Unit := ()
def PySem.W.Fast.tw14969245629316324904 : Unit := ()
def PySem.W.Fast.tw3630097275326085536 : Unit := ()
def PySem.W.Fast.tw15709738357715373393 : Unit := ()
def PySem.W.Fast.tw8887830228650201598 : Unit := ()
def PySem.W.Fast.tw12514991983392489074 : Unit := ()
def PySem.W.Fast.tw13452488112859574510 : Unit := ()
def PySem.W.Fast.tw16486058257351658595 : Unit := ()
def PySem.W.Fast.tw5288554534234984535 : Unit := ()
def PySem.W.Fast.tw14378313305032415831 : Unit := ()
def PySem.W.Fast.tw10363591236585299701 : Unit := ()
def PySem.W.Fast.tw1104092213840330810 : Unit := ()
def PySem.W.Fast.tw5663928520670805836 : Unit := ()
def PySem.W.Fast.tw10485005585360557553 : Unit := ()
def PySem.W.Fast.tw9909206898015499914 : Unit := ()
def PySem.W.Fast.tw4674800370763281920 : Unit := ()
def PySem.W.Fast.tw4209599475991373647 : Unit := ()
def PySem.W.Fast.tw14094700156006314371 : Unit := ()
def PySem.W.Fast.tw8992608167073155463 : Unit := ()
def PySem.W.Fast.tw1517896425717751304 : Unit := ()
def PySem.W.Fast.tw13866379200467589839 : Unit := ()
def PySem.W.Fast.tw962153037582349448 : Unit := ()
def PySem.W.Fast.tw12909199828994115625 : Unit := ()
def PySem.W.Fast.tw15669086400394949871 : Unit := ()
def PySem.W.Fast.tw5564288709589672694 : Unit := ()
def PySem.W.Fast.tw12956379773688338011 : Unit := ()
def PySem.W.Fast.tw13219208823334987299 : Unit := ()
def PySem.W.Fast.tw4545163319684480862 : Unit := ()
def PySem.W.Fast.tw15238943254034851849 : Unit := ()
def PySem.W.Fast.tw9138982891777763044 : Unit := ()
def PySem.W.Fast.tw14568104082216026778 : Unit := ()
def PySem.W.Fast.tw1289753540439472946 : Unit := ()
def PySem.W.Fast.tw12744166584168977000 : Unit := ()
def PySem.W.Fast.tw11954917931744122491 : Unit := ()
def PySem.W.Fast.tw18118204579982323041 : Unit := ()
def PySem.W.Fast.tw13213088297157730391 : Unit := ()
def PySem.W.Fast.tw96027086715053086 : Unit := ()
def PySem.W.Fast.tw8538898203807495471 : Unit := ()
def PySem.W.Fast.tw6638668648790307665 : Unit := ()
def PySem.W.Fast.tw12148487496086081007 : Unit := ()
def PySem.W.Fast.tw9208839669270288167 : Unit := ()
def PySem.W.Fast.tw3956354440980490394 : Unit := ()
def PySem.W.Fast.tw17570455863607382260 : Unit := ()
def PySem.W.Fast.tw8593171442524589031 : Unit := ()
def PySem.W.Fast.tw1597815275312289489 : Unit := ()
def PySem.W.Fast.tw4096715524197203225 : Unit := ()
def PySem.W.Fast.tw3441866045489094157 : Unit := ()
def PySem.W.Fast.tw10322409056923317944 : Unit := ()
def PySem.W.Fast.tw11020603813698831104 : Unit := ()
def PySem.W.Fast.tw5993410416429477681 : Unit := ()
def PySem.W.Fast.tw3199778932155749051 : Unit := ()
def PySem.W.Fast.tw8057821165541630381 : Unit := ()
def PySem.W.Fast.tw13129496996253072199 : Unit := ()
def PySem.W.Fast.tw13137235034783234887 : Unit := ()
def PySem.W.Fast.tw7064126001308406098 : Unit := ()
def PySem.W.Fast.tw17862335267130942150 : Unit := ()
def PySem.W.Fast.tw12017920028641852226 : Unit := ()
def PySem.W.Fast.tw16367477359534966430 : Unit := ()
def PySem.W.Fast.tw1035133982759676397 : Unit := ()
def PySem.W.Fast.tw10355832737046454620 : Unit := ()
def PySem.W.Fast.tw3019608368854396247 : Unit := ()
def PySem.W.Fast.tw10815214802357599384 : Unit := ()
def PySem.W.Fast.tw8254746820511960778 : Unit := ()
def PySem.W.Fast.tw9309926066922195187 : Unit := ()
def PySem.W.Fast.tw2276947522605406649 : Unit := ()
def PySem.W.Fast.tw4795749955649920031 : Unit := ()
def PySem.W.Fast.tw982080010496550539 : Unit := ()
def PySem.W.Fast.tw7874142263769308054 : Unit := ()
def PySem.W.Fast.tw14836039918910705939 : Unit := ()
def PySem.W.Fast.tw946593380829036170 : Unit := ()
def PySem.W.Fast.tw7193556626677810756 : Unit := ()
def PySem.W.Fast.tw6411001539562091365 : Unit := ()
def PySem.W.Fast.tw10290480207969725167 : Unit := ()
def PySem.W.Fast.tw9634846489262238676 : Unit := ()
def PySem.W.Fast.tw15110059175616166557 : Unit := ()
def PySem.W.Fast.tw4692205719620850365 : Unit := ()
def PySem.W.Fast.tw12117285381359430499 : Unit := ()
def PySem.W.Fast.tw11078308517678056543 : Unit := ()
def PySem.W.Fast.tw18031063484464240690 : Unit := ()
def PySem.W.Fast.tw18392351670483923370 : Unit := ()
def PySem.W.Fast.tw10705254261161091597 : Unit := ()
def PySem.W.Fast.tw909744267752921819 : Unit := ()
def PySem.W.Fast.tw11299474293777022242 : Unit := ()
def PySem.W.Fast.tw15554146570325230929 : Unit := ()
def PySem.W.Fast.tw10625945527262660038 : Unit := ()
def PySem.W.Fast.tw15138810651928361134 : Unit := ()
def PySem.W.Fast.tw9210282697470814602 : Unit := ()
def PySem.W.Fast.tw1107361584224466354 : Unit := ()
def PySem.W.Fast.tw1182081406589042825 : Unit := ()
def PySem.W.Fast.tw4830370907818624957 : Unit := ()
def PySem.W.Fast.tw14872976328388204730 : Unit := ()
def PySem.W.Fast.tw7970036478429069376 : Unit := ()
def PySem.W.Fast.tw143030309323399715 : Unit := ()
def PySem.W.Fast.tw1309991187772234378 : Unit := ()
def PySem.W.Fast.tw6301621318302803931 : Unit := ()
def PySem.W.Fast.tw6592200698879368983 : Unit := ()
def PySem.W.Fast.tw13436835437737073440 : Unit := ()
def PySem.W.Fast.tw243038365796431284 : Unit := ()
def PySem.W.Fast.tw10744274488372133645 : Unit := ()
def PySem.W.Fast.tw11366807885088401658 : Unit := ()
def PySem.W.Fast.tw16734813632682955753 : Unit := ()
def PySem.W.Fast.tw5068068506764798687 : Unit := ()
def PySem.W.Fast.tw13543902860142032565 : Unit := ()
def PySem.W.Fast.tw7877147523197741493 : Unit := ()
def PySem.W.Fast.tw13666086472405953315 : Unit := ()
def PySem.W.Fast.tw13127698641174248219 : Unit := ()
def PySem.W.Fast.tw6436658220207852081 : Unit := ()
def PySem.W.Fast.tw16828608433101453268 : Unit := ()
def PySem.W.Fast.tw12420336300324640081 : Unit := ()
def PySem.W.Fast.tw478619685202498071 : Unit := ()
def PySem.W.Fast.tw10747047619702273036 : Unit := ()
def PySem.W.Fast.tw8501529307343582678 : Unit := ()
def PySem.W.Fast.tw5439451736486446816 : Unit := ()
def PySem.W.Fast.tw4618040262767865319 : Unit := ()
def PySem.W.Fast.tw6142345137769859753 : Unit := ()
def PySem.W.Fast.tw7299205217052395066 : Unit := ()
def PySem.W.Fast.tw688906239424680847 : Unit := ()
def PySem.W.Fast.tw18429929566300977741 : Unit := ()
def PySem.W.Fast.tw14651483026452498512 : Unit := ()
def PySem.W.Fast.tw6866450655394278655 : Unit := ()
def PySem.W.Fast.tw1634559577467267873 : Unit := ()
def PySem.W.Fast.tw5357424950783492454 : Unit := ()
def PySem.W.Fast.tw17585430265438310043 : Unit := ()
def PySem.W.Fast.tw7685969542672913688 : Unit := ()
def PySem.W.Fast.tw6267445507376007082 : Unit := ()
def PySem.W.Fast.tw14711653748628424866 : Unit := ()
def PySem.W.Fast.tw5475591458062855677 : Unit := ()
def PySem.W.Fast.tw15077886506442811230 : Unit := ()
def PySem.W.Fast.tw7759260769175212259 : Unit := ()
def PySem.W.Fast.tw15932320444929663880 : Unit := ()
def PySem.W.Fast.tw14615042045540005071 : Unit := ()
def PySem.W.Fast.tw14608750490742441106 : Unit := ()
def PySem.W.Fast.tw7265054207124260922 : Unit := ()
def PySem.W.Fast.tw14504511880301873433 : Unit := ()
def PySem.W.Fast.tw16451107444757569195 : Unit := ()
def PySem.W.Fast.tw18130026283094011035 : Unit := ()
def PySem.W.Fast.tw1687081646303804476 : Unit := ()
def PySem.W.Fast.tw448606710027536840 : Unit := ()
def PySem.W.Fast.tw5281252187588180325 : Unit := ()
def PySem.W.Fast.tw12347417010182425958 : Unit := ()
def PySem.W.Fast.tw7265086472192716088 : Unit := ()
def PySem.W.Fast.tw4497397342910955714 : Unit := ()
def PySem.W.Fast.tw1388950491202307908 : Unit := ()
def PySem.W.Fast.tw12630251950305107641 : Unit := ()
def PySem.W.Fast.tw7241954041542158255 : Unit := ()
def PySem.W.Fast.tw2759973681628751186 : Unit := ()
def PySem.W.Fast.tw13565614520682060424 : Unit := ()
def PySem.W.Fast.tw15790647762771656570 : Unit := ()
def PySem.W.Fast.tw5393704370638885116 : Unit := ()
def PySem.W.Fast.tw13387397630935508685 : Unit := ()
def PySem.W.Fast.tw8339161055396757208 : Unit := ()
def PySem.W.Fast.tw14855633376662245416 : Unit := ()
def PySem.W.Fast.tw7941293961485015481 : Unit := ()
def PySem.W.Fast.tw10900531809114093548 : Unit := ()
def PySem.W.Fast.tw2617715063592377851 : Unit := ()
def PySem.W.Fast.tw1567930912662979243 : Unit := ()
def PySem.W.Fast.tw6429377327336247774 : Unit := ()
def PySem.W.Fast.tw14316467936843613185 : Unit := ()
def PySem.W.Fast.tw6817766086127519186 : Unit := ()
def PySem.W.Fast.tw8118758152344937005 : Unit := ()
def PySem.W.Fast.tw4896676239231415449 : Unit := ()
def PySem.W.Fast.tw1899741626081931251 : Unit := ()
def PySem.W.Fast.tw17664342256807515648 : Unit := ()
def PySem.W.Fast.tw2659519463682486546 : Unit := ()
def PySem.W.Fast.tw13387140728010011442 : Unit := ()
def PySem.W.Fast.tw4025679837986041851 : Unit := ()
def PySem.W.Fast.tw16892455620117679029 : Unit := ()
def PySem.W.Fast.tw5959051674904140077 : Unit := ()
def PySem.W.Fast.tw16086426976074823610 : Unit := ()
def PySem.W.Fast.tw9202468259721104703 : Unit := ()
def PySem.W.Fast.tw11518838622557676846 : Unit := ()
def PySem.W.Fast.tw8025032443732583894 : Unit := ()
def PySem.W.Fast.tw4480313601064421720 : Unit := ()
def PySem.W.Fast.tw18229097924551501425 : Unit := ()
def PySem.W.Fast.tw5110042993568007673 : Unit := ()
def PySem.W.Fast.tw8489404681333153434 : Unit := ()
def PySem.W.Fast.tw16179137329019890166 : Unit := ()
def PySem.W.Fast.tw3225189351486577237 : Unit := ()
def PySem.W.Fast.tw13899483779310185090 : Unit := ()
def PySem.W.Fast.tw9566451530267830093 : Unit := ()
def PySem.W.Fast.tw578916316618518063 : Unit := ()
def PySem.W.Fast.tw659390379850547975 : Unit := ()
def PySem.W.Fast.tw2307663381833926252 : Unit := ()
def PySem.W.Fast.tw4843954618199480731 : Unit := ()
def PySem.W.Fast.tw16059066793530238844 : Unit := ()
def PySem.W.Fast.tw13778000996174115158 : Unit := ()
def PySem.W.Fast.tw8900647856730162669 : Unit := ()
def PySem.W.Fast.tw4727559003811265693 : Unit := ()
def PySem.W.Fast.tw3364846729552975556 : Unit := ()
def PySem.W.Fast.tw2305016715736701954 : Unit := ()
def PySem.W.Fast.tw6372771664128549926 : Unit := ()
def PySem.W.Fast.tw15604730430380170789 : Unit := ()
def PySem.W.Fast.tw7765058142536879495 : Unit := ()
def PySem.W.Fast.tw10644769862988684885 : Unit := ()
def PySem.W.Fast.tw10759515889436037865 : Unit := ()
def PySem.W.Fast.tw12525314426293094052 : Unit := ()
def PySem.W.Fast.tw6178855329414299838 : Unit := ()
def PySem.W.Fast.tw12383618676091618538 : Unit := ()
def PySem.W.Fast.tw236173039374068465 : Unit := ()
def PySem.W.Fast.tw11803676783723319700 : Unit := ()
def PySem.W.Fast.tw6915948417907196276 : Unit := ()
def PySem.W.Fast.tw1326121426410937325 : Unit := ()
def PySem.W.Fast.tw2060685162174798949 : Unit := ()
def PySem.W.Fast.tw3555357415343458290 : Unit := ()
def PySem.W.Fast.tw846923773004084549 : Unit := ()
def PySem.W.Fast.tw2149643803148943707 : Unit := ()
def PySem.W.Fast.tw6507553222233214303 : Unit := ()
def PySem.W.Fast.tw11215883233110367560 : Unit := ()
def PySem.W.Fast.tw7904221182876662693 : Unit := ()
def PySem.W.Fast.tw3121617832739066768 : Unit := ()
def PySem.W.Fast.tw8401409700002745209 : Unit := ()
def PySem.W.Fast.tw15796337084892675739 : Unit := ()
def PySem.W.Fast.tw17242422434349756267 : Unit := ()
def PySem.W.Fast.tw16950757503045298616 : Unit := ()
def PySem.W.Fast.tw16128375438984273225 : Unit := ()
def PySem.W.Fast.tw3422400240299760588 : Unit := ()
def PySem.W.Fast.tw6707243321586189538 : Unit := ()
def PySem.W.Fast.tw5667595127182907506 : Unit := ()
def PySem.W.Fast.tw4684953344007251904 : Unit := ()
def PySem.W.Fast.tw9637206154392156402 : Unit := ()
def PySem.W.Fast.tw10760639292951841164 : Unit := ()
def PySem.W.Fast.tw4665403015903276058 : Unit := ()
def PySem.W.Fast.tw14586414115576879898 : Unit := ()
def PySem.W.Fast.tw12390091936058757420 : Unit := ()
def PySem.W.Fast.tw1313748015623046333 : Unit := ()
def PySem.W.Fast.tw15214857645796511446 : Unit := ()
def PySem.W.Fast.tw12837144856372196550 : Unit := ()
def PySem.W.Fast.tw13856048447417553392 : Unit := ()
def PySem.W.Fast.tw2697936025403213547 : Unit := ()
def PySem.W.Fast.tw2993338294035972118 : Unit := ()
def PySem.W.Fast.tw10731280433864099108 : Unit := ()
def PySem.W.Fast.tw3539371826590369877 : Unit := ()
def PySem.W.Fast.tw2042334085412958883 : Unit := ()
def PySem.W.Fast.tw7212909757037516428 : Unit := ()
def PySem.W.Fast.tw9084105173153141276 : Unit := ()
def PySem.W.Fast.tw6176284882349868990 : Unit := ()
def PySem.W.Fast.tw13372360154340681384 : Unit := ()
def PySem.W.Fast.tw15404003428043364015 : Unit := ()
def PySem.W.Fast.tw15012386634856794644 : Unit := ()
def PySem.W.Fast.tw9547441489319110613 : Unit := ()
def PySem.W.Fast.tw5453133771666684277 : Unit := ()
def PySem.W.Fast.tw8571674975445053921 : Unit := ()
def PySem.W.Fast.tw1193591588421128943 : Unit := ()
def PySem.W.Fast.tw7665791437904018468 : Unit := ()
def PySem.W.Fast.tw4177783796499100265 : Unit := ()
def PySem.W.Fast.tw1648947847850248525 : Unit := ()
def PySem.W.Fast.tw18088987705056636368 : Unit := ()
def PySem.W.Fast.tw7039162600424513583 : Unit := ()
def PySem.W.Fast.tw12942715664013037506 : Unit := ()
def PySem.W.Fast.tw11481458823045260714 : Unit := ()
def PySem.W.Fast.tw10964355253679758456 : Unit := ()
def PySem.W.Fast.tw18097530975347369576 : Unit := ()
def PySem.W.Fast.tw16637913027478431946 : Unit := ()
def PySem.W.Fast.tw17510488576386620017 : Unit := ()
def PySem.W.Fast.tw17885824928617587385 : Unit := ()
def PySem.W.Fast.tw3696847900747298626 : Unit := ()
def PySem.W.Fast.tw10872874269218544127 : Unit := ()
def PySem.W.Fast.tw1204636936763173313 : Unit := ()
def PySem.W.Fast.tw14586452435756617481 : Unit := ()
def PySem.W.Fast.tw5402780245517416589 : Unit := ()
def PySem.W.Fast.tw764785606796909353 : Unit := ()
def PySem.W.Fast.tw2474098380680742050 : Unit := ()
def PySem.W.Fast.tw8102459626643127790 : Unit := ()
def PySem.W.Fast.tw226467873199749720 : Unit := ()
def PySem.W.Fast.tw8220639627159616885 : Unit := ()
def PySem.W.Fast.tw9183786925024916645 : Unit := ()
def PySem.W.Fast.tw15035984711544504478 : Unit := ()
def PySem.W.Fast.tw14090722320621598689 : Unit := ()
def PySem.W.Fast.tw5978603525791837975 : Unit := ()
def PySem.W.Fast.tw9709644895530564941 : Unit := ()
def PySem.W.Fast.tw1384056498995949468 : Unit := ()
def PySem.W.Fast.tw2016890254448823414 : Unit := ()
def PySem.W.Fast.tw9708572607437927220 : Unit := ()
def PySem.W.Fast.tw11644257636513082698 : Unit := ()
def PySem.W.Fast.tw5160471273700585528 : Unit := ()
def PySem.W.Fast.tw17463291821958044515 : Unit := ()
def PySem.W.Fast.tw3177938018589429386 : Unit := ()
def PySem.W.Fast.tw6481948971437760853 : Unit := ()
def PySem.W.Fast.tw9039818275146544734 : Unit := ()
def PySem.W.Fast.tw7654795563691910735 : Unit := ()
def PySem.W.Fast.tw2510793000304426422 : Unit := ()
def PySem.W.Fast.tw17681145445722260635 : Unit := ()
def PySem.W.Fast.tw12155706734534733797 : Unit := ()
def PySem.W.Fast.tw18003693148195162914 : Unit := ()
def PySem.W.Fast.tw12902423058433662536 : Unit := ()
def PySem.W.Fast.tw14833167020434578803 : Unit := ()
def PySem.W.Fast.tw10762861148405144536 : Unit := ()
def PySem.W.Fast.tw5197941721743664379 : Unit := ()
def PySem.W.Fast.tw8766433870385734122 : Unit := ()
def PySem.W.Fast.tw15040069078795260288 : Unit := ()
def PySem.W.Fast.tw13462322028170938874 : Unit := ()
def PySem.W.Fast.tw708676437090700953 : Unit := ()
def PySem.W.Fast.tw12422907041857279258 : Unit := ()
def PySem.W.Fast.tw9424484310636088434 : Unit := ()
def PySem.W.Fast.tw5848943234751962607 : Unit := ()
def PySem.W.Fast.tw7480632566263707814 : Unit := ()
def PySem.W.Fast.tw11712713946024031681 : Unit := ()
def PySem.W.Fast.tw15892356326831098677 : Unit := ()
def PySem.W.Fast.tw17730905191917351258 : Unit := ()
def PySem.W.Fast.tw16037218755900363822 : Unit := ()
def PySem.W.Fast.tw4838571682414288150 : Unit := ()
def PySem.W.Fast.tw12410627162627877528 : Unit := ()
def PySem.W.Fast.tw14955130223090932169 : Unit := ()
def PySem.W.Fast.tw304155723042442339 : Unit := ()
def PySem.W.Fast.tw4474703342421756717 : Unit := ()
def PySem.W.Fast.tw11458022455820835498 : Unit := ()
def PySem.W.Fast.tw9735992129766855696 : Unit := ()
def PySem.W.Fast.tw9516454316610395853 : Unit := ()
def PySem.W.Fast.tw1344590543149399693 : Unit := ()
def PySem.W.Fast.tw8517220464935813591 : Unit := ()
def PySem.W.Fast.tw11615302673288623047 : Unit := ()
def PySem.W.Fast.tw8479074653998478745 : Unit := ()
def PySem.W.Fast.tw7386581519257373238 : Unit := ()
def PySem.W.Fast.tw14461084597414267519 : Unit := ()
def PySem.W.Fast.tw15981899122269933571 : Unit := ()
def PySem.W.Fast.tw3437699696133766960 : Unit := ()
def PySem.W.Fast.tw13494403724988117544 : Unit := ()
def PySem.W.Fast.tw9850910284679279848 : Unit := ()
def PySem.W.Fast.tw891949538412682721 : Unit := ()
def PySem.W.Fast.tw14298898881804234219 : Unit := ()
def PySem.W.Fast.tw8847469788068588330 : Unit := ()
def PySem.W.Fast.tw6608334654053197492 : Unit := ()
def PySem.W.Fast.tw17873305846953761329 : Unit := ()
def PySem.W.Fast.tw6921668267907823081 : Unit := ()
def PySem.W.Fast.tw14880960896237569881 : Unit := ()
def PySem.W.Fast.tw10026703068976757628 : Unit := ()
def PySem.W.Fast.tw4606883633380458276 : Unit := ()
def PySem.W.Fast.tw15394755831452738654 : Unit := ()
def PySem.W.Fast.tw3799648698300050686 : Unit := ()
def PySem.W.Fast.tw7450785519577510935 : Unit := ()
def PySem.W.Fast.tw3850032478988953231 : Unit := ()
def PySem.W.Fast.tw661193427101483833 : Unit := ()
def PySem.W.Fast.tw11042086349365534324 : Unit := ()
def PySem.W.Fast.tw18163232000228615866 : Unit := ()
def PySem.W.Fast.tw14844619261161686568 : Unit := ()
def PySem.W.Fast.tw5553047214222512311 : Unit := ()
def PySem.W.Fast.tw14489369716248653503 : Unit := ()
def PySem.W.Fast.tw9023311344279743362 : Unit := ()
def PySem.W.Fast.tw15149813859990518242 : Unit := ()
def PySem.W.Fast.tw3987217833145092147 : Unit := ()
def PySem.W.Fast.tw5126513914693512110 : Unit := ()
def PySem.W.Fast.tw10479299881720572386 : Unit := ()
def PySem.W.Fast.tw6800069437623043414 : Unit := ()
def PySem.W.Fast.tw3624640044188798653 : Unit := ()
def PySem.W.Fast.tw12277396350117849729 : Unit := ()
def PySem.W.Fast.tw8846866480896283456 : Unit := ()
def PySem.W.Fast.tw2670460988287586319 : Unit := ()
def PySem.W.Fast.tw15918388491183356887 : Unit := ()
def PySem.W.Fast.tw9841014718613631372 : Unit := ()
def PySem.W.Fast.tw7618412352894824306 : Unit := ()
def PySem.W.Fast.tw11298464740341963149 : Unit := ()
def PySem.W.Fast.tw5562358008092112101 : Unit := ()
def PySem.W.Fast.tw642908147335448195 : Unit := ()
def PySem.W.Fast.tw7314058817701538252 : Unit := ()
def PySem.W.Fast.tw6576140251315978296 : Unit := ()
def PySem.W.Fast.tw808932185395161956 : Unit := ()
def PySem.W.Fast.tw13052958973169232283 : Unit := ()
def PySem.W.Fast.tw7451183261447020570 : Unit := ()
def PySem.W.Fast.tw14888331604148905091 : Unit := ()
def PySem.W.Fast.tw5524643061090076213 : Unit := ()
def PySem.W.Fast.tw16628021043341917155 : Unit := ()
def PySem.W.Fast.tw2098737785413690437 : Unit := ()
def PySem.W.Fast.tw15521523832646484866 : Unit := ()
def PySem.W.Fast.tw17306919388102735483 : Unit := ()
def PySem.W.Fast.tw12219881156875090950 : Unit := ()
def PySem.W.Fast.tw2388252293451597862 : Unit := ()
def PySem.W.Fast.tw3552458745288283296 : Unit := ()
def PySem.W.Fast.tw8159046736532858982 : Unit := ()
def PySem.W.Fast.tw7340773948541118855 : Unit := ()
def PySem.W.Fast.tw2147694054299972905 : Unit := ()
def PySem.W.Fast.tw11507320777098834768 : Unit := ()
def PySem.W.Fast.tw4734500902140672052 : Unit := ()
def PySem.W.Fast.tw6648195625684682866 : Unit := ()
def PySem.W.Fast.tw4429497834530875580 : Unit := ()
def PySem.W.Fast.tw807932927712574533 : Unit := ()
def PySem.W.Fast.tw10422737964273146277 : Unit := ()
def PySem.W.Fast.tw11106490588605906297 : Unit := ()
def PySem.W.Fast.tw4707555248876384798 : Unit := ()
def PySem.W.Fast.tw11553853967190325674 : Unit := ()
def PySem.W.Fast.tw13091578322792813507 : Unit := ()
def PySem.W.Fast.tw6044563143754058869 : Unit := ()
def PySem.W.Fast.tw9985917922388855980 : Unit := ()
def PySem.W.Fast.tw12532439335730185874 : Unit := ()
def PySem.W.Fast.tw1567182290580795621 : Unit := ()
def PySem.W.Fast.tw1244384759677886459 : Unit := ()
def PySem.W.Fast.tw13391687172656438550 : Unit := ()
def PySem.W.Fast.tw8846173556312640461 : Unit := ()
def PySem.W.Fast.tw6640211838270425469 : Unit := ()
def PySem.W.Fast.tw4100266777132100408 : Unit := ()
def PySem.W.Fast.tw13236897535261403004 : Unit := ()
def PySem.W.Fast.tw10005454427115969818 : Unit := ()
def PySem.W.Fast.tw17685191562325484830 : Unit := ()
def PySem.W.Fast.tw9947494468813448399 : Unit := ()
def PySem.W.Fast.tw6286828523914471926 : Unit := ()
def PySem.W.Fast.tw4054881654992399587 : Unit := ()
def PySem.W.Fast.tw9140397296703026917 : Unit := ()
def PySem.W.Fast.tw8077137968201857554 : Unit := ()
def PySem.W.Fast.tw10991729443464849095 : Unit := ()
def PySem.W.Fast.tw11324018045735249873 : Unit := ()
def PySem.W.Fast.tw12268800787831352920 : Unit := ()
def PySem.W.Fast.tw6859864438098230395 : Unit := ()
def PySem.W.Fast.tw11888004554354111313 : Unit := ()
def PySem.W.Fast.tw721979037672904557 : Unit := ()
def PySem.W.Fast.tw17816490935563448234 : Unit := ()
def PySem.W.Fast.tw11535726656974172797 : Unit := ()
def PySem.W.Fast.tw16214491317570030184 : Unit := ()
def PySem.W.Fast.tw14800400072482781518 : Unit := ()
def PySem.W.Fast.tw5445388072105523020 : Unit := ()
def PySem.W.Fast.tw6516342658778730735 : Unit := ()
def PySem.W.Fast.tw8917759344283206005 : Unit := ()
def PySem.W.Fast.tw12413019599417963975 : Unit := ()
def PySem.W.Fast.tw14522517705584072876 : Unit := ()
def PySem.W.Fast.tw10916232311984294550 : Unit := ()
def PySem.W.Fast.tw1442124206631179819 : Unit := ()
def PySem.W.Fast.tw11790614419811088526 : Unit := ()
def PySem.W.Fast.tw12029038742391293618 : Unit := ()
def PySem.W.Fast.tw12104684129389899739 : Unit := ()
def PySem.W.Fast.tw3489942263345290969 : Unit := ()
def PySem.W.Fast.tw431480737967438164 : Unit := ()
def PySem.W.Fast.tw14973097314994325721 : Unit := ()
def PySem.W.Fast.tw12112141249288471790 : Unit := ()
def PySem.W.Fast.tw3040657860065897168 : Unit := ()
def PySem.W.Fast.tw11349464131330867936 : Unit := ()
def PySem.W.Fast.tw17109759466676879859 : Unit := ()
def PySem.W.Fast.tw552367949555601868 : Unit := ()
def PySem.W.Fast.tw18090027071791539761 : Unit := ()
def PySem.W.Fast.tw13543593237586946125 : Unit := ()
def PySem.W.Fast.tw12890709202061447934 : Unit := ()
def PySem.W.Fast.tw11826971586586794921 : Unit := ()
def PySem.W.Fast.tw6515505469999298213 : Unit := ()
def PySem.W.Fast.tw17892052653672209156 : Unit := ()
def PySem.W.Fast.tw16313527305810445930 : Unit := ()
def PySem.W.Fast.tw7391104942583770172 : Unit := ()
def PySem.W.Fast.tw7646889259954763403 : Unit := ()
def PySem.W.Fast.tw3455438011398658549 : Unit := ()
def PySem.W.Fast.tw14870703926193093204 : Unit := ()
def PySem.W.Fast.tw12544459165509435419 : Unit := ()
def PySem.W.Fast.tw1789002095949557031 : Unit := ()
def PySem.W.Fast.tw9007624906877408211 : Unit := ()
def PySem.W.Fast.tw1645626427873742095 : Unit := ()
def PySem.W.Fast.tw16596509687280280022 : Unit := ()
def PySem.W.Fast.tw18048526597983697222 : Unit := ()
def PySem.W.Fast.tw6863175806386687300 : Unit := ()
def PySem.W.Fast.tw8811479066740269764 : Unit := ()
def PySem.W.Fast.tw13391804527394787129 : Unit := ()
def PySem.W.Fast.tw13738130329825790135 : Unit := ()
def PySem.W.Fast.tw7795781815840199753 : Unit := ()
def PySem.W.Fast.tw14401581317300020215 : Unit := ()
def PySem.W.Fast.tw16498265458531330594 : Unit := ()
def PySem.W.Fast.tw8893785177818876533 : Unit := ()
def PySem.W.Fast.tw10873336963559598522 : Unit := ()
def PySem.W.Fast.tw13993163982713261494 : Unit := ()
def PySem.W.Fast.tw2668778929669792800 : Unit := ()
def PySem.W.Fast.tw16034071306787557296 : Unit := ()
def PySem.W.Fast.tw16502469026538745605 : Unit := ()
def PySem.W.Fast.tw3749153954816159311 : Unit := ()
def PySem.W.Fast.tw2847244263662757887 : Unit := ()
def PySem.W.Fast.tw8923012404548180702 : Unit := ()
def PySem.W.Fast.tw3307434721749825797 : Unit := ()
def PySem.W.Fast.tw7947737479456000044 : Unit := ()
def PySem.W.Fast.tw10226110957894300651 : Unit := ()
def PySem.W.Fast.tw14055650471400243490 : Unit := ()
def PySem.W.Fast.tw13303923095837428115 : Unit := ()
def PySem.W.Fast.tw17289509528078668638 : Unit := ()
def PySem.W.Fast.tw7769022192142877315 : Unit := ()
def PySem.W.Fast.tw11543805581873083701 : Unit := ()
def PySem.W.Fast.tw9757935745905619106 : Unit := ()
def PySem.W.Fast.tw14266776744091218411 : Unit := ()
def PySem.W.Fast.tw7699722823579539967 : Unit := ()
def PySem.W.Fast.tw14250151179767277781 : Unit := ()
def PySem.W.Fast.tw14232585667879211713 : Unit := ()
def PySem.W.Fast.tw8750583229713391886 : Unit := ()
def PySem.W.Fast.tw17037655144177798845 : Unit := ()
def PySem.W.Fast.tw13562989635791746416 : Unit := ()
def PySem.W.Fast.tw8920531149891048221 : Unit := ()
def PySem.W.Fast.tw12524845163141693869 : Unit := ()
def PySem.W.Fast.tw704798229521953149 : Unit := ()
def PySem.W.Fast.tw1287492336345920586 : Unit := ()
def PySem.W.Fast.tw15947086969040617411 : Unit := ()
def PySem.W.Fast.tw3635736385593657580 : Unit := ()
def PySem.W.Fast.tw4888576441737001934 : Unit := ()
def PySem.W.Fast.tw13881756939517276049 : Unit := ()
def PySem.W.Fast.tw555069161901070537 : Unit := ()
def PySem.W.Fast.tw10376388103017524182 : Unit := ()
def PySem.W.Fast.tw369857457712108663 : Unit := ()
def PySem.W.Fast.tw14876942391159954111 : Unit := ()
def PySem.W.Fast.tw11258782219282485077 : Unit := ()
def PySem.W.Fast.tw15565485211564233491 : Unit := ()
def PySem.W.Fast.tw7162840104164494443 : Unit := ()
def PySem.W.Fast.tw1119754916108521089 : Unit := ()
def PySem.W.Fast.tw5141107502025800178 : Unit := ()
def PySem.W.Fast.tw12467587974322213313 : Unit := ()
def PySem.W.Fast.tw3471282681842789162 : Unit := ()
def PySem.W.Fast.tw16376683304891535962 : Unit := ()
def PySem.W.Fast.tw9750035095876473112 : Unit := ()
def PySem.W.Fast.tw965380850856612384 : Unit := ()
def PySem.W.Fast.tw632940051636722967 : Unit := ()
def PySem.W.Fast.tw8527114135051787477 : Unit := ()
def PySem.W.Fast.tw1354408161184417824 : Unit := ()
def PySem.W.Fast.tw15451285166529009000 : Unit := ()
def PySem.W.Fast.tw7150971160614835468 : Unit := ()
def PySem.W.Fast.tw5392364242840880189 : Unit := ()
def PySem.W.Fast.tw17481695774352417466 : Unit := ()
def PySem.W.Fast.tw9902300387231998717 : Unit := ()
def PySem.W.Fast.tw14917572360440425538 : Unit := ()
def PySem.W.Fast.tw6563884116685294334 : Unit := ()
open PySem PySem.W PyProof.Rows in
set_option maxRecDepth 100000 in
set_option maxHeartbeats 0 in
theorem PySem.Challenge.cw_replaylog_k71_bounds_of_trees_holds : PySem.Challenge.rw_replaylog_k71_bounds_of_trees.Holds := by
  w_on; o_law; k_head; (case hw => w_witness2)
  k_fill
  refine LamX.walk_ofTs (n := 63) (k := 63) (x := "_law_script_here") (CX := fun w => L2.CX PySem.Challenge.pw_replaylog_k71_bounds_of_trees w) (l := PySem.Challenge.rw_replaylog_k71_bounds_of_trees) rfl (by decide) rfl ⟨rfl, by decide, by decide⟩ (fun w h Y => PySem.W.km_in_of Y) ?F ?X
  case X => exact fun w H s e s' ⟨_, _, _, _, _, _, _, _, _, _, _, _, z⟩ => z
  case F =>
    intro w mg fa h Y KX G hmg
    refine' K71.all_mk KX G hmg (PySem.W.km_tabs_of Y _ ?mem) ?g_Reader ?kg_Reader ?kh_Reader ?ko_Reader ?ks_Reader ?fn_Reader_text_left ?ma_Reader_passed ?mf_Reader_passed ?mk_Reader_passed ?ma_Reader_row ?mf_Reader_row ?mk_Reader_row ?ma_Reader_run ?mf_Reader_run ?mk_Reader_run ?ma_Reader_atom ?mf_Reader_atom ?mk_Reader_atom ?ma_Reader_powers ?mf_Reader_powers ?mk_Reader_powers ?ia_Reader ?ib_Reader ?ic_Reader ?id_Reader ?a_is_number ?l_is_number ?c_is_number_ ?k_is_number ?a_is_within ?l_is_within ?c_is_within_ ?k_is_within ?a_is_log ?l_is_log ?c_is_log_ ?k_is_log ?a_is_name ?l_is_name ?c_is_name_ ?k_is_name ?a_is_row ?l_is_row ?c_is_row_ ?k_is_row ?a_is_tree ?l_is_tree ?c_is_tree_ ?k_is_tree ?ld_is_tree ?a_need_tree ?l_need_tree ?c_need_tree_ ?k_need_tree ?a_text_of ?l_text_of ?c_text_of_ ?k_text_of ?a_script_text ?l_script_text ?c_script_text_ ?k_script_text ?l_Reader___init__ ?c_Reader___init___ ?k_Reader___init__ ?l_Reader_run ?c_Reader_run_ ?l_Reader_passed ?c_Reader_passed_ ?l_Reader_atom ?c_Reader_atom_ ?l_Reader_powers ?c_Reader_powers_ ?l_Reader_row ?c_Reader_row_ ?a_read_script ?l_read_script ?c_read_script_ ?k_read_script ?a_law_pull ?l_law_pull ?c_law_pull_ ?k_law_pull ?a_law_pick ?l_law_pick ?c_law_pick_ ?k_law_pick ?a_law_name ?l_law_name ?c_law_name_ ?k_law_name ?a_law_asked ?l_law_asked ?c_law_asked_ ?k_law_asked ?a_law_same ?l_law_same ?c_law_same_ ?k_law_same ?a_law_tree_so ?l_law_tree_so ?c_law_tree_so_ ?k_law_tree_so ?a_law_script ?l_law_script ?c_law_script_ ?k_law_script ?a_law ?l_law ?c_law_ ?k_law ?a_law_start ?l_law_start ?c_law_start_ ?k_law_start ?lc_law_tree_so ?lp_law ?hd ?nP ?z_all ?z_any ?z_bool ?z_int ?z_isinstance ?z_len ?z_list ?z_range ?z_str ?z_tuple ?q_CAPITALS ?q_DIGITS ?q_LETTERS ?q_MOST_DEPTH ?q_MOST_LETTERS ?q_MOST_PARTS ?q_MOST_TIMES ?g_LogError ?g_InvalidDeed ?g_InvalidStore ?g_InvalidStand ?g_InvalidText ?g_InvalidTree ?g_TooMany ?g_InvalidName ?g_DuplicateName ?g_WrongSort ?g_ForeignDeed ?g_Circular ?g_InUse ?g_Full ?g_InvalidLimit ?g_InvalidCommand ?g_InvalidPage ?g_UnknownName ?g_NothingLeft ?xc_InvalidText ?xm_InvalidText ?xsa_InvalidText ?xga_InvalidText ?xgg_InvalidText ?xnt_InvalidText ?xk_InvalidText ?xe_InvalidText ?xv_InvalidText ?xt_InvalidText ?xd_InvalidText ?xi_InvalidText ?xit_InvalidText ?xl_InvalidText ?xco_InvalidText ?xcd_InvalidText ?xcf_InvalidText ?xcg_InvalidText ?xcc_InvalidText ?xmr_InvalidText ?xsu_InvalidText ?xc_InvalidTree ?xm_InvalidTree ?xsa_InvalidTree ?xga_InvalidTree ?xgg_InvalidTree ?xnt_InvalidTree ?xk_InvalidTree ?xe_InvalidTree ?xv_InvalidTree ?xt_InvalidTree ?xd_InvalidTree ?xi_InvalidTree ?xit_InvalidTree ?xl_InvalidTree ?xco_InvalidTree ?xcd_InvalidTree ?xcf_InvalidTree ?xcg_InvalidTree ?xcc_InvalidTree ?xmr_InvalidTree ?xsu_InvalidTree ?xop ?xsup ?xtop ?e_InvalidText_InvalidName ?e_InvalidText_DuplicateName ?e_InvalidText_WrongSort ?e_InvalidText_Circular ?e_InvalidText_UnknownName ?e_InvalidText_InvalidDeed ?e_InvalidText_InvalidStand ?e_InvalidText_InvalidLimit ?e_InvalidText_InvalidStore ?e_InvalidText_InvalidCommand ?e_InvalidText_TooMany ?e_InvalidText_Full ?e_InvalidText_ForeignDeed ?e_InvalidText_InUse ?e_InvalidText_InvalidPage ?e_InvalidText_LogError ?e_InvalidText_NothingLeft ?e_InvalidTree_InvalidName ?e_InvalidTree_DuplicateName ?e_InvalidTree_WrongSort ?e_InvalidTree_Circular ?e_InvalidTree_UnknownName ?e_InvalidTree_InvalidDeed ?e_InvalidTree_InvalidStand ?e_InvalidTree_InvalidLimit ?e_InvalidTree_InvalidStore ?e_InvalidTree_InvalidCommand ?e_InvalidTree_TooMany ?e_InvalidTree_Full ?e_InvalidTree_ForeignDeed ?e_InvalidTree_InUse ?e_InvalidTree_InvalidPage ?e_InvalidTree_LogError ?e_InvalidTree_NothingLeft
    (case g_Reader => first | k_is | rfl | decide +kernel)
    (case kg_Reader => first | k_is | rfl | decide +kernel)
    (case kh_Reader => first | k_is | rfl | decide +kernel)
    (case ko_Reader => first | k_is | rfl | decide +kernel)
    (case ks_Reader => first | k_is | rfl | decide +kernel)
    (case fn_Reader_text_left => first | k_is | rfl | decide +kernel)
    (case ma_Reader_passed => first | k_is | rfl | decide +kernel)
    (case mf_Reader_passed => first | k_is | rfl | decide +kernel)
    (case mk_Reader_passed => first | k_is | rfl | decide +kernel)
    (case ma_Reader_row => first | k_is | rfl | decide +kernel)
    (case mf_Reader_row => first | k_is | rfl | decide +kernel)
    (case mk_Reader_row => first | k_is | rfl | decide +kernel)
    (case ma_Reader_run => first | k_is | rfl | decide +kernel)
    (case mf_Reader_run => first | k_is | rfl | decide +kernel)
    (case mk_Reader_run => first | k_is | rfl | decide +kernel)
    (case ma_Reader_atom => first | k_is | rfl | decide +kernel)
    (case mf_Reader_atom => first | k_is | rfl | decide +kernel)
    (case mk_Reader_atom => first | k_is | rfl | decide +kernel)
    (case ma_Reader_powers => first | k_is | rfl | decide +kernel)
    (case mf_Reader_powers => first | k_is | rfl | decide +kernel)
    (case mk_Reader_powers => first | k_is | rfl | decide +kernel)
    (case ia_Reader => first | k_is | rfl | decide +kernel)
    (case ib_Reader => first | k_is | rfl | decide +kernel)
    (case ic_Reader => first | k_is | rfl | decide +kernel)
    (case id_Reader => first | k_is | rfl | decide +kernel)
    (case a_is_number => first | k_is | rfl | decide +kernel)
    (case l_is_number => first | k_is | rfl | decide +kernel)
    (case c_is_number_ => first | k_is | rfl | decide +kernel)
    (case k_is_number => first | k_is | rfl | decide +kernel)
    (case a_is_within => first | k_is | rfl | decide +kernel)
    (case l_is_within => first | k_is | rfl | decide +kernel)
    (case c_is_within_ => first | k_is | rfl | decide +kernel)
    (case k_is_within => first | k_is | rfl | decide +kernel)
    (case a_is_log => first | k_is | rfl | decide +kernel)
    (case l_is_log => first | k_is | rfl | decide +kernel)
    (case c_is_log_ => first | k_is | rfl | decide +kernel)
    (case k_is_log => first | k_is | rfl | decide +kernel)
    (case a_is_name => first | k_is | rfl | decide +kernel)
    (case l_is_name => first | k_is | rfl | decide +kernel)
    (case c_is_name_ => first | k_is | rfl | decide +kernel)
    (case k_is_name => first | k_is | rfl | decide +kernel)
    (case a_is_row => first | k_is | rfl | decide +kernel)
    (case l_is_row => first | k_is | rfl | decide +kernel)
    (case c_is_row_ => first | k_is | rfl | decide +kernel)
    (case k_is_row => first | k_is | rfl | decide +kernel)
    (case a_is_tree => first | k_is | rfl | decide +kernel)
    (case l_is_tree => first | k_is | rfl | decide +kernel)
    (case c_is_tree_ => first | k_is | rfl | decide +kernel)
    (case k_is_tree => first | k_is | rfl | decide +kernel)
    (case ld_is_tree => first | k_is | rfl | decide +kernel)
    (case a_need_tree => first | k_is | rfl | decide +kernel)
    (case l_need_tree => first | k_is | rfl | decide +kernel)
    (case c_need_tree_ => first | k_is | rfl | decide +kernel)
    (case k_need_tree => first | k_is | rfl | decide +kernel)
    (case a_text_of => first | k_is | rfl | decide +kernel)
    (case l_text_of => first | k_is | rfl | decide +kernel)
    (case c_text_of_ => first | k_is | rfl | decide +kernel)
    (case k_text_of => first | k_is | rfl | decide +kernel)
    (case a_script_text => first | k_is | rfl | decide +kernel)
    (case l_script_text => first | k_is | rfl | decide +kernel)
    (case c_script_text_ => first | k_is | rfl | decide +kernel)
    (case k_script_text => first | k_is | rfl | decide +kernel)
    (case l_Reader___init__ => first | k_is | rfl | decide +kernel)
    (case c_Reader___init___ => first | k_is | rfl | decide +kernel)
    (case k_Reader___init__ => first | k_is | rfl | decide +kernel)
    (case l_Reader_run => first | k_is | rfl | decide +kernel)
    (case c_Reader_run_ => first | k_is | rfl | decide +kernel)
    (case l_Reader_passed => first | k_is | rfl | decide +kernel)
    (case c_Reader_passed_ => first | k_is | rfl | decide +kernel)
    (case l_Reader_atom => first | k_is | rfl | decide +kernel)
    (case c_Reader_atom_ => first | k_is | rfl | decide +kernel)
    (case l_Reader_powers => first | k_is | rfl | decide +kernel)
    (case c_Reader_powers_ => first | k_is | rfl | decide +kernel)
    (case l_Reader_row => first | k_is | rfl | decide +kernel)
    (case c_Reader_row_ => first | k_is | rfl | decide +kernel)
    (case a_read_script => first | k_is | rfl | decide +kernel)
    (case l_read_script => first | k_is | rfl | decide +kernel)
    (case c_read_script_ => first | k_is | rfl | decide +kernel)
    (case k_read_script => first | k_is | rfl | decide +kernel)
    (case a_law_pull => first | k_is | rfl | decide +kernel)
    (case l_law_pull => first | k_is | rfl | decide +kernel)
    (case c_law_pull_ => first | k_is | rfl | decide +kernel)
    (case k_law_pull => first | k_is | rfl | decide +kernel)
    (case a_law_pick => first | k_is | rfl | decide +kernel)
    (case l_law_pick => first | k_is | rfl | decide +kernel)
    (case c_law_pick_ => first | k_is | rfl | decide +kernel)
    (case k_law_pick => first | k_is | rfl | decide +kernel)
    (case a_law_name => first | k_is | rfl | decide +kernel)
    (case l_law_name => first | k_is | rfl | decide +kernel)
    (case c_law_name_ => first | k_is | rfl | decide +kernel)
    (case k_law_name => first | k_is | rfl | decide +kernel)
    (case a_law_asked => first | k_is | rfl | decide +kernel)
    (case l_law_asked => first | k_is | rfl | decide +kernel)
    (case c_law_asked_ => first | k_is | rfl | decide +kernel)
    (case k_law_asked => first | k_is | rfl | decide +kernel)
    (case a_law_same => first | k_is | rfl | decide +kernel)
    (case l_law_same => first | k_is | rfl | decide +kernel)
    (case c_law_same_ => first | k_is | rfl | decide +kernel)
    (case k_law_same => first | k_is | rfl | decide +kernel)
    (case a_law_tree_so => first | k_is | rfl | decide +kernel)
    (case l_law_tree_so => first | k_is | rfl | decide +kernel)
    (case c_law_tree_so_ => first | k_is | rfl | decide +kernel)
    (case k_law_tree_so => first | k_is | rfl | decide +kernel)
    (case a_law_script => first | k_is | rfl | decide +kernel)
    (case l_law_script => first | k_is | rfl | decide +kernel)
    (case c_law_script_ => first | k_is | rfl | decide +kernel)
    (case k_law_script => first | k_is | rfl | decide +kernel)
    (case a_law => first | k_is | rfl | decide +kernel)
    (case l_law => first | k_is | rfl | decide +kernel)
    (case c_law_ => first | k_is | rfl | decide +kernel)
    (case k_law => first | k_is | rfl | decide +kernel)
    (case a_law_start => first | k_is | rfl | decide +kernel)
    (case l_law_start => first | k_is | rfl | decide +kernel)
    (case c_law_start_ => first | k_is | rfl | decide +kernel)
    (case k_law_start => first | k_is | rfl | decide +kernel)
    (case lc_law_tree_so => first | k_is | rfl | decide +kernel)
    (case lp_law => first | rfl | decide +kernel)
    (case hd => first | k_is | rfl | decide +kernel)
    (case nP => first | k_is | rfl | decide +kernel)
    (case z_all => first | k_is | rfl | decide +kernel)
    (case z_any => first | k_is | rfl | decide +kernel)
    (case z_bool => first | k_is | rfl | decide +kernel)
    (case z_int => first | k_is | rfl | decide +kernel)
    (case z_isinstance => first | k_is | rfl | decide +kernel)
    (case z_len => first | k_is | rfl | decide +kernel)
    (case z_list => first | k_is | rfl | decide +kernel)
    (case z_range => first | k_is | rfl | decide +kernel)
    (case z_str => first | k_is | rfl | decide +kernel)
    (case z_tuple => first | k_is | rfl | decide +kernel)
    (case q_CAPITALS => first | k_is | rfl | decide +kernel)
    (case q_DIGITS => first | k_is | rfl | decide +kernel)
    (case q_LETTERS => first | k_is | rfl | decide +kernel)
    (case q_MOST_DEPTH => first | k_is | rfl | decide +kernel)
    (case q_MOST_LETTERS => first | k_is | rfl | decide +kernel)
    (case q_MOST_PARTS => first | k_is | rfl | decide +kernel)
    (case q_MOST_TIMES => first | k_is | rfl | decide +kernel)
    (case g_LogError => first | k_is | rfl | decide +kernel)
    (case g_InvalidDeed => first | k_is | rfl | decide +kernel)
    (case g_InvalidStore => first | k_is | rfl | decide +kernel)
    (case g_InvalidStand => first | k_is | rfl | decide +kernel)
    (case g_InvalidText => first | k_is | rfl | decide +kernel)
    (case g_InvalidTree => first | k_is | rfl | decide +kernel)
    (case g_TooMany => first | k_is | rfl | decide +kernel)
    (case g_InvalidName => first | k_is | rfl | decide +kernel)
    (case g_DuplicateName => first | k_is | rfl | decide +kernel)
    (case g_WrongSort => first | k_is | rfl | decide +kernel)
    (case g_ForeignDeed => first | k_is | rfl | decide +kernel)
    (case g_Circular => first | k_is | rfl | decide +kernel)
    (case g_InUse => first | k_is | rfl | decide +kernel)
    (case g_Full => first | k_is | rfl | decide +kernel)
    (case g_InvalidLimit => first | k_is | rfl | decide +kernel)
    (case g_InvalidCommand => first | k_is | rfl | decide +kernel)
    (case g_InvalidPage => first | k_is | rfl | decide +kernel)
    (case g_UnknownName => first | k_is | rfl | decide +kernel)
    (case g_NothingLeft => first | k_is | rfl | decide +kernel)
    (case xc_InvalidText => first | k_is | rfl | decide +kernel)
    (case xm_InvalidText => first | rfl | decide +kernel)
    (case xsa_InvalidText => first | k_is | rfl | decide +kernel)
    (case xga_InvalidText => first | k_is | rfl | decide +kernel)
    (case xgg_InvalidText => first | k_is | rfl | decide +kernel)
    (case xnt_InvalidText => first | k_is | rfl | decide +kernel)
    (case xk_InvalidText => first | k_is | rfl | decide +kernel)
    (case xe_InvalidText => first | k_is | rfl | decide +kernel)
    (case xv_InvalidText => first | k_is | rfl | decide +kernel)
    (case xt_InvalidText => first | k_is | rfl | decide +kernel)
    (case xd_InvalidText => first | k_is | rfl | decide +kernel)
    (case xi_InvalidText => first | k_is | rfl | decide +kernel)
    (case xit_InvalidText => first | k_is | rfl | decide +kernel)
    (case xl_InvalidText => first | k_is | rfl | decide +kernel)
    (case xco_InvalidText => first | k_is | rfl | decide +kernel)
    (case xcd_InvalidText => first | k_is | rfl | decide +kernel)
    (case xcf_InvalidText => first | rfl | decide +kernel)
    (case xcg_InvalidText => first | rfl | decide +kernel)
    (case xcc_InvalidText => first | k_is | rfl | decide +kernel)
    (case xmr_InvalidText => first | k_is | rfl | decide +kernel)
    (case xsu_InvalidText => first | k_is | rfl | decide +kernel)
    (case xc_InvalidTree => first | k_is | rfl | decide +kernel)
    (case xm_InvalidTree => first | rfl | decide +kernel)
    (case xsa_InvalidTree => first | k_is | rfl | decide +kernel)
    (case xga_InvalidTree => first | k_is | rfl | decide +kernel)
    (case xgg_InvalidTree => first | k_is | rfl | decide +kernel)
    (case xnt_InvalidTree => first | k_is | rfl | decide +kernel)
    (case xk_InvalidTree => first | k_is | rfl | decide +kernel)
    (case xe_InvalidTree => first | k_is | rfl | decide +kernel)
    (case xv_InvalidTree => first | k_is | rfl | decide +kernel)
    (case xt_InvalidTree => first | k_is | rfl | decide +kernel)
    (case xd_InvalidTree => first | k_is | rfl | decide +kernel)
    (case xi_InvalidTree => first | k_is | rfl | decide +kernel)
    (case xit_InvalidTree => first | k_is | rfl | decide +kernel)
    (case xl_InvalidTree => first | k_is | rfl | decide +kernel)
    (case xco_InvalidTree => first | k_is | rfl | decide +kernel)
    (case xcd_InvalidTree => first | k_is | rfl | decide +kernel)
    (case xcf_InvalidTree => first | rfl | decide +kernel)
    (case xcg_InvalidTree => first | rfl | decide +kernel)
    (case xcc_InvalidTree => first | k_is | rfl | decide +kernel)
    (case xmr_InvalidTree => first | k_is | rfl | decide +kernel)
    (case xsu_InvalidTree => first | k_is | rfl | decide +kernel)
    (case xop => first | k_is | rfl | decide +kernel)
    (case xsup => first | k_is | rfl | decide +kernel)
    (case xtop => first | rfl | decide +kernel)
    (case e_InvalidText_InvalidName => first | k_is | rfl | decide +kernel)
    (case e_InvalidText_DuplicateName => first | k_is | rfl | decide +kernel)
    (case e_InvalidText_WrongSort => first | k_is | rfl | decide +kernel)
    (case e_InvalidText_Circular => first | k_is | rfl | decide +kernel)
    (case e_InvalidText_UnknownName => first | k_is | rfl | decide +kernel)
    (case e_InvalidText_InvalidDeed => first | k_is | rfl | decide +kernel)
    (case e_InvalidText_InvalidStand => first | k_is | rfl | decide +kernel)
    (case e_InvalidText_InvalidLimit => first | k_is | rfl | decide +kernel)
    (case e_InvalidText_InvalidStore => first | k_is | rfl | decide +kernel)
    (case e_InvalidText_InvalidCommand => first | k_is | rfl | decide +kernel)
    (case e_InvalidText_TooMany => first | k_is | rfl | decide +kernel)
    (case e_InvalidText_Full => first | k_is | rfl | decide +kernel)
    (case e_InvalidText_ForeignDeed => first | k_is | rfl | decide +kernel)
    (case e_InvalidText_InUse => first | k_is | rfl | decide +kernel)
    (case e_InvalidText_InvalidPage => first | k_is | rfl | decide +kernel)
    (case e_InvalidText_LogError => first | k_is | rfl | decide +kernel)
    (case e_InvalidText_NothingLeft => first | k_is | rfl | decide +kernel)
    (case e_InvalidTree_InvalidName => first | k_is | rfl | decide +kernel)
    (case e_InvalidTree_DuplicateName => first | k_is | rfl | decide +kernel)
    (case e_InvalidTree_WrongSort => first | k_is | rfl | decide +kernel)
    (case e_InvalidTree_Circular => first | k_is | rfl | decide +kernel)
    (case e_InvalidTree_UnknownName => first | k_is | rfl | decide +kernel)
    (case e_InvalidTree_InvalidDeed => first | k_is | rfl | decide +kernel)
    (case e_InvalidTree_InvalidStand => first | k_is | rfl | decide +kernel)
    (case e_InvalidTree_InvalidLimit => first | k_is | rfl | decide +kernel)
    (case e_InvalidTree_InvalidStore => first | k_is | rfl | decide +kernel)
    (case e_InvalidTree_InvalidCommand => first | k_is | rfl | decide +kernel)
    (case e_InvalidTree_TooMany => first | k_is | rfl | decide +kernel)
    (case e_InvalidTree_Full => first | k_is | rfl | decide +kernel)
    (case e_InvalidTree_ForeignDeed => first | k_is | rfl | decide +kernel)
    (case e_InvalidTree_InUse => first | k_is | rfl | decide +kernel)
    (case e_InvalidTree_InvalidPage => first | k_is | rfl | decide +kernel)
    (case e_InvalidTree_LogError => first | k_is | rfl | decide +kernel)
    (case e_InvalidTree_NothingLeft => first | k_is | rfl | decide +kernel)
    (case mem => first | exact List.mem_cons_self | decide)
    all_goals first | exact #[] | exact .none | exact 0
