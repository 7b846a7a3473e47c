import PyProof.Rows.All
import Wide.All
import OpenK.AllK
import Wide.FinOn
import HandS.ForMost
import HandS.ForExc
import HandS.IsInst
import HandS.Flow
import HandS.TupAny
import HandS.Style
import HandS.Lambda
import HandS.Slots
import HandS.ClsMeth
import HandS.Property
import KE.KExcSuper
import HandS.ExcInit
import HandS.TryMany
import HandS.SetTxt0
import HandS.SetTxtIn
import HandS.SetFor
import HandS.Strs
import HandS.StrMore
import HandS.Small
import KE.KSuper
import HandS.DictComp
import HandS.SetBool
import HandS.Defaults
import HandS.Codes
import HandS.CallSlots
import KE.GoesMore
import HandS.Wide
import HandS.WideBits
import PyProof.StrReplace2
import PyProof.StrCalls6
import PyProof.Rows.StrStrike
import PyProof.Ends
import HandS.Replace
import PyProof.FactsAll.list_3
import HandS.TupSets
import HandS.Deep
import HandS.Conv
import HandS.Star
import PyProof.ListStr
import HandS.FStrTup
import HandS.RaiseMore
import PyProof.ReprHeads
import PyProof.StrHeap
import HandS.TupMul
import KE.KOpsOwn
import HandS.FStr
import KE.KUnpackStar
import PySem.Challenge.RW_replaylog_k22_stores_refused
import HandS.EndTab
set_option Elab.async false
set_option linter.all false
set_option maxRecDepth 100000
set_option maxHeartbeats 2000000
namespace PL
open PySem L2
abbrev SS (s : List Nat) : PySem.Str := ⟨s.toArray⟩
/-- pure data -/
inductive D where
  | non | bl (b : Bool) | int (i : Int) | str (s : List Nat)
  | lst (xs : List D) | tup (xs : List D) | dct (kvs : List (Key × D))
  | ins (C : Addr) (fs : List (PySem.Str × D))
  /-- an instance with slots -/
  | sl (C : Addr) (vs : List D)
  /-- an own class -/
  | cls (C : Addr)
  | ty (n : String) | bag
  /-- the script -/
  | scr
  /-- the cells of the bag, at l -/
  | cel (l : Addr) (ns : List Int)
/-- the state of the bag at b, its cells at l -/
def BagRaw (b l : Addr) (n : Nat) (h : Heap) : Prop :=
  ∃ (sz : Nat) (i : Nat) (g s : Int) (t1 t2 t3 : Tok), i ≤ n ∧ 0 ≤ g ∧ 0 ≤ s ∧ s < 2147483543 ∧
    h.get? b = some { cls := .type "list", data := .seq #[.ref l, .int i t1, .int g t2, .int s t3] sz }
def BagAt (G : Hp) (b : Addr) : Prop := ∃ (l : Addr) (ns : List Int), G b = some (.ext (BagRaw b l ns.length)) ∧ G l = some (.lst (ns.map V.int)) ∧ b ≠ l ∧ ns.length ≤ 63
mutual
/-- v stands for d over the heap G -/
inductive Den (K : PySem.W.Frag) (G : Hp) : V → D → Prop
  | non : Den K G .non .non
  | bl (b : Bool) : Den K G (.bl b) (.bl b)
  | int (i : Int) : Den K G (.int i) (.int i)
  | str (s : List Nat) : Den K G (.str (SS s)) (.str s)
  | ty (n : String) : Den K G (.ty n) (.ty n)
  | lst {a : Addr} {xs : List V} {ds : List D} : G a = some (.lst xs) → DenL K G xs ds → Den K G (.ref a) (.lst ds)
  | tup {a : Addr} {xs : List V} {ds : List D} : SqT K G a xs → DenL K G xs ds → Den K G (.ref a) (.tup ds)
  | dct {a : Addr} {kvs : List (Key × V)} {ds : List (Key × D)} : G a = some (.dK kvs) → DenK K G kvs ds → Den K G (.ref a) (.dct ds)
  | ins {a C dx : Addr} {fvs : List (PySem.Str × V)} {fs : List (PySem.Str × D)} : G a = some (.ins C dx fvs) → G dx = some (.own a) → DenF K G fvs fs → Den K G (.ref a) (.ins C fs)
  | sl {a C dx : Addr} {vs : List V} {ds : List D} : G a = some (SlX.SlO a C dx (vs.map some)) → G dx = some (.xd []) → DenL K G vs ds → Den K G (.ref a) (.sl C ds)
  | cls (C : Addr) : Den K G (.ref C) (.cls C)
  | bag {a : Addr} : BagAt G a → Den K G (.ref a) .bag
  | cel {l : Addr} {ns : List Int} : G l = some (.lst (ns.map V.int)) → Den K G (.ref l) (.cel l ns)
  | scr {a : Addr} {ns : List Int} : SqL K G a (ns.map V.int) → ns.length ≤ 63 → Den K G (.ref a) .scr
inductive DenL (K : PySem.W.Frag) (G : Hp) : List V → List D → Prop
  | nil : DenL K G [] []
  | cons {v : V} {vs : List V} {d : D} {ds : List D} : Den K G v d → DenL K G vs ds → DenL K G (v :: vs) (d :: ds)
inductive DenK (K : PySem.W.Frag) (G : Hp) : List (Key × V) → List (Key × D) → Prop
  | nil : DenK K G [] []
  | cons {k : Key} {v : V} {vs : List (Key × V)} {d : D} {ds : List (Key × D)} : Den K G v d → DenK K G vs ds → DenK K G ((k, v) :: vs) ((k, d) :: ds)
inductive DenF (K : PySem.W.Frag) (G : Hp) : List (PySem.Str × V) → List (PySem.Str × D) → Prop
  | nil : DenF K G [] []
  | cons {f : PySem.Str} {v : V} {vs : List (PySem.Str × V)} {d : D} {ds : List (PySem.Str × D)} : Den K G v d → DenF K G vs ds → DenF K G ((f, v) :: vs) ((f, d) :: ds)
end
theorem rd_same {H H' : Hp} {a : Addr} {u : HO} (e : Same H H') (h : Rd H a u) : Rd H' a u := by
  rcases h with h | ⟨o, h⟩
  · exact Or.inl (e a _ h)
  · exact Or.inr ⟨o, e a _ h⟩
theorem sqt_same {K : PySem.W.Frag} {H H' : Hp} {a : Addr} {xs : List V} (e : Same H H') (h : SqT K H a xs) : SqT K H' a xs := by
  rcases h with h | h
  · exact Or.inl (rd_same e h)
  · exact Or.inr h
theorem bag_same {H H' : Hp} {a : Addr} (e : Same H H') (h : BagAt H a) : BagAt H' a := by
  obtain ⟨l, ns, h1, h2, h3⟩ := h
  exact ⟨l, ns, e _ _ h1, e _ _ h2, h3⟩
section
variable {K : PySem.W.Frag} {G G' : Hp}
mutual
theorem Den.mono (e : Same G G') : ∀ (d : D) (v : V), Den K G v d → Den K G' v d
  | .non, _, h => by cases h; exact .non
  | .bl b, _, h => by cases h; exact .bl b
  | .int b, _, h => by cases h; exact .int b
  | .str b, _, h => by cases h; exact .str b
  | .ty b, _, h => by cases h; exact .ty b
  | .lst ds, _, h => by
    cases h with
    | lst h1 h2 => exact .lst (e _ _ h1) (DenL.mono e _ _ h2)
  | .tup ds, _, h => by
    cases h with
    | tup h1 h2 => exact .tup (sqt_same e h1) (DenL.mono e _ _ h2)
  | .dct ds, _, h => by
    cases h with
    | dct h1 h2 => exact .dct (e _ _ h1) (DenK.mono e _ _ h2)
  | .ins C fs, _, h => by
    cases h with
    | ins h1 h2 h3 => exact .ins (e _ _ h1) (e _ _ h2) (DenF.mono e _ _ h3)
  | .sl C ds, _, h => by
    cases h with
    | sl h1 h2 h3 => exact .sl (e _ _ h1) (e _ _ h2) (DenL.mono e _ _ h3)
  | .cls C, _, h => by cases h; exact .cls C
  | .bag, _, h => by
    cases h with
    | bag h1 => exact .bag (bag_same e h1)
  | .scr, _, h => by
    cases h with
    | scr h1 h2 => exact .scr (e.seq h1) h2
  | .cel l ns, _, h => by
    cases h with
    | cel h1 => exact .cel (e _ _ h1)
theorem DenL.mono (e : Same G G') : ∀ (ds : List D) (vs : List V), DenL K G vs ds → DenL K G' vs ds
  | [], _, h => by cases h; exact .nil
  | d :: ds, _, h => by
    cases h with
    | cons h1 h2 => exact .cons (Den.mono e _ _ h1) (DenL.mono e _ _ h2)
theorem DenK.mono (e : Same G G') : ∀ (ds : List (Key × D)) (vs : List (Key × V)), DenK K G vs ds → DenK K G' vs ds
  | [], _, h => by cases h; exact .nil
  | (k, d) :: ds, _, h => by
    cases h with
    | cons h1 h2 => exact .cons (Den.mono e _ _ h1) (DenK.mono e _ _ h2)
theorem DenF.mono (e : Same G G') : ∀ (ds : List (PySem.Str × D)) (vs : List (PySem.Str × V)), DenF K G vs ds → DenF K G' vs ds
  | [], _, h => by cases h; exact .nil
  | (k, d) :: ds, _, h => by
    cases h with
    | cons h1 h2 => exact .cons (Den.mono e _ _ h1) (DenF.mono e _ _ h2)
end
theorem Den.up {v : V} {d : D} (h : Den K G v d) (e : Same G G') : Den K G' v d := Den.mono e d v h
theorem DenL.up {v : List V} {d : List D} (h : DenL K G v d) (e : Same G G') : DenL K G' v d := DenL.mono e d v h
theorem DenK.up {v : List (Key × V)} {d : List (Key × D)} (h : DenK K G v d) (e : Same G G') : DenK K G' v d := DenK.mono e d v h
theorem DenF.up {v : List (PySem.Str × V)} {d : List (PySem.Str × D)} (h : DenF K G v d) (e : Same G G') : DenF K G' v d := DenF.mono e d v h
theorem DenL.length : ∀ {vs : List V} {ds : List D}, DenL K G vs ds → vs.length = ds.length
  | _, _, .nil => rfl
  | _, _, .cons _ t => by rw [List.length_cons, List.length_cons, DenL.length t]
theorem DenL.get : ∀ {vs : List V} {ds : List D} {i : Nat} {d : D}, DenL K G vs ds → ds[i]? = some d → ∃ v, vs[i]? = some v ∧ Den K G v d
  | _, _, _, _, .nil, e => by simp at e
  | _, _, 0, _, .cons r _, e => by simp at e; subst e; exact ⟨_, rfl, r⟩
  | _, _, i + 1, x, .cons _ t, e => by
    obtain ⟨u, h1, h2⟩ := DenL.get (i := i) t (by simpa using e)
    exact ⟨u, by simpa using h1, h2⟩
theorem DenL.gv : ∀ {vs : List V} {ds : List D} {i : Nat} {v : V}, DenL K G vs ds → vs[i]? = some v → ∃ d, ds[i]? = some d ∧ Den K G v d
  | _, _, _, _, .nil, e => by simp at e
  | _, _, 0, _, .cons r _, e => by simp at e; subst e; exact ⟨_, rfl, r⟩
  | _, _, i + 1, x, .cons _ t, e => by
    obtain ⟨u, h1, h2⟩ := DenL.gv (i := i) t (by simpa using e)
    exact ⟨u, by simpa using h1, h2⟩
theorem DenL.append : ∀ {vs ws : List V} {ds es : List D}, DenL K G vs ds → DenL K G ws es → DenL K G (vs ++ ws) (ds ++ es)
  | _, _, _, _, .nil, t => t
  | _, _, _, _, .cons r s, t => .cons r (DenL.append s t)
theorem DenL.set {v : V} {d : D} (r : Den K G v d) : ∀ {vs : List V} {ds : List D} (i : Nat), DenL K G vs ds → DenL K G (vs.set i v) (ds.set i d)
  | _, _, _, .nil => .nil
  | _, _, 0, .cons _ t => .cons r t
  | _, _, i + 1, .cons q t => .cons q (DenL.set r i t)
theorem DenL.take : ∀ {vs : List V} {ds : List D} (n : Nat), DenL K G vs ds → DenL K G (vs.take n) (ds.take n)
  | _, _, 0, _ => .nil
  | _, _, _ + 1, .nil => .nil
  | _, _, n + 1, .cons r t => .cons r (DenL.take n t)
theorem DenL.drop : ∀ {vs : List V} {ds : List D} (n : Nat), DenL K G vs ds → DenL K G (vs.drop n) (ds.drop n)
  | _, _, 0, r => r
  | _, _, _ + 1, .nil => .nil
  | _, _, n + 1, .cons _ t => DenL.drop n t
theorem DenL.erase : ∀ {vs : List V} {ds : List D} (n : Nat), DenL K G vs ds → DenL K G (vs.eraseIdx n) (ds.eraseIdx n)
  | _, _, _, .nil => .nil
  | _, _, 0, .cons _ t => t
  | _, _, n + 1, .cons r t => .cons r (DenL.erase n t)
theorem DenF.get : ∀ {vs : List (PySem.Str × V)} {ds : List (PySem.Str × D)} {f : PySem.Str} {d : D}, DenF K G vs ds → ds.lookup f = some d → ∃ v, vs.lookup f = some v ∧ Den K G v d
  | _, _, _, _, .nil, e => by cases e
  | _, _, f, d, .cons (f := g) r t, e => by
    rw [List.lookup_cons] at e ⊢
    cases hb : f == g with
    | true =>
      rw [hb] at e
      cases e
      exact ⟨_, rfl, r⟩
    | false =>
      rw [hb] at e
      exact DenF.get t e
theorem DenF.no : ∀ {vs : List (PySem.Str × V)} {ds : List (PySem.Str × D)} {f : PySem.Str}, DenF K G vs ds → ds.lookup f = none → vs.lookup f = none
  | _, _, _, .nil, _ => rfl
  | _, _, f, .cons (f := g) r t, e => by
    rw [List.lookup_cons] at e ⊢
    cases hb : f == g with
    | true =>
      rw [hb] at e
      cases e
    | false =>
      rw [hb] at e
      exact DenF.no t e
theorem DenF.length : ∀ {vs : List (PySem.Str × V)} {ds : List (PySem.Str × D)}, DenF K G vs ds → vs.length = ds.length
  | _, _, .nil => rfl
  | _, _, .cons _ t => by rw [List.length_cons, List.length_cons, DenF.length t]
end
def LikeD : HO → Prop
  | .dK _ => True
  | .dT _ => True
  | _ => False
/-- the tables of code objects that are written (lambdas), and the name that each one's code bears -/
class Tabl where
  T : List (Addr × PySem.Str)
  uniq : ∀ p ∈ T, ∀ q ∈ T, p.1 = q.1 → p.2 = q.2
variable [Tabl]
/-- no table of code objects -/
abbrev NT (o : HO) : Prop := ∀ ps, o ≠ .tbl ps
/-- the pure part stands in H (a dict may be locked); no table of code objects is pure -/
structure Sub (G H : Hp) : Prop where
  m : ∀ a o, G a = some o → H a = some o ∨ (LikeD o ∧ ∃ ob, H a = some (.frz ob o))
  nt : ∀ a o, G a = some o → NT o
  tb : LamX.Tabs Tabl.T H
/-- what is tracked stays, but tables of code objects may grow -/
structure Up (H H' : Hp) : Prop where
  k : ∀ b o, H b = some o → NT o → H' b = some o
  t : ∀ b o, H b = some o → ∃ o', H' b = some o'
  tb : LamX.Tabs Tabl.T H → LamX.Tabs Tabl.T H'
theorem Up.of {H H' : Hp} (e : Same H H') : Up H H' := ⟨fun b o h _ => e b o h, fun b o h => ⟨o, e b o h⟩, fun t => t.ext e⟩
theorem Up.refl (H : Hp) : Up H H := .of (Same.refl H)
theorem Up.trans {H H1 H2 : Hp} (a : Up H H1) (b : Up H1 H2) : Up H H2 :=
  ⟨fun x o h n => b.k x o (a.k x o h n) n, fun x o h => let ⟨o1, h1⟩ := a.t x o h; b.t x o1 h1, fun t => b.tb (a.tb t)⟩
theorem Up.free {H H' : Hp} (a : Up H H') {p : Addr} (h : H' p = none) : H p = none := by
  cases e : H p with
  | none => rfl
  | some o =>
    obtain ⟨o', q⟩ := a.t p o e
    rw [q] at h
    cases h
theorem Up.lst {H H' : Hp} (a : Up H H') {p : Addr} {xs : List V} (h : H p = some (.lst xs)) : H' p = some (.lst xs) := a.k _ _ h fun _ z => nomatch z
theorem Up.dK {H H' : Hp} (a : Up H H') {p : Addr} {xs : List (Key × V)} (h : H p = some (.dK xs)) : H' p = some (.dK xs) := a.k _ _ h fun _ z => nomatch z
theorem Sub.there {G H : Hp} (s : Sub G H) {a : Addr} {o : HO} (h : G a = some o) : ∃ u, H a = some u := by
  rcases s.m a o h with h | ⟨_, ob, h⟩ <;> exact ⟨_, h⟩
theorem Sub.at_ {G H : Hp} (s : Sub G H) {a : Addr} {o : HO} (h : G a = some o) (n : ¬ LikeD o) : H a = some o := by
  rcases s.m a o h with h | ⟨z, _⟩
  · exact h
  · exact absurd z n
theorem Sub.rd {G H : Hp} (s : Sub G H) {a : Addr} {o : HO} (h : G a = some o) : Rd H a o := by
  rcases s.m a o h with h | ⟨_, ob, h⟩
  · exact .inl h
  · exact .inr ⟨ob, h⟩
theorem Sub.up' {G H H' : Hp} (s : Sub G H) (e : Up H H') : Sub G H' := ⟨fun a o h => by
  rcases s.m a o h with h2 | ⟨z, ob, h2⟩
  · exact .inl (e.k _ _ h2 (s.nt a o h))
  · exact .inr ⟨z, ob, e.k _ _ h2 fun _ z => nomatch z⟩, s.nt, e.tb s.tb⟩
theorem Sub.up {G H H' : Hp} (s : Sub G H) (e : Same H H') : Sub G H' := s.up' (.of e)
theorem Sub.sql {K : PySem.W.Frag} {G H : Hp} (s : Sub G H) {a : Addr} {xs : List V} (h : SqL K G a xs) : SqL K H a xs := by
  rcases h with (h | ⟨o, h⟩) | h
  · exact .inl (.inl (s.at_ h (fun z => z)))
  · exact .inl (.inr ⟨o, s.at_ h (fun z => z)⟩)
  · exact .inr h
theorem Sub.sqt {K : PySem.W.Frag} {G H : Hp} (s : Sub G H) {a : Addr} {xs : List V} (h : SqT K G a xs) : SqT K H a xs := by
  rcases h with (h | ⟨o, h⟩) | h
  · exact .inl (.inl (s.at_ h (fun z => z)))
  · exact .inl (.inr ⟨o, s.at_ h (fun z => z)⟩)
  · exact .inr h
theorem Sub.none {G H : Hp} (s : Sub G H) {a : Addr} (h : H a = none) : G a = none := by
  cases e : G a with
  | none => rfl
  | some o =>
    obtain ⟨u, q⟩ := s.there e
    rw [q] at h
    cases h
/-- from (G, H) to (G', H') -/
structure Ext (G H G' H' : Hp) : Prop where
  h : Up H H'
  g : Same G G'
  nw : ∀ a, G a = none → (∃ o, H a = some o) → G' a = none
  sub : Sub G' H'
theorem Ext.refl {G H : Hp} (s : Sub G H) : Ext G H G H := ⟨Up.refl H, Same.refl G, fun _ h _ => h, s⟩
theorem Ext.trans {G H G1 H1 G2 H2 : Hp} (a : Ext G H G1 H1) (b : Ext G1 H1 G2 H2) : Ext G H G2 H2 :=
  ⟨a.h.trans b.h, a.g.trans b.g, fun x h ⟨o, q⟩ => b.nw x (a.nw x h ⟨o, q⟩) (a.h.t _ _ q), b.sub⟩
theorem same_upd {H : Hp} {p : Addr} {o : HO} (h : H p = none) : Same H (upd H p o) := fun a u e => by
  rw [upd_ne (ne_of_none e h)]
  exact e
/-- a new object that is not pure -/
theorem Ext.beside {G H : Hp} (s : Sub G H) {p : Addr} {o : HO} (h : H p = none) : Ext G H G (upd H p o) := ⟨.of (same_upd h), Same.refl G, fun _ z _ => z, s.up (same_upd h)⟩
/-- a new object, pure at once -/
theorem Ext.new {G H : Hp} (s : Sub G H) {p : Addr} {o : HO} (h : H p = none) (n : NT o := by intro _ z; cases z) : Ext G H (upd G p o) (upd H p o) := by
  have hg := s.none h
  refine ⟨.of (same_upd h), same_upd hg, fun a q ⟨u, e⟩ => ?_, ⟨fun a u e => ?_, fun a u e => ?_, s.tb.ext (same_upd h)⟩⟩
  · rw [upd_ne (ne_of_none e h)]
    exact q
  · by_cases z : a = p
    · subst z
      rw [upd_same] at e ⊢
      exact .inl e
    · rw [upd_ne z] at e ⊢
      exact s.m a u e
  · by_cases z : a = p
    · subst z
      rw [upd_same] at e
      cases e
      exact n
    · rw [upd_ne z] at e
      exact s.nt a u e
inductive Sl where
  | un | pu (d : D) | ow (d : D)
  /-- own, and walked just now: it stays as it is -/
  | lk (p : Addr) (o : HO) (d : D)
  /-- own: handed in by the caller, at p -/
  | pw (p : Addr) (d : D)
  /-- a value that is no data (a function ..): the object at c that stands for what it needs is never changed -/
  | kp (v : V) (c : Addr) (u : HO) (Gx : Hp)
  /-- a caught exception at a: its class, its own fields -/
  | xv (a : Addr) (cls : Value) (dA : Option Addr) (fs : List (PySem.Str × D))
  /-- pure data beside which some objects are known that are never changed; what was pure then -/
  | pf (d : D) (l : List (Addr × HO)) (Gx : Hp)
abbrev Ga := List Sl
/-- an object of the frame's own at p -/
def OwnAt (K : PySem.W.Frag) (H0 G H : Hp) (p : Addr) : D → Prop
  | .lst ds => ∃ xs, H p = some (.lst xs) ∧ DenL K G xs ds
  | .dct ks => ∃ kvs, H p = some (.dK kvs) ∧ DenK K G kvs ks
  | .ins C fs => ∃ dx fvs, H p = some (.ins C dx fvs) ∧ H dx = some (.own p) ∧ G dx = none ∧ H0 dx = none ∧ DenF K G fvs fs
  | _ => False
/-- an object that a frame may own and change -/
def MutO : HO → Prop
  | .lst _ => True
  | .dK _ => True
  | .ins _ _ _ => True
  | _ => False
/-- an object that nobody changes -/
def FixO (u : HO) : Prop := ¬ MutO u ∧ NT u ∧ ∀ a, u ≠ .own a
def SlOk (K : PySem.W.Frag) (H0 G H : Hp) (o : Option (Option V)) : Sl → Prop
  | .un => True
  | .pu d => ∃ v, o = some (some v) ∧ Den K G v d
  | .ow d => ∃ p, o = some (some (.ref p)) ∧ G p = none ∧ H0 p = none ∧ OwnAt K H0 G H p d
  | .lk p u d => o = some (some (.ref p)) ∧ G p = none ∧ H0 p = none ∧ H p = some u ∧ OwnAt K H0 G H p d
  | .pw p d => o = some (some (.ref p)) ∧ G p = none ∧ H0 p = none ∧ OwnAt K H0 G H p d
  | .kp v c u Gx => o = some (some v) ∧ H c = some u ∧ ¬ MutO u ∧ NT u ∧ Same Gx G
  | .xv a cls dA fs => o = some (some (.ref a)) ∧ ((dA = none ∧ fs = []) ∨ ∃ p fvs, dA = some p ∧ H p = some (.xd fvs) ∧ DenF K G fvs fs)
  | .pf d l Gx => (∃ v, o = some (some v) ∧ Den K G v d) ∧ (∀ q ∈ l, H q.1 = some q.2 ∧ FixO q.2) ∧ Same Gx G
/-- what an own object that may be changed holds -/
def Sl.og : Sl → Option D
  | .ow d => some d
  | .pw _ d => some d
  | _ => none
def Sl.op (s : Sl) (d : D) : Sl := match s with
  | .pw p _ => .pw p d
  | _ => .ow d
def Sl.owns : Sl → Prop
  | .pw _ _ => True
  | .ow _ => True
  | .lk _ _ _ => True
  | _ => False
/-- the frame: G0, H0 the heaps at its entry -/
structure Fr (K : PySem.W.Frag) (G0 H0 : Hp) (Γ : Ga) (σ : L2.St) (G H : Hp) : Prop where
  len : σ.length = Γ.length
  e : Ext G0 H0 G H
  at_ : ∀ (i : Nat) (s : Sl), Γ[i]? = some s → SlOk K H0 G H (σ[i]?) s
  dj : ∀ (i j : Nat) (p : Addr) (s t : Sl), Γ[i]? = some s → s.owns → Γ[j]? = some t → t.owns → σ[i]? = some (some (.ref p)) → σ[j]? = some (some (.ref p)) → i = j
section
variable {K : PySem.W.Frag} {G0 H0 G H G' H' : Hp} {Γ : Ga} {σ : L2.St}
theorem OwnAt.up {p : Addr} {d : D} (h : OwnAt K H0 G H p d) (x : Ext G H G' H') : OwnAt K H0 G' H' p d := by
  cases d with
  | lst ds => obtain ⟨xs, h1, h2⟩ := h; exact ⟨xs, x.h.lst h1, h2.up x.g⟩
  | dct ks => obtain ⟨xs, h1, h2⟩ := h; exact ⟨xs, x.h.dK h1, h2.up x.g⟩
  | ins C fs => obtain ⟨dx, fvs, h1, h2, h3, h4, h5⟩ := h; exact ⟨dx, fvs, x.h.k _ _ h1 (fun _ z => nomatch z), x.h.k _ _ h2 (fun _ z => nomatch z), x.nw _ h3 ⟨_, h2⟩, h4, h5.up x.g⟩
  | _ => exact h.elim
theorem OwnAt.there {p : Addr} {d : D} (h : OwnAt K H0 G H p d) : ∃ o, H p = some o := by
  cases d with
  | lst ds => obtain ⟨xs, h1, h2⟩ := h; exact ⟨_, h1⟩
  | dct ks => obtain ⟨xs, h1, h2⟩ := h; exact ⟨_, h1⟩
  | ins C fs => obtain ⟨dx, fvs, h1, h2, h3⟩ := h; exact ⟨_, h1⟩
  | _ => exact h.elim
theorem OwnAt.mutO {p : Addr} {d : D} {u : HO} (h : OwnAt K H0 G H p d) (e : H p = some u) : MutO u := by
  cases d with
  | lst ds => obtain ⟨xs, h1, h2⟩ := h; rw [e] at h1; cases h1; trivial
  | dct ks => obtain ⟨xs, h1, h2⟩ := h; rw [e] at h1; cases h1; trivial
  | ins C fs => obtain ⟨dx, fvs, h1, h2⟩ := h; rw [e] at h1; cases h1; trivial
  | _ => exact h.elim
theorem MutO.nt {u : HO} (h : MutO u) : NT u := fun ps z => by
  subst z
  exact h
theorem SlOk.up {o : Option (Option V)} {s : Sl} (h : SlOk K H0 G H o s) (x : Ext G H G' H') : SlOk K H0 G' H' o s := by
  cases s with
  | un => trivial
  | pu d => obtain ⟨v, e, r⟩ := h; exact ⟨v, e, r.up x.g⟩
  | ow d => obtain ⟨p, e, g, h0, r⟩ := h; exact ⟨p, e, x.nw _ g r.there, h0, r.up x⟩
  | lk p u d => obtain ⟨e, g, h0, q, r⟩ := h; exact ⟨e, x.nw _ g r.there, h0, x.h.k _ _ q (r.mutO q).nt, r.up x⟩
  | pw p d => obtain ⟨e, g, h0, r⟩ := h; exact ⟨e, x.nw _ g r.there, h0, r.up x⟩
  | kp v c u Gx => obtain ⟨e, h1, h2, h3, h4⟩ := h; exact ⟨e, x.h.k _ _ h1 h3, h2, h3, h4.trans x.g⟩
  | xv a cls dA fs =>
    obtain ⟨e, h1⟩ := h
    refine ⟨e, ?_⟩
    rcases h1 with h1 | ⟨p, fvs, h1, h2, h3⟩
    · exact .inl h1
    · exact .inr ⟨p, fvs, h1, x.h.k _ _ h2 (fun _ z => nomatch z), h3.up x.g⟩
  | pf d l Gx =>
    obtain ⟨⟨v, e, r⟩, h1, h2⟩ := h
    exact ⟨⟨v, e, r.up x.g⟩, fun q hq => ⟨x.h.k _ _ (h1 q hq).1 (h1 q hq).2.2.1, (h1 q hq).2⟩, h2.trans x.g⟩
theorem Fr.up (F : Fr K G0 H0 Γ σ G H) (x : Ext G H G' H') : Fr K G0 H0 Γ σ G' H' :=
  ⟨F.len, F.e.trans x, fun i s h => (F.at_ i s h).up x, F.dj⟩
theorem Fr.sub (F : Fr K G0 H0 Γ σ G H) : Sub G H := F.e.sub
end
end PL
set_option Elab.async false
set_option linter.all false
set_option maxRecDepth 100000
set_option maxHeartbeats 2000000
namespace PL
open PySem L2
variable [Tabl]
/-- an exception: its class, its own fields -/
structure XD where
  cls : Value
  fs : List (PySem.Str × D)
def XDen (K : PySem.W.Frag) (G H : Hp) (cls : Value) (dA : Option Addr) (x : XD) : Prop :=
  cls = x.cls ∧ ((dA = none ∧ x.fs = []) ∨ ∃ p fvs, dA = some p ∧ H p = some (.xd fvs) ∧ DenF K G fvs x.fs)
abbrev KD := D → Prop
abbrev KX := XD → Prop
abbrev TP := Ga → KD → KX → Prop
abbrev TB := Ga → (Bool → Prop) → KX → Prop
abbrev TL := Ga → (List D → Prop) → KX → Prop
/-- v stands for d, the topmost object may be the frame's own -/
def DenU (K : PySem.W.Frag) (H0 G H : Hp) (v : V) (d : D) : Prop := Den K G v d ∨ ∃ p, v = .ref p ∧ G p = none ∧ OwnAt K H0 G H p d
/-- what is wanted of exceptions -/
abbrev XOk (K : PySem.W.Frag) (W : WX) (G H : Hp) (σ : L2.St) (kx : KX) : Prop := ∀ x cls dA G' H', kx x → Ext G H G' H' → XDen K G' H' cls dA x → W cls dA σ H'
def RdP (K : PySem.W.Frag) (W : WX) (te : TE) (t : TP) : Prop := ∀ (G0 H0 : Hp) (Γ : Ga) (σ : L2.St) (G H : Hp) (k : KD) (kx : KX) (Q : VK), Fr K G0 H0 Γ σ G H → t Γ k kx →
  (∀ d v G' H', k d → Ext G H G' H' → Den K G' v d → Q v H') → XOk K W G H σ kx → te σ H Q
def RdU (K : PySem.W.Frag) (W : WX) (te : TE) (t : TP) : Prop := ∀ (G0 H0 : Hp) (Γ : Ga) (σ : L2.St) (G H : Hp) (k : KD) (kx : KX) (Q : VK), Fr K G0 H0 Γ σ G H → t Γ k kx →
  (∀ d v G' H', k d → Ext G H G' H' → DenU K H0 G' H' v d → Q v H') → XOk K W G H σ kx → te σ H Q
def RdT (K : PySem.W.Frag) (W : WX) (te : TT) (t : TB) : Prop := ∀ (G0 H0 : Hp) (Γ : Ga) (σ : L2.St) (G H : Hp) (k : Bool → Prop) (kx : KX) (Q : Bool → Hp → Prop), Fr K G0 H0 Γ σ G H → t Γ k kx →
  (∀ b G' H', k b → Ext G H G' H' → Q b H') → XOk K W G H σ kx → te σ H Q
def RdA (K : PySem.W.Frag) (W : WX) (ta : TA) (t : TL) : Prop := ∀ (G0 H0 : Hp) (Γ : Ga) (σ : L2.St) (G H : Hp) (k : List D → Prop) (kx : KX) (Q : List V → Hp → Prop), Fr K G0 H0 Γ σ G H → t Γ k kx →
  (∀ ds vs G' H', k ds → Ext G H G' H' → DenL K G' vs ds → Q vs H') → XOk K W G H σ kx → ta σ H Q
/-- an expression, its reading over pure data -/
structure PP (X : Cx) (W : WX) (e : Expr) (t : TP) : Prop where
  ex : ∃ te, PE X e te ∧ RdP X.K W te t
structure PU (X : Cx) (W : WX) (e : Expr) (t : TP) : Prop where
  ex : ∃ te, PE X e te ∧ RdU X.K W te t
structure PB (X : Cx) (W : WX) (e : Expr) (t : TB) : Prop where
  ex : ∃ te, PT X e te ∧ RdT X.K W te t
structure PL' (X : Cx) (W : WX) (es : List Expr) (t : TL) : Prop where
  ex : ∃ te, PA X es te ∧ RdA X.K W te t
section
variable {K : PySem.W.Frag} {W : WX} {G H G' H' : Hp} {σ : L2.St} {kx : KX}
theorem XOk.up (h : XOk K W G H σ kx) (x : Ext G H G' H') : XOk K W G' H' σ kx := fun y cls dA G2 H2 a b c => h y cls dA G2 H2 a (x.trans b) c
end
section
variable {X : Cx} {W : WX} {e a b c : Expr} {es : List Expr} {t ta tb tc : TP} {tl : TL} {tt tu : TB} {pos : Pos}
theorem PP.u (h : PP X W e t) : PU X W e t := by
  obtain ⟨te, pe, r⟩ := h.ex
  exact ⟨te, pe, fun G0 H0 Γ σ G H k kx Q F ht hk hx => r G0 H0 Γ σ G H k kx Q F ht (fun d v G' H' kd ex dn => hk d v G' H' kd ex (.inl dn)) hx⟩
def gat : Ga → Nat → Sl
  | [], _ => .un
  | s :: _, 0 => s
  | _ :: r, n + 1 => gat r n
def gset : Ga → Nat → Sl → Ga
  | [], _, _ => []
  | _ :: r, 0, s => s :: r
  | t :: r, n + 1, s => t :: gset r n s
theorem gat_get : ∀ (Γ : Ga) (i : Nat) (s : Sl), gat Γ i = s → s ≠ .un → Γ[i]? = some s
  | [], i, s, h, n => absurd h.symm n
  | t :: r, 0, s, h, _ => by rw [List.getElem?_cons_zero]; exact congrArg some h
  | t :: r, i + 1, s, h, n => by rw [List.getElem?_cons_succ]; exact gat_get r i s h n
theorem gset_eq : ∀ (Γ : Ga) (i : Nat) (s : Sl), gset Γ i s = Γ.set i s
  | [], _, _ => rfl
  | _ :: _, 0, _ => rfl
  | t :: r, i + 1, s => congrArg (t :: ·) (gset_eq r i s)
def tpVar (i : Nat) : TP := fun Γ k _ => match gat Γ i with
  | .pu d => k d
  | _ => False
def tpVarU (i : Nat) : TP := fun Γ k _ => match gat Γ i with
  | .pu d => k d
  | .ow d => k d
  | .lk _ _ d => k d
  | .pw _ d => k d
  | _ => False
theorem p_var (i : Nat) {x : PySem.Str} (hN : X.N[i]? = some x := by rfl) (hv : Vis X.env.scope x := by first | exact Or.inl rfl | exact Or.inr (Or.inl rfl) | exact Or.inr (Or.inr rfl)) (hd : (x == ("__debug__" : PySem.Str)) = false := by decide)
    (hcd : (x == ("__classdict__" : PySem.Str)) = false := by decide) : PP X W (.Name x pos) (tpVar i) := by
  refine ⟨_, pe_var hN hv hd hcd, fun G0 H0 Γ σ G H k kx Q F ht hk hx => ?_⟩
  unfold tpVar at ht
  cases hs : gat Γ i with
  | un => rw [hs] at ht; exact ht.elim
  | ow d => rw [hs] at ht; exact ht.elim
  | lk p u d => rw [hs] at ht; exact ht.elim
  | pw p d => rw [hs] at ht; exact ht.elim
  | kp v c w Gx => rw [hs] at ht; exact ht.elim
  | xv a cls dA fs => rw [hs] at ht; exact ht.elim
  | pf d l Gx => rw [hs] at ht; exact ht.elim
  | pu d =>
    rw [hs] at ht
    obtain ⟨v, e, r⟩ := F.at_ i _ (gat_get Γ i _ hs (by simp))
    exact ⟨v, e, hk d v G H ht (Ext.refl F.sub) r⟩
theorem u_var (i : Nat) {x : PySem.Str} (hN : X.N[i]? = some x := by rfl) (hv : Vis X.env.scope x := by first | exact Or.inl rfl | exact Or.inr (Or.inl rfl) | exact Or.inr (Or.inr rfl)) (hd : (x == ("__debug__" : PySem.Str)) = false := by decide)
    (hcd : (x == ("__classdict__" : PySem.Str)) = false := by decide) : PU X W (.Name x pos) (tpVarU i) := by
  refine ⟨_, pe_var hN hv hd hcd, fun G0 H0 Γ σ G H k kx Q F ht hk hx => ?_⟩
  unfold tpVarU at ht
  cases hs : gat Γ i with
  | un => rw [hs] at ht; exact ht.elim
  | kp v c w Gx => rw [hs] at ht; exact ht.elim
  | xv a cls dA fs => rw [hs] at ht; exact ht.elim
  | pf d l Gx => rw [hs] at ht; exact ht.elim
  | ow d =>
    rw [hs] at ht
    obtain ⟨p, e, g, h0, r⟩ := F.at_ i _ (gat_get Γ i _ hs (by simp))
    exact ⟨.ref p, e, hk d _ G H ht (Ext.refl F.sub) (.inr ⟨p, rfl, g, r⟩)⟩
  | pw p d =>
    rw [hs] at ht
    obtain ⟨e, g, h0, r⟩ := F.at_ i _ (gat_get Γ i _ hs (by simp))
    exact ⟨.ref p, e, hk d _ G H ht (Ext.refl F.sub) (.inr ⟨p, rfl, g, r⟩)⟩
  | lk p u d =>
    rw [hs] at ht
    obtain ⟨e, g, h0, q, r⟩ := F.at_ i _ (gat_get Γ i _ hs (by simp))
    exact ⟨.ref p, e, hk d _ G H ht (Ext.refl F.sub) (.inr ⟨p, rfl, g, r⟩)⟩
  | pu d =>
    rw [hs] at ht
    obtain ⟨v, e, r⟩ := F.at_ i _ (gat_get Γ i _ hs (by simp))
    exact ⟨v, e, hk d v G H ht (Ext.refl F.sub) (.inl r)⟩
def tpC (d : D) : TP := fun _ k _ => k d
theorem p_int {i : Int} {j} : PP X W (.Constant (.int i) j pos) (tpC (.int i)) := ⟨_, pe_int, fun G0 H0 Γ σ G H k kx Q F ht hk hx => hk _ _ G H ht (Ext.refl F.sub) (.int i)⟩
theorem p_bl {i : Bool} {j} : PP X W (.Constant (.bool i) j pos) (tpC (.bl i)) := ⟨_, pe_bl, fun G0 H0 Γ σ G H k kx Q F ht hk hx => hk _ _ G H ht (Ext.refl F.sub) (.bl i)⟩
theorem p_non {j} : PP X W (.Constant .none j pos) (tpC .non) := ⟨_, pe_non, fun G0 H0 Γ σ G H k kx Q F ht hk hx => hk _ _ G H ht (Ext.refl F.sub) .non⟩
theorem str_den {G : Hp} (x : PySem.Str) : Den X.K G (.str x) (.str x.cps.toList) := by
  have e : V.str x = .str (SS x.cps.toList) := by
    obtain ⟨a⟩ := x
    simp [SS]
  rw [e]
  exact .str _
theorem p_str (s : List Nat) {x : PySem.Str} {j} (h : x.cps.toList = s := by decide) : PP X W (.Constant (.str x) j pos) (tpC (.str s)) := by
  subst h
  exact ⟨_, pe_str, fun G0 H0 Γ σ G H k kx Q F ht hk hx => hk _ _ G H ht (Ext.refl F.sub) (str_den x)⟩
/-- a module's constant -/
theorem p_glob {x : PySem.Str} {v : V} {u : Value} {d : D} (hg : Gl X x) (hm : X.mg x = some u) (r : RelV v u) (dn : ∀ G, Den X.K G v d) (hd : (x == ("__debug__" : PySem.Str)) = false := by decide) : PP X W (.Name x pos) (tpC d) :=
  ⟨_, pe_glob hg hm r hd, fun G0 H0 Γ σ G H k kx Q F ht hk hx => hk _ _ G H ht (Ext.refl F.sub) (dn G)⟩
theorem p_globI {x : PySem.Str} {i : Int} (hg : Gl X x) (hm : ∃ t, X.mg x = some (.int i t)) (hd : (x == ("__debug__" : PySem.Str)) = false := by decide) : PP X W (.Name x pos) (tpC (.int i)) := by
  obtain ⟨t, hm⟩ := hm
  exact p_glob hg hm (v := .int i) ⟨t, rfl⟩ (fun G => .int i) hd
theorem p_globS {x : PySem.Str} {s : List Nat} (hg : Gl X x) (hm : ∃ t, X.mg x = some (.str (SS s) t)) (hd : (x == ("__debug__" : PySem.Str)) = false := by decide) : PP X W (.Name x pos) (tpC (.str s)) := by
  obtain ⟨t, hm⟩ := hm
  exact p_glob hg hm (v := .str (SS s)) ⟨t, rfl⟩ (fun G => .str s) hd
abbrev F2 := D → D → KD → Prop
/-- an operator's rule over data -/
def RdO (K : PySem.W.Frag) (r : R2) (f : F2) : Prop := ∀ (H0 G H : Hp) (v1 v2 : V) (d1 d2 : D) (k : KD) (Q : VK), Sub G H → DenU K H0 G H v1 d1 → DenU K H0 G H v2 d2 → f d1 d2 k →
  (∀ d v G' H', k d → Ext G H G' H' → Den K G' v d → Q v H') → r v1 v2 H Q
def tpOp (f : F2) (ta tb : TP) : TP := fun Γ k kx => ta Γ (fun x => tb Γ (fun y => f x y k) kx) kx
theorem DenU.up {K : PySem.W.Frag} {H0 G H G' H' : Hp} {v : V} {d : D} (h : DenU K H0 G H v d) (x : Ext G H G' H') : DenU K H0 G' H' v d := by
  rcases h with h | ⟨p, e, g, r⟩
  · exact .inl (h.up x.g)
  · exact .inr ⟨p, e, x.nw _ g r.there, r.up x⟩
theorem rd_op {r : R2} {f : F2} {ea eb : TE} (ha : RdU X.K W ea ta) (hb : RdU X.K W eb tb) (hr : RdO X.K r f) : RdP X.K W (tOp r ea eb) (tpOp f ta tb) := by
  intro G0 H0 Γ σ G H k kx Q F ht hk hx
  refine ha G0 H0 Γ σ G H _ kx _ F ht (fun d1 v1 G1 H1 k1 x1 n1 => ?_) hx
  refine hb G0 H0 Γ σ G1 H1 _ kx _ (F.up x1) k1 (fun d2 v2 G2 H2 k2 x2 n2 => ?_) (hx.up x1)
  exact hr H0 G2 H2 v1 v2 d1 d2 k Q x2.sub (n1.up x2) n2 k2 fun d v G' H' kd ex dn => hk d v G' H' kd ((x1.trans x2).trans ex) dn
theorem p_op {op : Operator} {r : R2} {f : F2} (ho : OpR X (binaryOp op) r ∧ RdO X.K r f) (ha : PU X W a ta) (hb : PU X W b tb) : PP X W (.BinOp a op b pos) (tpOp f ta tb) := by
  obtain ⟨ea, pa, ra⟩ := ha.ex
  obtain ⟨eb, pb, rb⟩ := hb.ex
  exact ⟨_, pe_op ho.1 pa pb, rd_op ra rb ho.2⟩
theorem p_cmp {op : CmpOp} {r : R2} {f : F2} (ho : OpR X (compareOp op) r ∧ RdO X.K r f) (ha : PU X W a ta) (hb : PU X W b tb) (hm : behindInMarks op b = false := by first | exact nobehind _ (by decide) (by decide) | rfl) : PP X W (.Compare a [op] [b] pos) (tpOp f ta tb) := by
  obtain ⟨ea, pa, ra⟩ := ha.ex
  obtain ⟨eb, pb, rb⟩ := hb.ex
  exact ⟨_, pe_cmpR ho.1 pa pb hm, rd_op ra rb ho.2⟩
theorem RdO.or {K : PySem.W.Frag} {r1 r2 : R2} {f : F2} (h : ∀ d1 d2, (∃ f1, RdO K r1 f1 ∧ ∀ k, f d1 d2 k → f1 d1 d2 k) ∨ (∃ f1, RdO K r2 f1 ∧ ∀ k, f d1 d2 k → f1 d1 d2 k)) : RdO K (fun x y H Q => r1 x y H Q ∨ r2 x y H Q) f := by
  intro H0 G H v1 v2 d1 d2 k Q s n1 n2 hf hk
  rcases h d1 d2 with ⟨f1, q, z⟩ | ⟨f1, q, z⟩
  · exact .inl (q H0 G H v1 v2 d1 d2 k Q s n1 n2 (z k hf) hk)
  · exact .inr (q H0 G H v1 v2 d1 d2 k Q s n1 n2 (z k hf) hk)
theorem DenU.int {K : PySem.W.Frag} {H0 G H : Hp} {v : V} {i : Int} (h : DenU K H0 G H v (.int i)) : v = .int i := by
  rcases h with h | ⟨p, e, g, r⟩
  · cases h; rfl
  · exact r.elim
theorem DenU.bl {K : PySem.W.Frag} {H0 G H : Hp} {v : V} {i : Bool} (h : DenU K H0 G H v (.bl i)) : v = .bl i := by
  rcases h with h | ⟨p, e, g, r⟩
  · cases h; rfl
  · exact r.elim
theorem DenU.str {K : PySem.W.Frag} {H0 G H : Hp} {v : V} {s : List Nat} (h : DenU K H0 G H v (.str s)) : v = .str (SS s) := by
  rcases h with h | ⟨p, e, g, r⟩
  · cases h; rfl
  · exact r.elim
theorem DenU.non {K : PySem.W.Frag} {H0 G H : Hp} {v : V} (h : DenU K H0 G H v .non) : v = .non := by
  rcases h with h | ⟨p, e, g, r⟩
  · cases h; rfl
  · exact r.elim
theorem DenU.lst {K : PySem.W.Frag} {H0 G H : Hp} {v : V} {ds : List D} (s : Sub G H) (h : DenU K H0 G H v (.lst ds)) : ∃ a xs, v = .ref a ∧ H a = some (.lst xs) ∧ DenL K G xs ds := by
  rcases h with h | ⟨p, e, g, xs, r1, r2⟩
  · cases h with
    | lst h1 h2 => exact ⟨_, _, rfl, s.at_ h1 (fun z => z), h2⟩
  · exact ⟨p, xs, e, r1, r2⟩
theorem DenU.tup {K : PySem.W.Frag} {H0 G H : Hp} {v : V} {ds : List D} (s : Sub G H) (h : DenU K H0 G H v (.tup ds)) : ∃ a xs, v = .ref a ∧ SqT K H a xs ∧ DenL K G xs ds := by
  rcases h with h | ⟨p, e, g, r⟩
  · cases h with
    | tup h1 h2 => exact ⟨_, _, rfl, s.sqt h1, h2⟩
  · exact r.elim
def fAdd : F2
  | .int i, .int j, k => k (.int (i + j))
  | .str s, .str t, k => s.length + t.length ≤ sizeLine ∧ k (.str (s ++ t))
  | .lst s, .lst t, k => s.length + t.length ≤ sizeLine ∧ k (.lst (s ++ t))
  | _, _, _ => False
theorem ss_append (s t : List Nat) : SS s ++ SS t = SS (s ++ t) := by
  show PySem.Str.mk _ = _
  simp [SS]
theorem ss_length (s : List Nat) : (SS s).length = s.length := by
  show (SS s).cps.size = _
  simp [SS]
def rAdd3 : R2 := fun x y H Q => rI0 (fun i j => .int (i + j)) x y H Q ∨ ((∃ i j, x = .str i ∧ y = .str j ∧ i.length + j.length ≤ sizeLine ∧ Q (.str (i ++ j)) H) ∨ rCat x y H Q)
theorem o_add : OpR X (binaryOp .Add) rAdd3 ∧ RdO X.K rAdd3 fAdd := by
  refine ⟨OpR.or op_add (OpR.or op_add_str op_cat), ?_⟩
  intro H0 G H v1 v2 d1 d2 k Q s n1 n2 hf hk
  cases d1 with
  | int i =>
    cases d2 with
    | int j => exact .inl ⟨i, j, n1.int, n2.int, hk _ _ G H hf (Ext.refl s) (.int _)⟩
    | _ => exact hf.elim
  | str i =>
    cases d2 with
    | str j =>
      obtain ⟨hl, hf⟩ := hf
      exact .inr (.inl ⟨_, _, n1.str, n2.str, by rw [ss_length, ss_length]; exact hl, by rw [ss_append]; exact hk _ _ G H hf (Ext.refl s) (.str _)⟩)
    | _ => exact hf.elim
  | lst i =>
    cases d2 with
    | lst j =>
      obtain ⟨hl, hf⟩ := hf
      obtain ⟨a, xs, e1, h1, r1⟩ := n1.lst s
      obtain ⟨b, ys, e2, h2, r2⟩ := n2.lst s
      refine .inr (.inr ⟨a, b, xs, ys, e1, e2, h1, h2, by rw [r1.length, r2.length]; exact hl, fun p hp => ?_⟩)
      exact hk _ _ _ _ hf (Ext.new s hp) (.lst upd_same ((r1.append r2).up (same_upd (s.none hp))))
    | _ => exact hf.elim
  | _ => exact hf.elim
def fSub : F2
  | .int i, .int j, k => k (.int (i - j))
  | _, _, _ => False
theorem o_int {g : Int → Int → V} {f : F2} {op : Value → Value → Sem Value} (ho : OpR X op (rI0 g)) (hf : ∀ d1 d2 k, f d1 d2 k → ∃ i j d, d1 = .int i ∧ d2 = .int j ∧ k d ∧ ∀ G, Den X.K G (g i j) d) : OpR X op (rI0 g) ∧ RdO X.K (rI0 g) f := by
  refine ⟨ho, fun H0 G H v1 v2 d1 d2 k Q s n1 n2 h hk => ?_⟩
  obtain ⟨i, j, d, rfl, rfl, kd, dn⟩ := hf _ _ _ h
  exact ⟨i, j, n1.int, n2.int, hk _ _ G H kd (Ext.refl s) (dn G)⟩
theorem o_intC {C : Int → Int → Prop} {g : Int → Int → V} {f : F2} {op : Value → Value → Sem Value} (ho : OpR X op (rI C g)) (hf : ∀ d1 d2 k, f d1 d2 k → ∃ i j d, d1 = .int i ∧ d2 = .int j ∧ C i j ∧ k d ∧ ∀ G, Den X.K G (g i j) d) : OpR X op (rI C g) ∧ RdO X.K (rI C g) f := by
  refine ⟨ho, fun H0 G H v1 v2 d1 d2 k Q s n1 n2 h hk => ?_⟩
  obtain ⟨i, j, d, rfl, rfl, c, kd, dn⟩ := hf _ _ _ h
  exact ⟨i, j, n1.int, n2.int, c, hk _ _ G H kd (Ext.refl s) (dn G)⟩
theorem o_sub : OpR X (binaryOp .Sub) (rI0 fun i j => .int (i - j)) ∧ RdO X.K (rI0 fun i j => .int (i - j)) fSub := o_int op_sub fun d1 d2 k h => by
  cases d1 with
  | int i =>
    cases d2 with
    | int j => exact ⟨i, j, _, rfl, rfl, h, fun _ => .int _⟩
    | _ => exact h.elim
  | _ => exact h.elim
def fMul : F2
  | .int i, .int j, k => CMul i j ∧ k (.int (i * j))
  | .lst xs, .int n, k => n < 2 ^ 60 ∧ -(2 ^ 60) < n ∧ xs.length * n.toNat ≤ sizeLine ∧ k (.lst (List.replicate n.toNat xs).flatten)
  | _, _, _ => False
def rMul2 : R2 := fun x y H Q => rI CMul (fun i j => .int (i * j)) x y H Q ∨ rRep x y H Q
theorem denL_rep {K : PySem.W.Frag} {G : Hp} {xs : List V} {ds : List D} (h : DenL K G xs ds) : ∀ n, DenL K G (List.replicate n xs).flatten (List.replicate n ds).flatten
  | 0 => .nil
  | n + 1 => by
    rw [List.replicate_succ, List.replicate_succ, List.flatten_cons, List.flatten_cons]
    exact h.append (denL_rep h n)
theorem o_mul : OpR X (binaryOp .Mult) rMul2 ∧ RdO X.K rMul2 fMul := by
  refine ⟨OpR.or op_mul op_rep, ?_⟩
  intro H0 G H v1 v2 d1 d2 k Q s n1 n2 hf hk
  cases d1 with
  | int i =>
    cases d2 with
    | int j => exact .inl ⟨i, j, n1.int, n2.int, hf.1, hk _ _ G H hf.2 (Ext.refl s) (.int _)⟩
    | _ => exact hf.elim
  | lst i =>
    cases d2 with
    | int j =>
      obtain ⟨hl, hl2, hz, hf⟩ := hf
      obtain ⟨a, xs, e1, h1, r1⟩ := n1.lst s
      refine .inr ⟨a, j, xs, e1, n2.int, h1, ?_, ?_, by rw [r1.length]; exact hz, fun p hp => ?_⟩
      · have : (2 : Int) ^ 60 ≤ 2 ^ 63 := by decide
        omega
      · have : (2 : Int) ^ 60 ≤ 2 ^ 63 := by decide
        omega
      · exact hk _ _ _ _ hf (Ext.new s hp) (.lst upd_same ((denL_rep r1 _).up (same_upd (s.none hp))))
    | _ => exact hf.elim
  | _ => exact hf.elim
/-- // by a positive number below 2 ^ 30 -/
def fFdiv : F2
  | .int i, .int j, k => (0 < j ∧ j < 1073741824) ∧ k (.int (i / j))
  | _, _, _ => False
theorem o_fdiv : OpR X (binaryOp .FloorDiv) (rI CDiv fun i j => .int (i / j)) ∧ RdO X.K (rI CDiv fun i j => .int (i / j)) fFdiv := o_intC op_fdiv fun d1 d2 k h => by
  cases d1 with
  | int i =>
    cases d2 with
    | int j => exact ⟨i, j, _, rfl, rfl, h.1, h.2, fun _ => .int _⟩
    | _ => exact h.elim
  | _ => exact h.elim
def fMod : F2
  | .int i, .int j, k => 0 < j ∧ k (.int (i % j))
  | _, _, _ => False
theorem o_mod : OpR X (binaryOp .Mod) (rI (fun _ j => 0 < j) fun i j => .int (i % j)) ∧ RdO X.K (rI (fun _ j => 0 < j) fun i j => .int (i % j)) fMod := o_intC op_mod fun d1 d2 k h => by
  cases d1 with
  | int i =>
    cases d2 with
    | int j => exact ⟨i, j, _, rfl, rfl, h.1, h.2, fun _ => .int _⟩
    | _ => exact h.elim
  | _ => exact h.elim
def fPow : F2
  | .int i, .int j, k => (0 ≤ j ∧ j ≤ 1000000 ∧ i.natAbs < 2 ^ 64) ∧ k (.int (i ^ j.toNat))
  | _, _, _ => False
theorem o_pow : OpR X (binaryOp .Pow) (rI CPow fun i j => .int (i ^ j.toNat)) ∧ RdO X.K (rI CPow fun i j => .int (i ^ j.toNat)) fPow := o_intC op_pow fun d1 d2 k h => by
  cases d1 with
  | int i =>
    cases d2 with
    | int j => exact ⟨i, j, _, rfl, rfl, h.1, h.2, fun _ => .int _⟩
    | _ => exact h.elim
  | _ => exact h.elim
def fLt : F2
  | .int i, .int j, k => k (.bl (decide (i < j)))
  | .str s, .str t, k => k (.bl (decide (s < t)))
  | _, _, _ => False
def fLe : F2
  | .int i, .int j, k => k (.bl (decide (i ≤ j)))
  | _, _, _ => False
def fGt : F2
  | .int i, .int j, k => k (.bl (decide (j < i)))
  | _, _, _ => False
def fGe : F2
  | .int i, .int j, k => k (.bl (decide (j ≤ i)))
  | _, _, _ => False
def rLt2 : R2 := fun x y H Q => rI0 (fun i j => .bl (decide (i < j))) x y H Q ∨ ∃ i j, x = .str i ∧ y = .str j ∧ Q (.bl (decide (i.cps.toList < j.cps.toList))) H
theorem o_lt : OpR X (compareOp .Lt) rLt2 ∧ RdO X.K rLt2 fLt := by
  refine ⟨OpR.or op_lt op_lt_str, ?_⟩
  intro H0 G H v1 v2 d1 d2 k Q s n1 n2 hf hk
  cases d1 with
  | int i =>
    cases d2 with
    | int j => exact .inl ⟨i, j, n1.int, n2.int, hk _ _ G H hf (Ext.refl s) (.bl _)⟩
    | _ => exact hf.elim
  | str i =>
    cases d2 with
    | str j => exact .inr ⟨_, _, n1.str, n2.str, hk _ _ G H hf (Ext.refl s) (.bl _)⟩
    | _ => exact hf.elim
  | _ => exact hf.elim
theorem o_le : OpR X (compareOp .LtE) (rI0 fun i j => .bl (decide (i ≤ j))) ∧ RdO X.K (rI0 fun i j => .bl (decide (i ≤ j))) fLe := o_int op_le fun d1 d2 k h => by
  cases d1 with
  | int i =>
    cases d2 with
    | int j => exact ⟨i, j, _, rfl, rfl, h, fun _ => .bl _⟩
    | _ => exact h.elim
  | _ => exact h.elim
theorem o_gt : OpR X (compareOp .Gt) (rI0 fun i j => .bl (decide (j < i))) ∧ RdO X.K (rI0 fun i j => .bl (decide (j < i))) fGt := o_int op_gt fun d1 d2 k h => by
  cases d1 with
  | int i =>
    cases d2 with
    | int j => exact ⟨i, j, _, rfl, rfl, h, fun _ => .bl _⟩
    | _ => exact h.elim
  | _ => exact h.elim
theorem o_ge : OpR X (compareOp .GtE) (rI0 fun i j => .bl (decide (j ≤ i))) ∧ RdO X.K (rI0 fun i j => .bl (decide (j ≤ i))) fGe := o_int op_ge fun d1 d2 k h => by
  cases d1 with
  | int i =>
    cases d2 with
    | int j => exact ⟨i, j, _, rfl, rfl, h, fun _ => .bl _⟩
    | _ => exact h.elim
  | _ => exact h.elim
theorem DenU.notNon {K : PySem.W.Frag} {H0 G H : Hp} {v : V} {d : D} (h : DenU K H0 G H v d) (n : d ≠ .non) : decide (v = .non) = false := by
  apply decide_eq_false
  intro e
  subst e
  rcases h with h | ⟨p, e, _⟩
  · cases h
    exact n rfl
  · cases e
end
end PL
set_option Elab.async false
set_option linter.all false
set_option maxRecDepth 100000
set_option maxHeartbeats 2000000
namespace PL
open PySem L2
variable [Tabl]
mutual
def D.py : D → PyData
  | .non => .none
  | .bl b => .bool b
  | .int i => .int i
  | .str s => .str (SS s)
  | .lst xs => .list (D.pyL xs)
  | .tup xs => .tuple (D.pyL xs)
  | .dct _ => .none
  | .ins _ _ => .none
  | .sl _ _ => .none
  | .cls _ => .none
  | .ty _ => .none
  | .bag => .none
  | .scr => .none
  | .cel _ _ => .none
def D.pyL : List D → List PyData
  | [] => []
  | d :: r => D.py d :: D.pyL r
end
mutual
/-- none, bools, ints, texts, lists and tuples of such -/
def D.plain : D → Bool
  | .non => true
  | .bl _ => true
  | .int _ => true
  | .str s => s.all fun c => decide (c < 1114112)
  | .lst xs => D.plainL xs
  | .tup xs => D.plainL xs
  | _ => false
def D.plainL : List D → Bool
  | [] => true
  | d :: r => D.plain d && D.plainL r
end
mutual
def D.dep : D → Nat
  | .lst xs => D.depL xs + 1
  | .tup xs => D.depL xs + 1
  | _ => 0
def D.depL : List D → Nat
  | [] => 0
  | d :: r => max (D.dep d) (D.depL r)
end
mutual
theorem D.lay : ∀ d : D, d.plain = true → d.py.canLay0 = true
  | .non, _ => rfl
  | .bl _, _ => rfl
  | .int _, _ => rfl
  | .str s, h => by
    show (SS s).cps.all (· < 0x110000) = true
    unfold D.plain at h
    rw [Array.all_eq_true']
    intro c hc
    have := List.all_eq_true.mp h c (by simpa [SS] using hc)
    simpa using this
  | .lst xs, h => by
    show PyData.canLayAll0 _ = true
    exact D.layL xs h
  | .tup xs, h => by
    show PyData.canLayAll0 _ = true
    exact D.layL xs h
  | .dct _, h => by cases h
  | .ins _ _, h => by cases h
  | .sl _ _, h => by cases h
  | .cls _, h => by cases h
  | .ty _, h => by cases h
  | .bag, h => by cases h
  | .scr, h => by cases h
  | .cel _ _, h => by cases h
theorem D.layL : ∀ ds : List D, D.plainL ds = true → PyData.canLayAll0 (D.pyL ds) = true
  | [], _ => rfl
  | d :: r, h => by
    have h : (d.plain && D.plainL r) = true := h
    obtain ⟨h1, h2⟩ := Bool.and_eq_true_iff.mp h
    show (PyData.canLay0 d.py && PyData.canLayAll0 (D.pyL r)) = true
    rw [D.lay d h1, D.layL r h2]
    rfl
end
mutual
theorem D.dep_py : ∀ d : D, d.py.depth = d.dep
  | .non => rfl
  | .bl _ => rfl
  | .int _ => rfl
  | .str s => rfl
  | .lst xs => congrArg (· + 1) (D.dep_pyL xs)
  | .tup xs => congrArg (· + 1) (D.dep_pyL xs)
  | .dct _ => rfl
  | .ins _ _ => rfl
  | .sl _ _ => rfl
  | .cls _ => rfl
  | .ty _ => rfl
  | .bag => rfl
  | .scr => rfl
  | .cel _ _ => rfl
theorem D.dep_pyL : ∀ ds : List D, PyData.depthAll (D.pyL ds) = D.depL ds
  | [] => rfl
  | d :: r => by
    show max (PyData.depth d.py) (PyData.depthAll (D.pyL r)) = max d.dep (D.depL r)
    rw [D.dep_py d, D.dep_pyL r]
end
theorem D.shaped {d : D} (h : d.plain = true) (hd : d.dep ≤ 64) : SeqAt.shaped d.py = true := by
  unfold SeqAt.shaped
  rw [D.lay d h, D.dep_py d, decide_eq_true hd]
  rfl
def eqD (d e : D) : Bool := PyData.eqv d.py e.py
section
variable {K : PySem.W.Frag} {G H H0 : Hp}
mutual
theorem Den.dp (s : Sub G H) : ∀ (d : D) (v : V), Den K G v d → d.plain = true → Dp K H v d.py
  | .non, _, h, _ => by cases h; exact .non
  | .bl _, _, h, _ => by cases h; exact .bl _
  | .int _, _, h, _ => by cases h; exact .int _
  | .str _, _, h, _ => by cases h; exact .str _
  | .lst xs, _, h, z => by
    cases h with
    | lst h1 h2 => exact .lst (SqL.of (s.at_ h1 (fun z => z))) (DenL.dp s xs _ h2 z)
  | .tup xs, _, h, z => by
    cases h with
    | tup h1 h2 => exact .tup (s.sqt h1) (DenL.dp s xs _ h2 z)
  | .dct _, _, _, z => by cases z
  | .ins _ _, _, _, z => by cases z
  | .sl _ _, _, _, z => by cases z
  | .cls _, _, _, z => by cases z
  | .ty _, _, _, z => by cases z
  | .bag, _, _, z => by cases z
  | .scr, _, _, z => by cases z
  | .cel _ _, _, _, z => by cases z
theorem DenL.dp (s : Sub G H) : ∀ (ds : List D) (vs : List V), DenL K G vs ds → D.plainL ds = true → DpAll K H vs (D.pyL ds)
  | [], _, h, _ => by cases h; exact .nil
  | d :: r, _, h, z => by
    have z : (d.plain && D.plainL r) = true := z
    obtain ⟨z1, z2⟩ := Bool.and_eq_true_iff.mp z
    cases h with
    | cons h1 h2 => exact .cons (Den.dp s d _ h1 z1) (DenL.dp s r _ h2 z2)
end
theorem DenU.dp (s : Sub G H) {d : D} {v : V} (h : DenU K H0 G H v d) (z : d.plain = true) : Dp K H v d.py := by
  rcases h with h | ⟨p, e, g, r⟩
  · exact Den.dp s d v h z
  · cases d with
    | lst xs =>
      obtain ⟨ys, h1, h2⟩ := r
      subst e
      exact .lst (SqL.of h1) (DenL.dp s xs _ h2 z)
    | dct _ => cases z
    | ins _ _ => cases z
    | _ => exact r.elim
end
def fEq : F2 := fun d e k => (d.plain = true ∧ e.plain = true ∧ d.dep ≤ 64 ∧ e.dep ≤ 64) ∧ k (.bl (eqD d e))
def fNe : F2 := fun d e k => (d.plain = true ∧ e.plain = true ∧ d.dep ≤ 64 ∧ e.dep ≤ 64) ∧ k (.bl (!eqD d e))
section
variable {X : Cx} {W : WX} {e a b c : Expr} {es : List Expr} {t ta tb tc : TP} {tl : TL} {tt tu : TB} {pos : Pos}
theorem o_eq (hu : X.A.units + 64 < cLine) : OpR X (compareOp .Eq) (rEqD X.K) ∧ RdO X.K (rEqD X.K) fEq :=
  ⟨op_eqD hu, fun H0 G H v1 v2 d1 d2 k Q s n1 n2 ⟨⟨p1, p2, l1, l2⟩, hf⟩ hk => ⟨d1.py, d2.py, n1.dp s p1, n2.dp s p2, D.shaped p1 l1, D.shaped p2 l2, hk _ _ G H hf (Ext.refl s) (.bl _)⟩⟩
theorem o_ne (hu : X.A.units + 64 < cLine) : OpR X (compareOp .NotEq) (rNeD X.K) ∧ RdO X.K (rNeD X.K) fNe :=
  ⟨op_neD hu, fun H0 G H v1 v2 d1 d2 k Q s n1 n2 ⟨⟨p1, p2, l1, l2⟩, hf⟩ hk => ⟨d1.py, d2.py, n1.dp s p1, n2.dp s p2, D.shaped p1 l1, D.shaped p2 l2, hk _ _ G H hf (Ext.refl s) (.bl _)⟩⟩
/-- a sign in a text -/
def fInS : F2
  | .str [c], .str t, k => k (.bl (decide (c ∈ t)))
  | _, _, _ => False
def fNotInS : F2
  | .str [c], .str t, k => k (.bl (!decide (c ∈ t)))
  | _, _, _ => False
def rInSg : R2 := fun x y H Q => ∃ (c : Nat) (z : PySem.Str), x = .str ⟨#[c]⟩ ∧ y = .str z ∧ Q (.bl (decide (c ∈ z.cps.toList))) H
def rNotInSg : R2 := fun x y H Q => ∃ (c : Nat) (z : PySem.Str), x = .str ⟨#[c]⟩ ∧ y = .str z ∧ Q (.bl (!decide (c ∈ z.cps.toList))) H
theorem o_inS : OpR X (compareOp .In) rInSg ∧ RdO X.K rInSg fInS := by
  refine ⟨op_in_sign, fun H0 G H v1 v2 d1 d2 k Q s n1 n2 hf hk => ?_⟩
  cases d1 with
  | str x =>
    match x, hf with
    | [c], hf =>
      cases d2 with
      | str y => exact ⟨c, _, n1.str, n2.str, hk _ _ G H hf (Ext.refl s) (.bl _)⟩
      | _ => exact hf.elim
  | _ => exact hf.elim
theorem o_notInS : OpR X (compareOp .NotIn) rNotInSg ∧ RdO X.K rNotInSg fNotInS := by
  refine ⟨op_notIn_sign, fun H0 G H v1 v2 d1 d2 k Q s n1 n2 hf hk => ?_⟩
  cases d1 with
  | str x =>
    match x, hf with
    | [c], hf =>
      cases d2 with
      | str y => exact ⟨c, _, n1.str, n2.str, hk _ _ G H hf (Ext.refl s) (.bl _)⟩
      | _ => exact hf.elim
  | _ => exact hf.elim
def isNon : D → Bool
  | .non => true
  | _ => false
theorem DenU.isNon {K : PySem.W.Frag} {H0 G H : Hp} {v : V} {d : D} (h : DenU K H0 G H v d) : decide (v = .non) = isNon d := by
  cases d with
  | non => rw [h.non]; rfl
  | _ => exact h.notNon (by simp)
def tpIsN (t : TP) : TP := fun Γ k kx => t Γ (fun d => k (.bl (isNon d))) kx
theorem p_isN {j p2} (ha : PU X W a ta) : PP X W (.Compare a [.Is] [.Constant .none j p2] pos) (tpIsN ta) := by
  obtain ⟨ea, pa, ra⟩ := ha.ex
  refine ⟨_, pe_cmp (pc_isN pa), fun G0 H0 Γ σ G H k kx Q F ht hk hx => ?_⟩
  refine ra G0 H0 Γ σ G H _ kx _ F ht (fun d1 v1 G1 H1 k1 x1 n1 => ?_) hx
  rw [n1.isNon]
  exact hk _ _ G1 H1 k1 x1 (.bl _)
def onB (d : D) (k : Bool → Prop) : Prop := match d with
  | .bl b => k b
  | _ => False
theorem onB_elim {d : D} {k : Bool → Prop} (h : onB d k) : ∃ b, d = .bl b ∧ k b := by
  cases d with
  | bl b => exact ⟨b, rfl, h⟩
  | _ => exact h.elim
def tpAnd (ta tb : TP) : TP := fun Γ k kx => ta Γ (fun d => onB d fun c => if c = true then tb Γ k kx else k (.bl false)) kx
def tpNot (ta : TP) : TP := fun Γ k kx => ta Γ (fun d => onB d fun c => k (.bl (!c))) kx
theorem p_and {r : List Expr} (ha : PP X W a ta) (hb : PP X W (.BoolOp .And (b :: r) pos) tb) : PP X W (.BoolOp .And (a :: b :: r) pos) (tpAnd ta tb) := by
  obtain ⟨ea, pa, ra⟩ := ha.ex
  obtain ⟨eb, pb, rb⟩ := hb.ex
  refine ⟨_, pe_and pa pb, fun G0 H0 Γ σ G H k kx Q F ht hk hx => ?_⟩
  refine ra G0 H0 Γ σ G H _ kx _ F ht (fun d1 v1 G1 H1 k1 x1 n1 => ?_) hx
  obtain ⟨c, rfl, k1⟩ := onB_elim k1
  refine ⟨c, DenU.bl (.inl n1) (H0 := H0) (H := H1), ?_⟩
  cases c with
  | true => exact rb G0 H0 Γ σ G1 H1 k kx Q (F.up x1) k1 (fun d v G' H' kd ex dn => hk d v G' H' kd (x1.trans ex) dn) (hx.up x1)
  | false => exact hk _ _ G1 H1 k1 x1 (.bl _)
theorem p_one {op} (ha : PP X W a ta) : PP X W (.BoolOp op [a] pos) ta := by
  obtain ⟨ea, pa, ra⟩ := ha.ex
  exact ⟨_, pe_one pa, ra⟩
theorem p_not (ha : PP X W a ta) : PP X W (.UnaryOp .Not a pos) (tpNot ta) := by
  obtain ⟨ea, pa, ra⟩ := ha.ex
  refine ⟨_, pe_not pa, fun G0 H0 Γ σ G H k kx Q F ht hk hx => ?_⟩
  refine ra G0 H0 Γ σ G H _ kx _ F ht (fun d1 v1 G1 H1 k1 x1 n1 => ?_) hx
  obtain ⟨c, rfl, k1⟩ := onB_elim k1
  exact ⟨c, DenU.bl (.inl n1) (H0 := H0) (H := H1), hk _ _ G1 H1 k1 x1 (.bl _)⟩
def tbV (t : TP) : TB := fun Γ k kx => t Γ (fun d => onB d k) kx
theorem b_val (h : PP X W e t) (he : ∀ whole, isTrue e X.env whole = (do let v ← whole; standAt e.pos; holding [v] (truthy v)) := by intro _; rfl) : PB X W e (tbV t) := by
  obtain ⟨ea, pa, ra⟩ := h.ex
  refine ⟨_, pt_val pa he, fun G0 H0 Γ σ G H k kx Q F ht hk hx => ?_⟩
  refine ra G0 H0 Γ σ G H _ kx _ F ht (fun d1 v1 G1 H1 k1 x1 n1 => ?_) hx
  obtain ⟨c, rfl, k1⟩ := onB_elim k1
  exact ⟨c, DenU.bl (.inl n1) (H0 := H0) (H := H1), hk _ G1 H1 k1 x1⟩
theorem b_cmp {op : CmpOp} {r : R2} {f : F2} (ho : OpR X (compareOp op) r ∧ RdO X.K r f) (ha : PU X W a ta) (hb : PU X W b tb) (hm : behindInMarks op b = false := by first | exact nobehind _ (by decide) (by decide) | rfl) : PB X W (.Compare a [op] [b] pos) (tbV (tpOp f ta tb)) := by
  obtain ⟨ea, pa, ra⟩ := ha.ex
  obtain ⟨eb, pb, rb⟩ := hb.ex
  refine ⟨_, pt_cmpR ho.1 pa pb hm, fun G0 H0 Γ σ G H k kx Q F ht hk hx => ?_⟩
  refine rd_op ra rb ho.2 G0 H0 Γ σ G H _ kx _ F ht (fun d1 v1 G1 H1 k1 x1 n1 => ?_) hx
  obtain ⟨c, rfl, k1⟩ := onB_elim k1
  exact ⟨c, DenU.bl (.inl n1) (H0 := H0) (H := H1), hk _ G1 H1 k1 x1⟩
theorem b_isN {j p2} (ha : PU X W a ta) : PB X W (.Compare a [.Is] [.Constant .none j p2] pos) (tbV (tpIsN ta)) := by
  obtain ⟨ea, pa, ra⟩ := ha.ex
  refine ⟨_, pt_cmp (pc_isN pa), fun G0 H0 Γ σ G H k kx Q F ht hk hx => ?_⟩
  refine ra G0 H0 Γ σ G H _ kx _ F ht (fun d1 v1 G1 H1 k1 x1 n1 => ?_) hx
  exact ⟨_, congrArg V.bl n1.isNon, hk _ G1 H1 k1 x1⟩
def tbAnd (t u : TB) : TB := fun Γ k kx => t Γ (fun c => if c = true then u Γ k kx else k false) kx
def tbOr (t u : TB) : TB := fun Γ k kx => t Γ (fun c => if c = true then k true else u Γ k kx) kx
def tbNot (t : TB) : TB := fun Γ k kx => t Γ (fun c => k (!c)) kx
structure PBw (X : Cx) (W : WX) (e : Expr) (t : TB) : Prop where
  ex : ∃ te, PW X e te ∧ RdT X.K W te t
theorem PBw.to (h : PBw X W e tt) : PB X W e tt := by
  obtain ⟨ea, pa, ra⟩ := h.ex
  exact ⟨_, pa.pt, ra⟩
theorem b_and1 (ha : PB X W a tt) : PBw X W (.BoolOp .And [a] pos) tt := by
  obtain ⟨ea, pa, ra⟩ := ha.ex
  exact ⟨_, pw_and1 pa, ra⟩
theorem b_or1 (ha : PB X W a tt) : PBw X W (.BoolOp .Or [a] pos) tt := by
  obtain ⟨ea, pa, ra⟩ := ha.ex
  exact ⟨_, pw_or1 pa, ra⟩
theorem b_and {r : List Expr} (ha : PB X W a tt) (hb : PBw X W (.BoolOp .And (b :: r) pos) tu) : PBw X W (.BoolOp .And (a :: b :: r) pos) (tbAnd tt tu) := by
  obtain ⟨ea, pa, ra⟩ := ha.ex
  obtain ⟨eb, pb, rb⟩ := hb.ex
  refine ⟨_, pw_and pa pb, fun G0 H0 Γ σ G H k kx Q F ht hk hx => ?_⟩
  refine ra G0 H0 Γ σ G H _ kx _ F ht (fun c G1 H1 k1 x1 => ?_) hx
  cases c with
  | true => exact rb G0 H0 Γ σ G1 H1 k kx Q (F.up x1) k1 (fun d G' H' kd ex => hk d G' H' kd (x1.trans ex)) (hx.up x1)
  | false => exact hk _ G1 H1 k1 x1
theorem b_or {r : List Expr} (ha : PB X W a tt) (hb : PBw X W (.BoolOp .Or (b :: r) pos) tu) : PBw X W (.BoolOp .Or (a :: b :: r) pos) (tbOr tt tu) := by
  obtain ⟨ea, pa, ra⟩ := ha.ex
  obtain ⟨eb, pb, rb⟩ := hb.ex
  refine ⟨_, pw_or pa pb, fun G0 H0 Γ σ G H k kx Q F ht hk hx => ?_⟩
  refine ra G0 H0 Γ σ G H _ kx _ F ht (fun c G1 H1 k1 x1 => ?_) hx
  cases c with
  | false => exact rb G0 H0 Γ σ G1 H1 k kx Q (F.up x1) k1 (fun d G' H' kd ex => hk d G' H' kd (x1.trans ex)) (hx.up x1)
  | true => exact hk _ G1 H1 k1 x1
theorem b_not (ha : PB X W a tt) : PB X W (.UnaryOp .Not a pos) (tbNot tt) := by
  obtain ⟨ea, pa, ra⟩ := ha.ex
  refine ⟨_, pt_not pa, fun G0 H0 Γ σ G H k kx Q F ht hk hx => ?_⟩
  exact ra G0 H0 Γ σ G H _ kx _ F ht (fun c G1 H1 k1 x1 => hk _ G1 H1 k1 x1) hx
def tpIf (t : TB) (ta tb : TP) : TP := fun Γ k kx => t Γ (fun c => if c = true then ta Γ k kx else tb Γ k kx) kx
theorem p_ifExp (hc : PB X W c tt) (ha : PP X W a ta) (hb : PP X W b tb) : PP X W (.IfExp c a b pos) (tpIf tt ta tb) := by
  obtain ⟨ec, pc, rc⟩ := hc.ex
  obtain ⟨ea, pa, ra⟩ := ha.ex
  obtain ⟨eb, pb, rb⟩ := hb.ex
  refine ⟨_, pe_ifExp pc pa pb, fun G0 H0 Γ σ G H k kx Q F ht hk hx => ?_⟩
  refine rc G0 H0 Γ σ G H _ kx _ F ht (fun c G1 H1 k1 x1 => ?_) hx
  cases c with
  | true => exact ra G0 H0 Γ σ G1 H1 k kx Q (F.up x1) k1 (fun d v G' H' kd ex dn => hk d v G' H' kd (x1.trans ex) dn) (hx.up x1)
  | false => exact rb G0 H0 Γ σ G1 H1 k kx Q (F.up x1) k1 (fun d v G' H' kd ex dn => hk d v G' H' kd (x1.trans ex) dn) (hx.up x1)
def tlNil : TL := fun _ k _ => k []
def tlCons (t : TP) (r : TL) : TL := fun Γ k kx => t Γ (fun d => r Γ (fun ds => k (d :: ds)) kx) kx
theorem l_nil : PL' X W [] tlNil := ⟨_, pa_nil, fun G0 H0 Γ σ G H k kx Q F ht hk hx => hk [] [] G H ht (Ext.refl F.sub) .nil⟩
theorem l_cons (ha : PP X W e t) (hr : PL' X W es tl) (hs : starEach (e :: es) X.env = (false, eval e X.env) :: starEach es X.env := by rfl) : PL' X W (e :: es) (tlCons t tl) := by
  obtain ⟨ea, pa, ra⟩ := ha.ex
  obtain ⟨eb, pb, rb⟩ := hr.ex
  refine ⟨_, pa_cons pa pb hs, fun G0 H0 Γ σ G H k kx Q F ht hk hx => ?_⟩
  refine ra G0 H0 Γ σ G H _ kx _ F ht (fun d1 v1 G1 H1 k1 x1 n1 => ?_) hx
  exact rb G0 H0 Γ σ G1 H1 _ kx _ (F.up x1) k1 (fun ds vs G' H' kd ex dn => hk (d1 :: ds) (v1 :: vs) G' H' kd (x1.trans ex) (.cons (n1.up ex.g) dn)) (hx.up x1)
def tpTup (t : TL) : TP := fun Γ k kx => t Γ (fun ds => ds.length ≤ 100000 ∧ k (.tup ds)) kx
def tpLst (t : TL) : TP := fun Γ k kx => t Γ (fun ds => ds.length ≤ 100000 ∧ k (.lst ds)) kx
theorem sz5 {n : Nat} (h : n ≤ 100000) : n ≤ sizeLine := Nat.le_trans h (by decide)
theorem p_tup {x1 : Nat} (h : PL' X W es tl) : PP X W (.Tuple es x1 pos) (tpTup tl) := by
  obtain ⟨ea, pa, ra⟩ := h.ex
  refine ⟨_, pe_tup pa, fun G0 H0 Γ σ G H k kx Q F ht hk hx => ?_⟩
  refine ra G0 H0 Γ σ G H _ kx _ F ht (fun ds vs G1 H1 k1 x1 n1 => ?_) hx
  refine ⟨by rw [n1.length]; exact sz5 k1.1, fun p hp => ?_⟩
  exact hk _ _ _ _ k1.2 (x1.trans (Ext.new x1.sub hp)) (.tup (SqT.of upd_same) (n1.up (same_upd (x1.sub.none hp))))
theorem p_lst (h : PL' X W es tl) : PP X W (.List es pos) (tpLst tl) := by
  obtain ⟨ea, pa, ra⟩ := h.ex
  refine ⟨_, pe_lst pa, fun G0 H0 Γ σ G H k kx Q F ht hk hx => ?_⟩
  refine ra G0 H0 Γ σ G H _ kx _ F ht (fun ds vs G1 H1 k1 x1 n1 => ?_) hx
  refine ⟨by rw [n1.length]; exact sz5 k1.1, fun p hp => ?_⟩
  exact hk _ _ _ _ k1.2 (x1.trans (Ext.new x1.sub hp)) (.lst upd_same (n1.up (same_upd (x1.sub.none hp))))
def fIx : F2
  | .lst xs, .int i, k => match atI xs i with
    | some d => k d
    | none => False
  | .tup xs, .int i, k => match atI xs i with
    | some d => k d
    | none => False
  | .str s, .int i, k => s.length ≤ sizeLine ∧ match atI s i with
    | some c => k (.str [c])
    | none => False
  | .cel _ ns, .int i, k => match atI ns i with
    | some n => k (.int n)
    | none => False
  | _, _, _ => False
theorem atI_map {α β : Type} (f : α → β) (xs : List α) (i : Int) : atI (xs.map f) i = (atI xs i).map f := by
  unfold atI
  rw [List.length_map]
  cases ixN xs.length i with
  | none => rfl
  | some j =>
    show (xs.map f)[j]? = (xs[j]?).map f
    rw [List.getElem?_map]
theorem DenU.cel {K : PySem.W.Frag} {H0 G H : Hp} {v : V} {l : Addr} {ns : List Int} (s : Sub G H) (h : DenU K H0 G H v (.cel l ns)) : v = .ref l ∧ H l = some (.lst (ns.map V.int)) := by
  rcases h with h | ⟨p, e, g, r⟩
  · cases h with
    | cel h1 => exact ⟨rfl, s.at_ h1 (fun z => z)⟩
  · exact r.elim
theorem ix_get {K : PySem.W.Frag} {G : Hp} {vs : List V} {ds : List D} {i : Int} {d : D} (r : DenL K G vs ds) (h : atI ds i = some d) : ∃ v, atI vs i = some v ∧ Den K G v d := by
  unfold atI at h ⊢
  rw [r.length]
  cases e : ixN ds.length i with
  | none => rw [e] at h; cases h
  | some j =>
    rw [e] at h
    exact r.get (i := j) h
theorem o_ix : IxR X (rIx X.K) ∧ RdO X.K (rIx X.K) fIx := by
  refine ⟨ix_seq, fun H0 G H v1 v2 d1 d2 k Q s n1 n2 hf hk => ?_⟩
  cases d1 with
  | lst xs =>
    cases d2 with
    | int i =>
      obtain ⟨a, ys, e1, h1, r1⟩ := n1.lst s
      unfold fIx at hf
      cases e : atI xs i with
      | none => simp only [e] at hf
      | some d =>
        simp only [e] at hf
        obtain ⟨v, hv, dn⟩ := ix_get r1 e
        exact .inl ⟨a, ys, i, v, e1, n2.int, SqL.of h1, hv, hk _ _ G H hf (Ext.refl s) dn⟩
    | _ => exact hf.elim
  | tup xs =>
    cases d2 with
    | int i =>
      obtain ⟨a, ys, e1, h1, r1⟩ := n1.tup s
      unfold fIx at hf
      cases e : atI xs i with
      | none => simp only [e] at hf
      | some d =>
        simp only [e] at hf
        obtain ⟨v, hv, dn⟩ := ix_get r1 e
        exact .inr (.inl ⟨a, ys, i, v, e1, n2.int, h1, hv, hk _ _ G H hf (Ext.refl s) dn⟩)
    | _ => exact hf.elim
  | str xs =>
    cases d2 with
    | int i =>
      unfold fIx at hf
      obtain ⟨hz, hf⟩ := hf
      cases e : atI xs i with
      | none => simp only [e] at hf
      | some c =>
        simp only [e] at hf
        exact .inr (.inr ⟨_, i, c, n1.str, n2.int, by rw [ss_length]; exact hz, e, hk _ _ G H hf (Ext.refl s) (.str [c])⟩)
    | _ => exact hf.elim
  | cel l ns =>
    cases d2 with
    | int i =>
      obtain ⟨e1, h1⟩ := n1.cel s
      unfold fIx at hf
      cases e : atI ns i with
      | none => simp only [e] at hf
      | some n =>
        simp only [e] at hf
        exact .inl ⟨l, _, i, .int n, e1, n2.int, SqL.of h1, by rw [atI_map, e]; rfl, hk _ _ G H hf (Ext.refl s) (.int n)⟩
    | _ => exact hf.elim
  | _ => exact hf.elim
theorem p_ix (ha : PU X W a ta) (hb : PU X W b tb) (hs : PlainIx b := by exact fun _ _ => rfl) : PP X W (.Subscript a b pos) (tpOp fIx ta tb) := by
  obtain ⟨ea, pa, ra⟩ := ha.ex
  obtain ⟨eb, pb, rb⟩ := hb.ex
  exact ⟨_, pe_ix o_ix.1 pa pb hs, rd_op ra rb o_ix.2⟩
abbrev TO' := Ga → (Option Int → Prop) → KX → Prop
def RdPart (K : PySem.W.Frag) (W : WX) (te : TO) (t : TO') : Prop := ∀ (G0 H0 : Hp) (Γ : Ga) (σ : L2.St) (G H : Hp) (k : Option Int → Prop) (kx : KX) (Q : Option Int → Hp → Prop), Fr K G0 H0 Γ σ G H → t Γ k kx →
  (∀ b G' H', k b → Ext G H G' H' → Q b H') → XOk K W G H σ kx → te σ H Q
structure PPart (X : Cx) (W : WX) (e : Option Expr) (t : TO') : Prop where
  ex : ∃ te, PO X e te ∧ RdPart X.K W te t
def toNo : TO' := fun _ k _ => k none
def toSome (t : TP) : TO' := fun Γ k kx => t Γ (fun d => match d with | .int i => k (some i) | _ => False) kx
theorem s_none : PPart X W none toNo := ⟨_, po_none, fun G0 H0 Γ σ G H k kx Q F ht hk hx => hk none G H ht (Ext.refl F.sub)⟩
theorem s_some (ha : PP X W a ta) : PPart X W (some a) (toSome ta) := by
  obtain ⟨ea, pa, ra⟩ := ha.ex
  refine ⟨_, po_some pa, fun G0 H0 Γ σ G H k kx Q F ht hk hx => ?_⟩
  refine ra G0 H0 Γ σ G H _ kx _ F ht (fun d1 v1 G1 H1 k1 x1 n1 => ?_) hx
  cases d1 with
  | int i => exact ⟨i, DenU.int (.inl n1) (H0 := H0) (H := H1), hk _ G1 H1 k1 x1⟩
  | _ => exact k1.elim
def cutL {α : Type} (xs : List α) (lo hi : Option Int) : List α := (xs.drop (HT.sIx xs.length 0 lo)).take (HT.sIx xs.length xs.length hi - HT.sIx xs.length 0 lo)
/-- a tuple's slice that is a part of it -/
def fSl : D → Option Int → Option Int → KD → Prop
  | .lst xs, lo, hi, k => k (.lst (cutL xs lo hi))
  | .tup xs, lo, hi, k => k (.tup (cutL xs lo hi))
  | .str s, lo, hi, k => s.length ≤ sizeLine ∧ k (.str (cutL s lo hi))
  | _, _, _, _ => False
theorem cutV_den {K : PySem.W.Frag} {G : Hp} {vs : List V} {ds : List D} (r : DenL K G vs ds) (lo hi : Option Int) : DenL K G (cutV vs lo hi) (cutL ds lo hi) := by
  unfold cutV cutL
  rw [r.length]
  exact (r.drop _).take _
theorem cutS_ss (s : List Nat) (lo hi : Option Int) : cutS (SS s) lo hi = SS (cutL s lo hi) := by
  unfold cutS cutL
  rw [ss_length]
theorem cutL_whole {α : Type} {xs : List α} {lo hi : Option Int} (h : HT.sIx xs.length 0 lo = 0 ∧ HT.sIx xs.length xs.length hi = xs.length) : cutL xs lo hi = xs := by
  unfold cutL
  rw [h.1, h.2]
  simp
def tpSl (t : TP) (tl th : TO') : TP := fun Γ k kx => t Γ (fun d => tl Γ (fun lo => th Γ (fun hi => fSl d lo hi k) kx) kx) kx
theorem p_slice {lo hi : Option Expr} {tlo thi : TO'} {p2 : Pos} (ha : PU X W a ta) (hl : PPart X W lo tlo) (hh : PPart X W hi thi) : PP X W (.Subscript a (.Slice lo hi none p2) pos) (tpSl ta tlo thi) := by
  obtain ⟨ea, pa, ra⟩ := ha.ex
  obtain ⟨el, pl, rl⟩ := hl.ex
  obtain ⟨eh, ph, rh⟩ := hh.ex
  refine ⟨_, pe_slice (SlR.or sl_list (SlR.or sl_str sl_tupA)) pa pl ph, fun G0 H0 Γ σ G H k kx Q F ht hk hx => ?_⟩
  refine ra G0 H0 Γ σ G H _ kx _ F ht (fun d1 v1 G1 H1 k1 x1 n1 => ?_) hx
  refine rl G0 H0 Γ σ G1 H1 _ kx _ (F.up x1) k1 (fun l G2 H2 k2 x2 => ?_) (hx.up x1)
  refine rh G0 H0 Γ σ G2 H2 _ kx _ (F.up (x1.trans x2)) k2 (fun u G3 H3 k3 x3 => ?_) (hx.up (x1.trans x2))
  have x := (x1.trans x2).trans x3
  have n := n1.up (x2.trans x3)
  cases d1 with
  | lst xs =>
    obtain ⟨a, ys, e1, h1, r1⟩ := n.lst x.sub
    refine .inl ⟨a, ys, e1, SqL.of h1, fun p hp => ?_⟩
    exact hk _ _ _ _ k3 (x.trans (Ext.new x.sub hp)) (.lst upd_same ((cutV_den r1 l u).up (same_upd (x.sub.none hp))))
  | tup xs =>
    obtain ⟨a, ys, e1, h1, r1⟩ := n.tup x.sub
    refine .inr (.inr ⟨a, ys, e1, h1, fun hw => ?_, fun hw p hp => ?_⟩)
    · have e2 : cutL xs l u = xs := cutL_whole (by rw [r1.length] at hw; exact hw)
      have k3 : k (.tup (cutL xs l u)) := k3
      rw [e2] at k3
      subst e1
      rcases n with n | ⟨_, _, _, z⟩
      · exact hk _ _ _ _ k3 x n
      · exact z.elim
    · exact hk _ _ _ _ k3 (x.trans (Ext.new x.sub hp)) (.tup (SqT.of upd_same) ((cutV_den r1 l u).up (same_upd (x.sub.none hp))))
  | str s =>
    obtain ⟨hz, k3⟩ := (show s.length ≤ sizeLine ∧ k (.str (cutL s l u)) from k3)
    refine .inr (.inl ⟨_, n.str, by rw [ss_length]; exact hz, ?_⟩)
    rw [cutS_ss]
    exact hk _ _ _ _ k3 x (.str _)
  | _ => exact k3.elim
end
end PL
set_option Elab.async false
set_option linter.all false
set_option maxRecDepth 100000
set_option maxHeartbeats 2000000
namespace PL
open PySem L2
variable [Tabl]
structure PEn where
  nx : Ga → Prop
  bk : Ga → Prop := fun _ => False
  ct : Ga → Prop := fun _ => False
  rt : D → Ga → Prop
  xx : XD → Ga → Prop
abbrev TSp := PEn → Ga → Prop
structure EOk (K : PySem.W.Frag) (W : WX) (G0 H0 : Hp) (P : PEn) (E : Ends) : Prop where
  nx : ∀ Γ σ G H, P.nx Γ → Fr K G0 H0 Γ σ G H → E.nx σ H
  bk : ∀ Γ σ G H, P.bk Γ → Fr K G0 H0 Γ σ G H → E.bk σ H
  ct : ∀ Γ σ G H, P.ct Γ → Fr K G0 H0 Γ σ G H → E.ct σ H
  rt : ∀ d v Γ σ G H, P.rt d Γ → Fr K G0 H0 Γ σ G H → Den K G v d → E.rt v H
  xx : ∀ x cls dA Γ σ G H, P.xx x Γ → Fr K G0 H0 Γ σ G H → XDen K G H cls dA x → W cls dA σ H
def RdS (K : PySem.W.Frag) (W : WX) (ts : TS) (t : TSp) : Prop := ∀ (G0 H0 : Hp) (Γ : Ga) (σ : L2.St) (G H : Hp) (P : PEn) (E : Ends), Fr K G0 H0 Γ σ G H → t P Γ → EOk K W G0 H0 P E → ts E σ H
structure PS1 (X : Cx) (W : WX) (s : Stmt) (t : TSp) : Prop where
  ex : ∃ ts, PS X s ts ∧ RdS X.K W ts t
structure PSS (X : Cx) (W : WX) (s : List Stmt) (t : TSp) : Prop where
  ex : ∃ ts, PSs X s ts ∧ RdS X.K W ts t
theorem EOk.x {K : PySem.W.Frag} {W : WX} {G0 H0 : Hp} {P : PEn} {E : Ends} (e : EOk K W G0 H0 P E) {Γ : Ga} {σ : L2.St} {G H : Hp} (F : Fr K G0 H0 Γ σ G H) : XOk K W G H σ (fun x => P.xx x Γ) :=
  fun x cls dA G' H' a b c => e.xx x cls dA Γ σ G' H' a (F.up b) c
theorem EOk.withNx {K : PySem.W.Frag} {W : WX} {G0 H0 : Hp} {P : PEn} {E : Ends} (e : EOk K W G0 H0 P E) {n : Ga → Prop} {m : L2.St → Hp → Prop} (h : ∀ Γ σ G H, n Γ → Fr K G0 H0 Γ σ G H → m σ H) :
    EOk K W G0 H0 { P with nx := n } { E with nx := m } := ⟨h, e.bk, e.ct, e.rt, e.xx⟩
theorem EOk.loop {K : PySem.W.Frag} {W : WX} {G0 H0 : Hp} {P : PEn} {E : Ends} (e : EOk K W G0 H0 P E) {n : Ga → Prop} {m : L2.St → Hp → Prop} (h : ∀ Γ σ G H, n Γ → Fr K G0 H0 Γ σ G H → m σ H) :
    EOk K W G0 H0 { P with nx := n, ct := n, bk := P.nx } { E with nx := m, ct := m, bk := E.nx } := ⟨h, e.nx, h, e.rt, e.xx⟩
section
variable {K : PySem.W.Frag} {G0 H0 G H : Hp} {Γ : Ga} {σ : L2.St}
theorem Fr.set (F : Fr K G0 H0 Γ σ G H) {v : V} {d : D} (i : Nat) (r : Den K G v d) : Fr K G0 H0 (gset Γ i (.pu d)) (σ.set i (some v)) G H := by
  rw [gset_eq]
  refine ⟨by rw [List.length_set, List.length_set]; exact F.len, F.e, fun j s h => ?_, fun a b p s t h1 h2 h3 h4 h5 h6 => ?_⟩
  · by_cases hj : i = j
    · subst hj
      have hl : i < Γ.length := by
        have := (List.getElem?_eq_some_iff.mp h).1
        rw [List.length_set] at this
        exact this
      rw [List.getElem?_set_self hl] at h
      cases h
      exact ⟨v, by rw [List.getElem?_set_self (by rw [F.len]; exact hl)], r⟩
    · rw [List.getElem?_set_ne hj] at h ⊢
      exact F.at_ j s h
  · have ha : a ≠ i := fun z => by
      subst z
      have hl : a < Γ.length := by
        have := (List.getElem?_eq_some_iff.mp h1).1
        rw [List.length_set] at this
        exact this
      rw [List.getElem?_set_self hl] at h1
      cases h1
      exact h2
    have hb : b ≠ i := fun z => by
      subst z
      have hl : b < Γ.length := by
        have := (List.getElem?_eq_some_iff.mp h3).1
        rw [List.length_set] at this
        exact this
      rw [List.getElem?_set_self hl] at h3
      cases h3
      exact h4
    rw [List.getElem?_set_ne (Ne.symm ha)] at h1 h5
    rw [List.getElem?_set_ne (Ne.symm hb)] at h3 h6
    exact F.dj a b p s t h1 h2 h3 h4 h5 h6
theorem OwnAt.upd {K : PySem.W.Frag} {H0 G H : Hp} {p q : Addr} {d : D} {o u : HO} (h : OwnAt K H0 G H q d) (n : q ≠ p) (hp : H p = some u) (hu : MutO u) : OwnAt K H0 G (upd H p o) q d := by
  cases d with
  | lst ds => obtain ⟨xs, h1, h2⟩ := h; exact ⟨xs, by rw [upd_ne n]; exact h1, h2⟩
  | dct ks => obtain ⟨xs, h1, h2⟩ := h; exact ⟨xs, by rw [upd_ne n]; exact h1, h2⟩
  | ins C fs =>
    obtain ⟨dx, fvs, h1, h2, h3⟩ := h
    have nd : dx ≠ p := fun z => by
      subst z
      rw [hp] at h2
      cases h2
      exact hu
    exact ⟨dx, fvs, by rw [upd_ne n]; exact h1, by rw [upd_ne nd]; exact h2, h3⟩
  | _ => exact h.elim
theorem tab_upd {p P : Addr} {q : PySem.Str} {o u : HO} (t : LamX.TabS H P q) (hp : H p = some u) (hu : MutO u) : LamX.TabS (L2.upd H p o) P q := by
  obtain ⟨ps, h1, h2, h3⟩ := t
  have ne : ∀ {a : Addr} {v : HO}, H a = some v → ¬ MutO v → a ≠ p := fun {a v} e n z => by
    rw [z, hp] at e
    cases e
    exact n hu
  refine ⟨ps, by rw [upd_ne (ne h1 fun z => z)]; exact h1, h2, fun pos cv hc => ?_⟩
  obtain ⟨c, e1, e2⟩ := h3 pos cv hc
  exact ⟨c, e1, by rw [upd_ne (ne e2 fun z => z)]; exact e2⟩
theorem SlOk.upd {p : Addr} {o u : HO} {ov : Option (Option V)} {s : Sl} (h : SlOk K H0 G H ov s) (n : s.owns → ov ≠ some (some (.ref p))) (hp : H p = some u) (hu : MutO u) : SlOk K H0 G (L2.upd H p o) ov s := by
  cases s with
  | un => trivial
  | pu d => exact h
  | ow d =>
    obtain ⟨q, e, g, h0, r⟩ := h
    have nq : q ≠ p := fun z => n trivial (by rw [e, z])
    exact ⟨q, e, g, h0, r.upd nq hp hu⟩
  | lk q v d =>
    obtain ⟨e, g, h0, hq, r⟩ := h
    have nq : q ≠ p := fun z => n trivial (by rw [e, z])
    exact ⟨e, g, h0, by rw [upd_ne nq]; exact hq, r.upd nq hp hu⟩
  | pw q d =>
    obtain ⟨e, g, h0, r⟩ := h
    have nq : q ≠ p := fun z => n trivial (by rw [e, z])
    exact ⟨e, g, h0, r.upd nq hp hu⟩
  | kp v c w Gx =>
    obtain ⟨e, h1, h2, h3⟩ := h
    have nc : c ≠ p := fun z => by
      rw [z, hp] at h1
      cases h1
      exact h2 hu
    exact ⟨e, by rw [upd_ne nc]; exact h1, h2, h3⟩
  | xv a cls dA fs =>
    obtain ⟨e, h1⟩ := h
    refine ⟨e, ?_⟩
    rcases h1 with h1 | ⟨q, fvs, h1, h2, h3⟩
    · exact .inl h1
    · refine .inr ⟨q, fvs, h1, ?_, h3⟩
      rw [upd_ne (fun z => by
        rw [z, hp] at h2
        cases h2
        exact hu)]
      exact h2
  | pf d l Gx =>
    obtain ⟨h0, h1, h2⟩ := h
    refine ⟨h0, fun q hq => ⟨?_, (h1 q hq).2⟩, h2⟩
    rw [upd_ne (fun z => by
      have e := (h1 q hq).1
      rw [z, hp] at e
      exact (h1 q hq).2.1 (Option.some.inj e ▸ hu))]
    exact (h1 q hq).1
theorem gset_gat {Γ : Ga} {i : Nat} {s t : Sl} (h : Γ[i]? = some s) : (gset Γ i t)[i]? = some t := by
  rw [gset_eq]
  exact List.getElem?_set_self (List.getElem?_eq_some_iff.mp h).1
/-- an own object is changed -/
theorem Fr.mut (F : Fr K G0 H0 Γ σ G H) {i : Nat} {sl : Sl} {d d' : D} {p : Addr} {o u : HO} (hs : Γ[i]? = some sl) (ht : sl.og = some d) (e : σ[i]? = some (some (.ref p))) (g : G p = none) (h0 : H0 p = none) (hp : H p = some u) (hu : MutO u)
    (new : OwnAt K H0 G (upd H p o) p d') : Fr K G0 H0 (gset Γ i (sl.op d')) σ G (upd H p o) := by
  have tow : sl.owns := by
    cases sl <;> first | trivial | cases ht
  have len := F.len
  refine ⟨by rw [gset_eq, List.length_set]; exact len, ⟨⟨fun a x q n => ?_, fun a x q => ?_, fun t q hq => tab_upd (F.sub.tb q hq) hp hu⟩, F.e.g, fun a h ⟨x, q⟩ => F.e.nw a h ⟨x, q⟩, ⟨fun a x q => ?_, F.sub.nt, fun q hq => tab_upd (F.sub.tb q hq) hp hu⟩⟩, fun j s h => ?_, fun a b q s t h1 h2 h3 h4 h5 h6 => ?_⟩
  · rw [upd_ne (ne_of_none q h0)]
    exact F.e.h.k _ _ q n
  · rw [upd_ne (ne_of_none q h0)]
    exact F.e.h.t _ _ q
  · rw [upd_ne (ne_of_none q g)]
    exact F.sub.m a x q
  · by_cases hj : i = j
    · subst hj
      rw [gset_gat hs] at h
      cases h
      cases sl with
      | pw q d2 =>
        have q2 := F.at_ i _ hs
        obtain ⟨e2, _⟩ := q2
        rw [e] at e2
        cases e2
        exact ⟨e, g, h0, new⟩
      | _ => exact ⟨p, e, g, h0, new⟩
    · rw [gset_eq, List.getElem?_set_ne hj] at h
      refine (F.at_ j s h).upd (fun ow z => hj ?_) hp hu
      exact F.dj i j p sl s hs tow h ow e z
  · have f : ∀ (a : Nat) (s : Sl), (gset Γ i (sl.op d'))[a]? = some s → s.owns → ∃ s', Γ[a]? = some s' ∧ s'.owns := fun a s h1 h2 => by
      by_cases ha : i = a
      · subst ha
        exact ⟨_, hs, tow⟩
      · rw [gset_eq, List.getElem?_set_ne ha] at h1
        exact ⟨s, h1, h2⟩
    obtain ⟨s', g1, g2⟩ := f a s h1 h2
    obtain ⟨t', g3, g4⟩ := f b t h3 h4
    exact F.dj a b q s' t' g1 g2 g3 g4 h5 h6
/-- a new own object -/
theorem Fr.own (F : Fr K G0 H0 Γ σ G H) {d : D} {p : Addr} {o : HO} (i : Nat) (hn : H p = none) (new : OwnAt K H0 G (upd H p o) p d) : Fr K G0 H0 (gset Γ i (.ow d)) (σ.set i (some (.ref p))) G (upd H p o) := by
  have hg := F.sub.none hn
  have h0 : H0 p = none := F.e.h.free hn
  have so : ∀ (j : Nat) (s : Sl), Γ[j]? = some s → SlOk K H0 G (L2.upd H p o) (σ[j]?) s := fun j s h => by
    have q := F.at_ j s h
    cases s with
    | un => trivial
    | pu d => exact q
    | ow e =>
      obtain ⟨a, e1, g1, h1, r⟩ := q
      refine ⟨a, e1, g1, h1, ?_⟩
      exact r.up (Ext.beside F.sub hn)
    | lk a v e =>
      obtain ⟨e1, g1, h1, q1, r⟩ := q
      refine ⟨e1, g1, h1, by rw [upd_ne (ne_of_none q1 hn)]; exact q1, ?_⟩
      exact r.up (Ext.beside F.sub hn)
    | pw a e =>
      obtain ⟨e1, g1, h1, r⟩ := q
      refine ⟨e1, g1, h1, ?_⟩
      exact r.up (Ext.beside F.sub hn)
    | kp v c w Gx => exact SlOk.up (G := G) (s := .kp v c w Gx) q (Ext.beside F.sub hn)
    | xv a cls dA fs => exact SlOk.up (G := G) (s := .xv a cls dA fs) q (Ext.beside F.sub hn)
    | pf d l Gx => exact SlOk.up (G := G) (s := .pf d l Gx) q (Ext.beside F.sub hn)
  have apart : ∀ (j : Nat) (s : Sl), Γ[j]? = some s → s.owns → σ[j]? ≠ some (some (.ref p)) := fun j s h ow z => by
    have q := F.at_ j s h
    cases s with
    | un => exact ow
    | pu d => exact ow
    | kp v c w Gx => exact ow
    | xv a cls dA fs => exact ow
    | pf d l Gx => exact ow
    | ow e =>
      obtain ⟨a, e1, g1, h1, r⟩ := q
      rw [e1] at z
      cases z
      obtain ⟨_, y⟩ := r.there
      rw [hn] at y
      cases y
    | lk a v e =>
      obtain ⟨e1, g1, h1, q1, r⟩ := q
      rw [e1] at z
      cases z
      rw [hn] at q1
      cases q1
    | pw a e =>
      obtain ⟨e1, g1, h1, r⟩ := q
      rw [e1] at z
      cases z
      obtain ⟨_, y⟩ := r.there
      rw [hn] at y
      cases y
  refine ⟨by rw [gset_eq, List.length_set, List.length_set]; exact F.len, ⟨F.e.h.trans (.of (same_upd hn)), F.e.g, F.e.nw, F.sub.up (same_upd hn)⟩, fun j s h => ?_, fun a b q s t h1 h2 h3 h4 h5 h6 => ?_⟩
  · rw [gset_eq] at h
    by_cases hj : i = j
    · subst hj
      have hl : i < Γ.length := by
        have := (List.getElem?_eq_some_iff.mp h).1
        rw [List.length_set] at this
        exact this
      rw [List.getElem?_set_self hl] at h
      cases h
      exact ⟨p, by rw [List.getElem?_set_self (by rw [F.len]; exact hl)], hg, h0, new⟩
    · rw [List.getElem?_set_ne hj] at h ⊢
      exact so j s h
  · rw [gset_eq] at h1 h3
    by_cases ha : i = a
    · by_cases hb : i = b
      · exact ha.symm.trans hb
      · exfalso
        subst ha
        rw [List.getElem?_set_ne hb] at h3 h6
        have hl : i < σ.length := by
          have := (List.getElem?_eq_some_iff.mp h5).1
          rw [List.length_set] at this
          exact this
        rw [List.getElem?_set_self hl] at h5
        cases h5
        exact apart b t h3 h4 h6
    · by_cases hb : i = b
      · exfalso
        subst hb
        rw [List.getElem?_set_ne ha] at h1 h5
        have hl : i < σ.length := by
          have := (List.getElem?_eq_some_iff.mp h6).1
          rw [List.length_set] at this
          exact this
        rw [List.getElem?_set_self hl] at h6
        cases h6
        exact apart a s h1 h2 h5
      · rw [List.getElem?_set_ne ha] at h1 h5
        rw [List.getElem?_set_ne hb] at h3 h6
        exact F.dj a b q s t h1 h2 h3 h4 h5 h6
end
section
variable {X : Cx} {W : WX} {e a b c : Expr} {es : List Expr} {t ta tb tc : TP} {tl : TL} {tt tu : TB} {pos : Pos} {st : Stmt} {rest body els : List Stmt} {s u v : TSp}
def tsNext : TSp := fun P Γ => P.nx Γ
def tsSeq (s u : TSp) : TSp := fun P Γ => s { P with nx := u P } Γ
theorem ss_nil : PSS X W [] tsNext := ⟨_, pss_nil, fun G0 H0 Γ σ G H P E F ht ok => ok.nx Γ σ G H ht F⟩
theorem ss_cons (h1 : PS1 X W st s) (h2 : PSS X W rest u) : PSS X W (st :: rest) (tsSeq s u) := by
  obtain ⟨t1, p1, r1⟩ := h1.ex
  obtain ⟨t2, p2, r2⟩ := h2.ex
  refine ⟨_, pss_cons p1 p2, fun G0 H0 Γ σ G H P E F ht ok => ?_⟩
  exact r1 G0 H0 Γ σ G H { P with nx := u P } { E with nx := t2 E } F ht (ok.withNx fun Γ' σ' G' H' n F' => r2 G0 H0 Γ' σ' G' H' P E F' n ok)
theorem ss_one (h1 : PS1 X W st s) : PSS X W [st] s := by
  obtain ⟨t1, p1, r1⟩ := h1.ex
  exact ⟨_, pss_one p1, r1⟩
def tsNever : TSp := fun _ _ => False
theorem s_never : PS1 X W st tsNever := ⟨_, ps_never, fun G0 H0 Γ σ G H P E F ht ok => ht.elim⟩
def tsDrop (t : TP) : TSp := fun P Γ => t Γ (fun _ => P.nx Γ) (fun x => P.xx x Γ)
theorem s_expr (h : PU X W e t) (hs : swapsWith e none pos.line X.env = pure false := by rfl) : PS1 X W (.Expr e pos) (tsDrop t) := by
  obtain ⟨ea, pa, ra⟩ := h.ex
  refine ⟨_, ps_expr pa hs, fun G0 H0 Γ σ G H P E F ht ok => ?_⟩
  exact ra G0 H0 Γ σ G H _ _ _ F ht (fun d v G' H' k x n => ok.nx Γ σ G' H' k (F.up x)) (ok.x F)
def tsRet (t : TP) : TSp := fun P Γ => t Γ (fun d => P.rt d Γ) (fun x => P.xx x Γ)
theorem s_ret (h : PP X W e t) : PS1 X W (.Return (some e) pos) (tsRet t) := by
  obtain ⟨ea, pa, ra⟩ := h.ex
  refine ⟨_, ps_ret pa, fun G0 H0 Γ σ G H P E F ht ok => ?_⟩
  exact ra G0 H0 Γ σ G H _ _ _ F ht (fun d v G' H' k x n => ok.rt d v Γ σ G' H' k (F.up x) n) (ok.x F)
theorem Ext.thaw {G H : Hp} (s : Sub G H) {G0 H0 : Hp} {p : Addr} {o : HO} (e : Ext G0 H0 G H) (h0 : H0 p = none) (g : G p = none) (hp : H p = some o) (n : NT o := by intro _ z; cases z) : Ext G0 H0 (upd G p o) H := by
  refine ⟨e.h, e.g.trans (same_upd g), fun a q ⟨u, z⟩ => ?_, ⟨fun a u q => ?_, fun a u q => ?_, s.tb⟩⟩
  · rw [upd_ne (ne_of_none z h0)]
    exact e.nw a q ⟨u, z⟩
  · by_cases z : a = p
    · subst z
      rw [upd_same] at q
      cases q
      exact .inl hp
    · rw [upd_ne z] at q
      exact s.m a u q
  · by_cases z : a = p
    · subst z
      rw [upd_same] at q
      cases q
      exact n
    · rw [upd_ne z] at q
      exact s.nt a u q
/-- an own object is pure from now on -/
theorem Fr.thaw {K : PySem.W.Frag} {G0 H0 G H : Hp} {Γ : Ga} {σ : L2.St} (F : Fr K G0 H0 Γ σ G H) {i : Nat} {d : D} {p : Addr} {o : HO} (hs : Γ[i]? = some (.ow d)) (e : σ[i]? = some (some (.ref p))) (g : G p = none) (h0 : H0 p = none) (hp : H p = some o) (ho : MutO o) : Fr K G0 H0 (gset Γ i .un) σ (upd G p o) H := by
  have other : ∀ (j : Nat) (s : Sl), (gset Γ i .un)[j]? = some s → s ≠ .un → i ≠ j ∧ Γ[j]? = some s := fun j s h n => by
    rw [gset_eq] at h
    by_cases hj : i = j
    · subst hj
      rw [List.getElem?_set_self (List.getElem?_eq_some_iff.mp hs).1] at h
      exact absurd (Option.some.inj h).symm n
    · rw [List.getElem?_set_ne hj] at h
      exact ⟨hj, h⟩
  refine ⟨by rw [gset_eq, List.length_set]; exact F.len, Ext.thaw F.sub F.e h0 g hp ho.nt, fun j s h => ?_, fun a b q s t h1 h2 h3 h4 h5 h6 => ?_⟩
  · by_cases n : s = .un
    · subst n
      trivial
    · obtain ⟨hj, h⟩ := other j s h n
      have q := F.at_ j s h
      have ne : s.owns → ∀ r, σ[j]? = some (some (.ref r)) → r ≠ p := fun ow r e2 z => by
        subst z
        exact hj (F.dj i j r (.ow d) s hs trivial h ow e e2)
      cases s with
      | un => trivial
      | pu d => obtain ⟨v, e1, r⟩ := q; exact ⟨v, e1, r.up (same_upd g)⟩
      | kp v c w Gx => obtain ⟨q1, q2, q3, q4, q5⟩ := q; exact ⟨q1, q2, q3, q4, q5.trans (same_upd g)⟩
      | xv a cls dA fs =>
        obtain ⟨e1, q⟩ := q
        refine ⟨e1, ?_⟩
        rcases q with q | ⟨r, fvs, q1, q2, q3⟩
        · exact .inl q
        · exact .inr ⟨r, fvs, q1, q2, q3.up (same_upd g)⟩
      | pf d l Gx =>
        obtain ⟨⟨v, e1, r⟩, q1, q2⟩ := q
        exact ⟨⟨v, e1, r.up (same_upd g)⟩, q1, q2.trans (same_upd g)⟩
      | ow d2 =>
        obtain ⟨r, e1, g1, h1, o1⟩ := q
        have nr := ne trivial r e1
        refine ⟨r, e1, by rw [upd_ne nr]; exact g1, h1, ?_⟩
        cases d2 with
        | lst ds => obtain ⟨xs, a1, a2⟩ := o1; exact ⟨xs, a1, a2.up (same_upd g)⟩
        | dct ks => obtain ⟨xs, a1, a2⟩ := o1; exact ⟨xs, a1, a2.up (same_upd g)⟩
        | ins C fs =>
          obtain ⟨dx, fvs, a1, a2, a3, a4, a5⟩ := o1
          have nd : dx ≠ p := fun z => by
            subst z
            rw [hp] at a2
            cases a2
            exact ho
          exact ⟨dx, fvs, a1, a2, by rw [upd_ne nd]; exact a3, a4, a5.up (same_upd g)⟩
        | _ => exact o1.elim
      | lk r u d2 =>
        obtain ⟨e1, g1, h1, hq, o1⟩ := q
        have nr := ne trivial r e1
        refine ⟨e1, by rw [upd_ne nr]; exact g1, h1, hq, ?_⟩
        cases d2 with
        | lst ds => obtain ⟨xs, a1, a2⟩ := o1; exact ⟨xs, a1, a2.up (same_upd g)⟩
        | dct ks => obtain ⟨xs, a1, a2⟩ := o1; exact ⟨xs, a1, a2.up (same_upd g)⟩
        | ins C fs =>
          obtain ⟨dx, fvs, a1, a2, a3, a4, a5⟩ := o1
          have nd : dx ≠ p := fun z => by
            subst z
            rw [hp] at a2
            cases a2
            exact ho
          exact ⟨dx, fvs, a1, a2, by rw [upd_ne nd]; exact a3, a4, a5.up (same_upd g)⟩
        | _ => exact o1.elim
      | pw r d2 =>
        obtain ⟨e1, g1, h1, o1⟩ := q
        have nr := ne trivial r e1
        refine ⟨e1, by rw [upd_ne nr]; exact g1, h1, ?_⟩
        cases d2 with
        | lst ds => obtain ⟨xs, a1, a2⟩ := o1; exact ⟨xs, a1, a2.up (same_upd g)⟩
        | dct ks => obtain ⟨xs, a1, a2⟩ := o1; exact ⟨xs, a1, a2.up (same_upd g)⟩
        | ins C fs =>
          obtain ⟨dx, fvs, a1, a2, a3, a4, a5⟩ := o1
          have nd : dx ≠ p := fun z => by
            subst z
            rw [hp] at a2
            cases a2
            exact ho
          exact ⟨dx, fvs, a1, a2, by rw [upd_ne nd]; exact a3, a4, a5.up (same_upd g)⟩
        | _ => exact o1.elim
  · obtain ⟨_, k1⟩ := other a s h1 (fun z => by subst z; exact h2)
    obtain ⟨_, k3⟩ := other b t h3 (fun z => by subst z; exact h4)
    exact F.dj a b q s t k1 h2 k3 h4 h5 h6
def tsIf (c : TB) (s u : TSp) : TSp := fun P Γ => c Γ (fun b => if b = true then s P Γ else u P Γ) (fun x => P.xx x Γ)
theorem s_if (hc : PB X W c tt) (ha : PSS X W body s) (hb : PSS X W els u) : PS1 X W (.If c body els pos) (tsIf tt s u) := by
  obtain ⟨ec, pc, rc⟩ := hc.ex
  obtain ⟨ea, pa, ra⟩ := ha.ex
  obtain ⟨eb, pb, rb⟩ := hb.ex
  refine ⟨_, ps_if pc pa pb, fun G0 H0 Γ σ G H P E F ht ok => ?_⟩
  refine rc G0 H0 Γ σ G H _ _ _ F ht (fun c G1 H1 k1 x1 => ?_) (ok.x F)
  cases c with
  | true => exact ra G0 H0 Γ σ G1 H1 P E (F.up x1) k1 ok
  | false => exact rb G0 H0 Γ σ G1 H1 P E (F.up x1) k1 ok
def tsSet (i : Nat) (t : TP) : TSp := fun P Γ => t Γ (fun d => P.nx (gset Γ i (.pu d))) (fun x => P.xx x Γ)
theorem rd_set {te : TE} (i : Nat) (h : RdP X.K W te t) : RdS X.K W (tAsg te (gName i)) (tsSet i t) := by
  intro G0 H0 Γ σ G H P E F ht ok
  exact h G0 H0 Γ σ G H _ _ _ F ht (fun d v G' H' k x n => ok.nx _ _ G' H' k ((F.up x).set i n)) (ok.x F)
theorem s_set (i : Nat) {x : PySem.Str} {p2 : Pos} (h : PP X W e t) (nd : X.N.Nodup) (hi : X.N[i]? = some x := by rfl) (hx : Loc X.env.scope x := by first | exact Or.inl rfl | exact Or.inr rfl)
    (hf : X.fn x = true ∨ X.env.scope.names.lookup x = some .local := by first | exact .inl rfl | exact .inr rfl) (hs : swapsWith e (some (.Name x p2)) pos.line X.env = pure false := by rfl) : PS1 X W (.Assign [.Name x p2] e pos) (tsSet i t) := by
  obtain ⟨ea, pa, ra⟩ := h.ex
  exact ⟨_, ps_set nd hi hx pa hs hf, rd_set i ra⟩
/-- a new list (dict) that is the frame's own from now on -/
def RdNew (K : PySem.W.Frag) (W : WX) (te : TE) (t : TP) : Prop := ∀ (G0 H0 : Hp) (Γ : Ga) (σ : L2.St) (G H : Hp) (k : KD) (kx : KX) (Q : VK), Fr K G0 H0 Γ σ G H → t Γ k kx →
  (∀ d G' H' p o, k d → Ext G H G' H' → H' p = none → OwnAt K H0 G' (upd H' p o) p d → Q (.ref p) (upd H' p o)) → XOk K W G H σ kx → te σ H Q
structure PN (X : Cx) (W : WX) (e : Expr) (t : TP) : Prop where
  ex : ∃ te, PE X e te ∧ RdNew X.K W te t
def tsOwn (i : Nat) (t : TP) : TSp := fun P Γ => t Γ (fun d => P.nx (gset Γ i (.ow d))) (fun x => P.xx x Γ)
theorem rd_own {te : TE} (i : Nat) (h : RdNew X.K W te t) : RdS X.K W (tAsg te (gName i)) (tsOwn i t) := by
  intro G0 H0 Γ σ G H P E F ht ok
  exact h G0 H0 Γ σ G H _ _ _ F ht (fun d G' H' p o k x hn r => ok.nx _ _ G' _ k ((F.up x).own i hn r)) (ok.x F)
theorem s_own (i : Nat) {x : PySem.Str} {p2 : Pos} (h : PN X W e t) (nd : X.N.Nodup) (hi : X.N[i]? = some x := by rfl) (hx : Loc X.env.scope x := by first | exact Or.inl rfl | exact Or.inr rfl)
    (hf : X.fn x = true ∨ X.env.scope.names.lookup x = some .local := by first | exact .inl rfl | exact .inr rfl) (hs : swapsWith e (some (.Name x p2)) pos.line X.env = pure false := by rfl) : PS1 X W (.Assign [.Name x p2] e pos) (tsOwn i t) := by
  obtain ⟨ea, pa, ra⟩ := h.ex
  exact ⟨_, ps_set nd hi hx pa hs hf, rd_own i ra⟩
theorem n_lst (h : PL' X W es tl) : PN X W (.List es pos) (tpLst tl) := by
  obtain ⟨ea, pa, ra⟩ := h.ex
  refine ⟨_, pe_lst pa, fun G0 H0 Γ σ G H k kx Q F ht hk hx => ?_⟩
  refine ra G0 H0 Γ σ G H _ kx _ F ht (fun ds vs G1 H1 k1 x1 n1 => ?_) hx
  refine ⟨by rw [n1.length]; exact sz5 k1.1, fun p hp => ?_⟩
  exact hk _ G1 H1 p _ k1.2 x1 hp ⟨vs, upd_same, n1⟩
/-- an own list, what is done with it -/
def onOL (Γ : Ga) (i : Nat) (k : List D → Prop) : Prop := match (gat Γ i).og with
  | some (.lst ds) => k ds
  | _ => False
def oput (Γ : Ga) (i : Nat) (d : D) : Ga := gset Γ i ((gat Γ i).op d)
def tsApp (i : Nat) (t : TP) : TSp := fun P Γ => onOL Γ i fun ds => t Γ (fun d => ds.length < 100000 ∧ P.nx (oput Γ i (.lst (ds ++ [d])))) (fun x => P.xx x Γ)
theorem sz5' {n : Nat} (h : n < 100000) : n < sizeLine := Nat.lt_of_lt_of_le h (by decide)
theorem onOL_elim {Γ : Ga} {i : Nat} {k : List D → Prop} (h : onOL Γ i k) : ∃ ds, (gat Γ i).og = some (.lst ds) ∧ k ds := by
  unfold onOL at h
  cases e : (gat Γ i).og with
  | none => simp only [e] at h
  | some d =>
    cases d with
    | lst ds =>
      simp only [e] at h
      exact ⟨ds, rfl, h⟩
    | _ => simp only [e] at h
theorem own_at {K : PySem.W.Frag} {G0 H0 G H : Hp} {Γ : Ga} {σ : L2.St} (F : Fr K G0 H0 Γ σ G H) {i : Nat} {d : D} (h : (gat Γ i).og = some d) : Γ[i]? = some (gat Γ i) ∧ ∃ p, σ[i]? = some (some (.ref p)) ∧ G p = none ∧ H0 p = none ∧ OwnAt K H0 G H p d := by
  cases e : gat Γ i with
  | ow d2 =>
    rw [e] at h
    cases h
    have k := gat_get Γ i _ e (by simp)
    exact ⟨k, F.at_ i _ k⟩
  | pw p d2 =>
    rw [e] at h
    cases h
    have k := gat_get Γ i _ e (by simp)
    exact ⟨k, p, F.at_ i _ k⟩
  | _ =>
    rw [e] at h
    cases h
theorem rd_append {te : TE} (i : Nat) (ra : RdP X.K W te t) : RdS X.K W (tDrop (tBM X.K "list" rAppend (tVar i) (tCons te tNil))) (tsApp i t) := by
  intro G0 H0 Γ σ G H P E F ht ok
  obtain ⟨ds, hs, ht⟩ := onOL_elim ht
  obtain ⟨key, p, e1, g1, h01, xs0, q1, q2⟩ := own_at F hs
  refine ⟨.ref p, e1, .inl ⟨rfl, xs0, SqL.of q1⟩, ?_⟩
  refine ra G0 H0 Γ σ G H _ _ _ F ht (fun d v G' H' k x n => ?_) (ok.x F)
  have F1 := F.up x
  obtain ⟨_, p', e2, g2, h02, xs, q3, q4⟩ := own_at F1 hs
  rw [e1] at e2
  cases e2
  refine ⟨p, xs, v, rfl, rfl, q3, by rw [q4.length]; exact sz5' k.1, ?_⟩
  exact ok.nx _ _ _ _ k.2 (F1.mut key hs e1 g2 h02 q3 trivial ⟨_, upd_same, q4.append (.cons n .nil)⟩)
theorem s_append (i : Nat) {call : Expr} (h : PP X W e t) (hp : ∀ ea, PE X e ea → PE X call (tBM X.K "list" rAppend (tVar i) (tCons ea tNil))) (hs : swapsWith call none pos.line X.env = pure false := by rfl) : PS1 X W (.Expr call pos) (tsApp i t) := by
  obtain ⟨ea, pa, ra⟩ := h.ex
  exact ⟨_, ps_expr (hp _ pa) hs, rd_append i ra⟩
theorem Ext.back {G0 H0 G H G' H' : Hp} (a : Ext G0 H0 G H) (b : Ext G H0 G' H') : Ext G0 H0 G' H' :=
  ⟨b.h, a.g.trans b.g, fun x h q => b.nw x (a.nw x h q) q, b.sub⟩
theorem Fr.rebase {K : PySem.W.Frag} {G0 H0 G H : Hp} {Γ : Ga} {σ : L2.St} (F : Fr K G0 H0 Γ σ G H) : Fr K G H0 Γ σ G H :=
  ⟨F.len, ⟨F.e.h, Same.refl G, fun _ h _ => h, F.sub⟩, F.at_, F.dj⟩
theorem Fr.back {K : PySem.W.Frag} {G0 H0 G H G' H' : Hp} {Γ : Ga} {σ : L2.St} (a : Ext G0 H0 G H) (F : Fr K G H0 Γ σ G' H') : Fr K G0 H0 Γ σ G' H' :=
  ⟨F.len, a.back F.e, F.at_, F.dj⟩
theorem EOk.rebase {K : PySem.W.Frag} {W : WX} {G0 H0 G H : Hp} {P : PEn} {E : Ends} (ok : EOk K W G0 H0 P E) (a : Ext G0 H0 G H) : EOk K W G H0 P E :=
  ⟨fun Γ σ G' H' p F => ok.nx Γ σ G' H' p (F.back a), fun Γ σ G' H' p F => ok.bk Γ σ G' H' p (F.back a), fun Γ σ G' H' p F => ok.ct Γ σ G' H' p (F.back a), fun d v Γ σ G' H' p F n => ok.rt d v Γ σ G' H' p (F.back a) n,
    fun x cls dA Γ σ G' H' p F n => ok.xx x cls dA Γ σ G' H' p (F.back a) n⟩
/-- J yields the items ds as long as ok holds -/
structure Wk (K : PySem.W.Frag) (J : It) (ds : List D) (ok : Hp → Hp → Prop) : Prop where
  go : ∀ i G H, i < ds.length → ok G H → Sub G H → J.go i H
  yl : ∀ i G H x H', i < ds.length → ok G H → Sub G H → J.yld i H x H' → ∃ d G', ds[i]? = some d ∧ Ext G H G' H' ∧ Den K G' x d
  st : ∀ G H, ok G H → Sub G H → J.stop ds.length H
def RdI (K : PySem.W.Frag) (W : WX) (wi : TI) (t : TL) : Prop := ∀ (G0 H0 : Hp) (Γ : Ga) (σ : L2.St) (G H : Hp) (k : List D → Prop) (kx : KX) (R : It → Hp → Prop), Fr K G0 H0 Γ σ G H → t Γ k kx →
  (∀ ds J G' H', k ds → Ext G H G' H' → Wk K J ds (fun G2 _ => Same G' G2) → R J H') → XOk K W G H σ kx → wi σ H R
structure PIt (X : Cx) (W : WX) (tg iter : Expr) (t : TL) : Prop where
  ex : ∃ wi, PI X tg iter wi ∧ RdI X.K W wi t
abbrev TGp := D → Ga → (Ga → Prop) → Prop
def RdG (K : PySem.W.Frag) (is : List Nat) (g : TG) (t : TGp) : Prop := ∀ (G0 H0 : Hp) (Γ : Ga) (σ : L2.St) (G H : Hp) (d : D) (v : V) (k : Ga → Prop) (Q : L2.St → Hp → Prop), Fr K G0 H0 Γ σ G H → Den K G v d → t d Γ k →
  (∀ Γ' σ', k Γ' → Fr K G0 H0 Γ' σ' G H → wipe σ' is = wipe σ is → Q σ' H) → g v σ H Q
/-- is: the slots that the target stores -/
structure PGt (X : Cx) (tg : Expr) (is : List Nat) (t : TGp) : Prop where
  ex : ∃ g, PG X tg g ∧ RdG X.K is g t
theorem wipe_comm (σ : L2.St) (i : Nat) (v : Option V) : ∀ vs : List Nat, i ∈ vs → wipe (σ.set i v) vs = wipe σ vs
  | j :: r, h => by
    show (wipe (σ.set i v) r).set j none = (wipe σ r).set j none
    by_cases hr : i ∈ r
    · rw [wipe_comm σ i v r hr]
    · have e : i = j := by
        rcases List.mem_cons.mp h with h | h
        · exact h
        · exact absurd h hr
      subst e
      have q : ∀ r : List Nat, i ∉ r → wipe (σ.set i v) r = (wipe σ r).set i v := fun r => by
        induction r with
        | nil => intro _; rfl
        | cons k r ih =>
          intro h
          show (wipe (σ.set i v) r).set k none = ((wipe σ r).set k none).set i v
          rw [ih (fun z => h (List.mem_cons_of_mem _ z)), List.set_comm _ _ (fun z => h (by rw [z]; exact List.mem_cons_self))]
      rw [q r hr, List.set_set]
def tgName (i : Nat) : TGp := fun d Γ k => k (gset Γ i (.pu d))
theorem g_name (i : Nat) {x : PySem.Str} (nd : X.N.Nodup) (hi : X.N[i]? = some x := by rfl) (hx : Loc X.env.scope x := by first | exact Or.inl rfl | exact Or.inr rfl)
    (hf : X.fn x = true ∨ X.env.scope.names.lookup x = some .local := by first | exact .inl rfl | exact .inr rfl) : PGt X (.Name x pos) [i] (tgName i) :=
  ⟨_, pg_name nd hi hx hf, fun G0 H0 Γ σ G H d v k Q F n ht hk => hk _ _ ht (F.set i n) (wipe_comm σ i _ [i] List.mem_cons_self)⟩
def forW (g : TGp) (b : TSp) (P : PEn) : List D → Ga → Prop
  | [], Γ => P.nx Γ
  | d :: r, Γ => g d Γ fun Γ1 => b { P with nx := forW g b P r, ct := forW g b P r, bk := P.nx } Γ1
def tsFor (ti : TL) (g : TGp) (b : TSp) : TSp := fun P Γ => ti Γ (fun ds => forW g b P ds Γ) (fun x => P.xx x Γ)
theorem rd_for {wi : TI} {g : TG} {tb : TS} {ti : TL} {gp : TGp} {bp : TSp} {is : List Nat} (hi : RdI X.K W wi ti) (hg : RdG X.K is g gp) (hb : RdS X.K W tb bp) : RdS X.K W (tFor wi g tb) (tsFor ti gp bp) := by
  intro G0 H0 Γ σ G H P E F ht ok
  refine hi G0 H0 Γ σ G H _ _ _ F ht (fun ds J G1 H1 k x w => ?_) (ok.x F)
  refine ⟨fun i m σ' H' => ∃ Γ' G', m = ds.length - i ∧ i ≤ ds.length ∧ Fr X.K G0 H0 Γ' σ' G' H' ∧ Same G1 G' ∧ forW gp bp P (ds.drop i) Γ', ⟨ds.length, Γ, G1, by simp, Nat.zero_le _, F.up x, Same.refl _, k⟩, ?_⟩
  rintro i m σ2 H2 ⟨Γ2, G2, rfl, hi, F2, s2, k2⟩
  by_cases hlt : i < ds.length
  · refine .inr ⟨w.go i G2 H2 hlt s2 F2.sub, fun σ' H' => ∃ Γ' G', Fr X.K G0 H0 Γ' σ' G' H' ∧ Same G1 G' ∧ forW gp bp P (ds.drop (i + 1)) Γ', fun σ' H' ⟨Γ', G', a, b, c⟩ => ⟨ds.length - (i + 1), by omega, Γ', G', rfl, hlt, a, b, c⟩, fun v H3 y => ?_⟩
    obtain ⟨d, G3, hd, x3, n3⟩ := w.yl i G2 H2 v H3 hlt s2 F2.sub y
    have F3 := F2.up x3
    have e : ds.drop i = d :: ds.drop (i + 1) := by
      rw [List.drop_eq_getElem_cons hlt]
      congr 1
      have := List.getElem?_eq_getElem hlt
      rw [hd] at this
      exact (Option.some.inj this).symm
    rw [e] at k2
    refine hg G0 H0 Γ2 σ2 G3 H3 d v _ _ F3 n3 k2 fun Γ4 σ4 k4 F4 _ => ?_
    refine hb G3 H0 Γ4 σ4 G3 H3 _ _ F4.rebase k4 ((ok.rebase F3.e).loop fun Γ5 σ5 G5 H5 n5 F5 => ?_)
    exact ⟨Γ5, G5, F5.back F3.e, (s2.trans x3.g).trans F5.e.g, n5⟩
  · have e : i = ds.length := by omega
    subst e
    refine .inl ⟨w.st G2 H2 s2 F2.sub, ?_⟩
    rw [List.drop_length] at k2
    exact ok.nx _ _ _ _ k2 F2
theorem s_for {tg iter : Expr} {ti : TL} {gp : TGp} {is : List Nat} (hp : PassesOwn (model X.prog X.w) X.A X.env X.xe) (hc : X.calm = true) (hi : PIt X W tg iter ti) (hg : PGt X tg is gp) (hb : PSS X W body s) (hs : ∀ x, foldedSetIterable iter X.env x = pure x := by intro _; rfl) : PS1 X W (.For tg iter body [] pos) (tsFor ti gp s) := by
  obtain ⟨wi, pi, ri⟩ := hi.ex
  obtain ⟨g, pg, rg⟩ := hg.ex
  obtain ⟨tb, pb, rb⟩ := hb.ex
  exact ⟨_, ps_for hp hc pi pg pb (hs := hs), rd_for ri rg rb⟩
/-- the items of a list, a tuple, the signs of a text -/
def items : D → Option (List D)
  | .lst xs => some xs
  | .tup xs => some xs
  | .str s => some (s.map fun c => .str [c])
  | _ => none
def tiLst (t : TP) : TL := fun Γ k kx => t Γ (fun d => match d with | .lst xs => k xs | _ => False) kx
def tiTup (t : TP) : TL := fun Γ k kx => t Γ (fun d => match d with | .tup xs => k xs | _ => False) kx
def tiStr (t : TP) : TL := fun Γ k kx => t Γ (fun d => match d with | .str s => k (s.map fun c => .str [c]) | _ => False) kx
theorem i_lst {tg : Expr} (h : PP X W e t) : PIt X W tg e (tiLst t) := by
  obtain ⟨ea, pa, ra⟩ := h.ex
  refine ⟨_, pi_list pa, fun G0 H0 Γ σ G H k kx R F ht hk hx => ?_⟩
  refine ra G0 H0 Γ σ G H _ kx _ F ht (fun d v G1 H1 k1 x1 n1 => ?_) hx
  cases d with
  | lst xs =>
    cases n1 with
    | @lst a vs _ h1 h2 =>
      refine ⟨a, rfl, ⟨vs, SqL.of (x1.sub.at_ h1 (fun z => z))⟩, hk xs _ G1 H1 k1 x1 ⟨fun i G2 H2 hi s2 sb => ?_, fun i G2 H2 v H3 hi s2 sb y => ?_, fun G2 H2 s2 sb => ?_⟩⟩
      · have q := sb.at_ (s2 _ _ h1) (fun z => z)
        obtain ⟨v, hv, _⟩ := h2.get (List.getElem?_eq_getElem hi)
        exact ⟨vs, v, SqL.of q, hv⟩
      · have q := sb.at_ (s2 _ _ h1) (fun z => z)
        obtain ⟨rfl, y⟩ := y
        obtain ⟨d, hd, n⟩ := h2.gv (y vs (SqL.of q))
        exact ⟨d, G2, hd, Ext.refl sb, n.up s2⟩
      · have q := sb.at_ (s2 _ _ h1) (fun z => z)
        exact ⟨vs, SqL.of q, by rw [h2.length]; exact Nat.le_refl _⟩
  | _ => exact k1.elim
theorem i_tup {tg : Expr} (h : PP X W e t) : PIt X W tg e (tiTup t) := by
  obtain ⟨ea, pa, ra⟩ := h.ex
  refine ⟨_, pi_tup pa, fun G0 H0 Γ σ G H k kx R F ht hk hx => ?_⟩
  refine ra G0 H0 Γ σ G H _ kx _ F ht (fun d v G1 H1 k1 x1 n1 => ?_) hx
  cases d with
  | tup xs =>
    cases n1 with
    | @tup a vs _ h1 h2 =>
      refine ⟨a, rfl, ⟨vs, x1.sub.sqt h1⟩, hk xs _ G1 H1 k1 x1 ⟨fun i G2 H2 hi s2 sb => ?_, fun i G2 H2 v H3 hi s2 sb y => ?_, fun G2 H2 s2 sb => ?_⟩⟩
      · have q := sb.sqt (sqt_same s2 h1)
        obtain ⟨v, hv, _⟩ := h2.get (List.getElem?_eq_getElem hi)
        exact ⟨vs, v, q, hv⟩
      · have q := sb.sqt (sqt_same s2 h1)
        obtain ⟨rfl, y⟩ := y
        obtain ⟨d, hd, n⟩ := h2.gv (y vs q)
        exact ⟨d, G2, hd, Ext.refl sb, n.up s2⟩
      · have q := sb.sqt (sqt_same s2 h1)
        exact ⟨vs, q, by rw [h2.length]; exact Nat.le_refl _⟩
  | _ => exact k1.elim
theorem i_str {tg : Expr} (h : PP X W e t) : PIt X W tg e (tiStr t) := by
  obtain ⟨ea, pa, ra⟩ := h.ex
  refine ⟨_, pi_str pa, fun G0 H0 Γ σ G H k kx R F ht hk hx => ?_⟩
  refine ra G0 H0 Γ σ G H _ kx _ F ht (fun d v G1 H1 k1 x1 n1 => ?_) hx
  cases d with
  | str s =>
    cases n1
    refine ⟨SS s, rfl, hk _ _ G1 H1 k1 x1 ⟨fun i G2 H2 hi s2 sb => ?_, fun i G2 H2 v H3 hi s2 sb y => ?_, fun G2 H2 s2 sb => ?_⟩⟩
    · show i < (SS s).cps.size
      rw [List.length_map] at hi
      simpa [SS] using hi
    · obtain ⟨rfl, c, hc, rfl⟩ := y
      have hc : s[i]? = some c := by simpa [SS] using hc
      exact ⟨.str [c], G2, by rw [List.getElem?_map, hc]; rfl, Ext.refl sb, .str [c]⟩
    · show (SS s).cps.size ≤ _
      rw [List.length_map]
      simp [SS]
  | _ => exact k1.elim
/-- range(n), range(a, b) -/
def tiRng1 (t : TL) : TL := fun Γ k kx => t Γ (fun ds => match ds with
  | [.int n] => (-(2 ^ 62) ≤ n ∧ n < 2 ^ 62) ∧ k ((List.range n.toNat).map fun i => .int (i : Nat))
  | _ => False) kx
def tiRng2 (t : TL) : TL := fun Γ k kx => t Γ (fun ds => match ds with
  | [.int a, .int b] => (-(2 ^ 62) ≤ a ∧ a < 2 ^ 62 ∧ -(2 ^ 62) ≤ b ∧ b < 2 ^ 62) ∧ k ((List.range (b - a).toNat).map fun i => .int (a + (i : Nat)))
  | _ => False) kx
theorem wk_rng {K : PySem.W.Frag} {a : Int} {n : Nat} {ok : Hp → Hp → Prop} : Wk K (Itr a n) ((List.range n).map fun i => D.int (a + (i : Nat))) ok := by
  refine ⟨fun i G2 H2 hi s2 sb => ?_, fun i G2 H2 v H3 hi s2 sb y => ?_, fun G2 H2 s2 sb => ?_⟩
  · rw [List.length_map, List.length_range] at hi
    exact hi
  · obtain ⟨rfl, rfl⟩ := y
    rw [List.length_map, List.length_range] at hi
    exact ⟨.int (a + (i : Nat)), G2, by rw [List.getElem?_map, List.getElem?_range hi]; rfl, Ext.refl sb, .int _⟩
  · show n ≤ _
    rw [List.length_map, List.length_range]
    exact Nat.le_refl _
theorem den_ints {K : PySem.W.Frag} {G : Hp} {vs : List V} {a : Int} (h : DenL K G vs [.int a]) : vs = [.int a] := by
  cases h with
  | cons h1 h2 =>
    cases h1
    cases h2
    rfl
theorem den_ints2 {K : PySem.W.Frag} {G : Hp} {vs : List V} {a b : Int} (h : DenL K G vs [.int a, .int b]) : vs = [.int a, .int b] := by
  cases h with
  | cons h1 h2 =>
    cases h1
    rw [den_ints h2]
theorem i_rng1 {tg : Expr} {p : Pos} (hm : X.mg "range" = none) (h : PL' X W [a] tl) (hg : Gl X "range" := by rfl) (hs : starEach [a] X.env = [(false, eval a X.env)] := by rfl) : PIt X W tg (.Call (.Name "range" p) [a] [] pos) (tiRng1 tl) := by
  obtain ⟨ea, pa, ra⟩ := h.ex
  refine ⟨_, pi_range1 hg hm pa hs, fun G0 H0 Γ σ G H k kx R F ht hk hx => ?_⟩
  refine ra G0 H0 Γ σ G H _ kx _ F ht (fun ds vs G1 H1 k1 x1 n1 => ?_) hx
  match ds, k1, n1 with
  | [.int n], k1, n1 =>
    refine ⟨n, den_ints n1, k1.1.1, k1.1.2, hk _ _ G1 H1 k1.2 x1 ?_⟩
    have e : (fun i : Nat => D.int (i : Nat)) = fun i : Nat => D.int (0 + (i : Nat)) := by
      funext i
      rw [Int.zero_add]
    rw [e]
    exact wk_rng
theorem i_rng2 {tg : Expr} {p : Pos} (hm : X.mg "range" = none) (h : PL' X W [a, b] tl) (hg : Gl X "range" := by rfl) (hs : starEach [a, b] X.env = [(false, eval a X.env), (false, eval b X.env)] := by rfl) (hs2 : starEach [b] X.env = [(false, eval b X.env)] := by rfl) : PIt X W tg (.Call (.Name "range" p) [a, b] [] pos) (tiRng2 tl) := by
  obtain ⟨ea, pa, ra⟩ := h.ex
  refine ⟨_, pi_range2 hg hm pa hs hs2, fun G0 H0 Γ σ G H k kx R F ht hk hx => ?_⟩
  refine ra G0 H0 Γ σ G H _ kx _ F ht (fun ds vs G1 H1 k1 x1 n1 => ?_) hx
  match ds, k1, n1 with
  | [.int n, .int m], k1, n1 => exact ⟨n, m, den_ints2 n1, k1.1, hk _ _ G1 H1 k1.2 x1 wk_rng⟩
end
end PL
set_option Elab.async false
set_option linter.all false
set_option maxRecDepth 100000
set_option maxHeartbeats 2000000
namespace PL
open PySem L2
variable [Tabl]
abbrev FS := List D → KD → KX → Prop
def spOf (K : PySem.W.Frag) (n : Nat) (fs : FS) : Sp := fun vs H Q E => ∃ G ds k kx, Sub G H ∧ DenL K G vs ds ∧ ds.length = n ∧ fs ds k kx ∧ (∀ d v G' H', k d → Ext G H G' H' → Den K G' v d → Q v H') ∧
  (∀ x cls dA G' H', kx x → Ext G H G' H' → XDen K G' H' cls dA x → E cls dA H')
/-- the global name x holds a def that keeps fs, at level k -/
structure Df (P : Program) (w : World) (K : PySem.W.Frag) (mg : PySem.Str → Option Value) (base : Heap) (x : PySem.Str) (k n : Nat) (fs : FS) : Prop where
  ex : ∃ f fd ps, FnOk P w K mg base (L2.CX P w) k f fd ps (spOf K n fs) ∧ mg x = some (.ref f) ∧ PySem.W.keepIn K (.ref f) = true ∧ Binds K fd ps [] ∧ ps.length = n
theorem Df.imp {P : Program} {w : World} {K : PySem.W.Frag} {mg : PySem.Str → Option Value} {base : Heap} {x : PySem.Str} {k n : Nat} {fs fs' : FS} (F : Df P w K mg base x k n fs) (h : ∀ ds kd kx, ds.length = n → fs' ds kd kx → fs ds kd kx) : Df P w K mg base x k n fs' := by
  obtain ⟨f, fd, ps, h1, h2, h3, h4, h5⟩ := F.ex
  refine ⟨f, fd, ps, h1.imp fun vs H Q E q => ?_, h2, h3, h4, h5⟩
  obtain ⟨G, ds, kd, kx, a, b, c, d, e⟩ := q
  exact ⟨G, ds, kd, kx, a, b, c, h ds kd kx c d, e⟩
theorem Df.mono {P : Program} {w : World} {K : PySem.W.Frag} {mg : PySem.Str → Option Value} {base : Heap} {x : PySem.Str} {j k n : Nat} {fs : FS} (F : Df P w K mg base x j n fs) (h : j ≤ k) : Df P w K mg base x k n fs := by
  obtain ⟨f, fd, ps, h1, h2⟩ := F.ex
  exact ⟨f, fd, ps, h1.mono h, h2⟩
def ga0 (m : Nat) (ds : List D) : Ga := ds.map Sl.pu ++ List.replicate (m - ds.length) Sl.un
theorem fr0 {K : PySem.W.Frag} {G H : Hp} {N : List PySem.Str} {vs : List V} {ds : List D} (s : Sub G H) (r : DenL K G vs ds) : Fr K G H (ga0 N.length ds) (L2.start N vs) G H := by
  have hl := r.length
  have key : ∀ i, (∃ d, ds[i]? = some d ∧ (ga0 N.length ds)[i]? = some (.pu d)) ∨ (ds.length ≤ i ∧ ∀ s, (ga0 N.length ds)[i]? = some s → s = .un) := fun i => by
    by_cases h : i < ds.length
    · refine .inl ⟨ds[i], List.getElem?_eq_getElem h, ?_⟩
      unfold ga0
      rw [List.getElem?_append_left (by rw [List.length_map]; exact h), List.getElem?_map, List.getElem?_eq_getElem h]
      rfl
    · refine .inr ⟨Nat.le_of_not_lt h, fun s e => ?_⟩
      unfold ga0 at e
      rw [List.getElem?_append_right (by rw [List.length_map]; omega)] at e
      have := List.mem_of_getElem? e
      exact (List.mem_replicate.mp this).2
  refine ⟨by unfold L2.start ga0; simp [hl], Ext.refl s, fun i t h => ?_, fun i j p t u h1 h2 h3 h4 h5 h6 => ?_⟩
  · rcases key i with ⟨d, e, q⟩ | ⟨_, q⟩
    · rw [q] at h
      cases h
      obtain ⟨v, hv, n⟩ := r.get e
      refine ⟨v, ?_, n⟩
      have hi : i < vs.length := (List.getElem?_eq_some_iff.mp hv).1
      unfold L2.start
      rw [List.getElem?_append_left (by rw [List.length_map]; exact hi), List.getElem?_map, hv]
      rfl
    · rw [q t h]
      trivial
  · rcases key i with ⟨d, e, q⟩ | ⟨_, q⟩
    · rw [q] at h1
      cases h1
      exact h2.elim
    · rw [q t h1] at h2
      exact h2.elim
/-- the ends of a def -/
def fEnds (k : KD) (kx : KX) : PEn := ⟨fun _ => k .non, fun _ => False, fun _ => False, fun d _ => k d, fun x _ => kx x⟩
section
variable {P : Program} {w : World} {K : PySem.W.Frag} {mg : PySem.Str → Option Value} {base : Heap}
theorem fn_ok {x qual : PySem.Str} {st : Stmt} {f : Addr} {fd : FuncData} {N ps : List PySem.Str} {k n : Nat} {fs : FS} (F : Fun K x qual st f fd) (S : FnScope N ps (defScope st)) (hn : ps.length = n)
    (body : ∀ (cdv : Value) (A : Around) (outer : List Env) (s : Shared) (H : Hp) (E : XK), Room k (A.deeper (PyProof.Rows.envOfC qual (defScope st) s.heap.objs.size f cdv)) →
      ∃ t, PSS (cxOf (L2.CX P w) P w K mg base N qual (defScope st) f cdv A outer s H E) (fun cls d _ H => E cls d H) (defBody st) t ∧ ∀ ds kd kx, ds.length = n → fs ds kd kx → t (fEnds kd kx) (ga0 N.length ds)) :
    FnOk P w K mg base (L2.CX P w) (k + 1) f fd ps (spOf K n fs) := by
  refine F.okX S (fun vs H Q E h => ?_) (fun cdv A outer s H vs Q E hr h => ?_)
  · obtain ⟨G, ds, kd, kx, _, b, c, _⟩ := h
    rw [b.length, c, hn]
  · obtain ⟨G, ds, kd, kx, sb, r, hl, hf, hk, hx⟩ := h
    obtain ⟨t, ⟨ts, ps, rd⟩, ht⟩ := body cdv A outer s H E hr
    refine ⟨ts, ps, rd G H (ga0 N.length ds) (L2.start N vs) G H (fEnds kd kx) _ (fr0 sb r) (ht ds kd kx hl hf) ⟨?_, ?_, ?_, ?_, ?_⟩⟩
    · intro Γ σ G' H' q F'
      exact hk .non .non G' H' q F'.e .non
    · intro Γ σ G' H' q
      exact q.elim
    · intro Γ σ G' H' q
      exact q.elim
    · intro d v Γ σ G' H' q F' n
      exact hk d v G' H' q F'.e n
    · intro x cls dA Γ σ G' H' q F' n
      exact hx x cls dA G' H' q F'.e n
theorem df_mk {x qual : PySem.Str} {st : Stmt} {f : Addr} {fd : FuncData} {ps : List PySem.Str} {k n : Nat} {fs : FS} (F : Fun K x qual st f fd) (hm : mg x = some (.ref f)) (hb : Binds K fd ps []) (hn : ps.length = n) (h : FnOk P w K mg base (L2.CX P w) k f fd ps (spOf K n fs)) :
    Df P w K mg base x k n fs := ⟨f, fd, ps, h, hm, F.kp, hb, hn⟩
end
section
variable {X : Cx} {W : WX} {e a b c : Expr} {es : List Expr} {t ta tb tc : TP} {tl tk : TL} {tt tu : TB} {pos p : Pos} {st : Stmt} {rest body els : List Stmt} {s u v : TSp} {x : PySem.Str} {k n j : Nat} {fs : FS} {kws : List Keyword}
def tpCall (n : Nat) (fs : FS) (tl : TL) : TP := fun Γ k kx => tl Γ (fun ds => ds.length = n ∧ fs ds k kx) kx
theorem rd_call {ta : TA} (h : RdA X.K W ta tl) : RdP X.K W (tCallS (spOf X.K n fs) (WE W) ta) (tpCall n fs tl) := by
  intro G0 H0 Γ σ G H k kx Q F ht hk hx
  refine h G0 H0 Γ σ G H _ kx _ F ht (fun ds vs G1 H1 k1 x1 n1 => ?_) hx
  exact ⟨G1, ds, k, kx, x1.sub, n1, k1.1, k1.2, fun d v G' H' kd ex dn => hk d v G' H' kd (x1.trans ex) dn, fun y cls dA G' H' kd ex dn => hx y cls dA G' H' kd (x1.trans ex) dn⟩
theorem p_call (D : Df X.prog X.w X.K X.mg X.base x k n fs) (hr : Room j X.A) (hj : k ≤ j) (tk : Takes X W) (ha : PL' X W (e :: es) tl) (hg : Gl X x := by rfl) (hdb : (x == ("__debug__" : PySem.Str)) = false := by decide)
    (he : starEach (e :: es) X.env = (false, eval e X.env) :: starEach es X.env := by rfl) (hpl : (backTo pos (starEach es X.env)).any (·.1) = false := by rfl) : PP X W (.Call (.Name x p) (e :: es) [] pos) (tpCall n fs tl) := by
  obtain ⟨f, fd, ps, h1, h2, h3, h4, h5⟩ := D.ex
  obtain ⟨ea, pa, ra⟩ := ha.ex
  exact ⟨_, pe_callS h1 (hr.mono hj) hg h2 h3 h4 (fun σ => passAt tk σ) pa hdb he hpl, rd_call ra⟩
theorem pe_call0S {CX : CXT} {f : Addr} {fd : FuncData} {ps : List PySem.Str} {sp : Sp} {E : L2.St → XK} (F : FnOk X.prog X.w X.K X.mg X.base CX k f fd ps sp) (hr : Room k X.A) (hg : Gl X x) (hm : X.mg x = some (.ref f)) (hk : PySem.W.keepIn X.K (.ref f) = true) (hb : Binds X.K fd ps []) (hx : ∀ σ, PassesAt CX X σ (E σ))
    (hdb : (x == ("__debug__" : PySem.Str)) = false := by decide) : PE X (.Call (.Name x p) [] [] pos) (tCallS sp E tNil) := by
  refine ⟨fun pins s σ H Q I h => ?_⟩
  refine wpAny_Call_Name_kw (ld_glob I hg hm ?_ hdb)
  exact PySem.W.callWith_K0 I.kIn hk (run_fnS (us := []) F hr hb (hx σ) I .nil h)
theorem p_call0 (D : Df X.prog X.w X.K X.mg X.base x k n fs) (hr : Room j X.A) (hj : k ≤ j) (tk : Takes X W) (hg : Gl X x := by rfl) (hdb : (x == ("__debug__" : PySem.Str)) = false := by decide) : PP X W (.Call (.Name x p) [] [] pos) (tpCall n fs tlNil) := by
  obtain ⟨f, fd, ps, h1, h2, h3, h4, h5⟩ := D.ex
  exact ⟨_, pe_call0S h1 (hr.mono hj) hg h2 h3 h4 (fun σ => passAt tk σ) hdb, rd_call (fun G0 H0 Γ σ G H k kx Q F ht hk hx => hk [] [] G H ht (Ext.refl F.sub) .nil)⟩
abbrev F1 := D → KD → Prop
abbrev FN := List D → KD → Prop
def RdC (K : PySem.W.Frag) (r : List V → Hp → VK → Prop) (f : FN) : Prop := ∀ (H0 G H : Hp) (vs : List V) (ds : List D) (k : KD) (Q : VK), Sub G H → DenL K G vs ds → f ds k → (∀ d v G' H', k d → Ext G H G' H' → Den K G' v d → Q v H') → r vs H Q
def RdC1 (K : PySem.W.Frag) (r : List V → Hp → VK → Prop) (f : F1) : Prop := ∀ (H0 G H : Hp) (v : V) (d : D) (k : KD) (Q : VK), Sub G H → DenU K H0 G H v d → f d k → (∀ d v G' H', k d → Ext G H G' H' → Den K G' v d → Q v H') → r [v] H Q
def tpN (f : FN) (tl : TL) : TP := fun Γ k kx => tl Γ (fun ds => f ds k) kx
def tp1 (f : F1) (t : TP) : TP := fun Γ k kx => t Γ (fun d => f d k) kx
theorem rd_cn {r : List V → Hp → VK → Prop} {f : FN} {ta : TA} (hr : RdC X.K r f) (h : RdA X.K W ta tl) : RdP X.K W (tCB r ta) (tpN f tl) := by
  intro G0 H0 Γ σ G H k kx Q F ht hk hx
  refine h G0 H0 Γ σ G H _ kx _ F ht (fun ds vs G1 H1 k1 x1 n1 => ?_) hx
  exact hr H0 G1 H1 vs ds k Q x1.sub n1 k1 fun d v G' H' kd ex dn => hk d v G' H' kd (x1.trans ex) dn
theorem rd_c1 {r : List V → Hp → VK → Prop} {f : F1} {te : TE} (hr : RdC1 X.K r f) (h : RdU X.K W te t) : RdP X.K W (tCB r (tCons te tNil)) (tp1 f t) := by
  intro G0 H0 Γ σ G H k kx Q F ht hk hx
  refine h G0 H0 Γ σ G H _ kx _ F ht (fun d v G1 H1 k1 x1 n1 => ?_) hx
  exact hr H0 G1 H1 v d k Q x1.sub n1 k1 fun d v G' H' kd ex dn => hk d v G' H' kd (x1.trans ex) dn
/-- a built-in function, a built-in type called -/
theorem p_b1 {id : String} {r : List V → Hp → VK → Prop} {f : F1} (hc : CallR X (.builtin id) r ∧ RdC1 X.K r f) (hm : X.mg x = none) (hv : bootBuiltins x = some (.builtin id)) (ha : PU X W a t) (hg : Gl X x := by rfl) (hn : x ≠ "__name__" := by decide) (hdb : (x == ("__debug__" : PySem.Str)) = false := by decide)
    (h1 : starEach (a :: []) X.env = (false, eval a X.env) :: starEach [] X.env := by rfl) (h2 : (backTo pos (starEach [] X.env)).any (·.1) = false := by rfl) : PP X W (.Call (.Name x p) [a] [] pos) (tp1 f t) := by
  obtain ⟨ea, pa, ra⟩ := ha.ex
  exact ⟨_, pe_callB hc.1 hg hm hv (pa_cons pa pa_nil h1) hn hdb h1 h2, rd_c1 hc.2 ra⟩
theorem p_t1 {T : String} {r : List V → Hp → VK → Prop} {f : F1} (hc : CallR X (.type T) r ∧ RdC1 X.K r f) (hm : X.mg x = none) (hv : bootBuiltins x = some (.type T)) (ha : PU X W a t) (hg : Gl X x := by rfl) (hn : x ≠ "__name__" := by decide) (hdb : (x == ("__debug__" : PySem.Str)) = false := by decide)
    (h1 : starEach (a :: []) X.env = (false, eval a X.env) :: starEach [] X.env := by rfl) (h2 : (backTo pos (starEach [] X.env)).any (·.1) = false := by rfl) : PP X W (.Call (.Name x p) [a] [] pos) (tp1 f t) := by
  obtain ⟨ea, pa, ra⟩ := ha.ex
  exact ⟨_, pe_callTy hc.1 hg hm hv (pa_cons pa pa_nil h1) hn hdb h1 h2, rd_c1 hc.2 ra⟩
theorem p_bn {id : String} {r : List V → Hp → VK → Prop} {f : FN} (hc : CallR X (.builtin id) r ∧ RdC X.K r f) (hm : X.mg x = none) (hv : bootBuiltins x = some (.builtin id)) (ha : PL' X W (e :: es) tl) (hg : Gl X x := by rfl) (hn : x ≠ "__name__" := by decide) (hdb : (x == ("__debug__" : PySem.Str)) = false := by decide)
    (h1 : starEach (e :: es) X.env = (false, eval e X.env) :: starEach es X.env := by rfl) (h2 : (backTo pos (starEach es X.env)).any (·.1) = false := by rfl) : PP X W (.Call (.Name x p) (e :: es) [] pos) (tpN f tl) := by
  obtain ⟨ea, pa, ra⟩ := ha.ex
  exact ⟨_, pe_callB hc.1 hg hm hv pa hn hdb h1 h2, rd_cn hc.2 ra⟩
theorem DenK.length {K : PySem.W.Frag} {G : Hp} : ∀ {vs : List (Key × V)} {ds : List (Key × D)}, DenK K G vs ds → vs.length = ds.length
  | _, _, .nil => rfl
  | _, _, .cons _ t => by rw [List.length_cons, List.length_cons, DenK.length t]
theorem DenU.dct {K : PySem.W.Frag} {H0 G H : Hp} {v : V} {ds : List (Key × D)} (s : Sub G H) (h : DenU K H0 G H v (.dct ds)) : ∃ a xs, v = .ref a ∧ Rd H a (.dK xs) ∧ DenK K G xs ds := by
  rcases h with h | ⟨p, e, g, xs, r1, r2⟩
  · cases h with
    | dct h1 h2 => exact ⟨_, _, rfl, s.rd h1, h2⟩
  · exact ⟨p, xs, e, .inl r1, r2⟩
/-- len of a text, a list, a tuple; of a dict that isn't locked -/
def fLenS : F1
  | .str s, k => s.length ≤ sizeLine ∧ k (.int s.length)
  | .lst xs, k => k (.int xs.length)
  | .tup xs, k => k (.int xs.length)
  | .cel _ ns, k => k (.int ns.length)
  | .scr, k => ∀ n : Nat, n ≤ 63 → k (.int n)
  | _, _ => False
theorem c_len : CallR X (.builtin "len") (fun xs H Q => ∃ x n, xs = [x] ∧ LenV X.K x H n ∧ Q (.int n) H) ∧ RdC1 X.K (fun xs H Q => ∃ x n, xs = [x] ∧ LenV X.K x H n ∧ Q (.int n) H) fLenS := by
  refine ⟨call_len, fun H0 G H v d k Q s n h hk => ?_⟩
  cases d with
  | str t => exact ⟨v, t.length, rfl, by rw [n.str]; exact ⟨by rw [ss_length]; exact h.1, (ss_length t).symm⟩, hk _ _ G H h.2 (Ext.refl s) (.int _)⟩
  | lst xs =>
    obtain ⟨a, ys, rfl, h1, r1⟩ := n.lst s
    exact ⟨_, xs.length, rfl, .inl ⟨ys, SqL.of h1, r1.length.symm⟩, hk _ _ G H h (Ext.refl s) (.int _)⟩
  | tup xs =>
    obtain ⟨a, ys, rfl, h1, r1⟩ := n.tup s
    exact ⟨_, xs.length, rfl, .inr ⟨ys, h1, r1.length.symm⟩, hk _ _ G H h (Ext.refl s) (.int _)⟩
  | cel l ns =>
    obtain ⟨rfl, h1⟩ := n.cel s
    exact ⟨_, ns.length, rfl, .inl ⟨_, SqL.of h1, by rw [List.length_map]⟩, hk _ _ G H h (Ext.refl s) (.int _)⟩
  | scr =>
    rcases n with n | ⟨p, e, g, r⟩
    · cases n with
      | @scr a ns h1 h2 => exact ⟨_, ns.length, rfl, .inl ⟨_, s.sql h1, by rw [List.length_map]⟩, hk _ _ G H (h ns.length h2) (Ext.refl s) (.int _)⟩
    · exact r.elim
  | _ => exact h.elim
/-- int(n), int(b) -/
def fInt : F1
  | .int i, k => k (.int i)
  | .bl b, k => k (.int (if b then 1 else 0))
  | _, _ => False
theorem c_int : CallR X (.type "int") (fun xs H Q => (∃ i, xs = [.int i] ∧ Q (.int i) H) ∨ ∃ k, xs = [.bl k] ∧ Q (.int (if k then 1 else 0)) H) ∧ RdC1 X.K (fun xs H Q => (∃ i, xs = [.int i] ∧ Q (.int i) H) ∨ ∃ k, xs = [.bl k] ∧ Q (.int (if k then 1 else 0)) H) fInt := by
  refine ⟨call_int1, fun H0 G H v d k Q s n h hk => ?_⟩
  cases d with
  | int i => exact .inl ⟨i, by rw [n.int], hk _ _ G H h (Ext.refl s) (.int _)⟩
  | bl i => exact .inr ⟨i, by rw [n.bl], hk _ _ G H h (Ext.refl s) (.int _)⟩
  | _ => exact h.elim
/-- min(a, b), max(a, b) of ints -/
def fMin2 : FN
  | [.int i, .int j], k => k (.int (if j < i then j else i))
  | _, _ => False
def rMin2' : List V → Hp → VK → Prop := fun xs H Q => ∃ i j, xs = [.int i, .int j] ∧ Q (.int (if j < i then j else i)) H
theorem c_min2 (hc : X.calm = true) : CallR X (.builtin "min") rMin2' ∧ RdC X.K rMin2' fMin2 := by
  refine ⟨call_min2 hc, fun H0 G H vs ds k Q s n h hk => ?_⟩
  match ds, h, n with
  | [.int i, .int j], h, n => exact ⟨i, j, den_ints2 n, hk _ _ G H h (Ext.refl s) (.int _)⟩
/-- all(..), any(..) of a list of truth values -/
def bools : List D → Option (List Bool)
  | [] => some []
  | .bl b :: r => (bools r).map (b :: ·)
  | _ :: _ => none
theorem bools_eq : ∀ {ds : List D} {bs : List Bool}, bools ds = some bs → ds = bs.map D.bl
  | [], bs, h => by cases h; rfl
  | d :: r, bs, h => by
    cases d with
    | bl b =>
      unfold bools at h
      cases e : bools r with
      | none => rw [e] at h; cases h
      | some cs =>
        rw [e] at h
        cases h
        rw [List.map_cons, ← bools_eq e]
    | _ => cases h
theorem bools_map : ∀ bs : List Bool, bools (bs.map D.bl) = some bs
  | [] => rfl
  | b :: r => by
    show (bools (r.map D.bl)).map (b :: ·) = _
    rw [bools_map r]
    rfl
theorem denL_bl {K : PySem.W.Frag} {G : Hp} : ∀ {bs : List Bool} {vs : List V}, DenL K G vs (bs.map D.bl) → vs = bs.map V.bl
  | [], _, h => by cases h; rfl
  | b :: r, _, h => by
    cases h with
    | cons h1 h2 =>
      cases h1
      rw [denL_bl h2]
      rfl
def onBs (ds : List D) (k : List Bool → Prop) : Prop := match bools ds with
  | some bs => k bs
  | none => False
theorem onBs_map {bs : List Bool} {k : List Bool → Prop} : onBs (bs.map D.bl) k = k bs := by
  unfold onBs
  rw [bools_map]
theorem onBs_elim {ds : List D} {k : List Bool → Prop} (h : onBs ds k) : ∃ bs, ds = bs.map D.bl ∧ k bs := by
  unfold onBs at h
  cases e : bools ds with
  | none => simp only [e] at h
  | some bs =>
    simp only [e] at h
    exact ⟨bs, bools_eq e, h⟩
def fAll : F1
  | .lst xs, k => onBs xs fun bs => k (.bl (bs.all id))
  | _, _ => False
theorem c_all (hc : X.calm = true) : CallR X (.builtin "all") (rAll X.K) ∧ RdC1 X.K (rAll X.K) fAll := by
  refine ⟨cr_all hc, fun H0 G H v d k Q s n h hk => ?_⟩
  cases d with
  | lst xs =>
    obtain ⟨bs, rfl, h2⟩ := onBs_elim (show onBs xs fun bs => k (.bl (bs.all id)) from h)
    obtain ⟨a, ys, rfl, h1, r1⟩ := n.lst s
    rw [denL_bl r1] at h1
    exact ⟨a, bs, rfl, SqL.of h1, hk _ _ G H h2 (Ext.refl s) (.bl _)⟩
  | _ => exact h.elim
def tyD : D → Option String
  | .non => some "NoneType"
  | .bl _ => some "bool"
  | .int _ => some "int"
  | .str _ => some "str"
  | .lst _ => some "list"
  | .tup _ => some "tuple"
  | .dct _ => some "dict"
  | _ => none
def subTy (a b : String) : Bool := a == b || (a == "bool" && b == "int")
theorem kit_all : (["NoneType", "bool", "int", "str", "list", "tuple", "dict"].all fun a => ["bool", "int", "str", "list", "tuple"].all fun b => kitB a b == some (subTy a b)) = true := by decide +kernel
theorem kit_tab {a b : String} (ha : a ∈ ["NoneType", "bool", "int", "str", "list", "tuple", "dict"]) (hb : b ∈ ["bool", "int", "str", "list", "tuple"]) : kitB a b = some (subTy a b) := by
  have := List.all_eq_true.mp kit_all a ha
  have := List.all_eq_true.mp this b hb
  simpa using this
theorem tyD_mem {d : D} {T : String} (h : tyD d = some T) : T ∈ ["NoneType", "bool", "int", "str", "list", "tuple", "dict"] := by
  cases d <;> (first | (cases h; simp) | cases h)
theorem DenU.ty {K : PySem.W.Frag} {H0 G H : Hp} {v : V} {d : D} {T : String} (s : Sub G H) (h : DenU K H0 G H v d) (e : tyD d = some T) : TyX K H v (.type T) := by
  cases d with
  | non => cases e; rw [h.non]; exact .base .non
  | bl b => cases e; rw [h.bl]; exact .base (.bl b)
  | int b => cases e; rw [h.int]; exact .base (.int b)
  | str b => cases e; rw [h.str]; exact .base (.str _)
  | lst xs =>
    cases e
    obtain ⟨a, ys, rfl, h1, r1⟩ := h.lst s
    exact .base (.lst h1)
  | tup xs =>
    cases e
    obtain ⟨a, ys, rfl, h1, r1⟩ := h.tup s
    rcases h1 with (h1 | ⟨o, h1⟩) | ⟨o, its, n, k1, k2, k3, k4⟩
    · exact .base (.tup h1)
    · exact .fTuple h1
    · exact .kTuple k1 (by assumption)
  | dct xs =>
    cases e
    obtain ⟨a, ys, rfl, h1, r1⟩ := h.dct s
    rcases h1 with h1 | ⟨o, h1⟩
    · exact .base (.dK h1)
    · exact .fDict h1
  | _ => cases e
end
end PL
set_option Elab.async false
set_option linter.all false
set_option maxRecDepth 100000
set_option maxHeartbeats 2000000
namespace PL
open PySem L2
variable [Tabl]
section
variable {X : Cx} {W : WX} {e a b c : Expr} {es : List Expr} {t ta tb tc : TP} {tl tk : TL} {tt tu : TB} {pos p : Pos} {x : PySem.Str}
def fIsi (T : String) : F1 := fun d k => match tyD d with
  | some n => k (.bl (subTy n T))
  | none => False
theorem p_isi (T : String) (ha : PU X W a t) (hb : PE X b (tC (.ty T))) (hm : X.mg "isinstance" = none) (hT : T ∈ ["bool", "int", "str", "list", "tuple"] := by simp) (hv : bootBuiltins "isinstance" = some (.builtin "isinstance") := by decide +kernel) (hg : Gl X "isinstance" := by rfl)
    (h1 : starEach (a :: [b]) X.env = (false, eval a X.env) :: starEach [b] X.env := by rfl) (h2 : (backTo pos (starEach [b] X.env)).any (·.1) = false := by rfl) (h3 : starEach (b :: []) X.env = (false, eval b X.env) :: starEach [] X.env := by rfl) :
    PP X W (.Call (.Name "isinstance" p) [a, b] [] pos) (tp1 (fIsi T) t) := by
  obtain ⟨ea, pa, ra⟩ := ha.ex
  refine ⟨_, pe_callB call_isi hg hm hv (pa_cons pa (pa_cons hb pa_nil h3) h1) (by decide) (by decide) h1 h2, fun G0 H0 Γ σ G H k kx Q F ht hk hx => ?_⟩
  refine ra G0 H0 Γ σ G H _ kx _ F ht (fun d v G1 H1 k1 x1 n1 => ?_) hx
  unfold fIsi at k1
  cases e : tyD d with
  | none => simp only [e] at k1
  | some n =>
    simp only [e] at k1
    exact ⟨v, .ty T, .type n, .type T, subTy n T, rfl, .ty T, n1.ty x1.sub e, kit_ty (kit_tab (tyD_mem e) hT), hk _ _ G1 H1 k1 x1 (.bl _)⟩
/-- isinstance(x, (T, U)) -/
def fIsi2 (T U : String) : F1 := fun d k => match tyD d with
  | some n => k (.bl (subTy n T || subTy n U))
  | none => False
theorem p_isi2 (T U : String) {c : Expr} {x1 : Nat} {tpos : Pos} (ha : PU X W a t) (hb : PE X b (tC (.ty T))) (hc : PE X c (tC (.ty U))) (hm : X.mg "isinstance" = none) (hT : T ∈ ["bool", "int", "str", "list", "tuple"] := by simp) (hU : U ∈ ["bool", "int", "str", "list", "tuple"] := by simp)
    (hv : bootBuiltins "isinstance" = some (.builtin "isinstance") := by decide +kernel) (hg : Gl X "isinstance" := by rfl)
    (h1 : starEach (a :: [.Tuple [b, c] x1 tpos]) X.env = (false, eval a X.env) :: starEach [.Tuple [b, c] x1 tpos] X.env := by rfl) (h2 : (backTo pos (starEach [.Tuple [b, c] x1 tpos] X.env)).any (·.1) = false := by rfl)
    (h3 : starEach (.Tuple [b, c] x1 tpos :: []) X.env = (false, eval (.Tuple [b, c] x1 tpos) X.env) :: starEach [] X.env := by rfl) (h4 : starEach (b :: [c]) X.env = (false, eval b X.env) :: starEach [c] X.env := by rfl) (h5 : starEach (c :: []) X.env = (false, eval c X.env) :: starEach [] X.env := by rfl) :
    PP X W (.Call (.Name "isinstance" p) [a, .Tuple [b, c] x1 tpos] [] pos) (tp1 (fIsi2 T U) t) := by
  obtain ⟨ea, pa, ra⟩ := ha.ex
  refine ⟨_, pe_callB call_isiT hg hm hv (pa_cons pa (pa_cons (pe_tup (pa_cons hb (pa_cons hc pa_nil h5) h4)) pa_nil h3) h1) (by decide) (by decide) h1 h2, fun G0 H0 Γ σ G H k kx Q F ht hk hx => ?_⟩
  refine ra G0 H0 Γ σ G H _ kx _ F ht (fun d v G1 H1 k1 x1 n1 => ?_) hx
  unfold fIsi2 at k1
  cases e : tyD d with
  | none => simp only [e] at k1
  | some n =>
    simp only [e] at k1
    refine ⟨by show 2 ≤ sizeLine; decide, fun q hq => ?_⟩
    have x2 : Ext G1 H1 G1 (upd H1 q (.tup [.ty T, .ty U])) := Ext.beside x1.sub hq
    have n2 : TyX X.K (upd H1 q (.tup [.ty T, .ty U])) v (.type n) := (n1.up x2).ty x2.sub e
    refine ⟨v, q, [.ty T, .ty U], .type n, [.type T, .type U], _, rfl, upd_same, .cons (.ty T) (.cons (.ty U) .nil), n2, ?_, hk _ _ _ _ k1 (x1.trans x2) (.bl _)⟩
    have h1 := kit_ty (K := X.K) (kit_tab (tyD_mem e) hT)
    have h2 := kit_ty (K := X.K) (kit_tab (tyD_mem e) hU)
    refine kitAny_cons h1 (fun z => ?_) (fun z => by rw [z]; rfl)
    rw [z]
    exact kitAny_cons h2 (fun z => by rw [z]; exact kitAny_nil) (fun z => by rw [z]; rfl)
abbrev Bi := Shared × Hp × Addr × List (PySem.Str × Addr) × List Addr
abbrev Cx.bl (X : Cx) (scope : Scope) (i : Bi) : Cx := X.blk i.1 i.2.1 scope (compEnvC scope i.2.2.2.1 i.2.2.1 X.env) i.2.2.2.2
abbrev W0 : WX := fun _ _ _ _ => False
theorem pp_unif {ι : Type} {Xf : ι → Cx} {K : PySem.W.Frag} (hK : ∀ i, (Xf i).K = K) (h : ∀ i, PP (Xf i) W e t) (i₀ : ι) : ∃ te, (∀ i, PE (Xf i) e te) ∧ RdP K W te t := by
  have h' : ∀ i, ∃ te, PE (Xf i) e te ∧ RdP K W te t := fun i => by
    obtain ⟨te, h1, h2⟩ := (h i).ex
    rw [hK i] at h2
    exact ⟨te, h1, h2⟩
  refine ⟨fun σ H Q => ∀ i, Classical.choose (h' i) σ H Q, fun i => ⟨fun pins s σ H Q I q => (Classical.choose_spec (h' i)).1.run pins s σ H Q I (q i)⟩, ?_⟩
  intro G0 H0 Γ σ G H k kx Q F ht hk hx i
  exact (Classical.choose_spec (h' i)).2 G0 H0 Γ σ G H k kx Q F ht hk hx
theorem pg_unif {ι : Type} {Xf : ι → Cx} {K : PySem.W.Frag} {is : List Nat} {gt : TGp} (hK : ∀ i, (Xf i).K = K) (h : ∀ i, PGt (Xf i) e is gt) : ∃ g, (∀ i, PG (Xf i) e g) ∧ RdG K is g gt := by
  have h' : ∀ i, ∃ te, PG (Xf i) e te ∧ RdG K is te gt := fun i => by
    obtain ⟨te, h1, h2⟩ := (h i).ex
    rw [hK i] at h2
    exact ⟨te, h1, h2⟩
  refine ⟨fun v σ H Q => ∀ i, Classical.choose (h' i) v σ H Q, fun i => ⟨fun pins s σ H v u Q I r q => ?_⟩, ?_⟩
  · exact (Classical.choose_spec (h' i)).1.run pins s σ H v u Q I r (q i)
  · intro G0 H0 Γ σ G H d v k Q F n ht hk i
    exact (Classical.choose_spec (h' i)).2 G0 H0 Γ σ G H d v k Q F n ht hk
/-- the tests of a comprehension -/
structure PBs (X : Cx) (W : WX) (es : List Expr) (t : TB) : Prop where
  ex : ∃ te, PTs X es te ∧ RdT X.K W te t
def tbYes : TB := fun _ k _ => k true
theorem bs_unif {ι : Type} {Xf : ι → Cx} {K : PySem.W.Frag} (hK : ∀ i, (Xf i).K = K) (h : ∀ i, PBs (Xf i) W es tt) : ∃ te, (∀ i, PTs (Xf i) es te) ∧ RdT K W te tt := by
  have h' : ∀ i, ∃ te, PTs (Xf i) es te ∧ RdT K W te tt := fun i => by
    obtain ⟨te, h1, h2⟩ := (h i).ex
    rw [hK i] at h2
    exact ⟨te, h1, h2⟩
  refine ⟨fun σ H Q => ∀ i, Classical.choose (h' i) σ H Q, fun i => ⟨fun pins s σ H Q I q => (Classical.choose_spec (h' i)).1.run pins s σ H Q I (q i)⟩, ?_⟩
  intro G0 H0 Γ σ G H k kx Q F ht hk hx i
  exact (Classical.choose_spec (h' i)).2 G0 H0 Γ σ G H k kx Q F ht hk hx
theorem bs_nil : PBs X W [] tbYes := ⟨_, pts_nil, fun G0 H0 Γ σ G H k kx Q F ht hk hx => hk true G H ht (Ext.refl F.sub)⟩
theorem bs_one (h : PB X W e tt) : PBs X W [e] tt := by
  obtain ⟨ea, pa, ra⟩ := h.ex
  exact ⟨_, pts_one pa, ra⟩
def wipeG (Γ : Ga) : List Nat → Ga
  | [] => Γ
  | v :: vs => gset (wipeG Γ vs) v .un
theorem Fr.unset {K : PySem.W.Frag} {G0 H0 G H : Hp} {Γ : Ga} {σ : L2.St} (F : Fr K G0 H0 Γ σ G H) (i : Nat) : Fr K G0 H0 (gset Γ i .un) (σ.set i none) G H := by
  rw [gset_eq]
  have hne : ∀ (j : Nat) (s : Sl), (Γ.set i .un)[j]? = some s → s ≠ .un → j ≠ i ∧ Γ[j]? = some s := fun j s h n => by
    by_cases hj : i = j
    · subst hj
      have hl : i < Γ.length := by
        have := (List.getElem?_eq_some_iff.mp h).1
        rw [List.length_set] at this
        exact this
      rw [List.getElem?_set_self hl] at h
      exact absurd (Option.some.inj h).symm n
    · rw [List.getElem?_set_ne hj] at h
      exact ⟨Ne.symm hj, h⟩
  refine ⟨by rw [List.length_set, List.length_set]; exact F.len, F.e, fun j s h => ?_, fun a b p s t h1 h2 h3 h4 h5 h6 => ?_⟩
  · by_cases n : s = .un
    · subst n
      trivial
    · obtain ⟨z, q⟩ := hne j s h n
      rw [List.getElem?_set_ne (Ne.symm z)]
      exact F.at_ j s q
  · obtain ⟨z1, q1⟩ := hne a s h1 (fun z => by subst z; exact h2)
    obtain ⟨z2, q2⟩ := hne b t h3 (fun z => by subst z; exact h4)
    rw [List.getElem?_set_ne (Ne.symm z1)] at h5
    rw [List.getElem?_set_ne (Ne.symm z2)] at h6
    exact F.dj a b p s t q1 h2 q2 h4 h5 h6
theorem Fr.wipe {K : PySem.W.Frag} {G0 H0 G H : Hp} {Γ : Ga} {σ : L2.St} (F : Fr K G0 H0 Γ σ G H) : ∀ is : List Nat, Fr K G0 H0 (wipeG Γ is) (L2.wipe σ is) G H
  | [] => F
  | v :: vs => (F.wipe vs).unset v
theorem wipe_none (σ : L2.St) (v : Nat) : ∀ vs : List Nat, v ∈ vs → (L2.wipe σ vs).set v none = L2.wipe σ vs
  | j :: r, h => by
    show ((L2.wipe σ r).set j none).set v none = (L2.wipe σ r).set j none
    by_cases e : v = j
    · subst e
      rw [List.set_set]
    · have hr : v ∈ r := by
        rcases List.mem_cons.mp h with h | h
        · exact absurd h e
        · exact h
      rw [List.set_comm _ _ (Ne.symm e), wipe_none σ v r hr]
theorem wipe_sub (σ : L2.St) (vs : List Nat) : ∀ ws : List Nat, (∀ v ∈ ws, v ∈ vs) → L2.wipe (L2.wipe σ vs) ws = L2.wipe σ vs
  | [], _ => rfl
  | v :: ws, h => by
    show (L2.wipe (L2.wipe σ vs) ws).set v none = _
    rw [wipe_sub σ vs ws (fun u hu => h u (List.mem_cons_of_mem _ hu)), wipe_none σ v vs (h v List.mem_cons_self)]
/-- the items one by one -/
def lcW (g : TGp) (tt : TB) (te : TP) (Γ : Ga) : List D → (List D → Prop) → Prop
  | [], k => k []
  | d :: r, k => g d Γ fun Γ1 => tt Γ1 (fun b => if b = true then te Γ1 (fun y => lcW g tt te Γ r fun ys => k (y :: ys)) (fun _ => False) else lcW g tt te Γ r k) (fun _ => False)
def tpLc (is : List Nat) (ti : TL) (g : TGp) (tt : TB) (te : TP) : TP := fun Γ k kx => ti Γ (fun ds => ds.length ≤ 100000 ∧ lcW g tt te (wipeG Γ is) ds fun ys => k (.lst ys)) kx
theorem tabs_upd {H : Hp} {p : Addr} {o : HO} (t : LamX.Tabs Tabl.T H) (m : H p = none ∨ ∃ u, H p = some u ∧ MutO u) : LamX.Tabs Tabl.T (upd H p o) := by
  rcases m with m | ⟨u, m, mu⟩
  · exact t.ext (same_upd m)
  · exact fun q hq => tab_upd (t q hq) m mu
/-- what was not there at first is laid or changed -/
theorem Up.upNew {H H2 : Hp} (x : Up H H2) {p : Addr} (h : H p = none) (m : H2 p = none ∨ ∃ u, H2 p = some u ∧ MutO u) (o : HO) : Up H (upd H2 p o) := by
  refine ⟨fun a u e n => by rw [upd_ne (ne_of_none e h)]; exact x.k _ _ e n, fun a u e => by rw [upd_ne (ne_of_none e h)]; exact x.t _ _ e, fun t => ?_⟩
  exact tabs_upd (x.tb t) m
theorem Ext.at_new {G H G2 H2 : Hp} (x : Ext G H G2 H2) {p : Addr} {o : HO} (h : H p = none) (g : G2 p = none) (m : H2 p = none ∨ ∃ u, H2 p = some u ∧ MutO u) : Ext G H G2 (upd H2 p o) :=
  ⟨x.h.upNew h m o, x.g, x.nw, ⟨fun a u e => by rw [upd_ne (ne_of_none e g)]; exact x.sub.m a u e, x.sub.nt, tabs_upd x.sub.tb m⟩⟩
theorem rd_lc {wi : TI} {g : TG} {eb : TT} {ee : TE} {ti : TL} {gp : TGp} {is vs : List Nat} {te : TP} (hi : RdI X.K W wi ti) (hg : RdG X.K is g gp) (hb : RdT X.K W0 eb tt) (he : RdP X.K W0 ee te) (hv : is = vs) :
    ∀ (G0 H0 : Hp) (Γ : Ga) (σ : L2.St) (G H : Hp) (k : KD) (kx : KX) (Q : VK), Fr X.K G0 H0 Γ σ G H → tpLc is ti gp tt te Γ k kx →
      (∀ ds G' H' D, k (.lst ds) → Ext G H G' H' → H D = none → G' D = none → (∃ xs, H' D = some (.lst xs) ∧ DenL X.K G' xs ds) → Q (.ref D) H') → XOk X.K W G H σ kx → tLc wi g eb ee vs σ H Q := by
  subst hv
  intro G0 H0 Γ σ G H k kx Q F ht hk hx
  refine hi G0 H0 Γ σ G H _ kx _ F ht (fun ds J G1 H1 k1 x1 w => ?_) hx
  intro D hD
  have hD0 : H D = none := x1.h.free hD
  refine ⟨fun i m H' => ∃ G' acc ys, m = ds.length - i ∧ i ≤ ds.length ∧ Ext G H G' H' ∧ Same G1 G' ∧ G' D = none ∧ H' D = some (.lst acc) ∧ acc.length ≤ i ∧ DenL X.K G' acc ys ∧ lcW gp tt te (wipeG Γ is) (ds.drop i) (fun zs => k (.lst (ys ++ zs))),
    ⟨ds.length, G1, [], [], by simp, Nat.zero_le _, x1.at_new hD0 (x1.sub.none hD) (.inl hD), Same.refl _, x1.sub.none hD, upd_same, Nat.le_refl _, .nil, k1.2⟩, ?_⟩
  rintro i m H2 ⟨G2, acc, ys, rfl, hi, x2, s2, g2, h2, la, ra, k2⟩
  by_cases hlt : i < ds.length
  · refine .inr ⟨w.go i G2 H2 hlt s2 x2.sub, fun H' => ∃ G' acc ys, i + 1 ≤ ds.length ∧ Ext G H G' H' ∧ Same G1 G' ∧ G' D = none ∧ H' D = some (.lst acc) ∧ acc.length ≤ i + 1 ∧ DenL X.K G' acc ys ∧ lcW gp tt te (wipeG Γ is) (ds.drop (i + 1)) (fun zs => k (.lst (ys ++ zs))),
      fun H' ⟨G', acc, ys, a1, a2, a3, a4, a5, a6, a7, a8⟩ => ⟨ds.length - (i + 1), by omega, G', acc, ys, rfl, a1, a2, a3, a4, a5, a6, a7, a8⟩, fun v H3 y => ?_⟩
    obtain ⟨d, G3, hd, x3, n3⟩ := w.yl i G2 H2 v H3 hlt s2 x2.sub y
    have e : ds.drop i = d :: ds.drop (i + 1) := by
      rw [List.drop_eq_getElem_cons hlt]
      congr 1
      have := List.getElem?_eq_getElem hlt
      rw [hd] at this
      exact (Option.some.inj this).symm
    rw [e] at k2
    have F3 : Fr X.K G0 H0 (wipeG Γ is) (L2.wipe σ is) G3 H3 := (F.up (x2.trans x3)).wipe is
    refine hg G0 H0 _ _ G3 H3 d v _ _ F3 n3 k2 fun Γ4 σ4 k4 F4 hw => ⟨by rw [hw, wipe_sub σ is is (fun _ z => z)], ?_⟩
    refine hb G0 H0 Γ4 σ4 G3 H3 _ _ _ F4 k4 (fun b G5 H5 k5 x5 => ?_) (fun _ _ _ _ _ z => z.elim)
    have hD5 : H5 D = some (.lst acc) := x5.h.lst (x3.h.lst h2)
    have g5 : G5 D = none := x5.nw _ (x3.nw _ g2 ⟨_, h2⟩) ⟨_, x3.h.lst h2⟩
    cases b with
    | true =>
      rw [if_pos rfl]
      refine he G0 H0 Γ4 σ4 G5 H5 _ _ _ (F4.up x5) k5 (fun yd yv G6 H6 k6 x6 n6 => ?_) (fun _ _ _ _ _ z => z.elim)
      have hD6 : H6 D = some (.lst acc) := x6.h.lst hD5
      have g6 : G6 D = none := x6.nw _ g5 ⟨_, hD5⟩
      have hz : ds.length ≤ 100000 := k1.1
      refine ⟨acc, hD6, sz5' (by omega), G6, acc ++ [yv], ys ++ [yd], hlt, ((x2.trans x3).trans (x5.trans x6)).at_new hD0 g6 (.inr ⟨_, hD6, trivial⟩), ((s2.trans x3.g).trans x5.g).trans x6.g, g6, upd_same, by rw [List.length_append, List.length_singleton]; omega,
        (ra.up ((x3.g.trans x5.g).trans x6.g)).append (.cons n6 .nil), ?_⟩
      have e2 : (fun zs => k (.lst (ys ++ [yd] ++ zs))) = fun zs => k (.lst (ys ++ yd :: zs)) := by
        funext zs
        rw [List.append_assoc]
        rfl
      rw [e2]
      exact k6
    | false =>
      rw [if_neg Bool.false_ne_true]
      exact ⟨G5, acc, ys, hlt, (x2.trans x3).trans x5, (s2.trans x3.g).trans x5.g, g5, hD5, by omega, ra.up (x3.g.trans x5.g), k5⟩
  · have e : i = ds.length := by omega
    subst e
    refine .inl ⟨w.st G2 H2 s2 x2.sub, ?_⟩
    rw [List.drop_length] at k2
    have k2 : k (.lst (ys ++ [])) := k2
    rw [List.append_nil] at k2
    exact hk ys G2 H2 D k2 x2 hD0 g2 ⟨acc, h2, ra⟩
theorem lc_parts {elt tg iter : Expr} {ifs : List Expr} {scope : Scope} {own : List (PySem.Str × Nat)} {ti : TL} {gp : TGp} {is : List Nat} {te : TP} (hc : X.calm = true) (hN : X.N.Nodup) (hi : PIt X W tg iter ti) (ok : BlkOk X.N X.env.scope scope own)
    (hg : ∀ i : Bi, PGt (Cx.bl X scope i) tg is gp) (ht : ∀ i : Bi, PBs (Cx.bl X scope i) W0 ifs tt) (he : ∀ i : Bi, PP (Cx.bl X scope i) W0 elt te) (hv : is = own.map (·.2)) (hs : ∀ x, foldedSetIterable iter X.env x = pure x := by intro _; rfl) :
    ∃ ta, PE X (.ListComp elt [⟨tg, iter, ifs, 0⟩] scope pos) ta ∧ ∀ (G0 H0 : Hp) (Γ : Ga) (σ : L2.St) (G H : Hp) (k : KD) (kx : KX) (Q : VK), Fr X.K G0 H0 Γ σ G H → tpLc is ti gp tt te Γ k kx →
      (∀ ds G' H' D, k (.lst ds) → Ext G H G' H' → H D = none → G' D = none → (∃ xs, H' D = some (.lst xs) ∧ DenL X.K G' xs ds) → Q (.ref D) H') → XOk X.K W G H σ kx → ta σ H Q := by
  obtain ⟨wi, pi, ri⟩ := hi.ex
  obtain ⟨g, pg, rg⟩ := pg_unif (Xf := fun i : Bi => Cx.bl X scope i) (K := X.K) (fun _ => rfl) hg
  obtain ⟨eb, pb, rb⟩ := bs_unif (Xf := fun i : Bi => Cx.bl X scope i) (K := X.K) (fun _ => rfl) ht
  obtain ⟨ee, pe, re⟩ := pp_unif (Xf := fun i : Bi => Cx.bl X scope i) (K := X.K) (fun _ => rfl) he ⟨X.s_0, X.H_0, 0, [], []⟩
  exact ⟨_, pe_lc hc hN pi ok (fun s H C cl fp => pg (s, H, C, cl, fp)) (fun s H C cl fp => pb (s, H, C, cl, fp)) (fun s H C cl fp => pe (s, H, C, cl, fp)) hs, rd_lc ri rg rb re hv⟩
theorem p_lc {elt tg iter : Expr} {ifs : List Expr} {scope : Scope} (own : List (PySem.Str × Nat)) {ti : TL} {gp : TGp} {is : List Nat} {te : TP} (hc : X.calm = true) (hN : X.N.Nodup) (hi : PIt X W tg iter ti) (ok : BlkOk X.N X.env.scope scope own)
    (hg : ∀ i : Bi, PGt (Cx.bl X scope i) tg is gp) (ht : ∀ i : Bi, PBs (Cx.bl X scope i) W0 ifs tt) (he : ∀ i : Bi, PP (Cx.bl X scope i) W0 elt te) (hv : is = own.map (·.2) := by rfl) (hs : ∀ x, foldedSetIterable iter X.env x = pure x := by intro _; rfl) :
    PP X W (.ListComp elt [⟨tg, iter, ifs, 0⟩] scope pos) (tpLc is ti gp tt te) := by
  obtain ⟨ta, pa, ra⟩ := lc_parts (pos := pos) hc hN hi ok hg ht he hv hs
  refine ⟨ta, pa, fun G0 H0 Γ σ G H k kx Q F h hk hx => ra G0 H0 Γ σ G H k kx Q F h (fun ds G' H' D kd x hD gD ⟨xs, h1, h2⟩ => ?_) hx⟩
  exact hk _ _ _ H' kd (Ext.thaw x.sub x hD gD h1) (.lst upd_same (h2.up (same_upd gD)))
end
end PL
set_option Elab.async false
set_option linter.all false
set_option maxRecDepth 100000
set_option maxHeartbeats 2000000
namespace PL
open PySem L2 TL
variable [Tabl]
section
variable {X : Cx} {W : WX} {e a b c : Expr} {es : List Expr} {t ta tb tc : TP} {tl tk : TL} {tt tu : TB} {pos p : Pos} {x y z : PySem.Str}
def stores : List Nat → List D → Ga → Option Ga
  | [], [], Γ => some Γ
  | i :: r, d :: s, Γ => stores r s (gset Γ i (.pu d))
  | _, _, _ => none
def tsPar (is : List Nat) (tl : TL) : TSp := fun P Γ => tl Γ (fun ds => match stores is ds Γ with
  | some Γ' => P.nx Γ'
  | none => False) (fun x => P.xx x Γ)
theorem s_par2 (i j : Nat) {px py pt : Pos} {kt k2 pt2} (hc : X.calm = true) (hN : X.N.Nodup) (h : PL' X W [a, b] tl) (hij : i ≠ j := by decide) (hi : X.N[i]? = some x := by rfl) (hj : X.N[j]? = some y := by rfl)
    (hx : X.env.scope.names.lookup x = some .local := by rfl) (hy : X.env.scope.names.lookup y = some .local := by rfl)
    (hw : swappedStores [.Tuple [.Name x px, .Name y py] kt pt] (.Tuple [a, b] k2 pt2) X.env = pure (some [x, y]) := by rfl)
    (hs : swapsWithSole [.Tuple [.Name x px, .Name y py] kt pt] (.Tuple [a, b] k2 pt2) pos.line X.env = pure false := by rfl) :
    PS1 X W (.Assign [.Tuple [.Name x px, .Name y py] kt pt] (.Tuple [a, b] k2 pt2) pos) (tsPar [i, j] tl) := by
  obtain ⟨ea, pa, ra⟩ := h.ex
  refine ⟨_, ps_par hc hN hi hj hij hx hy pa hw hs, fun G0 H0 Γ σ G H P E F ht ok => ?_⟩
  refine ra G0 H0 Γ σ G H _ _ _ F ht (fun ds vs G' H' k xt n => ?_) (ok.x F)
  match ds, k, n with
  | [d1, d2], k, .cons n1 (.cons n2 .nil) => exact ⟨_, _, rfl, ok.nx _ _ G' H' k (((F.up xt).set i n1).set j n2)⟩
theorem s_par3 (i j l : Nat) {px py pz pt : Pos} {kt k2 pt2} (hc : X.calm = true) (hN : X.N.Nodup) (h : PL' X W [a, b, c] tl) (hij : i ≠ j := by decide) (hil : i ≠ l := by decide) (hjl : j ≠ l := by decide) (hi : X.N[i]? = some x := by rfl) (hj : X.N[j]? = some y := by rfl) (hl : X.N[l]? = some z := by rfl)
    (hx : X.env.scope.names.lookup x = some .local := by rfl) (hy : X.env.scope.names.lookup y = some .local := by rfl) (hz : X.env.scope.names.lookup z = some .local := by rfl)
    (hw : swappedStores [.Tuple [.Name x px, .Name y py, .Name z pz] kt pt] (.Tuple [a, b, c] k2 pt2) X.env = pure (some [x, y, z]) := by rfl)
    (hs : swapsWithSole [.Tuple [.Name x px, .Name y py, .Name z pz] kt pt] (.Tuple [a, b, c] k2 pt2) pos.line X.env = pure false := by rfl) :
    PS1 X W (.Assign [.Tuple [.Name x px, .Name y py, .Name z pz] kt pt] (.Tuple [a, b, c] k2 pt2) pos) (tsPar [i, j, l] tl) := by
  obtain ⟨ea, pa, ra⟩ := h.ex
  refine ⟨_, ps_par3 hc hN hi hj hl hij hil hjl hx hy hz pa hw hs, fun G0 H0 Γ σ G H P E F ht ok => ?_⟩
  refine ra G0 H0 Γ σ G H _ _ _ F ht (fun ds vs G' H' k xt n => ?_) (ok.x F)
  match ds, k, n with
  | [d1, d2, d3], k, .cons n1 (.cons n2 (.cons n3 .nil)) => exact ⟨_, _, _, rfl, ok.nx _ _ G' H' k ((((F.up xt).set i n1).set j n2).set l n3)⟩
def tpChain (f g : F2) (ta tb tc : TP) : TP := fun Γ k kx => ta Γ (fun d1 => tb Γ (fun d2 => f d1 d2 fun r => onB r fun q => if q = true then tc Γ (fun d3 => g d2 d3 k) kx else k (.bl false)) kx) kx
theorem p_chain {op op2 : CmpOp} {r r2 : R2} {f g : F2} (ho : OpR X (compareOp op) r ∧ RdO X.K r f) (ho2 : OpR X (compareOp op2) r2 ∧ RdO X.K r2 g) (ha : PU X W a ta) (hb : PU X W b tb) (hc : PU X W c tc) (hpe : ∀ {ea eb ec}, PE X a ea → PE X b eb → PE X c ec → PE X e (tChain r r2 ea eb ec)) :
    PP X W e (tpChain f g ta tb tc) := by
  obtain ⟨ea, pa, ra⟩ := ha.ex
  obtain ⟨eb, pb, rb⟩ := hb.ex
  obtain ⟨ec, pc, rc⟩ := hc.ex
  refine ⟨_, hpe pa pb pc, fun G0 H0 Γ σ G H k kx Q F ht hk hx => ?_⟩
  refine ra G0 H0 Γ σ G H _ kx _ F ht (fun d1 v1 G1 H1 k1 x1 n1 => ?_) hx
  refine rb G0 H0 Γ σ G1 H1 _ kx _ (F.up x1) k1 (fun d2 v2 G2 H2 k2 x2 n2 => ?_) (hx.up x1)
  refine ho.2 H0 G2 H2 v1 v2 d1 d2 _ _ x2.sub (n1.up x2) n2 k2 fun d v G3 H3 k3 x3 n3 => ?_
  obtain ⟨q, rfl, k3⟩ := onB_elim k3
  refine ⟨q, DenU.bl (.inl n3) (H0 := H0) (H := H3), ?_⟩
  have x13 := (x1.trans x2).trans x3
  cases q with
  | true =>
    refine rc G0 H0 Γ σ G3 H3 _ kx _ (F.up x13) k3 (fun d3 v3 G4 H4 k4 x4 n4 => ?_) (hx.up x13)
    exact ho2.2 H0 G4 H4 v2 v3 d2 d3 k Q x4.sub (n2.up (x3.trans x4)) n4 k4 fun d v G' H' kd ex dn => hk d v G' H' kd ((x13.trans x4).trans ex) dn
  | false => exact hk _ _ G3 H3 k3 x13 (.bl _)
end
end PL
set_option Elab.async false
set_option linter.all false
set_option maxRecDepth 100000
set_option maxHeartbeats 2000000
namespace PL
open PySem L2
variable [Tabl]
def hole (H : Hp) (p : Addr) : Hp := fun a => if a = p then none else H a
theorem hole_at {H : Hp} {p : Addr} : hole H p p = none := by unfold hole; rw [if_pos rfl]
theorem hole_ne {H : Hp} {p a : Addr} (h : a ≠ p) : hole H p a = H a := by unfold hole; rw [if_neg h]
theorem hole_same {H : Hp} {p : Addr} : Same (hole H p) H := fun a o e => by
  by_cases h : a = p
  · subst h
    rw [hole_at] at e
    cases e
  · rwa [hole_ne h] at e
/-- the j-th argument is an object of the caller's that the def changes: what it holds behind the call is handed on too -/
abbrev FSo := List D → (D → D → Prop) → KX → Prop
def spOw (K : PySem.W.Frag) (n j : Nat) (fs : FSo) : Sp := fun vs H Q E => ∃ G ds k kx p, vs.length = n ∧ ds.length = n ∧ Sub G H ∧ G p = none ∧ vs[j]? = some (.ref p) ∧ (∃ d, ds[j]? = some d ∧ OwnAt K (hole H p) G H p d) ∧
  (∀ (i : Nat) v d, i ≠ j → vs[i]? = some v → ds[i]? = some d → Den K G v d) ∧ fs ds k kx ∧
  (∀ d e v G' H', k d e → Ext G (hole H p) G' H' → G' p = none → OwnAt K (hole H p) G' H' p e → Den K G' v d → Q v H') ∧
  (∀ x cls dA G' H', kx x → Ext G (hole H p) G' H' → G' p = none → XDen K G' H' cls dA x → E cls dA H')
def oEnds (j : Nat) (p : Addr) (k : D → D → Prop) (kx : KX) : PEn := ⟨fun Γ => match gat Γ j with | .pw q e => q = p ∧ k .non e | _ => False, fun _ => False, fun _ => False, fun d Γ => match gat Γ j with | .pw q e => q = p ∧ k d e | _ => False,
  fun x Γ => match gat Γ j with | .pw q _ => q = p ∧ kx x | _ => False⟩
def gaO (m j : Nat) (p : Addr) (ds : List D) : Ga := gset (ga0 m ds) j (.pw p (ds.getD j .non))
theorem frO {K : PySem.W.Frag} {G H : Hp} {N : List PySem.Str} {vs : List V} {ds : List D} {p : Addr} {j : Nat} {d : D} (s : Sub G H) (hl : vs.length = ds.length) (g : G p = none) (hv : vs[j]? = some (.ref p)) (hd : ds[j]? = some d) (ho : OwnAt K (hole H p) G H p d)
    (hr : ∀ (i : Nat) v d, i ≠ j → vs[i]? = some v → ds[i]? = some d → Den K G v d) : Fr K G (hole H p) (gaO N.length j p ds) (L2.start N vs) G H := by
  have hj : j < ds.length := (List.getElem?_eq_some_iff.mp hd).1
  have hjd : ds.getD j .non = d := by rw [List.getD_eq_getElem?_getD, hd]; rfl
  have la : (ga0 N.length ds).length = (L2.start N vs).length := by unfold L2.start ga0; simp [hl]
  have lj : j < (ga0 N.length ds).length := by unfold ga0; rw [List.length_append, List.length_map]; omega
  have key : ∀ i, i ≠ j → (∃ d, ds[i]? = some d ∧ (ga0 N.length ds)[i]? = some (.pu d)) ∨ (ds.length ≤ i ∧ ∀ s, (ga0 N.length ds)[i]? = some s → s = .un) := fun i _ => by
    by_cases h : i < ds.length
    · refine .inl ⟨ds[i], List.getElem?_eq_getElem h, ?_⟩
      unfold ga0
      rw [List.getElem?_append_left (by rw [List.length_map]; exact h), List.getElem?_map, List.getElem?_eq_getElem h]
      rfl
    · refine .inr ⟨Nat.le_of_not_lt h, fun s e => ?_⟩
      unfold ga0 at e
      rw [List.getElem?_append_right (by rw [List.length_map]; omega)] at e
      have := List.mem_of_getElem? e
      exact (List.mem_replicate.mp this).2
  have pw_only : ∀ (i : Nat) (s : Sl), (gaO N.length j p ds)[i]? = some s → s.owns → i = j := fun i s h ow => by
    by_cases hi : i = j
    · exact hi
    · exfalso
      unfold gaO at h
      rw [gset_eq, List.getElem?_set_ne (Ne.symm hi)] at h
      rcases key i hi with ⟨d, e, q⟩ | ⟨_, q⟩
      · rw [q] at h
        cases h
        exact ow
      · rw [q s h] at ow
        exact ow
  refine ⟨by unfold gaO; rw [gset_eq, List.length_set]; exact la.symm, ⟨.of hole_same, Same.refl G, fun _ h _ => h, s⟩, fun i t h => ?_, fun a b q t u h1 h2 h3 h4 _ _ => (pw_only a t h1 h2).trans (pw_only b u h3 h4).symm⟩
  by_cases hi : i = j
  · subst hi
    unfold gaO at h
    rw [gset_eq, List.getElem?_set_self lj] at h
    cases h
    rw [hjd]
    refine ⟨?_, g, hole_at, ho⟩
    unfold L2.start
    rw [List.getElem?_append_left (by rw [List.length_map, hl]; exact hj), List.getElem?_map, hv]
    rfl
  · unfold gaO at h
    rw [gset_eq, List.getElem?_set_ne (Ne.symm hi)] at h
    rcases key i hi with ⟨d, e, q⟩ | ⟨_, q⟩
    · rw [q] at h
      cases h
      have hi2 : i < vs.length := by rw [hl]; exact (List.getElem?_eq_some_iff.mp e).1
      refine ⟨vs[i], ?_, hr i _ d hi (List.getElem?_eq_getElem hi2) e⟩
      unfold L2.start
      rw [List.getElem?_append_left (by rw [List.length_map]; exact hi2), List.getElem?_map, List.getElem?_eq_getElem hi2]
      rfl
    · rw [q t h]
      trivial
section
variable {P : Program} {w : World} {K : PySem.W.Frag} {mg : PySem.Str → Option Value} {base : Heap}
theorem fn_okO {x qual : PySem.Str} {st : Stmt} {f : Addr} {fd : FuncData} {N ps : List PySem.Str} {k n j : Nat} {fs : FSo} (F : Fun K x qual st f fd) (S : FnScope N ps (defScope st)) (hn : ps.length = n)
    (body : ∀ (cdv : Value) (A : Around) (outer : List Env) (s : Shared) (H : Hp) (E : XK), Room k (A.deeper (PyProof.Rows.envOfC qual (defScope st) s.heap.objs.size f cdv)) →
      ∃ t, PSS (cxOf (L2.CX P w) P w K mg base N qual (defScope st) f cdv A outer s H E) (fun cls d _ H => E cls d H) (defBody st) t ∧ ∀ ds kd kx p, ds.length = n → fs ds kd kx → t (oEnds j p kd kx) (gaO N.length j p ds)) :
    FnOk P w K mg base (L2.CX P w) (k + 1) f fd ps (spOw K n j fs) := by
  refine F.okX S (fun vs H Q E h => ?_) (fun cdv A outer s H vs Q E hr h => ?_)
  · obtain ⟨G, ds, kd, kx, p, b, _⟩ := h
    rw [b, hn]
  · obtain ⟨G, ds, kd, kx, p, hlv, hl, sb, g, hv, ⟨d, hd, ho⟩, r, hf, hk, hx⟩ := h
    obtain ⟨t, ⟨ts, ps, rd⟩, ht⟩ := body cdv A outer s H E hr
    have F0 := frO (N := N) sb (hlv.trans hl.symm) g hv hd ho r
    have fin : ∀ {Γ σ G' H'} {k0 : D → Prop}, (match gat Γ j with | .pw q e => q = p ∧ k0 e | _ => False) → Fr K G (hole H p) Γ σ G' H' → ∃ e, k0 e ∧ G' p = none ∧ OwnAt K (hole H p) G' H' p e := fun {Γ σ G' H' k0} q F' => by
      cases e : gat Γ j with
      | pw q2 e2 =>
        rw [e] at q
        obtain ⟨rfl, q⟩ := q
        obtain ⟨_, g2, _, o2⟩ := F'.at_ j _ (gat_get Γ j _ e (by simp))
        exact ⟨e2, q, g2, o2⟩
      | _ => rw [e] at q; exact q.elim
    refine ⟨ts, ps, rd G (hole H p) _ (L2.start N vs) G H (oEnds j p kd kx) _ F0 (ht ds kd kx p hl hf) ⟨?_, ?_, ?_, ?_, ?_⟩⟩
    · intro Γ σ G' H' q F'
      obtain ⟨e, q, g2, o2⟩ := fin q F'
      exact hk .non e .non G' H' q F'.e g2 o2 .non
    · intro Γ σ G' H' q
      exact q.elim
    · intro Γ σ G' H' q
      exact q.elim
    · intro d v Γ σ G' H' q F' n
      obtain ⟨e, q, g2, o2⟩ := fin q F'
      exact hk d e v G' H' q F'.e g2 o2 n
    · intro x cls dA Γ σ G' H' q F' n
      obtain ⟨e, q, g2, o2⟩ := fin (k0 := fun _ => kx x) q F'
      exact hx x cls dA G' H' q F'.e g2 n
end
section
variable {X : Cx} {W : WX} {e a b c : Expr} {es : List Expr} {t ta tb tc : TP} {tl tk : TL} {tt tu : TB} {pos p : Pos} {x y z : PySem.Str}
def tsSetIx (i : Nat) (ti te : TP) : TSp := fun P Γ => te Γ (fun d => onOL Γ i fun ds => ti Γ (fun j => match j with
  | .int n => match ixN ds.length n with
    | some m => P.nx (oput Γ i (.lst (ds.set m d)))
    | none => False
  | _ => False) (fun x => P.xx x Γ)) (fun x => P.xx x Γ)
theorem rd_setIx {ei ee : TE} {ti te : TP} (i : Nat) (ri : RdP X.K W ei ti) (re : RdP X.K W ee te) : RdS X.K W (tAsg ee (gSub (tVar i) ei rSetL)) (tsSetIx i ti te) := by
  intro G0 H0 Γ σ G H P E F ht ok
  refine re G0 H0 Γ σ G H _ _ _ F ht (fun d v G1 H1 k1 x1 n1 => ?_) (ok.x F)
  obtain ⟨ds, hs, k1⟩ := onOL_elim k1
  have F1 := F.up x1
  obtain ⟨key, p, e1, g1, h01, xs0, q1, q2⟩ := own_at F1 hs
  refine ⟨.ref p, e1, ?_⟩
  refine ri G0 H0 Γ σ G1 H1 _ _ _ F1 k1 (fun d2 v2 G2 H2 k2 x2 n2 => ?_) ((ok.x F).up x1)
  cases d2 with
  | int n =>
    cases n2
    cases e : ixN ds.length n with
    | none => simp only [e] at k2
    | some m =>
      simp only [e] at k2
      have F2 := F1.up x2
      obtain ⟨_, p', e2, g2, h02, xs, q3, q4⟩ := own_at F2 hs
      rw [e1] at e2
      cases e2
      refine ⟨p, xs, n, m, rfl, rfl, q3, by rw [q4.length]; exact e, ?_⟩
      exact ok.nx _ _ _ _ k2 (F2.mut key hs e1 g2 h02 q3 trivial ⟨_, upd_same, q4.set (n1.up x2.g) m⟩)
  | _ => exact k2.elim
theorem s_setIx (i : Nat) {o ix : Expr} {ti te : TP} {p2 : Pos} (ho : PE X o (tVar i)) (hi : PP X W ix ti) (he : PP X W e te) (hps : ∀ {ei ee}, PE X ix ei → PE X e ee → PS X (.Assign [.Subscript o ix p2] e pos) (tAsg ee (gSub (tVar i) ei rSetL))) :
    PS1 X W (.Assign [.Subscript o ix p2] e pos) (tsSetIx i ti te) := by
  obtain ⟨ei, pi, ri⟩ := hi.ex
  obtain ⟨ee, pe, re⟩ := he.ex
  exact ⟨_, hps pi pe, rd_setIx i ri re⟩
end
section
variable {P : Program} {w : World}
theorem bag_vals {l : Addr} {i g s : Int} {its : List Value} (h : Vals [.ref l, .int i, .int g, .int s] its) : ∃ t1 t2 t3, its = [.ref l, .int i t1, .int g t2, .int s t3] := by
  cases h with
  | cons h1 h =>
    cases h with
    | cons h2 h =>
      cases h with
      | cons h3 h =>
        cases h with
        | cons h4 h =>
          cases h
          cases h1
          obtain ⟨t1, rfl⟩ := h2
          obtain ⟨t2, rfl⟩ := h3
          obtain ⟨t3, rfl⟩ := h4
          exact ⟨t1, t2, t3, rfl⟩
/-- the list is hidden -/
theorem bag_close {H : Hp} {h : Heap} {b l : Addr} {i n : Nat} {g s : Int} (ok : HOk P w H h) (hb : H b = some (.lst [.ref l, .int i, .int g, .int s])) (hi : i ≤ n) (hg : 0 ≤ g) (h0 : 0 ≤ s) (h1 : s < 2147483543) : HOk P w (upd H b (.ext (BagRaw b l n))) h := by
  intro c o e
  by_cases hc : c = b
  · subst hc
    rw [upd_same] at e
    cases e
    obtain ⟨_, its, m, r, q⟩ := (show ObjOk P w H h c (.lst [.ref l, .int i, .int g, .int s]) from ok c _ hb)
    obtain ⟨t1, t2, t3, rfl⟩ := bag_vals r
    exact ⟨⟨m, i, g, s, t1, t2, t3, hi, hg, h0, h1, q⟩, ⟨_, q⟩, fun h1 h2 ⟨m, i, g, s, t1, t2, t3, a1, a2, a3, a4, a5⟩ k => ⟨m, i, g, s, t1, t2, t3, a1, a2, a3, a4, k _ a5⟩⟩
  · rw [upd_ne hc] at e
    refine (ok c o e).stay (fun _ _ _ q => q) (fun d q => ?_) (fun d xs q => ?_)
    · rw [upd_ne (fun z => by rw [z, hb] at q; cases q)]
      exact q
    · rw [upd_ne (fun z => by rw [z, hb] at q; cases q)]
      exact q
/-- .. is seen -/
theorem bag_open {H : Hp} {h : Heap} {b l : Addr} {n : Nat} (ok : HOk P w H h) (hb : H b = some (.ext (BagRaw b l n))) : ∃ (i : Nat) (g s : Int), i ≤ n ∧ 0 ≤ g ∧ 0 ≤ s ∧ s < 2147483543 ∧ HOk P w (upd H b (.lst [.ref l, .int i, .int g, .int s])) h := by
  obtain ⟨⟨m, i, g, s, t1, t2, t3, a1, a2, a3, a4, a5⟩, _, _⟩ := (show ObjOk P w H h b (.ext (BagRaw b l n)) from ok b _ hb)
  refine ⟨i, g, s, a1, a2, a3, a4, fun c o e => ?_⟩
  by_cases hc : c = b
  · subst hc
    rw [upd_same] at e
    cases e
    exact ⟨by show 4 ≤ sizeLine; decide, [.ref l, .int i t1, .int g t2, .int s t3], m, .cons rfl (.cons ⟨t1, rfl⟩ (.cons ⟨t2, rfl⟩ (.cons ⟨t3, rfl⟩ .nil))), a5⟩
  · rw [upd_ne hc] at e
    refine (ok c o e).stay (fun _ _ _ q => q) (fun d q => ?_) (fun d xs q => ?_)
    · rw [upd_ne (fun z => by rw [z, hb] at q; cases q)]
      exact q
    · rw [upd_ne (fun z => by rw [z, hb] at q; cases q)]
      exact q
theorem un_close {fs : List Addr} {H H' : Hp} {h h' : Heap} {b l : Addr} {n : Nat} {xs : List V} (u : Un fs [] H H' h h') (hb : H' b = some (.lst xs)) (h0 : H b = none ∨ ∃ φ, H b = some (.ext φ)) : Un fs [] H (upd H' b (.ext (BagRaw b l n))) h h' where
  keep := u.keep
  slot := u.slot
  free := fun c o q z hx => by
    have e := u.free c o q z hx
    rw [upd_ne (fun z => by rw [z, hb] at e; cases e)]
    exact e
  there := u.there
  tups := fun c ys z => by
    have e := u.tups c ys z
    rw [upd_ne (fun z => by rw [z, hb] at e; cases e)]
    exact e
  frzs := fun c o v z => by
    have e := u.frzs c o v z
    rw [upd_ne (fun z => by rw [z, hb] at e; cases e)]
    exact e
  tbls := fun c ps z => by
    obtain ⟨more, e⟩ := u.tbls c ps z
    exact ⟨more, by rw [upd_ne (fun z => by rw [z, hb] at e; cases e)]; exact e⟩
theorem un_open {fs : List Addr} {H H' : Hp} {h h' : Heap} {b : Addr} {φ : Heap → Prop} {o : HO} (u : Un fs [] (upd H b o) H' h h') (hb : H b = some (.ext φ)) : Un fs [] H H' h h' where
  keep := fun c o q z hf hx => u.keep c o q (by rw [upd_ne (fun y => by rw [y, hb] at z; cases z)]; exact z) hf hx
  slot := fun c o q z hf hx => u.slot c o q (by rw [upd_ne (fun y => by rw [y, hb] at z; cases z)]; exact z) hf hx
  free := fun c o q z hx => u.free c o q (by rw [upd_ne (fun y => by rw [y, hb] at z; cases z)]; exact z) hx
  there := u.there
  tups := fun c ys z => u.tups c ys (by rw [upd_ne (fun y => by rw [y, hb] at z; cases z)]; exact z)
  frzs := fun c o v z => u.frzs c o v (by rw [upd_ne (fun y => by rw [y, hb] at z; cases z)]; exact z)
  tbls := fun c ps z => u.tbls c ps (by rw [upd_ne (fun y => by rw [y, hb] at z; cases z)]; exact z)
variable {K : PySem.W.Frag} {mg : PySem.Str → Option Value} {base : Heap}
/-- a number below n is drawn -/
def fsPull : FS := fun ds k _ => match ds with
  | [.bag, .int n] => (1 ≤ n ∧ n < 1073741824) ∧ ∀ r : Int, 0 ≤ r → r < n → k (.int r)
  | _ => False
/-- what the body of the drawing must do -/
def PullOk (fs : FSo) : Prop := ∀ (l : Addr) (ns : List Int) (i : Nat) (g s n : Int) (k : D → D → Prop), ns.length ≤ 63 → i ≤ ns.length → 0 ≤ g → 0 ≤ s → s < 2147483543 → 1 ≤ n → n < 1073741824 →
  (∀ (r : Int) (i' : Nat) (g' s' : Int), 0 ≤ r → r < n → i' ≤ ns.length → 0 ≤ g' → 0 ≤ s' → s' < 2147483543 → k (.int r) (.lst [.cel l ns, .int i', .int g', .int s'])) →
  fs [.lst [.cel l ns, .int i, .int g, .int s], .int n] k (fun _ => False)
theorem denL_bag {K : PySem.W.Frag} {G : Hp} {l : Addr} {ns : List Int} {i g s : Int} {xs : List V} (h : DenL K G xs [.cel l ns, .int i, .int g, .int s]) : xs = [.ref l, .int i, .int g, .int s] := by
  cases h with
  | cons h1 h =>
    cases h with
    | cons h2 h =>
      cases h with
      | cons h3 h =>
        cases h with
        | cons h4 h =>
          cases h
          cases h1
          cases h2
          cases h3
          cases h4
          rfl
theorem pull_conv {f : Addr} {fd : FuncData} {ps : List PySem.Str} {k : Nat} {fs : FSo} (F : FnOk P w K mg base (L2.CX P w) k f fd ps (spOw K 2 0 fs)) (hn : ps.length = 2) (hp : PullOk fs) : FnOk P w K mg base (L2.CX P w) k f fd ps (spOf K 2 fsPull) := by
  refine ⟨fun vs H Q E h => ?_, fun A outer s H args us vs Q E hr he hb hv h => ?_⟩
  · obtain ⟨G, ds, kd, kx, _, b, c, _⟩ := h
    rw [b.length, c, hn]
  · obtain ⟨G, ds, kd, kx, sb, r, hl, hf, hk, hx⟩ := h
    match ds, r, hf with
    | [.bag, .int n], .cons (.bag (a := b) ⟨l, ns, gb, gl, nbl, n63⟩) (.cons (.int _) .nil), ⟨⟨hn1, hn2⟩, hf⟩ =>
      have Hb : H b = some (.ext (BagRaw b l ns.length)) := sb.at_ gb (fun z => z)
      have Hl : H l = some (.lst (ns.map V.int)) := sb.at_ gl (fun z => z)
      obtain ⟨i, g, sd, a1, a2, a3, a4, ok1⟩ := bag_open he.hok Hb
      have nb : ∀ {c}, H c = none → c ≠ b := fun {c} z y => by rw [y, Hb] at z; cases z
      have e1 : Env0 P w K mg base A outer s (upd H b (.lst [.ref l, .int i, .int g, .int sd])) :=
        ⟨he.frames, he.mod, fun c o q => ⟨(he.bs c o q).1, by rw [upd_ne (nb (he.bs c o q).2)]; exact (he.bs c o q).2⟩, he.bsz, he.funs, fun c q => by rw [upd_ne (nb (he.frf c q))]; exact he.frf c q, ok1, he.bare⟩
      have g1 : hole G b b = none := hole_at
      have gl1 : hole G b l = some (.lst (ns.map V.int)) := by rw [hole_ne (Ne.symm nbl)]; exact gl
      have nco : ∀ {c : Addr} {q : PySem.Str}, H c = some (LamX.CodeO c q) → c ≠ b := fun {c q} e z => by
        subst z
        have e2 := Option.some.inj (e.symm.trans Hb)
        obtain ⟨⟨_, _, _, _, _, _, _, _, _, _, _, a5⟩, _⟩ := (show ObjOk P w H s.heap c (.ext (BagRaw c l ns.length)) from he.hok c _ Hb)
        obtain ⟨⟨oc, vs, t, b1, b2, b3⟩, _⟩ := (show ObjOk P w H s.heap c (LamX.CodeO c q) from he.hok c _ e)
        rw [a5] at b1
        cases b1
        cases b2
      have tb1 : LamX.Tabs Tabl.T (upd H b (.lst [.ref l, .int i, .int g, .int sd])) := fun q hq => by
        obtain ⟨ps, h1, h2, h3⟩ := sb.tb q hq
        have nT : q.1 ≠ b := fun z => by rw [z, Hb] at h1; cases h1
        refine ⟨ps, by rw [upd_ne nT]; exact h1, h2, fun pos cv hc => ?_⟩
        obtain ⟨c, e1, e2⟩ := h3 pos cv hc
        exact ⟨c, e1, by rw [upd_ne (nco e2)]; exact e2⟩
      have sb1 : Sub (hole G b) (upd H b (.lst [.ref l, .int i, .int g, .int sd])) := ⟨fun c o q => by
        have hc : c ≠ b := fun z => by rw [z, g1] at q; cases q
        rw [hole_ne hc] at q
        rw [upd_ne hc]
        exact sb.m c o q, fun c o q => by
        have hc : c ≠ b := fun z => by rw [z, g1] at q; cases q
        rw [hole_ne hc] at q
        exact sb.nt c o q, tb1⟩
      refine codeAny_mono (F.run A outer s (upd H b (.lst [.ref l, .int i, .int g, .int sd])) args us _ (fun v H' => ∃ (d : D) (i' : Nat) (g' s' : Int) (G' : Hp), kd d ∧ i' ≤ ns.length ∧ 0 ≤ g' ∧ 0 ≤ s' ∧ s' < 2147483543 ∧
          Ext (hole G b) (hole (upd H b (.lst [.ref l, .int i, .int g, .int sd])) b) G' H' ∧ G' b = none ∧ H' b = some (.lst [.ref l, .int i', .int g', .int s']) ∧ Den K G' v d) E0 hr e1 hb hv ?_) (fun rs s' hq => ?_)
      · refine ⟨hole G b, [.lst [.cel l ns, .int i, .int g, .int sd], .int n], fun d e => ∃ (r : Int) (i' : Nat) (g' s' : Int), d = .int r ∧ kd d ∧ i' ≤ ns.length ∧ 0 ≤ g' ∧ 0 ≤ s' ∧ s' < 2147483543 ∧ e = .lst [.cel l ns, .int i', .int g', .int s'], fun _ => False, b, rfl, rfl, sb1, g1, rfl, ⟨_, rfl, ?_⟩, ?_, ?_, ?_, ?_⟩
        · exact ⟨_, upd_same, .cons (.cel gl1) (.cons (.int _) (.cons (.int _) (.cons (.int _) .nil)))⟩
        · intro j v d hj hv hd
          match j, hj with
          | 0, hj => exact absurd rfl hj
          | 1, _ =>
            cases hv
            cases hd
            exact .int _
          | j + 2, _ => simp at hv
        · exact hp l ns i g sd n _ n63 a1 a2 a3 a4 hn1 hn2 fun r i' g' s' b1 b2 b3 b4 b5 b6 => ⟨r, i', g', s', rfl, hf r b1 b2, b3, b4, b5, b6, rfl⟩
        · rintro d e v G' H' ⟨r, i', g', s', _, kk, b3, b4, b5, b6, rfl⟩ x gp ⟨xs, o1, o2⟩ dn
          rw [denL_bag o2] at o1
          exact ⟨d, i', g', s', G', kk, b3, b4, b5, b6, x, gp, o1, dn⟩
        · intro x cls dA G' H' z
          exact z.elim
      · cases rs with
        | error e => exact (by obtain ⟨_, _, _, _, _, _, _, _, _, _, _, _, z⟩ := hq; exact z.elim)
        | ok fl =>
          cases fl with
          | ret u =>
            obtain ⟨v, H', os, bare, un, hok, rv, d, i', g', z', G', kk, b3, b4, b5, b6, x, gp, hb', dn⟩ := hq
            have un1 : Un (frs outer) [] H H' s.heap s'.heap := un_open un Hb
            refine ⟨v, upd H' b (.ext (BagRaw b l ns.length)), os, bare, un_close un1 hb' (.inr ⟨_, Hb⟩), bag_close hok hb' b3 b4 b5 b6, rv, ?_⟩
            have same' : Same G' (upd G' b (.ext (BagRaw b l ns.length))) := same_upd gp
            refine hk d v (upd G' b (.ext (BagRaw b l ns.length))) _ kk ⟨⟨fun c o q nt => ?_, fun c o q => ?_, fun t q hq => tab_upd (x.sub.tb q hq) hb' trivial⟩, fun c o q => ?_, fun c q ⟨o, z⟩ => ?_, ⟨fun c o q => ?_, fun c o q => ?_, fun q hq => tab_upd (x.sub.tb q hq) hb' trivial⟩⟩ (dn.up same')
            · by_cases hc : c = b
              · subst hc
                rw [Hb] at q
                cases q
                exact upd_same
              · rw [upd_ne hc]
                exact x.h.k c o (by rw [hole_ne hc, upd_ne hc]; exact q) nt
            · by_cases hc : c = b
              · subst hc
                exact ⟨_, upd_same⟩
              · rw [upd_ne hc]
                exact x.h.t c o (by rw [hole_ne hc, upd_ne hc]; exact q)
            · by_cases hc : c = b
              · subst hc
                rw [gb] at q
                cases q
                exact upd_same
              · rw [upd_ne hc]
                exact x.g c o (by rw [hole_ne hc]; exact q)
            · have hc : c ≠ b := fun y => by rw [y, gb] at q; cases q
              rw [upd_ne hc]
              exact x.nw c (by rw [hole_ne hc]; exact q) ⟨o, by rw [hole_ne hc, upd_ne hc]; exact z⟩
            · by_cases hc : c = b
              · subst hc
                rw [upd_same] at q ⊢
                exact .inl q
              · rw [upd_ne hc] at q ⊢
                exact x.sub.m c o q
            · by_cases hc : c = b
              · subst hc
                rw [upd_same] at q
                cases q
                intro ps z
                cases z
              · rw [upd_ne hc] at q
                exact x.sub.nt c o q
          | next => exact False.elim hq
          | brk => exact False.elim hq
          | cont => exact False.elim hq
end
end PL
set_option Elab.async false
set_option linter.all false
set_option maxRecDepth 100000
set_option maxHeartbeats 4000000
namespace PySem
namespace ExcX
open PySem.W PySem.Calls PyProof.Rows PySem.HandSPX
/-- __init__(self, f) -/
def xA (f : Str) (p1 p2 : Pos) : Arguments := { posonlyargs := [], args := [{ arg := "self", annotation := none, pos := p1 }, { arg := f, annotation := none, pos := p2 }], vararg := none, kwonlyargs := [], kw_defaults := [], kwarg := none, defaults := [] }
def xHead (cn : Str) (q0 q1 q2 q3 q4 q5 q6 q7 q8 q9 : Pos) (rest : List Stmt) : List Stmt :=
  .Expr (.Call (.Attribute (.Call (.Name "super" q0) [] [] q1) "__init__" q2) [.Constant (.str cn) 0 q3] [] q4) q5 ::
  .Assign [.Attribute (.Name "self" q6) "tag" q7] (.Constant (.str cn) 0 q8) q9 :: rest
def xF (f : Str) (r0 r1 r2 r3 : Pos) : List Stmt := [.Assign [.Attribute (.Name "self" r0) f r1] (.Name f r2) r3]
def xS (f : Str) : Scope := { kind := .function, names := [("self", .local), (f, .local), ("__class__", .free), ("super", .globalImplicit)], isGenerator := false, isCoroutine := false }
/-- super().__init__('..') on one line -/
def SupEv (cn : Str) (q0 q1 q2 q3 q4 : Pos) : Prop := ∀ env : Env, ∃ pl : Sem Bool, eval (.Call (.Attribute (.Call (.Name "super" q0) [] [] q1) "__init__" q2) [.Constant (.str cn) 0 q3] [] q4) env = (do
  let ov ← attributeBase (.Call (.Name "super" q0) [] [] q1) "__init__" env (eval (.Call (.Name "super" q0) [] [] q1) env)
  standAt q2.atName
  let (f, first) ← holding [ov] (getMethod ov "__init__" pl)
  callWith q4 f first (backTo q4 (starEach [.Constant (.str cn) 0 q3] env)) [])
/-- the text of the class's __init__ -/
structure XText (st : Stmt) (cn f : Str) : Prop where
  args : ∃ p1 p2, L2.defArgs st = xA f p1 p2
  body : ∃ q0 q1 q2 q3 q4 q5 q6 q7 q8 q9 r0 r1 r2 r3, L2.defBody st = xHead cn q0 q1 q2 q3 q4 q5 q6 q7 q8 q9 (xF f r0 r1 r2 r3) ∧ SupEv cn q0 q1 q2 q3 q4
  scope : L2.defScope st = xS f
  ne1 : ("self" : Str) ≠ f
  ne2 : ("super" : Str) ≠ f
  ne3 : ("__class__" : Str) ≠ f
  ne4 : ("tag" : Str) ≠ f
  ne5 : (f == ("__debug__" : Str)) = false
  ne6 : (f == ("__classdict__" : Str)) = false
  bind : ∀ (qual : Str) (body : List Stmt) (sc : Scope) (doc pm : Value) (an : Option Addr) (cdv ct : Value) (cc : Addr) (u v : Value), bindArgs (ksFn "__init__" qual (L2.defArgs st) body sc .none .none doc pm an cdv ct cc) ⟨[u, v], []⟩ = pure [(("self" : Str), u), (f, v)]
/-- the class cn at C, its __init__ at fI, its cell at cc, the code of __init__ at cda -/
structure XC (P : Program) (K : Frag) (mg : Str → Option Value) (cn f : Str) (C : Addr) : Prop where
  gC : mg cn = some (.ref C)
  cls : ∃ nm q N bs bm sn sub ab col dd k0 k1 k2 k3 k5, K.lookup C = some (excClassObj nm q C N bs bm true sn sub ab col dd k0 k1 k2 k3 k5 "ValueError.__new__") ∧ refsVE bm = true
  sa : findIn K (.ref C) "__setattr__" = some (some (.builtin "object.__setattr__"))
  ga : findIn K (.ref C) "__getattribute__" = some (some (.builtin "BaseException.__getattribute__"))
  gg : findIn K (.ref C) "__getattr__" = some none
  noF : findIn K (.ref C) f = some none
  noT : findIn K (.ref C) "tag" = some none
  kC : keepIn K (.ref C) = true
  exC : subIn K (.ref C) (.type "BaseException") = some true
  veC : subIn K (.ref C) (.type "ValueError") = some true
  tyC : typeIn K (.ref C) = some (.type "type")
  hdC : hasDictIn K C = true
  sub : mroIn K C (.ref C) = some true
  sup : mg "super" = none
  supI : ks_superIn K C C "__init__" = some (some (.builtin "ValueError.__init__"))
  opq : nsIn K cStatics "thirdparty.any" = some none
  fn : ∃ (st : Stmt) (fI cda cc : Addr) (oc : Value) (od : Option Addr) (qual : Str) (doc pm : Value) (an : Option Addr) (ct : Value) (osl : Array (Option Value)) (ccl : Value) (cdd : Option Addr) (vs : Array Value) (ccs : Array (Option Value)) (file : Str) (tf : Tok) (cl : Value) (cld : Option Addr) (csl : Array (Option Value)),
    findIn K (.ref C) "__init__" = some (some (.ref fI)) ∧ typeIn K (.ref fI) = some (.type "function") ∧
    K.lookup fI = some ⟨oc, od, .func (ksFn "__init__" qual (L2.defArgs st) (L2.defBody st) (L2.defScope st) .none .none doc pm an (.ref cda) ct cc), osl⟩ ∧ codeIn K (.ref cda) qual = true ∧
    K.lookup cda = some ⟨ccl, cdd, .fields vs, ccs⟩ ∧ vs[2]? = some (.str file tf) ∧ ((P.main.file : Str) == file) = true ∧
    K.lookup cc = some ⟨cl, cld, .cell (some (.ref C)), csl⟩ ∧ XText st cn f
  htop : (P.main.scope.names.lookup ("super" : Str)).isSome = false
theorem xS_self {f : Str} : (xS f).names.lookup ("self" : Str) = some .local := rfl
theorem xS_f {f : Str} (h : ("self" : Str) ≠ f) : (xS f).names.lookup f = some .local := by
  have e : (f == ("self" : Str)) = false := by simpa using fun z : f = "self" => h z.symm
  show List.lookup f [(("self" : Str), NameKind.local), (f, .local), ("__class__", .free), ("super", .globalImplicit)] = _
  rw [List.lookup_cons, e]
  simp [List.lookup]
theorem xS_c {f : Str} (h : ("__class__" : Str) ≠ f) : (xS f).names.lookup ("__class__" : Str) = some .free := by
  have e : (("__class__" : Str) == f) = false := by simpa using h
  show List.lookup ("__class__" : Str) [(("self" : Str), NameKind.local), (f, .local), ("__class__", .free), ("super", .globalImplicit)] = _
  rw [List.lookup_cons, show (("__class__" : Str) == "self") = false by decide]
  show List.lookup ("__class__" : Str) [(f, NameKind.local), ("__class__", .free), ("super", .globalImplicit)] = _
  rw [List.lookup_cons, e]
  rfl
theorem xS_s {f : Str} (h : ("super" : Str) ≠ f) : (xS f).names.lookup ("super" : Str) = some .globalImplicit := by
  have e : (("super" : Str) == f) = false := by simpa using h
  show List.lookup ("super" : Str) [(("self" : Str), NameKind.local), (f, .local), ("__class__", .free), ("super", .globalImplicit)] = _
  rw [List.lookup_cons, show (("super" : Str) == "self") = false by decide]
  show List.lookup ("super" : Str) [(f, NameKind.local), ("__class__", .free), ("super", .globalImplicit)] = _
  rw [List.lookup_cons, e]
  rfl
/-- what __init__ leaves of a fresh exception at x -/
structure IEnd (h h' : Heap) (x C dx t1 : Addr) (cn f : Str) (v : Value) : Prop where
  keep : ∀ b o, b ≠ x → h.get? b = some o → h'.get? b = some o
  obj : h'.get? x = some { cls := .ref C, dict := some dx, data := .fields #[.ref t1, .none, .none, .none, .bool false, .none] }
  dbig : h.objs.size ≤ dx
  dne : dx ≠ x
  ns : ∃ tk : Tok, h'.Ns1 dx (fun y => if y = f then some v else if y = "tag" then some (.str cn tk) else none)
section
variable {prog : Program} {w : World} {A : Around} {R : Result → Shared → Prop} {s : Shared} {K : Frag} {mg : Str → Option Value} {cn f : Str} {C fI : Addr}
theorem x_init (T : XC prog K mg cn f C) (iC : findIn K (.ref C) "__init__" = some (some (.ref fI))) {x t0 : Addr} {v : Value} (X : K.In s.heap) (G : s.heap.Ns mainGlobals mg) (B : ∃ mb, s.heap.Ns builtinsNs mb ∧ ∀ x : Str, x ≠ "__name__" → mb x = bootBuiltins x) (hlim : s.heap.NoLimit)
    (hx : s.heap.get? x = some (excO C t0)) (hnx : K.lookup x = none) (hroom : A.depth < recursionLimit) (hcn : cn.length ≤ sizeLine)
    (hq : ∀ h' tk dx t1, IEnd s.heap h' x C dx t1 cn f v → R (.ok (.ret .none)) { s with heap := h', toks := tk }) :
    codeAny (model prog w) A (.call (.ref fI) ⟨[.ref x, v], []⟩) R s := by
  obtain ⟨st, fI', cda, cc, oc, od, qual, doc, pm, an, ct, osl, ccl, cdd, vs, ccs, file, tf, cl, cld, csl, iC', tI, ho, hcd, hcode, hvs, hfile, hcell, TX⟩ := T.fn
  rw [iC] at iC'
  cases iC'
  obtain ⟨p1, p2, ea⟩ := TX.args
  obtain ⟨q0, q1, q2, q3, q4, q5, q6, q7, q8, q9, r0, r1, r2, r3, eb, sev⟩ := TX.body
  have es := TX.scope
  rw [ea, eb, es] at ho
  obtain ⟨nm, q, N, bs, bm, sn, sub, ab, col, dd, k0, k1, k2, k3, k5, hC, hbm⟩ := T.cls
  have hcl : clsIn K C = some { name := nm, bases := bs, mro := .ref C :: bm, ns := N, qualname := q, hasDict := true, slotNames := sn, subclasses := sub, abstract := ab, collection := col, hasDel := false } := by unfold clsIn; rw [hC] <;> rfl
  have nS : (f == ("self" : Str)) = false := by simpa using fun z : f = "self" => TX.ne1 z.symm
  have nS' : (("self" : Str) == f) = false := by simpa using TX.ne1
  refine ks_codeAny_call_defAt (fd := ksFn "__init__" qual (xA f p1 p2) (xHead cn q0 q1 q2 q3 q4 q5 q6 q7 q8 q9 (xF f r0 r1 r2 r3)) (xS f) .none .none doc pm an (.ref cda) ct cc) (body := xHead cn q0 q1 q2 q3 q4 q5 q6 q7 q8 q9 (xF f r0 r1 r2 r3)) (binds := [("self", .ref x), (f, v)])
    hroom (X _ _ ho) rfl hlim (codeRec_of X hcd) rfl (BindsTo.of_eq (by rw [← ea]; exact TX.bind _ _ _ _ _ _ _ _ _ _ _)) (fun y hy => ?_) (fun y hy => ?_) (fun h₁ hns k => ?_)
  · have hy : y ∈ [(("self" : Str), NameKind.local), (f, .local), ("__class__", .free), ("super", .globalImplicit)] := hy
    simp at hy
    rcases hy with rfl | rfl | rfl | rfl <;> simp
  · simp at hy
    rcases hy with rfl | rfl
    · exact xS_self
    · exact xS_f TX.ne1
  · have eS : ([(("self" : Str), Value.ref x), (f, v)] : List (Str × Value)).reverse.lookup ("self" : Str) = some (.ref x) := by
      show List.lookup ("self" : Str) [(f, v), ("self", .ref x)] = _
      rw [List.lookup_cons, nS']
      rfl
    have eF : ([(("self" : Str), Value.ref x), (f, v)] : List (Str × Value)).reverse.lookup f = some v := by
      show List.lookup f [(f, v), ("self", .ref x)] = _
      simp [List.lookup]
    have X₁ : K.In h₁ := X.keeps k
    have hx₁ := k _ _ hx
    have hxL : s.heap.objs.size ≠ x := Nat.ne_of_gt (Heap.lt_size hx)
    obtain ⟨oD, hD1, hD2⟩ : ∃ oD, h₁.get? C = some oD ∧ ∃ cd, oD.data = .cls cd := ⟨_, X₁ _ _ hC, _, rfl⟩
    obtain ⟨cdD, hD2⟩ := hD2
    obtain ⟨mb, B1, B2⟩ := B
    obtain ⟨pl, sev⟩ := sev (callEnv (ksFn "__init__" qual (xA f p1 p2) (xHead cn q0 q1 q2 q3 q4 q5 q6 q7 q8 q9 (xF f r0 r1 r2 r3)) (xS f) .none .none doc pm an (.ref cda) ct cc) s.heap.objs.size fI)
    refine ks_wpAt_execs_cons (ks_wpAt_Expr_any (ks_wpAt_MethodCall (pl := pl) ?_ sev))
    refine ks_wpAt_super_base (env := ksEnv qual (xS f) s.heap.objs.size fI (.ref cda) cc) (xS_s TX.ne2) (xS_c TX.ne3) (by decide) rfl (X₁ _ _ ho) rfl rfl rfl (X₁ _ _ hcode) rfl hvs hfile T.htop ?_
    refine ks_loadName_global rfl (xS_s TX.ne2) (loadGlobal_builtin (env := ksEnv qual (xS f) s.heap.objs.size fI (.ref cda) cc) (G.keeps k) T.sup (B1.keeps k) ((B2 _ (by decide +kernel)).trans (by decide +kernel : bootBuiltins "super" = some (.type "super"))) ⟨rfl, ?_⟩)
    refine wpAny_loadName_free rfl (xS_c TX.ne3) rfl ⟨_, X₁ _ _ hcell, rfl⟩ ?_
    refine wpAny_loadName_local rfl xS_self hns eS ?_
    refine ks_wpAny_isType_cls hD1 hD2 ⟨rfl, ?_⟩
    refine ks_wpAny_call_super hD1 hD2 hx₁ rfl (fun c e => by cases e) (looks_mroIn X₁ T.sub) (fun h₂ e₂ k₂ => ?_)
    have X₂ : K.In h₂ := X₁.keeps k₂
    have hx₂ := k₂ _ _ hx₁
    have hm := T.supI
    unfold ks_superIn at hm
    rw [hcl] at hm
    have ne : x ≠ C := fun z => by
      have q := X _ _ hC
      rw [← z, hx] at q
      cases q
    have IX : InstAt h₂ x (excO C t0) C none := ⟨hx₂, rfl, rfl, trivial⟩
    refine kxs_getMethod kxs_ValueError e₂ (looks_opaque X₂ T.opq) (l₀ := .ref C :: bm) (fun A Q E s k q => wpAny_bind ((looks_clsIn X₂ hcl) A _ E s k (wpAny_pure q))) rfl X₂ hm (IX.type.andThen (looks_subIn X₂ T.veC)) ne (by decide) ?_
    have e₃ : (h₂.push (kxs_mw "ValueError.__init__" x)).get? h₂.objs.size = some (kxs_mw "ValueError.__init__" x) := Heap.get?_push_at rfl rfl
    have hx₃ : (h₂.push (kxs_mw "ValueError.__init__" x)).get? x = some (excO C t0) := Heap.get?_push_of_some _ hx₂
    refine kxs_callWith (i := "ValueError.__init__") (x := x) rfl (evalArgs_plain (spliced_cons (Constant_str (k := 0) (pos := q3) (spliced_nil ⟨e₃, ?_⟩))))
    refine wpAny_call (codeAny_of_tree ?_)
    show wpAny _ _ (callAny (.ref h₂.objs.size) ⟨[.str cn _], []⟩) _ _ _
    simp only [callAny]
    refine wpAny_bind (wpAny_load e₃ ?_)
    simp only [kxs_mw, show (Value.type "method-wrapper" == Value.type "method" || Value.type "method-wrapper" == Value.type "builtin_function_or_method" || Value.type "method-wrapper" == Value.type "method-wrapper") = true by decide, if_true]
    refine KFB.if_so (by decide) ?_
    have hC₃ : (h₂.push (kxs_mw "ValueError.__init__" x)).get? C = some _ := Heap.get?_push_of_some _ (X₂ _ _ hC)
    refine wpAny_bind (check_bound_init F.excBase_ValueError.toExcCallFacts hC₃ hx₃ rfl ?_)
    refine wpAny_bind (wpAny_pure (wpAny_pure ?_))
    refine ⟨plainId_quiet F.excBase_ValueError.init.plain _, codeAny_builtin F.excBase_ValueError.initEntry ?_⟩
    refine exc_init_tree (cls := .ref C) (t0 := t0) (dv := none) (c2 := .none) (c3 := .none) (b4 := .bool false) hx₃ (by show 1 ≤ sizeLine; decide) (fun h₄ k₄ hx₄ _ => ?_)
    have K₄ : ∀ b o, b ≠ x → h₁.get? b = some o → h₄.get? b = some o := fun b o hb e => k₄ b o hb (Heap.get?_push_of_some _ (k₂ _ _ e))
    have X₄ : K.In h₄ := fun b o e => K₄ b o (fun z => by rw [z, hnx] at e; cases e) (X₁ b o e)
    have n₄ : h₄.Ns s.heap.objs.size (fun y => ([(("self" : Str), Value.ref x), (f, v)] : List (Str × Value)).reverse.lookup y) := by
      obtain ⟨o, es, ep, e, r⟩ := hns
      exact ⟨o, es, ep, K₄ _ _ hxL e, r⟩
    have l4 : s.heap.objs.size < h₄.objs.size := by
      obtain ⟨o, es, ep, e, r⟩ := n₄
      exact Heap.lt_size e
    refine wpAt_of_wpAny ?_
    refine wpAny_execs_cons (plainObj_wpAny_Assign_Attribute (Constant_str ?_))
    refine wpAny_Name (wpAny_loadName_local rfl xS_self n₄ eS ?_) (by decide)
    refine set_plain X₄ (ox := excO C _) (od := none) ⟨hx₄, rfl, rfl, trivial⟩ T.sa ?_
    refine exc_osa X₄ hx₄ hcl (show refsVE (.ref C :: bm) = true from hbm) rfl T.noT (fun h₅ tk₅ dx k₅ dn dne hx₅ hn₅ => ?_)
    have X₅ : K.In h₅ := fun b o e => k₅ b o (fun z => by rw [z, hnx] at e; cases e) (X₄ b o e)
    have n₅ : h₅.Ns s.heap.objs.size (fun y => ([(("self" : Str), Value.ref x), (f, v)] : List (Str × Value)).reverse.lookup y) := by
      obtain ⟨o, es, ep, e, r⟩ := n₄
      exact ⟨o, es, ep, k₅ _ _ hxL e, r⟩
    refine wpAny_execs_cons (plainObj_wpAny_Assign_Attribute ?_)
    refine wpAny_Name (wpAny_loadName_local rfl (xS_f TX.ne1) n₅ eF ?_) TX.ne5
    refine wpAny_Name (wpAny_loadName_local rfl xS_self n₅ eS ?_) (by decide)
    obtain ⟨oD5, es5, ep5, hoD5, hdD5, hcD5⟩ := hn₅.count (Within.cons "tag" _ Within.nil)
    refine set_plain X₅ (ox := { cls := .ref C, dict := some dx, data := .fields #[.ref _, .none, .none, .none, .bool false, .none] }) (od := some oD5) ⟨hx₅, rfl, rfl, hoD5⟩ T.sa ?_
    refine PySem.OEX.osa_old X₅ hx₅ hn₅ (Within.cons "tag" _ Within.nil) (by simp) hcl (show refsVE (.ref C :: bm) = true from hbm) rfl T.noF (fun h₆ tk₆ k₆ hn₆ => ?_)
    refine wpAny_execs_nil ?_
    have l1 : ∀ b o, s.heap.get? b = some o → b ≠ dx := fun b o e => Nat.ne_of_lt (Nat.lt_of_lt_of_le (Nat.lt_trans (Heap.lt_size e) l4) dn)
    refine hq h₆ tk₆ dx _ ⟨fun b o hb e => k₆ b o (l1 b o e) (k₅ b o hb (K₄ b o hb (k b o e))), k₆ _ _ (Ne.symm dne) hx₅, Nat.le_of_lt (Nat.lt_of_lt_of_le l4 dn), dne, _, hn₆⟩
/-- a made exception -/
structure XMade (h h' : Heap) (e C d : Addr) (cn f : Str) (v : Value) : Prop where
  keep : ∀ b o, h.get? b = some o → h'.get? b = some o
  new : h.objs.size ≤ e
  obj : ∃ oe vs, h'.get? e = some oe ∧ oe.cls = .ref C ∧ oe.dict = some d ∧ oe.data = .fields vs ∧ vs[1]? = some .none
  dbig : h.objs.size ≤ d
  dne : d ≠ e
  ns : ∃ tk : Tok, h'.Ns1 d (fun y => if y = f then some v else if y = "tag" then some (.str cn tk) else none)
theorem x_made (T : XC prog K mg cn f C) {v : Value} (X : K.In s.heap) (G : s.heap.Ns mainGlobals mg) (B : ∃ mb, s.heap.Ns builtinsNs mb ∧ ∀ x : Str, x ≠ "__name__" → mb x = bootBuiltins x) (hlim : s.heap.NoLimit) (hroom : A.depth + 1 < recursionLimit) (hcn : cn.length ≤ sizeLine)
    (hq : ∀ h' tk e d, XMade s.heap h' e C d cn f v → R (.ok (.ret (.ref e))) { s with heap := h', toks := tk }) :
    codeAny (model prog w) A (.call (.ref C) ⟨[v], []⟩) R s := by
  obtain ⟨_, fI, _, _, _, _, _, _, _, _, _, _, _, _, _, _, _, _, _, _, _, iC, tI, _⟩ := T.fn
  obtain ⟨nm, q, N, bs, bm, sn, sub, ab, col, dd, k0, k1, k2, k3, k5, hC, hbm⟩ := T.cls
  obtain ⟨hp, g, dr, tk, os⟩ := s
  have k : ∀ b o, hp.get? b = some o → ((hp.push (kdv_tup [v])).push (excO C hp.objs.size)).get? b = some o := fun b o e => Heap.get?_push_of_some _ (Heap.get?_push_of_some _ e)
  have hget : ((hp.push (kdv_tup [v])).push (excO C hp.objs.size)).get? (hp.objs.size + 1) = some (excO C hp.objs.size) := by heap_get
  have hnx : K.lookup (hp.objs.size + 1) = none := by
    cases e : K.lookup (hp.objs.size + 1) with
    | none => rfl
    | some o =>
      have z : hp.get? (hp.objs.size + 1) = some o := X _ _ e
      exact absurd (Nat.lt_of_succ_lt (Heap.lt_size z)) (Nat.lt_irrefl _)
  obtain ⟨mb, B1, B2⟩ := B
  refine call_own F.excBase_ValueError (fun X => refsVE_contains X bm hbm) (X _ _ hC) (looks_findIn X iC) (fun self => bind_fn X self tI) (by show 1 ≤ sizeLine; decide) ?_
  refine x_init (s := ⟨(hp.push (kdv_tup [v])).push (excO C hp.objs.size), g, dr, tk, os⟩) T iC (X.keeps k) (G.keeps k) ⟨mb, B1.keeps k, B2⟩ (hlim.keeps k) hget hnx ?_ hcn fun h' tk' dx t1 ⟨k', hx, dn, dne, hns⟩ => ?_
  · show A.depth + 1 < recursionLimit
    exact hroom
  · have old : ∀ b o, hp.get? b = some o → h'.get? b = some o := fun b o e => k' b o (Nat.ne_of_lt (Nat.lt_succ_of_lt (Heap.lt_size e))) (k b o e)
    have z : hp.objs.size + 1 + 1 ≤ dx := by
      have q := dn
      rw [Heap.size_push, Heap.size_push] at q
      exact q
    exact ⟨rfl, hq h' tk' (hp.objs.size + 1) dx ⟨old, Nat.le_succ _, ⟨_, _, hx, rfl, rfl, rfl, rfl⟩, Nat.le_trans (Nat.le_trans (Nat.le_succ _) (Nat.le_succ _)) z, dne, hns⟩⟩
end
end ExcX
end PySem
namespace L2
open PySem PySem.Spec PyProof.Rows
theorem relO_x {cn f : Str} {v : V} {v' : Value} {tk : Tok} (r : RelV v v') (g : Str) : RelO (List.lookup g [(f, v), (("tag" : Str), V.str cn)]) (if g = f then some v' else if g = "tag" then some (.str cn tk) else none) := by
  rw [lookup_put]
  by_cases h : g = f
  · rw [if_pos h, if_pos h]
    exact r
  · rw [if_neg h, if_neg h, lookup_put]
    by_cases h2 : g = "tag"
    · rw [if_pos h2, if_pos h2]
      exact ⟨tk, rfl⟩
    · rw [if_neg h2, if_neg h2]
      trivial
section
variable {X : Cx} {C : Addr} {cn f : Str}
/-- C(e): its own dict d is new -/
def tMkX (C : Addr) (cn f : Str) (ta : TA) : St → Hp → XK → Prop := fun σ H Q => ta σ H fun vs H1 => ∃ v, vs = [v] ∧ ∀ d, H1 d = none → Q (.ref C) (some d) (upd H1 d (.xd [(f, v), (("tag" : Str), V.str cn)]))
theorem pmk_x {a : Expr} {ta : TA} {p pos : Pos} {k : Nat} (T : PySem.ExcX.XC X.prog X.K X.mg cn f C) (hcn : cn.length ≤ sizeLine) (hr : Room (k + 1) X.A) (ha : PA X [a] ta) (hg : Gl X cn) (hdb : (cn == ("__debug__" : Str)) = false)
    (he : starEach (a :: []) X.env = (false, eval a X.env) :: starEach [] X.env := by rfl) (hpl : (backTo pos (starEach [] X.env)).any (·.1) = false := by rfl) :
    PMk X (.Call (.Name cn p) [a] [] pos) (tMkX C cn f ta) := by
  intro pins s σ H Q I h
  refine wpAny_Call_Name_kw (ld_glob I hg T.gC ?_ hdb)
  refine PySem.W.callWith_K (h₀ := X.base) I.ok.mod.kin T.kC (thn (ha.run pos pins s σ H _ I h) fun us s1 hh => ?_) he hpl
  obtain ⟨vs, H1, I1, r1, v, ev, q1⟩ := hh
  subst ev
  refine ⟨I1.kIn, ?_⟩
  cases r1 with
  | cons rv rn =>
    rename_i v' us'
    cases rn
    show wpAny _ _ (call (.ref C) [v']) _ _ _
    have hlim := I1.nolimit
    have hG := I1.mod.glob.keeps I1.bk
    obtain ⟨mb, B1, B2⟩ := I1.mod.blt
    have hB := B1.keeps I1.bk
    obtain ⟨hp, g, dr, tk, os⟩ := s1
    refine wpAny_call (PySem.ExcX.x_made T I1.kIn hG ⟨mb, hB, B2⟩ hlim (by have := hr.dp; omega) hcn fun h' tk' e d M => ?_)
    show MkP X pins σ Q (.ref e) ⟨h', g, dr, tk', os⟩
    obtain ⟨oe, fv, hoe, hc, hd, hdat, h1⟩ := M.obj
    obtain ⟨tkn, hns⟩ := M.ns
    obtain ⟨G', g1, g2⟩ := restrict h' fun b => decide (b ≠ e)
    have gk : ∀ b, b ≠ e → G'.get? b = h'.get? b := fun b hb => g1 b (decide_eq_true hb)
    have ge : G'.get? e = none := g2 e (by simp)
    have old : ∀ b o, hp.get? b = some o → G'.get? b = some o := fun b o q => (gk b (Nat.ne_of_lt (Nat.lt_of_lt_of_le (Heap.lt_size q) M.new))).trans (M.keep b o q)
    have ob : ObjOk X.prog X.w (upd H1 d (.xd [(f, v), (("tag" : Str), V.str cn)])) G' d (.xd [(f, v), (("tag" : Str), V.str cn)]) :=
      ⟨_, hns.at (fun o q => (gk d M.dne).trans q), fun f => relO_x rv f⟩
    have J : Inv X pins σ (upd H1 d (.xd [(f, v), (("tag" : Str), V.str cn)])) ⟨G', g, dr, tk', os⟩ := I1.laid (t' := tk') old M.dbig ob
    refine ⟨e, oe, fv, ⟨G', g, dr, tk', os⟩, _, .ref C, some d, rfl, J, fun b o q => ?_, ge, hoe, ⟨hc, hd⟩, hdat, h1, ?_, rfl, I1.bare, raises_own T.exC T.tyC, q1 d (I1.hok.fresh M.dbig)⟩
    · by_cases hb : b = e
      · have q' : G'.get? b = some o := q
        rw [hb, ge] at q'
        cases q'
      · exact (gk b hb).symm.trans q
    · rw [upd_ne (Ne.symm M.dne)]
      exact I1.hok.fresh M.new
end
end L2
namespace PL
open PySem L2
variable [Tabl]
section
variable {X : Cx} {W : WX} {C : Addr} {cn f : PySem.Str} {a : Expr} {t : TP} {p pos pos2 : Pos} {k j : Nat}
/-- raise cn(e) -/
def tsRaise (C : Addr) (cn f : PySem.Str) (t : TP) : TSp := fun P Γ => t Γ (fun d => P.xx ⟨.ref C, [(f, d), (("tag" : PySem.Str), .str cn.cps.toList)]⟩ Γ) (fun x => P.xx x Γ)
theorem s_raise (hc : X.calm = true) (T : PySem.ExcX.XC X.prog X.K X.mg cn f C) (hcn : cn.length ≤ sizeLine) (hr : Room (k + 1) X.A) (tk : Takes X W) (ha : PP X W a t) (hg : Gl X cn := by rfl) (hdb : (cn == ("__debug__" : PySem.Str)) = false := by decide)
    (he : starEach (a :: []) X.env = (false, eval a X.env) :: starEach [] X.env := by rfl) (hpl : (backTo pos (starEach [] X.env)).any (·.1) = false := by rfl) :
    PS1 X W (.Raise (some (.Call (.Name cn p) [a] [] pos)) none pos2) (tsRaise C cn f t) := by
  obtain ⟨ea, pa, ra⟩ := ha.ex
  refine ⟨_, ps_raise hc tk (pmk_x T hcn hr (pa_cons pa pa_nil he) hg hdb he hpl), ?_⟩
  intro G0 H0 Γ σ G H P E F ht ok
  refine ra G0 H0 Γ σ G H _ _ _ F ht (fun d v G1 H1 k1 x1 n1 => ?_) (ok.x F)
  refine ⟨v, rfl, fun q hq => ?_⟩
  have hg := x1.sub.none hq
  have x2 : Ext G1 H1 G1 (upd H1 q (.xd [(f, v), (("tag" : PySem.Str), V.str cn)])) := Ext.beside x1.sub hq
  exact ok.xx _ _ _ _ _ _ _ k1 ((F.up x1).up x2) ⟨rfl, .inr ⟨q, _, rfl, upd_same, .cons n1 (.cons (str_den (X := X) cn) .nil)⟩⟩
end
end PL
set_option Elab.async false
set_option linter.all false
set_option maxRecDepth 100000
set_option maxHeartbeats 4000000
namespace PySem.W
open PySem PySem.Calls PyProof.Rows
section
variable {M : Model} {K : Frag} {h : Heap}
theorem looks_yield {β : Type} {body : Value → β → Sem (ForInStep β)} {init : β} : ∀ {l : List Value}, (∀ c ∈ l, Looks M h (body c init) (.yield init)) → Looks M h (forIn l init body) init
  | [], _ => fun A Q E s k q => by
    rw [List.forIn_nil]
    exact wpAny_pure q
  | c :: l, hb => fun A Q E s k q => by
    rw [List.forIn_cons]
    exact wpAny_bind (hb c List.mem_cons_self A _ E s k (looks_yield (fun d hd => hb d (List.mem_cons_of_mem _ hd)) A _ E s k q))
theorem looks_any {β : Type} {body : Value → β → Sem (ForInStep β)} {init x1 : β} {f : Value → Bool} : ∀ {l : List Value}, (∀ c ∈ l, Looks M h (body c init) (if f c = true then .done x1 else .yield init)) → Looks M h (forIn l init body) (if l.any f = true then x1 else init)
  | [], _ => fun A Q E s k q => by
    rw [List.forIn_nil]
    exact wpAny_pure q
  | c :: l, hb => fun A Q E s k q => by
    rw [List.forIn_cons]
    refine wpAny_bind (hb c List.mem_cons_self A _ E s k ?_)
    rw [List.any_cons] at q
    cases hc : f c with
    | true =>
      rw [hc] at q
      exact wpAny_pure q
    | false =>
      rw [hc] at q
      exact looks_any (fun d hd => hb d (List.mem_cons_of_mem _ hd)) A _ E s k q
theorem exmAny_all : ∀ {cls : Value} {cs : List Value} {b : Bool}, exmAny K cls cs = some b → (∀ c ∈ cs, exmOne K cls c = some ((exmOne K cls c).getD false)) ∧ b = cs.any fun c => (exmOne K cls c).getD false
  | cls, [], b, h => ⟨fun c hc => absurd hc (by simp), by cases h; rfl⟩
  | cls, c :: r, b, h => by
    obtain ⟨b1, d1, h1, h2, rfl⟩ := exmAny_cons h
    obtain ⟨h3, rfl⟩ := exmAny_all h2
    refine ⟨fun d hd => ?_, ?_⟩
    · rcases List.mem_cons.mp hd with rfl | hd
      · rw [h1]
        rfl
      · exact h3 d hd
    · rw [List.any_cons, h1]
      rfl
theorem exm_tupN {cs : List Value} {cls : Value} {tp e : Addr} {b : Bool} (X : K.In h) (LT : Looks M h (typeOf (.ref e)) cls) (hp : h.get? tp = some { cls := .type "tuple", data := .seq cs.toArray }) (hx : exmAny K cls cs = some b) :
    Looks M h (excMatches (.ref e) (.ref tp)) b := by
  intro A Q E s k₀ q
  obtain ⟨hh, g, d, tk, os⟩ := s
  have k : ∀ b o, h.get? b = some o → hh.get? b = some o := k₀
  have LT0 : Looks M h (isInstance (.ref tp) (.type "tuple")) true := ((Looks.ld hp).andThen .now).andThen (Looks.of_pure isSubtype_tuple_tuple)
  obtain ⟨hx2, e2⟩ := exmAny_all hx
  subst e2
  have LT := LT.keeps k
  have LT0 := LT0.keeps k
  have hp' := k _ _ hp
  unfold excMatches
  refine wpAny_bind (LT0.at ?_)
  dsimp only
  rw [if_pos rfl]
  first
    | refine wpAny_bind (wpAny_seqItems hp' rfl ?_)
    | refine wpAny_bind (wpAny_bind (wpAny_seqItems hp' rfl (wpAny_pure ?_)))
  dsimp only [Option.getD_some, Option.getD]
  refine wpAny_bind (wpAny_pure ?_)
  refine wpAny_bind ((looks_yield (M := M) (h := hh) (fun c hc => ?_)).at ?_)
  · obtain ⟨e1, _⟩ := exm_cls (M := M) X (hx2 c hc)
    exact (e1.keeps k).andThen (by
      simp only [Bool.not_true, Bool.false_eq_true, if_false]
      exact .now)
  · refine wpAny_bind (LT.at ?_)
    refine wpAny_bind ((looks_any (M := M) (h := hh) (f := fun c => (exmOne K cls c).getD false) (x1 := (some true, ())) (fun c hc => ?_)).at ?_)
    · obtain ⟨_, S1⟩ := exm_cls (M := M) X (hx2 c hc)
      refine (S1.keeps k).andThen ?_
      cases hb : (exmOne K cls c).getD false with
      | true => exact .now
      | false => exact .now
    · cases hb : cs.any (fun c => (exmOne K cls c).getD false) with
      | true =>
        rw [hb] at q
        exact wpAny_pure q
      | false =>
        rw [hb] at q
        exact wpAny_pure q
end
end PySem.W
namespace L2
open PySem PySem.Spec PyProof.Rows
/-- flying on in a heap that keeps all -/
theorem fly_keeps {B : Heap} {l : List Env} {a : Addr} {Z : Obj → Prop} {h h' : Heap} (k : ∀ b o, h.get? b = some o → h'.get? b = some o) (fl : HandSPX.FlyingZ B l a Z h) : HandSPX.FlyingZ B l a Z h' := by
  obtain ⟨h1, h2, h3, oe, vs, T, oT, ts, a1, a2, a3, a4, a5, a6, a7, a8, a9⟩ := fl
  exact ⟨fun b o e => k b o (h1 b o e), h2, h3.of_keeps fun b o e _ => ⟨o, k b o e, rfl⟩, oe, vs, T, oT, ts, k _ _ a1, a2, a3, a4, a5, a6, k _ _ a7, a8, a9⟩
/-- the names of classes in a tuple of them -/
inductive NamesOk (X : Cx) : List Expr → List Value → Prop
  | nil : NamesOk X [] []
  | cons {x : Str} {np : Pos} {c : Value} {es : List Expr} {cs : List Value} : Names X x c → NamesOk X es cs → NamesOk X (.Name x np :: es) (c :: cs)
theorem names_spliced {X : Cx} {a : Addr} {pn : List (Addr × Obj)} {pins : List (Addr × Obj)} {σ : St} {H : Hp} {s : Shared} {pos : Pos} {E : Value → Shared → Prop} (S : Inv (X.suite a pn) pins σ H s) : ∀ {es : List Expr} {cs : List Value}, NamesOk X es cs → ∀ {Q : List Value → Shared → Prop}, Q cs s →
    wpAny (model X.prog X.w) (X.suite a pn).A (spliced (backTo pos (starEach es X.env))) Q E s
  | _, _, .nil, Q, q => Calls.spliced_nil q
  | _, _, .cons (x := x) (np := np) (c := c) (es := es) (cs := cs) hc r, Q, q => by
    show wpAny _ _ (spliced ((false, eval (.Name x np) X.env) :: backTo pos (starEach es X.env))) _ _ _
    refine Calls.spliced_cons ?_
    have z := names_spliced (pos := pos) (E := E) S r (Q := fun vs s₂ => Q (c :: vs) s₂) q
    obtain ⟨hg, hdbg, hm | ⟨hm, hv, hnn⟩⟩ := hc
    · exact ld_glob (X := X.suite a pn) S hg hm z hdbg
    · exact ld_blt (X := X.suite a pn) S hg hm hv z hnn hdbg
theorem NamesOk.len {X : Cx} : ∀ {es : List Expr} {cs : List Value}, NamesOk X es cs → es.length = cs.length
  | _, _, .nil => rfl
  | _, _, .cons _ r => by rw [List.length_cons, List.length_cons, r.len]
/-- what is matched: one class, a tuple of classes -/
inductive TestOk (X : Cx) : Expr → (Value → Option Bool) → Prop
  | one {x : Str} {np : Pos} {c : Value} : Names X x c → TestOk X (.Name x np) fun cls => PySem.W.exmOne X.K cls c
  | tup {es : List Expr} {k : Nat} {tp : Pos} {cs : List Value} : NamesOk X es cs → cs.length ≤ 100 → TestOk X (.Tuple es k tp) fun cls => PySem.W.exmAny X.K cls cs
theorem test_ok {X : Cx} {te : Expr} {m : Value → Option Bool} (T : TestOk X te m) {a : Addr} {oe : Obj} {pn : List (Addr × Obj)} {pins : List (Addr × Obj)} {σ : St} {H : Hp} {s : Shared} {cls : Value} {b : Bool} (S : Inv (X.suite a pn) pins σ H s) (he : s.heap.get? a = some oe) (hc : oe.cls = cls)
    (hb : m cls = some b) {Q : Bool → Shared → Prop} {E1 E2 : Value → Shared → Prop} (h : ∀ h', (∀ b o, s.heap.get? b = some o → h'.get? b = some o) → Q b { s with heap := h' }) :
    wpAny (model X.prog X.w) (X.suite a pn).A (eval te X.env) (fun c s₁ => wpAny (model X.prog X.w) (X.suite a pn).A (excMatches (.ref a) c) Q E1 s₁) E2 s := by
  have LT : ∀ {h' : Heap}, (∀ b o, s.heap.get? b = some o → h'.get? b = some o) → PySem.W.Looks (model X.prog X.w) h' (typeOf (.ref a)) cls := fun k A Q E s k' q => wpAny_typeOf_ref (k' _ _ (k _ _ he)) (by rw [hc]; exact q)
  cases T with
  | one hn =>
    have LM := PySem.W.exm_one (M := model X.prog X.w) S.kIn (LT fun _ _ e => e) hb
    have z : wpAny (model X.prog X.w) (X.suite a pn).A (excMatches (.ref a) _) Q E1 s := LM.here (h s.heap fun _ _ e => e)
    obtain ⟨hg, hdbg, hm | ⟨hm, hv, hnn⟩⟩ := hn
    · exact ld_glob (X := X.suite a pn) S hg hm z hdbg
    · exact ld_blt (X := X.suite a pn) S hg hm hv z hnn hdbg
  | @tup es k tp cs hn hl =>
    refine wpAny_Tuple (names_spliced S hn ⟨?_, ?_⟩)
    · rw [PySem.sizeLine_eq]
      omega
    · have kk : ∀ b o, s.heap.get? b = some o → (s.heap.push { cls := .type "tuple", data := .seq cs.toArray }).get? b = some o := fun b o e => Heap.get?_push_of_some _ e
      have LM := PySem.W.exm_tupN (M := model X.prog X.w) (S.kIn.keeps kk) (LT kk) (Heap.get?_push_size _ rfl) hb
      exact LM.here (h _ kk)
/-- an exception of the class cls (its dict d) stands caught in the heap h; J tells of the state sI as it was without it -/
structure Caught (X : Cx) (B : Heap) (pins : List (Addr × Obj)) (σ : St) (H : Hp) (sI s : Shared) (a : Addr) (cls : Value) (d : Option Addr) (h : Heap) : Prop where
  inv : Inv X pins σ H sI
  ground : ∀ b o, sI.heap.get? b = some o → b ∉ frs X.stack → B.get? b = some o
  stack : X.stack = X.env :: X.outer
  frame : X.env.frame = some X.env.locals
  fly : HandSPX.FlyingZ B (X.env :: X.outer) a (Zc cls d) h
  up : sI.heap.UpToSlots h
  free : H a = none
  os : s.os = sI.os
  bare : AllBare s.gens
section
variable {X : Cx} {B : Heap} {pins : List (Addr × Obj)} {σ : St} {H : Hp} {sI s : Shared} {a : Addr} {cls : Value} {d : Option Addr} {h h' : Heap}
theorem Caught.grow (c : Caught X B pins σ H sI s a cls d h) (k : ∀ b o, h.get? b = some o → h'.get? b = some o) : Caught X B pins σ H sI s a cls d h' :=
  { c with fly := fly_keeps k c.fly, up := c.up.trans (.of_keeps k) }
theorem Caught.now (c : Caught X B pins σ H sI s a cls d h) : Inv X pins σ H { s with heap := h } := c.inv.landed c.ground c.fly.1 c.up c.os c.bare
/-- its own object is no frame -/
theorem Caught.apart (c : Caught X B pins σ H sI s a cls d h) : a ∉ frs (X.env :: X.outer) := fun m => by
  obtain ⟨o, vs, e, _, dt⟩ := c.fly.there
  obtain ⟨_, o', e', no⟩ := c.fly.2.2.1.mem m
  cases e.symm.trans e'
  exact no vs dt
theorem Caught.inSuite (c : Caught X B pins σ H sI s a cls d h) : ∃ oe, h.get? a = some oe ∧ Zc cls d oe ∧ (∃ vs, oe.data = .fields vs) ∧ Inv (X.suite a ((a, oe) :: (X.pn ++ pins))) [] σ H { s with heap := h } := by
  obtain ⟨oe, vs, e, z, dt⟩ := c.fly.there
  have n1 : a ≠ X.env.locals := fun y => c.apart (List.mem_filterMap.mpr ⟨X.env, List.mem_cons_self, by rw [c.frame, y]⟩)
  have n2 : a ∉ X.fs := fun m => by
    obtain ⟨v, hv, q⟩ := List.mem_filterMap.mp m
    exact c.apart (List.mem_filterMap.mpr ⟨v, List.mem_cons_of_mem _ hv, q⟩)
  exact ⟨oe, e, z, ⟨vs, dt⟩, c.now.suite e dt c.free n1 n2⟩
/-- no clause is left: it goes on -/
theorem Caught.goes (c : Caught X B pins σ H sI s a cls d h) {W : WX} {Q : Flow → Shared → Prop} (tk : Takes X W) (w : W cls d σ H) : wpAny (model X.prog X.w) X.A (handleBy (.ref a) X.env []) Q X.xe { s with heap := h } := by
  refine wpAny_handleBy_nil ?_
  obtain ⟨_, _, _, oe, vs, T, _, _, e, _, dt, e1, _⟩ := id c.fly
  have off : wpAny (model X.prog X.w) X.A (setFlight (.ref a) X.env.frame) (fun _ s2 => wpAny (model X.prog X.w) X.A (throw (.ref a) : Sem Flow) Q X.xe s2) X.xe { s with heap := h } := by
    rw [c.frame]
    refine HandSPX.setFlight_upZ c.fly fun h2 held up2 => wpAny_throw (tk _ _ ⟨a, B, sI, pins, σ, H, cls, d, rfl, c.inv, c.ground, c.up.trans up2, .inr (.inr ?_), c.free, c.os, c.bare, w⟩)
    rw [c.stack]
    exact held
  unfold PySem.passOn
  refine wpAny_bind (wpAny_field e dt e1 ?_)
  rw [if_neg (by simp)]
  first
    | exact wpAny_bind (wpAny_pure (wpAny_bind off))
    | exact wpAny_bind off
end
/-- the name of a clause: none, or the name of slot i -/
inductive AsOk (X : Cx) : Option Str → Option Nat → Prop
  | no : AsOk X none none
  | as {n : Str} {i : Nat} (hN : X.N.Nodup) (hi : X.N[i]? = some n) (hl : X.env.kindOf n = some .local) : AsOk X (some n) (some i)
/-- the slot of the clause's name -/
def asSet : Option Nat → St → Option V → St
  | none, σ, _ => σ
  | some i, σ, v => σ.set i v
/-- the ends of a clause's suite: its name is gone behind it -/
def asEnds (j : Option Nat) (D : Ends) : Ends := { nx := fun σ H => D.nx (asSet j σ none) H, rt := D.rt, bk := fun σ H => D.bk (asSet j σ none) H, ct := fun σ H => D.ct (asSet j σ none) H }
/-- what the clauses wish of an exception of the body -/
def wManyA (Wout : WX) (D : Ends) : List ((Value → Option Bool) × Option Nat × (Addr → Value → Option Addr → TS)) → WX
  | [] => Wout
  | (m, j, ts) :: r => fun cls d σ H => ∃ b, m cls = some b ∧ (b = true → ∀ a, H a = none → ts a cls d (asEnds j D) (asSet j σ (some (.ref a))) H) ∧ (b = false → wManyA Wout D r cls d σ H)
inductive HdsA (X : Cx) : List ExceptHandler → List ((Value → Option Bool) × Option Nat × (Addr → Value → Option Addr → TS)) → Prop
  | nil : HdsA X [] []
  | cons {te : Expr} {m : Value → Option Bool} {nm : Option Str} {j : Option Nat} {ts : Addr → Value → Option Addr → TS} {b₀ : Stmt} {suite : List Stmt} {pos' : Pos} {hds : List ExceptHandler} {l : List ((Value → Option Bool) × Option Nat × (Addr → Value → Option Addr → TS))} (hc : TestOk X te m) (hn : AsOk X nm j)
      (hsu : ∀ (a : Addr) (oe : Obj) (cls : Value) (d : Option Addr) (pn : List (Addr × Obj)), Zc cls d oe → (∃ vs, oe.data = .fields vs) → PSs (X.suite a ((a, oe) :: pn)) (b₀ :: suite) (ts a cls d)) (r : HdsA X hds l) :
      HdsA X (.ExceptHandler (some te) nm (b₀ :: suite) pos' :: hds) ((m, j, ts) :: l)
section
variable {X : Cx} {B : Heap} {pins : List (Addr × Obj)} {σ : St} {H : Hp} {sI s : Shared} {a : Addr} {cls : Value} {d : Option Addr} {h : Heap} {D : Ends} {Wout : WX}
/-- the suite of the clause that took it -/
theorem Caught.taken (c : Caught X B pins σ H sI s a cls d h) {nm : Option Str} {j : Option Nat} {ts : Addr → Value → Option Addr → TS} {b₀ : Stmt} {suite : List Stmt} {pos' : Pos} (hn : AsOk X nm j)
    (hsu : ∀ (a : Addr) (oe : Obj) (cls : Value) (d : Option Addr) (pn : List (Addr × Obj)), Zc cls d oe → (∃ vs, oe.data = .fields vs) → PSs (X.suite a ((a, oe) :: pn)) (b₀ :: suite) (ts a cls d))
    (w : ts a cls d (asEnds j D) (asSet j σ (some (.ref a))) H) :
    codeAny (model X.prog X.w) (X.A.mark (some (.ref a))) (.handlers (.ref a) [.ExceptHandler none nm (b₀ :: suite) pos'] X.env)
      (fun r s2 => match (generalizing := false) r with
        | .ok f => (match (generalizing := false) nm with
          | none => SP X pins D f s2
          | some n => wpAny (model X.prog X.w) X.A (do bindName X.env n .none; unbindBehindTheSuite X.env n pos') (fun _ s3 => SP X pins D f s3) X.xe s2)
        | .error x => cameBackBy (model X.prog X.w) X.A X.env X.xe x s2) { s with heap := h } := by
  have ok := c.inv.ok
  cases hn with
  | no =>
    refine codeAny_handlers_suite (HandSPX.lands_againZ c.fly fun h2 fly2 up2 => ?_)
    obtain ⟨oe, _, z, dt, J⟩ := ({ c with fly := fly2, up := c.up.trans up2 } : Caught X B pins σ H sI s a cls d h2).inSuite
    refine wpAny_mono ((hsu a oe cls d _ z dt).run [] _ σ H _ J w) (fun f s2 q => ?_) fun _ _ q => q.elim
    cases f with
    | ret u =>
      obtain ⟨v, σ2, H2, J2, rv, q⟩ := q
      exact ⟨v, σ2, H2, J2.unsuite ok, rv, q⟩
    | next => exact let ⟨σ2, H2, J2, q⟩ := q; ⟨σ2, H2, J2.unsuite ok, q⟩
    | brk => exact let ⟨σ2, H2, J2, q⟩ := q; ⟨σ2, H2, J2.unsuite ok, q⟩
    | cont => exact let ⟨σ2, H2, J2, q⟩ := q; ⟨σ2, H2, J2.unsuite ok, q⟩
  | @as n i hN hi hl =>
    refine codeAny_handlers_suite_as (HandSPX.lands_againZ c.fly fun h2 fly2 up2 => ?_)
    obtain ⟨oe, _, z, dt, J⟩ := ({ c with fly := fly2, up := c.up.trans up2 } : Caught X B pins σ H sI s a cls d h2).inSuite
    refine store_ok (X := X.suite a ((a, oe) :: (X.pn ++ pins))) (v := .ref a) J hN hi (.inl hl) rfl (fun s1 J1 => ?_) (.inr hl)
    refine wpAny_mono ((hsu a oe cls d _ z dt).run [] s1 _ H _ J1 w) (fun f s2 q => ?_) fun _ _ q => q.elim
    cases f with
    | ret u =>
      obtain ⟨v, σ2, H2, J2, rv, q⟩ := q
      exact gone_ok (J2.unsuite ok) hN hi hl fun s3 J3 => ⟨v, _, H2, J3, rv, q⟩
    | next =>
      obtain ⟨σ2, H2, J2, q⟩ := q
      exact gone_ok (J2.unsuite ok) hN hi hl fun s3 J3 => ⟨_, H2, J3, q⟩
    | brk =>
      obtain ⟨σ2, H2, J2, q⟩ := q
      exact gone_ok (J2.unsuite ok) hN hi hl fun s3 J3 => ⟨_, H2, J3, q⟩
    | cont =>
      obtain ⟨σ2, H2, J2, q⟩ := q
      exact gone_ok (J2.unsuite ok) hN hi hl fun s3 J3 => ⟨_, H2, J3, q⟩
/-- the clauses, one after the other -/
theorem Caught.clauses (tk : Takes X Wout) {hds : List ExceptHandler} {l : List ((Value → Option Bool) × Option Nat × (Addr → Value → Option Addr → TS))} (hk : HdsA X hds l) :
    ∀ {h : Heap}, Caught X B pins σ H sI s a cls d h → wManyA Wout D l cls d σ H → wpAny (model X.prog X.w) X.A (handleBy (.ref a) X.env hds) (SP X pins D) X.xe { s with heap := h } := by
  induction hk with
  | nil => exact fun c w => c.goes tk w
  | cons hc hn hsu r ih =>
    rintro h c ⟨b, hb, yes, no⟩
    obtain ⟨oe, e, z, _, J⟩ := c.inSuite
    refine wpAny_handleBy_cons (codeAny_handlers_test (test_ok hc J e z.1 hb fun h2 k => ?_)) fun q => nomatch q
    cases b with
    | true => exact (c.grow k).taken hn hsu (yes rfl a c.free)
    | false => exact ih (c.grow k) (no rfl)
end
section
variable {X : Cx} {body : List Stmt} {h₀ : ExceptHandler} {hds : List ExceptHandler} {l : List ((Value → Option Bool) × Option Nat × (Addr → Value → Option Addr → TS))} {pos : Pos} {tb : WX → TS} {Wout : WX}
/-- try: body, any clauses -/
theorem ps_tryA (hs : X.stack = X.env :: X.outer) (hf : X.env.frame = some X.env.locals) (tk : Takes X Wout)
    (hb : ∀ (W : WX) (pn : List (Addr × Obj)) (xe : Value → Shared → Prop), Takes (X.tr pn xe) W → PassesOwn (model X.prog X.w) X.A X.env xe → PSs (X.tr pn xe) body (tb W))
    (hh : HdsA X (h₀ :: hds) l) : PS X (.Try body (h₀ :: hds) [] [] pos) (fun D σ H => tb (wManyA Wout D l) D σ H) := by
  refine ⟨fun pins s σ H D I h => wpAny_Try_except ?_⟩
  have ok := I.ok
  have fr : X.A.frames = some (X.env :: X.outer) := ok.frames.trans (congrArg some hs)
  have run := hb (wManyA Wout D l) (X.pn ++ pins) (fun e s1 => wpAny (model X.prog X.w) X.A (noteFrame e X.env) (fun _ s2 => wpAny (model X.prog X.w) X.A (setFlight e none) (fun _ s3 => wpAny (model X.prog X.w) X.A (handleBy e X.env (h₀ :: hds)) (SP X pins D) X.xe s3) X.xe s2) X.xe s1)
    (fun u s1 z => by
      obtain ⟨a, B, sI, pins1, σ1, H1, cls, d, rfl, J, gr, up, sky, na, os, ag, w⟩ := z
      rw [show (X.tr (X.pn ++ pins) _).stack = X.env :: X.outer from hs] at sky
      exact Sky.land Zc.steady fr hf sky fun h2 fly up2 => Caught.clauses tk hh ⟨J.ofTry ok, gr, hs, hf, fly, up.trans up2, na, os, ag⟩ w) PassesOwn.looking
  refine wpAny_mono (run.run [] s σ H D (I.toTry _) h) (fun f s1 q => ?_) fun _ _ q => q
  cases f with
  | ret u =>
    obtain ⟨v, σ1, H1, J, rv, q⟩ := q
    exact ⟨v, σ1, H1, J.ofTry ok, rv, q⟩
  | next => exact let ⟨σ1, H1, J, q⟩ := q; wpAny_execs_nil ⟨σ1, H1, J.ofTry ok, q⟩
  | brk => exact let ⟨σ1, H1, J, q⟩ := q; ⟨σ1, H1, J.ofTry ok, q⟩
  | cont => exact let ⟨σ1, H1, J, q⟩ := q; ⟨σ1, H1, J.ofTry ok, q⟩
end
end L2
set_option Elab.async false
set_option linter.all false
set_option maxRecDepth 100000
set_option maxHeartbeats 4000000
namespace PL
open PySem L2
variable [Tabl]
def teOf (K : PySem.W.Frag) (W : WX) (t : TP) : TE := fun σ H Q => ∃ G0 H0 Γ G k kx, Fr K G0 H0 Γ σ G H ∧ t Γ k kx ∧ (∀ d v G' H', k d → Ext G H G' H' → Den K G' v d → Q v H') ∧ XOk K W G H σ kx
def tsOf (K : PySem.W.Frag) (W : WX) (t : TSp) : TS := fun E σ H => ∃ G0 H0 Γ G P, Fr K G0 H0 Γ σ G H ∧ t P Γ ∧ EOk K W G0 H0 P E
section
variable {X : Cx} {W : WX} {e : Expr} {b : List Stmt} {t : TP} {s : TSp}
theorem PP.w (h : PP X W e t) : PE X e (teOf X.K W t) := by
  obtain ⟨te, p, r⟩ := h.ex
  exact ⟨fun pins s σ H Q I ⟨G0, H0, Γ, G, k, kx, F, ht, hk, hx⟩ => p.run pins s σ H Q I (r G0 H0 Γ σ G H k kx Q F ht hk hx)⟩
theorem PSS.w (h : PSS X W b s) : PSs X b (tsOf X.K W s) := by
  obtain ⟨ts, p, r⟩ := h.ex
  exact ⟨fun pins s σ H D I ⟨G0, H0, Γ, G, P, F, ht, ok⟩ => p.run pins s σ H D I (r G0 H0 Γ σ G H P D F ht ok)⟩
end
theorem Fr.put {K : PySem.W.Frag} {G0 H0 G H : Hp} {Γ : Ga} {σ : L2.St} (F : Fr K G0 H0 Γ σ G H) {ov : Option V} {t : Sl} (i : Nat) (n : ¬ t.owns) (r : SlOk K H0 G H (some ov) t) : Fr K G0 H0 (gset Γ i t) (σ.set i ov) G H := by
  have old : ∀ {j : Nat} {s : Sl}, (Γ.set i t)[j]? = some s → s.owns → Γ[j]? = some s ∧ j ≠ i := fun {j s} h o => by
    have hj : i ≠ j := fun z => by
      subst z
      rw [List.getElem?_set_self (by rw [← List.length_set (i := i) (a := t)]; exact (List.getElem?_eq_some_iff.mp h).1)] at h
      cases h
      exact n o
    rw [List.getElem?_set_ne hj] at h
    exact ⟨h, Ne.symm hj⟩
  rw [gset_eq]
  refine ⟨by rw [List.length_set, List.length_set]; exact F.len, F.e, fun j s h => ?_, fun a b p s u h1 h2 h3 h4 h5 h6 => ?_⟩
  · by_cases hj : i = j
    · subst hj
      have hl : i < Γ.length := by
        rw [← List.length_set (i := i) (a := t)]
        exact (List.getElem?_eq_some_iff.mp h).1
      rw [List.getElem?_set_self hl] at h
      cases h
      rw [List.getElem?_set_self (by rw [F.len]; exact hl)]
      exact r
    · rw [List.getElem?_set_ne hj] at h ⊢
      exact F.at_ j s h
  · obtain ⟨q1, n1⟩ := old h1 h2
    obtain ⟨q3, n3⟩ := old h3 h4
    rw [List.getElem?_set_ne (Ne.symm n1)] at h5
    rw [List.getElem?_set_ne (Ne.symm n3)] at h6
    exact F.dj a b p s u q1 h2 q3 h4 h5 h6
def gaSet : Option Nat → Ga → Sl → Ga
  | none, Γ, _ => Γ
  | some i, Γ, s => gset Γ i s
abbrev CL := (Value → Option Bool) × Option Nat × (Addr → Value → Option Addr → TSp)
def catchEn (j : Option Nat) (P : PEn) : PEn := ⟨fun Γ => P.nx (gaSet j Γ .un), fun Γ => P.bk (gaSet j Γ .un), fun Γ => P.ct (gaSet j Γ .un), P.rt, fun _ _ => False⟩
def catchW (P : PEn) : List CL → XD → Ga → Prop
  | [], x, Γ => P.xx x Γ
  | (m, j, ts) :: r, x, Γ => ∃ b, m x.cls = some b ∧ (b = true → ∀ a dA, ts a x.cls dA { catchEn j P with rt := fun d Γ => P.rt d (gaSet j Γ .un) } (gaSet j Γ (.xv a x.cls dA x.fs))) ∧ (b = false → catchW P r x Γ)
def tsTry (tb : TSp) (l : List CL) : TSp := fun P Γ => tb { P with xx := catchW P l } Γ
inductive HdsP (X : Cx) : List ExceptHandler → List CL → Prop
  | nil : HdsP X [] []
  | cons {te : Expr} {m : Value → Option Bool} {nm : Option PySem.Str} {j : Option Nat} {ts : Addr → Value → Option Addr → TSp} {b₀ : Stmt} {suite : List Stmt} {pos' : Pos} {hds : List ExceptHandler} {l : List CL} (hc : TestOk X te m) (hn : AsOk X nm j)
      (hsu : ∀ (a : Addr) (oe : Obj) (cls : Value) (d : Option Addr) (pn : List (Addr × Obj)), Zc cls d oe → (∃ vs, oe.data = .fields vs) → PSS (X.suite a ((a, oe) :: pn)) (fun _ _ _ _ => False) (b₀ :: suite) (ts a cls d)) (r : HdsP X hds l) :
      HdsP X (.ExceptHandler (some te) nm (b₀ :: suite) pos' :: hds) ((m, j, ts) :: l)
section
variable {X : Cx} {W : WX} {body : List Stmt} {h₀ : ExceptHandler} {hds : List ExceptHandler} {l : List CL} {tb : TSp} {pos : Pos}
def lowCl (K : PySem.W.Frag) (l : List CL) : List ((Value → Option Bool) × Option Nat × (Addr → Value → Option Addr → TS)) := l.map fun c => (c.1, c.2.1, fun a cls d => tsOf K (fun _ _ _ _ => False) (c.2.2 a cls d))
theorem HdsP.low (h : HdsP X hds l) : HdsA X hds (lowCl X.K l) := by
  induction h with
  | nil => exact .nil
  | cons hc hn hsu r ih => exact .cons hc hn (fun a oe cls d pn z dt => (hsu a oe cls d pn z dt).w) ih
theorem Fr.asPut {K : PySem.W.Frag} {G0 H0 G H : Hp} {Γ : Ga} {σ : L2.St} (F : Fr K G0 H0 Γ σ G H) {ov : Option V} {t : Sl} (j : Option Nat) (n : ¬ t.owns) (r : SlOk K H0 G H (some ov) t) : Fr K G0 H0 (gaSet j Γ t) (asSet j σ ov) G H := by
  cases j with
  | none => exact F
  | some i => exact F.put i n r
theorem catch_ok {K : PySem.W.Frag} {G0 H0 : Hp} {P : PEn} {E : Ends} (ok : EOk K W G0 H0 P E) : ∀ (l : List CL) (x : XD) (cls : Value) (dA : Option Addr) (Γ : Ga) (σ : L2.St) (G H : Hp), catchW P l x Γ → Fr K G0 H0 Γ σ G H → XDen K G H cls dA x →
    wManyA W E (lowCl K l) cls dA σ H
  | [], x, cls, dA, Γ, σ, G, H, h, F, dn => ok.xx x cls dA Γ σ G H h F dn
  | (m, j, ts) :: r, x, cls, dA, Γ, σ, G, H, ⟨b, hb, yes, no⟩, F, dn => by
    obtain ⟨rfl, dn2⟩ := dn
    refine ⟨b, hb, fun q a ha => ?_, fun q => catch_ok ok r x _ dA Γ σ G H (no q) F ⟨rfl, dn2⟩⟩
    refine ⟨G0, H0, _, G, _, F.asPut (t := .xv a x.cls dA x.fs) j (fun z => z) ⟨rfl, dn2⟩, yes q a dA, ?_⟩
    refine ⟨fun Γ2 σ2 G2 H2 p F2 => ok.nx _ _ _ _ p (F2.asPut j (fun z => z) trivial), fun Γ2 σ2 G2 H2 p F2 => ok.bk _ _ _ _ p (F2.asPut j (fun z => z) trivial), fun Γ2 σ2 G2 H2 p F2 => ok.ct _ _ _ _ p (F2.asPut j (fun z => z) trivial),
      fun d v Γ2 σ2 G2 H2 p F2 n => ok.rt d v _ _ _ _ p (F2.asPut (ov := none) j (fun z => z) trivial) n, fun _ _ _ _ _ _ _ p => p.elim⟩
theorem s_try (hs : X.stack = X.env :: X.outer) (hf : X.env.frame = some X.env.locals) (tk : Takes X W)
    (hb : ∀ (W : WX) (pn : List (Addr × Obj)) (xe : Value → Shared → Prop), Takes (X.tr pn xe) W → PassesOwn (model X.prog X.w) X.A X.env xe → PSS (X.tr pn xe) W body tb) (hh : HdsP X (h₀ :: hds) l) : PS1 X W (.Try body (h₀ :: hds) [] [] pos) (tsTry tb l) := by
  refine ⟨_, ps_tryA (tb := fun W => tsOf X.K W tb) hs hf tk (fun W pn xe t p => (hb W pn xe t p).w) hh.low, fun G0 H0 Γ σ G H P E F ht ok => ?_⟩
  exact ⟨G0, H0, Γ, G, _, F, ht, ⟨ok.nx, ok.bk, ok.ct, ok.rt, fun x cls dA Γ σ G H => catch_ok ok l x cls dA Γ σ G H⟩⟩
end
/-- the class cls lets its field f be read -/
def XFld (K : PySem.W.Frag) (cls : Value) (f : PySem.Str) : Prop := ∃ C, cls = .ref C ∧ PySem.W.findIn K (.ref C) "__getattribute__" = some (some (.builtin "BaseException.__getattribute__")) ∧ PySem.W.findIn K (.ref C) "__getattr__" = some none ∧
  PySem.W.subIn K (.ref C) (.type "BaseException") = some true ∧ PySem.W.hasDictIn K C = true ∧ PySem.W.findIn K (.ref C) f = some none
def onSome (o : Option D) (k : KD) : Prop := match o with
  | some d => k d
  | none => False
def tpXat (K : PySem.W.Frag) (a : Addr) (cls : Value) (d : Option Addr) (i : Nat) (f : PySem.Str) : TP := fun Γ k _ => match gat Γ i with
  | .xv a' _ d' fs => a' = a ∧ d' = d ∧ XFld K cls f ∧ onSome (fs.lookup f) k
  | _ => False
section
variable {X : Cx} {W : WX} {a : Addr} {oe : Obj} {cls : Value} {d : Option Addr} {pn : List (Addr × Obj)} {n f : PySem.Str} {p pos : Pos}
def teXat (K : PySem.W.Frag) (a : Addr) (cls : Value) (d : Option Addr) (i : Nat) (f : PySem.Str) : TE := fun σ H Q => σ[i]? = some (some (.ref a)) ∧ XFld K cls f ∧ ∃ dd fs v, d = some dd ∧ H dd = some (.xd fs) ∧ fs.lookup f = some v ∧ Q v H
theorem pe_xat (i : Nat) (hz : Zc cls d oe) (hf : ∃ vs, oe.data = .fields vs) (hN : X.N[i]? = some n) (hv : Vis X.env.scope n) (hd : (n == ("__debug__" : PySem.Str)) = false) (hcd : (n == ("__classdict__" : PySem.Str)) = false)
    (hb : attributeBase (.Name n p) f X.env (eval (.Name n p) X.env) = eval (.Name n p) X.env) : PE (X.suite a ((a, oe) :: pn)) (.Attribute (.Name n p) f pos) (teXat X.K a cls d i f) := by
  refine ⟨fun pins s σ H Q I h => ?_⟩
  obtain ⟨hs, ⟨C, rfl, ga, gg, ex, hdC, no⟩, dd, fs, v, rfl, ed, lk, q⟩ := h
  refine attr_of hb (thn ((pe_var (X := X.suite a ((a, oe) :: pn)) (pos := p) (i := i) hN hv hd hcd).run pins s σ H (fun v H1 => v = .ref a ∧ H1 = H) I ⟨.ref a, hs, rfl, rfl⟩) fun u s1 hh => ?_)
  obtain ⟨x, H1, I1, rx, rfl, rfl⟩ := hh
  obtain rfl : u = Value.ref a := rx
  obtain ⟨ha, _⟩ := I1.pin (a, oe) (List.mem_append_left _ List.mem_cons_self)
  obtain ⟨vs, dt⟩ := hf
  obtain ⟨mA, hns, hr⟩ := (show ObjOk X.prog X.w H1 s1.heap dd (.xd fs) from I1.hok dd _ ed)
  obtain ⟨od, ho, hl⟩ := lookIn_ns hns
  obtain ⟨u, hu, ru⟩ := RelO.some_of (v := v) (o := mA f) (by rw [← lk]; exact hr f)
  have J : PySem.W.InstAt s1.heap a oe C (some od) := ⟨ha, hz.1, by unfold PySem.W.notCls; rw [dt] <;> rfl, by rw [hz.2]; exact ho⟩
  exact HandSPX.exc_get I1.kIn J ga gg ex (PySem.W.findObj_own hdC no rfl (by rw [hl, hu])) (handed_of ru) ⟨v, H1, I1.tok _, ru, q⟩
theorem p_xat (i : Nat) (hz : Zc cls d oe) (hf : ∃ vs, oe.data = .fields vs) (hN : X.N[i]? = some n := by rfl) (hv : Vis X.env.scope n := by first | exact Or.inl rfl | exact Or.inr (Or.inl rfl) | exact Or.inr (Or.inr rfl)) (hd : (n == ("__debug__" : PySem.Str)) = false := by decide) (hcd : (n == ("__classdict__" : PySem.Str)) = false := by decide)
    (hb : attributeBase (.Name n p) f X.env (eval (.Name n p) X.env) = eval (.Name n p) X.env := by rfl) : PP (X.suite a ((a, oe) :: pn)) W (.Attribute (.Name n p) f pos) (tpXat X.K a cls d i f) := by
  refine ⟨_, pe_xat i hz hf hN hv hd hcd hb, fun G0 H0 Γ σ G H k kx Q F ht hk hx => ?_⟩
  unfold tpXat at ht
  cases hs : gat Γ i with
  | xv a' cls' d' fs =>
    simp only [hs] at ht
    obtain ⟨rfl, rfl, xf, ht⟩ := ht
    obtain ⟨e, r⟩ := F.at_ i _ (gat_get Γ i _ hs (by simp))
    cases lk : fs.lookup f with
    | none => rw [lk] at ht; exact ht.elim
    | some y =>
      rw [lk] at ht
      rcases r with ⟨_, rfl⟩ | ⟨dd, fvs, rfl, e2, df⟩
      · cases lk
      · obtain ⟨v, lv, dn⟩ := df.get lk
        exact ⟨e, xf, dd, fvs, v, rfl, e2, lv, hk y v G H ht (Ext.refl F.sub) dn⟩
  | _ => simp only [hs] at ht
end
end PL
set_option Elab.async false
set_option linter.all false
set_option maxRecDepth 100000
set_option maxHeartbeats 4000000
namespace PL
open PySem L2 PyProof.Rows
variable [Tabl]
/-- the heap with the new code object c' in the table P -/
def tabbed (H : Hp) (P c' : Addr) (ps : Array Value) (pos : Pos) (q : PySem.Str) : Hp := upd (upd H P (.tbl (ps ++ #[rawInt pos.line, rawInt pos.col, .ref c']))) c' (LamX.CodeO c' q)
theorem up_tabbed {H : Hp} {P c' : Addr} {ps : Array Value} {pos : Pos} {q : PySem.Str} (hm : (P, q) ∈ Tabl.T) (hP : H P = some (.tbl ps)) (hc : H c' = none) : Up H (tabbed H P c' ps pos q) := by
  have at_ : ∀ b o, H b = some o → b ≠ P → tabbed H P c' ps pos q b = some o := fun b o e n => by
    unfold tabbed
    rw [upd_ne (ne_of_none e hc), upd_ne n]
    exact e
  have notP : ∀ b o, H b = some o → NT o → b ≠ P := fun b o e n z => by
    rw [z, hP] at e
    cases e
    exact n _ rfl
  have atP : tabbed H P c' ps pos q P = some (.tbl (ps ++ #[rawInt pos.line, rawInt pos.col, .ref c'])) := by
    unfold tabbed
    rw [upd_ne (ne_of_none hP hc), upd_same]
  refine ⟨fun b o e n => at_ b o e (notP b o e n), fun b o e => ?_, fun t r hr => ?_⟩
  · by_cases hb : b = P
    · exact ⟨_, by rw [hb]; exact atP⟩
    · exact ⟨o, at_ b o e hb⟩
  · obtain ⟨ps2, h1, h2, h3⟩ := t r hr
    have code : ∀ {c : Addr} {n : PySem.Str}, H c = some (LamX.CodeO c n) → tabbed H P c' ps pos q c = some (LamX.CodeO c n) := fun {c n} e => at_ c _ e (notP c _ e fun _ z => nomatch z)
    by_cases hb : r.1 = P
    · rw [hb, hP] at h1
      cases h1
      have en : r.2 = q := Tabl.uniq r hr (P, q) hm hb
      rw [hb, en]
      refine ⟨_, atP, ?_, fun p' cv hcv => ?_⟩
      · rw [show (ps ++ #[rawInt pos.line, rawInt pos.col, .ref c']).toList = ps.toList ++ [rawInt pos.line, rawInt pos.col, .ref c'] by simp]
        exact PySem.TriplesOk_snoc _ _ _ _ h2
      · rw [show (ps ++ #[rawInt pos.line, rawInt pos.col, .ref c']).toList = ps.toList ++ [rawInt pos.line, rawInt pos.col, .ref c'] by simp] at hcv
        rcases LamX.among_app _ h2 hcv with z | z
        · obtain ⟨c0, e1, e2⟩ := h3 p' cv z
          exact ⟨c0, e1, by rw [en] at e2; exact code e2⟩
        · exact ⟨c', z, by unfold tabbed; exact upd_same⟩
    · refine ⟨ps2, at_ _ _ h1 hb, h2, fun p' cv hcv => ?_⟩
      obtain ⟨c0, e1, e2⟩ := h3 p' cv hcv
      exact ⟨c0, e1, code e2⟩
section
variable {X : Cx} {pins : List (Addr × Obj)} {σ : L2.St} {H : Hp} {s : Shared}
/-- what the made lambda is, at f; its code object at c' -/
structure LamAt (X : Cx) (params : Arguments) (body : Expr) (scope : Scope) (f c' : Addr) (H : Hp) (s : Shared) : Prop where
  obj : ∃ pm ctv, s.heap.get? f = some (PySem.W.kla_obj "<lambda>" (X.env.qual ++ "<lambda>") params body scope (cloFrom X.env.cells scope.names []) pm c' ctv)
  free : H f = none
  fr : f ∉ frs X.stack
  code : H c' = some (LamX.CodeO c' (X.env.qual ++ "<lambda>"))
theorem lam_made {c P : Addr} {params : Arguments} {body : Expr} {scope : Scope} {pos : Pos} {E : Value → Shared → Prop} {Q : Value → Shared → Prop} (I : Inv X pins σ H s) (TB : LamX.TabB X.base X.mg c P) (hcode : X.env.code = .ref c)
    (hm : (P, X.env.qual ++ "<lambda>") ∈ Tabl.T) (hT : LamX.Tabs Tabl.T H) (hdef : defaultsOf params X.env = ([], [])) (hfree : ∀ y ∈ scope.names, y.2 = .free → ∃ c, X.env.cells.lookup y.1 = some c)
    (h : ∀ (f c' : Addr) (H1 : Hp) (s' : Shared), Inv X pins σ H1 s' → Up H H1 → LamAt X params body scope f c' H1 s' → Q (.ref f) s') : wpAny (model X.prog X.w) X.A (eval (.Lambda params body scope pos) X.env) Q E s := by
  obtain ⟨ps, hP, ht, ha⟩ := hT _ hm
  have gP : s.heap.get? P = some { cls := .none, data := .fields ps } := I.hok P _ hP
  have nofr : ∀ f, s.heap.objs.size ≤ f → f ∉ frs X.stack := fun f hf z => by
    rcases List.mem_cons.mp (I.stkSub _ z) with e | e
    · exact absurd (Nat.lt_of_lt_of_le I.lt hf) (by rw [e]; exact Nat.lt_irrefl _)
    · exact I.nofs hf e
  refine PySem.W.kla_eval hdef ?_
  cases hc : codeAmong pos ps.toList with
  | some cv =>
    obtain ⟨c', rfl, hco⟩ := ha pos cv hc
    refine PySem.W.kla_makeFunctionHit (mg := X.mg) (c := c) (P := P) (ps := ps) (closure_ok hfree) I.ok.glob (I.mod.glob.keeps I.bk) hcode (TB.code.keeps I.bk) gP ht hc (TB.bm.keeps I.bk) fun ctv h' tk hx hsz => ?_
    exact h h'.objs.size c' H _ (I.kept fun b o e => Heap.get?_push_of_some _ (hx b o e)) (Up.refl H) ⟨⟨_, ctv, Heap.get?_push_size _ rfl⟩, I.hok.fresh hsz, nofr _ hsz, hco⟩
  | none =>
    refine PySem.W.kla_makeFunction (mg := X.mg) (c := c) (P := P) (ps := ps) (closure_ok hfree) I.ok.glob (I.mod.glob.keeps I.bk) hcode (TB.code.keeps I.bk) gP ht hc TB.gP (TB.bm.keeps I.bk) fun c' ctv h' tk hx hge hlt hrec htb => ?_
    obtain ⟨_, oc, vs, t, e2, hoc, hd, hv⟩ := hrec
    cases e2
    have hsz : s.heap.objs.size ≤ h'.objs.size := Nat.le_trans hge (Nat.le_of_lt hlt)
    have nC : H c' = none := I.hok.fresh hge
    have J : Inv X pins σ (tabbed H P c' ps pos (X.env.qual ++ "<lambda>")) _ := LamX.inv_table (t' := tk) I hP (fun b o hb e => Heap.get?_push_of_some (h := h') (PySem.W.kla_obj "<lambda>" (X.env.qual ++ "<lambda>") params body scope (cloFrom X.env.cells scope.names []) ((X.mg "__name__").getD .none) c' ctv) (hx b o hb e))
      (Heap.get?_push_of_some _ htb) hge ⟨oc, vs, t, Heap.get?_push_of_some _ hoc, hd, hv⟩
    refine h h'.objs.size c' _ _ J (up_tabbed hm hP nC) ⟨⟨_, ctv, Heap.get?_push_size _ rfl⟩, ?_, nofr _ hsz, by unfold tabbed; exact upd_same⟩
    unfold tabbed
    rw [upd_ne (Nat.ne_of_gt hlt), upd_ne (Nat.ne_of_gt (Nat.lt_of_lt_of_le (Heap.lt_size gP) hsz))]
    exact I.hok.fresh hsz
end
end PL
set_option Elab.async false
set_option linter.all false
set_option maxRecDepth 100000
set_option maxHeartbeats 4000000
namespace PL
open PySem L2 PyProof.Rows
variable [Tabl]
/-- the frame of a def g that got the lambda -/
abbrev cxG (X : Cx) (CXg : CXT) (Ng : List PySem.Str) (qg : PySem.Str) (sg : Scope) (g : Addr) (cdg : Value) (s : Shared) (H : Hp) (Eg : XK) : Cx := cxOf CXg X.prog X.w X.K X.mg X.base Ng qg sg g cdg X.A X.stack s H Eg
/-- the lambda, called by its name a in that frame: tb E, its body's reading where E is wanted of an exception -/
theorem pe_lamact {X : Cx} {pins : List (Addr × Obj)} {σ : L2.St} {H : Hp} {s : Shared} {CXg : CXT} {Eg : XK} {Ng : List PySem.Str} {qg : PySem.Str} {sg : Scope} {g f c' : Addr} {cdg : Value} {params : Arguments} {body : Expr} {scope : Scope} {k i : Nat} {a : PySem.Str} {pn : List (Addr × Obj)}
    {xe : Value → Shared → Prop} {W : WX} {tb : XK → TE} {p1 p2 : Pos} (I : Inv X pins σ H s) (L : LamX.LamS X.env.scope scope) (M : LamAt X params body scope f c' H s)
    (hbind : ∀ (pm ctv : Value), bindArgs (PySem.W.kla_fn "<lambda>" (X.env.qual ++ "<lambda>") params body scope (cloFrom X.env.cells scope.names []) pm (.ref c') ctv) ⟨[], []⟩ = pure [])
    (tk : Takes ((cxG X CXg Ng qg sg g cdg s H Eg).tr pn xe) W) (hr : Room (k + 1) (X.A.deeper (envOfC qg sg s.heap.objs.size g cdg)))
    (hbody : ∀ (E : XK) (A : Around) (outer : List Env) (s : Shared) (H : Hp), Room k (A.deeper (LamX.lamEnv X scope s.heap.objs.size f c')) → PE (LamX.lamCx X A outer s H E scope f c') body (tb E))
    (hN : Ng[i]? = some a) (hv : Vis sg a) (hd : (a == ("__debug__" : PySem.Str)) = false) (hcd : (a == ("__classdict__" : PySem.Str)) = false) :
    PE ((cxG X CXg Ng qg sg g cdg s H Eg).tr pn xe) (.Call (.Name a p1) [] [] p2) (fun τ J Q => τ[i]? = some (some (.ref f)) ∧ J c' = some (LamX.CodeO c' (X.env.qual ++ "<lambda>")) ∧ tb (fun cls d J' => W cls d τ J') σ J Q) := by
  refine ⟨fun pinsZ sZ τ J Q IZ ⟨hs, hc, ht⟩ => wpAny_Call_Name_kw (thn ((pe_var (pos := p1) (i := i) hN hv hd hcd).run pinsZ sZ τ J (fun v J1 => v = .ref f ∧ J1 = J) IZ ⟨.ref f, hs, rfl, rfl⟩) fun u s1 ⟨v, J1, I1, r1, ev, eJ⟩ => ?_)⟩
  subst ev
  subst eJ
  obtain rfl : u = Value.ref f := r1
  obtain ⟨pm, ctv, of0⟩ := M.obj
  have of1 := I1.base.keep f _ of0 M.free M.fr (fun z => nomatch (show f ∈ ([] : List Addr) from z))
  obtain ⟨⟨oc, vs, t, hoc, hdc, hvc⟩, _, _⟩ := I1.hok c' _ hc
  have un : Un (frs X.stack) [] H J1 s.heap s1.heap := I1.base
  have rc : codeAny (model X.prog X.w) (X.A.deeper (envOfC qg sg s.heap.objs.size g cdg)) (.call (.ref f) ⟨[], []⟩) (CR (L2.CX X.prog X.w) (envOfC qg sg s.heap.objs.size g cdg :: X.stack) X.prog X.w J1 s1 Q (fun cls d J' => W cls d τ J')) s1 := by
    refine PySem.W.kla_callFunE hr.depth of1 rfl L.co L.gen rfl ⟨c', oc, vs, t, rfl, hoc, hdc, hvc⟩ ?_
    rw [hbind]
    refine wpAny_pure (wpAny_newFunctionEnv (fun y hy => (L.own y hy).2) (fun y hy => absurd hy (by simp)) (fun h2 hns hsb => ⟨I1.nolimit.fresh _ hsb, ?_⟩) L.kind)
    have kp : ∀ b o, s1.heap.get? b = some o → h2.get? b = some o := fun b o e => hsb.extBut b o (Nat.ne_of_lt (Heap.lt_size e)) (Heap.get?_push_of_some _ e)
    have J2 := LamX.lam_start2 (E := fun cls d J' => W cls d τ J') (f := f) (c' := c') (tk := s1.toks + ([] : List (PySem.Str × Value)).length) I L I1.env0 hr.hd un hns kp
    refine PySem.W.kla_codeExpr (wpAny_mono ((hbody _ _ _ s1 J1 (hr.deeper _)).run [] _ _ J1 Q J2 ht) (fun v s2 q => ?_) fun _ _ q => q)
    obtain ⟨w, H2, K2, rv, q⟩ := q
    exact ⟨w, H2, K2.os, K2.bare, K2.base, K2.hok, rv, q⟩
  refine PySem.W.callWith_F0 ⟨_, _, _, _, of1⟩ (wpAny_call (codeAny_mono rc fun r s2 q => ?_))
  cases r with
  | error e => exact passAt tk τ pinsZ J1 s1 e s2 I1 q
  | ok fl =>
    cases fl with
    | ret u => exact I1.after q
    | next => exact False.elim q
    | brk => exact False.elim q
    | cont => exact False.elim q
/-- what is pure of the slots -/
def purS : Sl → Sl
  | .pu d => .pu d
  | _ => .un
def purify (Γ : Ga) : Ga := Γ.map purS
theorem fr_pure {K : PySem.W.Frag} {G0 H0 G H G' H' : Hp} {Γ : Ga} {σ : L2.St} (F : Fr K G0 H0 Γ σ G H) (e : Same G G') (s : Sub G' H') : Fr K G' H' (purify Γ) σ G' H' := by
  have key : ∀ (i : Nat) (t : Sl), (purify Γ)[i]? = some t → t = .un ∨ ∃ d, t = .pu d ∧ Γ[i]? = some (.pu d) := fun i t h => by
    unfold purify at h
    rw [List.getElem?_map] at h
    cases e : Γ[i]? with
    | none => rw [e] at h; cases h
    | some u =>
      rw [e] at h
      cases h
      cases u with
      | pu d => exact .inr ⟨d, rfl, rfl⟩
      | _ => exact .inl rfl
  refine ⟨by rw [F.len]; unfold purify; rw [List.length_map], Ext.refl s, fun i t h => ?_, fun a b p t u h1 h2 => ?_⟩
  · rcases key i t h with rfl | ⟨d, rfl, q⟩
    · trivial
    · obtain ⟨v, e1, r⟩ := F.at_ i _ q
      exact ⟨v, e1, r.up e⟩
  · rcases key a t h1 with rfl | ⟨d, rfl, q⟩
    · exact h2.elim
    · exact h2.elim
/-- the call of what slot i holds: th, what it answers -/
def tpAct (i : Nat) (v : V) (c : Addr) (u : HO) (Gx : Hp) (th : KD → KX → Prop) : TP := fun Γ k kx => (match gat Γ i with
  | .kp v' c' u' G' => v' = v ∧ c' = c ∧ u' = u ∧ G' = Gx
  | _ => False) ∧ th k kx
theorem p_lamact {X : Cx} {pins : List (Addr × Obj)} {σ : L2.St} {H : Hp} {s : Shared} {CXg : CXT} {Eg : XK} {Ng : List PySem.Str} {qg : PySem.Str} {sg : Scope} {g f c' : Addr} {cdg : Value} {params : Arguments} {body : Expr} {scope : Scope} {k i : Nat} {a : PySem.Str} {pn : List (Addr × Obj)}
    {xe : Value → Shared → Prop} {W : WX} {tE : TP} {p1 p2 : Pos} {G0 H0 G : Hp} {Γ : Ga} (F0 : Fr X.K G0 H0 Γ σ G H) (I : Inv X pins σ H s) (L : LamX.LamS X.env.scope scope) (M : LamAt X params body scope f c' H s)
    (hbind : ∀ (pm ctv : Value), bindArgs (PySem.W.kla_fn "<lambda>" (X.env.qual ++ "<lambda>") params body scope (cloFrom X.env.cells scope.names []) pm (.ref c') ctv) ⟨[], []⟩ = pure [])
    (tk : Takes ((cxG X CXg Ng qg sg g cdg s H Eg).tr pn xe) W) (hr : Room (k + 1) (X.A.deeper (envOfC qg sg s.heap.objs.size g cdg)))
    (hbody : ∀ (E : XK) (A : Around) (outer : List Env) (s : Shared) (H : Hp), Room k (A.deeper (LamX.lamEnv X scope s.heap.objs.size f c')) → PP (LamX.lamCx X A outer s H E scope f c') (fun cls d _ H => E cls d H) body tE)
    (hN : Ng[i]? = some a) (hv : Vis sg a) (hd : (a == ("__debug__" : PySem.Str)) = false) (hcd : (a == ("__classdict__" : PySem.Str)) = false) :
    PP ((cxG X CXg Ng qg sg g cdg s H Eg).tr pn xe) W (.Call (.Name a p1) [] [] p2) (tpAct i (.ref f) c' (LamX.CodeO c' (X.env.qual ++ "<lambda>")) G fun k kx => tE (purify Γ) k kx) := by
  refine ⟨_, pe_lamact (tb := fun E => teOf X.K (fun cls d _ H => E cls d H) tE) I L M hbind tk hr (fun E A outer s H hr => (hbody E A outer s H hr).w) hN hv hd hcd, fun G2 H2 Γ2 τ G3 H3 k kx Q F ht hk hx => ?_⟩
  obtain ⟨hs, th⟩ := ht
  cases e : gat Γ2 i with
  | kp v' c2 u' G' =>
    rw [e] at hs
    obtain ⟨rfl, rfl, rfl, rfl⟩ := hs
    obtain ⟨e1, e2, _, _, e3⟩ := F.at_ i _ (gat_get Γ2 i _ e (by simp))
    exact ⟨e1, e2, _, _, purify Γ, G3, k, kx, fr_pure F0 e3 F.sub, th, hk, fun x cls dA G4 H4 a b c => hx x cls dA G4 H4 a b c⟩
  | _ => rw [e] at hs; exact hs.elim
/-- what a def x(a) does with what it got: m of the reading of a() -/
def AskOk (P : Program) (w : World) (K : PySem.W.Frag) (mg : PySem.Str → Option Value) (base : Heap) (x a : PySem.Str) (st : Stmt) (N : List PySem.Str) (k : Nat) (m : TP → TSp) : Prop :=
  ∀ (g : Addr) (cdg : Value) (A : Around) (outer : List Env) (s : Shared) (H : Hp) (E : XK) (tact : TP), Room k (A.deeper (envOfC x (defScope st) s.heap.objs.size g cdg)) →
    (∀ (W : WX) (pn : List (Addr × Obj)) (xe : Value → Shared → Prop) (p1 p2 : Pos), Takes ((cxOf (L2.CX P w) P w K mg base N x (defScope st) g cdg A outer s H E).tr pn xe) W → PP ((cxOf (L2.CX P w) P w K mg base N x (defScope st) g cdg A outer s H E).tr pn xe) W (.Call (.Name a p1) [] [] p2) tact) →
    PSS (cxOf (L2.CX P w) P w K mg base N x (defScope st) g cdg A outer s H E) (fun cls d _ H => E cls d H) (defBody st) (m tact)
def tpLam (n : Nat) (m : TP → TSp) (tE : TP) : TP := fun Γ k kx => ∀ v c u Gx, m (tpAct 0 v c u Gx fun k' kx' => tE (purify Γ) k' kx') (fEnds k kx) (.kp v c u Gx :: List.replicate (n - 1) .un)
theorem fr_lam {K : PySem.W.Frag} {G H : Hp} {N : List PySem.Str} {f c : Addr} {q : PySem.Str} (s : Sub G H) (hN : 1 ≤ N.length) (hc : H c = some (LamX.CodeO c q)) : Fr K G H (.kp (.ref f) c (LamX.CodeO c q) G :: List.replicate (N.length - 1) .un) (L2.start N [.ref f]) G H := by
  have key : ∀ (i : Nat) (t : Sl), (Sl.kp (.ref f) c (LamX.CodeO c q) G :: List.replicate (N.length - 1) .un)[i]? = some t → (i = 0 ∧ t = .kp (.ref f) c (LamX.CodeO c q) G) ∨ t = .un := fun i t h => by
    cases i with
    | zero => exact .inl ⟨rfl, (Option.some.inj h).symm⟩
    | succ i =>
      rw [List.getElem?_cons_succ] at h
      exact .inr (List.mem_replicate.mp (List.mem_of_getElem? h)).2
  refine ⟨by unfold L2.start; simp, Ext.refl s, fun i t h => ?_, fun a b p t u h1 h2 => ?_⟩
  · rcases key i t h with ⟨rfl, rfl⟩ | rfl
    · exact ⟨rfl, hc, fun z => z, (fun _ z => nomatch z), Same.refl G⟩
    · trivial
  · rcases key a t h1 with ⟨_, rfl⟩ | rfl
    · exact h2.elim
    · exact h2.elim
theorem p_lamcall {X : Cx} {W : WX} {x a : PySem.Str} {st : Stmt} {N : List PySem.Str} {g c P : Addr} {fd : FuncData} {k kl : Nat} {m : TP → TSp} {params : Arguments} {body : Expr} {scope : Scope} {tE : TP} {p lpos pos : Pos} (F : Fun X.K x x st g fd) (S : FnScope N [a] (defScope st)) (hm : X.mg x = some (.ref g))
    (hb : Binds X.K fd [a] []) (ask : AskOk X.prog X.w X.K X.mg X.base x a st N k m) (TB : LamX.TabB X.base X.mg c P) (hcode : X.env.code = .ref c) (hT : (P, X.env.qual ++ "<lambda>") ∈ Tabl.T) (hr : Room (k + 1) X.A) (hkl : kl + 1 ≤ k) (tk : Takes X W)
    (L : LamX.lamSB X.env.scope scope = true) (hbody : ∀ (f c' : Addr) (E : XK) (A : Around) (outer : List Env) (s : Shared) (H : Hp), Room kl (A.deeper (LamX.lamEnv X scope s.heap.objs.size f c')) → PP (LamX.lamCx X A outer s H E scope f c') (fun cls d _ H => E cls d H) body tE)
    (hbind : ∀ (q : PySem.Str) (cl : List (PySem.Str × Addr)) (pm cv ctv : Value), bindArgs (PySem.W.kla_fn "<lambda>" q params body scope cl pm cv ctv) ⟨[], []⟩ = pure [] := by intros; rfl) (hdef : defaultsOf params X.env = ([], []) := by rfl) (hN : N[0]? = some a := by rfl) (hva : Vis (defScope st) a := by first | exact Or.inl rfl | exact Or.inr (Or.inl rfl) | exact Or.inr (Or.inr rfl))
    (hg : Gl X x := by rfl) (hdb : (x == ("__debug__" : PySem.Str)) = false := by decide) (hd : (a == ("__debug__" : PySem.Str)) = false := by decide) (hcd : (a == ("__classdict__" : PySem.Str)) = false := by decide) :
    PP X W (.Call (.Name x p) [.Lambda params body scope lpos] [] pos) (tpLam N.length m tE) := by
  have L := LamX.lamS_by L
  refine ⟨teOf X.K W (tpLam N.length m tE), ⟨fun pins s σ H Q I ⟨G0, H0, Γ, G, kd, kx, F0, ht, hk, hx⟩ => ?_⟩, fun G0 H0 Γ σ G H k kx Q F ht hk hx => ⟨G0, H0, Γ, G, k, kx, F, ht, hk, hx⟩⟩
  refine wpAny_Call_Name_kw (ld_glob I hg hm ?_ hdb)
  refine PySem.W.callWith_K (h₀ := X.base) I.ok.mod.kin F.kp ?_ (by rfl) (by rfl)
  show wpAny _ _ (spliced ((false, eval (.Lambda params body scope lpos) X.env) :: backTo pos (starEach [] X.env))) _ _ s
  refine Calls.spliced_cons (lam_made I TB hcode hT F0.sub.tb hdef (L.has I.ok) fun f c' H1 s1 I1 up M => ?_)
  refine Calls.spliced_nil ⟨I1.kIn, ?_⟩
  have x1 : Ext G H G H1 := ⟨up, Same.refl G, fun _ z _ => z, F0.sub.up' up⟩
  have F1 := F0.up x1
  obtain ⟨oc, od, kV, doc, pm, an, cdv, ct, osl, rfl, lk, hcg⟩ := F.ex
  have rc : codeAny (model X.prog X.w) X.A (.call (.ref g) ⟨[.ref f], []⟩) (CR (L2.CX X.prog X.w) X.stack X.prog X.w H1 s1 Q fun cls d H' => W cls d σ H') s1 := by
    refine LamX.run_ofS (N := N) (ps := [a]) (us := [.ref f]) (vs := [.ref f]) lk hcg S hr I1.env0 (hb s1 [.ref f] I1.kIn rfl) (.cons rfl .nil) rfl fun hr' => ?_
    obtain ⟨ts, ps, rd⟩ := (ask g cdv X.A X.stack s1 H1 (fun cls d H' => W cls d σ H') _ hr' fun W2 pn xe p1 p2 tk2 => p_lamact (i := 0) F1 I1 L M (fun _ _ => hbind _ _ _ _ _) tk2 (hr'.mono hkl) (fun E A outer s H hr => hbody f c' E A outer s H hr) hN hva hd hcd).ex
    refine ⟨ts, ps, rd G H1 _ _ G H1 (fEnds kd kx) _ (fr_lam x1.sub (by
      have := (List.getElem?_eq_some_iff.mp hN).1
      omega) M.code) (ht _ _ _ _) ⟨?_, ?_, ?_, ?_, ?_⟩⟩
    · exact fun Γ σ G' H' q F' => hk .non .non G' H' q (x1.trans F'.e) .non
    · exact fun _ _ _ _ q => q.elim
    · exact fun _ _ _ _ q => q.elim
    · exact fun d v Γ σ G' H' q F' n => hk d v G' H' q (x1.trans F'.e) n
    · exact fun y cls dA Γ τ G' H' q F' n => hx y cls dA G' H' q (x1.trans F'.e) n
  refine wpAny_call (codeAny_mono rc fun r s2 q => ?_)
  cases r with
  | error e => exact passAt tk σ pins H1 s1 e s2 I1 q
  | ok fl =>
    cases fl with
    | ret u => exact I1.after q
    | next => exact False.elim q
    | brk => exact False.elim q
    | cont => exact False.elim q
end PL
set_option Elab.async false
set_option linter.all false
set_option maxRecDepth 100000
set_option maxHeartbeats 4000000
namespace PL
open PySem PySem.Froz L2 PyProof.Rows
/-- the set at a holds the texts l; its table can be walked -/
def SetT (P : Program) (w : World) (h : Heap) (a : Addr) (l : List PySem.Str) : Prop :=
  ∃ D, h.get? a = some (sObj "set" D) ∧ TxOk P w D l ∧ l.Nodup ∧ Ris D.2.2.place.toList ∧ (w.params.followText "set-order" = true ∨ D.2.2.led = true)
theorem SetT.at {P : Program} {w : World} {h h' : Heap} {a : Addr} {l : List PySem.Str} (R : SetT P w h a l) (k : ∀ o, h.get? a = some o → h'.get? a = some o) : SetT P w h' a l := by
  obtain ⟨D, h1, h2⟩ := R
  exact ⟨D, k _ h1, h2⟩
end PL
set_option Elab.async false
set_option linter.all false
set_option maxRecDepth 100000
set_option maxHeartbeats 4000000
namespace PL
open PySem PySem.Froz L2 PyProof.Rows
end PL
set_option Elab.async false
set_option linter.all false
set_option maxRecDepth 100000
set_option maxHeartbeats 4000000
namespace PL
open PySem L2 PyProof.Rows
variable [Tabl]
/-- the values by the parameters' order; is: where each parameter's value stands in the text -/
def byIx {α : Type} (is : List Nat) (d : α) (l : List α) : List α := is.map fun i => l.getD i d
theorem vals_at : ∀ {vs : List V} {us : List Value} (i : Nat), Vals vs us → i < us.length → RelV (vs.getD i .non) (us.getD i .none)
  | _, _, i, .nil, h => by simp at h
  | _, _, 0, .cons r _, _ => r
  | _, _, i + 1, .cons _ t, h => by
    have := vals_at i t (by simpa using h)
    simpa using this
theorem vals_by {vs : List V} {us : List Value} (r : Vals vs us) : ∀ (is : List Nat), (∀ i ∈ is, i < us.length) → Vals (byIx is .non vs) (byIx is .none us)
  | [], _ => .nil
  | i :: is, h => .cons (vals_at i r (h i List.mem_cons_self)) (vals_by r is fun j hj => h j (List.mem_cons_of_mem _ hj))
theorem den_at {K : PySem.W.Frag} {G : Hp} : ∀ {vs : List V} {ds : List D} (i : Nat), DenL K G vs ds → i < ds.length → Den K G (vs.getD i .non) (ds.getD i .non)
  | _, _, i, .nil, h => by simp at h
  | _, _, 0, .cons r _, _ => r
  | _, _, i + 1, .cons _ t, h => by
    have := den_at i t (by simpa using h)
    simpa using this
theorem den_by {K : PySem.W.Frag} {G : Hp} {vs : List V} {ds : List D} (r : DenL K G vs ds) : ∀ (is : List Nat), (∀ i ∈ is, i < ds.length) → DenL K G (byIx is .non vs) (byIx is .non ds)
  | [], _ => .nil
  | i :: is, h => .cons (den_at i r (h i List.mem_cons_self)) (den_by r is fun j hj => h j (List.mem_cons_of_mem _ hj))
structure PKw (X : Cx) (W : WX) (kws : List Keyword) (t : TL) : Prop where
  ex : ∃ te, PK X kws te ∧ RdA X.K W te t
section
variable {X : Cx} {W : WX} {e : Expr} {es : List Expr} {kws : List Keyword} {t : TP} {tl tk : TL} {pos p kpos : Pos} {x : PySem.Str} {nm : Option PySem.Str} {k n m j : Nat} {fs : FS} {ks : List PySem.Str} {is : List Nat}
theorem k_nil : PKw X W [] tlNil := ⟨_, pk_nil, fun G0 H0 Γ σ G H k kx Q F ht hk hx => hk [] [] G H ht (Ext.refl F.sub) .nil⟩
theorem k_cons (ha : PP X W e t) (hl : PKw X W kws tl) : PKw X W (⟨nm, e, kpos⟩ :: kws) (tlCons t tl) := by
  obtain ⟨ea, pa, ra⟩ := ha.ex
  obtain ⟨el, pl, rl⟩ := hl.ex
  refine ⟨_, pk_cons pa pl, fun G0 H0 Γ σ G H k kx Q F ht hk hx => ?_⟩
  refine ra G0 H0 Γ σ G H _ kx _ F ht (fun d v G1 H1 k1 x1 n1 => ?_) hx
  refine rl G0 H0 Γ σ G1 H1 _ kx _ (F.up x1) k1 (fun ds vs G2 H2 k2 x2 n2 => ?_) (hx.up x1)
  exact hk _ _ G2 H2 k2 (x1.trans x2) (.cons (n1.up x2.g) n2)
/-- the call itself, behind the values -/
theorem run_kw {f : Addr} {fd : FuncData} {ps : List PySem.Str} (F : FnOk X.prog X.w X.K X.mg X.base (L2.CX X.prog X.w) k f fd ps (spOf X.K n fs)) (hr : Room k X.A) (tk : Takes X W)
    (hb : ∀ (s : Shared) (us ws : List Value), us.length = m → ws.length = ks.length → BindsTo s fd ⟨us, ks.zip ws⟩ (ps.zip (byIx is .none (us ++ ws)))) (hi : ∀ i ∈ is, i < m + ks.length)
    {pins : List (Addr × Obj)} {σ : L2.St} {H : Hp} {s : Shared} {Q : VK} {us ws : List Value} {vs zs : List V} (I : Inv X pins σ H s) (r1 : Vals vs us) (r2 : Vals zs ws) (l1 : us.length = m) (l2 : ws.length = ks.length)
    (h : spOf X.K n fs (byIx is .non (vs ++ zs)) H Q (WE W σ)) : wpAny (model X.prog X.w) X.A (call (.ref f) us (ks.zip ws)) (EP X pins σ Q) X.xe s := by
  have r := vals_by (r1.append r2) is fun i h => by rw [List.length_append, l1, l2]; exact hi i h
  refine wpAny_call (codeAny_mono (F.run X.A X.stack s H ⟨us, ks.zip ws⟩ _ _ Q (WE W σ) hr I.env0 (hb s us ws l1 l2) r h) fun q s2 hq => ?_)
  cases q with
  | error e => exact passAt tk σ pins H s e s2 I hq
  | ok fl =>
    cases fl with
    | ret u => exact I.after hq
    | next => exact False.elim hq
    | brk => exact False.elim hq
    | cont => exact False.elim hq
end
end PL
set_option Elab.async false
set_option linter.all false
set_option maxRecDepth 100000
set_option maxHeartbeats 4000000
namespace PL
open PySem L2 PyProof.Rows
variable [Tabl]
def rLs (K : PySem.W.Frag) : List V → Hp → VK → Prop := fun xs H Q => ∃ p ys, xs = [.ref p] ∧ (SqL K H p ys ∨ SqT K H p ys) ∧ ∀ l, H l = none → Q (.ref l) (upd H l (.lst ys))
def rLn (K : PySem.W.Frag) : List V → Hp → VK → Prop := fun xs H Q => ∃ x n, xs = [x] ∧ LenV K x H n ∧ Q (.int n) H
def tStart (K : PySem.W.Frag) : TE :=
  tLst (tCons (tCB (rLs K) (tCons (tSl (rSlL K) (tVar 0) tNoPart (tPart (tC (.int 63)))) tNil)) (tCons (tC (.int 0)) (tCons (tC (.int 0)) (tCons (tOp (rI0 fun i j => .int (i + j)) (tC (.int 5642)) (tCB (rLn K) (tCons (tVar 0) tNil))) tNil))))
theorem cut63 (ns : List Int) (h : ns.length ≤ 63) : cutV (ns.map V.int) none (some 63) = ns.map V.int := by
  have e : HT.sIx (ns.map V.int).length (ns.map V.int).length (some 63) = min 63 (ns.map V.int).length := HT.sIx_nat _ _ 63
  unfold cutV
  rw [e, HT.sIx_none, List.drop_zero]
  exact List.take_of_length_le (by rw [List.length_map]; omega)
theorem start_te {K : PySem.W.Frag} {σ : L2.St} {H : Hp} {Q : VK} {a : Addr} {ns : List Int} (e : σ[0]? = some (some (.ref a))) (hS : SqL K H a (ns.map V.int)) (h63 : ns.length ≤ 63)
    (h : ∀ l p H', Same H H' → H l = none → H p = none → p ≠ l → H' l = some (.lst (ns.map V.int)) → H' p = some (.lst [.ref l, .int 0, .int 0, .int (5642 + ns.length)]) → Q (.ref p) H') : tStart K σ H Q := by
  refine ⟨.ref a, e, 63, rfl, a, _, rfl, hS, fun q hq => ?_⟩
  rw [cut63 ns h63]
  refine ⟨q, _, rfl, .inl (SqL.of upd_same), fun l hl => ?_⟩
  have s1 : Same H (upd H q (.lst (ns.map V.int))) := same_upd hq
  have s2 : Same (upd H q (.lst (ns.map V.int))) (upd (upd H q (.lst (ns.map V.int))) l (.lst (ns.map V.int))) := same_upd hl
  have hS2 := (s1.trans s2).seq hS
  refine ⟨.ref a, e, .ref a, ns.length, rfl, .inl ⟨_, hS2, by rw [List.length_map]⟩, 5642, ns.length, rfl, rfl, by show 4 ≤ sizeLine; decide, fun p hp => ?_⟩
  have hl0 : H l = none := by
    rw [upd_ne (ne_of_none (show upd H q (.lst (ns.map V.int)) q = _ from upd_same) hl).symm] at hl
    exact hl
  have pl : p ≠ l := fun z => by rw [z, upd_same] at hp; cases hp
  have pq : p ≠ q := fun z => by
    rw [z] at hp
    rw [upd_ne (ne_of_none (show upd H q (.lst (ns.map V.int)) q = _ from upd_same) hl), upd_same] at hp
    cases hp
  have hp0 : H p = none := by
    rw [upd_ne pl, upd_ne pq] at hp
    exact hp
  exact h l p _ ((s1.trans s2).trans (same_upd hp)) hl0 hp0 pl (by rw [upd_ne (Ne.symm pl), upd_same]) upd_same
/-- the bag, of the script -/
def fsStart : FS := fun ds k _ => match ds with
  | [.scr] => k .bag
  | _ => False
def spStart (K : PySem.W.Frag) : Sp := fun vs H Q _ => ∃ (a : Addr) (ns : List Int), vs = [.ref a] ∧ SqL K H a (ns.map V.int) ∧ ns.length ≤ 63 ∧
  ∀ l p H', Same H H' → H l = none → H p = none → p ≠ l → H' l = some (.lst (ns.map V.int)) → H' p = some (.lst [.ref l, .int 0, .int 0, .int (5642 + ns.length)]) → Q (.ref p) H'
section
variable {P : Program} {w : World} {K : PySem.W.Frag} {mg : PySem.Str → Option Value} {base : Heap}
theorem start_ok {x qual : PySem.Str} {st : Stmt} {f : Addr} {fd : FuncData} {N ps : List PySem.Str} {k : Nat} (F : Fun K x qual st f fd) (S : FnScope N ps (defScope st)) (hn : ps.length = 1)
    (body : ∀ (cdv : Value) (A : Around) (outer : List Env) (s : Shared) (H : Hp) (E : XK), PSs (cxOf (L2.CX P w) P w K mg base N qual (defScope st) f cdv A outer s H E) (defBody st) (tRet (tStart K))) :
    FnOk P w K mg base (L2.CX P w) (k + 1) f fd ps (spOf K 1 fsStart) := by
  have raw : FnOk P w K mg base (L2.CX P w) (k + 1) f fd ps (spStart K) := by
    refine F.okX S (fun vs H Q E ⟨a, ns, e, _⟩ => by rw [e, hn]; rfl) (fun cdv A outer s H vs Q E hr h => ⟨_, body cdv A outer s H E, ?_⟩)
    obtain ⟨a, ns, rfl, hS, h63, q⟩ := h
    exact start_te (by unfold L2.start; rfl) hS h63 q
  refine ⟨fun vs H Q E h => ?_, fun A outer s H args us vs Q E hr he hb hv h => ?_⟩
  · obtain ⟨G, ds, kd, kx, _, b, c, _⟩ := h
    rw [b.length, c, hn]
  · obtain ⟨G, ds, kd, kx, sb, r, hl, hf, hk, hx⟩ := h
    match ds, r, hf with
    | [.scr], .cons (.scr (a := a) (ns := ns) hS h63) .nil, hf =>
      refine codeAny_mono (raw.run A outer s H args us _ (fun v H' => ∃ l p, v = .ref p ∧ Same H H' ∧ H l = none ∧ H p = none ∧ p ≠ l ∧ H' l = some (.lst (ns.map V.int)) ∧ H' p = some (.lst [.ref l, .int 0, .int 0, .int (5642 + ns.length)])) E hr he hb hv
        ⟨a, ns, rfl, sb.sql hS, h63, fun l p H' a1 a2 a3 a4 a5 a6 => ⟨l, p, rfl, a1, a2, a3, a4, a5, a6⟩⟩) fun rs s' hq => ?_
      cases rs with
      | error e => exact hq
      | ok fl =>
        cases fl with
        | ret u =>
          obtain ⟨v, H', os, bare, un, hok, rv, l, p, rfl, sm, hl0, hp0, pl, hl', hp'⟩ := hq
          have gl := sb.none hl0
          have gp := sb.none hp0
          have un2 : Un (frs outer) [] H (upd H' p (.ext (BagRaw p l ns.length))) s.heap s'.heap := un_close un hp' (.inl hp0)
          have hok2 := bag_close (n := ns.length) (i := 0) hok hp' (Nat.zero_le _) (by decide) (by omega) (by omega)
          refine ⟨.ref p, _, os, bare, un2, hok2, rv, ?_⟩
          have sH : Same H (upd H' p (.ext (BagRaw p l ns.length))) := fun b o e => by
            rw [upd_ne (ne_of_none e hp0)]
            exact sm b o e
          have sG : Same G (upd (upd G l (.lst (ns.map V.int))) p (.ext (BagRaw p l ns.length))) := fun b o e => by
            rw [upd_ne (ne_of_none e gp), upd_ne (ne_of_none e gl)]
            exact e
          refine hk .bag _ (upd (upd G l (.lst (ns.map V.int))) p (.ext (BagRaw p l ns.length))) _ hf ⟨.of sH, sG, fun b n ⟨o, e⟩ => ?_, ⟨fun b o e => ?_, fun b o e => ?_, sb.tb.ext sH⟩⟩ (.bag ⟨l, ns, upd_same, by rw [upd_ne (Ne.symm pl), upd_same], pl, h63⟩)
          · rw [upd_ne (ne_of_none e hp0), upd_ne (ne_of_none e hl0)]
            exact n
          · by_cases hb : b = p
            · subst hb
              rw [upd_same] at e ⊢
              exact .inl e
            · rw [upd_ne hb] at e ⊢
              by_cases hb2 : b = l
              · subst hb2
                rw [upd_same] at e
                cases e
                exact .inl hl'
              · rw [upd_ne hb2] at e
                rcases sb.m b o e with z | ⟨z, ob, z2⟩
                · exact .inl (sm _ _ z)
                · exact .inr ⟨z, ob, sm _ _ z2⟩
          · by_cases hb : b = p
            · subst hb
              rw [upd_same] at e
              cases e
              intro ps z
              cases z
            · rw [upd_ne hb] at e
              by_cases hb2 : b = l
              · subst hb2
                rw [upd_same] at e
                cases e
                intro ps z
                cases z
              · rw [upd_ne hb2] at e
                exact sb.nt b o e
        | next => exact hq
        | brk => exact hq
        | cont => exact hq
end
section
variable {P : Program} {w : World} {K : PySem.W.Frag} {mg : PySem.Str → Option Value} {base : Heap}
theorem fn_okC {x qual : PySem.Str} {st : Stmt} {f c : Addr} {N ps : List PySem.Str} {k n : Nat} {fs : FS} {kV doc pm ct oc : Value} {an od : Option Addr} {osl : Array (Option Value)}
    (lk : K.lookup f = some ⟨oc, od, .func (PySem.W.fnOf x qual (defArgs st) (defBody st) (defScope st) .none kV doc pm an (.ref c) ct), osl⟩) (hcd : PySem.W.codeIn K (.ref c) qual = true) (S : FnScope N ps (defScope st)) (hn : ps.length = n)
    (body : ∀ (A : Around) (outer : List Env) (s : Shared) (H : Hp) (E : XK), Room k (A.deeper (envOfC qual (defScope st) s.heap.objs.size f (.ref c))) →
      ∃ t, PSS (cxOf (L2.CX P w) P w K mg base N qual (defScope st) f (.ref c) A outer s H E) (fun cls d _ H => E cls d H) (defBody st) t ∧ ∀ ds kd kx, ds.length = n → fs ds kd kx → t (fEnds kd kx) (ga0 N.length ds)) :
    FnOk P w K mg base (L2.CX P w) (k + 1) f (PySem.W.fnOf x qual (defArgs st) (defBody st) (defScope st) .none kV doc pm an (.ref c) ct) ps (spOf K n fs) := by
  refine fn_of lk hcd S (fun vs H Q E h => ?_) (fun A outer s H vs Q E hr h => ?_)
  · obtain ⟨G, ds, kd, kx, _, b, c, _⟩ := h
    rw [b.length, c, hn]
  · obtain ⟨G, ds, kd, kx, sb, r, hl, hf, hk, hx⟩ := h
    obtain ⟨t, ⟨ts, ps, rd⟩, ht⟩ := body A outer s H E hr
    refine ⟨ts, ps, rd G H (ga0 N.length ds) (L2.start N vs) G H (fEnds kd kx) _ (fr0 sb r) (ht ds kd kx hl hf) ⟨?_, ?_, ?_, ?_, ?_⟩⟩
    · exact fun Γ σ G' H' q F' => hk .non .non G' H' q F'.e .non
    · exact fun _ _ _ _ q => q.elim
    · exact fun _ _ _ _ q => q.elim
    · exact fun d v Γ σ G' H' q F' n => hk d v G' H' q F'.e n
    · exact fun x cls dA Γ σ G' H' q F' n => hx x cls dA G' H' q F'.e n
end
end PL
set_option Elab.async false
set_option linter.all false
set_option maxRecDepth 100000
set_option maxHeartbeats 2000000
namespace L2
open PySem PySem.Spec PyProof.Rows
end L2
namespace PL
open PySem L2
end PL
set_option Elab.async false
set_option linter.all false
set_option maxRecDepth 100000
set_option maxHeartbeats 2000000
namespace PL
open PySem L2
variable [Tabl]
section
variable {X : Cx}
theorem denL_int {K : PySem.W.Frag} {G : Hp} : ∀ {bs : List Int} {vs : List V}, DenL K G vs (bs.map D.int) → vs = bs.map V.int
  | [], _, h => by cases h; rfl
  | b :: r, _, h => by
    cases h with
    | cons h1 h2 =>
      cases h1
      rw [denL_int h2]
      rfl
end
end PL
set_option Elab.async false
set_option linter.all false
set_option maxRecDepth 100000
set_option maxHeartbeats 2000000
namespace L2
open PySem PySem.Spec PyProof.Rows
/-- the signs of x, each in a new pair behind its place -/
def Ites (x : Str) : It :=
  ⟨fun i _ => i < x.cps.size, fun i H v H' => ∃ T c, v = .ref T ∧ H T = none ∧ H' = upd H T (.tup [.int (i : Nat), .str ⟨#[c]⟩]) ∧ x.cps[i]? = some c, fun i _ => x.cps.size ≤ i⟩
theorem drawsS {P : Program} {w : World} {A : Around} (hh : A.handled = none) (it : Addr) (x : Str) (t : Tok) :
    Draws P w A it [it] x.cps.size (fun i v => ∃ c u, x.cps[i]? = some c ∧ v = .str ⟨#[c]⟩ u) (fun i h => h.IsStrIter it (strIterType x) x t i) := by
  unfold strIterType
  split
  · exact Draws.strAscii hh it x t
  · exact Draws.strWide hh it x t
theorem turn_enumS {P : Program} {w : World} {K : PySem.W.Frag} {elts : List Expr} {kk : Nat} {tpos : Pos} (x : Str) (t : Tok) (e it : Addr) :
    Turn P w K (.Tuple elts kk tpos) (Ites x) [e, it] e (fun i h => (∃ old, IsEnum h e it ((i : Nat) : Int) old) ∧ h.IsStrIter it (strIterType x) x t i ∧ e ≠ it ∧ i ≤ x.cps.size) where
  mem := by simp
  obj := fun i h st b hb => by
    obtain ⟨⟨old, he⟩, ⟨o, ho, hc, hd⟩, _⟩ := st
    have e' : b = e ∨ b = it := by simpa using hb
    rcases e' with z | z
    · rw [z]; exact ⟨_, he, fun v q => nomatch q⟩
    · rw [z]; exact ⟨o, ho, fun v q => by rw [hd] at q; cases q⟩
  keep := fun i h h' st k => let ⟨⟨old, he⟩, ⟨o, ho, r⟩, hne⟩ := st; ⟨⟨old, k e (by simp) _ he⟩, ⟨o, k it (by simp) o ho, r⟩, hne⟩
  item := by
    intro X hP hw hK hc i pins s σ H E I hf st hg
    subst hP hw hK
    obtain ⟨⟨old, he⟩, hit, hne, hle⟩ := st
    have hg : i < x.cps.size := hg
    have D : Draws X.prog X.w X.A.in1 it [it] x.cps.size (fun i v => ∃ c u, x.cps[i]? = some c ∧ v = .str ⟨#[c]⟩ u) (fun i h => h.IsStrIter it (strIterType x) x t i) := drawsS (A := X.A.in1) (show X.A.in1.handled = none from I.ok.hd hc) it x t
    have hel : e < s.heap.objs.size := Heap.lt_size he
    have hil : it < s.heap.objs.size := by obtain ⟨_, q, _⟩ := hit; exact Heap.lt_size q
    refine wpAny_pyNext_enum_itemD D he hit hg hne (by simpa using hne) fun u h' tk hP ho hit' hT hsz hk => ?_
    obtain ⟨c, ut, hcx, rfl⟩ := hP
    refine ⟨_, rfl, wpAny_letOwnedTupleGo_enum (s := { s with heap := h', toks := tk + 1 }) ho fun h'' he' sb => ?_⟩
    have hT2 : h''.get? s.heap.objs.size = some { cls := .type "tuple", data := .seq #[.int i tk, .str ⟨#[c]⟩ ut] } := (sb.2 _ (Nat.ne_of_gt hel)).trans hT
    have new : ObjOk X.prog X.w (upd H s.heap.objs.size (.tup [.int (i : Nat), .str ⟨#[c]⟩])) h'' s.heap.objs.size (.tup [.int (i : Nat), .str ⟨#[c]⟩]) :=
      ⟨by show 2 ≤ sizeLine; decide, [.int i tk, .str ⟨#[c]⟩ ut], .cons ⟨_, rfl⟩ (.cons ⟨_, rfl⟩ .nil), ⟨_, hT2, rfl, _, rfl⟩⟩
    have I1 : Inv X pins σ (upd H s.heap.objs.size (.tup [.int (i : Nat), .str ⟨#[c]⟩])) { s with heap := h'', toks := tk + 1 } :=
      I.turnedNew (ch := [e, it]) (fun b ob hb q => (sb.2 b (fun z => hb (by simp [z]))).trans (hk b ob (fun z => hb (by simp [z])) (fun z => hb (by simp [z])) q)) hf (Nat.le_refl _) new
    refine ⟨.ref s.heap.objs.size, _, I1, rfl, ⟨_, c, rfl, I.hok.fresh (Nat.le_refl _), rfl, hcx⟩, ⟨⟨.str ⟨#[c]⟩ ut, ?_⟩, ?_, hne, hg⟩, fun b hb => ?_⟩
    · have e1 : ((i + 1 : Nat) : Int) = (i : Int) + 1 := by omega
      rw [e1]; exact he'
    · obtain ⟨o, ho, r⟩ := hit'
      exact ⟨o, (sb.2 it (Ne.symm hne)).trans ho, r⟩
    · have hb' : b < s.heap.objs.size := by
        have e' : b = e ∨ b = it := by simpa using hb
        rcases e' with z | z
        · rw [z]; exact hel
        · rw [z]; exact hil
      rw [upd_ne (Nat.ne_of_lt hb')]
      exact (hf b hb).1
  done := by
    intro X hP hw hK hc i pins s σ H E I hf st hg
    subst hP hw hK
    obtain ⟨⟨old, he⟩, hit, hne, hle⟩ := st
    have hg : x.cps.size ≤ i := hg
    have e : i = x.cps.size := by omega
    subst e
    have D : Draws X.prog X.w X.A.in1 it [it] x.cps.size (fun i v => ∃ c u, x.cps[i]? = some c ∧ v = .str ⟨#[c]⟩ u) (fun i h => h.IsStrIter it (strIterType x) x t i) := drawsS (A := X.A.in1) (show X.A.in1.handled = none from I.ok.hd hc) it x t
    obtain ⟨f0, f1, f2, f3, f4, f5⟩ := hf it (by simp)
    exact wpAny_pyNext_enum_endD D he hit fun h' eb => ⟨rfl, I.turned (t' := s.toks) (fun b o hb q => eb b o hb q) f0 f1 f3 f4 f5⟩
  self := fun A i s Q E st h => let ⟨⟨_, he⟩, _⟩ := st; wpAny_pyIter_enum he h
def iEnumS (ta : TA) : TI := fun σ H R => ta σ H fun vs H1 => ∃ x, vs = [.str x] ∧ R (Ites x) H1
theorem pi_enumS {X : Cx} {e : Expr} {ta : TA} {p pos tpos : Pos} {elts : List Expr} {kk : Nat} (hg : Gl X "enumerate") (hm : X.mg "enumerate" = none) (ha : PA X [e] ta) (hs : starEach [e] X.env = [(false, eval e X.env)] := by rfl) :
    PI X (.Tuple elts kk tpos) (.Call (.Name "enumerate" p) [e] [] pos) (iEnumS ta) := by
  refine ⟨fun pins s σ H R I h => ?_⟩
  refine Call_ (ld_blt I hg hm boot_enumerate (PyProof.Rows.callWith_type1 (thn (ha.run pos pins s σ H _ I h) fun us s1 ⟨vs, H1, I1, r1, q1⟩ => ?_) hs rfl))
  obtain ⟨x, ex, q⟩ := q1
  subst ex
  cases r1 with
  | cons r rr =>
    cases rr
    obtain ⟨t, rfl⟩ := r
    refine call_enumerate_str fun h' he hit hsz hk => wpAny_pyIter_enum he ?_
    have I2 : Inv X pins σ H1 { s1 with heap := h' } := I1.kept (t' := s1.toks) hk
    refine ⟨s1.heap.objs.size + 1, [s1.heap.objs.size + 1, s1.heap.objs.size], _, _, H1, rfl, I2, turn_enumS x t (s1.heap.objs.size + 1) s1.heap.objs.size, ⟨⟨.none, he⟩, hit, Nat.succ_ne_self _, Nat.zero_le _⟩, fun b hb => ?_, q⟩
    have e' : b = s1.heap.objs.size + 1 ∨ b = s1.heap.objs.size := by simpa using hb
    have hle : s1.heap.objs.size ≤ b := by
      rcases e' with z | z
      · rw [z]; exact Nat.le_add_right _ _
      · rw [z]; exact Nat.le_refl _
    exact I1.fpOk hle (I1.hok.fresh hle)
end L2
namespace PL
open PySem L2
variable [Tabl]
def pairs : Nat → List Nat → List D
  | _, [] => []
  | i, c :: r => .tup [.int (i : Nat), .str [c]] :: pairs (i + 1) r
theorem pairs_length : ∀ (i : Nat) (s : List Nat), (pairs i s).length = s.length
  | _, [] => rfl
  | i, c :: r => congrArg (· + 1) (pairs_length (i + 1) r)
theorem pairs_get : ∀ (s : List Nat) (i k : Nat) (c : Nat), s[k]? = some c → (pairs i s)[k]? = some (.tup [.int ((i + k : Nat)), .str [c]])
  | [], _, _, _, h => by simp at h
  | a :: r, i, 0, c, h => by
    have : a = c := by simpa using h
    subst this
    rfl
  | a :: r, i, k + 1, c, h => by
    have h : r[k]? = some c := by simpa using h
    have := pairs_get r (i + 1) k c h
    show (pairs (i + 1) r)[k]? = _
    rw [this, show i + 1 + k = i + (k + 1) by omega]
section
variable {X : Cx} {W : WX} {e : Expr} {t : TP} {tl : TL} {pos : Pos}
theorem wk_enumS {K : PySem.W.Frag} (s : List Nat) (ok : Hp → Hp → Prop) : Wk K (Ites (SS s)) (pairs 0 s) ok where
  go := fun i G H hi _ _ => by
    rw [pairs_length] at hi
    show i < (SS s).cps.size
    simpa [SS] using hi
  yl := fun i G H x H' hi _ sb y => by
    obtain ⟨T, c, rfl, hT, rfl, hc⟩ := y
    have hc : s[i]? = some c := by simpa [SS] using hc
    have := pairs_get s 0 i c hc
    rw [Nat.zero_add] at this
    exact ⟨_, _, this, Ext.new sb hT, .tup (SqT.of upd_same) (.cons (.int _) (.cons (.str _) .nil))⟩
  st := fun G H _ _ => by
    show (SS s).cps.size ≤ (pairs 0 s).length
    rw [pairs_length]
    simp [SS]
def tiEnumS (t : TP) : TL := fun Γ k kx => t Γ (fun d => match d with | .str s => k (pairs 0 s) | _ => False) kx
theorem i_enumS {p pos tpos : Pos} {elts : List Expr} {kk : Nat} (hm : X.mg "enumerate" = none) (h : PP X W e t) (hg : Gl X "enumerate" := by rfl) (hs : starEach [e] X.env = [(false, eval e X.env)] := by rfl) :
    PIt X W (.Tuple elts kk tpos) (.Call (.Name "enumerate" p) [e] [] pos) (tiEnumS t) := by
  obtain ⟨ea, pa, ra⟩ := h.ex
  refine ⟨_, pi_enumS hg hm (pa_cons pa pa_nil hs) hs, fun G0 H0 Γ σ G H k kx R F ht hk hx => ?_⟩
  refine ra G0 H0 Γ σ G H _ kx _ F ht (fun d v G1 H1 k1 x1 n1 => ?_) hx
  cases d with
  | str s =>
    cases n1
    exact ⟨_, rfl, hk _ _ _ _ k1 x1 (wk_enumS s _)⟩
  | _ => exact k1.elim
/-- a, b = a pair -/
def tgTup2 (i j : Nat) : TGp := fun d Γ k => match d with
  | .tup [a, b] => k (gset (gset Γ i (.pu a)) j (.pu b))
  | _ => False
theorem g_tup2 (i j : Nat) {x y : PySem.Str} {p q pos : Pos} {kk : Nat} (hc : X.calm = true) (nd : X.N.Nodup) (hi : X.N[i]? = some x := by rfl) (hj : X.N[j]? = some y := by rfl)
    (hx : Loc X.env.scope x := by first | exact Or.inl rfl | exact Or.inr rfl) (hy : Loc X.env.scope y := by first | exact Or.inl rfl | exact Or.inr rfl)
    (hf : X.fn x = true ∨ X.env.scope.names.lookup x = some .local := by first | exact .inl rfl | exact .inr rfl) (hf2 : X.fn y = true ∨ X.env.scope.names.lookup y = some .local := by first | exact .inl rfl | exact .inr rfl) :
    PGt X (.Tuple [.Name x p, .Name y q] kk pos) [i, j] (tgTup2 i j) := by
  refine ⟨_, pg_tup hc (pgs_cons (pg_name nd hi hx hf) (pgs_cons (pg_name nd hj hy hf2) pgs_nil)), fun G0 H0 Γ σ G H d v k Q F n ht hk => ?_⟩
  cases d with
  | tup xs =>
    match xs, ht, n with
    | [a, b], ht, n =>
      cases n with
      | @tup ad vs _ h1 h2 =>
        cases h2 with
        | @cons va _ _ _ n1 h2 =>
          cases h2 with
          | @cons vb _ _ _ n2 h2 =>
            cases h2
            refine ⟨ad, _, rfl, F.sub.sqt h1, rfl, va, _, rfl, vb, _, rfl, rfl, ?_⟩
            refine hk _ _ ht ((F.set i n1).set j n2) ?_
            rw [wipe_comm _ j _ [i, j] (by simp), wipe_comm _ i _ [i, j] (by simp)]
  | _ => exact ht.elim
end
end PL
set_option Elab.async false
set_option linter.all false
set_option maxRecDepth 100000
set_option maxHeartbeats 2000000
namespace L2
open PySem PySem.Spec PyProof.Rows
end L2
namespace PL
open PySem L2
end PL
set_option Elab.async false
set_option linter.all false
set_option maxRecDepth 100000
set_option maxHeartbeats 4000000
namespace PL
open PySem L2 PyProof.Rows
abbrev lamFd (q : PySem.Str) (params : Arguments) (body : Expr) (scope : Scope) (cl : List (PySem.Str × Addr)) (pm cv ctv dV : Value) : FuncData :=
  { PySem.W.kla_fn "<lambda>" q params body scope cl pm cv ctv with defaults := dV }
section
variable {M : Model} {A : Around} {E : Value → Shared → Prop} {s : Shared} {q : PySem.Str} {params : Arguments} {body : Expr} {scope : Scope} {env : Env} {P : Addr} {pos : Pos} {fl : Nat} {mg : PySem.Str → Option Value} {cl : List (PySem.Str × Addr)} {dV : Value}
theorem tail_run {Post : Value → Shared → Prop} {Q : Value → Shared → Prop} (hcl : closureFor scope env = pure cl) (hge : env.globals = mainGlobals) (hg : s.heap.Ns mainGlobals mg) (hP : mainGlobals ≠ P) (hb : s.heap.BuiltinsAt mg P)
    (run : ∀ h1 : Heap, (∀ b o, s.heap.get? b = some o → h1.get? b = some o) → s.heap.objs.size ≤ h1.objs.size → wpAny M A (functionCode env pos fl "<lambda>" q params scope (.expr body)) (fun cv s2 => Heap.ExtBut P h1 s2.heap ∧ Post cv s2) E { s with heap := h1 })
    (fin : ∀ (cv ctv : Value) (s2 : Shared), Heap.ExtBut P s.heap s2.heap → Post cv s2 → Q (.ref s2.heap.objs.size) { s2 with heap := s2.heap.push { cls := .type "function", data := .func (lamFd q params body scope cl ((mg "__name__").getD .none) cv ctv dV) } }) :
    wpAny M A (makeTail "<lambda>" q params (.expr body) scope env dV .none none pos fl) Q E s := by
  have fin2 : ∀ (ctv : Value) (h1 : Heap) (cv : Value) (s2 : Shared), (∀ b o, s.heap.get? b = some o → h1.get? b = some o) → Heap.ExtBut P h1 s2.heap → Post cv s2 →
      wpAny M A (do let bi ← builtinsFor mainGlobals env.builtins; let nm ← nsGet mainGlobals "__name__"; let doc ← (pure .none : Sem Value);
                    newObj (.type "function") (.func { name := "<lambda>", qualname := q, params, body := .expr body, scope, globals := mainGlobals, closure := cl, closureTuple := ctv, code := cv, builtins := bi, defaults := dV, kwdefaults := .none, annotations := none, pyModule := nm.getD .none, doc := doc })) Q E s2 := by
    intro ctv h1 cv s2 k1 k2 hp
    have kk : Heap.ExtBut P s.heap s2.heap := fun b o hb e => k2 b o hb (k1 b o e)
    obtain ⟨bm, ob, m1, m2, _, m4, m5, m6, m7, m8⟩ := hb
    have g2 := hg.extBut kk hP
    exact wpAny_bind (wpAny_builtinsFor g2 m1 m2 (kk _ _ m4 m5) m6 m7 m8 (wpAny_bind (wpAny_nsGet g2 (wpAny_bind (wpAny_pure (wpAny_newObj_type (fin cv ctv s2 kk hp) (by size_fits)))))))
  unfold makeTail
  rw [hcl, hge]
  refine wpAny_bind (wpAny_pure ?_)
  cases cl with
  | nil =>
    rw [if_pos (by rfl)]
    refine wpAny_bind (wpAny_pure (wpAny_bind (wpAny_mono (run s.heap (fun _ _ e => e) (Nat.le_refl _)) (fun cv s2 hq => ?_) fun _ _ z => z)))
    exact fin2 .none s.heap cv s2 (fun _ _ e => e) hq.1 hq.2
  | cons a r =>
    rw [if_neg (by exact Bool.false_ne_true)]
    refine wpAny_bind (wpAny_newTextTuple (wpAny_bind (wpAny_mono (run (s.heap.push _) (fun b o e => Heap.get?_push_of_some _ e) (by rw [Heap.size_push]; omega)) (fun cv s2 hq => ?_) fun _ _ z => z)))
    exact fin2 _ (s.heap.push _) cv s2 (fun b o e => Heap.get?_push_of_some _ e) hq.1 hq.2
end
variable [Tabl]
/-- no name of its own but those that the frame does not have -/
structure LamSD (N : List PySem.Str) (sc scope : Scope) : Prop where
  kind : scope.kind = .function
  co : scope.isCoroutine = false
  gen : scope.isGenerator = false
  cell : ∀ y ∈ scope.names, y.2 ≠ .cell
  own : ∀ y ∈ scope.names, y.2 = .local → y.1 ∉ N
  free : ∀ y ∈ scope.names, y.2 = .free → sc.names.lookup y.1 = some .cell ∨ sc.names.lookup y.1 = some .free
def lamSDB (N : List PySem.Str) (sc scope : Scope) : Bool :=
  decide (scope.kind = .function) && (!scope.isCoroutine && (!scope.isGenerator && scope.names.all fun y => !decide (y.2 = .cell) && ((!decide (y.2 = .local) || !N.contains y.1) && (!decide (y.2 = .free) || (decide (sc.names.lookup y.1 = some .cell) || decide (sc.names.lookup y.1 = some .free))))))
theorem lamSD_by {N : List PySem.Str} {sc scope : Scope} (h : lamSDB N sc scope = true) : LamSD N sc scope := by
  unfold lamSDB at h
  simp only [Bool.and_eq_true, Bool.or_eq_true, Bool.not_eq_true', decide_eq_true_eq, decide_eq_false_iff_not, List.all_eq_true] at h
  obtain ⟨h1, h2, h3, h4⟩ := h
  refine ⟨h1, h2, h3, fun y hy => (h4 y hy).1, fun y hy e m => ?_, fun y hy e => ?_⟩
  · rcases (h4 y hy).2.1 with z | z
    · exact z e
    · rw [List.contains_iff_mem.mpr m] at z
      cases z
  · rcases (h4 y hy).2.2 with z | z
    · exact absurd e z
    · exact z
theorem LamSD.has {X : Cx} {scope : Scope} (L : LamSD X.N X.env.scope scope) (ok : X.Ok) : ∀ y ∈ scope.names, y.2 = .free → ∃ c, X.env.cells.lookup y.1 = some c :=
  fun y hy e => ok.has _ (L.free y hy e)
section
variable {X : Cx} {pins : List (Addr × Obj)} {σ : L2.St} {H HZ : Hp} {s s1 : Shared}
theorem lam_startD {A : Around} {outer : List Env} {E : XK} {scope : Scope} {f c' : Addr} {h1 : Heap} {tk : Nat} {m1 : PySem.Str → Option Value} (I : Inv X pins σ H s) (L : LamSD X.N X.env.scope scope) (e0 : Env0 X.prog X.w X.K X.mg X.base A outer s1 HZ) (hd : A.handled = none)
    (un : Un (frs X.stack) [] H HZ s.heap s1.heap) (hns : h1.Ns s1.heap.objs.size m1) (kp : ∀ b o, s1.heap.get? b = some o → h1.get? b = some o) :
    Inv (LamX.lamCx X A outer s1 HZ E scope f c') [] σ HZ { s1 with heap := h1, toks := tk } := by
  have hfree := L.has I.ok
  have there : ∀ {y c}, (cloFrom X.env.cells scope.names []).lookup y = some c → X.env.cells.lookup y = some c := by
    intro y c e
    rcases cloFrom_mem (PySem.mem_of_lookup e) with z | ⟨z1, z2⟩
    · exact nomatch z
    · obtain ⟨c1, hc⟩ := hfree _ z1 rfl
      have hc : X.env.cells.lookup y = some c1 := hc
      have : c = c1 := by rw [z2, hc] <;> rfl
      rw [this]; exact hc
  have look : ∀ {y}, scope.names.lookup y = some .free → ∃ c, (cloFrom X.env.cells scope.names []).lookup y = some c := fun {y} hl =>
    mem_lookup (cloFrom_has (cells := X.env.cells) (acc := []) (show (y, NameKind.free) ∈ scope.names from PySem.mem_of_lookup hl))
  have cellK : ∀ {c : Addr} {v : Option Value}, H c = none → s.heap.IsCell c v → h1.IsCell c v := by
    intro c v n ⟨o, ho, hd⟩
    obtain ⟨sl, z⟩ := un.any ho n (by simp)
    exact ⟨_, kp _ _ z, hd⟩
  have noA : ∀ b : Addr, b ∉ (LamX.lamCx X A outer s1 HZ E scope f c').ex := fun b z => nomatch (show b ∈ ([] : List Addr) from z)
  refine ⟨⟨e0.mod, L.kind, rfl, rfl, Nat.le_refl _, fun y z c a b => I.ok.inj y z c (there a) (there b), fun y hy => ?_, fun y c z _ => ?_, fun _ => hd, Around.frames_deeper e0.frames, .inr ⟨rfl, rfl⟩, fun b z => absurd z (noA b), e0.bs, e0.bsz, fun b _ _ => noA b,
      fun b z => absurd z (noA b), e0.funs, e0.frf⟩,
    rfl, e0.bare, Un.kept kp, ⟨_, hns, fun i y v a b c => ?_⟩, fun y c e => ?_, e0.hok.fresh (Nat.le_refl _), fun y c e => ?_, fun z hz => absurd (show z ∈ ([] : List (Addr × Obj)) ++ [] from hz) (by simp), e0.hok.kept kp, I.len⟩
  · rcases (show scope.names.lookup y = some .cell ∨ scope.names.lookup y = some .free from hy) with hy | hy
    · exact absurd rfl (L.cell _ (PySem.mem_of_lookup hy))
    · exact look hy
  · exact nomatch (show false = true from z)
  · have c : Vis scope y := c
    have inN : y ∈ X.N := List.mem_of_getElem? (show X.N[i]? = some y from a)
    rcases c with k | k | k
    · exact absurd inN (L.own _ (PySem.mem_of_lookup k) rfl)
    · exact absurd rfl (L.cell _ (PySem.mem_of_lookup k))
    · obtain ⟨m, _, hl⟩ := I.loc
      have vis : Vis X.env.scope y := (L.free _ (PySem.mem_of_lookup k) rfl).elim (fun z => .inr (.inl z)) (fun z => .inr (.inr z))
      obtain ⟨w', r, z⟩ := hl i y v a b vis
      obtain ⟨c2, h2⟩ := look k
      refine ⟨w', r, .inr ⟨.inr k, c2, h2, ?_⟩⟩
      have c1 := there h2
      rcases z with ⟨k', _⟩ | ⟨_, c3, e', z⟩
      · have k' : X.env.scope.names.lookup y = some .local := k'
        rcases L.free _ (PySem.mem_of_lookup k) rfl with k2 | k2 <;> rw [show X.env.scope.names.lookup y = _ from k2] at k' <;> cases k'
      · rw [c1] at e'
        cases e'
        exact cellK (I.freeC y _ c1) z
  · obtain ⟨w', z⟩ := I.cell y c (there e)
    exact ⟨w', cellK (I.freeC y c (there e)) z⟩
  · obtain ⟨v, o, ho, hd⟩ := I.cell y c (there e)
    exact un.free c o ho (I.freeC y c (there e)) (by simp)
/-- the made lambda at f, its code object at c' -/
structure LamAtD (X : Cx) (params : Arguments) (body : Expr) (scope : Scope) (f c' : Addr) (H : Hp) (s : Shared) : Prop where
  obj : ∃ pm ctv T v0, s.heap.get? f = some { cls := .type "function", data := .func (lamFd (X.env.qual ++ "<lambda>") params body scope (cloFrom X.env.cells scope.names []) pm (.ref c') ctv (.ref T)) } ∧
    s.heap.get? T = some { cls := .type "tuple", data := .seq #[v0] } ∧ H T = none ∧ T ∉ frs X.stack
  free : H f = none
  fr : f ∉ frs X.stack
  code : H c' = some (LamX.CodeO c' (X.env.qual ++ "<lambda>"))
theorem lam_madeD {c P : Addr} {params : Arguments} {body e0 : Expr} {scope : Scope} {pos : Pos} {v0 : V} {E : Value → Shared → Prop} {Q : Value → Shared → Prop} (I : Inv X pins σ H s) (TB : LamX.TabB X.base X.mg c P) (hcode : X.env.code = .ref c)
    (hm : (P, X.env.qual ++ "<lambda>") ∈ Tabl.T) (hT : LamX.Tabs Tabl.T H) (hdef : defaultsOf params X.env = ([eval e0 X.env], [])) (he0 : PE X e0 (tC v0)) (hE : X.xe = E) (hfree : ∀ y ∈ scope.names, y.2 = .free → ∃ c, X.env.cells.lookup y.1 = some c)
    (h : ∀ (f c' : Addr) (H1 : Hp) (s' : Shared), Inv X pins σ H1 s' → Up H H1 → LamAtD X params body scope f c' H1 s' → Q (.ref f) s') : wpAny (model X.prog X.w) X.A (eval (.Lambda params body scope pos) X.env) Q E s := by
  subst hE
  rw [arm_eval_Lambda, hdef]
  show wpAny _ _ (do let dv ← evalAll [eval e0 X.env]; let kdv ← holding dv (evalAllOpt []); makeFunction "<lambda>" (X.env.qual ++ "<lambda>") params (.expr body) scope X.env dv kdv [] pos pos.line) Q _ s
  show wpAny _ _ ((do let v ← eval e0 X.env; return v :: (← holding [v] (evalAll []))) >>= _) Q _ s
  refine wpAny_bind (wpAny_bind (wpAny_mono (he0.run pins s σ H (fun v H' => v = v0 ∧ H' = H) I ⟨rfl, rfl⟩) (fun u sa hq => ?_) fun _ _ z => z))
  obtain ⟨_, H2, Ia, _, _, e2⟩ := hq
  rw [e2] at Ia
  refine wpAny_bind (wpAny_holding (wpAny_pure (wpAny_pure (wpAny_bind (wpAny_holding (wpAny_pure ?_))))))
  rw [makeFunction_eq]
  simp only [List.zip_nil_right, List.filterMap_nil, List.isEmpty_nil, if_true, pure_bind]
  rw [if_neg (by exact Bool.false_ne_true)]
  refine wpAny_bind (wpAny_newTextTuple ?_)
  have Ib : Inv X pins σ H { sa with heap := sa.heap.push { cls := .type "tuple", data := .seq [u].toArray } } := Ia.kept (t' := sa.toks) fun b o e => Heap.get?_push_of_some _ e
  have gT : (sa.heap.push { cls := .type "tuple", data := .seq [u].toArray }).get? sa.heap.objs.size = some { cls := .type "tuple", data := .seq [u].toArray } := Heap.get?_push_size _ rfl
  have fT : H sa.heap.objs.size = none := Ia.hok.fresh (Nat.le_refl sa.heap.objs.size)
  have nofr : ∀ f, sa.heap.objs.size ≤ f → f ∉ frs X.stack := fun f hf z => by
    rcases List.mem_cons.mp (Ia.stkSub _ z) with e | e
    · exact absurd (Nat.lt_of_lt_of_le Ia.lt hf) (by rw [e]; exact Nat.lt_irrefl _)
    · exact Ia.nofs hf e
  have nT := nofr _ (Nat.le_refl sa.heap.objs.size)
  generalize sa.heap.objs.size = T at gT fT nT nofr ⊢
  have szb : T ≤ (sa.heap.push { cls := .type "tuple", data := .seq [u].toArray }).objs.size := Nat.le_of_lt (Heap.lt_size gT)
  generalize hsb : ({ sa with heap := sa.heap.push { cls := .type "tuple", data := .seq [u].toArray } } : Shared) = sb at Ib ⊢
  have gT : sb.heap.get? T = some { cls := .type "tuple", data := .seq [u].toArray } := by rw [← hsb]; exact gT
  have szb : T ≤ sb.heap.objs.size := by rw [← hsb]; exact szb
  clear hsb
  obtain ⟨ps, hP, ht, ha⟩ := hT _ hm
  have gP : sb.heap.get? P = some { cls := .none, data := .fields ps } := Ib.hok P _ hP
  cases hc : codeAmong pos ps.toList with
  | some cv =>
    obtain ⟨c', rfl, hco⟩ := ha pos cv hc
    refine tail_run (mg := X.mg) (P := P) (Post := fun cv s2 => cv = .ref c' ∧ Inv X pins σ H s2) (closure_ok hfree) Ib.ok.glob (Ib.mod.glob.keeps Ib.bk) TB.gP (TB.bm.keeps Ib.bk) (fun h1 k1 _ => ?_) (fun cv ctv s2 k hq => ?_)
    · have I1 : Inv X pins σ H { sb with heap := h1 } := Ib.kept (t' := sb.toks) k1
      exact wpAny_functionCode_hit hcode (((TB.code.keeps Ib.bk).keeps k1).code (k1 _ _ gP) ht) hc ⟨Heap.ExtBut.refl _ _, rfl, I1⟩
    · obtain ⟨rfl, I2⟩ := hq
      have tk : s2.heap.get? T = some { cls := .type "tuple", data := .seq [u].toArray } := k T _ (fun z => by rw [z, hP] at fT; cases fT) gT
      have sz := Nat.le_of_lt (Heap.lt_size tk)
      exact h _ c' _ _ (I2.kept (t' := s2.toks) fun b o e => Heap.get?_push_of_some _ e) (Up.refl _) ⟨⟨_, ctv, T, u, Heap.get?_push_size _ rfl, Heap.get?_push_of_some _ tk, fT, nT⟩, I2.hok.fresh (Nat.le_refl _), nofr _ sz, hco⟩
  | none =>
    refine tail_run (mg := X.mg) (P := P) (Post := fun cv s2 => ∃ c', cv = .ref c' ∧ sb.heap.objs.size ≤ c' ∧ c' < s2.heap.objs.size ∧ s2.heap.CodeRec (.ref c') (X.env.qual ++ "<lambda>") ∧ s2.heap.get? P = some (PySem.W.tabObj (ps ++ #[rawInt pos.line, rawInt pos.col, .ref c'])) ∧ ∃ h' tk, s2 = { sb with heap := h', toks := tk }) (closure_ok hfree) Ib.ok.glob (Ib.mod.glob.keeps Ib.bk) TB.gP (TB.bm.keeps Ib.bk) (fun h1 k1 z1 => ?_) (fun cv ctv s2 k hq => ?_)
    · have C1 := (TB.code.keeps Ib.bk).keeps k1
      exact wpAny_functionCodeX hcode (C1.code (k1 _ _ gP) ht) (C1.tab (k1 _ _ gP)) hc fun c' h' tk hx hge hlt _ hrec htb _ => ⟨hx, c', rfl, Nat.le_trans z1 hge, hlt, hrec, htb.2, h', tk, rfl⟩
    · obtain ⟨c', rfl, hge, hlt, hrec, htb, h', tk, rfl⟩ := hq
      obtain ⟨_, oc, vs, t, e2, hoc, hd, hv⟩ := hrec
      cases e2
      have tkT : h'.get? T = some { cls := .type "tuple", data := .seq [u].toArray } := k T _ (fun z => by rw [z, hP] at fT; cases fT) gT
      have sz := Nat.le_of_lt (Heap.lt_size tkT)
      have nC := Ib.hok.fresh hge
      have J : Inv X pins σ (tabbed H P c' ps pos (X.env.qual ++ "<lambda>")) _ := LamX.inv_table (t' := tk) (h' := h'.push { cls := .type "function", data := .func (lamFd (X.env.qual ++ "<lambda>") params body scope (cloFrom X.env.cells scope.names []) ((X.mg "__name__").getD .none) (.ref c') ctv (.ref T)) }) Ib hP (fun b o hb e => Heap.get?_push_of_some _ (k b o hb e))
        (Heap.get?_push_of_some _ htb) hge ⟨oc, vs, t, Heap.get?_push_of_some _ hoc, hd, hv⟩
      have away : ∀ a : Addr, H a = none → a ≠ c' → a ≠ P → tabbed H P c' ps pos (X.env.qual ++ "<lambda>") a = none := fun a z n1 n2 => by
        unfold tabbed
        rw [upd_ne n1, upd_ne n2]
        exact z
      refine h _ c' _ _ J (up_tabbed hm hP nC) ⟨⟨_, ctv, T, u, Heap.get?_push_size _ rfl, Heap.get?_push_of_some _ tkT, away T fT ?_ ?_, nT⟩, away _ (Ib.hok.fresh (Nat.le_trans hge (Nat.le_of_lt hlt))) (Nat.ne_of_gt hlt) ?_, nofr _ sz, by unfold tabbed; exact upd_same⟩
      · exact Nat.ne_of_lt (Nat.lt_of_lt_of_le (Heap.lt_size gT) hge)
      · intro z
        rw [z, hP] at fT
        cases fT
      · exact Nat.ne_of_gt (Nat.lt_trans (Nat.lt_of_lt_of_le (Heap.lt_size gP) hge) hlt)
/-- the lambda, called by its name a in that frame -/
theorem pe_lamactD {CXg : CXT} {Eg : XK} {Ng : List PySem.Str} {qg : PySem.Str} {sg : Scope} {g f c' : Addr} {cdg : Value} {params : Arguments} {body : Expr} {scope : Scope} {k i : Nat} {a y : PySem.Str} {pn : List (Addr × Obj)}
    {xe : Value → Shared → Prop} {W : WX} {tb : XK → TE} {p1 p2 : Pos} (I : Inv X pins σ H s) (L : LamSD X.N X.env.scope scope) (M : LamAtD X params body scope f c' H s)
    (hbind : ∀ (pm ctv : Value) (T : Addr), ∃ kk, bindArgs (lamFd (X.env.qual ++ "<lambda>") params body scope (cloFrom X.env.cells scope.names []) pm (.ref c') ctv (.ref T)) ⟨[], []⟩ = seqItems? (.ref T) >>= kk ∧ ∀ v, kk (some #[v]) = pure [(y, v)]) (hy : scope.names.lookup y = some .local)
    (tk : Takes ((cxG X CXg Ng qg sg g cdg s H Eg).tr pn xe) W) (hr : Room (k + 1) (X.A.deeper (envOfC qg sg s.heap.objs.size g cdg)))
    (hbody : ∀ (E : XK) (A : Around) (outer : List Env) (s : Shared) (H : Hp), Room k (A.deeper (LamX.lamEnv X scope s.heap.objs.size f c')) → PE (LamX.lamCx X A outer s H E scope f c') body (tb E))
    (hN : Ng[i]? = some a) (hv : Vis sg a) (hd : (a == ("__debug__" : PySem.Str)) = false) (hcd : (a == ("__classdict__" : PySem.Str)) = false) :
    PE ((cxG X CXg Ng qg sg g cdg s H Eg).tr pn xe) (.Call (.Name a p1) [] [] p2) (fun τ J Q => τ[i]? = some (some (.ref f)) ∧ J c' = some (LamX.CodeO c' (X.env.qual ++ "<lambda>")) ∧ tb (fun cls d J' => W cls d τ J') σ J Q) := by
  refine ⟨fun pinsZ sZ τ J Q IZ ⟨hs, hc, ht⟩ => wpAny_Call_Name_kw (thn ((pe_var (pos := p1) (i := i) hN hv hd hcd).run pinsZ sZ τ J (fun v J1 => v = .ref f ∧ J1 = J) IZ ⟨.ref f, hs, rfl, rfl⟩) fun u s1 ⟨v, J1, I1, r1, ev, eJ⟩ => ?_)⟩
  subst ev
  subst eJ
  obtain rfl : u = Value.ref f := r1
  obtain ⟨pm, ctv, T, v0, of0, oT0, fT, nT⟩ := M.obj
  have of1 := I1.base.keep f _ of0 M.free M.fr (fun z => nomatch (show f ∈ ([] : List Addr) from z))
  have oT1 := I1.base.keep T _ oT0 fT nT (fun z => nomatch (show T ∈ ([] : List Addr) from z))
  obtain ⟨⟨oc, vs, t, hoc, hdc, hvc⟩, _, _⟩ := I1.hok c' _ hc
  have un : Un (frs X.stack) [] H J1 s.heap s1.heap := I1.base
  have rc : codeAny (model X.prog X.w) (X.A.deeper (envOfC qg sg s.heap.objs.size g cdg)) (.call (.ref f) ⟨[], []⟩) (CR (L2.CX X.prog X.w) (envOfC qg sg s.heap.objs.size g cdg :: X.stack) X.prog X.w J1 s1 Q (fun cls d J' => W cls d τ J')) s1 := by
    refine PySem.W.kla_callFunE hr.depth of1 rfl L.co L.gen rfl ⟨c', oc, vs, t, rfl, hoc, hdc, hvc⟩ ?_
    obtain ⟨kk, hb1, hb2⟩ := hbind pm ctv T
    rw [hb1]
    refine wpAny_bind (wpAny_seqItems oT1 rfl ?_)
    rw [hb2]
    refine wpAny_pure (wpAny_newFunctionEnv L.cell (fun z hz => by rw [List.mem_singleton.mp hz]; exact hy) (fun h2 hns hsb => ⟨I1.nolimit.fresh _ hsb, ?_⟩) L.kind)
    have kp : ∀ b o, s1.heap.get? b = some o → h2.get? b = some o := fun b o e => hsb.extBut b o (Nat.ne_of_lt (Heap.lt_size e)) (Heap.get?_push_of_some _ e)
    have J2 := lam_startD (E := fun cls d J' => W cls d τ J') (f := f) (c' := c') (tk := s1.toks + [(y, v0)].length) I L I1.env0 hr.hd un hns kp
    refine PySem.W.kla_codeExpr (wpAny_mono ((hbody _ _ _ s1 J1 (hr.deeper _)).run [] _ _ J1 Q J2 ht) (fun v s2 q => ?_) fun _ _ q => q)
    obtain ⟨w, H2, K2, rv, q⟩ := q
    exact ⟨w, H2, K2.os, K2.bare, K2.base, K2.hok, rv, q⟩
  refine PySem.W.callWith_F0 ⟨_, _, _, _, of1⟩ (wpAny_call (codeAny_mono rc fun r s2 q => ?_))
  cases r with
  | error e => exact passAt tk τ pinsZ J1 s1 e s2 I1 q
  | ok fl =>
    cases fl with
    | ret u => exact I1.after q
    | next => exact False.elim q
    | brk => exact False.elim q
    | cont => exact False.elim q
theorem p_lamactD {CXg : CXT} {Eg : XK} {Ng : List PySem.Str} {qg : PySem.Str} {sg : Scope} {g f c' : Addr} {cdg : Value} {params : Arguments} {body : Expr} {scope : Scope} {k i : Nat} {a y : PySem.Str} {pn : List (Addr × Obj)}
    {xe : Value → Shared → Prop} {W : WX} {tE : TP} {p1 p2 : Pos} {G0 H0 G : Hp} {Γ : Ga} (F0 : Fr X.K G0 H0 Γ σ G H) (I : Inv X pins σ H s) (L : LamSD X.N X.env.scope scope) (M : LamAtD X params body scope f c' H s)
    (hbind : ∀ (pm ctv : Value) (T : Addr), ∃ kk, bindArgs (lamFd (X.env.qual ++ "<lambda>") params body scope (cloFrom X.env.cells scope.names []) pm (.ref c') ctv (.ref T)) ⟨[], []⟩ = seqItems? (.ref T) >>= kk ∧ ∀ v, kk (some #[v]) = pure [(y, v)]) (hy : scope.names.lookup y = some .local)
    (tk : Takes ((cxG X CXg Ng qg sg g cdg s H Eg).tr pn xe) W) (hr : Room (k + 1) (X.A.deeper (envOfC qg sg s.heap.objs.size g cdg)))
    (hbody : ∀ (E : XK) (A : Around) (outer : List Env) (s : Shared) (H : Hp), Room k (A.deeper (LamX.lamEnv X scope s.heap.objs.size f c')) → PP (LamX.lamCx X A outer s H E scope f c') (fun cls d _ H => E cls d H) body tE)
    (hN : Ng[i]? = some a) (hv : Vis sg a) (hd : (a == ("__debug__" : PySem.Str)) = false) (hcd : (a == ("__classdict__" : PySem.Str)) = false) :
    PP ((cxG X CXg Ng qg sg g cdg s H Eg).tr pn xe) W (.Call (.Name a p1) [] [] p2) (tpAct i (.ref f) c' (LamX.CodeO c' (X.env.qual ++ "<lambda>")) G fun k kx => tE (purify Γ) k kx) := by
  refine ⟨_, pe_lamactD (tb := fun E => teOf X.K (fun cls d _ H => E cls d H) tE) I L M hbind hy tk hr (fun E A outer s H hr => (hbody E A outer s H hr).w) hN hv hd hcd, fun G2 H2 Γ2 τ G3 H3 k kx Q F ht hk hx => ?_⟩
  obtain ⟨hs, th⟩ := ht
  cases e : gat Γ2 i with
  | kp v' c2 u' G' =>
    rw [e] at hs
    obtain ⟨rfl, rfl, rfl, rfl⟩ := hs
    obtain ⟨e1, e2, _, _, e3⟩ := F.at_ i _ (gat_get Γ2 i _ e (by simp))
    exact ⟨e1, e2, _, _, purify Γ, G3, k, kx, fr_pure F0 e3 F.sub, th, hk, fun x cls dA G4 H4 a b c => hx x cls dA G4 H4 a b c⟩
  | _ => rw [e] at hs; exact hs.elim
theorem p_lamcallD {W : WX} {x a y : PySem.Str} {st : Stmt} {N : List PySem.Str} {g c P : Addr} {fd : FuncData} {k kl : Nat} {m : TP → TSp} {params : Arguments} {body e0 : Expr} {v0 : V} {scope : Scope} {tE : TP} {p lpos pos : Pos} (F : Fun X.K x x st g fd) (S : FnScope N [a] (defScope st)) (hm : X.mg x = some (.ref g))
    (hb : Binds X.K fd [a] []) (ask : AskOk X.prog X.w X.K X.mg X.base x a st N k m) (TB : LamX.TabB X.base X.mg c P) (hcode : X.env.code = .ref c) (hT : (P, X.env.qual ++ "<lambda>") ∈ Tabl.T) (hr : Room (k + 1) X.A) (hkl : kl + 1 ≤ k) (tk : Takes X W)
    (L : lamSDB X.N X.env.scope scope = true) (hbody : ∀ (f c' : Addr) (E : XK) (A : Around) (outer : List Env) (s : Shared) (H : Hp), Room kl (A.deeper (LamX.lamEnv X scope s.heap.objs.size f c')) → PP (LamX.lamCx X A outer s H E scope f c') (fun cls d _ H => E cls d H) body tE) (he0 : PE X e0 (tC v0))
    (hbind : ∀ (q : PySem.Str) (cl : List (PySem.Str × Addr)) (pm cv ctv : Value) (T : Addr), ∃ kk, bindArgs (lamFd q params body scope cl pm cv ctv (.ref T)) ⟨[], []⟩ = seqItems? (.ref T) >>= kk ∧ ∀ v, kk (some #[v]) = pure [(y, v)] := by intros; exact ⟨_, rfl, fun _ => rfl⟩) (hy : scope.names.lookup y = some .local := by rfl) (hdef : defaultsOf params X.env = ([eval e0 X.env], []) := by rfl) (hN : N[0]? = some a := by rfl) (hva : Vis (defScope st) a := by first | exact Or.inl rfl | exact Or.inr (Or.inl rfl) | exact Or.inr (Or.inr rfl))
    (hg : Gl X x := by rfl) (hdb : (x == ("__debug__" : PySem.Str)) = false := by decide) (hd : (a == ("__debug__" : PySem.Str)) = false := by decide) (hcd : (a == ("__classdict__" : PySem.Str)) = false := by decide) :
    PP X W (.Call (.Name x p) [.Lambda params body scope lpos] [] pos) (tpLam N.length m tE) := by
  have L := lamSD_by L
  refine ⟨teOf X.K W (tpLam N.length m tE), ⟨fun pins s σ H Q I ⟨G0, H0, Γ, G, kd, kx, F0, ht, hk, hx⟩ => ?_⟩, fun G0 H0 Γ σ G H k kx Q F ht hk hx => ⟨G0, H0, Γ, G, k, kx, F, ht, hk, hx⟩⟩
  refine wpAny_Call_Name_kw (ld_glob I hg hm ?_ hdb)
  refine PySem.W.callWith_K (h₀ := X.base) I.ok.mod.kin F.kp ?_ (by rfl) (by rfl)
  show wpAny _ _ (spliced ((false, eval (.Lambda params body scope lpos) X.env) :: backTo pos (starEach [] X.env))) _ _ s
  refine Calls.spliced_cons (lam_madeD I TB hcode hT F0.sub.tb hdef he0 rfl (L.has I.ok) fun f c' H1 s1 I1 up M => ?_)
  refine Calls.spliced_nil ⟨I1.kIn, ?_⟩
  have x1 : Ext G H G H1 := ⟨up, Same.refl G, fun _ z _ => z, F0.sub.up' up⟩
  have F1 := F0.up x1
  obtain ⟨oc, od, kV, doc, pm, an, cdv, ct, osl, rfl, lk, hcg⟩ := F.ex
  have rc : codeAny (model X.prog X.w) X.A (.call (.ref g) ⟨[.ref f], []⟩) (CR (L2.CX X.prog X.w) X.stack X.prog X.w H1 s1 Q fun cls d H' => W cls d σ H') s1 := by
    refine LamX.run_ofS (N := N) (ps := [a]) (us := [.ref f]) (vs := [.ref f]) lk hcg S hr I1.env0 (hb s1 [.ref f] I1.kIn rfl) (.cons rfl .nil) rfl fun hr' => ?_
    obtain ⟨ts, ps, rd⟩ := (ask g cdv X.A X.stack s1 H1 (fun cls d H' => W cls d σ H') _ hr' fun W2 pn xe p1 p2 tk2 => p_lamactD (i := 0) F1 I1 L M (fun _ _ _ => hbind _ _ _ _ _ _) hy tk2 (hr'.mono hkl) (fun E A outer s H hr => hbody f c' E A outer s H hr) hN hva hd hcd).ex
    refine ⟨ts, ps, rd G H1 _ _ G H1 (fEnds kd kx) _ (fr_lam x1.sub (by
      have := (List.getElem?_eq_some_iff.mp hN).1
      omega) M.code) (ht _ _ _ _) ⟨?_, ?_, ?_, ?_, ?_⟩⟩
    · exact fun Γ σ G' H' q F' => hk .non .non G' H' q (x1.trans F'.e) .non
    · exact fun _ _ _ _ q => q.elim
    · exact fun _ _ _ _ q => q.elim
    · exact fun d v Γ σ G' H' q F' n => hk d v G' H' q (x1.trans F'.e) n
    · exact fun y cls dA Γ τ G' H' q F' n => hx y cls dA G' H' q (x1.trans F'.e) n
  refine wpAny_call (codeAny_mono rc fun r s2 q => ?_)
  cases r with
  | error e => exact passAt tk σ pins H1 s1 e s2 I1 q
  | ok fl =>
    cases fl with
    | ret u => exact I1.after q
    | next => exact False.elim q
    | brk => exact False.elim q
    | cont => exact False.elim q
end
end PL
set_option Elab.async false
set_option linter.all false
set_option maxRecDepth 100000
set_option maxHeartbeats 4000000
namespace PL
open PySem L2
variable [Tabl]
mutual
theorem eqD_refl : ∀ d : D, d.plain = true → eqD d d = true
  | .non, _ => rfl
  | .bl b, _ => by show (b == b) = true; exact beq_self_eq_true b
  | .int i, _ => by show (i == i) = true; exact beq_self_eq_true i
  | .str s, _ => by show (SS s == SS s) = true; simp
  | .lst xs, h => eqDL_refl xs h
  | .tup xs, h => eqDL_refl xs h
  | .dct _, h => nomatch h
  | .ins _ _, h => nomatch h
  | .sl _ _, h => nomatch h
  | .cls _, h => nomatch h
  | .ty _, h => nomatch h
  | .bag, h => nomatch h
  | .scr, h => nomatch h
  | .cel _ _, h => nomatch h
theorem eqDL_refl : ∀ ds : List D, D.plainL ds = true → PyData.eqvAll (D.pyL ds) (D.pyL ds) = true
  | [], _ => rfl
  | d :: r, h => by
    obtain ⟨h1, h2⟩ := Bool.and_eq_true_iff.mp (show (d.plain && D.plainL r) = true from h)
    show (eqD d d && PyData.eqvAll (D.pyL r) (D.pyL r)) = true
    rw [eqD_refl d h1, eqDL_refl r h2]
    rfl
end
end PL
set_option Elab.async false
set_option linter.all false
set_option maxRecDepth 100000
set_option maxHeartbeats 4000000
namespace PL
open PySem L2
def m_is_log : FS := fun ds k kx =>
  (tsRet (tpAnd (tp1 (fIsi "str") (tpVar 0)) (tp1 fAll (tpLc [1] (tiStr (tpVar 0)) (tgName 1) tbYes (tpOp fInS (tpVar 1) (tpC (.str [97, 98, 99, 100, 101, 102, 103, 104, 105, 106, 107, 108, 109, 110, 111, 112, 113, 114, 115, 116, 117, 118, 119, 120, 121, 122])))))))
  (fEnds k kx) (ga0 2 ds)
def m_law_pull : FSo := fun ds k kx => ∀ p,
  (tsSeq (tsIf (tbAnd (tbV (tpOp fEq (tpOp fIx (tpVarU 0) (tpC (.int 2))) (tpC (.int 0)))) (tbV (tpOp fLt (tpOp fIx (tpVarU 0) (tpC (.int 1))) (tp1 fLenS (tpOp fIx (tpVarU 0) (tpC (.int 0)))))))
    (tsSeq (tsSet 2 (tpOp fIx (tpOp fIx (tpVarU 0) (tpC (.int 0))) (tpOp fIx (tpVarU 0) (tpC (.int 1)))))
    (tsSeq (tsSetIx 0 (tpC (.int 1)) (tpOp fAdd (tpOp fIx (tpVarU 0) (tpC (.int 1))) (tpC (.int 1))))
    (tsIf (tbV (tpOp fGe (tpVar 2) (tpOp fPow (tpC (.int 10)) (tpC (.int 18)))))
    (tsSetIx 0 (tpC (.int 2)) (tpVar 2))
    (tsSetIx 0 (tpC (.int 3)) (tpOp fMod (tp1 fInt (tpOp fAdd (tpOp fAdd (tpOp fMul (tpOp fIx (tpVarU 0) (tpC (.int 3))) (tpC (.int 52361))) (tpOp fMul (tpOp fMod (tp1 fInt (tpVar 2)) (tpC (.int 2147483399))) (tpC (.int 6121)))) (tpC (.int 43)))) (tpC (.int 2147483543)))))))
    tsNext)
    (tsSeq (tsIf (tbV (tpOp fGt (tpOp fIx (tpVarU 0) (tpC (.int 2))) (tpC (.int 0))))
    (tsSeq (tsSet 3 (tpOp fMod (tp1 fInt (tpOp fIx (tpVarU 0) (tpC (.int 2)))) (tpVar 1)))
    (tsSeq (tsSetIx 0 (tpC (.int 2)) (tpOp fFdiv (tpOp fIx (tpVarU 0) (tpC (.int 2))) (tpVar 1)))
    (tsRet (tpVar 3))))
    tsNext)
    (tsSeq (tsSet 4 (tpOp fIx (tpVarU 0) (tpC (.int 3))))
    (tsSeq (tsSetIx 0 (tpC (.int 3)) (tpOp fMod (tp1 fInt (tpOp fAdd (tpOp fAdd (tpOp fMul (tpVar 4) (tpVar 4)) (tpOp fMul (tpVar 4) (tpC (.int 21577)))) (tpC (.int 1406111)))) (tpC (.int 2147483543))))
    (tsRet (tpOp fMod (tp1 fInt (tpOp fAdd (tpOp fFdiv (tpOp fIx (tpVarU 0) (tpC (.int 3))) (tpC (.int 61))) (tpOp fMul (tpOp fMod (tp1 fInt (tpOp fIx (tpVarU 0) (tpC (.int 3)))) (tpC (.int 7919))) (tpC (.int 47))))) (tpVar 1)))))))
  (oEnds 0 p k kx) (gaO 5 0 p ds)
def m_law_pick (fs_law_pull : FS) : FS := fun ds k kx =>
  (tsRet (tpOp fIx (tpVar 1) (tpCall 2 fs_law_pull (tlCons (tpVar 0) (tlCons (tp1 fLenS (tpVar 1)) tlNil)))))
  (fEnds k kx) (ga0 2 ds)
def m_law_letters : FS := fun ds k kx =>
  (tsRet (tpC (.str [97, 98, 99, 100, 101, 102, 103, 104, 105, 106, 107, 108, 109, 110, 111, 112, 113, 114, 115, 116, 117, 118, 119, 120, 121, 122])))
  (fEnds k kx) (ga0 0 ds)
def m_law_alphabet (fs_law_pull fs_law_pick fs_law_letters : FS) : FS := fun ds k kx =>
  (tsSeq (tsSet 2 (tpOp fAdd (tpC (.int 1)) (tpCall 2 fs_law_pull (tlCons (tpVar 0) (tlCons (tpVar 1) tlNil)))))
    (tsSeq (tsPar [3, 4, 5] (tlCons (tpC (.str [])) (tlCons (tpC (.int 0)) (tlCons (tpOp fSub (tpC (.int 26)) (tpVar 2)) tlNil))))
    (tsSeq (tsFor (tiRng1 (tlCons (tpVar 2) tlNil)) (tgName 6)
    (tsSeq (tsSet 7 (tpCall 2 fs_law_pick (tlCons (tpVar 0) (tlCons (tpLst (tlCons (tpC (.int 0)) (tlCons (tpCall 2 fs_law_pull (tlCons (tpVar 0) (tlCons (tpOp fAdd (tpVar 5) (tpC (.int 1))) tlNil))) (tlCons (tpN fMin2 (tlCons (tpVar 5) (tlCons (tpCall 2 fs_law_pull (tlCons (tpVar 0) (tlCons (tpC (.int 4)) tlNil))) tlNil))) tlNil)))) tlNil))))
    (tsSeq (tsPar [4, 5] (tlCons (tpOp fAdd (tpVar 4) (tpVar 7)) (tlCons (tpOp fSub (tpVar 5) (tpVar 7)) tlNil)))
    (tsSeq (tsSet 3 (tpOp fAdd (tpVar 3) (tpOp fIx (tpCall 0 fs_law_letters tlNil) (tpVar 4))))
    (tsSet 4 (tpOp fAdd (tpVar 4) (tpC (.int 1))))))))
    (tsRet (tpVar 3)))))
  (fEnds k kx) (ga0 8 ds)
def m_law_same (fs_law_same : FS) : FS := fun ds k kx =>
  (tsSeq (tsIf (tbOr (tbV (tpIsN (tpVar 1))) (tbV (tpIsN (tpVar 0))))
    (tsRet (tpAnd (tpIsN (tpVar 1)) (tpIsN (tpVar 0))))
    tsNext)
    (tsSeq (tsIf (tbOr (tbV (tp1 (fIsi "bool") (tpVar 1))) (tbV (tp1 (fIsi "bool") (tpVar 0))))
    (tsRet (tpAnd (tp1 (fIsi "bool") (tpVar 1)) (tpAnd (tp1 (fIsi "bool") (tpVar 0)) (tpOp fEq (tpVar 0) (tpVar 1)))))
    tsNext)
    (tsSeq (tsIf (tbV (tp1 (fIsi "int") (tpVar 1)))
    (tsRet (tpAnd (tp1 (fIsi "int") (tpVar 0)) (tpOp fEq (tpVar 0) (tpVar 1))))
    tsNext)
    (tsSeq (tsIf (tbV (tp1 (fIsi "str") (tpVar 1)))
    (tsRet (tpAnd (tp1 (fIsi "str") (tpVar 0)) (tpOp fEq (tpVar 0) (tpVar 1))))
    tsNext)
    (tsSeq (tsIf (tbOr (tbV (tpOp fNe (tp1 (fIsi "list") (tpVar 1)) (tp1 (fIsi "list") (tpVar 0)))) (tbV (tpOp fNe (tp1 (fIsi "tuple") (tpVar 1)) (tp1 (fIsi "tuple") (tpVar 0)))))
    (tsRet (tpC (.bl false)))
    tsNext)
    (tsRet (tpAnd (tpOp fEq (tp1 fLenS (tpVar 0)) (tp1 fLenS (tpVar 1))) (tp1 fAll (tpLc [2] (tiRng1 (tlCons (tp1 fLenS (tpVar 1)) tlNil)) (tgName 2) tbYes (tpCall 2 fs_law_same (tlCons (tpOp fIx (tpVar 0) (tpVar 2)) (tlCons (tpOp fIx (tpVar 1) (tpVar 2)) tlNil))))))))))))
  (fEnds k kx) (ga0 3 ds)
def LET : List Nat := [97, 98, 99, 100, 101, 102, 103, 104, 105, 106, 107, 108, 109, 110, 111, 112, 113, 114, 115, 116, 117, 118, 119, 120, 121, 122]
def isLog : D → Bool
  | .str s => s.all fun c => decide (c ∈ LET)
  | _ => false
def goodL (d : D) : Prop := (tyD d).isSome = true ∧ ∀ s, d = .str s → s.length ≤ 3000
def fsIsLog : FS := fun ds k _ => match ds with
  | [d] => goodL d ∧ k (.bl (isLog d))
  | _ => False
def deeds (s : List Nat) : List Nat := LET.filter fun c => decide (c ∈ s)
def fsPick : FS := fun ds k _ => match ds with
  | [.bag, .str s] => (s ≠ [] ∧ s.length ≤ 100000) ∧ ∀ c ∈ s, k (.str [c])
  | [.bag, .lst xs] => (xs ≠ [] ∧ xs.length ≤ 100000) ∧ ∀ x ∈ xs, k x
  | _ => False
def fsLetters : FS := fun _ k _ => k (.str LET)
mutual
/-- values that _law_same takes, n deep -/
def okS : Nat → D → Prop
  | _, .non => True
  | _, .bl _ => True
  | _, .int _ => True
  | _, .str s => s.length ≤ 100000 ∧ D.plain (.str s) = true
  | n + 1, .lst xs => xs.length ≤ 100000 ∧ okSL n xs
  | n + 1, .tup xs => xs.length ≤ 100000 ∧ okSL n xs
  | _, _ => False
def okSL : Nat → List D → Prop
  | _, [] => True
  | n, d :: r => okS n d ∧ okSL n r
end
/-- two equal values are the same -/
def fsSame : Nat → FS
  | 0 => fun _ _ _ => False
  | n + 1 => fun ds k _ => match ds with
    | [a, b] => a = b ∧ okS n a ∧ k (.bl true)
    | _ => False
def fsLaw : FS := fun ds k _ => match ds with
  | [.scr] => k (.bl true)
  | _ => False
theorem same_zero [Tabl] {P : Program} {w : World} {K : PySem.W.Frag} {mg : PySem.Str → Option Value} {base : Heap} {CX : CXT} {f : Addr} {fd : FuncData} {ps : List PySem.Str} : FnOk P w K mg base CX 0 f fd ps (spOf K 2 (fsSame 0)) :=
  ⟨fun vs H Q E ⟨G, ds, k, kx, _, _, _, h, _⟩ => h.elim, fun A outer s H args us vs Q E _ _ _ _ ⟨G, ds, k, kx, _, _, _, h, _⟩ => h.elim⟩
theorem law_entry [Tabl] {K : PySem.W.Frag} {H : Hp} {a : Addr} {ns : List Int} (tb : LamX.Tabs Tabl.T H) (hS : SqL K H a (ns.map V.int)) (hn : ns.length ≤ 63) : spOf K 1 fsLaw [.ref a] H (fun v _ => v = .bl true) fun _ _ _ => False := by
  let G : Hp := fun b => if b = a then (match H b with | some (.tbl _) => none | x => x) else none
  have gm : ∀ b o, G b = some o → H b = some o ∧ NT o := fun b o e => by
    show _ ∧ _
    by_cases hb : b = a
    · have e : (match H b with | some (.tbl _) => none | x => x) = some o := by
        have z : (if b = a then (match H b with | some (.tbl _) => none | x => x) else none) = some o := e
        rw [if_pos hb] at z
        exact z
      cases hH : H b with
      | none => rw [hH] at e; cases e
      | some u =>
        rw [hH] at e
        cases u with
        | tbl ps => cases e
        | _ => exact ⟨e, by cases e; intro ps z; cases z⟩
    · have z : (if b = a then (match H b with | some (.tbl _) => none | x => x) else none) = some o := e
      rw [if_neg hb] at z
      cases z
  have gs : SqL K G a (ns.map V.int) := by
    rcases hS with (h | ⟨o, h⟩) | h
    · exact .inl (.inl (by show (if a = a then (match H a with | some (.tbl _) => none | x => x) else none) = _; rw [if_pos rfl, h]))
    · exact .inl (.inr ⟨o, by show (if a = a then (match H a with | some (.tbl _) => none | x => x) else none) = _; rw [if_pos rfl, h]⟩)
    · exact .inr h
  exact ⟨G, [.scr], fun d => d = .bl true, fun _ => False, ⟨fun b o e => .inl (gm b o e).1, fun b o e => (gm b o e).2, tb⟩, .cons (.scr gs hn) .nil, rfl, rfl, fun d v G' H' e _ n => by subst e; cases n; rfl, fun _ _ _ _ _ z => z.elim⟩
theorem ite_of {c : Bool} {A B : Prop} (h1 : c = true → A) (h2 : c = false → B) : if c = true then A else B := by
  cases c with
  | true => exact h1 rfl
  | false => exact h2 rfl
theorem eqInt {i j : Int} : eqD (.int i) (.int j) = decide (i = j) := rfl
/-- a comprehension over a text, all of it -/
theorem lc_all {te : TP} {i : Nat} {Γ : Ga} {f : Nat → D} : ∀ (s : List Nat) {k : List D → Prop}, (∀ c ∈ s, ∀ k' : KD, k' (f c) → te (gset Γ i (.pu (.str [c]))) k' (fun _ => False)) → k (s.map f) → lcW (tgName i) tbYes te Γ (s.map fun c => .str [c]) k
  | [], k, _, h => h
  | c :: s, k, hs, h => by
    exact hs c List.mem_cons_self _ (lc_all s (fun d hd => hs d (List.mem_cons_of_mem _ hd)) h)
/-- .. over a range -/
theorem lc_rng {te : TP} {i : Nat} {Γ : Ga} {f : Nat → D} : ∀ (s : List Nat) {k : List D → Prop}, (∀ c ∈ s, ∀ k' : KD, k' (f c) → te (gset Γ i (.pu (.int (c : Nat)))) k' (fun _ => False)) → k (s.map f) → lcW (tgName i) tbYes te Γ (s.map fun c => .int (c : Nat)) k
  | [], k, _, h => h
  | c :: s, k, hs, h => by
    exact hs c List.mem_cons_self _ (lc_rng s (fun d hd => hs d (List.mem_cons_of_mem _ hd)) h)
theorem at_nat {α : Type} (xs : List α) (i : Nat) (h : i < xs.length) : atI xs (i : Int) = some xs[i] := by
  unfold atI ixN
  rw [if_pos (Int.natCast_nonneg i), if_pos (by exact_mod_cast h)]
  exact List.getElem?_eq_getElem h
section
local instance noTab : Tabl := ⟨[], fun p hp => absurd hp (by simp)⟩
variable {ds : List D} {kd : KD} {kx : KX} {C : Addr}
theorem is_log_ok' : fsIsLog ds kd kx → m_is_log ds kd kx := by
  intro h
  match ds, h with
  | [d], ⟨⟨g1, g2⟩, h⟩ =>
    cases d with
    | str s =>
      have hl := g2 s rfl
      refine ⟨by rw [List.length_map]; omega, lc_all (f := fun c => .bl (decide (c ∈ LET))) s (fun c _ k' h' => h') ?_⟩
      have e : (s.map fun c => D.bl (decide (c ∈ LET))) = (s.map fun c => decide (c ∈ LET)).map D.bl := by rw [List.map_map]; rfl
      show onBs (s.map fun c => D.bl (decide (c ∈ LET))) _
      rw [e, onBs_map, List.all_map]
      exact h
    | non => exact h
    | bl b => exact h
    | int b => exact h
    | lst b => exact h
    | tup b => exact h
    | dct b => exact h
    | _ => cases g1
theorem letters_ok' (h : ds.length = 0) : fsLetters ds kd kx → m_law_letters ds kd kx := fun h => h
theorem pick_ok' : fsPick ds kd kx → m_law_pick fsPull ds kd kx := by
  intro h
  match ds, h with
  | [.bag, .str s], ⟨⟨h1, h2⟩, h⟩ =>
    have hp : 0 < s.length := List.length_pos_iff.mpr h1
    refine ⟨Nat.le_trans h2 (by decide), rfl, ⟨by omega, by omega⟩, fun r r0 r1 => ⟨Nat.le_trans h2 (by decide), ?_⟩⟩
    obtain ⟨n, rfl⟩ := Int.eq_ofNat_of_zero_le r0
    have hn : n < s.length := by omega
    rw [at_nat s n hn]
    exact h _ (List.getElem_mem hn)
  | [.bag, .lst s], ⟨⟨h1, h2⟩, h⟩ =>
    have hp : 0 < s.length := List.length_pos_iff.mpr h1
    refine ⟨rfl, ⟨by omega, by omega⟩, fun r r0 r1 => ?_⟩
    obtain ⟨n, rfl⟩ := Int.eq_ofNat_of_zero_le r0
    have hn : n < s.length := by omega
    show (match atI s (n : Int) with | some d => kd d | none => False)
    rw [at_nat s n hn]
    exact h _ (List.getElem_mem hn)
theorem nodup_le : ∀ (a b : List Nat), a.Nodup → (∀ c ∈ a, c ∈ b) → a.length ≤ b.length
  | [], _, _, _ => Nat.zero_le _
  | x :: a, b, nd, h => by
    obtain ⟨nx, nd⟩ := List.nodup_cons.mp nd
    have hx := h x List.mem_cons_self
    have := nodup_le a (b.erase x) nd fun c hc => (List.mem_erase_of_ne (fun z => nx (by rw [← z]; exact hc))).mpr (h c (List.mem_cons_of_mem _ hc))
    rw [List.length_erase_of_mem hx] at this
    have : 0 < b.length := List.length_pos_of_mem hx
    rw [List.length_cons]
    omega
end
def pull2 : TSp :=
    (tsSeq (tsIf (tbV (tpOp fGt (tpOp fIx (tpVarU 0) (tpC (.int 2))) (tpC (.int 0))))
    (tsSeq (tsSet 3 (tpOp fMod (tp1 fInt (tpOp fIx (tpVarU 0) (tpC (.int 2)))) (tpVar 1)))
    (tsSeq (tsSetIx 0 (tpC (.int 2)) (tpOp fFdiv (tpOp fIx (tpVarU 0) (tpC (.int 2))) (tpVar 1)))
    (tsRet (tpVar 3))))
    tsNext)
    (tsSeq (tsSet 4 (tpOp fIx (tpVarU 0) (tpC (.int 3))))
    (tsSeq (tsSetIx 0 (tpC (.int 3)) (tpOp fMod (tp1 fInt (tpOp fAdd (tpOp fAdd (tpOp fMul (tpVar 4) (tpVar 4)) (tpOp fMul (tpVar 4) (tpC (.int 21577)))) (tpC (.int 1406111)))) (tpC (.int 2147483543))))
    (tsRet (tpOp fMod (tp1 fInt (tpOp fAdd (tpOp fFdiv (tpOp fIx (tpVarU 0) (tpC (.int 3))) (tpC (.int 61))) (tpOp fMul (tpOp fMod (tp1 fInt (tpOp fIx (tpVarU 0) (tpC (.int 3)))) (tpC (.int 7919))) (tpC (.int 47))))) (tpVar 1))))))
theorem pull2_ok {l p : Addr} {ns : List Int} {i : Nat} {g s n : Int} {k : D → D → Prop} {sl : Sl} (hi : i ≤ ns.length) (hg : 0 ≤ g) (hs : 0 ≤ s) (hs2 : s < 2147483543) (hn : 1 ≤ n) (hn2 : n < 1073741824)
    (hk : ∀ (r : Int) (i' : Nat) (g' s' : Int), 0 ≤ r → r < n → i' ≤ ns.length → 0 ≤ g' → 0 ≤ s' → s' < 2147483543 → k (.int r) (.lst [.cel l ns, .int i', .int g', .int s'])) :
    pull2 (oEnds 0 p k (fun _ => False)) [.pw p (.lst [.cel l ns, .int i, .int g, .int s]), .pu (.int n), sl, .un, .un] := by
  refine ite_of (fun h => ?_) (fun h => ?_)
  · refine ⟨by omega, ⟨by omega, hn2⟩, rfl, hk _ i (g / n) s (Int.emod_nonneg _ (by omega)) (Int.emod_lt_of_pos _ (by omega)) hi (Int.ediv_nonneg hg (by omega)) hs hs2⟩
  · have z0 := Int.emod_nonneg (s * s + s * 21577 + 1406111) (show (2147483543 : Int) ≠ 0 by decide)
    have z1 := Int.emod_lt_of_pos (s * s + s * 21577 + 1406111) (show (0 : Int) < 2147483543 by decide)
    refine ⟨?_, ?_, by decide, ⟨by decide, by decide⟩, by decide, ?_, by omega, rfl, hk _ i g _ (Int.emod_nonneg _ (by omega)) (Int.emod_lt_of_pos _ (by omega)) hi hg z0 z1⟩
    · exact .inl ⟨by omega, by omega⟩
    · exact .inl ⟨by omega, by omega⟩
    · exact .inr ⟨by decide, by decide⟩
def pull1 : TSp :=
  (tsIf (tbAnd (tbV (tpOp fEq (tpOp fIx (tpVarU 0) (tpC (.int 2))) (tpC (.int 0)))) (tbV (tpOp fLt (tpOp fIx (tpVarU 0) (tpC (.int 1))) (tp1 fLenS (tpOp fIx (tpVarU 0) (tpC (.int 0)))))))
    (tsSeq (tsSet 2 (tpOp fIx (tpOp fIx (tpVarU 0) (tpC (.int 0))) (tpOp fIx (tpVarU 0) (tpC (.int 1)))))
    (tsSeq (tsSetIx 0 (tpC (.int 1)) (tpOp fAdd (tpOp fIx (tpVarU 0) (tpC (.int 1))) (tpC (.int 1))))
    (tsIf (tbV (tpOp fGe (tpVar 2) (tpOp fPow (tpC (.int 10)) (tpC (.int 18)))))
    (tsSetIx 0 (tpC (.int 2)) (tpVar 2))
    (tsSetIx 0 (tpC (.int 3)) (tpOp fMod (tp1 fInt (tpOp fAdd (tpOp fAdd (tpOp fMul (tpOp fIx (tpVarU 0) (tpC (.int 3))) (tpC (.int 52361))) (tpOp fMul (tpOp fMod (tp1 fInt (tpVar 2)) (tpC (.int 2147483399))) (tpC (.int 6121)))) (tpC (.int 43)))) (tpC (.int 2147483543)))))))
    tsNext)
theorem pull1_ok {l p : Addr} {ns : List Int} {i : Nat} {g s n : Int} {P : PEn} (hi : i ≤ ns.length) (hg : 0 ≤ g) (hs : 0 ≤ s) (hs2 : s < 2147483543)
    (hk : ∀ (i' : Nat) (g' s' : Int) (sl : Sl), i' ≤ ns.length → 0 ≤ g' → 0 ≤ s' → s' < 2147483543 → P.nx [.pw p (.lst [.cel l ns, .int i', .int g', .int s']), .pu (.int n), sl, .un, .un]) :
    pull1 P [.pw p (.lst [.cel l ns, .int i, .int g, .int s]), .pu (.int n), .un, .un, .un] := by
  refine ⟨⟨rfl, rfl, Nat.zero_le _, Nat.zero_le _⟩, ite_of (fun h => ?_) (fun h => hk i g s _ hi hg hs hs2)⟩
  refine ite_of (fun h2 => ?_) (fun h2 => hk i g s _ hi hg hs hs2)
  have h2 : decide ((i : Int) < (ns.length : Int)) = true := h2
  have hl : i < ns.length := by
    have := of_decide_eq_true h2
    omega
  show (match atI ns (i : Int) with | some n => _ | none => False)
  rw [at_nat ns i hl]
  refine ⟨⟨by decide, by decide, by decide⟩, ite_of (fun h3 => ?_) (fun h3 => ?_)⟩
  · have h3 : decide ((10 : Int) ^ (18 : Int).toNat ≤ ns[i]) = true := h3
    have h4 : (10 : Int) ^ 18 ≤ ns[i] := of_decide_eq_true h3
    exact hk (i + 1) ns[i] s _ hl (by omega) hs hs2
  · have z0 := Int.emod_nonneg (s * 52361 + ns[i] % 2147483399 * 6121 + 43) (show (2147483543 : Int) ≠ 0 by decide)
    have z1 := Int.emod_lt_of_pos (s * 52361 + ns[i] % 2147483399 * 6121 + 43) (show (0 : Int) < 2147483543 by decide)
    exact ⟨.inl ⟨by omega, by omega⟩, by decide, .inr ⟨by decide, by decide⟩, by decide, hk (i + 1) g _ _ hl hg z0 z1⟩
theorem pull_ok' : PullOk m_law_pull := by
  intro l ns i g s n k h63 hi hg hs hs2 hn hn2 hk p
  exact pull1_ok (P := { oEnds 0 p k (fun _ => False) with nx := pull2 (oEnds 0 p k (fun _ => False)) }) hi hg hs hs2 fun i' g' s' sl a b c d => pull2_ok a b c d hn hn2 hk
section
variable {ds : List D} {kd : KD} {kx : KX} {C : Addr}
local instance : Tabl := ⟨[], fun p hp => absurd hp (by simp)⟩
theorem eqS (s : List Nat) : eqD (.str s) (.str s) = true := by
  show (SS s == SS s) = true
  simp
theorem okSL_mem {n : Nat} : ∀ {xs : List D} {x : D}, okSL n xs → x ∈ xs → okS n x
  | [], x, _, h => absurd h (by simp)
  | y :: ys, x, h, hx => by
    rcases List.mem_cons.mp hx with rfl | hx
    · exact h.1
    · exact okSL_mem h.2 hx
theorem same_ok' {n : Nat} : fsSame (n + 1) ds kd kx → m_law_same (fsSame n) ds kd kx := by
  intro h0
  match ds, h0 with
  | [a, b], ⟨e, ok, h⟩ =>
    subst e
    cases a with
    | non => exact h
    | bl b =>
      refine ⟨⟨rfl, rfl, Nat.zero_le _, Nat.zero_le _⟩, ?_⟩
      cases b <;> exact h
    | int i =>
      refine ⟨⟨rfl, rfl, Nat.zero_le _, Nat.zero_le _⟩, ?_⟩
      rw [eqInt, decide_eq_true rfl]
      exact h
    | str s =>
      have ok : s.length ≤ 100000 ∧ D.plain (.str s) = true := by cases n <;> exact ok
      refine ⟨⟨ok.2, ok.2, Nat.zero_le _, Nat.zero_le _⟩, ?_⟩
      rw [eqS]
      exact h
    | lst xs =>
      cases n with
      | zero => exact ok.elim
      | succ m =>
        obtain ⟨hl, ok⟩ := ok
        refine ⟨⟨rfl, rfl, Nat.zero_le _, Nat.zero_le _⟩, ⟨rfl, rfl, Nat.zero_le _, Nat.zero_le _⟩, ⟨rfl, rfl, Nat.zero_le _, Nat.zero_le _⟩, ?_⟩
        rw [eqInt, decide_eq_true rfl]
        refine ⟨⟨by omega, by omega⟩, by rw [List.length_map, List.length_range]; omega, lc_rng (f := fun _ => .bl true) _ (fun c hc k' hk' => ?_) ?_⟩
        · have hc : c < xs.length := by simpa using hc
          show (match atI xs (c : Int) with | some d => _ | none => False)
          rw [at_nat xs c hc]
          show (match atI xs (c : Int) with | some d => _ | none => False)
          rw [at_nat xs c hc]
          exact ⟨rfl, rfl, okSL_mem ok (List.getElem_mem hc), hk'⟩
        · have e : ((List.range ((xs.length : Int)).toNat).map fun _ => D.bl true) = ((List.range ((xs.length : Int)).toNat).map fun _ => true).map D.bl := by rw [List.map_map]; rfl
          show onBs ((List.range ((xs.length : Int)).toNat).map fun _ => D.bl true) _
          rw [e, onBs_map]
          have e2 : ((List.range ((xs.length : Int)).toNat).map fun _ => true).all id = true := by simp
          rw [e2]
          exact h
    | tup xs =>
      cases n with
      | zero => exact ok.elim
      | succ m =>
        obtain ⟨hl, ok⟩ := ok
        refine ⟨⟨rfl, rfl, Nat.zero_le _, Nat.zero_le _⟩, ⟨rfl, rfl, Nat.zero_le _, Nat.zero_le _⟩, ⟨rfl, rfl, Nat.zero_le _, Nat.zero_le _⟩, ?_⟩
        rw [eqInt, decide_eq_true rfl]
        refine ⟨⟨by omega, by omega⟩, by rw [List.length_map, List.length_range]; omega, lc_rng (f := fun _ => .bl true) _ (fun c hc k' hk' => ?_) ?_⟩
        · have hc : c < xs.length := by simpa using hc
          show (match atI xs (c : Int) with | some d => _ | none => False)
          rw [at_nat xs c hc]
          show (match atI xs (c : Int) with | some d => _ | none => False)
          rw [at_nat xs c hc]
          exact ⟨rfl, rfl, okSL_mem ok (List.getElem_mem hc), hk'⟩
        · have e : ((List.range ((xs.length : Int)).toNat).map fun _ => D.bl true) = ((List.range ((xs.length : Int)).toNat).map fun _ => true).map D.bl := by rw [List.map_map]; rfl
          show onBs ((List.range ((xs.length : Int)).toNat).map fun _ => D.bl true) _
          rw [e, onBs_map]
          have e2 : ((List.range ((xs.length : Int)).toNat).map fun _ => true).all id = true := by simp
          rw [e2]
          exact h
    | _ => exact ok.elim
end
end PL
set_option Elab.async false
set_option linter.all false
set_option maxRecDepth 100000
set_option maxHeartbeats 4000000
namespace PL
open PySem
def IsFront (s : List Nat) (p : Nat) : Prop := ∃ c, s[p]? = some c ∧ (∀ k, k < p → s[k]? ≠ some c) ∧ ∀ d ∈ s, ∃ k, k ≤ p ∧ s[k]? = some d
def IsRear (s : List Nat) (p : Nat) : Prop := ∃ c, s[p]? = some c ∧ (∀ k, p < k → s[k]? ≠ some c) ∧ ∀ d ∈ s, ∃ k, p ≤ k ∧ s[k]? = some d
theorem IsFront.lt {s : List Nat} {p : Nat} (h : IsFront s p) : p < s.length := by
  obtain ⟨c, h, _⟩ := h
  exact (List.getElem?_eq_some_iff.mp h).1
theorem IsRear.lt {s : List Nat} {p : Nat} (h : IsRear s p) : p < s.length := by
  obtain ⟨c, h, _⟩ := h
  exact (List.getElem?_eq_some_iff.mp h).1
theorem rev_get {s : List Nat} {k : Nat} (h : k < s.length) : s.reverse[k]? = s[s.length - 1 - k]? := List.getElem?_reverse h
theorem front_rev {s : List Nat} {q : Nat} (h : IsFront s.reverse q) : q < s.length ∧ IsRear s (s.length - 1 - q) := by
  have hq := h.lt
  rw [List.length_reverse] at hq
  obtain ⟨c, h1, h2, h3⟩ := h
  refine ⟨hq, c, by rw [← rev_get hq]; exact h1, fun k hk e => ?_, fun d hd => ?_⟩
  · have hl := (List.getElem?_eq_some_iff.mp e).1
    refine h2 (s.length - 1 - k) (by omega) ?_
    rw [rev_get (by omega), show s.length - 1 - (s.length - 1 - k) = k by omega]
    exact e
  · obtain ⟨k, k1, k2⟩ := h3 d (List.mem_reverse.mpr hd)
    rw [rev_get (by omega)] at k2
    exact ⟨_, by omega, k2⟩
/-- the walk over the signs: pre what is behind, pl the place so far -/
def frontGo : List Nat → Nat → List Nat → Nat
  | _, pl, [] => pl
  | pre, pl, c :: r => frontGo (pre ++ [c]) (if c ∈ pre then pl else pre.length) r
theorem front_step {pre : List Nat} {pl c : Nat} (h : pre ≠ [] → IsFront pre pl) : IsFront (pre ++ [c]) (if c ∈ pre then pl else pre.length) := by
  by_cases hc : c ∈ pre
  · rw [if_pos hc]
    have hf := h fun z => by rw [z] at hc; cases hc
    have hl := hf.lt
    obtain ⟨d, h1, h2, h3⟩ := hf
    refine ⟨d, by rw [List.getElem?_append_left hl]; exact h1, fun k hk => by rw [List.getElem?_append_left (by omega)]; exact h2 k hk, fun x hx => ?_⟩
    have hx : x ∈ pre := by
      rcases List.mem_append.mp hx with z | z
      · exact z
      · rw [List.mem_singleton.mp z]; exact hc
    obtain ⟨k, k1, k2⟩ := h3 x hx
    exact ⟨k, k1, by rw [List.getElem?_append_left (by omega)]; exact k2⟩
  · rw [if_neg hc]
    refine ⟨c, by rw [List.getElem?_append_right (Nat.le_refl _)]; simp, fun k hk e => ?_, fun x hx => ?_⟩
    · rw [List.getElem?_append_left hk] at e
      exact hc (List.mem_of_getElem? e)
    · obtain ⟨k, hk, e⟩ := List.getElem_of_mem hx
      rw [List.length_append, List.length_singleton] at hk
      exact ⟨k, by omega, by rw [← e]; exact List.getElem?_eq_getElem _⟩
theorem frontGo_ok : ∀ (r pre : List Nat) (pl : Nat), (pre ≠ [] → IsFront pre pl) → pre ++ r ≠ [] → IsFront (pre ++ r) (frontGo pre pl r)
  | [], pre, pl, h, n => by
    rw [List.append_nil] at n ⊢
    exact h n
  | c :: r, pre, pl, h, n => by
    have := frontGo_ok r (pre ++ [c]) (if c ∈ pre then pl else pre.length) (fun _ => front_step h) (by simp)
    rw [List.append_assoc] at this
    exact this
end PL
set_option Elab.async false
set_option linter.all false
set_option maxRecDepth 100000
set_option maxHeartbeats 4000000
namespace PL
open PySem L2
theorem cut_take {α : Type} (s : List α) (n : Nat) : cutL s none (some (n : Int)) = s.take n := by
  unfold cutL
  rw [HT.sIx_none, HT.sIx_nat, List.drop_zero, Nat.sub_zero]
  rcases Nat.le_total n s.length with h | h
  · rw [Nat.min_eq_left h]
  · rw [Nat.min_eq_right h, List.take_of_length_le (Nat.le_refl _), List.take_of_length_le h]
theorem cut_drop {α : Type} (s : List α) (n : Nat) : cutL s (some (n : Int)) none = s.drop n := by
  unfold cutL
  rw [HT.sIx_none, HT.sIx_nat]
  rcases Nat.le_total n s.length with h | h
  · rw [Nat.min_eq_left h, List.take_of_length_le (by rw [List.length_drop]; exact Nat.le_refl _)]
  · rw [Nat.min_eq_right h, List.drop_of_length_le (Nat.le_refl _), List.drop_of_length_le h, List.take_nil]
def fsAlpha : FS := fun ds k _ => match ds with
  | [.bag, .int m] => (1 ≤ m ∧ m ≤ 26) ∧ ∀ s : List Nat, s ≠ [] → (s.length : Int) ≤ m → s.Pairwise (· < ·) → (∀ c ∈ s, c ∈ LET) → k (.str s)
  | _ => False
theorem let_at {n : Nat} (h : n < 26) : LET[n]? = some (97 + n) := by
  have : ∀ n, n < 26 → LET[n]? = some (97 + n) := by decide
  exact this n h
theorem let_mem {c : Nat} (h1 : 97 ≤ c) (h2 : c < 123) : c ∈ LET := by
  have := let_at (n := c - 97) (by omega)
  rw [show 97 + (c - 97) = c by omega] at this
  exact List.mem_of_getElem? this
theorem let_iff {c : Nat} : c ∈ LET ↔ 97 ≤ c ∧ c < 123 := by
  refine ⟨fun h => ?_, fun h => let_mem h.1 h.2⟩
  have : ∀ c ∈ LET, 97 ≤ c ∧ c < 123 := by decide
  exact this c h
def alpha_body : TSp :=
    (tsSeq (tsSet 7 (tpCall 2 fsPick (tlCons (tpVar 0) (tlCons (tpLst (tlCons (tpC (.int 0)) (tlCons (tpCall 2 fsPull (tlCons (tpVar 0) (tlCons (tpOp fAdd (tpVar 5) (tpC (.int 1))) tlNil))) (tlCons (tpN fMin2 (tlCons (tpVar 5) (tlCons (tpCall 2 fsPull (tlCons (tpVar 0) (tlCons (tpC (.int 4)) tlNil))) tlNil))) tlNil)))) tlNil))))
    (tsSeq (tsPar [4, 5] (tlCons (tpOp fAdd (tpVar 4) (tpVar 7)) (tlCons (tpOp fSub (tpVar 5) (tpVar 7)) tlNil)))
    (tsSeq (tsSet 3 (tpOp fAdd (tpVar 3) (tpOp fIx (tpCall 0 fsLetters tlNil) (tpVar 4))))
    (tsSet 4 (tpOp fAdd (tpVar 4) (tpC (.int 1)))))))
section
variable {ds : List D} {kd : KD} {kx : KX}
local instance : Tabl := ⟨[], fun p hp => absurd hp (by simp)⟩
theorem alpha_step {P : PEn} {m z a room : Int} {f : List Nat} {s6 s7 : Sl} (h0 : 0 ≤ a) (h1 : 0 ≤ room) (h2 : a + room < 26) (hf : f.length ≤ 26) (hlt : ∀ c ∈ f, (c : Int) < 97 + a)
    (hk : ∀ (g : Int) (n : Nat) (s7' : Sl), 0 ≤ g → g ≤ room → a + g = n → P.nx [.pu .bag, .pu (.int m), .pu (.int z), .pu (.str (f ++ [97 + n])), .pu (.int (n + 1)), .pu (.int (room - g)), s6, s7']) :
    alpha_body P [.pu .bag, .pu (.int m), .pu (.int z), .pu (.str f), .pu (.int a), .pu (.int room), s6, s7] := by
  have go : ∀ g : Int, 0 ≤ g → g ≤ room → (tsSeq (tsPar [4, 5] (tlCons (tpOp fAdd (tpVar 4) (tpVar 7)) (tlCons (tpOp fSub (tpVar 5) (tpVar 7)) tlNil)))
    (tsSeq (tsSet 3 (tpOp fAdd (tpVar 3) (tpOp fIx (tpCall 0 fsLetters tlNil) (tpVar 4))))
    (tsSet 4 (tpOp fAdd (tpVar 4) (tpC (.int 1)))))) P [.pu .bag, .pu (.int m), .pu (.int z), .pu (.str f), .pu (.int a), .pu (.int room), s6, .pu (.int g)] := fun g g0 g1 => by
    obtain ⟨n, hn⟩ := Int.eq_ofNat_of_zero_le (show 0 ≤ a + g by omega)
    have hn26 : n < 26 := by omega
    refine ⟨rfl, by show 26 ≤ sizeLine; decide, ?_⟩
    show (match atI LET (a + g) with | some c => _ | none => False)
    rw [hn, at_nat LET n (by show n < 26; exact hn26)]
    have e : LET[n]'(by show n < 26; exact hn26) = 97 + n := by
      have := let_at hn26
      rw [List.getElem?_eq_getElem (by show n < 26; exact hn26)] at this
      exact Option.some.inj this
    rw [e]
    refine ⟨Nat.le_trans (show f.length + 1 ≤ 27 by omega) (by decide), ?_⟩
    exact hk g n _ g0 g1 hn
  refine ⟨rfl, ⟨by omega, by omega⟩, fun r r0 r1 => ⟨rfl, ⟨by decide, by decide⟩, fun q q0 q1 => ⟨by show 3 ≤ 100000; decide, rfl, ⟨by simp, by show 3 ≤ 100000; decide⟩, fun x hx => ?_⟩⟩⟩
  simp only [List.mem_cons, List.not_mem_nil, or_false] at hx
  rcases hx with rfl | rfl | rfl
  · exact go 0 (by decide) h1
  · exact go r r0 (by omega)
  · refine go _ ?_ ?_
    · split <;> omega
    · split <;> omega
theorem alpha_loop {P : PEn} {m z : Int} (hz : z ≤ 26)
    (hk : ∀ (f : List Nat) (a room : Int) (s6 s7 : Sl), (f.length : Int) = z → f.Pairwise (· < ·) → (∀ c ∈ f, c ∈ LET) → P.nx [.pu .bag, .pu (.int m), .pu (.int z), .pu (.str f), .pu (.int a), .pu (.int room), s6, s7]) :
    ∀ (r : List Nat) (f : List Nat) (a room : Int) (s6 s7 : Sl), 0 ≤ a → 0 ≤ room → a + room + r.length ≤ 26 → (f.length : Int) + r.length = z → f.Pairwise (· < ·) → (∀ c ∈ f, 97 ≤ c ∧ (c : Int) < 97 + a ∧ c < 123) →
      forW (tgName 6) alpha_body P (r.map fun i => .int (i : Nat)) [.pu .bag, .pu (.int m), .pu (.int z), .pu (.str f), .pu (.int a), .pu (.int room), s6, s7]
  | [], f, a, room, s6, s7, h0, h1, h2, h3, h4, h5 => hk f a room s6 s7 (by simpa using h3) h4 fun c hc => let_mem (h5 c hc).1 (h5 c hc).2.2
  | i :: r, f, a, room, s6, s7, h0, h1, h2, h3, h4, h5 => by
    rw [List.length_cons] at h2 h3
    refine alpha_step (P := { P with nx := forW (tgName 6) alpha_body P (r.map fun i => .int (i : Nat)), ct := forW (tgName 6) alpha_body P (r.map fun i => .int (i : Nat)), bk := P.nx }) (s6 := .pu (.int (i : Nat))) h0 h1 (by omega) (by omega) (fun c hc => (h5 c hc).2.1) fun g n s7' g0 g1 hn => ?_
    refine alpha_loop hz hk r (f ++ [97 + n]) (n + 1) (room - g) _ _ (by omega) (by omega) (by omega) (by rw [List.length_append, List.length_singleton]; omega) ?_ ?_
    · refine List.pairwise_append.mpr ⟨h4, List.pairwise_singleton _ _, fun c hc d hd => ?_⟩
      rw [List.mem_singleton.mp hd]
      have := (h5 c hc).2.1
      omega
    · intro c hc
      rcases List.mem_append.mp hc with hc | hc
      · have := h5 c hc
        omega
      · rw [List.mem_singleton.mp hc]
        omega
theorem alpha_ok' : fsAlpha ds kd kx → m_law_alphabet fsPull fsPick fsLetters ds kd kx := by
  intro h0
  match ds, h0 with
  | [.bag, .int m], ⟨⟨m1, m2⟩, h⟩ =>
    refine ⟨rfl, ⟨m1, by omega⟩, fun r r0 r1 => ?_⟩
    refine ⟨⟨by omega, by omega⟩, ?_⟩
    have hl : ((List.range (1 + r).toNat).length : Int) = 1 + r := by rw [List.length_range]; omega
    refine alpha_loop (z := 1 + r) (P := { fEnds kd kx with nx := (tsRet (tpVar 3)) (fEnds kd kx) }) (by omega) (fun f a room s6 s7 e p l => ?_) _ [] 0 (26 - (1 + r)) _ _ (by decide) (by omega) (by rw [hl]; omega) (by rw [hl]; exact Int.zero_add _) .nil (by simp)
    exact h f (fun z => by rw [z] at e; simp at e; omega) (by omega) p l
end
end PL
set_option Elab.async false
set_option linter.all false
set_option maxRecDepth 100000
set_option maxHeartbeats 4000000
namespace PL
open PySem L2
variable [Tabl]
theorem DenU.ins {K : PySem.W.Frag} {H0 G H : Hp} {v : V} {C : Addr} {fs : List (PySem.Str × D)} (s : Sub G H) (h : DenU K H0 G H v (.ins C fs)) : ∃ a dx fvs, v = .ref a ∧ H a = some (.ins C dx fvs) ∧ DenF K G fvs fs := by
  rcases h with h | ⟨p, e, g, dx, fvs, h1, h2, h3, h4, h5⟩
  · cases h with
    | ins h1 h2 h3 => exact ⟨_, _, _, rfl, s.at_ h1 (fun z => z), h3⟩
  · exact ⟨p, dx, fvs, e, h1, h5⟩
theorem DenU.sl {K : PySem.W.Frag} {H0 G H : Hp} {v : V} {C : Addr} {ds : List D} (s : Sub G H) (h : DenU K H0 G H v (.sl C ds)) : ∃ (a dx : Addr) (vs : List V), v = .ref a ∧ SlX.Slt H a C dx (vs.map some) ∧ DenL K G vs ds := by
  rcases h with h | ⟨p, e, g, r⟩
  · cases h with
    | @sl a _ dx vs _ h1 h2 h3 => exact ⟨a, dx, vs, rfl, .inr ⟨s.at_ h1 (fun z => by unfold SlX.SlO at z; exact z), s.at_ h2 (fun z => z)⟩, h3⟩
  · exact r.elim
theorem DenU.cls {K : PySem.W.Frag} {H0 G H : Hp} {v : V} {C : Addr} (h : DenU K H0 G H v (.cls C)) : v = .ref C := by
  rcases h with h | ⟨p, e, g, r⟩
  · cases h; rfl
  · exact r.elim
def tpFld (cs : List Addr) (f : PySem.Str) (t : TP) : TP := fun Γ k kx => t Γ (fun d => match d with
  | .ins C fs => C ∈ cs ∧ match fs.lookup f with
    | some v => k v
    | none => False
  | _ => False) kx
section
variable {X : Cx} {W : WX} {e o : Expr} {es : List Expr} {t ta : TP} {tl : TL} {f m : PySem.Str} {pos apos p : Pos} {cs : List Addr}
theorem p_fld (hc : ∀ C ∈ cs, Cls X.K C ∧ NoAttr X.K C f) (ha : PU X W e t) (hb : attributeBase e f X.env (eval e X.env) = eval e X.env := by rfl) : PP X W (.Attribute e f pos) (tpFld cs f t) := by
  obtain ⟨ea, pa, ra⟩ := ha.ex
  refine ⟨_, pe_fld pa hb, fun G0 H0 Γ σ G H k kx Q F ht hk hx => ?_⟩
  refine ra G0 H0 Γ σ G H _ kx _ F ht (fun d v G1 H1 k1 x1 n1 => ?_) hx
  cases d with
  | ins C fs =>
    obtain ⟨hC, k2⟩ := k1
    cases e : fs.lookup f with
    | none => rw [e] at k2; exact k2.elim
    | some y =>
      rw [e] at k2
      obtain ⟨a, dx, fvs, rfl, h1, h2⟩ := n1.ins x1.sub
      obtain ⟨u, hu, nu⟩ := h2.get e
      exact ⟨a, C, dx, fvs, u, rfl, h1, (hc C hC).1, (hc C hC).2, hu, hk y u G1 H1 k2 x1 nu⟩
  | _ => exact k1.elim
theorem run_fnRS {CX : CXT} {k : Nat} {f : Addr} {sp : Sp} {E : XK} {Q : VK} {us : List Value} {vs : List V} {pins : List (Addr × Obj)} {σ : L2.St} {H : Hp} {s : Shared} (F : FnR X.prog X.w X.K X.mg X.base CX k f sp) (hr : Room k X.A) (hx : PassesAt CX X σ E) (I : Inv X pins σ H s) (r : Vals vs us) (h : sp vs H Q E) :
    codeAny (model X.prog X.w) X.A (.call (.ref f) ⟨us, []⟩) (fun r s' => match r with | .ok (.ret v) => EP X pins σ Q v s' | .ok _ => False | .error e => X.xe e s') s := by
  refine codeAny_mono (F X.A X.stack s H us vs Q E hr I.env0 r h) fun r s' hq => ?_
  cases r with
  | error e => exact hx pins H s e s' I hq
  | ok fl =>
    cases fl with
    | ret u => exact I.after hq
    | next => exact False.elim hq
    | brk => exact False.elim hq
    | cont => exact False.elim hq
/-- a method of a class with dicts -/
structure Mt (P : Program) (w : World) (K : PySem.W.Frag) (mg : PySem.Str → Option Value) (base : Heap) (C : Addr) (m : PySem.Str) (k n : Nat) (fs : FS) : Prop where
  c : Cls K C
  ex : ∃ f, Meth K C m f ∧ FnR P w K mg base (L2.CX P w) k f (spOf K (n + 1) fs)
/-- o.m(..) by o's class: ms the classes and what their method does -/
def tpMeth (ms : List (Addr × FS)) (m : PySem.Str) (n : Nat) (t : TP) (tl : TL) : TP := fun Γ k kx => t Γ (fun d => match d with
  | .ins C fs => fs.lookup m = none ∧ ∃ f, (C, f) ∈ ms ∧ tl Γ (fun ds => ds.length = n ∧ f (d :: ds) k kx) kx
  | _ => False) kx
end
section
variable {X : Cx} {W : WX} {e o : Expr} {es : List Expr} {t ta : TP} {tl : TL} {f m : PySem.Str} {pos apos p : Pos} {k n j : Nat} {fs : FS} {ms : List (Addr × FS)}
theorem rd_after {G0 H0 : Hp} {Γ : Ga} {σ : L2.St} {G H G1 H1 : Hp} {kd : KD} {kx : KX} {Q : VK} (x1 : Ext G H G1 H1) {vs : List V} {ds : List D} {K : PySem.W.Frag} (n1 : DenL K G1 vs ds) (hl : ds.length = n) (hf : fs ds kd kx)
    (hk : ∀ d v G' H', kd d → Ext G H G' H' → Den K G' v d → Q v H') (hx : XOk K W G H σ kx) : spOf K n fs vs H1 Q (WE W σ) :=
  ⟨G1, ds, kd, kx, x1.sub, n1, hl, hf, fun d v G' H' kk ex dn => hk d v G' H' kk (x1.trans ex) dn, fun y cls dA G' H' kk ex dn => hx y cls dA G' H' kk (x1.trans ex) dn⟩
/-- the receiver as it is among the arguments: pure -/
theorem p_meth (hm : ∀ q ∈ ms, Mt X.prog X.w X.K X.mg X.base q.1 m k n q.2) (hr : Room j X.A) (hj : k ≤ j) (tk : Takes X W) (ho : PP X W o t) (ha : PL' X W (e :: es) tl) {pl : Sem Bool}
    (hst : starEach (e :: es) X.env = (false, eval e X.env) :: starEach es X.env := by rfl) (hpl : (backTo pos (starEach es X.env)).any (·.1) = false := by rfl)
    (ht : eval (.Call (.Attribute o m apos) (e :: es) [] pos) X.env = (do
      let ov ← eval o X.env
      standAt apos.atName
      let (f, first) ← holding [ov] (getMethod ov m pl)
      callWith pos f first (backTo pos (starEach (e :: es) X.env)) (backToKw pos (keywordEach [] X.env))) := by rfl) : PP X W (.Call (.Attribute o m apos) (e :: es) [] pos) (tpMeth ms m n t tl) := by
  obtain ⟨eo, po, ro⟩ := ho.ex
  obtain ⟨ea, pa, ra⟩ := ha.ex
  refine ⟨fun σ H Q => eo σ H fun x H1 => ∃ a C dx fvs fn fs, x = .ref a ∧ H1 a = some (.ins C dx fvs) ∧ fvs.lookup m = none ∧ Cls X.K C ∧ Meth X.K C m fn ∧ FnR X.prog X.w X.K X.mg X.base (L2.CX X.prog X.w) k fn (spOf X.K (n + 1) fs) ∧ ea σ H1 fun vs H2 => spOf X.K (n + 1) fs (x :: vs) H2 Q (WE W σ), ⟨fun pins s σ H Q I h => ?_⟩, fun G0 H0 Γ σ G H kd kx Q F ht hk hx => ?_⟩
  · refine PySem.W.methodCall_KW (pl := pl) (thn (po.run pins s σ H _ I h) fun u s1 ⟨x, H1, I1, rx, a, C, dx, fvs, fn, fs, ex, ea, l, c, mt, R, q⟩ => ?_) ht
    subst ex
    obtain rfl : u = Value.ref a := rx
    refine getmeth_ok I1 ea c mt l ?_
    refine PySem.W.callWith_K (first := [.ref a]) (h₀ := X.base) I.ok.mod.kin mt.kp (thn (pa.run pos pins s1 σ H1 _ I1 q) fun us s2 ⟨vs, H2, I2, r, q2⟩ => ⟨I2.kIn, ?_⟩) hst hpl
    exact wpAny_call (run_fnRS (us := .ref a :: us) (vs := .ref a :: vs) R (hr.mono hj) (passAt tk σ) I2 (.cons rfl r) q2)
  · refine ro G0 H0 Γ σ G H _ kx _ F ht (fun d v G1 H1 k1 x1 n1 => ?_) hx
    cases d with
    | ins C fs =>
      obtain ⟨hl, f, hf, k2⟩ := k1
      have M := hm _ hf
      obtain ⟨fn, mt, R⟩ := M.ex
      obtain ⟨a, dx, fvs, rfl, h1, h2⟩ := (show DenU X.K H0 G1 H1 v (.ins C fs) from .inl n1).ins x1.sub
      refine ⟨a, C, dx, fvs, fn, f, rfl, h1, h2.no hl, M.c, mt, R, ?_⟩
      refine ra G0 H0 Γ σ G1 H1 _ kx _ (F.up x1) k2 (fun ds vs G2 H2 k3 x2 n2 => ?_) (hx.up x1)
      exact rd_after (G0 := G0) (H0 := H0) (Γ := Γ) (x1.trans x2) (.cons (n1.up x2.g) n2) (by rw [List.length_cons, k3.1]) k3.2 hk hx
    | _ => exact k1.elim
theorem p_meth0 (hm : ∀ q ∈ ms, Mt X.prog X.w X.K X.mg X.base q.1 m k 0 q.2) (hr : Room j X.A) (hj : k ≤ j) (tk : Takes X W) (ho : PP X W o t) {pl : Sem Bool}
    (ht : eval (.Call (.Attribute o m apos) [] [] pos) X.env = (do
      let ov ← eval o X.env
      standAt apos.atName
      let (f, first) ← holding [ov] (getMethod ov m pl)
      callWith pos f first (backTo pos (starEach [] X.env)) (backToKw pos (keywordEach [] X.env))) := by rfl) : PP X W (.Call (.Attribute o m apos) [] [] pos) (tpMeth ms m 0 t tlNil) := by
  obtain ⟨eo, po, ro⟩ := ho.ex
  refine ⟨fun σ H Q => eo σ H fun x H1 => ∃ a C dx fvs fn fs, x = .ref a ∧ H1 a = some (.ins C dx fvs) ∧ fvs.lookup m = none ∧ Cls X.K C ∧ Meth X.K C m fn ∧ FnR X.prog X.w X.K X.mg X.base (L2.CX X.prog X.w) k fn (spOf X.K (0 + 1) fs) ∧ spOf X.K (0 + 1) fs [x] H1 Q (WE W σ), ⟨fun pins s σ H Q I h => ?_⟩, fun G0 H0 Γ σ G H kd kx Q F ht hk hx => ?_⟩
  · refine PySem.W.methodCall_KW (pl := pl) (thn (po.run pins s σ H _ I h) fun u s1 ⟨x, H1, I1, rx, a, C, dx, fvs, fn, fs, ex, ea, l, c, mt, R, q⟩ => ?_) ht
    subst ex
    obtain rfl : u = Value.ref a := rx
    refine getmeth_ok I1 ea c mt l ?_
    exact PySem.W.callWith_K0 (first := [.ref a]) I1.kIn mt.kp (wpAny_call (run_fnRS (us := [.ref a]) (vs := [.ref a]) R (hr.mono hj) (passAt tk σ) I1 (.cons rfl .nil) q))
  · refine ro G0 H0 Γ σ G H _ kx _ F ht (fun d v G1 H1 k1 x1 n1 => ?_) hx
    cases d with
    | ins C fs =>
      obtain ⟨hl, f, hf, _, k3⟩ := k1
      have M := hm _ hf
      obtain ⟨fn, mt, R⟩ := M.ex
      obtain ⟨a, dx, fvs, rfl, h1, h2⟩ := (show DenU X.K H0 G1 H1 v (.ins C fs) from .inl n1).ins x1.sub
      exact ⟨a, C, dx, fvs, fn, f, rfl, h1, h2.no hl, M.c, mt, R, rd_after (G0 := G0) (H0 := H0) (Γ := Γ) x1 (.cons n1 .nil) rfl k3 hk hx⟩
    | _ => exact k1.elim
end
end PL
set_option Elab.async false
set_option linter.all false
set_option maxRecDepth 100000
set_option maxHeartbeats 4000000
namespace PL
open PySem L2 PyProof.Rows PySem.W
/-- a block within the body b of a def -/
structure PSb (X : Cx) (b : List Stmt) (st : List Stmt) (t : TS) : Prop where
  run : ∀ (pins : List (Addr × Obj)) (s : Shared) (σ : L2.St) (H : Hp) (D : Ends), Inv X pins σ H s → t D σ H → PySem.wpAt (model X.prog X.w) X.A (.func b X.env) (execs st X.env) (SP X pins D) X.xe s
structure PS1b (X : Cx) (b : List Stmt) (st : Stmt) (t : TS) : Prop where
  run : ∀ (pins : List (Addr × Obj)) (s : Shared) (σ : L2.St) (H : Hp) (D : Ends), Inv X pins σ H s → t D σ H → PySem.wpAt (model X.prog X.w) X.A (.func b X.env) (exec st X.env) (SP X pins D) X.xe s
section
variable {X : Cx} {bo : List Stmt} {st : Stmt} {rest : List Stmt} {t u : TS}
theorem PSs.bl (h : PSs X rest t) : PSb X bo rest t := ⟨fun pins s σ H D I q => PySem.wpAt_of_wpAny (h.run pins s σ H D I q)⟩
theorem PS.bl (h : PS X st t) : PS1b X bo st t := ⟨fun pins s σ H D I q => PySem.wpAt_of_wpAny (h.run pins s σ H D I q)⟩
end
end PL
set_option Elab.async false
set_option linter.all false
set_option maxRecDepth 100000
set_option maxHeartbeats 4000000
namespace PL
open PySem L2 PyProof.Rows PySem.W PySem.Calls
end PL
set_option Elab.async false
set_option linter.all false
set_option maxRecDepth 100000
set_option maxHeartbeats 4000000
namespace PL
open PySem L2 PyProof.Rows
variable [Tabl]
def hole2 (H : Hp) (p d : Addr) : Hp := fun a => if a = p ∨ a = d then none else H a
theorem hole2_p {H : Hp} {p d : Addr} : hole2 H p d p = none := by unfold hole2; rw [if_pos (.inl rfl)]
theorem hole2_d {H : Hp} {p d : Addr} : hole2 H p d d = none := by unfold hole2; rw [if_pos (.inr rfl)]
theorem hole2_ne {H : Hp} {p d a : Addr} (h1 : a ≠ p) (h2 : a ≠ d) : hole2 H p d a = H a := by unfold hole2; rw [if_neg (fun z => z.elim h1 h2)]
theorem hole2_same {H : Hp} {p d : Addr} : Same (hole2 H p d) H := fun a o e => by
  by_cases h : a = p ∨ a = d
  · unfold hole2 at e
    rw [if_pos h] at e
    cases e
  · unfold hole2 at e
    rwa [if_neg h] at e
/-- the object handed in is the def's own: an instance -/
def spOi (K : PySem.W.Frag) (n : Nat) (fs : FSo) : Sp := fun vs H Q E => ∃ G ds k kx p dx C fs0 fvs, vs.length = n ∧ ds.length = n ∧ Sub G H ∧ G p = none ∧ G dx = none ∧ vs[0]? = some (.ref p) ∧ ds[0]? = some (.ins C fs0) ∧ H p = some (.ins C dx fvs) ∧ H dx = some (.own p) ∧ DenF K G fvs fs0 ∧
  (∀ (i : Nat) v d, i ≠ 0 → vs[i]? = some v → ds[i]? = some d → Den K G v d) ∧ fs ds k kx ∧
  (∀ d e v G' H', k d e → Ext G (hole2 H p dx) G' H' → G' p = none → OwnAt K (hole2 H p dx) G' H' p e → Den K G' v d → Q v H') ∧
  (∀ x cls dA G' H', kx x → Ext G (hole2 H p dx) G' H' → XDen K G' H' cls dA x → E cls dA H')
def iEnds (p : Addr) (k : D → D → Prop) (kx : KX) : PEn := ⟨fun Γ => match gat Γ 0 with | .pw q e => q = p ∧ k .non e | _ => False, fun _ => False, fun _ => False, fun d Γ => match gat Γ 0 with | .pw q e => q = p ∧ k d e | _ => False, fun x _ => kx x⟩
theorem fr_own0 {K : PySem.W.Frag} {G H H0 : Hp} {N : List PySem.Str} {vs : List V} {ds : List D} {p : Addr} {d : D} (x : Ext G H0 G H) (hl : vs.length = ds.length) (g : G p = none) (h0 : H0 p = none) (hv : vs[0]? = some (.ref p)) (hd : ds[0]? = some d) (ho : OwnAt K H0 G H p d)
    (hr : ∀ (i : Nat) v d, i ≠ 0 → vs[i]? = some v → ds[i]? = some d → Den K G v d) : Fr K G H0 (gaO N.length 0 p ds) (L2.start N vs) G H := by
  match ds, vs, hl, hv, hd, hr with
  | [], _, _, _, hd, _ => cases hd
  | d0 :: dr, [], hl, _, _, _ => cases hl
  | d0 :: dr, v0 :: vr, hl, hv, hd, hr =>
    cases hv
    cases hd
    have hl : vr.length = dr.length := by simpa using hl
    have eg : gaO N.length 0 p (d :: dr) = .pw p d :: (dr.map Sl.pu ++ List.replicate (N.length - (dr.length + 1)) Sl.un) := rfl
    have es : L2.start N (.ref p :: vr) = some (.ref p) :: (vr.map some ++ List.replicate (N.length - (vr.length + 1)) none) := rfl
    have rest : ∀ (i : Nat) (s : Sl), (dr.map Sl.pu ++ List.replicate (N.length - (dr.length + 1)) Sl.un)[i]? = some s → s = .un ∨ ∃ d, dr[i]? = some d ∧ s = .pu d := fun i s h => by
      by_cases hi : i < dr.length
      · rw [List.getElem?_append_left (by rw [List.length_map]; exact hi), List.getElem?_map, List.getElem?_eq_getElem hi] at h
        cases h
        exact .inr ⟨_, List.getElem?_eq_getElem hi, rfl⟩
      · rw [List.getElem?_append_right (by rw [List.length_map]; omega)] at h
        exact .inl (List.mem_replicate.mp (List.mem_of_getElem? h)).2
    have own0 : ∀ (i : Nat) (s : Sl), (gaO N.length 0 p (d :: dr))[i]? = some s → s.owns → i = 0 := fun i s h ow => by
      rw [eg] at h
      cases i with
      | zero => rfl
      | succ i =>
        rw [List.getElem?_cons_succ] at h
        rcases rest i s h with rfl | ⟨_, _, rfl⟩ <;> exact ow.elim
    refine ⟨by rw [eg, es]; simp [hl], x, fun i s h => ?_, fun a b q s t h1 h2 h3 h4 _ _ => (own0 a s h1 h2).trans (own0 b t h3 h4).symm⟩
    rw [eg] at h
    cases i with
    | zero =>
      cases h
      exact ⟨by rw [es]; rfl, g, h0, ho⟩
    | succ i =>
      rw [List.getElem?_cons_succ] at h
      rcases rest i s h with rfl | ⟨d1, e1, rfl⟩
      · trivial
      · have hi := (List.getElem?_eq_some_iff.mp e1).1
        have ev : vr[i]? = some (vr[i]'(by omega)) := List.getElem?_eq_getElem (by omega)
        refine ⟨_, ?_, hr (i + 1) _ d1 (Nat.succ_ne_zero i) (by rw [List.getElem?_cons_succ]; exact ev) (by rw [List.getElem?_cons_succ]; exact e1)⟩
        rw [es, List.getElem?_cons_succ, List.getElem?_append_left (by rw [List.length_map]; omega), List.getElem?_map, ev]
        rfl
theorem spOi_len {K : PySem.W.Frag} {n : Nat} {fs : FSo} {vs : List V} {H : Hp} {Q : VK} {E : XK} (h : spOi K n fs vs H Q E) : vs.length = n := by
  obtain ⟨G, ds, k, kx, p, dx, C, fs0, fvs, a, _⟩ := h
  exact a
/-- the reading of such a def's body -/
theorem read_own {K : PySem.W.Frag} {n : Nat} {fs : FSo} {N : List PySem.Str} {vs : List V} {H : Hp} {Q : VK} {E : XK} {ts : TS} {t : TSp} (h : spOi K n fs vs H Q E) (rd : RdS K (fun cls d _ H => E cls d H) ts t) (ht : ∀ ds kd kx p, ds.length = n → fs ds kd kx → t (iEnds p kd kx) (gaO N.length 0 p ds)) :
    ts { nx := fun _ H' => Q .non H', rt := Q } (L2.start N vs) H := by
  obtain ⟨G, ds, kd, kx, p, dx, C, fs0, fvs, hlv, hl, sb, gp, gd, hv, hd, hp, hdx, df, r, hf, hk, hx⟩ := h
  have x0 : Ext G (hole2 H p dx) G H := ⟨.of hole2_same, Same.refl G, fun _ h _ => h, sb⟩
  have F0 := fr_own0 (N := N) x0 (hlv.trans hl.symm) gp hole2_p hv hd ⟨dx, fvs, hp, hdx, gd, hole2_d, df⟩ r
  have fin : ∀ {Γ σ G' H'} {k0 : D → Prop}, (match gat Γ 0 with | .pw q e => q = p ∧ k0 e | _ => False) → Fr K G (hole2 H p dx) Γ σ G' H' → ∃ e, k0 e ∧ G' p = none ∧ OwnAt K (hole2 H p dx) G' H' p e := fun {Γ σ G' H' k0} q F' => by
    cases e : gat Γ 0 with
    | pw q2 e2 =>
      rw [e] at q
      obtain ⟨rfl, q⟩ := q
      obtain ⟨_, g2, _, o2⟩ := F'.at_ 0 _ (gat_get Γ 0 _ e (by simp))
      exact ⟨e2, q, g2, o2⟩
    | _ => rw [e] at q; exact q.elim
  refine rd G (hole2 H p dx) _ (L2.start N vs) G H (iEnds p kd kx) _ F0 (ht ds kd kx p hl hf) ⟨?_, ?_, ?_, ?_, ?_⟩
  · intro Γ σ G' H' q F'
    obtain ⟨e, q, g2, o2⟩ := fin q F'
    exact hk .non e .non G' H' q F'.e g2 o2 .non
  · intro Γ σ G' H' q
    exact q.elim
  · intro Γ σ G' H' q
    exact q.elim
  · intro d v Γ σ G' H' q F' nn
    obtain ⟨e, q, g2, o2⟩ := fin q F'
    exact hk d e v G' H' q F'.e g2 o2 nn
  · intro y cls dA Γ σ G' H' q F' nn
    exact hx y cls dA G' H' q F'.e nn
section
variable {P : Program} {w : World} {K : PySem.W.Frag} {mg : PySem.Str → Option Value} {base : Heap}
theorem fn_okI {x qual : PySem.Str} {st : Stmt} {f : Addr} {fd : FuncData} {N ps : List PySem.Str} {k n : Nat} {fs : FSo} (F : Fun K x qual st f fd) (S : FnScope N ps (defScope st)) (hn : ps.length = n)
    (body : ∀ (cdv : Value) (A : Around) (outer : List Env) (s : Shared) (H : Hp) (E : XK), Room k (A.deeper (envOfC qual (defScope st) s.heap.objs.size f cdv)) →
      ∃ t, PSS (cxOf (L2.CX P w) P w K mg base N qual (defScope st) f cdv A outer s H E) (fun cls d _ H => E cls d H) (defBody st) t ∧ ∀ ds kd kx p, ds.length = n → fs ds kd kx → t (iEnds p kd kx) (gaO N.length 0 p ds)) :
    FnOk P w K mg base (L2.CX P w) (k + 1) f fd ps (spOi K n fs) := by
  refine F.okX S (fun vs H Q E h => by rw [spOi_len h, hn]) (fun cdv A outer s H vs Q E hr h => ?_)
  obtain ⟨t, ⟨ts, ps, rd⟩, ht⟩ := body cdv A outer s H E hr
  exact ⟨ts, ps, read_own h rd ht⟩
end
end PL
set_option Elab.async false
set_option linter.all false
set_option maxRecDepth 100000
set_option maxHeartbeats 4000000
namespace PL
open PySem L2 PyProof.Rows
variable [Tabl]
section
variable {K : PySem.W.Frag} {G0 H0 G H G' H' : Hp} {Γ : Ga} {σ : L2.St}
theorem Fr.ret (F : Fr K G0 H0 Γ σ G H) {i : Nat} {sl : Sl} {p : Addr} {y y0 : D} (hs : Γ[i]? = some sl) (ht : sl.og = some y0) (e : σ[i]? = some (some (.ref p))) (h0 : H0 p = none) (F1 : Fr K G0 H0 (gset Γ i .un) σ G' H') (gp : G' p = none) (o : OwnAt K H0 G' H' p y) :
    Fr K G0 H0 (gset Γ i (sl.op y)) σ G' H' := by
  have tow : sl.owns := by cases sl <;> first | trivial | cases ht
  have hi := (List.getElem?_eq_some_iff.mp hs).1
  refine ⟨by rw [gset_eq, List.length_set]; exact F.len, F1.e, fun j s h => ?_, fun a b q s t h1 h2 h3 h4 h5 h6 => ?_⟩
  · by_cases hj : i = j
    · subst hj
      rw [gset_eq, List.getElem?_set_self hi] at h
      cases h
      cases sl with
      | pw r d2 =>
        obtain ⟨e2, _⟩ := F.at_ i _ hs
        rw [e] at e2
        cases e2
        exact ⟨e, gp, h0, o⟩
      | _ => exact ⟨p, e, gp, h0, o⟩
    · rw [gset_eq, List.getElem?_set_ne hj] at h
      exact F1.at_ j s (by rw [gset_eq, List.getElem?_set_ne hj]; exact h)
  · have f : ∀ (a : Nat) (s : Sl), (gset Γ i (sl.op y))[a]? = some s → s.owns → ∃ s', Γ[a]? = some s' ∧ s'.owns := fun a s h1 h2 => by
      by_cases ha : i = a
      · subst ha
        exact ⟨_, hs, tow⟩
      · rw [gset_eq, List.getElem?_set_ne ha] at h1
        exact ⟨s, h1, h2⟩
    obtain ⟨s', g1, g2⟩ := f a s h1 h2
    obtain ⟨t', g3, g4⟩ := f b t h3 h4
    exact F.dj a b q s' t' g1 g2 g3 g4 h5 h6
theorem OwnAt.base {p d q : Addr} {y : D} (h : OwnAt K (hole2 H p d) G' H' q y) (k : ∀ a, H a = none → H0 a = none) (h0 : H0 p = none) (hd0 : H0 d = none) : OwnAt K H0 G' H' q y := by
  cases y with
  | lst ds => exact h
  | dct ks => exact h
  | ins C2 fs =>
    obtain ⟨dx, fv, h1, h2, h3, h4, h5⟩ := h
    refine ⟨dx, fv, h1, h2, h3, ?_, h5⟩
    by_cases a : dx = p
    · rw [a]; exact h0
    · by_cases b : dx = d
      · rw [b]; exact hd0
      · rw [hole2_ne a b] at h4
        exact k dx h4
  | _ => exact h.elim
end
def putFD (f : PySem.Str) (v : D) : List (PySem.Str × D) → List (PySem.Str × D)
  | [] => [(f, v)]
  | (g, x) :: r => if g = f then (g, v) :: r else (g, x) :: putFD f v r
theorem denF_put {K : PySem.W.Frag} {G : Hp} {f : PySem.Str} {v : V} {d : D} (n : Den K G v d) : ∀ {vs : List (PySem.Str × V)} {ds : List (PySem.Str × D)}, DenF K G vs ds → DenF K G (putF f v vs) (putFD f d ds)
  | _, _, .nil => .cons n .nil
  | _, _, .cons (f := g) h t => by
    unfold putF putFD
    by_cases e : g = f
    · rw [if_pos e, if_pos e]
      exact .cons n t
    · rw [if_neg e, if_neg e]
      exact .cons h (denF_put n t)
def onOI (Γ : Ga) (i : Nat) (k : Addr → List (PySem.Str × D) → Prop) : Prop := match (gat Γ i).og with
  | some (.ins C fs) => k C fs
  | _ => False
theorem onOI_elim {Γ : Ga} {i : Nat} {k : Addr → List (PySem.Str × D) → Prop} (h : onOI Γ i k) : ∃ C fs, (gat Γ i).og = some (.ins C fs) ∧ k C fs := by
  unfold onOI at h
  cases e : (gat Γ i).og with
  | none => simp only [e] at h
  | some d =>
    cases d with
    | ins C fs =>
      simp only [e] at h
      exact ⟨C, fs, rfl, h⟩
    | _ => simp only [e] at h
def tsSetF (cs : List Addr) (i : Nat) (f : PySem.Str) (t : TP) : TSp := fun P Γ => t Γ (fun d => onOI Γ i fun C fs => C ∈ cs ∧ fs.length < 900 ∧ P.nx (oput Γ i (.ins C (putFD f d fs)))) (fun x => P.xx x Γ)
section
variable {X : Cx} {W : WX} {e o : Expr} {es : List Expr} {t ta : TP} {tl : TL} {f m x : PySem.Str} {pos pos' apos p px : Pos} {cs : List Addr}
theorem s_setF (i : Nat) (hc : ∀ C ∈ cs, Cls X.K C ∧ NoAttr X.K C f) (he : PP X W e t) (hN : X.N[i]? = some x := by rfl) (hv : Vis X.env.scope x := by first | exact Or.inl rfl | exact Or.inr (Or.inl rfl) | exact Or.inr (Or.inr rfl))
    (hd : (x == ("__debug__" : PySem.Str)) = false := by decide) (hcd : (x == ("__classdict__" : PySem.Str)) = false := by decide) (hs : swapsWith e (some (.Attribute (.Name x px) f pos')) pos.line X.env = pure false := by rfl) :
    PS1 X W (.Assign [.Attribute (.Name x px) f pos'] e pos) (tsSetF cs i f t) := by
  obtain ⟨ee, pe, re⟩ := he.ex
  refine ⟨_, ps_fld (pe_var hN hv hd hcd) pe hs, fun G0 H0 Γ σ G H P E F ht ok => ?_⟩
  refine re G0 H0 Γ σ G H _ _ _ F ht (fun d v G1 H1 k1 x1 n1 => ?_) (ok.x F)
  obtain ⟨C, fs, hg, hC, hlen, k2⟩ := onOI_elim k1
  have F1 := F.up x1
  obtain ⟨hsl, q, e1, g1, h01, dx, fvs, q1, q2, q3, q4, q5⟩ := own_at F1 hg
  refine ⟨.ref q, e1, q, C, dx, fvs, rfl, q1, (hc C hC).1, (hc C hC).2, by rw [q5.length]; omega, ?_⟩
  have dq : dx ≠ q := fun z => by rw [z, q1] at q2; cases q2
  exact ok.nx _ _ _ _ k2 (F1.mut hsl hg e1 g1 h01 q1 trivial ⟨dx, _, upd_same, by rw [upd_ne dq]; exact q2, q3, q4, denF_put n1 q5⟩)
end
/-- what __init__ of C does -/
structure MkI (P : Program) (w : World) (K : PySem.W.Frag) (mg : PySem.Str → Option Value) (base : Heap) (C : Addr) (k n : Nat) (g : FSo) : Prop where
  ex : ∃ f, Mk K C f ∧ FnR P w K mg base (L2.CX P w) k f (spOi K (n + 1) g)
def onIns (y : D) (k : KD) : Prop := match y with
  | .ins C fs => k (.ins C fs)
  | _ => False
def tpMake (C : Addr) (g : FSo) (n : Nat) (tl : TL) : TP := fun Γ k kx => tl Γ (fun ds => ds.length = n ∧ g (.ins C [] :: ds) (fun d y => d = .non ∧ onIns y k) kx) kx
theorem run_makeS {X : Cx} {C f : Addr} {k : Nat} {sp : Sp} {E : XK} {pins : List (Addr × Obj)} {σ : L2.St} {H : Hp} {s : Shared} {Q : VK} {us : List Value} {vs : List V} (M : Mk X.K C f) (F : FnR X.prog X.w X.K X.mg X.base (L2.CX X.prog X.w) k f sp) (hr : Room (k + 1) X.A) (hx : PassesAt (L2.CX X.prog X.w) X σ E) (I : Inv X pins σ H s) (r : Vals vs us)
    (h : ∀ x dx, H x = none → H dx = none → dx ≠ x → sp (.ref x :: vs) (upd (upd H dx (.own x)) x (.ins C dx [])) (fun v H2 => v = .non ∧ Q (.ref x) H2) E) :
    wpAny (model X.prog X.w) X.A (call (.ref C) us) (EP X pins σ Q) X.xe s := by
  have f1 := I.hok.fresh (Nat.le_succ s.heap.objs.size)
  have f2 := I.hok.fresh (Nat.le_refl s.heap.objs.size)
  have hq := h (s.heap.objs.size + 1) s.heap.objs.size f1 f2 (Nat.ne_of_lt (Nat.lt_succ_self _))
  have I2 := Inv.made (C := C) I
  refine wpAny_call (make_map (f := f) I.kIn M.makes M.init (beq_iff_eq.mp M.fn) (codeAny_mono (F _ X.stack _ _ (Value.ref (s.heap.objs.size + 1) :: us) (.ref (s.heap.objs.size + 1) :: vs) _ E (hr.make C us []) (I2.env0.make C us []) (.cons rfl r) hq) fun rs s' hq' => ?_))
  cases rs with
  | error e => exact hx pins _ _ e s' I2 hq'
  | ok fl =>
    cases fl with
    | ret u =>
      obtain ⟨v, H2, J, rv, q1, q2⟩ := I2.after hq'
      subst q1
      exact ⟨rv, .ref (s.heap.objs.size + 1), H2, J, rfl, q2⟩
    | next => exact False.elim hq'
    | brk => exact False.elim hq'
    | cont => exact False.elim hq'
/-- the promise of __init__ at the new instance -/
theorem made_spec {K : PySem.W.Frag} {C : Addr} {g : FSo} {n : Nat} {G H : Hp} {vs : List V} {ds : List D} {k : KD} {kx : KX} {Q : VK} {E : XK} (s : Sub G H) (nd : DenL K G vs ds) (hl : ds.length = n) (hg : g (.ins C [] :: ds) (fun d y => d = .non ∧ onIns y k) kx)
    (hk : ∀ d v G' H', k d → Ext G H G' H' → Den K G' v d → Q v H') (hx : ∀ x cls dA G' H', kx x → Ext G H G' H' → XDen K G' H' cls dA x → E cls dA H') :
    ∀ x dx, H x = none → H dx = none → dx ≠ x → spOi K (n + 1) g (.ref x :: vs) (upd (upd H dx (.own x)) x (.ins C dx [])) (fun v H2 => v = .non ∧ Q (.ref x) H2) E := by
  intro x dx hx0 hd0 ne
  have gx := s.none hx0
  have gd := s.none hd0
  have eh : hole2 (upd (upd H dx (.own x)) x (.ins C dx [])) x dx = H := by
    funext a
    by_cases a1 : a = x
    · rw [a1, hole2_p, hx0]
    · by_cases a2 : a = dx
      · rw [a2, hole2_d, hd0]
      · rw [hole2_ne a1 a2, upd_ne a1, upd_ne a2]
  have s2 : Same H (upd (upd H dx (.own x)) x (.ins C dx [])) := fun a o e => by
    rw [upd_ne (ne_of_none e hx0), upd_ne (ne_of_none e hd0)]
    exact e
  refine ⟨G, .ins C [] :: ds, _, kx, x, dx, C, [], [], by rw [List.length_cons, nd.length, hl], by rw [List.length_cons, hl], s.up s2, gx, gd, rfl, rfl, upd_same, by rw [upd_ne ne, upd_same], .nil, fun i v d hi hv hd => ?_, hg, fun d y v G' H' kk ex gp o dn => ?_, fun z cls dA G' H' kk ex nz => ?_⟩
  · match i, hi with
    | i + 1, _ =>
      rw [List.getElem?_cons_succ] at hv hd
      obtain ⟨d', e', n'⟩ := nd.gv hv
      rw [hd] at e'
      cases e'
      exact n'
  · rw [eh] at ex o
    obtain ⟨rfl, ky⟩ := kk
    cases dn
    refine ⟨rfl, ?_⟩
    cases y with
    | ins C' fs =>
      obtain ⟨dx', fvs, o1, o2, o3, o4, o5⟩ := o
      have ne' : dx' ≠ x := fun z => by rw [z, o1] at o2; cases o2
      have g'x : G x = none := gx
      have g'd : G dx' = none := s.none o4
      have sm : Same G' (upd (upd G' dx' (.own x)) x (.ins C' dx' fvs)) := fun a o e => by
        rw [upd_ne (fun z => by rw [z, gp] at e; cases e), upd_ne (fun z => by rw [z, o3] at e; cases e)]
        exact e
      refine hk _ _ (upd (upd G' dx' (.own x)) x (.ins C' dx' fvs)) H' ky ⟨ex.h, ex.g.trans sm, fun a q ⟨u, e⟩ => ?_, ⟨fun a u e => ?_, fun a u e => ?_, ex.sub.tb⟩⟩ (.ins upd_same (by rw [upd_ne ne', upd_same]) (o5.up sm))
      · rw [upd_ne (ne_of_none e hx0), upd_ne (ne_of_none e o4)]
        exact ex.nw a q ⟨u, e⟩
      · by_cases a1 : a = x
        · rw [a1, upd_same] at e
          cases e
          rw [a1]
          exact .inl o1
        · rw [upd_ne a1] at e
          by_cases a2 : a = dx'
          · rw [a2, upd_same] at e
            cases e
            rw [a2]
            exact .inl o2
          · rw [upd_ne a2] at e
            exact ex.sub.m a u e
      · by_cases a1 : a = x
        · rw [a1, upd_same] at e
          cases e
          intro ps z
          cases z
        · rw [upd_ne a1] at e
          by_cases a2 : a = dx'
          · rw [a2, upd_same] at e
            cases e
            intro ps z
            cases z
          · rw [upd_ne a2] at e
            exact ex.sub.nt a u e
    | _ => exact ky.elim
  · rw [eh] at ex
    exact hx z cls dA G' H' kk ex nz
section
variable {X : Cx} {W : WX} {e : Expr} {es : List Expr} {tl : TL} {x : PySem.Str} {pos p : Pos} {k n j : Nat} {C : Addr} {g : FSo}
theorem p_make (M : MkI X.prog X.w X.K X.mg X.base C k n g) (hr : Room j X.A) (hj : k + 1 ≤ j) (tk : Takes X W) (hm : X.mg x = some (.ref C)) (ha : PL' X W (e :: es) tl) (hg : Gl X x := by rfl) (hdb : (x == ("__debug__" : PySem.Str)) = false := by decide)
    (hst : starEach (e :: es) X.env = (false, eval e X.env) :: starEach es X.env := by rfl) (hpl : (backTo pos (starEach es X.env)).any (·.1) = false := by rfl) : PP X W (.Call (.Name x p) (e :: es) [] pos) (tpMake C g n tl) := by
  obtain ⟨ea, pa, ra⟩ := ha.ex
  obtain ⟨f, mk, R⟩ := M.ex
  refine ⟨fun σ H Q => ea σ H fun vs H1 => ∀ x dx, H1 x = none → H1 dx = none → dx ≠ x → spOi X.K (n + 1) g (.ref x :: vs) (upd (upd H1 dx (.own x)) x (.ins C dx [])) (fun v H2 => v = .non ∧ Q (.ref x) H2) (WE W σ), ⟨fun pins s σ H Q I h => ?_⟩, fun G0 H0 Γ σ G H kd kx Q F ht hk hx => ?_⟩
  · refine wpAny_Call_Name_kw (ld_glob I hg hm ?_ hdb)
    refine PySem.W.callWith_K (h₀ := X.base) I.ok.mod.kin mk.kp (thn (pa.run pos pins s σ H _ I h) fun us s1 ⟨vs, H1, I1, r, q⟩ => ⟨I1.kIn, ?_⟩) hst hpl
    exact run_makeS mk R (hr.mono hj) (passAt tk σ) I1 r q
  · refine ra G0 H0 Γ σ G H _ kx _ F ht (fun ds vs G1 H1 k1 x1 n1 => ?_) hx
    exact made_spec x1.sub n1 k1.1 k1.2 (fun d v G' H' kk ex dn => hk d v G' H' kk (x1.trans ex) dn) (fun y cls dA G' H' kk ex dn => hx y cls dA G' H' kk (x1.trans ex) dn)
def tpMakeL (i : Nat) (C : Addr) (g : FSo) (n : Nat) (tl : TL) : TP := fun Γ k kx => (match gat Γ i with
  | .pu (.cls C') => C' = C
  | _ => False) ∧ tpMake C g n tl Γ k kx
theorem p_makeL (i : Nat) (M : MkI X.prog X.w X.K X.mg X.base C k n g) (hr : Room j X.A) (hj : k + 1 ≤ j) (tk : Takes X W) (ha : PL' X W (e :: es) tl) (hN : X.N[i]? = some x := by rfl) (hv : Vis X.env.scope x := by first | exact Or.inl rfl | exact Or.inr (Or.inl rfl) | exact Or.inr (Or.inr rfl)) (hdb : (x == ("__debug__" : PySem.Str)) = false := by decide) (hcd : (x == ("__classdict__" : PySem.Str)) = false := by decide)
    (hst : starEach (e :: es) X.env = (false, eval e X.env) :: starEach es X.env := by rfl) (hpl : (backTo pos (starEach es X.env)).any (·.1) = false := by rfl) : PP X W (.Call (.Name x p) (e :: es) [] pos) (tpMakeL i C g n tl) := by
  obtain ⟨ea, pa, ra⟩ := ha.ex
  obtain ⟨f, mk, R⟩ := M.ex
  refine ⟨fun σ H Q => σ[i]? = some (some (.ref C)) ∧ ea σ H fun vs H1 => ∀ x dx, H1 x = none → H1 dx = none → dx ≠ x → spOi X.K (n + 1) g (.ref x :: vs) (upd (upd H1 dx (.own x)) x (.ins C dx [])) (fun v H2 => v = .non ∧ Q (.ref x) H2) (WE W σ), ⟨fun pins s σ H Q I h => ?_⟩, fun G0 H0 Γ σ G H kd kx Q F ht hk hx => ?_⟩
  · refine wpAny_Call_Name_kw (thn ((pe_var (pos := p) (i := i) hN hv hdb hcd).run pins s σ H (fun v H1 => v = .ref C ∧ H1 = H) I ⟨.ref C, h.1, rfl, rfl⟩) fun u s0 ⟨v, H0, I0, r0, ev, eH⟩ => ?_)
    subst ev
    rw [eH] at I0
    obtain rfl : u = Value.ref C := r0
    refine PySem.W.callWith_K (h₀ := X.base) I.ok.mod.kin mk.kp (thn (pa.run pos pins s0 σ H _ I0 h.2) fun us s1 ⟨vs, H1, I1, r, q⟩ => ⟨I1.kIn, ?_⟩) hst hpl
    exact run_makeS mk R (hr.mono hj) (passAt tk σ) I1 r q
  · obtain ⟨hs, ht⟩ := ht
    refine ⟨?_, ?_⟩
    · cases e : gat Γ i with
      | pu d =>
        rw [e] at hs
        cases d with
        | cls C' =>
          have hs : C' = C := hs
          subst hs
          obtain ⟨v, e1, n1⟩ := F.at_ i _ (gat_get Γ i _ e (by simp))
          cases n1
          exact e1
        | _ => exact hs.elim
      | _ => rw [e] at hs; exact hs.elim
    · refine ra G0 H0 Γ σ G H _ kx _ F ht (fun ds vs G1 H1 k1 x1 n1 => ?_) hx
      exact made_spec x1.sub n1 k1.1 k1.2 (fun d v G' H' kk ex dn => hk d v G' H' kk (x1.trans ex) dn) (fun y cls dA G' H' kk ex dn => hx y cls dA G' H' kk (x1.trans ex) dn)
end
end PL
set_option Elab.async false
set_option linter.all false
set_option maxRecDepth 100000
set_option maxHeartbeats 4000000
namespace PL
open PySem L2 PyProof.Rows
variable [Tabl]
section
variable {X : Cx} {W : WX} {e o : Expr} {es : List Expr} {t : TP} {tl : TL} {f m x : PySem.Str} {pos apos p : Pos} {k n j : Nat} {C : Addr} {fs : FS}
theorem p_globC (hm : X.mg x = some (.ref C)) (hg : Gl X x := by rfl) (hd : (x == ("__debug__" : PySem.Str)) = false := by decide) : PP X W (.Name x pos) (tpC (.cls C)) := p_glob hg hm (v := .ref C) rfl (fun G => .cls C) hd
structure CMt (P : Program) (w : World) (K : PySem.W.Frag) (mg : PySem.Str → Option Value) (base : Heap) (C : Addr) (m : PySem.Str) (k n : Nat) (fs : FS) : Prop where
  ex : ∃ mc q g, ClX.CRead K C mc ∧ ClX.CMet K C mc m q g ∧ FnR P w K mg base (L2.CX P w) k g (spOf K (n + 1) fs)
def tpCMeth (C : Addr) (fs : FS) (n : Nat) (t : TP) (tl : TL) : TP := fun Γ k kx => t Γ (fun d => match d with
  | .cls C' => C' = C ∧ tl Γ (fun ds => ds.length = n ∧ fs (.cls C :: ds) k kx) kx
  | _ => False) kx
theorem p_cmeth (M : CMt X.prog X.w X.K X.mg X.base C m k n fs) (hr : Room j X.A) (hj : k ≤ j) (tk : Takes X W) (ho : PP X W o t) (ha : PL' X W (e :: es) tl) {pl : Sem Bool}
    (hst : starEach (e :: es) X.env = (false, eval e X.env) :: starEach es X.env := by rfl) (hpl : (backTo pos (starEach es X.env)).any (·.1) = false := by rfl)
    (ht : eval (.Call (.Attribute o m apos) (e :: es) [] pos) X.env = (do
      let ov ← eval o X.env
      standAt apos.atName
      let (f, first) ← holding [ov] (getMethod ov m pl)
      callWith pos f first (backTo pos (starEach (e :: es) X.env)) (backToKw pos (keywordEach [] X.env))) := by rfl) : PP X W (.Call (.Attribute o m apos) (e :: es) [] pos) (tpCMeth C fs n t tl) := by
  obtain ⟨eo, po, ro⟩ := ho.ex
  obtain ⟨ea, pa, ra⟩ := ha.ex
  obtain ⟨mc, q, g, rd, cm, R⟩ := M.ex
  refine ⟨fun σ H Q => eo σ H fun x H1 => x = .ref C ∧ ea σ H1 fun vs H2 => spOf X.K (n + 1) fs (.ref C :: vs) H2 Q (WE W σ), ⟨fun pins s σ H Q I h => ?_⟩, fun G0 H0 Γ σ G H kd kx Q F ht hk hx => ?_⟩
  · refine PySem.W.methodCall_KW (pl := pl) (thn (po.run pins s σ H _ I h) fun u s1 ⟨x, H1, I1, rx, ex, q⟩ => ?_) ht
    subst ex
    obtain rfl : u = Value.ref C := rx
    refine ClX.getmethcm_ok I1 rd cm fun s2 I2 => ?_
    refine ClX.callwith_cm I2 (ClX.base_none I1 (Nat.le_refl _)) cm.fi (thn (pa.run pos _ s2 σ H1 _ I2 q) fun us s3 ⟨vs, H2, I3, rv, q2⟩ => ⟨⟨ClX.pin_at I3, I3.kIn⟩, ?_⟩) hst hpl
    have z : wpAny (model X.prog X.w) X.A (call (.ref s1.heap.objs.size) us) (EP X ((s1.heap.objs.size, PySem.W.methodObj (.ref g) (.ref C)) :: pins) σ Q) X.xe s3 :=
      wpAny_call (PySem.W.method_call (ClX.pin_at I3) (run_fnRS (us := .ref C :: us) (vs := .ref C :: vs) R (hr.mono hj) (passAt tk σ) I3 (.cons rfl rv) q2))
    exact thn z fun _ _ y => ClX.unpinE y
  · refine ro G0 H0 Γ σ G H _ kx _ F ht (fun d v G1 H1 k1 x1 n1 => ?_) hx
    cases d with
    | cls C' =>
      obtain ⟨rfl, k2⟩ := k1
      cases n1
      refine ⟨rfl, ?_⟩
      refine ra G0 H0 Γ σ G1 H1 _ kx _ (F.up x1) k2 (fun ds vs G2 H2 k3 x2 n2 => ?_) (hx.up x1)
      exact rd_after (G0 := G0) (H0 := H0) (Γ := Γ) (x1.trans x2) (.cons (.cls C') n2) (by rw [List.length_cons, k3.1]) k3.2 hk hx
    | _ => exact k1.elim
end
theorem fr_put {K : PySem.W.Frag} {G0 H0 G H : Hp} {Γ : Ga} {σ : L2.St} (F : Fr K G0 H0 Γ σ G H) {i : Nat} {v : V} {d : D} (e : σ[i]? = some (some v)) (n : Den K G v d) : Fr K G0 H0 (gset Γ i (.pu d)) σ G H := by
  refine ⟨by rw [gset_eq, List.length_set]; exact F.len, F.e, fun j s h => ?_, fun a b q s t h1 h2 h3 h4 h5 h6 => ?_⟩
  · by_cases hj : i = j
    · subst hj
      rw [gset_eq, List.getElem?_set] at h
      rw [if_pos rfl] at h
      split at h
      · cases h
        exact ⟨v, e, n⟩
      · cases h
    · rw [gset_eq, List.getElem?_set_ne hj] at h
      exact F.at_ j s h
  · have f : ∀ (a : Nat) (s : Sl), (gset Γ i (.pu d))[a]? = some s → s.owns → Γ[a]? = some s := fun a s h1 h2 => by
      by_cases ha : i = a
      · subst ha
        rw [gset_eq, List.getElem?_set, if_pos rfl] at h1
        split at h1
        · cases h1
          exact h2.elim
        · cases h1
      · rw [gset_eq, List.getElem?_set_ne ha] at h1
        exact h1
    exact F.dj a b q s t (f a s h1 h2) h2 (f b t h3 h4) h4 h5 h6
section
variable {X : Cx} {W : WX} {e : Expr} {t : TP} {st : Stmt} {s : TSp}
def tsFrz (i : Nat) (s : TSp) : TSp := fun P Γ => match gat Γ i with
  | .ow (.lst ds) => s P (gset Γ i (.pu (.lst ds)))
  | .ow (.dct ds) => s P (gset Γ i (.pu (.dct ds)))
  | .pu d => s P Γ
  | _ => False
theorem gset2 (Γ : Ga) (i : Nat) (a b : Sl) : gset (gset Γ i a) i b = gset Γ i b := by rw [gset_eq, gset_eq, gset_eq, List.set_set]
theorem s_frz (i : Nat) (h : PS1 X W st s) : PS1 X W st (tsFrz i s) := by
  obtain ⟨ts, ps, rs⟩ := h.ex
  refine ⟨ts, ps, fun G0 H0 Γ σ G H P E F ht ok => ?_⟩
  unfold tsFrz at ht
  cases e : gat Γ i with
  | ow d =>
    rw [e] at ht
    have hs := gat_get Γ i _ e (by simp)
    obtain ⟨p, e1, g, h0, r⟩ := F.at_ i _ hs
    cases d with
    | lst ds =>
      obtain ⟨xs, h1, h2⟩ := r
      have F1 := F.thaw hs e1 g h0 h1 trivial
      have F2 := fr_put F1 e1 (Den.lst upd_same (h2.up (same_upd g)))
      rw [gset2] at F2
      exact rs G0 H0 _ σ _ H P E F2 ht ok
    | dct ds =>
      obtain ⟨xs, h1, h2⟩ := r
      have F1 := F.thaw hs e1 g h0 h1 trivial
      have F2 := fr_put F1 e1 (Den.dct upd_same (h2.up (same_upd g)))
      rw [gset2] at F2
      exact rs G0 H0 _ σ _ H P E F2 ht ok
    | _ => exact ht.elim
  | pu d => rw [e] at ht; exact rs G0 H0 _ σ _ H P E F ht ok
  | _ => rw [e] at ht; exact ht.elim
end
end PL
set_option Elab.async false
set_option linter.all false
set_option maxRecDepth 100000
set_option maxHeartbeats 4000000
namespace CmX
open PySem PySem.Spec PyProof.Rows L2
end CmX
set_option Elab.async false
set_option linter.all false
set_option maxRecDepth 100000
set_option maxHeartbeats 4000000
namespace CmX
open PySem PySem.Spec PyProof.Rows L2
end CmX
set_option Elab.async false
set_option linter.all false
set_option maxRecDepth 100000
set_option maxHeartbeats 4000000
namespace PL
open PySem PySem.Froz L2 PyProof.Rows PpSet
variable [Tabl]
section
variable {X : Cx} {W : WX} {e elt tg iter : Expr} {t : TP} {p q pos : Pos}
def fTup : F1
  | .lst xs, k => k (.tup xs)
  | .tup xs, k => k (.tup xs)
  | _, _ => False
theorem c_tup : CallR X (.type "tuple") (fun xs H Q => ∃ p ys, xs = [.ref p] ∧ ((SqL X.K H p ys ∧ ∀ l, H l = none → Q (.ref l) (upd H l (.tup ys))) ∨ (SqT X.K H p ys ∧ Q (.ref p) H))) ∧ RdC1 X.K (fun xs H Q => ∃ p ys, xs = [.ref p] ∧ ((SqL X.K H p ys ∧ ∀ l, H l = none → Q (.ref l) (upd H l (.tup ys))) ∨ (SqT X.K H p ys ∧ Q (.ref p) H))) fTup := by
  refine ⟨call_tuple_of, fun H0 G H v d k Q s n h hk => ?_⟩
  cases d with
  | lst xs =>
    obtain ⟨a, ys, rfl, h1, r1⟩ := n.lst s
    refine ⟨a, ys, rfl, .inl ⟨SqL.of h1, fun l hl => ?_⟩⟩
    have ex := Ext.new (o := .tup ys) s hl
    exact hk _ _ _ _ h ex (.tup (.inl (.inl upd_same)) (r1.up ex.g))
  | tup xs =>
    rcases n with n | ⟨p, e, g, r⟩
    · cases n with
      | @tup a vs _ h1 h2 => exact ⟨a, vs, rfl, .inr ⟨s.sqt h1, hk _ _ G H h (Ext.refl s) (.tup h1 h2)⟩⟩
    · exact r.elim
  | _ => exact h.elim
end
end PL
set_option Elab.async false
set_option linter.all false
set_option maxRecDepth 100000
set_option maxHeartbeats 4000000
namespace PL
open PySem L2 PyProof.Rows
variable [Tabl]
section
variable {K : PySem.W.Frag} {G0 H0 G H : Hp} {Γ : Ga} {σ : L2.St}
theorem Fr.slot (F : Fr K G0 H0 Γ σ G H) {i : Nat} {a b : Sl} (hs : Γ[i]? = some a) (ho : a.owns) (hb : b.owns → a.owns) (n : SlOk K H0 G H (σ[i]?) b) : Fr K G0 H0 (gset Γ i b) σ G H := by
  refine ⟨by rw [gset_eq, List.length_set]; exact F.len, F.e, fun j s h => ?_, fun x y q s t h1 h2 h3 h4 h5 h6 => ?_⟩
  · by_cases hj : i = j
    · subst hj
      rw [gset_gat hs] at h
      cases h
      exact n
    · rw [gset_eq, List.getElem?_set_ne hj] at h
      exact F.at_ j s h
  · have f : ∀ (x : Nat) (s : Sl), (gset Γ i b)[x]? = some s → s.owns → ∃ s', Γ[x]? = some s' ∧ s'.owns := fun x s h1 h2 => by
      by_cases hx : i = x
      · subst hx
        exact ⟨a, hs, ho⟩
      · rw [gset_eq, List.getElem?_set_ne hx] at h1
        exact ⟨s, h1, h2⟩
    obtain ⟨s', g1, g2⟩ := f x s h1 h2
    obtain ⟨t', g3, g4⟩ := f y t h3 h4
    exact F.dj x y q s' t' g1 g2 g3 g4 h5 h6
end
end PL
set_option Elab.async false
set_option linter.all false
set_option maxRecDepth 100000
set_option maxHeartbeats 4000000
namespace PL
open PySem L2 PyProof.Rows
variable [Tabl]
def fInI (neg : Bool) : F2
  | .int i, .lst ds, k => ∃ ns : List Int, ds = ns.map D.int ∧ k (.bl (if neg then !ns.contains i else ns.contains i))
  | _, _, _ => False
theorem inV_ints (i : Int) : ∀ ns : List Int, inV (.int i) (ns.map V.int) = ns.contains i
  | [] => rfl
  | n :: r => by
    have ih := inV_ints i r
    show (eqV (.int n) (.int i) || inV (.int i) (r.map V.int)) = _
    rw [ih, List.contains_cons]
    congr 1
    show (n == i) = (i == n)
    exact Bool.beq_comm
theorem rd_inI {K : PySem.W.Frag} {neg : Bool} : RdO K (rIn K neg) (fInI neg) := by
  intro H0 G H v1 v2 d1 d2 k Q s n1 n2 hf hk
  cases d1 with
  | int i =>
    cases d2 with
    | lst ds =>
      obtain ⟨ns, rfl, hf⟩ := hf
      obtain ⟨a, xs, e, h1, r1⟩ := n2.lst s
      rw [denL_int r1] at h1
      refine ⟨a, ns.map V.int, e, .inl (SqL.of h1), by rw [n1.int]; rfl, ?_, ?_⟩
      · rw [List.all_eq_true]
        intro y hy
        obtain ⟨z, _, rfl⟩ := List.mem_map.mp hy
        rfl
      · rw [n1.int, inV_ints]
        exact hk _ _ G H hf (Ext.refl s) (.bl _)
    | _ => exact hf.elim
  | _ => exact hf.elim
section
variable {X : Cx} {W : WX} {e a b c o : Expr} {es : List Expr} {t ta tb tc to : TP} {tl : TL} {tt tu : TB} {pos apos p q : Pos} {x : PySem.Str} {k n j : Nat} {fs : FS}
theorem o_inI : OpR X (compareOp .In) (rIn X.K false) ∧ RdO X.K (rIn X.K false) (fInI false) := ⟨op_in_seq, rd_inI⟩
end
def rMulS : R2 := fun x y H Q => ∃ (s : PySem.Str) (n : Nat), x = .str s ∧ y = .int n ∧ n < 1000 ∧ s.cps.size ≤ 100000 ∧ s.cps.size * n ≤ 100000 ∧ Q (.str ⟨(List.replicate n s.cps.toList).flatten.toArray⟩) H
theorem fold_app (l : List (Array Nat)) : ∀ z : Array Nat, (l.foldl (· ++ ·) z).toList = z.toList ++ (l.map Array.toList).flatten := by
  induction l with
  | nil => intro z; simp
  | cons a r ih =>
    intro z
    rw [List.foldl_cons, ih]
    simp
theorem flat_len {α : Type} (l : List α) : ∀ n : Nat, (List.replicate n l).flatten.length = n * l.length
  | 0 => by simp
  | n + 1 => by rw [List.replicate_succ, List.flatten_cons, List.length_append, flat_len l n, Nat.succ_mul]; omega
theorem op_mulS {X : Cx} : OpR X (binaryOp .Mult) rMulS := by
  intro pins s σ H x y v u Q I rx ry h
  obtain ⟨a, n, rfl, rfl, hn, ha, hz, q⟩ := h
  obtain ⟨t, rfl⟩ := rx
  obtain ⟨t2, rfl⟩ := ry
  have la : a.length = a.cps.size := rfl
  have p63 : (2 : Int) ^ 63 = 9223372036854775808 := by decide
  refine P.mul_str ?_ (fun h1 h2 => ?_) (fun h1 h2 => ?_) ?_
  · rw [decide_eq_false (by omega), decide_eq_false (by omega)]
    rfl
  · have h3 : (100000 : Int) ≤ (2 ^ 63 - 1) / (n : Int) := by
      rw [Int.le_ediv_iff_mul_le (by omega), p63]
      omega
    omega
  · rw [Int.toNat_natCast, la]
    unfold Builtin.Str.tooLong
    simp only [sizeLine_eq, decide_eq_false_iff_not]
    omega
  · have fin : ∀ {r : PySem.Str}, r.cps.toList = (List.replicate n a.cps.toList).flatten → r = ⟨(List.replicate n a.cps.toList).flatten.toArray⟩ := fun {r} h => by
      obtain ⟨c⟩ := r
      have h : c.toList = _ := h
      rw [← h]
    split
    · refine ⟨by decide, .str PySem.Str.empty, H, I.tok _, ⟨_, rfl⟩, ?_⟩
      have : n = 0 := by omega
      subst this
      exact q
    · split
      · rename_i h1 h2
        refine ⟨.str a, H, I, ⟨_, rfl⟩, ?_⟩
        rw [fin (r := a) ?_]
        · exact q
        · rcases Bool.or_eq_true_iff.mp h2 with h2 | h2
          · have : n = 1 := by
              have := beq_iff_eq.mp h2
              omega
            subst this
            simp
          · have e : a.cps.toList = [] := List.length_eq_zero_iff.mp (by rw [Array.length_toList]; exact beq_iff_eq.mp h2)
            rw [e]
            simp
      · rw [fin (r := ⟨_⟩) (by show (List.foldl (· ++ ·) #[] (List.replicate (n : Int).toNat a.cps)).toList = _; rw [fold_app, Int.toNat_natCast, List.map_replicate]; simp)]
        refine ⟨?_, .str _, H, I.tok _, ⟨_, rfl⟩, q⟩
        show (List.replicate n a.cps.toList).flatten.toArray.size ≤ _
        rw [List.size_toArray, flat_len, sizeLine_eq, Array.length_toList, Nat.mul_comm]
        omega
def fMulS : F2
  | .str s, .int n, k => ∃ m : Nat, n = m ∧ m < 1000 ∧ s.length ≤ 100000 ∧ s.length * m ≤ 100000 ∧ k (.str (List.replicate m s).flatten)
  | _, _, _ => False
theorem o_mulS {X : Cx} : OpR X (binaryOp .Mult) rMulS ∧ RdO X.K rMulS fMulS := by
  refine ⟨op_mulS, fun H0 G H v1 v2 d1 d2 k Q s n1 n2 hf hk => ?_⟩
  cases d1 with
  | str a =>
    cases d2 with
    | int n =>
      obtain ⟨m, rfl, h1, h2, h3, hf⟩ := hf
      refine ⟨SS a, m, n1.str, n2.int, h1, by rw [List.size_toArray]; exact h2, by rw [List.size_toArray]; exact h3, ?_⟩
      exact hk _ _ G H hf (Ext.refl s) (.str _)
    | _ => exact hf.elim
  | _ => exact hf.elim
end PL
set_option Elab.async false
set_option linter.all false
set_option maxRecDepth 100000
set_option maxHeartbeats 4000000
namespace L2
open PySem PySem.Spec PyProof.Rows
end L2
namespace PL
open PySem L2
variable [Tabl]
def pairsD : Nat → List D → List D
  | _, [] => []
  | i, c :: r => .tup [.int (i : Nat), c] :: pairsD (i + 1) r
theorem pairsD_length : ∀ (i : Nat) (s : List D), (pairsD i s).length = s.length
  | _, [] => rfl
  | i, c :: r => congrArg (· + 1) (pairsD_length (i + 1) r)
theorem pairsD_get : ∀ (s : List D) (i k : Nat) (c : D), s[k]? = some c → (pairsD i s)[k]? = some (.tup [.int ((i + k : Nat)), c])
  | [], _, _, _, h => by simp at h
  | a :: r, i, 0, c, h => by
    have : a = c := by simpa using h
    subst this
    rfl
  | a :: r, i, k + 1, c, h => by
    have h : r[k]? = some c := by simpa using h
    have := pairsD_get r (i + 1) k c h
    show (pairsD (i + 1) r)[k]? = _
    rw [this, show i + 1 + k = i + (k + 1) by omega]
end PL
set_option Elab.async false
set_option linter.all false
set_option maxRecDepth 100000
set_option maxHeartbeats 4000000
namespace CmX
open PySem PySem.Spec PyProof.Rows L2
end CmX
set_option Elab.async false
set_option linter.all false
set_option maxRecDepth 100000
set_option maxHeartbeats 4000000
namespace PL
open PySem L2 PyProof.Rows CmX
variable [Tabl]
def noOwn (Γ : Ga) : Bool := Γ.all fun s => match s with
  | .un => true
  | .pu _ => true
  | _ => false
theorem noOwn_at {Γ : Ga} (h : noOwn Γ = true) {i : Nat} {s : Sl} (e : Γ[i]? = some s) : s = .un ∨ ∃ d, s = .pu d := by
  have := List.all_eq_true.mp h _ (List.mem_of_getElem? e)
  cases s with
  | un => exact .inl rfl
  | pu d => exact .inr ⟨d, rfl⟩
  | _ => cases this
section
variable {X : Cx} {W : WX} {w0 w1 : TI} {g0 : TG} {q0 : TT} {ek ev : TE} {t0 t1 : TL} {gp : TGp} {tk tv : TP} {is own : List Nat} {j : Nat}
theorem Fr.base {K : PySem.W.Frag} {G0 H0 G1 H1 G H : Hp} {Γ : Ga} {σ : L2.St} (F : Fr K G0 H0 Γ σ G H) (n : noOwn Γ = true) (x : Ext G1 H1 G H) : Fr K G1 H1 Γ σ G H := by
  refine ⟨F.len, x, fun i t h => ?_, F.dj⟩
  have q := F.at_ i t h
  rcases noOwn_at n h with rfl | ⟨d, rfl⟩
  · trivial
  · exact q
end
end PL
set_option Elab.async false
set_option linter.all false
set_option maxRecDepth 100000
set_option maxHeartbeats 4000000
namespace PL
open PySem L2 PyProof.Rows
variable [Tabl]
theorem fnR_def {P : Program} {w : World} {K : PySem.W.Frag} {mg : PySem.Str → Option Value} {base : Heap} {k : Nat} {f : Addr} {fd : FuncData} {ps : List PySem.Str} {sp : Sp} {dvs : List V} {ds : List Value} (F : FnOk P w K mg base (L2.CX P w) k f fd ps sp) (hb : Binds K fd ps ds) (hd : Vals dvs ds) :
    FnR P w K mg base (L2.CX P w) k f (fun vs H Q E => sp (vs ++ dvs) H Q E) := by
  intro A outer s H us vs Q E hr e0 r h
  have r2 : Vals (vs ++ dvs) (us ++ ds) := r.append hd
  have hl : (us ++ ds).length = ps.length := by rw [← r2.length]; exact F.len _ _ _ _ h
  exact F.run A outer s H ⟨us, []⟩ (us ++ ds) (vs ++ dvs) Q E hr e0 (hb s us (e0.mod.kin.keeps fun b o q => (e0.bs b o q).1) hl) r2 h
end PL
set_option Elab.async false
set_option linter.all false
set_option maxRecDepth 100000
set_option maxHeartbeats 4000000
namespace PL
open PySem L2 PyProof.Rows
variable [Tabl]
section
variable {X : Cx} {W : WX} {elt tg iter : Expr} {ifs : List Expr} {scope : Scope} {pos spos py : Pos} {y : PySem.Str} {ti : TL} {gp : TGp} {is : List Nat} {te : TP} {tt : TB}
theorem set_lc (i : Nat) (own : List (PySem.Str × Nat)) (hc : X.calm = true) (hN : X.N.Nodup) (hi : PIt X W tg iter ti) (ok : BlkOk X.N X.env.scope scope own)
    (hg : ∀ i : Bi, PGt (Cx.bl X scope i) tg is gp) (ht : ∀ i : Bi, PBs (Cx.bl X scope i) W0 ifs tt) (he : ∀ i : Bi, PP (Cx.bl X scope i) W0 elt te) (hv : is = own.map (·.2)) (hs : ∀ x, foldedSetIterable iter X.env x = pure x) (hy : X.N[i]? = some y) (hyl : X.env.scope.names.lookup y = some .local)
    (hk : X.env.scope.kind = .function) (hl : (py.line == pos.line) = true) (ha : (scope.names.any fun (n, k) => n == y && (k == .local || k == .cell)) = false) :
    ∃ ta, PS X (.Assign [.Name y py] (.ListComp elt [⟨tg, iter, ifs, 0⟩] scope pos) spos) (tAsg ta (gName i)) ∧ ∀ (G0 H0 : Hp) (Γ : Ga) (σ : L2.St) (G H : Hp) (k : KD) (kx : KX) (Q : VK), Fr X.K G0 H0 Γ σ G H → tpLc is ti gp tt te Γ k kx →
      (∀ ds G' H' D, k (.lst ds) → Ext G H G' H' → H D = none → G' D = none → (∃ xs, H' D = some (.lst xs) ∧ DenL X.K G' xs ds) → Q (.ref D) H') → XOk X.K W G H σ kx → ta σ H Q := by
  obtain ⟨wi, pi, ri⟩ := hi.ex
  obtain ⟨g, pg, rg⟩ := pg_unif (Xf := fun i : Bi => Cx.bl X scope i) (K := X.K) (fun _ => rfl) hg
  obtain ⟨eb, pb, rb⟩ := bs_unif (Xf := fun i : Bi => Cx.bl X scope i) (K := X.K) (fun _ => rfl) ht
  obtain ⟨ee, pe, re⟩ := pp_unif (Xf := fun i : Bi => Cx.bl X scope i) (K := X.K) (fun _ => rfl) he ⟨X.s_0, X.H_0, 0, [], []⟩
  exact ⟨_, ps_setLc hc hN hy hyl (sw_true hk hyl hl ha) pi ok (fun s H C cl fp => pg (s, H, C, cl, fp)) (fun s H C cl fp => pb (s, H, C, cl, fp)) (fun s H C cl fp => pe (s, H, C, cl, fp)) hs, rd_lc ri rg rb re hv⟩
theorem s_setLc (i : Nat) (own : List (PySem.Str × Nat)) (hc : X.calm = true) (hN : X.N.Nodup) (hi : PIt X W tg iter ti) (ok : BlkOk X.N X.env.scope scope own)
    (hg : ∀ i : Bi, PGt (Cx.bl X scope i) tg is gp) (ht : ∀ i : Bi, PBs (Cx.bl X scope i) W0 ifs tt) (he : ∀ i : Bi, PP (Cx.bl X scope i) W0 elt te) (hv : is = own.map (·.2) := by rfl) (hs : ∀ x, foldedSetIterable iter X.env x = pure x := by intro _; rfl) (hy : X.N[i]? = some y := by rfl) (hyl : X.env.scope.names.lookup y = some .local := by rfl)
    (hk : X.env.scope.kind = .function := by rfl) (hl : (py.line == pos.line) = true := by rfl) (ha : (scope.names.any fun (n, k) => n == y && (k == .local || k == .cell)) = false := by decide +kernel) :
    PS1 X W (.Assign [.Name y py] (.ListComp elt [⟨tg, iter, ifs, 0⟩] scope pos) spos) (tsSet i (tpLc is ti gp tt te)) := by
  obtain ⟨ta, pa, ra⟩ := set_lc (pos := pos) (spos := spos) (py := py) i own hc hN hi ok hg ht he hv hs hy hyl hk hl ha
  refine ⟨_, pa, rd_set i fun G0 H0 Γ σ G H k kx Q F h hk hx => ra G0 H0 Γ σ G H k kx Q F h (fun ds G' H' D kd x hD gD ⟨xs, h1, h2⟩ => ?_) hx⟩
  exact hk _ _ _ H' kd (Ext.thaw x.sub x hD gD h1) (.lst upd_same (h2.up (same_upd gD)))
end
end PL
set_option Elab.async false
set_option linter.all false
set_option maxRecDepth 100000
set_option maxHeartbeats 4000000
namespace PL
open PySem L2 PyProof.Rows
variable [Tabl]
section
variable {P : Program} {w : World} {K : PySem.W.Frag} {mg : PySem.Str → Option Value} {base : Heap} {k n : Nat} {f : Addr} {fd : FuncData} {ps : List PySem.Str} {sp : Sp}
theorem fnR_of (F : FnOk P w K mg base (L2.CX P w) k f fd ps sp) (hb : Binds K fd ps []) : FnR P w K mg base (L2.CX P w) k f sp :=
  (fnR_def F hb .nil).imp fun vs H Q E h => by rw [List.append_nil]; exact h
theorem imp_spOf {fs fs' : FS} (F : FnR P w K mg base (L2.CX P w) k f (spOf K n fs)) (h : ∀ ds kd kx, fs' ds kd kx → fs ds kd kx) : FnR P w K mg base (L2.CX P w) k f (spOf K n fs') :=
  F.imp fun vs H Q E ⟨G, ds, kd, kx, a, b, c, d, e⟩ => ⟨G, ds, kd, kx, a, b, c, h _ _ _ d, e⟩
theorem imp_spOi {fs fs' : FSo} (F : FnR P w K mg base (L2.CX P w) k f (spOi K n fs)) (h : ∀ ds kd kx, fs' ds kd kx → fs ds kd kx) : FnR P w K mg base (L2.CX P w) k f (spOi K n fs') :=
  F.imp fun vs H Q E ⟨G, ds, kd, kx, p, dx, C, fs0, fvs, a1, a2, a3, a4, a5, a6, a7, a8, a9, a10, a11, a12, a13⟩ => ⟨G, ds, kd, kx, p, dx, C, fs0, fvs, a1, a2, a3, a4, a5, a6, a7, a8, a9, a10, a11, h _ _ _ a12, a13⟩
end
section
variable {P : Program} {w : World} {K : PySem.W.Frag} {mg : PySem.Str → Option Value} {base : Heap}
theorem fn_okD {x qual : PySem.Str} {st : Stmt} {f : Addr} {fd : FuncData} {N ps : List PySem.Str} {k n : Nat} {fs : FS} {dvs : List V} {kws : List (PySem.Str × V)} (F : FunD K x qual (defArgs st) (defBody st) (defScope st) dvs kws f fd) (S : FnScope N ps (defScope st)) (hn : ps.length = n)
    (body : ∀ (cdv : Value) (A : Around) (outer : List Env) (s : Shared) (H : Hp) (E : XK), Room k (A.deeper (PyProof.Rows.envOfC qual (defScope st) s.heap.objs.size f cdv)) →
      ∃ t, PSS (cxOf (L2.CX P w) P w K mg base N qual (defScope st) f cdv A outer s H E) (fun cls d _ H => E cls d H) (defBody st) t ∧ ∀ ds kd kx, ds.length = n → fs ds kd kx → t (fEnds kd kx) (ga0 N.length ds)) :
    FnOk P w K mg base (L2.CX P w) (k + 1) f fd ps (spOf K n fs) := by
  refine F.ok S (fun vs H Q E h => ?_) (fun cdv A outer s H vs Q E hr h => ?_)
  · obtain ⟨G, ds, kd, kx, _, b, c, _⟩ := h
    rw [b.length, c, hn]
  · obtain ⟨G, ds, kd, kx, sb, r, hl, hf, hk, hx⟩ := h
    obtain ⟨t, ⟨ts, ps, rd⟩, ht⟩ := body cdv A outer s H E hr
    refine ⟨ts, ps, rd G H (ga0 N.length ds) (L2.start N vs) G H (fEnds kd kx) _ (fr0 sb r) (ht ds kd kx hl hf) ⟨?_, ?_, ?_, ?_, ?_⟩⟩
    · intro Γ σ G' H' q F'
      exact hk .non .non G' H' q F'.e .non
    · intro Γ σ G' H' q
      exact q.elim
    · intro Γ σ G' H' q
      exact q.elim
    · intro d v Γ σ G' H' q F' n
      exact hk d v G' H' q F'.e n
    · intro x cls dA Γ σ G' H' q F' n
      exact hx x cls dA G' H' q F'.e n
end
end PL
set_option Elab.async false
set_option linter.all false
set_option maxRecDepth 100000
set_option maxHeartbeats 4000000
namespace PL
open PySem L2 PyProof.Rows
variable [Tabl]
def tsAsgG (t : TP) (g : TGp) : TSp := fun P Γ => t Γ (fun d => g d Γ fun Γ' => P.nx Γ') (fun x => P.xx x Γ)
section
variable {X : Cx} {W : WX} {e tg : Expr} {t : TP} {gp : TGp} {is : List Nat} {pos : Pos}
theorem s_asgG (h : PP X W e t) (hg : PGt X tg is gp) (hs : swapsWithSole [tg] e pos.line X.env = pure false := by rfl) (hw : swappedStores [tg] e X.env = pure none := by rfl)
    (h1 : (assignEach [tg] X.env).map (·.2) = [assign tg X.env] := by rfl) : PS1 X W (.Assign [tg] e pos) (tsAsgG t gp) := by
  obtain ⟨ea, pa, ra⟩ := h.ex
  obtain ⟨g, pg, rg⟩ := hg.ex
  refine ⟨_, ps_asg pa pg hs hw h1, fun G0 H0 Γ σ G H P E F ht ok => ?_⟩
  refine ra G0 H0 Γ σ G H _ _ _ F ht (fun d v G1 H1 k1 x1 n1 => ?_) (ok.x F)
  exact rg G0 H0 Γ σ G1 H1 d v _ _ (F.up x1) n1 k1 fun Γ' σ' k' F' _ => ok.nx Γ' σ' G1 H1 k' F'
end
end PL
set_option Elab.async false
set_option linter.all false
set_option maxRecDepth 100000
set_option maxHeartbeats 4000000
namespace PL
open PySem L2 PyProof.Rows
end PL
set_option Elab.async false
set_option linter.all false
set_option maxRecDepth 100000
set_option maxHeartbeats 4000000
namespace PL
open PySem PySem.Spec L2 PyProof.Rows
end PL
set_option Elab.async false
set_option linter.all false
set_option maxRecDepth 100000
set_option maxHeartbeats 4000000
namespace PL
open PySem L2 PyProof.Rows
end PL
set_option Elab.async false
set_option linter.all false
set_option maxRecDepth 100000
set_option maxHeartbeats 4000000
namespace PL
open PySem L2 PyProof.Rows
end PL
set_option Elab.async false
set_option linter.all false
set_option maxRecDepth 100000
set_option maxHeartbeats 4000000
namespace PL
open PySem L2
end PL
set_option Elab.async false
set_option linter.all false
set_option maxRecDepth 100000
set_option maxHeartbeats 4000000
namespace PL
open PySem L2
variable [Tabl]
/-- a pair as data -/
def pd (p : Int × Int) : D := .tup [.int p.1, .int p.2]
/-- a pair's tuple -/
def lp (p : Int × Int) : List Int := [p.1, p.2]
def up2 (l : List Int) : Int × Int := (l.getD 0 0, l.getD 1 0)
end PL
set_option Elab.async false
set_option linter.all false
set_option maxRecDepth 100000
set_option maxHeartbeats 4000000
namespace PL
open PySem L2 PySem.W PySem.Calls
end PL
set_option Elab.async false
set_option linter.all false
set_option maxRecDepth 100000
set_option maxHeartbeats 4000000
namespace PL
open PySem L2 PyProof.Rows
variable [Tabl]
def fList : F1
  | .lst xs, k => k (.lst xs)
  | .tup xs, k => k (.lst xs)
  | _, _ => False
def rListOf (K : PySem.W.Frag) : List V → Hp → VK → Prop := fun xs H Q => ∃ p ys, xs = [.ref p] ∧ (SqL K H p ys ∨ SqT K H p ys) ∧ ∀ l, H l = none → Q (.ref l) (upd H l (.lst ys))
section
variable {X : Cx} {W : WX} {a e : Expr} {t : TP} {pos p q : Pos} {x : PySem.Str}
theorem c_list : CallR X (.type "list") (rListOf X.K) ∧ RdC1 X.K (rListOf X.K) fList := by
  refine ⟨call_list_of, fun H0 G H v d k Q s n h hk => ?_⟩
  cases d with
  | lst xs =>
    obtain ⟨a, ys, rfl, h1, r1⟩ := n.lst s
    refine ⟨a, ys, rfl, .inl (SqL.of h1), fun l hl => ?_⟩
    have ex := Ext.new (o := .lst ys) s hl
    exact hk _ _ _ _ h ex (.lst upd_same (r1.up ex.g))
  | tup xs =>
    rcases n with n | ⟨p, e, g, r⟩
    · cases n with
      | @tup a vs _ h1 h2 =>
        refine ⟨a, vs, rfl, .inr (s.sqt h1), fun l hl => ?_⟩
        have ex := Ext.new (o := .lst vs) s hl
        exact hk _ _ _ _ h ex (.lst upd_same (h2.up ex.g))
    · exact r.elim
  | _ => exact h.elim
end
end PL
set_option Elab.async false
set_option linter.all false
set_option maxRecDepth 100000
set_option maxHeartbeats 4000000
namespace PL
open PySem L2 PyProof.Rows
end PL
set_option Elab.async false
set_option linter.all false
set_option maxRecDepth 100000
set_option maxHeartbeats 4000000
namespace PL
open PySem L2 PyProof.Rows
variable [Tabl]
/-- any number of values -/
def spOfV (K : PySem.W.Frag) (fs : FS) : Sp := fun vs H Q E => ∃ G ds k kx, Sub G H ∧ DenL K G vs ds ∧ fs ds k kx ∧ (∀ d v G' H', k d → Ext G H G' H' → Den K G' v d → Q v H') ∧
  (∀ x cls dA G' H', kx x → Ext G H G' H' → XDen K G' H' cls dA x → E cls dA H')
section
variable {P : Program} {w : World} {K : PySem.W.Frag} {mg : PySem.Str → Option Value} {base : Heap}
/-- a method that takes any number of values -/
structure MtV (P : Program) (w : World) (K : PySem.W.Frag) (mg : PySem.Str → Option Value) (base : Heap) (C : Addr) (m : PySem.Str) (k : Nat) (fs : FS) : Prop where
  c : Cls K C
  ex : ∃ f, Meth K C m f ∧ FnR P w K mg base (L2.CX P w) k f (spOfV K fs)
theorem MtV.at {C : Addr} {m : PySem.Str} {k : Nat} {fs : FS} (M : MtV P w K mg base C m k fs) (n : Nat) : Mt P w K mg base C m k n fs := by
  obtain ⟨f, h1, h2⟩ := M.ex
  exact ⟨M.c, f, h1, h2.imp fun vs H Q E ⟨G, ds, kd, kx, a, b, _, d, e⟩ => ⟨G, ds, kd, kx, a, b, d, e⟩⟩
end
end PL
set_option Elab.async false
set_option linter.all false
set_option maxRecDepth 100000
set_option maxHeartbeats 4000000
namespace PL
open PySem L2 PyProof.Rows
def iSq (K : PySem.W.Frag) (te : TE) : TI := fun σ H R => te σ H fun v H1 => (∃ a, v = .ref a ∧ (∃ xs, SqL K H1 a xs) ∧ R (Itl K a) H1) ∨ (∃ a, v = .ref a ∧ (∃ xs, SqT K H1 a xs) ∧ R (Itt K a) H1) ∨ (∃ x, v = .str x ∧ R (Its x) H1)
theorem pi_sq {X : Cx} {tg e : Expr} {te : TE} (he : PE X e te) : PI X tg e (iSq X.K te) := by
  refine ⟨fun pins s σ H R I h => ?_⟩
  refine thn (he.run pins s σ H _ I h) fun v s1 ⟨x, H1, I1, r1, q1⟩ => ?_
  rcases q1 with ⟨a, e, ⟨xs, hq⟩, q⟩ | ⟨a, e, ⟨xs, hq⟩, q⟩ | ⟨x, e, q⟩
  · subst e
    cases r1
    obtain ⟨its, rv, p, hz⟩ := I1.list hq
    refine wpAny_pyIter_list p.isList ?_
    exact pi_one (tk := s1.toks) I1 _ (turn_list a _) ⟨_, Heap.get?_push_size _ rfl, rfl, rfl⟩ q
  · subst e
    cases r1
    obtain ⟨its, rv, p, hz⟩ := I1.tuple hq
    refine wpAny_pyIter_tuple (show s1.heap.IsTuple a its.toArray from p) ?_
    exact pi_one (tk := s1.toks) I1 _ (turn_tuple a _) ⟨_, Heap.get?_push_size _ rfl, rfl, rfl⟩ q
  · subst e
    obtain ⟨t, rfl⟩ := r1
    cases ha : x.cps.all (· < 128)
    · exact wpAny_pyIter_wide ha (pi_one (tk := s1.toks) I1 _ (turn_str _ x t "str_iterator" (.inr rfl)) ⟨_, Heap.get?_push_size _ rfl, rfl, rfl⟩ q)
    · exact wpAny_pyIter_ascii ha (pi_one (tk := s1.toks) I1 _ (turn_str _ x t "str_ascii_iterator" (.inl rfl)) ⟨_, Heap.get?_push_size _ rfl, rfl, rfl⟩ q)
variable [Tabl]
section
variable {X : Cx} {W : WX} {e a : Expr} {t : TP} {p pos : Pos} {x : PySem.Str}
def tiSq (t : TP) : TL := fun Γ k kx => t Γ (fun d => match d with | .lst xs => k xs | .tup xs => k xs | .str s => k (s.map fun c => .str [c]) | _ => False) kx
theorem i_sq {tg : Expr} (h : PP X W e t) : PIt X W tg e (tiSq t) := by
  obtain ⟨ea, pa, ra⟩ := h.ex
  refine ⟨_, pi_sq pa, fun G0 H0 Γ σ G H k kx R F ht hk hx => ?_⟩
  refine ra G0 H0 Γ σ G H _ kx _ F ht (fun d v G1 H1 k1 x1 n1 => ?_) hx
  cases d with
  | lst xs =>
    cases n1 with
    | @lst a vs _ h1 h2 =>
      refine .inl ⟨a, rfl, ⟨vs, SqL.of (x1.sub.at_ h1 (fun z => z))⟩, hk xs _ G1 H1 k1 x1 ⟨fun i G2 H2 hi s2 sb => ?_, fun i G2 H2 v H3 hi s2 sb y => ?_, fun G2 H2 s2 sb => ?_⟩⟩
      · have q := sb.at_ (s2 _ _ h1) (fun z => z)
        obtain ⟨v, hv, _⟩ := h2.get (List.getElem?_eq_getElem hi)
        exact ⟨vs, v, SqL.of q, hv⟩
      · have q := sb.at_ (s2 _ _ h1) (fun z => z)
        obtain ⟨rfl, y⟩ := y
        obtain ⟨d, hd, n⟩ := h2.gv (y vs (SqL.of q))
        exact ⟨d, G2, hd, Ext.refl sb, n.up s2⟩
      · have q := sb.at_ (s2 _ _ h1) (fun z => z)
        exact ⟨vs, SqL.of q, by rw [h2.length]; exact Nat.le_refl _⟩
  | tup xs =>
    cases n1 with
    | @tup a vs _ h1 h2 =>
      refine .inr (.inl ⟨a, rfl, ⟨vs, x1.sub.sqt h1⟩, hk xs _ G1 H1 k1 x1 ⟨fun i G2 H2 hi s2 sb => ?_, fun i G2 H2 v H3 hi s2 sb y => ?_, fun G2 H2 s2 sb => ?_⟩⟩)
      · have q := sb.sqt (sqt_same s2 h1)
        obtain ⟨v, hv, _⟩ := h2.get (List.getElem?_eq_getElem hi)
        exact ⟨vs, v, q, hv⟩
      · have q := sb.sqt (sqt_same s2 h1)
        obtain ⟨rfl, y⟩ := y
        obtain ⟨d, hd, n⟩ := h2.gv (y vs q)
        exact ⟨d, G2, hd, Ext.refl sb, n.up s2⟩
      · have q := sb.sqt (sqt_same s2 h1)
        exact ⟨vs, q, by rw [h2.length]; exact Nat.le_refl _⟩
  | str s =>
    cases n1
    refine .inr (.inr ⟨SS s, rfl, hk _ _ G1 H1 k1 x1 ⟨fun i G2 H2 hi s2 sb => ?_, fun i G2 H2 v H3 hi s2 sb y => ?_, fun G2 H2 s2 sb => ?_⟩⟩)
    · show i < (SS s).cps.size
      rw [List.length_map] at hi
      simpa [SS] using hi
    · obtain ⟨rfl, c, hc, rfl⟩ := y
      have hc : s[i]? = some c := by simpa [SS] using hc
      exact ⟨.str [c], G2, by rw [List.getElem?_map, hc]; rfl, Ext.refl sb, .str [c]⟩
    · show (SS s).cps.size ≤ _
      rw [List.length_map]
      simp [SS]
  | _ => exact k1.elim
end
end PL
set_option Elab.async false
set_option linter.all false
set_option maxRecDepth 100000
set_option maxHeartbeats 4000000
namespace PySem
open Builtin PySem.Spec PyProof.Rows
theorem list_repr_headA {M : Model} {A : Around} {E : Value → Shared → Prop} {s : Shared} {Q : Fin → Shared → Prop} {a : Addr} {o : Obj} {x : Value} {l : List Value} {n : Nat} {b : Nat}
    (hget : s.heap.get? a = some o) (hd : o.data = .seq (x :: l).toArray n)
    (h0 : wpAny M A (do rule "list.__repr__.in-itself"; return ← retStr "[...]") Q E s)
    (h : wpAny M A (do again (.builtin "list.__repr__.loop" ⟨[.ref a, rawInt 0, ← newList [], rawInt b], []⟩)) Q E s) : wpAny M A (Builtin.listReprAt b ⟨[.ref a], []⟩) Q E s := by
  intro Γ p hΓ
  have h1 := h Γ p hΓ
  have h2 := h0 Γ p hΓ
  unfold Builtin.listReprAt
  simp [slotArgs, List.listItems, seqItems?, Sem.wp_load_of (h := hget), hd, stack]
  show Sem.wp M Γ (if (Γ.below.any _) = true then _ else _) _ _ p s
  split
  · exact h2
  · exact h1
section
variable {prog : Program} {w : World} {A : Around} {E : Value → Shared → Prop} {s : Shared} {a : Addr} {o : Obj} {y : PySem.Str} {ty : Tok} {n : Nat} {Q : Value → Shared → Prop}
theorem call_list_repr1 (ha : s.heap.get? a = some o) (hc : o.cls = .type "list") (hd : o.data = .seq #[.str y ty] n) (hsz : (reprText y).length + 10 ≤ sizeLine)
    (h : ∀ (m : PySem.Str) (h' : Heap) (u tk : Tok), m.length ≤ (reprText y).length + 10 → (∀ b o, s.heap.get? b = some o → h'.get? b = some o) → Q (.str m u) { s with heap := h', toks := tk }) :
    wpAny (model prog w) A (call (.builtin "list.__repr__") [.ref a]) Q E s := by
  have hl : (listText [reprText y]).length ≤ (reprText y).length + 10 := by
    show ((("[" : PySem.Str) ++ (if (0 : Nat) > 0 then ", " else "" : String) ++ reprText y) ++ "]").length ≤ _
    rw [strLen_append, strLen_append, strLen_append, if_neg (by decide)]
    have e1 : ((("[" : String) : PySem.Str)).length = 1 := rfl
    have e2 : ((("]" : String) : PySem.Str)).length = 1 := rfl
    have e3 : ((("" : String) : PySem.Str)).length = 0 := rfl
    omega
  refine wpAny_call (codeAny_call_builtin F.slot_list_repr.plain F.entry_list_repr (F.slot_list_repr.check _ _ _ _ _ _ _ _ ⟨o, ha, hc⟩ (F.args_list_repr_1 _) ?_))
  refine list_repr_headA (x := .str y ty) (l := []) ha hd ?_ ?_
  · refine wpAny_bind (wpAny_rule ?_)
    refine wpAny_bind (wpAny_mkStr (x := "[...]") (wpAny_pure ?_) (by decide +kernel))
    exact h "[...]" s.heap _ _ (Nat.le_trans (by decide +kernel : (("[...]" : String) : PySem.Str).length ≤ 10) (Nat.le_add_left _ _)) fun _ _ e => e
  · refine wpAny_bind (m := newList []) (wpAny_newObj_type ?_)
    refine wpAny_pure ⟨F.quiet_list_repr_loop _, ?_⟩
    refine codeAny_list_repr_start (P := s.heap.objs.size) (ts := [reprText y]) (items := #[.str y ty]) (Nat.ne_of_lt (Heap.lt_size ha)) rfl (fun i x hx => ?_) (Heap.get?_push_of_some _ ha) hd (Heap.get?_push_size _ rfl) (fun h' u tk hk => ?_) (by omega)
    · cases i with
      | zero =>
        cases hx
        exact ⟨_, rfl, ReprIs.str y ty (by omega)⟩
      | succ i => simp at hx
    · exact h _ h' u tk hl fun b o e => hk b o (Nat.ne_of_lt (Heap.lt_size e)) (Heap.get?_push_of_some _ e)
theorem str_list1 (hu : A.units + 5 < cLine) (ha : s.heap.get? a = some o) (hc : o.cls = .type "list") (hd : o.data = .seq #[.str y ty] n) (hsz : (reprText y).length + 10 ≤ sizeLine)
    (h : ∀ (m : PySem.Str) (h' : Heap) (u tk : Tok), m.length ≤ (reprText y).length + 10 → (∀ b o, s.heap.get? b = some o → h'.get? b = some o) → Q (.str m u) { s with heap := h', toks := tk }) :
    wpAny (model prog w) A (call (.type "str") [.ref a]) Q E s :=
  callType_new F.called_str (by decide) (F.typeCall_str_1 _) (F.newCall_str_1 _) (fun obj => F.args_object_init_2 obj _) F.entry_str_new
    (meets_str_new (S := fun A' R s' => A'.units + 4 < cLine ∧ s'.heap.get? a = some o ∧
        ∀ (m : PySem.Str) (h' : Heap) (u tk : Tok), m.length ≤ (reprText y).length + 10 → (∀ b o, s'.heap.get? b = some o → h'.get? b = some o) → R (.ok (.ret (.str m u))) { s' with heap := h', toks := tk })
      fun prog' w' A' R s' h => wpAny_strOf_slot (A := A'.in1) rfl (by show A'.units + 1 + 1 < cLine; have := h.1; omega) ⟨o, h.2.1, hc⟩ F.slot_list_str F.slot_list_repr.toG
        (call_list_repr1 h.2.1 hc hd hsz fun m h' u tk hm hk => ⟨m, u, rfl, h.2.2 m h' u tk hm hk⟩))
    ⟨by show A.units + 1 + 4 < cLine; omega, ha, fun m h' u tk hm hk => ⟨typeIs_str _ _ _, h m h' u tk hm hk⟩⟩
end
end PySem
namespace PL
open PySem PySem.Spec PyProof.Rows L2
def rStrAny (K : PySem.W.Frag) : List V → Hp → VK → Prop := fun xs H Q => (∃ y, xs = [.str y] ∧ Q (.str y) H) ∨ (xs = [.non] ∧ Q (.str "None") H) ∨ (∃ i, xs = [.int i] ∧ i.natAbs.log2 < 1920 ∧ Q (.str (toString i)) H) ∨
  (∃ a y, xs = [.ref a] ∧ SqL K H a [.str y] ∧ (∀ c ∈ y.cps.toList, c < 16 ^ 8) ∧ 10 * y.length + 20 ≤ sizeLine ∧ ∀ m : PySem.Str, m.length ≤ 10 * y.length + 20 → Q (.str m) H)
theorem call_str_any {X : Cx} {k : Nat} (hr : Room k X.A) : CallR X (.type "str") (rStrAny X.K) := by
  intro pins s σ H xs us Q I r h
  rcases h with ⟨y, rfl, q⟩ | ⟨rfl, q⟩ | ⟨i, rfl, hz, q⟩ | ⟨a, y, rfl, hs, hc, hz, q⟩
  · obtain ⟨u, rfl, t, rfl⟩ := vals1 r
    exact PySem.P.str_of_str ⟨.str y, H, I, ⟨t, rfl⟩, q⟩
  · obtain ⟨u, rfl, r1⟩ := vals1 r
    cases r1
    exact PySem.P.str_of_none ⟨.str _, H, I.tok _, ⟨_, rfl⟩, q⟩
  · obtain ⟨u, rfl, t, rfl⟩ := vals1 r
    exact PySem.P.str_of_int hz ⟨.str _, H, I.tok _, ⟨_, rfl⟩, q⟩
  · obtain ⟨u, rfl, r1⟩ := vals1 r
    cases r1
    obtain ⟨its, rv, pl, _⟩ := I.list hs
    obtain ⟨u, rfl, t, rfl⟩ := vals1 rv
    obtain ⟨o, n, ho, hcl, _, hd⟩ := pl
    have h1 := StrLaws.reprText_len y hc
    have hu := hr.units
    exact str_list1 (by omega) ho hcl hd (by omega) fun m h' u tk hm hk => ⟨.str m, H, I.kept hk, ⟨u, rfl⟩, q m (by omega)⟩
variable [Tabl]
def fStrAny : F1
  | .str s, k => k (.str s)
  | .non, k => k (.str [78, 111, 110, 101])
  | .int i, k => i.natAbs.log2 < 1920 ∧ k (.str (toString i : PySem.Str).cps.toList)
  | .lst [.str y], k => (∀ c ∈ y, c < 16 ^ 8) ∧ 10 * y.length + 20 ≤ sizeLine ∧ ∀ s : List Nat, s.length ≤ 10 * y.length + 20 → k (.str s)
  | _, _ => False
theorem ss_of (m : PySem.Str) : SS m.cps.toList = m := by
  unfold SS
  simp
theorem c_strAny {X : Cx} {k : Nat} (hr : Room k X.A) : CallR X (.type "str") (rStrAny X.K) ∧ RdC1 X.K (rStrAny X.K) fStrAny := by
  refine ⟨call_str_any hr, fun H0 G H v d k Q s n h hk => ?_⟩
  cases d with
  | str l =>
    cases n.str
    exact .inl ⟨SS l, rfl, hk _ _ _ _ h (Ext.refl s) (.str l)⟩
  | non => 
    have e : v = V.non := by
      rcases n with n | n
      · cases n; rfl
      · exact nomatch n
    exact .inr (.inl ⟨by rw [e], hk _ _ _ _ h (Ext.refl s) (.str _)⟩)
  | int i => 
    have e : v = V.int i := by
      rcases n with n | n
      · cases n; rfl
      · exact nomatch n
    refine .inr (.inr (.inl ⟨i, by rw [e], h.1, ?_⟩))
    have := hk _ _ _ _ h.2 (Ext.refl s) (.str _)
    rwa [ss_of] at this
  | lst xs =>
    match xs, h, n with
    | [.str y], h, n =>
      obtain ⟨a, vs, rfl, ha, hv⟩ := n.lst s
      cases hv with
      | cons h1 h2 =>
        cases h2
        cases h1
        obtain ⟨h1, h2, h3⟩ := h
        refine .inr (.inr (.inr ⟨a, SS y, rfl, SqL.of ha, ?_, ?_, fun m hm => ?_⟩))
        · intro c hc
          exact h1 c (by simpa [SS] using hc)
        · rw [ss_length]; exact h2
        · rw [ss_length] at hm
          have := hk _ _ _ _ (h3 m.cps.toList (by simpa [PySem.Str.length] using hm)) (Ext.refl s) (.str _)
          rwa [ss_of] at this
  | _ => exact h.elim
theorem p_strAny {X : Cx} {W : WX} {e : Expr} {t : TP} {k : Nat} {p pos : Pos} (hr : Room k X.A) (hm : X.mg "str" = none) (he : PU X W e t) (hg : Gl X "str" := by rfl)
    (h1 : starEach (e :: []) X.env = (false, eval e X.env) :: starEach [] X.env := by rfl) (h2 : (backTo pos (starEach [] X.env)).any (·.1) = false := by rfl) : PP X W (.Call (.Name "str" p) [e] [] pos) (tp1 fStrAny t) :=
  p_t1 (c_strAny hr) hm (by decide +kernel) he hg (by decide) (by decide) h1 h2
end PL
set_option Elab.async false
set_option linter.all false
set_option maxRecDepth 100000
set_option maxHeartbeats 4000000
namespace PL
open PySem L2 PyProof.Rows
variable [Tabl]
section
variable {X : Cx} {W : WX} {e : Expr} {t : TP} {tl : TL} {pos : Pos}
def tiEnumL (t : TP) : TL := fun Γ k kx => t Γ (fun d => match d with | .lst s => k (pairsD 0 s) | _ => False) kx
theorem i_enumL {p pos tpos : Pos} {elts : List Expr} {kk : Nat} (hm : X.mg "enumerate" = none) (h : PP X W e t) (hg : Gl X "enumerate" := by rfl) (hs : starEach [e] X.env = [(false, eval e X.env)] := by rfl) :
    PIt X W (.Tuple elts kk tpos) (.Call (.Name "enumerate" p) [e] [] pos) (tiEnumL t) := by
  obtain ⟨ea, pa, ra⟩ := h.ex
  refine ⟨_, pi_enum hg hm (pa_cons pa pa_nil hs) hs, fun G0 H0 Γ σ G H k kx R F ht hk hx => ?_⟩
  refine ra G0 H0 Γ σ G H _ kx _ F ht (fun d v G1 H1 k1 x1 n1 => ?_) hx
  cases d with
  | lst ds =>
    cases n1 with
    | @lst a vs _ h1 h2 =>
      refine ⟨a, vs, rfl, SqL.of (x1.sub.at_ h1 (fun z => z)), hk _ _ _ _ k1 x1 ⟨fun i G2 H2 hi s2 sb => ?_, fun i G2 H2 v H3 hi s2 sb y => ?_, fun G2 H2 s2 sb => ?_⟩⟩
      · rw [pairsD_length] at hi
        have q := sb.at_ (s2 _ _ h1) (fun z => z)
        obtain ⟨v, hv, _⟩ := h2.get (List.getElem?_eq_getElem hi)
        exact ⟨vs, v, SqL.of q, hv⟩
      · obtain ⟨T, x, rfl, hT, rfl, hx⟩ := y
        have q := sb.at_ (s2 _ _ h1) (fun z => z)
        obtain ⟨d, hd, n⟩ := h2.gv (hx vs (SqL.of q))
        have := pairsD_get ds 0 i d hd
        rw [Nat.zero_add] at this
        have ex := Ext.new (o := .tup [.int (i : Nat), x]) sb hT
        exact ⟨_, _, this, ex, .tup (SqT.of upd_same) (.cons (.int _) (.cons ((n.up s2).up ex.g) .nil))⟩
      · have q := sb.at_ (s2 _ _ h1) (fun z => z)
        refine ⟨vs, SqL.of q, ?_⟩
        rw [pairsD_length, h2.length]
        exact Nat.le_refl _
  | _ => exact k1.elim
end
end PL
set_option Elab.async false
set_option linter.all false
set_option maxRecDepth 100000
set_option maxHeartbeats 4000000
namespace PL
open PySem L2 PyProof.Rows
/-- a lambda: without parameters, or with one that has a default (never given, never read) -/
inductive LS where
  | n (params : Arguments) (body : Expr) (scope : Scope)
  | d (params : Arguments) (body : Expr) (scope : Scope) (y : PySem.Str)
def FunO (q : PySem.Str) (params : Arguments) (body : Expr) (scope : Scope) (cl : List (PySem.Str × Addr)) (f c : Addr) : HO :=
  .ext fun h => ∃ pm ctv, h.get? f = some (PySem.W.kla_obj "<lambda>" q params body scope cl pm c ctv)
def FunD (q : PySem.Str) (params : Arguments) (body : Expr) (scope : Scope) (cl : List (PySem.Str × Addr)) (f c T : Addr) : HO :=
  .ext fun h => ∃ pm ctv, h.get? f = some { cls := .type "function", data := .func (lamFd q params body scope cl pm (.ref c) ctv (.ref T)) }
def TupO (T : Addr) : HO := .ext fun h => ∃ u, h.get? T = some { cls := .type "tuple", data := .seq #[u] }
def FunAt (X : Cx) (G : Hp) (f c : Addr) : LS → Prop
  | .n params body scope => G f = some (FunO (X.env.qual ++ "<lambda>") params body scope (cloFrom X.env.cells scope.names []) f c)
  | .d params body scope y => ∃ T, G f = some (FunD (X.env.qual ++ "<lambda>") params body scope (cloFrom X.env.cells scope.names []) f c T) ∧ G T = some (TupO T)
theorem FunAt.up {X : Cx} {G G' : Hp} {f c : Addr} {sp : LS} (h : FunAt X G f c sp) (e : Same G G') : FunAt X G' f c sp := by
  cases sp with
  | n params body scope => exact e _ _ h
  | d params body scope y => obtain ⟨T, h1, h2⟩ := h; exact ⟨T, e _ _ h1, e _ _ h2⟩
theorem notLikeD {φ : Heap → Prop} : ¬ LikeD (.ext φ) := fun z => z
theorem fix_code (c : Addr) (q : PySem.Str) : FixO (LamX.CodeO c q) := ⟨fun z => z, fun _ z => (by unfold LamX.CodeO at z; cases z), fun _ z => (by unfold LamX.CodeO at z; cases z)⟩
variable [Tabl]
/-- wish: what follows, the function at f (its defaults at T) new and known -/
def teLam (X : Cx) : LS → TE
  | .n params body scope => fun _ H Q => ∀ f c H1, Up H H1 → H1 f = none → H1 c = some (LamX.CodeO c (X.env.qual ++ "<lambda>")) → Q (.ref f) (upd H1 f (FunO (X.env.qual ++ "<lambda>") params body scope (cloFrom X.env.cells scope.names []) f c))
  | .d params body scope y => fun _ H Q => ∀ f c T H1, H T = none → Up (upd H T (TupO T)) H1 → H1 f = none → H1 c = some (LamX.CodeO c (X.env.qual ++ "<lambda>")) → Q (.ref f) (upd H1 f (FunD (X.env.qual ++ "<lambda>") params body scope (cloFrom X.env.cells scope.names []) f c T))
def tLamT (X : Cx) (sp : LS) : TE := fun σ H Q => LamX.Tabs Tabl.T H ∧ teLam X sp σ H Q
section
variable {X : Cx} {c P : Addr} {params : Arguments} {body e0 : Expr} {scope : Scope} {pos : Pos} {v0 : V} {y : PySem.Str}
theorem pe_lamN (TB : LamX.TabB X.base X.mg c P) (hcode : X.env.code = .ref c) (hm : (P, X.env.qual ++ "<lambda>") ∈ Tabl.T) (hdef : defaultsOf params X.env = ([], [])) (L : LamX.LamS X.env.scope scope) :
    PE X (.Lambda params body scope pos) (tLamT X (.n params body scope)) := by
  refine ⟨fun pins s σ H Q I ⟨hT, h⟩ => ?_⟩
  have hfree := L.has I.ok
  obtain ⟨ps, hP, ht, ha⟩ := hT _ hm
  have gP : s.heap.get? P = some { cls := .none, data := .fields ps } := I.hok P _ hP
  refine PySem.W.kla_eval hdef ?_
  cases hc : codeAmong pos ps.toList with
  | some cv =>
    obtain ⟨c', rfl, hco⟩ := ha pos cv hc
    refine PySem.W.kla_makeFunctionHit (mg := X.mg) (c := c) (P := P) (ps := ps) (closure_ok hfree) I.ok.glob (I.mod.glob.keeps I.bk) hcode (TB.code.keeps I.bk) gP ht hc (TB.bm.keeps I.bk) fun ctv h' tk hx hsz => ?_
    refine ⟨.ref h'.objs.size, _, I.laid (t' := tk) (fun b o e => Heap.get?_push_of_some _ (hx b o e)) hsz ?_, rfl, h h'.objs.size c' H (Up.refl H) (I.hok.fresh hsz) hco⟩
    exact ⟨⟨_, ctv, Heap.get?_push_size _ rfl⟩, ⟨_, Heap.get?_push_size _ rfl⟩, fun h1 h2 ⟨pm, ct, e⟩ st => ⟨pm, ct, st _ e⟩⟩
  | none =>
    refine PySem.W.kla_makeFunction (mg := X.mg) (c := c) (P := P) (ps := ps) (closure_ok hfree) I.ok.glob (I.mod.glob.keeps I.bk) hcode (TB.code.keeps I.bk) gP ht hc TB.gP (TB.bm.keeps I.bk) fun c' ctv h' tk hx hge hlt hrec htb => ?_
    obtain ⟨_, oc, vs, t, e2, hoc, hd, hv⟩ := hrec
    cases e2
    have J : Inv X pins σ (tabbed H P c' ps pos (X.env.qual ++ "<lambda>")) { s with heap := h', toks := tk } := LamX.inv_table (t' := tk) I hP (fun b o hb e => hx b o hb e) htb hge ⟨oc, vs, t, hoc, hd, hv⟩
    refine ⟨.ref h'.objs.size, _, J.laid (t' := tk) (fun b o e => Heap.get?_push_of_some _ e) (Nat.le_refl _) ?_, rfl, h h'.objs.size c' _ (up_tabbed hm hP (I.hok.fresh hge)) (J.hok.fresh (Nat.le_refl _)) (by unfold tabbed; exact upd_same)⟩
    exact ⟨⟨_, ctv, Heap.get?_push_size _ rfl⟩, ⟨_, Heap.get?_push_size _ rfl⟩, fun h1 h2 ⟨pm, ct, e⟩ st => ⟨pm, ct, st _ e⟩⟩
theorem pe_lamD (TB : LamX.TabB X.base X.mg c P) (hcode : X.env.code = .ref c) (hm : (P, X.env.qual ++ "<lambda>") ∈ Tabl.T) (hdef : defaultsOf params X.env = ([eval e0 X.env], [])) (he0 : PE X e0 (tC v0)) (L : LamSD X.N X.env.scope scope) :
    PE X (.Lambda params body scope pos) (tLamT X (.d params body scope y)) := by
  refine ⟨fun pins s σ H Q I ⟨hT, h⟩ => ?_⟩
  have hfree := L.has I.ok
  rw [arm_eval_Lambda, hdef]
  show wpAny _ _ (do let dv ← evalAll [eval e0 X.env]; let kdv ← holding dv (evalAllOpt []); makeFunction "<lambda>" (X.env.qual ++ "<lambda>") params (.expr body) scope X.env dv kdv [] pos pos.line) _ _ s
  show wpAny _ _ ((do let v ← eval e0 X.env; return v :: (← holding [v] (evalAll []))) >>= _) _ _ s
  refine wpAny_bind (wpAny_bind (wpAny_mono (he0.run pins s σ H (fun v H' => v = v0 ∧ H' = H) I ⟨rfl, rfl⟩) (fun u sa hq => ?_) fun _ _ z => z))
  obtain ⟨_, H2, Ia, _, _, e2⟩ := hq
  rw [e2] at Ia
  refine wpAny_bind (wpAny_holding (wpAny_pure (wpAny_pure (wpAny_bind (wpAny_holding (wpAny_pure ?_))))))
  rw [makeFunction_eq]
  simp only [List.zip_nil_right, List.filterMap_nil, List.isEmpty_nil, if_true, pure_bind]
  rw [if_neg (by exact Bool.false_ne_true)]
  refine wpAny_bind (wpAny_newTextTuple ?_)
  have gT : (sa.heap.push { cls := .type "tuple", data := .seq [u].toArray }).get? sa.heap.objs.size = some { cls := .type "tuple", data := .seq [u].toArray } := Heap.get?_push_size _ rfl
  have fT : H sa.heap.objs.size = none := Ia.hok.fresh (Nat.le_refl sa.heap.objs.size)
  have Ib : Inv X pins σ (upd H sa.heap.objs.size (TupO sa.heap.objs.size)) { sa with heap := sa.heap.push { cls := .type "tuple", data := .seq [u].toArray } } :=
    Ia.laid (t' := sa.toks) (fun b o e => Heap.get?_push_of_some _ e) (Nat.le_refl _) ⟨⟨u, gT⟩, ⟨_, gT⟩, fun h1 h2 ⟨u, e⟩ st => ⟨u, st _ e⟩⟩
  have hT2 : LamX.Tabs Tabl.T (upd H sa.heap.objs.size (TupO sa.heap.objs.size)) := hT.ext (same_upd fT)
  clear gT
  generalize sa.heap.objs.size = T at fT Ib hT2 ⊢
  generalize hsb : ({ sa with heap := sa.heap.push { cls := .type "tuple", data := .seq [u].toArray } } : Shared) = sb at Ib ⊢
  clear hsb
  obtain ⟨ps, hP, ht, ha⟩ := hT2 _ hm
  have gP : sb.heap.get? P = some { cls := .none, data := .fields ps } := Ib.hok P _ hP
  cases hc : codeAmong pos ps.toList with
  | some cv =>
    obtain ⟨c', rfl, hco⟩ := ha pos cv hc
    refine tail_run (mg := X.mg) (P := P) (Post := fun cv s2 => cv = .ref c' ∧ Inv X pins σ (upd H T (TupO T)) s2) (closure_ok hfree) Ib.ok.glob (Ib.mod.glob.keeps Ib.bk) TB.gP (TB.bm.keeps Ib.bk) (fun h1 k1 _ => ?_) (fun cv ctv s2 k hq => ?_)
    · have I1 : Inv X pins σ (upd H T (TupO T)) { sb with heap := h1 } := Ib.kept (t' := sb.toks) k1
      exact wpAny_functionCode_hit hcode (((TB.code.keeps Ib.bk).keeps k1).code (k1 _ _ gP) ht) hc ⟨Heap.ExtBut.refl _ _, rfl, I1⟩
    · obtain ⟨rfl, I2⟩ := hq
      refine ⟨.ref s2.heap.objs.size, _, I2.laid (t' := s2.toks) (fun b o e => Heap.get?_push_of_some _ e) (Nat.le_refl _) ?_, rfl, h _ c' T _ fT (Up.refl _) (I2.hok.fresh (Nat.le_refl _)) hco⟩
      exact ⟨⟨_, ctv, Heap.get?_push_size _ rfl⟩, ⟨_, Heap.get?_push_size _ rfl⟩, fun h1 h2 ⟨pm, ct, e⟩ st => ⟨pm, ct, st _ e⟩⟩
  | none =>
    refine tail_run (mg := X.mg) (P := P) (Post := fun cv s2 => ∃ c', cv = .ref c' ∧ sb.heap.objs.size ≤ c' ∧ c' < s2.heap.objs.size ∧ s2.heap.CodeRec (.ref c') (X.env.qual ++ "<lambda>") ∧ s2.heap.get? P = some (PySem.W.tabObj (ps ++ #[rawInt pos.line, rawInt pos.col, .ref c'])) ∧ ∃ h' tk, s2 = { sb with heap := h', toks := tk }) (closure_ok hfree) Ib.ok.glob (Ib.mod.glob.keeps Ib.bk) TB.gP (TB.bm.keeps Ib.bk) (fun h1 k1 z1 => ?_) (fun cv ctv s2 k hq => ?_)
    · have C1 := (TB.code.keeps Ib.bk).keeps k1
      exact wpAny_functionCodeX hcode (C1.code (k1 _ _ gP) ht) (C1.tab (k1 _ _ gP)) hc fun c' h' tk hx hge hlt _ hrec htb _ => ⟨hx, c', rfl, Nat.le_trans z1 hge, hlt, hrec, htb.2, h', tk, rfl⟩
    · obtain ⟨c', rfl, hge, hlt, hrec, htb, h', tk, rfl⟩ := hq
      obtain ⟨_, oc, vs, t, e2, hoc, hd, hv⟩ := hrec
      cases e2
      have J : Inv X pins σ (tabbed (upd H T (TupO T)) P c' ps pos (X.env.qual ++ "<lambda>")) { sb with heap := h', toks := tk } := LamX.inv_table (t' := tk) (h' := h') Ib hP (fun b o hb e => k b o hb e) htb hge ⟨oc, vs, t, hoc, hd, hv⟩
      refine ⟨.ref h'.objs.size, _, J.laid (t' := tk) (fun b o e => Heap.get?_push_of_some _ e) (Nat.le_refl _) ?_, rfl, h _ c' T _ fT (up_tabbed hm hP (Ib.hok.fresh hge)) (J.hok.fresh (Nat.le_refl _)) (by unfold tabbed; exact upd_same)⟩
      exact ⟨⟨_, ctv, Heap.get?_push_size _ rfl⟩, ⟨_, Heap.get?_push_size _ rfl⟩, fun h1 h2 ⟨pm, ct, e⟩ st => ⟨pm, ct, st _ e⟩⟩
end
theorem nt_ext {φ : Heap → Prop} : NT (.ext φ) := fun _ z => nomatch z
theorem rd_lamT {X : Cx} {sp : LS} {σ : L2.St} {G H : Hp} {Q : VK} (s : Sub G H) (h : ∀ f c G' H', Ext G H G' H' → FunAt X G' f c sp → H' c = some (LamX.CodeO c (X.env.qual ++ "<lambda>")) → Q (.ref f) H') : tLamT X sp σ H Q := by
  refine ⟨s.tb, ?_⟩
  cases sp with
  | n params body scope =>
    intro f c H1 up hf hc
    have s1 := s.up' up
    have x1 : Ext G H G H1 := ⟨up, Same.refl G, fun _ z _ => z, s1⟩
    have ne : c ≠ f := ne_of_none hc hf
    exact h f c _ _ (x1.trans (Ext.new s1 hf nt_ext)) upd_same (by rw [upd_ne ne]; exact hc)
  | d params body scope y =>
    intro f c T H1 hT up hf hc
    have x0 : Ext G H (upd G T (TupO T)) (upd H T (TupO T)) := Ext.new s hT nt_ext
    have s1 := x0.sub.up' up
    have x1 : Ext (upd G T (TupO T)) (upd H T (TupO T)) (upd G T (TupO T)) H1 := ⟨up, Same.refl _, fun _ z _ => z, s1⟩
    have ne : c ≠ f := ne_of_none hc hf
    have nT : T ≠ f := ne_of_none (up.k T _ upd_same nt_ext) hf
    exact h f c _ _ ((x0.trans x1).trans (Ext.new s1 hf nt_ext)) ⟨T, upd_same, by rw [upd_ne nT, upd_same]⟩ (by rw [upd_ne ne]; exact hc)
def FunsAt (X : Cx) (G H : Hp) : List LS → List Addr → List Addr → Prop
  | [], [], [] => True
  | sp :: sps, f :: fs, c :: cs => (FunAt X G f c sp ∧ H c = some (LamX.CodeO c (X.env.qual ++ "<lambda>"))) ∧ FunsAt X G H sps fs cs
  | _, _, _ => False
/-- what is known stays known -/
structure Keep (G H G' H' : Hp) : Prop where
  g : Same G G'
  h : ∀ b o, H b = some o → FixO o → H' b = some o
theorem Keep.of {G H G' H' : Hp} (x : Ext G H G' H') : Keep G H G' H' := ⟨x.g, fun b o e f => x.h.k b o e f.2.1⟩
theorem Keep.trans {G H G1 H1 G2 H2 : Hp} (a : Keep G H G1 H1) (b : Keep G1 H1 G2 H2) : Keep G H G2 H2 := ⟨a.g.trans b.g, fun x o e f => b.h x o (a.h x o e f) f⟩
theorem FunsAt.keep {X : Cx} {G H G' H' : Hp} (k : Keep G H G' H') : ∀ {sps : List LS} {fs cs : List Addr}, FunsAt X G H sps fs cs → FunsAt X G' H' sps fs cs
  | [], [], [], _ => trivial
  | sp :: sps, f :: fs, c :: cs, ⟨⟨h1, h2⟩, h3⟩ => ⟨⟨h1.up k.g, k.h _ _ h2 (fix_code _ _)⟩, FunsAt.keep k h3⟩
theorem FunsAt.len {X : Cx} {G H : Hp} : ∀ {sps : List LS} {fs cs : List Addr}, FunsAt X G H sps fs cs → fs.length = sps.length ∧ cs.length = sps.length
  | [], [], [], _ => ⟨rfl, rfl⟩
  | sp :: sps, f :: fs, c :: cs, ⟨_, h3⟩ => by
    obtain ⟨a, b⟩ := FunsAt.len h3
    exact ⟨by rw [List.length_cons, a]; rfl, by rw [List.length_cons, b]; rfl⟩
theorem FunsAt.app {X : Cx} {G H : Hp} : ∀ {s1 s2 : List LS} {f1 f2 c1 c2 : List Addr}, FunsAt X G H s1 f1 c1 → FunsAt X G H s2 f2 c2 → FunsAt X G H (s1 ++ s2) (f1 ++ f2) (c1 ++ c2)
  | [], _, [], _, [], _, _, h => h
  | _ :: _, _, _ :: _, _, _ :: _, _, ⟨h1, h2⟩, h => ⟨h1, FunsAt.app h2 h⟩
theorem FunsAt.get {X : Cx} {G H : Hp} : ∀ {sps : List LS} {fs cs : List Addr} {j : Nat} {sp : LS}, FunsAt X G H sps fs cs → sps[j]? = some sp → ∃ f c, fs[j]? = some f ∧ cs[j]? = some c ∧ FunAt X G f c sp ∧ H c = some (LamX.CodeO c (X.env.qual ++ "<lambda>"))
  | sp0 :: sps, f :: fs, c :: cs, 0, sp, ⟨⟨h1, h2⟩, _⟩, e => by
    cases e
    exact ⟨f, c, rfl, rfl, h1, h2⟩
  | sp0 :: sps, f :: fs, c :: cs, j + 1, sp, ⟨_, h3⟩, e => FunsAt.get (j := j) h3 e
/-- some lambdas in a row -/
structure PFs (X : Cx) (es : List Expr) (sps : List LS) : Prop where
  ex : ∃ ta, PA X es ta ∧ ∀ (σ : L2.St) (G H : Hp) (Q : List V → Hp → Prop), Sub G H → (∀ fs cs G' H', Ext G H G' H' → FunsAt X G' H' sps fs cs → Q (fs.map V.ref) H') → ta σ H Q
theorem fs_nil {X : Cx} : PFs X [] [] := ⟨_, pa_nil, fun σ G H Q s h => h [] [] G H (Ext.refl s) trivial⟩
theorem fs_cons {X : Cx} {e : Expr} {es : List Expr} {sp : LS} {sps : List LS} (h1 : PE X e (tLamT X sp)) (h2 : PFs X es sps) (hs : starEach (e :: es) X.env = (false, eval e X.env) :: starEach es X.env := by rfl) : PFs X (e :: es) (sp :: sps) := by
  obtain ⟨ta, pa, ra⟩ := h2.ex
  refine ⟨_, pa_cons h1 pa hs, fun σ G H Q s h => ?_⟩
  refine rd_lamT s fun f c G1 H1 x1 fa hc => ?_
  refine ra σ G1 H1 _ x1.sub fun fs cs G2 H2 x2 fa2 => ?_
  exact h (f :: fs) (c :: cs) G2 H2 (x1.trans x2) ⟨⟨fa.up x2.g, x2.h.k _ _ hc (fix_code _ _).2.1⟩, fa2⟩
end PL
set_option Elab.async false
set_option linter.all false
set_option maxRecDepth 100000
set_option maxHeartbeats 4000000
namespace PL
open PySem L2 PyProof.Rows
variable [Tabl]
section
variable {X : Cx} {pins : List (Addr × Obj)} {σ : L2.St} {H : Hp} {s : Shared} {CXg : CXT} {Eg : XK} {Ng : List PySem.Str} {qg : PySem.Str} {sg : Scope} {g f c' : Addr} {cdg : Value} {params : Arguments} {body : Expr} {scope : Scope} {k i : Nat} {a y : PySem.Str} {pn : List (Addr × Obj)}
  {xe : Value → Shared → Prop} {W : WX} {tb : XK → TE} {p1 p2 : Pos}
theorem pe_actN (I : Inv X pins σ H s) (L : LamX.LamS X.env.scope scope)
    (hbind : ∀ (pm ctv : Value), bindArgs (PySem.W.kla_fn "<lambda>" (X.env.qual ++ "<lambda>") params body scope (cloFrom X.env.cells scope.names []) pm (.ref c') ctv) ⟨[], []⟩ = pure [])
    (tk : Takes ((cxG X CXg Ng qg sg g cdg s H Eg).tr pn xe) W) (hr : Room (k + 1) (X.A.deeper (envOfC qg sg s.heap.objs.size g cdg)))
    (hbody : ∀ (E : XK) (A : Around) (outer : List Env) (s : Shared) (H : Hp), Room k (A.deeper (LamX.lamEnv X scope s.heap.objs.size f c')) → PE (LamX.lamCx X A outer s H E scope f c') body (tb E))
    (hN : Ng[i]? = some a) (hv : Vis sg a) (hd : (a == ("__debug__" : PySem.Str)) = false) (hcd : (a == ("__classdict__" : PySem.Str)) = false) :
    PE ((cxG X CXg Ng qg sg g cdg s H Eg).tr pn xe) (.Call (.Name a p1) [] [] p2) (fun τ J Q => τ[i]? = some (some (.ref f)) ∧ J c' = some (LamX.CodeO c' (X.env.qual ++ "<lambda>")) ∧ J f = some (FunO (X.env.qual ++ "<lambda>") params body scope (cloFrom X.env.cells scope.names []) f c') ∧ tb (fun cls d J' => W cls d τ J') σ J Q) := by
  refine ⟨fun pinsZ sZ τ J Q IZ ⟨hs, hc, hf, ht⟩ => wpAny_Call_Name_kw (thn ((pe_var (pos := p1) (i := i) hN hv hd hcd).run pinsZ sZ τ J (fun v J1 => v = .ref f ∧ J1 = J) IZ ⟨.ref f, hs, rfl, rfl⟩) fun u s1 ⟨v, J1, I1, r1, ev, eJ⟩ => ?_)⟩
  subst ev
  subst eJ
  obtain rfl : u = Value.ref f := r1
  obtain ⟨⟨pm, ctv, of1⟩, _, _⟩ := I1.hok f _ hf
  obtain ⟨⟨oc, vs, t, hoc, hdc, hvc⟩, _, _⟩ := I1.hok c' _ hc
  have un : Un (frs X.stack) [] H J1 s.heap s1.heap := I1.base
  have rc : codeAny (model X.prog X.w) (X.A.deeper (envOfC qg sg s.heap.objs.size g cdg)) (.call (.ref f) ⟨[], []⟩) (CR (L2.CX X.prog X.w) (envOfC qg sg s.heap.objs.size g cdg :: X.stack) X.prog X.w J1 s1 Q (fun cls d J' => W cls d τ J')) s1 := by
    refine PySem.W.kla_callFunE hr.depth of1 rfl L.co L.gen rfl ⟨c', oc, vs, t, rfl, hoc, hdc, hvc⟩ ?_
    rw [hbind]
    refine wpAny_pure (wpAny_newFunctionEnv (fun y hy => (L.own y hy).2) (fun y hy => absurd hy (by simp)) (fun h2 hns hsb => ⟨I1.nolimit.fresh _ hsb, ?_⟩) L.kind)
    have kp : ∀ b o, s1.heap.get? b = some o → h2.get? b = some o := fun b o e => hsb.extBut b o (Nat.ne_of_lt (Heap.lt_size e)) (Heap.get?_push_of_some _ e)
    have J2 := LamX.lam_start2 (E := fun cls d J' => W cls d τ J') (f := f) (c' := c') (tk := s1.toks + ([] : List (PySem.Str × Value)).length) I L I1.env0 hr.hd un hns kp
    refine PySem.W.kla_codeExpr (wpAny_mono ((hbody _ _ _ s1 J1 (hr.deeper _)).run [] _ _ J1 Q J2 ht) (fun v s2 q => ?_) fun _ _ q => q)
    obtain ⟨w, H2, K2, rv, q⟩ := q
    exact ⟨w, H2, K2.os, K2.bare, K2.base, K2.hok, rv, q⟩
  refine PySem.W.callWith_F0 ⟨_, _, _, _, of1⟩ (wpAny_call (codeAny_mono rc fun r s2 q => ?_))
  cases r with
  | error e => exact passAt tk τ pinsZ J1 s1 e s2 I1 q
  | ok fl =>
    cases fl with
    | ret u => exact I1.after q
    | next => exact False.elim q
    | brk => exact False.elim q
    | cont => exact False.elim q
theorem pe_actD {T : Addr} (I : Inv X pins σ H s) (L : LamSD X.N X.env.scope scope)
    (hbind : ∀ (pm ctv : Value) (T : Addr), ∃ kk, bindArgs (lamFd (X.env.qual ++ "<lambda>") params body scope (cloFrom X.env.cells scope.names []) pm (.ref c') ctv (.ref T)) ⟨[], []⟩ = seqItems? (.ref T) >>= kk ∧ ∀ v, kk (some #[v]) = pure [(y, v)]) (hy : scope.names.lookup y = some .local)
    (tk : Takes ((cxG X CXg Ng qg sg g cdg s H Eg).tr pn xe) W) (hr : Room (k + 1) (X.A.deeper (envOfC qg sg s.heap.objs.size g cdg)))
    (hbody : ∀ (E : XK) (A : Around) (outer : List Env) (s : Shared) (H : Hp), Room k (A.deeper (LamX.lamEnv X scope s.heap.objs.size f c')) → PE (LamX.lamCx X A outer s H E scope f c') body (tb E))
    (hN : Ng[i]? = some a) (hv : Vis sg a) (hd : (a == ("__debug__" : PySem.Str)) = false) (hcd : (a == ("__classdict__" : PySem.Str)) = false) :
    PE ((cxG X CXg Ng qg sg g cdg s H Eg).tr pn xe) (.Call (.Name a p1) [] [] p2) (fun τ J Q => τ[i]? = some (some (.ref f)) ∧ J c' = some (LamX.CodeO c' (X.env.qual ++ "<lambda>")) ∧ (J f = some (FunD (X.env.qual ++ "<lambda>") params body scope (cloFrom X.env.cells scope.names []) f c' T) ∧ J T = some (TupO T)) ∧ tb (fun cls d J' => W cls d τ J') σ J Q) := by
  refine ⟨fun pinsZ sZ τ J Q IZ ⟨hs, hc, ⟨hf, hT⟩, ht⟩ => wpAny_Call_Name_kw (thn ((pe_var (pos := p1) (i := i) hN hv hd hcd).run pinsZ sZ τ J (fun v J1 => v = .ref f ∧ J1 = J) IZ ⟨.ref f, hs, rfl, rfl⟩) fun u s1 ⟨v, J1, I1, r1, ev, eJ⟩ => ?_)⟩
  subst ev
  subst eJ
  obtain rfl : u = Value.ref f := r1
  obtain ⟨⟨pm, ctv, of1⟩, _, _⟩ := I1.hok f _ hf
  obtain ⟨⟨v0, oT1⟩, _, _⟩ := I1.hok T _ hT
  obtain ⟨⟨oc, vs, t, hoc, hdc, hvc⟩, _, _⟩ := I1.hok c' _ hc
  have un : Un (frs X.stack) [] H J1 s.heap s1.heap := I1.base
  have rc : codeAny (model X.prog X.w) (X.A.deeper (envOfC qg sg s.heap.objs.size g cdg)) (.call (.ref f) ⟨[], []⟩) (CR (L2.CX X.prog X.w) (envOfC qg sg s.heap.objs.size g cdg :: X.stack) X.prog X.w J1 s1 Q (fun cls d J' => W cls d τ J')) s1 := by
    refine PySem.W.kla_callFunE hr.depth of1 rfl L.co L.gen rfl ⟨c', oc, vs, t, rfl, hoc, hdc, hvc⟩ ?_
    obtain ⟨kk, hb1, hb2⟩ := hbind pm ctv T
    rw [hb1]
    refine wpAny_bind (wpAny_seqItems oT1 rfl ?_)
    rw [hb2]
    refine wpAny_pure (wpAny_newFunctionEnv L.cell (fun z hz => by rw [List.mem_singleton.mp hz]; exact hy) (fun h2 hns hsb => ⟨I1.nolimit.fresh _ hsb, ?_⟩) L.kind)
    have kp : ∀ b o, s1.heap.get? b = some o → h2.get? b = some o := fun b o e => hsb.extBut b o (Nat.ne_of_lt (Heap.lt_size e)) (Heap.get?_push_of_some _ e)
    have J2 := lam_startD (E := fun cls d J' => W cls d τ J') (f := f) (c' := c') (tk := s1.toks + [(y, v0)].length) I L I1.env0 hr.hd un hns kp
    refine PySem.W.kla_codeExpr (wpAny_mono ((hbody _ _ _ s1 J1 (hr.deeper _)).run [] _ _ J1 Q J2 ht) (fun v s2 q => ?_) fun _ _ q => q)
    obtain ⟨w, H2, K2, rv, q⟩ := q
    exact ⟨w, H2, K2.os, K2.bare, K2.base, K2.hok, rv, q⟩
  refine PySem.W.callWith_F0 ⟨_, _, _, _, of1⟩ (wpAny_call (codeAny_mono rc fun r s2 q => ?_))
  cases r with
  | error e => exact passAt tk τ pinsZ J1 s1 e s2 I1 q
  | ok fl =>
    cases fl with
    | ret u => exact I1.after q
    | next => exact False.elim q
    | brk => exact False.elim q
    | cont => exact False.elim q
end
section
variable {X : Cx} {pins : List (Addr × Obj)} {σ : L2.St} {H : Hp} {s : Shared} {CXg : CXT} {Eg : XK} {Ng : List PySem.Str} {qg : PySem.Str} {sg : Scope} {g f c' : Addr} {cdg : Value} {params : Arguments} {body : Expr} {scope : Scope} {k i : Nat} {a y : PySem.Str} {pn : List (Addr × Obj)}
  {xe : Value → Shared → Prop} {W : WX} {tE : TP} {p1 p2 : Pos} {G0 H0 G : Hp} {Γ : Ga}
theorem p_actN (F0 : Fr X.K G0 H0 Γ σ G H) (I : Inv X pins σ H s) (L : LamX.LamS X.env.scope scope) (fa : FunAt X G f c' (.n params body scope))
    (hbind : ∀ (pm ctv : Value), bindArgs (PySem.W.kla_fn "<lambda>" (X.env.qual ++ "<lambda>") params body scope (cloFrom X.env.cells scope.names []) pm (.ref c') ctv) ⟨[], []⟩ = pure [])
    (tk : Takes ((cxG X CXg Ng qg sg g cdg s H Eg).tr pn xe) W) (hr : Room (k + 1) (X.A.deeper (envOfC qg sg s.heap.objs.size g cdg)))
    (hbody : ∀ (E : XK) (A : Around) (outer : List Env) (s : Shared) (H : Hp), Room k (A.deeper (LamX.lamEnv X scope s.heap.objs.size f c')) → PP (LamX.lamCx X A outer s H E scope f c') (fun cls d _ H => E cls d H) body tE)
    (hN : Ng[i]? = some a) (hv : Vis sg a) (hd : (a == ("__debug__" : PySem.Str)) = false) (hcd : (a == ("__classdict__" : PySem.Str)) = false) :
    PP ((cxG X CXg Ng qg sg g cdg s H Eg).tr pn xe) W (.Call (.Name a p1) [] [] p2) (tpAct i (.ref f) c' (LamX.CodeO c' (X.env.qual ++ "<lambda>")) G fun k kx => tE (purify Γ) k kx) := by
  refine ⟨_, pe_actN (tb := fun E => teOf X.K (fun cls d _ H => E cls d H) tE) I L hbind tk hr (fun E A outer s H hr => (hbody E A outer s H hr).w) hN hv hd hcd, fun G2 H2 Γ2 τ G3 H3 k kx Q F ht hk hx => ?_⟩
  obtain ⟨hs, th⟩ := ht
  cases e : gat Γ2 i with
  | kp v' c2 u' G' =>
    rw [e] at hs
    obtain ⟨rfl, rfl, rfl, rfl⟩ := hs
    obtain ⟨e1, e2, _, _, e3⟩ := F.at_ i _ (gat_get Γ2 i _ e (by simp))
    exact ⟨e1, e2, F.sub.at_ (e3 _ _ fa) notLikeD, _, _, purify Γ, G3, k, kx, fr_pure F0 e3 F.sub, th, hk, fun x cls dA G4 H4 a b c => hx x cls dA G4 H4 a b c⟩
  | _ => rw [e] at hs; exact hs.elim
theorem p_actD (F0 : Fr X.K G0 H0 Γ σ G H) (I : Inv X pins σ H s) (L : LamSD X.N X.env.scope scope) (fa : FunAt X G f c' (.d params body scope y))
    (hbind : ∀ (pm ctv : Value) (T : Addr), ∃ kk, bindArgs (lamFd (X.env.qual ++ "<lambda>") params body scope (cloFrom X.env.cells scope.names []) pm (.ref c') ctv (.ref T)) ⟨[], []⟩ = seqItems? (.ref T) >>= kk ∧ ∀ v, kk (some #[v]) = pure [(y, v)]) (hy : scope.names.lookup y = some .local)
    (tk : Takes ((cxG X CXg Ng qg sg g cdg s H Eg).tr pn xe) W) (hr : Room (k + 1) (X.A.deeper (envOfC qg sg s.heap.objs.size g cdg)))
    (hbody : ∀ (E : XK) (A : Around) (outer : List Env) (s : Shared) (H : Hp), Room k (A.deeper (LamX.lamEnv X scope s.heap.objs.size f c')) → PP (LamX.lamCx X A outer s H E scope f c') (fun cls d _ H => E cls d H) body tE)
    (hN : Ng[i]? = some a) (hv : Vis sg a) (hd : (a == ("__debug__" : PySem.Str)) = false) (hcd : (a == ("__classdict__" : PySem.Str)) = false) :
    PP ((cxG X CXg Ng qg sg g cdg s H Eg).tr pn xe) W (.Call (.Name a p1) [] [] p2) (tpAct i (.ref f) c' (LamX.CodeO c' (X.env.qual ++ "<lambda>")) G fun k kx => tE (purify Γ) k kx) := by
  obtain ⟨T, fa1, fa2⟩ := fa
  refine ⟨_, pe_actD (T := T) (tb := fun E => teOf X.K (fun cls d _ H => E cls d H) tE) I L hbind hy tk hr (fun E A outer s H hr => (hbody E A outer s H hr).w) hN hv hd hcd, fun G2 H2 Γ2 τ G3 H3 k kx Q F ht hk hx => ?_⟩
  obtain ⟨hs, th⟩ := ht
  cases e : gat Γ2 i with
  | kp v' c2 u' G' =>
    rw [e] at hs
    obtain ⟨rfl, rfl, rfl, rfl⟩ := hs
    obtain ⟨e1, e2, _, _, e3⟩ := F.at_ i _ (gat_get Γ2 i _ e (by simp))
    exact ⟨e1, e2, ⟨F.sub.at_ (e3 _ _ fa1) notLikeD, F.sub.at_ (e3 _ _ fa2) notLikeD⟩, _, _, purify Γ, G3, k, kx, fr_pure F0 e3 F.sub, th, hk, fun x cls dA G4 H4 a b c => hx x cls dA G4 H4 a b c⟩
  | _ => rw [e] at hs; exact hs.elim
end
/-- t: what g(lambda) answers, seen from the maker's frame -/
def AskRun (X : Cx) (g : Addr) (sp : LS) (t : TP) : Prop := ∀ (pins : List (Addr × Obj)) (σ : L2.St) (H : Hp) (s : Shared) (Γ : Ga) (G0 H0 G : Hp) (f c : Addr) (W : WX) (kd : KD) (kx : KX) (Q : VK),
  Inv X pins σ H s → Fr X.K G0 H0 Γ σ G H → FunAt X G f c sp → H c = some (LamX.CodeO c (X.env.qual ++ "<lambda>")) → t Γ kd kx →
  (∀ d v G' H', kd d → Ext G H G' H' → Den X.K G' v d → Q v H') → XOk X.K W G H σ kx →
  codeAny (model X.prog X.w) X.A (.call (.ref g) ⟨[.ref f], []⟩) (CR (L2.CX X.prog X.w) X.stack X.prog X.w H s Q fun cls d H' => W cls d σ H') s
section
variable {X : Cx} {x a y : PySem.Str} {st : Stmt} {N : List PySem.Str} {g : Addr} {fd : FuncData} {k kl : Nat} {m : TP → TSp} {params : Arguments} {body : Expr} {scope : Scope} {tE : TP}
theorem ask_of (F : Fun X.K x x st g fd) (S : FnScope N [a] (defScope st)) (hb : Binds X.K fd [a] []) (ask : AskOk X.prog X.w X.K X.mg X.base x a st N k m) (hr : Room (k + 1) X.A) (hN : N[0]? = some a) {sp : LS}
    (act : ∀ (pins : List (Addr × Obj)) (σ : L2.St) (H : Hp) (s : Shared) (Γ : Ga) (G0 H0 G : Hp) (f c : Addr) (cdg : Value) (Eg : XK), Inv X pins σ H s → Fr X.K G0 H0 Γ σ G H → FunAt X G f c sp → Room k (X.A.deeper (envOfC x (defScope st) s.heap.objs.size g cdg)) →
      ∀ (W : WX) (pn : List (Addr × Obj)) (xe : Value → Shared → Prop) (p1 p2 : Pos), Takes ((cxG X (L2.CX X.prog X.w) N x (defScope st) g cdg s H Eg).tr pn xe) W → PP ((cxG X (L2.CX X.prog X.w) N x (defScope st) g cdg s H Eg).tr pn xe) W (.Call (.Name a p1) [] [] p2) (tpAct 0 (.ref f) c (LamX.CodeO c (X.env.qual ++ "<lambda>")) G fun k kx => tE (purify Γ) k kx)) :
    AskRun X g sp (tpLam N.length m tE) := by
  intro pins σ H s Γ G0 H0 G f c W kd kx Q I F1 fa hc ht hk hx
  obtain ⟨oc, od, kV, doc, pm, an, cdv, ct, osl, rfl, lk, hcg⟩ := F.ex
  refine LamX.run_ofS (N := N) (ps := [a]) (us := [.ref f]) (vs := [.ref f]) lk hcg S hr I.env0 (hb s [.ref f] I.kIn rfl) (.cons rfl .nil) rfl fun hr' => ?_
  obtain ⟨ts, ps, rd⟩ := (ask g cdv X.A X.stack s H (fun cls d H' => W cls d σ H') _ hr' fun W2 pn xe p1 p2 tk2 => act pins σ H s Γ G0 H0 G f c cdv _ I F1 fa hr' W2 pn xe p1 p2 tk2).ex
  refine ⟨ts, ps, rd G H _ _ G H (fEnds kd kx) _ (fr_lam F1.sub (by
    have := (List.getElem?_eq_some_iff.mp hN).1
    omega) hc) (ht _ _ _ _) ⟨?_, ?_, ?_, ?_, ?_⟩⟩
  · exact fun Γ σ G' H' q F' => hk .non .non G' H' q F'.e .non
  · exact fun _ _ _ _ q => q.elim
  · exact fun _ _ _ _ q => q.elim
  · exact fun d v Γ σ G' H' q F' n => hk d v G' H' q F'.e n
  · exact fun y cls dA Γ τ G' H' q F' n => hx y cls dA G' H' q F'.e n
theorem ask_n (F : Fun X.K x x st g fd) (S : FnScope N [a] (defScope st)) (hb : Binds X.K fd [a] []) (ask : AskOk X.prog X.w X.K X.mg X.base x a st N k m) (hr : Room (k + 1) X.A) (hkl : kl + 1 ≤ k) (L : LamX.lamSB X.env.scope scope = true)
    (hbody : ∀ (f c' : Addr) (E : XK) (A : Around) (outer : List Env) (s : Shared) (H : Hp), Room kl (A.deeper (LamX.lamEnv X scope s.heap.objs.size f c')) → PP (LamX.lamCx X A outer s H E scope f c') (fun cls d _ H => E cls d H) body tE)
    (hbind : ∀ (q : PySem.Str) (cl : List (PySem.Str × Addr)) (pm cv ctv : Value), bindArgs (PySem.W.kla_fn "<lambda>" q params body scope cl pm cv ctv) ⟨[], []⟩ = pure [] := by intros; rfl) (hN : N[0]? = some a := by rfl) (hva : Vis (defScope st) a := by first | exact Or.inl rfl | exact Or.inr (Or.inl rfl) | exact Or.inr (Or.inr rfl))
    (hd : (a == ("__debug__" : PySem.Str)) = false := by decide) (hcd : (a == ("__classdict__" : PySem.Str)) = false := by decide) : AskRun X g (.n params body scope) (tpLam N.length m tE) :=
  ask_of F S hb ask hr hN fun pins σ H s Γ G0 H0 G f c cdg Eg I F1 fa hr' W pn xe p1 p2 tk => p_actN (i := 0) F1 I (LamX.lamS_by L) fa (fun _ _ => hbind _ _ _ _ _) tk (hr'.mono hkl) (fun E A outer s H hr => hbody f c E A outer s H hr) hN hva hd hcd
theorem ask_d (F : Fun X.K x x st g fd) (S : FnScope N [a] (defScope st)) (hb : Binds X.K fd [a] []) (ask : AskOk X.prog X.w X.K X.mg X.base x a st N k m) (hr : Room (k + 1) X.A) (hkl : kl + 1 ≤ k) (L : lamSDB X.N X.env.scope scope = true)
    (hbody : ∀ (f c' : Addr) (E : XK) (A : Around) (outer : List Env) (s : Shared) (H : Hp), Room kl (A.deeper (LamX.lamEnv X scope s.heap.objs.size f c')) → PP (LamX.lamCx X A outer s H E scope f c') (fun cls d _ H => E cls d H) body tE)
    (hbind : ∀ (q : PySem.Str) (cl : List (PySem.Str × Addr)) (pm cv ctv : Value) (T : Addr), ∃ kk, bindArgs (lamFd q params body scope cl pm cv ctv (.ref T)) ⟨[], []⟩ = seqItems? (.ref T) >>= kk ∧ ∀ v, kk (some #[v]) = pure [(y, v)] := by intros; exact ⟨_, rfl, fun _ => rfl⟩) (hy : scope.names.lookup y = some .local := by rfl) (hN : N[0]? = some a := by rfl) (hva : Vis (defScope st) a := by first | exact Or.inl rfl | exact Or.inr (Or.inl rfl) | exact Or.inr (Or.inr rfl))
    (hd : (a == ("__debug__" : PySem.Str)) = false := by decide) (hcd : (a == ("__classdict__" : PySem.Str)) = false := by decide) : AskRun X g (.d params body scope y) (tpLam N.length m tE) :=
  ask_of F S hb ask hr hN fun pins σ H s Γ G0 H0 G f c cdg Eg I F1 fa hr' W pn xe p1 p2 tk => p_actD (i := 0) F1 I (lamSD_by L) fa (fun _ _ _ => hbind _ _ _ _ _ _) hy tk (hr'.mono hkl) (fun E A outer s H hr => hbody f c E A outer s H hr) hN hva hd hcd
end
end PL
set_option Elab.async false
set_option linter.all false
set_option maxRecDepth 100000
set_option maxHeartbeats 4000000
namespace PL
open PySem L2
variable [Tabl]
section
variable {X : Cx}
/-- how many are new -/
def dc (seen : List Int) : List Int → Nat
  | [] => 0
  | z :: r => (if z ∈ seen then 0 else 1) + dc (z :: seen) r
end
end PL
set_option Elab.async false
set_option linter.all false
set_option maxRecDepth 100000
set_option maxHeartbeats 4000000
namespace PL
open PySem PySem.Froz L2 PyProof.Rows
end PL
set_option Elab.async false
set_option linter.all false
set_option maxRecDepth 100000
set_option maxHeartbeats 4000000
namespace PL
open PySem L2
end PL
set_option Elab.async false
set_option linter.all false
set_option maxRecDepth 100000
set_option maxHeartbeats 4000000
namespace PL
open PySem L2 PyProof.Rows
variable [Tabl]
/-- a variable that holds pure data beside which objects are known -/
def tpVarF (i : Nat) : TP := fun Γ k _ => match gat Γ i with
  | .pf d _ _ => k d
  | _ => False
/-- g(h): the functions fs stand in slot i's list, ts what g answers for each -/
def tpAskV (fs : List Addr) (l : List (Addr × HO)) (Gx : Hp) (i h : Nat) (ts : List TP) : TP := fun Γ k kx =>
  (match gat Γ i with
  | .pf _ l' G' => l' = l ∧ G' = Gx
  | _ => False) ∧ match gat Γ h with
  | .pu (.cls f) => ∃ (j : Nat) (t : TP), fs[j]? = some f ∧ ts[j]? = some t ∧ t (gset Γ h .un) k kx
  | _ => False
/-- what is known of act -/
def ActF (X : Cx) (g : Addr) (i h : Nat) (act : TP) : Prop := ∃ (sps : List LS) (fs cs : List Addr) (l : List (Addr × HO)) (Gx : Hp) (ts : List TP), act = tpAskV fs l Gx i h ts ∧
  (∀ G H : Hp, (∀ q ∈ l, H q.1 = some q.2) → Same Gx G → FunsAt X G H sps fs cs) ∧ ts.length = sps.length ∧ ∀ (j : Nat) (sp : LS) (t : TP), sps[j]? = some sp → ts[j]? = some t → AskRun X g sp t
section
variable {X : Cx} {W : WX} {g : Addr} {i h : Nat} {act : TP}
theorem p_varF (i : Nat) {x : PySem.Str} {pos : Pos} (hN : X.N[i]? = some x := by rfl) (hv : Vis X.env.scope x := by first | exact Or.inl rfl | exact Or.inr (Or.inl rfl) | exact Or.inr (Or.inr rfl)) (hd : (x == ("__debug__" : PySem.Str)) = false := by decide)
    (hcd : (x == ("__classdict__" : PySem.Str)) = false := by decide) : PP X W (.Name x pos) (tpVarF i) := by
  refine ⟨_, pe_var hN hv hd hcd, fun G0 H0 Γ σ G H k kx Q F ht hk hx => ?_⟩
  unfold tpVarF at ht
  cases hs : gat Γ i with
  | pf d l Gx =>
    rw [hs] at ht
    obtain ⟨⟨v, e, r⟩, _, _⟩ := F.at_ i _ (gat_get Γ i _ hs (by simp))
    exact ⟨v, e, hk d v G H ht (Ext.refl F.sub) r⟩
  | _ => rw [hs] at ht; exact ht.elim
theorem act_parts (A : ActF X g i h act) {K : PySem.W.Frag} {G0 H0 G H : Hp} {Γ : Ga} {τ : L2.St} {kd : KD} {kx : KX} (F : Fr K G0 H0 Γ τ G H) (ht : act Γ kd kx) :
    ∃ f c sp t, τ[h]? = some (some (.ref f)) ∧ FunAt X G f c sp ∧ H c = some (LamX.CodeO c (X.env.qual ++ "<lambda>")) ∧ AskRun X g sp t ∧ t (gset Γ h .un) kd kx := by
  obtain ⟨sps, fs, cs, l, Gx, ts, rfl, h1, hl, h2⟩ := A
  obtain ⟨a1, a2⟩ := ht
  cases e : gat Γ i with
  | pf d l' G' =>
    rw [e] at a1
    obtain ⟨rfl, rfl⟩ := a1
    obtain ⟨_, b1, b2⟩ := F.at_ i _ (gat_get Γ i _ e (by simp))
    have fa := h1 G H (fun q hq => (b1 q hq).1) b2
    cases e2 : gat Γ h with
    | pu d =>
      rw [e2] at a2
      cases d with
      | cls f =>
        obtain ⟨j, t, c1, c2, c3⟩ := a2
        obtain ⟨v, e3, n⟩ := F.at_ h _ (gat_get Γ h _ e2 (by simp))
        cases n
        have hj : j < sps.length := by
          rw [← hl]
          exact (List.getElem?_eq_some_iff.mp c2).1
        obtain ⟨f', c, d1, d2, d3, d4⟩ := fa.get (List.getElem?_eq_getElem hj)
        rw [c1] at d1
        cases d1
        exact ⟨f, c, _, t, e3, d3, d4, h2 j _ t (List.getElem?_eq_getElem hj) c2, c3⟩
      | _ => exact a2.elim
    | _ => rw [e2] at a2; exact a2.elim
  | _ => rw [e] at a1; exact a1.elim
/-- the frame, with the slot h of no matter -/
theorem Fr.but {K : PySem.W.Frag} {G0 H0 G H : Hp} {Γ : Ga} {τ σ : L2.St} (F : Fr K G0 H0 Γ τ G H) (hw : L2.wipe τ [h] = L2.wipe σ [h]) : Fr K G0 H0 (gset Γ h .un) σ G H := by
  have hw : τ.set h none = σ.set h none := hw
  have hl : σ.length = τ.length := by
    have := congrArg List.length hw
    rw [List.length_set, List.length_set] at this
    exact this.symm
  have hat : ∀ j, j ≠ h → σ[j]? = τ[j]? := fun j hj => by
    have := congrArg (fun z : L2.St => z[j]?) hw
    rw [List.getElem?_set_ne (Ne.symm hj), List.getElem?_set_ne (Ne.symm hj)] at this
    exact this.symm
  have other : ∀ (j : Nat) (s : Sl), (gset Γ h .un)[j]? = some s → s ≠ .un → h ≠ j ∧ Γ[j]? = some s := fun j s hj n => by
    rw [gset_eq] at hj
    by_cases e : h = j
    · subst e
      have hlt : h < Γ.length := by
        have := (List.getElem?_eq_some_iff.mp hj).1
        rw [List.length_set] at this
        exact this
      rw [List.getElem?_set_self hlt] at hj
      exact absurd (Option.some.inj hj).symm n
    · rw [List.getElem?_set_ne e] at hj
      exact ⟨e, hj⟩
  refine ⟨by rw [gset_eq, List.length_set, hl]; exact F.len, F.e, fun j s hj => ?_, fun a b p s t h1 h2 h3 h4 h5 h6 => ?_⟩
  · by_cases n : s = .un
    · subst n
      trivial
    · obtain ⟨ne, q⟩ := other j s hj n
      rw [hat j (Ne.symm ne)]
      exact F.at_ j s q
  · obtain ⟨n1, q1⟩ := other a s h1 (fun z => by subst z; exact h2)
    obtain ⟨n2, q2⟩ := other b t h3 (fun z => by subst z; exact h4)
    rw [hat a (Ne.symm n1)] at h5
    rw [hat b (Ne.symm n2)] at h6
    exact F.dj a b p s t q1 h2 q2 h4 h5 h6
end
section
variable {X : Cx} {W : WX} {g : Addr} {i h : Nat} {act : TP} {x hn : PySem.Str} {p p2 pos : Pos}
/-- the comprehension's block: what stands in the maker's frame is known when an item is reckoned (after the course of lc_core) -/
theorem lc_known {pins : List (Addr × Obj)} {s : Shared} {σ : L2.St} {H : Hp} {Q : VK} {elt tg iter : Expr} {scope : Scope} {own : List (PySem.Str × Nat)} {pos pos' : Pos} {wi : TI} {gt : TG} {te : TE} {use : Option (Value → Sem Unit)} {Qf : Value → Shared → Prop}
    (hc : X.calm = true) (hN : X.N.Nodup) (I : Inv X pins σ H s) (hi : PI X tg iter wi) (ok : BlkOk X.N X.env.scope scope own) (hg : ∀ b : Bi, PG (Cx.bl X scope b) tg gt)
    (he : ∀ (b : Bi) (pinsB : List (Addr × Obj)) (s9 : Shared) (τ : L2.St) (J : Hp) (Q : VK), (∀ (pB : List (Addr × Obj)) (σ' : L2.St) (H' : Hp) (s' : Shared), Inv (Cx.bl X scope b) pB σ' H' s' → Inv X pins σ H' s') → Inv (Cx.bl X scope b) pinsB τ J s9 → L2.wipe τ (own.map (·.2)) = L2.wipe σ (own.map (·.2)) → te τ J Q → wpAny (model X.prog X.w) X.A (eval elt (Cx.bl X scope b).env) (EP (Cx.bl X scope b) pinsB τ Q) (fun _ _ => False) s9)
    (hs : ∀ x, foldedSetIterable iter X.env x = pure x) (hh : tLc wi gt tYes te (own.map (·.2)) σ H Q)
    (hRR : ∀ D C s' m H', Inv X pins σ H' s' → Q (.ref D) H' → s'.heap.Ns C m → FpOk X pins H' C → compPost (model X.prog X.w) X.A X.xe use Qf (.ref D) C (.ok .next) s') :
    wpAny (model X.prog X.w) X.A (comprehension (.ListComp elt [⟨tg, iter, [], 0⟩] scope pos) scope X.env pos' (newList []) false (eval iter X.env) use) Qf X.xe s := by
  have cellFree : ∀ y ∈ scope.names, y.2 = .free → ∃ c, X.env.cells.lookup y.1 = some c := fun y hy e => I.ok.has _ (ok.free y hy e)
  refine wpAny_comprehension_free (use := use) rfl hs (closure_ok cellFree) ok.kind (fun y hy e => by rw [ok.uniq y hy, e]) (thn (hi.run pins s σ H _ I hh) fun xv s1 hx => thn hx fun itv s2 h2 => ?_)
  obtain ⟨it, fp, tn, J, H2, e, I2, T, st2, f2, q⟩ := h2
  subst e
  refine wpAny_newObj_type (newEnv_comp ?_) (by show 0 ≤ sizeLine; decide)
  obtain ⟨D, hD⟩ : ∃ D, D = s2.heap.objs.size := ⟨_, rfl⟩
  rw [← hD]
  have hDn : H2 D = none := I2.hok.fresh (Nat.le_of_eq hD.symm)
  obtain ⟨M, ⟨m0, w0⟩, turn⟩ := q D hDn
  obtain ⟨s3, hs3⟩ : ∃ s3 : Shared, s3 = { s2 with heap := s2.heap.push { cls := .type "list", data := .seq ([] : List Value).toArray } } := ⟨_, rfl⟩
  rw [← hs3]
  have h3 : s3.heap = s2.heap.push { cls := .type "list", data := .seq ([] : List Value).toArray } := by rw [hs3]
  have grow : ∀ b o, s2.heap.get? b = some o → s3.heap.get? b = some o := fun b o e => by rw [h3]; exact Heap.get?_push_of_some _ e
  have I3 : Inv X pins σ (upd H2 D (.lst [])) s3 := by
    rw [hs3]
    refine I2.laid (t' := s2.toks) (fun b o e => Heap.get?_push_of_some _ e) (Nat.le_of_eq hD.symm) ⟨Nat.zero_le _, [], 0, .nil, ?_⟩
    rw [hD]
    exact Heap.get?_push_size _ rfl
  have f3 : ∀ b ∈ fp, FpOk X pins (upd H2 D (.lst [])) b ∧ b < s3.heap.objs.size := fun b hb => by
    obtain ⟨o, e, _⟩ := T.obj _ _ st2 b hb
    refine ⟨⟨?_, (f2 b hb).2⟩, Heap.lt_size (grow b o e)⟩
    rw [upd_ne (by rw [hD]; exact Nat.ne_of_lt (Heap.lt_size e))]
    exact (f2 b hb).1
  have st3 : tn 0 s3.heap := T.keep _ _ _ st2 fun b _ o e => grow b o e
  obtain ⟨H3, hH3⟩ : ∃ H3, H3 = upd H2 D (.lst []) := ⟨_, rfl⟩
  rw [← hH3] at I3 f3 w0
  have I4 := block_start I3 ok hN f3
  let bi : Bi := (s3, H3, s3.heap.objs.size, cellsFrom (s3.heap.objs.size + 1) scope.names (cloFrom X.env.cells scope.names []), fp)
  have pg := hg bi
  have he := he bi
  show codeAny _ _ (.compStart (.ListComp elt [⟨tg, iter, [], 0⟩] scope pos) 0 (.ref it) (.ref D) (Cx.bl X scope bi).env) (compPost (model X.prog X.w) X.A X.xe use Qf (.ref D) s3.heap.objs.size) { s3 with heap := pushCells (s3.heap.push { cls := .type "dict", data := .dict #[] }) scope.names }
  have cL : (Cx.bl X scope bi).env.locals = s3.heap.objs.size := rfl
  have I4 : Inv (Cx.bl X scope bi) [] (L2.wipe σ (own.map (·.2))) H3 { s3 with heap := pushCells (s3.heap.push { cls := .type "dict", data := .dict #[] }) scope.names } := I4
  have st4 : tn 0 (pushCells (s3.heap.push { cls := .type "dict", data := .dict #[] }) scope.names) := T.keep _ _ _ st3 fun b _ o e => pushCells_keeps _ _ _ _ (Heap.get?_push_of_some _ e)
  have stat : ∀ {σ' : L2.St} {H' : Hp} {s' : Shared}, Inv (Cx.bl X scope bi) [] σ' H' s' → (∀ b ∈ fp, H' b = none) → ∀ b ∈ fp, FpOk (Cx.bl X scope bi) [] H' b := fun {σ' H' s'} I' hn b hb =>
    ⟨hn b hb, (I'.ok.exf b hb).1, I'.ok.exfs b hb, .inl hb, fun x c e => (I'.ok.exf b hb).2 x c e, fun p hp => absurd (show p ∈ ([] : List (Addr × Obj)) ++ [] from hp) (by simp)⟩
  have outer : ∀ {pB : List (Addr × Obj)} {σ' : L2.St} {H' : Hp} {s' : Shared}, Inv (Cx.bl X scope bi) pB σ' H' s' → Inv X pins σ H' s' := fun {pB σ' H' s'} I' =>
    I3.call' (ch := fp) I'.os I'.base I'.hok I'.bare fun b hb => ⟨(f3 b hb).1.2.2.2.1, (f3 b hb).1.2.1, (f3 b hb).1.2.2.2.2.1, (f3 b hb).1.2.2.2.2.2⟩
  suffices loop : codeAny (model X.prog X.w) X.A (.compLoop (.ListComp elt [⟨tg, iter, [], 0⟩] scope pos) 0 (.ref it) (.ref D) (Cx.bl X scope bi).env) (compPost (model X.prog X.w) X.A X.xe use Qf (.ref D) s3.heap.objs.size) { s3 with heap := pushCells (s3.heap.push { cls := .type "dict", data := .dict #[] }) scope.names } from
    codeAny_compStart_list loop (T.self X.A 0 _ _ _ st4 loop)
  refine compLoop_any (fun n s' => ∃ i H', Inv (Cx.bl X scope bi) [] (L2.wipe σ (own.map (·.2))) H' s' ∧ tn i s'.heap ∧ (∀ b ∈ fp, H' b = none) ∧ M i n H') ?_ m0 ⟨0, H3, I4, st4, fun b hb => (f3 b hb).1.1, w0⟩
  rintro n s5 ⟨i, H5, I5, st5, n5, w5⟩
  rcases turn i n H5 w5 with ⟨stop, qq⟩ | ⟨go, Nx, hNx, step⟩
  · refine thnF (T.done (Cx.bl X scope bi) rfl rfl rfl hc i [] s5 _ H5 (fun _ _ => False) I5 (stat I5 n5) st5 stop) fun r s6 ⟨hr, I6⟩ => ?_
    subst hr
    have nC : H5 s3.heap.objs.size = none := cL ▸ I6.free
    obtain ⟨m, hn, _⟩ := I6.loc
    exact hRR D s3.heap.objs.size s6 m H5 (outer I6) qq (cL ▸ hn) (I3.fpOk (Nat.le_refl _) nC)
  · refine thnF (T.item (Cx.bl X scope bi) rfl rfl rfl hc i [] s5 _ H5 (fun _ _ => False) I5 (stat I5 n5) st5 go) fun r s6 ⟨u, hr, h6⟩ => ?_
    subst hr
    refine thnF h6 fun _ s7 ⟨x, H7, I7, r7, y7, st7, n7⟩ => ?_
    have I7' := I7.pinned (stat I7 n7) (T.obj _ _ st7)
    refine thnF (pg.run _ s7 _ H7 x u _ I7' r7 (step x H7 y7)) fun _ s8 ⟨σ8, H8, I8, hw8, q8⟩ => ?_
    refine thnF ((pts_nil (X := Cx.bl X scope bi)).run _ s8 σ8 H8 _ I8 q8) fun b s9 ⟨H9, I9, q9⟩ => ?_
    have fin : ∀ {s' : Shared} {H' : Hp}, Inv (Cx.bl X scope bi) ([] ++ pinsAt fp s7.heap) σ8 H' s' → Nx H' → ∃ m, m < n ∧ ∃ i H', Inv (Cx.bl X scope bi) [] (L2.wipe σ (own.map (·.2))) H' s' ∧ tn i s'.heap ∧ (∀ b ∈ fp, H' b = none) ∧ M i m H' := fun {s' H'} I' nx => by
      obtain ⟨m', hm, w'⟩ := hNx H' nx
      have held : ∀ b ∈ fp, ∀ o, s7.heap.get? b = some o → s'.heap.get? b = some o ∧ H' b = none := fun b hb o e => by
        obtain ⟨z1, z2, _⟩ := I'.pin (b, o) (List.mem_append_right _ (List.mem_append_right _ (mem_pinsAt hb e)))
        exact ⟨z1, z2⟩
      refine ⟨m', hm, i + 1, H', (I'.unpinned (pins := [])).weak (by rw [← hw8, L2.wipe_length]) (fun j v e => ?_), T.keep _ _ _ st7 fun b hb o e => (held b hb o e).1, fun b hb => ?_, w'⟩
      · rw [← hw8] at e
        exact (L2.wipe_some e).1
      · obtain ⟨o, e, _⟩ := T.obj _ _ st7 b hb
        exact (held b hb o e).2
    cases b with
    | false =>
      simp only [Bool.false_eq_true, if_false] at q9 ⊢
      exact fin I9 q9
    | true =>
      simp only [if_true] at q9 ⊢
      refine thnF (he _ s9 σ8 H9 _ (fun _ _ _ _ I' => outer I') I9 hw8 q9) fun z s10 ⟨yv, H10, I10, r10, acc, hD10, hz10, nx⟩ => ?_
      exact app_ok (X := Cx.bl X scope bi) I10 hD10 hz10 r10 fun s11 I11 => fin I11 nx
end
end PL
set_option Elab.async false
set_option linter.all false
set_option maxRecDepth 100000
set_option maxHeartbeats 4000000
namespace PL
open PySem L2 PyProof.Rows
variable [Tabl]
section
variable {X : Cx} {W : WX} {g : Addr} {i h : Nat} {act : TP} {x hn : PySem.Str} {p p2 p3 p4 pos epos : Pos} {scope : Scope} {iter : Expr} {ti : TL}
theorem p_askLc (A : ActF X g i h act) (hm : X.mg x = some (.ref g)) (kp : PySem.W.keepIn X.K (.ref g) = true) (hc : X.calm = true) (hN : X.N.Nodup) (hi : PIt X W (.Name hn p4) iter ti) (ok : BlkOk X.N X.env.scope scope [(hn, h)])
    (hgt : ∀ b : Bi, PGt (Cx.bl X scope b) (.Name hn p4) [h] (tgName h)) (hh : X.N[h]? = some hn := by rfl) (hv : ∀ b : Bi, Vis (Cx.bl X scope b).env.scope hn := by intro _; first | exact Or.inl rfl | exact Or.inr (Or.inl rfl) | exact Or.inr (Or.inr rfl)) (hd : (hn == ("__debug__" : PySem.Str)) = false := by decide)
    (hcd : (hn == ("__classdict__" : PySem.Str)) = false := by decide) (hg : ∀ b : Bi, Gl (Cx.bl X scope b) x := by intro _; rfl) (hdb : (x == ("__debug__" : PySem.Str)) = false := by decide) (hs : ∀ x, foldedSetIterable iter X.env x = pure x := by intro _; rfl)
    (hst : ∀ b : Bi, starEach [.Name hn p2] (Cx.bl X scope b).env = [(false, eval (.Name hn p2) (Cx.bl X scope b).env)] := by intro _; rfl) :
    PP X W (.ListComp (.Call (.Name x p) [.Name hn p2] [] epos) [⟨.Name hn p4, iter, [], 0⟩] scope pos) (tpLc [h] ti (tgName h) tbYes act) := by
  obtain ⟨wi, pi, ri⟩ := hi.ex
  obtain ⟨gt, pg, rg⟩ := pg_unif (Xf := fun i : Bi => Cx.bl X scope i) (K := X.K) (fun _ => rfl) hgt
  refine ⟨tLc wi gt tYes (teOf X.K W0 act) [h], ⟨fun pins s σ H Q I ht => ?_⟩, fun G0 H0 Γ σ G H k kx Q F ht hk hx => ?_⟩
  · rw [eval_ListComp]
    refine lc_known (te := teOf X.K W0 act) (gt := gt) hc hN I pi ok pg (fun b pinsB s9 τ J Q IO IB hw ⟨G0, H0, Γ, G, kd, kx, F, ht, hk, hx⟩ => ?_) hs ht fun D C s' m H' I' q hn f => ⟨m, hn, fun h'' sb => ?_⟩
    · obtain ⟨f, c, sp, t, e1, fa, hc', ar, ht⟩ := act_parts A F ht
      refine wpAny_Call_Name_kw (ld_glob IB (hg b) hm ?_ hdb)
      refine PySem.W.callWith_K (h₀ := X.base) IB.ok.mod.kin kp ?_ (hst b) (by rfl)
      rw [hst b]
      show wpAny _ _ (spliced ((false, eval (.Name hn p2) (Cx.bl X scope b).env) :: backTo epos [])) _ _ s9
      refine Calls.spliced_cons (thn ((pe_var (X := Cx.bl X scope b) (pos := p2) (i := h) hh (hv b) hd hcd).run pinsB s9 τ J (fun v J1 => v = .ref f ∧ J1 = J) IB ⟨.ref f, e1, rfl, rfl⟩) fun u s1 ⟨v, J1, I1, r1, ev, eJ⟩ => ?_)
      subst ev
      subst eJ
      obtain rfl : u = Value.ref f := r1
      have IO1 : Inv X pins σ J1 s1 := IO _ _ _ _ I1
      refine Calls.spliced_nil ⟨I1.kIn, ?_⟩
      refine wpAny_call (codeAny_mono (ar pins σ J1 s1 (gset Γ h .un) G0 H0 G f c W0 kd kx Q IO1 (F.but hw) fa hc' ht hk hx) fun r s2 q => ?_)
      cases r with
      | error e => exact passAt takes0 τ pinsB J1 s1 e s2 I1 q
      | ok fl =>
        cases fl with
        | ret u => exact I1.after q
        | next => exact False.elim q
        | brk => exact False.elim q
        | cont => exact False.elim q
    · obtain ⟨f0, f1, f2, f3, f4, f5⟩ := f
      exact ⟨.ref D, H', I'.turned (t' := s'.toks) (fun b o hb e => (sb.2 b hb).trans e) f0 f1 f3 f4 f5, rfl, q⟩
  · refine rd_lc ri rg (fun G0 H0 Γ σ G H k kx Q F ht hk hx => ?_) (fun G0 H0 Γ σ G H k kx Q F ht hk hx => ⟨G0, H0, Γ, G, k, kx, F, ht, hk, hx⟩) rfl G0 H0 Γ σ G H k kx Q F ht (fun ds G' H' D kd x hD gD ⟨xs, h1, h2⟩ => ?_) hx
    · exact hk true G H ht (Ext.refl F.sub)
    · exact hk _ _ _ H' kd (Ext.thaw x.sub x hD gD h1) (.lst upd_same (h2.up (same_upd gD)))
end
abbrev clsD (fs : List Addr) : D := .lst (fs.map D.cls)
theorem den_fs {K : PySem.W.Frag} {G : Hp} : ∀ fs : List Addr, DenL K G (fs.map V.ref) (fs.map D.cls)
  | [] => .nil
  | f :: fs => .cons (.cls f) (den_fs fs)
theorem den_fsI {K : PySem.W.Frag} {G : Hp} : ∀ {xs : List V} {fs : List Addr}, DenL K G xs (fs.map D.cls) → xs = fs.map V.ref
  | _, [], h => by cases h; rfl
  | _, f :: fs, h => by
    cases h with
    | cons h1 h2 =>
      cases h1
      rw [den_fsI h2]
      rfl
/-- a statement that builds slot i's list of lambdas (fst: anew) -/
def FB (X : Cx) (st : Stmt) (i : Nat) (fst : Bool) (sps : List LS) : Prop := ∃ ts, PS X st ts ∧ ∀ (G0 H0 : Hp) (Γ : Ga) (σ : L2.St) (G H : Hp) (E : Ends) (fs0 : List Addr), Fr X.K G0 H0 Γ σ G H → (fst = false → gat Γ i = .ow (clsD fs0)) → (fst = true → fs0 = []) → fs0.length + sps.length ≤ 1000 →
  (∀ fs cs σ' G' H', Fr X.K G0 H0 (gset Γ i (.ow (clsD (fs0 ++ fs)))) σ' G' H' → Keep G H G' H' → FunsAt X G' H' sps fs cs → E.nx σ' H') → ts E σ H
section
variable {X : Cx} {W : WX} {i : Nat} {x : PySem.Str} {es : List Expr} {sps : List LS} {pos p2 p3 p4 : Pos}
theorem fb_set (i : Nat) (hf : PFs X es sps) (nd : X.N.Nodup) (hi : X.N[i]? = some x := by rfl) (hx : Loc X.env.scope x := by first | exact Or.inl rfl | exact Or.inr rfl)
    (hfn : X.fn x = true ∨ X.env.scope.names.lookup x = some .local := by first | exact .inl rfl | exact .inr rfl) (hs : swapsWith (.List es p3) (some (.Name x p2)) pos.line X.env = pure false := by rfl) : FB X (.Assign [.Name x p2] (.List es p3) pos) i true sps := by
  obtain ⟨ta, pa, ra⟩ := hf.ex
  refine ⟨_, ps_set nd hi hx (pe_lst pa) hs hfn, fun G0 H0 Γ σ G H E fs0 F _ h0 hl hk => ?_⟩
  rw [h0 rfl] at hk
  refine ra σ G H _ F.sub fun fs cs G1 H1 x1 fa => ⟨?_, fun q hq => ?_⟩
  · have := fa.len.1
    rw [List.length_map]
    exact Nat.le_trans (show fs.length ≤ 1000 by omega) (by decide)
  · have F1 := (F.up x1).own (d := clsD fs) i hq ⟨_, upd_same, den_fs fs⟩
    have k2 : Keep G1 H1 G1 (upd H1 q (.lst (fs.map V.ref))) := Keep.of (Ext.beside x1.sub hq)
    exact hk fs cs _ _ _ F1 ((Keep.of x1).trans k2) (fa.keep k2)
theorem fb_cat (i : Nat) (hf : PFs X es sps) (nd : X.N.Nodup) (hi : X.N[i]? = some x := by rfl) (hx : Loc X.env.scope x := by first | exact Or.inl rfl | exact Or.inr rfl) (hv : Vis X.env.scope x := by first | exact Or.inl rfl | exact Or.inr (Or.inl rfl) | exact Or.inr (Or.inr rfl))
    (hd : (x == ("__debug__" : PySem.Str)) = false := by decide) (hcd : (x == ("__classdict__" : PySem.Str)) = false := by decide) {p5 : Pos}
    (hfn : X.fn x = true ∨ X.env.scope.names.lookup x = some .local := by first | exact .inl rfl | exact .inr rfl) (hs : swapsWith (.BinOp (.Name x p4) .Add (.List es p3) p5) (some (.Name x p2)) pos.line X.env = pure false := by rfl) : FB X (.Assign [.Name x p2] (.BinOp (.Name x p4) .Add (.List es p3) p5) pos) i false sps := by
  obtain ⟨ta, pa, ra⟩ := hf.ex
  refine ⟨_, ps_set nd hi hx (pe_op op_cat (pe_var hi hv hd hcd) (pe_lst pa)) hs hfn, fun G0 H0 Γ σ G H E fs0 F ho _ hl hk => ?_⟩
  have hg := gat_get Γ i _ (ho rfl) (by simp)
  obtain ⟨q0, e1, g1, h01, xs, o1, o2⟩ := F.at_ i _ hg
  refine ⟨.ref q0, e1, ?_⟩
  refine ra σ G H _ F.sub fun fs cs G1 H1 x1 fa => ⟨?_, fun q hq => ?_⟩
  · have := fa.len.1
    rw [List.length_map]
    exact Nat.le_trans (show fs.length ≤ 1000 by omega) (by decide)
  · have hn : q0 ≠ q := ne_of_none (x1.h.lst o1) hq
    have ex := den_fsI o2
    refine ⟨q0, q, xs, fs.map V.ref, rfl, rfl, (by rw [upd_ne hn]; exact x1.h.lst o1), upd_same, ?_, fun p hp => ?_⟩
    · have := fa.len.1
      rw [ex, List.length_map, List.length_map]
      exact Nat.le_trans (show fs0.length + fs.length ≤ 1000 by omega) (by decide)
    · have k2 : Keep G1 H1 G1 (upd H1 q (.lst (fs.map V.ref))) := Keep.of (Ext.beside x1.sub hq)
      have x2 : Ext G1 H1 G1 (upd H1 q (.lst (fs.map V.ref))) := Ext.beside x1.sub hq
      have F1 := (F.up (x1.trans x2)).own (d := clsD (fs0 ++ fs)) (o := .lst (xs ++ fs.map V.ref)) i hp ⟨_, upd_same, by rw [ex, ← List.map_append]; exact den_fs _⟩
      have k3 : Keep G1 (upd H1 q (.lst (fs.map V.ref))) G1 (upd (upd H1 q (.lst (fs.map V.ref))) p (.lst (xs ++ fs.map V.ref))) := Keep.of (Ext.beside x2.sub hp)
      exact hk fs cs _ _ _ F1 (((Keep.of x1).trans k2).trans k3) (fa.keep (k2.trans k3))
theorem fb_app (i : Nat) {e call : Expr} {sp : LS} (h : PE X e (tLamT X sp)) (hp : ∀ ea, PE X e ea → PE X call (tBM X.K "list" rAppend (tVar i) (tCons ea tNil))) (hs : swapsWith call none pos.line X.env = pure false := by rfl) : FB X (.Expr call pos) i false [sp] := by
  refine ⟨_, ps_expr (hp _ h) hs, fun G0 H0 Γ σ G H E fs0 F ho _ hl hk => ?_⟩
  have hg := gat_get Γ i _ (ho rfl) (by simp)
  obtain ⟨q0, e1, g1, h01, xs0, o1, o2⟩ := F.at_ i _ hg
  refine ⟨.ref q0, e1, .inl ⟨rfl, xs0, SqL.of o1⟩, ?_⟩
  refine rd_lamT F.sub fun f c G1 H1 x1 fa hc => ?_
  have F1 := F.up x1
  obtain ⟨q1, e2, g2, h02, xs, o3, o4⟩ := F1.at_ i _ hg
  rw [e1] at e2
  cases e2
  refine ⟨q0, xs, .ref f, rfl, rfl, o3, ?_, ?_⟩
  · rw [o4.length, List.length_map]
    exact Nat.lt_of_lt_of_le (show fs0.length < 1000 by
      have : [sp].length = 1 := rfl
      omega) (by decide)
  · have F2 := F1.mut (d' := clsD (fs0 ++ [f])) (o := .lst (xs ++ [.ref f])) hg rfl e1 g2 h02 o3 trivial ⟨_, upd_same, by rw [den_fsI o4]; exact (by
      have := den_fs (K := X.K) (G := G1) (fs0 ++ [f])
      rw [List.map_append] at this
      exact this)⟩
    have k2 : Keep G1 H1 G1 (upd H1 q0 (.lst (xs ++ [.ref f]))) := ⟨Same.refl _, fun b o hb fo => by
      rw [upd_ne (fun z => by
        rw [z, o3] at hb
        exact fo.1 (Option.some.inj hb ▸ trivial))]
      exact hb⟩
    exact hk [f] [c] _ _ _ F2 ((Keep.of x1).trans k2) ⟨⟨fa, k2.h _ _ hc (fix_code _ _)⟩, trivial⟩
theorem gat_same : ∀ {Γ : Ga} {i : Nat} {s : Sl}, i < Γ.length → gat (gset Γ i s) i = s
  | _ :: _, 0, _, _ => rfl
  | _ :: r, i + 1, _, h => gat_same (Γ := r) (i := i) (Nat.lt_of_succ_lt_succ h)
/-- what follows: for each list of functions -/
def tsFns (i h : Nat) (ts : List TP) (m : TP → TSp) : TSp := fun P Γ => i < Γ.length ∧ ∀ (fs : List Addr) (l : List (Addr × HO)) (Gx : Hp), fs.length = ts.length → m (tpAskV fs l Gx i h ts) P (gset Γ i (.pf (clsD fs) l Gx))
/-- statements, ahead of which slot i holds the lambdas sps0 -/
def FBS (X : Cx) (W : WX) (sts : List Stmt) (i h : Nat) (fst : Bool) (sps0 : List LS) (T : List TP) (m : TP → TSp) : Prop := ∃ ts, PSs X sts ts ∧ ∀ (G0 H0 : Hp) (Γ Γ0 : Ga) (σ : L2.St) (G H : Hp) (P : PEn) (E : Ends) (fs0 cs0 : List Addr), Fr X.K G0 H0 Γ σ G H → (∀ y, gset Γ i y = gset Γ0 i y) → Γ.length = Γ0.length →
  (fst = false → gat Γ i = .ow (clsD fs0)) → (fst = true → fs0 = []) → FunsAt X G H sps0 fs0 cs0 → tsFns i h T m P Γ0 → EOk X.K W G0 H0 P E → ts E σ H
theorem fbs_cons {st : Stmt} {rest : List Stmt} {h : Nat} {fst : Bool} {sps0 sps1 : List LS} {T : List TP} {m : TP → TSp} (a : FB X st i fst sps1) (b : FBS X W rest i h false (sps0 ++ sps1) T m) (hz : sps0.length + sps1.length ≤ 1000 := by decide) : FBS X W (st :: rest) i h fst sps0 T m := by
  obtain ⟨t1, p1, r1⟩ := a
  obtain ⟨t2, p2, r2⟩ := b
  refine ⟨_, pss_cons p1 p2, fun G0 H0 Γ Γ0 σ G H P E fs0 cs0 F hΓ hlen h1 h2 fa ht ok => ?_⟩
  refine r1 G0 H0 Γ σ G H { E with nx := t2 E } fs0 F h1 h2 (by rw [fa.len.1]; exact hz) fun fs cs σ' G' H' F' k fa' => ?_
  refine r2 G0 H0 _ Γ0 σ' G' H' P E (fs0 ++ fs) (cs0 ++ cs) F' (fun y => by rw [gset2]; exact hΓ y) (by rw [gset_eq, List.length_set]; exact hlen) (fun _ => ?_) (fun z => by cases z) ((fa.keep k).app fa') ht ok
  exact gat_same (by rw [hlen]; exact ht.1)
/-- the facts' list -/
def facts (X : Cx) (cs : List Addr) : List (Addr × HO) := cs.map fun c => (c, LamX.CodeO c (X.env.qual ++ "<lambda>"))
theorem funs_of {X : Cx} {G G' H H' : Hp} : ∀ {sps : List LS} {fs cs : List Addr}, FunsAt X G H sps fs cs → (∀ q ∈ facts X cs, H' q.1 = some q.2) → Same G G' → FunsAt X G' H' sps fs cs
  | [], [], [], _, _, _ => trivial
  | sp :: sps, f :: fs, c :: cs, ⟨⟨h1, h2⟩, h3⟩, hf, e => ⟨⟨h1.up e, hf (c, _) List.mem_cons_self⟩, funs_of h3 (fun q hq => hf q (List.mem_cons_of_mem _ hq)) e⟩
theorem facts_in {X : Cx} {G H : Hp} : ∀ {sps : List LS} {fs cs : List Addr}, FunsAt X G H sps fs cs → ∀ q ∈ facts X cs, H q.1 = some q.2 ∧ FixO q.2
  | [], [], [], _, q, hq => by cases hq
  | sp :: sps, f :: fs, c :: cs, ⟨⟨h1, h2⟩, h3⟩, q, hq => by
    rcases List.mem_cons.mp hq with rfl | hq
    · exact ⟨h2, fix_code _ _⟩
    · exact facts_in h3 q hq
/-- pure data beside which objects are known -/
theorem Fr.putF {K : PySem.W.Frag} {G0 H0 G H : Hp} {Γ : Ga} {σ : L2.St} (F : Fr K G0 H0 Γ σ G H) {i : Nat} {v : V} {d : D} {l : List (Addr × HO)} {Gx : Hp} (e : σ[i]? = some (some v)) (n : Den K G v d) (hl : ∀ q ∈ l, H q.1 = some q.2 ∧ FixO q.2) (hx : Same Gx G) : Fr K G0 H0 (gset Γ i (.pf d l Gx)) σ G H := by
  refine ⟨by rw [gset_eq, List.length_set]; exact F.len, F.e, fun j s h => ?_, fun a b q s t h1 h2 h3 h4 h5 h6 => ?_⟩
  · rw [gset_eq] at h
    by_cases hj : i = j
    · subst hj
      have hlt : i < Γ.length := by
        have := (List.getElem?_eq_some_iff.mp h).1
        rw [List.length_set] at this
        exact this
      rw [List.getElem?_set_self hlt] at h
      cases h
      exact ⟨⟨v, e, n⟩, hl, hx⟩
    · rw [List.getElem?_set_ne hj] at h
      exact F.at_ j s h
  · have f : ∀ (a : Nat) (s : Sl), (gset Γ i (.pf d l Gx))[a]? = some s → s.owns → Γ[a]? = some s := fun a s h1 h2 => by
      rw [gset_eq] at h1
      by_cases ha : i = a
      · subst ha
        have hlt : i < Γ.length := by
          have := (List.getElem?_eq_some_iff.mp h1).1
          rw [List.length_set] at this
          exact this
        rw [List.getElem?_set_self hlt] at h1
        cases h1
        exact h2.elim
      · rw [List.getElem?_set_ne ha] at h1
        exact h1
    exact F.dj a b q s t (f a s h1 h2) h2 (f b t h3 h4) h4 h5 h6
theorem fbs_end {sts : List Stmt} {g : Addr} {h : Nat} {sps : List LS} {T : List TP} {m : TP → TSp} (hl : T.length = sps.length) (hr : ∀ (j : Nat) (sp : LS) (t : TP), sps[j]? = some sp → T[j]? = some t → AskRun X g sp t) (b : ∀ act, ActF X g i h act → PSS X W sts (m act)) : FBS X W sts i h false sps T m := by
  refine ⟨fun E σ H => ∃ act, ∃ A : ActF X g i h act, ∃ G0 H0 Γ G P, Fr X.K G0 H0 Γ σ G H ∧ m act P Γ ∧ EOk X.K W G0 H0 P E, ⟨fun pins s σ H D I ⟨act, A, G0, H0, Γ, G, P, F, hm, ok⟩ => ?_⟩, fun G0 H0 Γ Γ0 σ G H P E fs0 cs0 F hΓ hlen h1 _ fa ht ok => ?_⟩
  · obtain ⟨ts, p, r⟩ := (b act A).ex
    exact p.run pins s σ H D I (r G0 H0 Γ σ G H P D F hm ok)
  · have hs := gat_get Γ i _ (h1 rfl) (by simp)
    obtain ⟨q0, e1, g1, h01, xs, o1, o2⟩ := F.at_ i _ hs
    have F1 := F.thaw hs e1 g1 h01 o1 trivial
    have sm : Same G (upd G q0 (.lst xs)) := same_upd g1
    have F2 := F1.putF (l := facts X cs0) (Gx := G) e1 (Den.lst upd_same (o2.up sm)) (facts_in fa) sm
    rw [gset2, hΓ] at F2
    refine ⟨tpAskV fs0 (facts X cs0) G i h T, ⟨sps, fs0, cs0, _, _, T, rfl, fun G' H' hq hx => funs_of fa hq hx, hl, hr⟩, G0, H0, _, _, P, F2, ht.2 fs0 (facts X cs0) G ?_, ok⟩
    rw [hl]
    exact fa.len.1
inductive AskAll (X : Cx) (g : Addr) : List LS → List TP → Prop
  | nil : AskAll X g [] []
  | cons {sp : LS} {t : TP} {sps : List LS} {T : List TP} : AskRun X g sp t → AskAll X g sps T → AskAll X g (sp :: sps) (t :: T)
theorem AskAll.len {g : Addr} : ∀ {sps : List LS} {T : List TP}, AskAll X g sps T → T.length = sps.length
  | _, _, .nil => rfl
  | _, _, .cons _ h => by rw [List.length_cons, List.length_cons, h.len]
theorem AskAll.at {g : Addr} : ∀ {sps : List LS} {T : List TP}, AskAll X g sps T → ∀ (j : Nat) (sp : LS) (t : TP), sps[j]? = some sp → T[j]? = some t → AskRun X g sp t
  | _, _, .nil, _, _, _, h, _ => by simp at h
  | _, _, .cons a h, 0, _, _, h1, h2 => by cases h1; cases h2; exact a
  | _, _, .cons a h, j + 1, _, _, h1, h2 => h.at j _ _ h1 h2
theorem fbs_all {sts : List Stmt} {g : Addr} {h : Nat} {sps : List LS} {T : List TP} {m : TP → TSp} (hr : AskAll X g sps T) (b : ∀ act, ActF X g i h act → PSS X W sts (m act)) : FBS X W sts i h false sps T m := fbs_end hr.len hr.at b
theorem ss_fns {sts : List Stmt} {h : Nat} {T : List TP} {m : TP → TSp} (b : FBS X W sts i h true [] T m) : PSS X W sts (tsFns i h T m) := by
  obtain ⟨ts, p, r⟩ := b
  exact ⟨ts, p, fun G0 H0 Γ σ G H P E F ht ok => r G0 H0 Γ Γ σ G H P E [] [] F (fun _ => rfl) rfl (fun z => by cases z) (fun _ => rfl) trivial ht ok⟩
end
end PL
set_option Elab.async false
set_option linter.all false
set_option maxRecDepth 100000
set_option maxHeartbeats 1000000
namespace PL
open PySem L2 PyProof.Rows
variable [Tabl]
/-- name = name + [..]: the two names unify apart (else the unifier takes minutes) -/
theorem fb_cat2 {X : Cx} {es : List Expr} {sps : List LS} {x x' : PySem.Str} {p2 p3 p4 p5 : Pos} {pos : Pos} (i : Nat) (hf : PFs X es sps) (nd : X.N.Nodup) (hxx : x' = x := by rfl) (hi : X.N[i]? = some x := by rfl) (hx : Loc X.env.scope x := by first | exact Or.inl rfl | exact Or.inr rfl) (hv : Vis X.env.scope x := by first | exact Or.inl rfl | exact Or.inr (Or.inl rfl) | exact Or.inr (Or.inr rfl))
    (hd : (x == ("__debug__" : PySem.Str)) = false := by decide) (hcd : (x == ("__classdict__" : PySem.Str)) = false := by decide)
    (hfn : X.fn x = true ∨ X.env.scope.names.lookup x = some .local := by first | exact .inl rfl | exact .inr rfl) (hs : swapsWith (.BinOp (.Name x' p4) .Add (.List es p3) p5) (some (.Name x p2)) pos.line X.env = pure false := by rfl) : FB X (.Assign [.Name x p2] (.BinOp (.Name x' p4) .Add (.List es p3) p5) pos) i false sps := by
  subst hxx
  exact fb_cat i hf nd hi hx hv hd hcd hfn hs
end PL
set_option Elab.async false
set_option linter.all false
set_option maxRecDepth 100000
set_option maxHeartbeats 4000000
namespace PL
open PySem L2 PyProof.Rows
variable [Tabl]
section
variable {X : Cx} {W : WX} {pins : List (Addr × Obj)} {σ : L2.St} {H : Hp} {s : Shared}
theorem ins_at (I : Inv X pins σ H s) {a C dx : Addr} {fs : List (PySem.Str × V)} (e : H a = some (.ins C dx fs)) : ∃ od, PySem.W.InstAt s.heap a (PySem.W.instObj C dx) C (some od) :=
  let ⟨_, J, _⟩ := ins_get I.hok e
  let ⟨od, J, _⟩ := J.look
  ⟨od, J⟩
end
end PL
set_option Elab.async false
set_option linter.all false
set_option maxRecDepth 100000
set_option maxHeartbeats 4000000
namespace PL
open PySem L2 PyProof.Rows
end PL
set_option Elab.async false
set_option linter.all false
set_option maxRecDepth 100000
set_option maxHeartbeats 4000000
namespace PL
open PySem L2 PyProof.Rows
variable [Tabl]
section
variable {X : Cx} {W : WX} {pins : List (Addr × Obj)} {σ : L2.St} {H : Hp} {s : Shared} {a b : Expr} {ea eb : TE} {ta tb : TP} {pos p : Pos} {k j : Nat} {ms : List (Addr × FS)} {op : Operator}
def MCall (X : Cx) (W : WX) (k : Nat) (C : Addr) (m : PySem.Str) (vs : List V) (σ : L2.St) (H : Hp) (Q : VK) : Prop := ∃ fn fs, Meth X.K C m fn ∧ FnR X.prog X.w X.K X.mg X.base (L2.CX X.prog X.w) k fn (spOf X.K vs.length fs) ∧ spOf X.K vs.length fs vs H Q (WE W σ)
end
def okStr (d : D) : Prop := ∃ s, d = .str s
end PL
set_option Elab.async false
set_option linter.all false
set_option maxRecDepth 100000
set_option maxHeartbeats 4000000
namespace PL
open PySem L2 PyProof.Rows
variable [Tabl]
section
variable {X : Cx} {W : WX} {pins : List (Addr × Obj)} {σ : L2.St} {H : Hp} {s : Shared} {a b fe e : Expr} {es : List Expr} {ta tb tf : TP} {tl : TL} {pos : Pos} {k j n : Nat} {ms : List (Addr × FS)}
/-- a call one room deeper that may raise -/
theorem fn_runAS {A : Around} {k : Nat} {fn : Addr} {sp : Sp} {E : XK} {us : List Value} {vs : List V} {Q : VK} (hf : A.frames = X.A.frames) (hr : Room k A) (hx : PassesAt (L2.CX X.prog X.w) X σ E) (I : Inv X pins σ H s) (r : Vals vs us) (R : FnR X.prog X.w X.K X.mg X.base (L2.CX X.prog X.w) k fn sp)
    (q : sp vs H Q E) : wpAny (model X.prog X.w) A (call (.ref fn) us) (EP X pins σ Q) X.xe s := by
  have e := I.env0
  have e0 : Env0 X.prog X.w X.K X.mg X.base A X.stack s H := ⟨by rw [hf]; exact e.frames, e.mod, e.bs, e.bsz, e.funs, e.frf, e.hok, e.bare⟩
  refine wpAny_call (codeAny_mono (R A X.stack s H us vs Q E hr e0 r q) fun r s' hq => ?_)
  cases r with
  | error e => exact hx pins H s e s' I hq
  | ok fl =>
    cases fl with
    | ret u => exact I.after hq
    | next => exact False.elim hq
    | brk => exact False.elim hq
    | cont => exact False.elim hq
/-- the method that stands under a dunder is a function of the program, its object kept -/
def FnAt (K : PySem.W.Frag) (C : Addr) (m : PySem.Str) : Prop := ∃ f, PySem.W.findIn K (.ref C) m = some (some (.ref f)) ∧ PySem.W.fnIn K f = true
theorem FnAt.fi {K : PySem.W.Frag} {C f : Addr} {m : PySem.Str} (h : FnAt K C m) (mt : Meth K C m f) : PySem.W.fnIn K f = true := by
  obtain ⟨g, h1, h2⟩ := h
  have := mt.at_
  rw [h1] at this
  cases this
  exact h2
def tpGetO (ms : List (Addr × FS)) (ta tb : TP) : TP := fun Γ k kx => ta Γ (fun d => match d with
  | .ins C fs => ∃ f, (C, f) ∈ ms ∧ tb Γ (fun e => f [.ins C fs, e] k kx) kx
  | _ => False) kx
def rGetO (X : Cx) (W : WX) (k : Nat) (σ : L2.St) : R2 := fun x y H Q => ∃ a C dx fvs, x = .ref a ∧ H a = some (.ins C dx fvs) ∧ FnAt X.K C "__getitem__" ∧ MCall X W k C "__getitem__" [x, y] σ H Q
theorem p_getO (hm : ∀ q ∈ ms, Mt X.prog X.w X.K X.mg X.base q.1 "__getitem__" k 1 q.2) (hfi : ∀ q ∈ ms, FnAt X.K q.1 "__getitem__") (hr : Room j X.A) (hj : k + 1 ≤ j) (tk : Takes X W) (ha : PP X W a ta) (hb : PP X W b tb)
    (hsl : ∀ x i, subscripted b true (.ref x) i = runValue (.builtin "lifetime.subscript" ⟨[.ref x, i], []⟩) := by intro _ _; with_unfolding_all rfl) : PP X W (.Subscript a b pos) (tpGetO ms ta tb) := by
  obtain ⟨ea, pa, ra⟩ := ha.ex
  obtain ⟨eb, pb, rb⟩ := hb.ex
  refine ⟨fun σ H Q => tOp (rGetO X W k σ) ea eb σ H Q, ⟨fun pins s σ H Q I h => Subscript_ (binT pa pb I h fun v u s2 x y H2 I2 rx ry q => ?_)⟩, fun G0 H0 Γ σ G H kd kx Q F ht hk hx => ?_⟩
  · obtain ⟨p, C, dx, fvs, rfl, ep, hfn, fn, fs, mt, R, q⟩ := q
    cases rx
    obtain ⟨od, J⟩ := ins_at I2 ep
    obtain ⟨m, hF⟩ := I2.fr
    refine PySem.W.sub_K hF I2.ok.mod.kin J mt.at_ (hfn.fi mt) mt.fn ?_ (hsl _ _)
    exact fn_runAS rfl ((hr.mono hj).in1) (passAt tk σ) I2 (.cons (show L2.RelV (.ref p) (Value.ref p) from rfl) (.cons ry .nil)) R q
  · refine ra G0 H0 Γ σ G H _ kx _ F ht (fun d v G1 H1 k1 x1 n1 => ?_) hx
    cases d with
    | ins C fs =>
      obtain ⟨f, hC, k2⟩ := k1
      refine rb G0 H0 Γ σ G1 H1 _ kx _ (F.up x1) k2 (fun e u G2 H2 k3 x2 n2 => ?_) (hx.up x1)
      have n1' := n1.up x2.g
      obtain ⟨r, dx, fvs, rfl, h3, h4⟩ := (show DenU X.K H2 G2 H2 v (.ins C fs) from .inl n1').ins x2.sub
      obtain ⟨fn, mt, R⟩ := (hm _ hC).ex
      exact ⟨r, C, dx, fvs, rfl, h3, hfi _ hC, fn, f, mt, R, rd_after (G0 := G0) (H0 := H0) (Γ := Γ) (x1.trans x2) (.cons n1' (.cons n2 .nil)) rfl k3 hk hx⟩
    | _ => exact k1.elim
def tpCallI (ms : List (Addr × FS)) (n : Nat) (tf : TP) (tl : TL) : TP := fun Γ k kx => tf Γ (fun d => match d with
  | .ins C fs => ∃ f, (C, f) ∈ ms ∧ tl Γ (fun es => es.length = n ∧ f (.ins C fs :: es) k kx) kx
  | _ => False) kx
theorem p_callI (hm : ∀ q ∈ ms, Mt X.prog X.w X.K X.mg X.base q.1 "__call__" k n q.2) (hfi : ∀ q ∈ ms, FnAt X.K q.1 "__call__") (hr : Room j X.A) (hj : k ≤ j) (tk : Takes X W) (hf : PP X W fe tf) (ha : PL' X W (e :: es) tl)
    (ht : eval (.Call fe (e :: es) [] pos) X.env = (do callWith pos (← eval fe X.env) [] (backTo pos (starEach (e :: es) X.env)) (backToKw pos (keywordEach [] X.env))) := by rfl)
    (he : starEach (e :: es) X.env = (false, eval e X.env) :: starEach es X.env := by rfl) (hpl : (backTo pos (starEach es X.env)).any (·.1) = false := by rfl) : PP X W (.Call fe (e :: es) [] pos) (tpCallI ms n tf tl) := by
  obtain ⟨ef, pf, rf⟩ := hf.ex
  obtain ⟨ea, pa, ra⟩ := ha.ex
  refine ⟨fun σ H Q => ef σ H fun y H1 => ∃ a C, y = V.ref a ∧ ea σ H1 fun vs H2 => StX.InsC X H2 a C ∧ FnAt X.K C "__call__" ∧ MCall X W k C "__call__" (V.ref a :: vs) σ H2 Q, ⟨fun pins s σ H Q I h => ?_⟩, fun G0 H0 Γ σ G H kd kx Q F ht hk hx => ?_⟩
  · refine Call_ (thn (pf.run pins s σ H _ I h) fun u s1 ⟨y, H1, I1, ry, a, C, ey, q⟩ => ?_) ht
    subst ey
    obtain rfl : u = Value.ref a := ry
    refine StX.callO_with (thn (pa.run pos pins s1 σ H1 _ I1 q) fun us s2 ⟨vs, H2, I2, r, hi, hfn, fn, fs, mt, R, q2⟩ => ?_) he hpl
    obtain ⟨ox, od, J, hd⟩ := StX.insC_at I2 hi
    refine ⟨⟨C, ox, od, J, hd⟩, wpAny_call (PySem.W.kco_code I2.kIn J hd mt.at_ mt.fn (hfn.fi mt) ?_)⟩
    exact run_fnRS (us := .ref a :: us) (vs := .ref a :: vs) R (hr.mono hj) (passAt tk σ) I2 (.cons rfl r) q2
  · refine rf G0 H0 Γ σ G H _ kx _ F ht (fun d v G1 H1 k1 x1 n1 => ?_) hx
    cases d with
    | ins C fs =>
      obtain ⟨f, hC, k2⟩ := k1
      obtain ⟨r, dx, fvs, rfl, h3, h4⟩ := (show DenU X.K H1 G1 H1 v (.ins C fs) from .inl n1).ins x1.sub
      refine ⟨r, C, rfl, ra G0 H0 Γ σ G1 H1 _ kx _ (F.up x1) k2 (fun ds vs G2 H2 k3 x2 n2 => ?_) (hx.up x1)⟩
      have n1' := n1.up x2.g
      obtain ⟨r', dx', fvs', e', h3', h4'⟩ := (show DenU X.K H2 G2 H2 (V.ref r) (.ins C fs) from .inl n1').ins x2.sub
      cases e'
      obtain ⟨fn, mt, R⟩ := (hm _ hC).ex
      have hl : (V.ref r :: vs).length = n + 1 := by rw [List.length_cons, n2.length, k3.1]
      exact ⟨.inr ⟨_, _, h3'⟩, hfi _ hC, fn, f, mt, by rw [hl]; exact R, rd_after (G0 := G0) (H0 := H0) (Γ := Γ) (x1.trans x2) (.cons n1' n2) (by simp [n2.length]) k3.2 hk hx⟩
    | _ => exact k1.elim
end
end PL
set_option Elab.async false
set_option linter.all false
set_option maxRecDepth 100000
set_option maxHeartbeats 4000000
namespace PL
open PySem L2 PyProof.Rows
variable [Tabl]
section
variable {X : Cx} {W : WX} {a b e : Expr} {ta tb te : TP} {pos p2 : Pos} {k j : Nat} {ms : List (Addr × FS)}
def tsSetO (ms : List (Addr × FS)) (ta tb te : TP) : TSp := fun P Γ => te Γ (fun w => ta Γ (fun d => match d with
  | .ins C fs => ∃ f, (C, f) ∈ ms ∧ tb Γ (fun i => f [.ins C fs, i, w] (fun _ => P.nx Γ) (fun x => P.xx x Γ)) (fun x => P.xx x Γ)
  | _ => False) (fun x => P.xx x Γ)) (fun x => P.xx x Γ)
def gSetO (X : Cx) (W : WX) (k : Nat) (ea eb : TE) : TG := fun v σ H Q => ea σ H fun x H1 => eb σ H1 fun y H2 => ∃ p C dx fvs, x = V.ref p ∧ H2 p = some (.ins C dx fvs) ∧ PySem.W.noSeq X.K C = true ∧ MCall X W k C "__setitem__" [x, y, v] σ H2 (fun _ H3 => Q σ H3)
theorem pg_setO {ea eb : TE} (hr : Room j X.A) (hj : k ≤ j) (tk : Takes X W) (pa : PE X a ea) (pb : PE X b eb)
    (ha : ∀ v, assign (.Subscript a b p2) X.env v = (do
      let ov ← holding [v] (eval a X.env)
      let iv ← holding [v, ov] (eval b X.env)
      standAt p2
      holding [v, ov, iv] (setItem ov iv v)
      release [v, ov, iv] []) := by intro _; rfl) : PG X (.Subscript a b p2) (gSetO X W k ea eb) := by
  refine ⟨fun pins s σ H v u Q I r h => ?_⟩
  rw [ha]
  refine wpAny_bind (wpAny_holding (thn (pa.run pins s σ H _ I h) fun ov s1 ⟨x, H1, I1, r1, q1⟩ => ?_))
  refine wpAny_bind (wpAny_holding (thn (pb.run pins s1 σ H1 _ I1 q1) fun iv s2 ⟨y, H2, I2, r2, q2⟩ => ?_))
  obtain ⟨p, C, dx, fvs, rfl, ep, hq, fn, fs, mt, R, q⟩ := q2
  cases r1
  obtain ⟨od, J⟩ := ins_at I2 ep
  obtain ⟨m, hF⟩ := I2.fr
  refine wpAny_bind (wpAny_standAt (wpAny_bind (wpAny_holding ?_)))
  refine PySem.W.ksp_setItem (Q := fun _ s' => wpAny (model X.prog X.w) X.A (release [u, Value.ref p, iv] []) (fun _ s' => ∃ σ' H', Inv X pins σ' H' s' ∧ Q σ' H') X.xe s') hF I2.ok.mod.kin J hq mt.at_ mt.fn ?_
  refine wpAny_mono (wpAny_call (run_fnRS (us := [.ref p, iv, u]) (vs := [.ref p, y, v]) R (hr.mono hj) (passAt tk σ) I2 (.cons rfl (.cons r2 (.cons r .nil))) q)) (fun w s' z => ?_) fun _ _ e => e
  obtain ⟨w', H3, I3, rw', q3⟩ := z
  exact wpAny_release ⟨σ, H3, I3, q3⟩
theorem s_setO (hm : ∀ q ∈ ms, Mt X.prog X.w X.K X.mg X.base q.1 "__setitem__" k 2 q.2) (hq : ∀ q ∈ ms, PySem.W.noSeq X.K q.1 = true) (hr : Room j X.A) (hj : k ≤ j) (tk : Takes X W) (ha : PP X W a ta) (hb : PP X W b tb) (he : PP X W e te)
    (hg : ∀ v, assign (.Subscript a b p2) X.env v = (do
      let ov ← holding [v] (eval a X.env)
      let iv ← holding [v, ov] (eval b X.env)
      standAt p2
      holding [v, ov, iv] (setItem ov iv v)
      release [v, ov, iv] []) := by intro _; rfl)
    (hs : swapsWithSole [.Subscript a b p2] e pos.line X.env = pure false := by rfl) (hw : swappedStores [.Subscript a b p2] e X.env = pure none := by rfl)
    (h1 : (assignEach [.Subscript a b p2] X.env).map (·.2) = [assign (.Subscript a b p2) X.env] := by rfl) : PS1 X W (.Assign [.Subscript a b p2] e pos) (tsSetO ms ta tb te) := by
  obtain ⟨ea, pa, ra⟩ := ha.ex
  obtain ⟨eb, pb, rb⟩ := hb.ex
  obtain ⟨ee, pe, re⟩ := he.ex
  refine ⟨_, ps_asg pe (pg_setO hr hj tk pa pb hg) hs hw h1, fun G0 H0 Γ σ G H P E F ht ok => ?_⟩
  refine re G0 H0 Γ σ G H _ _ _ F ht (fun w0 v0 G1 H1 k1 x1 n1 => ?_) (ok.x F)
  have F1 := F.up x1
  refine ra G0 H0 Γ σ G1 H1 _ _ _ F1 k1 (fun d v G2 H2 k2 x2 n2 => ?_) ((ok.x F).up x1)
  cases d with
  | ins C fs =>
    obtain ⟨f, hC, k3⟩ := k2
    refine rb G0 H0 Γ σ G2 H2 _ _ _ (F1.up x2) k3 (fun i u G3 H3 k4 x3 n3 => ?_) (((ok.x F).up x1).up x2)
    have n2' := n2.up x3.g
    have n1' := n1.up (x2.trans x3).g
    obtain ⟨r, dx, fvs, rfl, h3, h4⟩ := (show DenU X.K H3 G3 H3 v (.ins C fs) from .inl n2').ins x3.sub
    obtain ⟨fn, mt, R⟩ := (hm _ hC).ex
    exact ⟨r, C, dx, fvs, rfl, h3, hq _ hC, fn, f, mt, R, rd_after (G0 := G0) (H0 := H0) (Γ := Γ) ((x1.trans x2).trans x3) (.cons n2' (.cons n3 (.cons n1' .nil))) rfl k4 (fun d v G' H' kd ex dn => ok.nx Γ σ G' H' kd (F.up ex)) (ok.x F)⟩
  | _ => exact k2.elim
end
end PL
set_option Elab.async false
set_option linter.all false
set_option maxRecDepth 100000
set_option maxHeartbeats 4000000
namespace PL
open PySem PySem.Spec PyProof.Rows L2
theorem tuple_mul1 (l : Addr) (items : Array Value) (n : Nat) (dd : Option Addr) (sl : Array (Option Value)) (u : Tok) :
    Meets (Builtin.«tuple.__mul__» ⟨[.ref l, .int 1 u], []⟩) (fun _ R s => s.heap.get? l = some { cls := .type "tuple", dict := dd, data := .seq items n, slots := sl } ∧ R (.ok (.ret (Value.ref l))) s) :=
  .of_wp fun prog w A R s h => by
    obtain ⟨hp, g, d, tk, os⟩ := s
    obtain ⟨hl, h⟩ := h
    have f1 := AutoSeq1.idx_int
    wp_walk using wpAny_loadPart' hl
    exact ⟨_, rfl, h⟩
section
variable {X : Cx}
def rRepT1 (K : PySem.W.Frag) : R2 := fun x y H Q => ∃ l xs, x = .ref l ∧ y = .int 1 ∧ SqT K H l xs ∧ xs ≠ [] ∧ Q (.ref l) H
theorem op_repT1 : OpR X (binaryOp .Mult) (rRepT1 X.K) := by
  intro pins s σ H x y v u Q I rx ry h
  obtain ⟨l, xs, rfl, rfl, hT, hne, q⟩ := h
  cases rx
  obtain ⟨t, rfl⟩ := ry
  obtain ⟨its, r, ⟨⟨cls, dd, data, sl⟩, ho, hc, n, hd⟩, hs⟩ := I.tuple hT
  simp only at hc hd
  subst hc hd
  refine wpAny_binaryOp_repeat_ref (T := "tuple") (U := "int") (by decide) ⟨_, ho, rfl⟩ (fun s' => typeIs_int s' 1 t) noFill_tuple_mul F.fills_int_mul F.slot_int_rmul repeat_tuple F.slot_int_index.lookup
    (call_meets F.slot_int_rmul (typeIs_int s 1 t) F.entry_int_rmul (F.args_int_rmul_2 _ _) (int_rmul_tuple 1 t l its.toArray n dd sl)
      ⟨ho, rfl, ⟨_, ho, rfl⟩, call_meets F.slot_tuple_mul ⟨_, ho, rfl⟩ F.entry_tuple_mul (F.args_tuple_mul_2 _ _) (tuple_mul1 l its.toArray n dd sl t) ⟨ho, ?_⟩⟩)
  exact ⟨.ref l, H, I, rfl, q⟩
end
variable [Tabl]
def fMulT : F2
  | .tup xs, .int n, k => (xs ≠ [] ∧ xs.length ≤ 1000 ∧ 1 ≤ n ∧ n ≤ 1000) ∧ k (.tup (List.replicate n.toNat xs).flatten)
  | _, _, _ => False
theorem o_mulT {X : Cx} : OpR X (binaryOp .Mult) (fun x y H Q => rRepT1 X.K x y H Q ∨ rRepT X.K x y H Q) ∧ RdO X.K (fun x y H Q => rRepT1 X.K x y H Q ∨ rRepT X.K x y H Q) fMulT := by
  refine ⟨OpR.or op_repT1 op_repT, ?_⟩
  intro H0 G H v1 v2 d1 d2 k Q s n1 n2 hf hk
  cases d1 with
  | tup i =>
    cases d2 with
    | int j =>
      obtain ⟨⟨h0, h1, h2, h3⟩, hf⟩ := hf
      rcases n1 with n1 | ⟨p, e, g, r⟩
      · cases n1 with
        | @tup a vs _ t1 t2 =>
          have ne : vs ≠ [] := fun e => h0 (by
            rw [e] at t2
            cases t2
            rfl)
          by_cases j1 : j = 1
          · subst j1
            refine .inl ⟨a, vs, rfl, n2.int, s.sqt t1, ne, ?_⟩
            have e : (List.replicate (1 : Int).toNat i).flatten = i := by
              show (List.replicate 1 i).flatten = i
              simp
            rw [e] at hf
            exact hk _ _ G H hf (Ext.refl s) (.tup t1 t2)
          · refine .inr ⟨a, j, vs, rfl, n2.int, s.sqt t1, ne, by omega, h3, by rw [t2.length]; exact h1, fun p hp => ?_⟩
            exact hk _ _ _ _ hf (Ext.new s hp) (.tup (.inl (.inl upd_same)) ((denL_rep t2 _).up (same_upd (s.none hp))))
      · exact r.elim
    | _ => exact hf.elim
  | _ => exact hf.elim
def fAddT : F2
  | .tup xs, .tup ys, k => xs.length + ys.length ≤ sizeLine ∧ k (.tup (xs ++ ys))
  | _, _, _ => False
theorem o_addT {X : Cx} : OpR X (binaryOp .Add) (rCatA X.K) ∧ RdO X.K (rCatA X.K) fAddT := by
  refine ⟨op_catA, ?_⟩
  intro H0 G H v1 v2 d1 d2 k Q s n1 n2 hf hk
  cases d1 with
  | tup i =>
    cases d2 with
    | tup j =>
      rcases n1 with n1 | ⟨p, e, g, r⟩
      · rcases n2 with n2 | ⟨p, e, g, r⟩
        · cases n1 with
          | @tup a vs _ t1 t2 =>
            cases n2 with
            | @tup b us _ t3 t4 =>
              refine ⟨a, b, vs, us, rfl, rfl, s.sqt t1, s.sqt t3, by rw [t2.length, t4.length]; exact hf.1, fun e => ?_, fun _ e => ?_, fun _ _ p hp => ?_⟩
              · subst e
                cases t2
                exact hk _ _ G H hf.2 (Ext.refl s) (.tup t3 t4)
              · subst e
                cases t4
                have h2 := hf.2
                rw [List.append_nil] at h2
                exact hk _ _ G H h2 (Ext.refl s) (.tup t1 t2)
              · exact hk _ _ _ _ hf.2 (Ext.new s hp) (.tup (.inl (.inl upd_same)) ((t2.append t4).up (same_upd (s.none hp))))
        · exact r.elim
      · exact r.elim
    | _ => exact hf.elim
  | _ => exact hf.elim
end PL
set_option Elab.async false
set_option linter.all false
set_option maxRecDepth 100000
set_option maxHeartbeats 4000000
namespace PL
open PySem L2 PyProof.Rows
variable [Tabl]
structure MtK (P : Program) (w : World) (K : PySem.W.Frag) (mg : PySem.Str → Option Value) (base : Heap) (C : Addr) (m : PySem.Str) (k n : Nat) (fs : FS) (ks : List PySem.Str) (is : List Nat) : Prop where
  c : Cls K C
  ex : ∃ f fd ps, Meth K C m f ∧ FnOk P w K mg base (L2.CX P w) k f fd ps (spOf K n fs) ∧ (∀ (s : Shared) (us ws : List Value), us.length = 1 → ws.length = ks.length → BindsTo s fd ⟨us, ks.zip ws⟩ (ps.zip (byIx is .none (us ++ ws)))) ∧ is.length = n ∧ ∀ i ∈ is, i < 1 + ks.length
theorem mtk_mk {P : Program} {w : World} {K : PySem.W.Frag} {mg : PySem.Str → Option Value} {base : Heap} {C : Addr} {m x qual : PySem.Str} {st : Stmt} {f : Addr} {fd : FuncData} {ps : List PySem.Str} {k n : Nat} {fs : FS} {ks : List PySem.Str} {is : List Nat} (c : Cls K C) (mt : Meth K C m f) (F : Fun K x qual st f fd)
    (h : FnOk P w K mg base (L2.CX P w) k f fd ps (spOf K n fs)) (hb : ∀ (kV doc pm : Value) (an : Option Addr) (cdv ct : Value) (us ws : List Value), us.length = 1 → ws.length = ks.length → bindArgs (PySem.W.fnOf x qual (defArgs st) (defBody st) (defScope st) .none kV doc pm an cdv ct) ⟨us, ks.zip ws⟩ = pure (ps.zip (byIx is .none (us ++ ws))))
    (hn : is.length = n) (hi : ∀ i ∈ is, i < 1 + ks.length) : MtK P w K mg base C m k n fs ks is := by
  refine ⟨c, f, fd, ps, mt, h, fun s us ws l1 l2 => ?_, hn, hi⟩
  obtain ⟨oc, od, kV, doc, pm, an, cdv, ct, osl, rfl, lk, hcd⟩ := F.ex
  exact .of_eq (hb kV doc pm an cdv ct us ws l1 l2)
def tpMethK (ms : List (Addr × FS)) (m : PySem.Str) (l : Nat) (is : List Nat) (t : TP) (tl : TL) : TP := fun Γ k kx => t Γ (fun d => match d with
  | .ins C fs => fs.lookup m = none ∧ ∃ f, (C, f) ∈ ms ∧ tl Γ (fun es => es.length = l ∧ f (byIx is .non ([d] ++ es)) k kx) kx
  | _ => False) kx
section
variable {X : Cx} {W : WX} {o : Expr} {kws : List Keyword} {t : TP} {tl : TL} {m : PySem.Str} {pos apos : Pos} {k n j : Nat} {ms : List (Addr × FS)} {ks : List PySem.Str} {is : List Nat}
theorem p_methK {l : Nat} (hm : ∀ q ∈ ms, MtK X.prog X.w X.K X.mg X.base q.1 m k n q.2 ks is) (hr : Room j X.A) (hj : k ≤ j) (tk : Takes X W) (ho : PP X W o t) (ha : PKw X W kws tl) {pl : Sem Bool} (hlk : ks.length = l := by rfl)
    (hall : (backToKw pos (keywordEach kws X.env)).all (·.1.isSome) = true := by rfl) (hks : (backToKw pos (keywordEach kws X.env)).filterMap (·.1) = ks := by rfl)
    (hpl : ((backTo pos (starEach [] X.env)).any (·.1) || (backToKw pos (keywordEach kws X.env)).any (·.1.isNone)) = false := by rfl)
    (ht : eval (.Call (.Attribute o m apos) [] kws pos) X.env = (do
      let ov ← eval o X.env
      standAt apos.atName
      let (f, first) ← holding [ov] (getMethod ov m pl)
      callWith pos f first (backTo pos (starEach [] X.env)) (backToKw pos (keywordEach kws X.env))) := by rfl) : PP X W (.Call (.Attribute o m apos) [] kws pos) (tpMethK ms m l is t tl) := by
  subst hlk
  obtain ⟨eo, po, ro⟩ := ho.ex
  obtain ⟨ea, pa, ra⟩ := ha.ex
  refine ⟨fun σ H Q => eo σ H fun x H1 => ∃ a C dx fvs fn fd ps fs, x = .ref a ∧ H1 a = some (.ins C dx fvs) ∧ fvs.lookup m = none ∧ Cls X.K C ∧ Meth X.K C m fn ∧ FnOk X.prog X.w X.K X.mg X.base (L2.CX X.prog X.w) k fn fd ps (spOf X.K n fs) ∧
    (∀ (s : Shared) (us ws : List Value), us.length = 1 → ws.length = ks.length → BindsTo s fd ⟨us, ks.zip ws⟩ (ps.zip (byIx is .none (us ++ ws)))) ∧ (∀ i ∈ is, i < 1 + ks.length) ∧ ea σ H1 fun zs H2 => zs.length = ks.length ∧ spOf X.K n fs (byIx is .non ([x] ++ zs)) H2 Q (WE W σ), ⟨fun pins s σ H Q I h => ?_⟩, fun G0 H0 Γ σ G H kd kx Q F ht hk hx => ?_⟩
  · refine PySem.W.methodCall_KW (pl := pl) (thn (po.run pins s σ H _ I h) fun u s1 ⟨x, H1, I1, rx, a, C, dx, fvs, fn, fd, ps, fs, ex, ea, l, c, mt, R, hb, hi, q⟩ => ?_) ht
    subst ex
    obtain rfl : u = Value.ref a := rx
    refine getmeth_ok I1 ea c mt l ?_
    refine PySem.W.callWith_KW0 (first := [.ref a]) (h₀ := X.base) I.ok.mod.kin mt.kp hall (thn (pa.run pos pins s1 σ H1 _ I1 q) fun ws s2 ⟨zs, H2, I2, rz, l2, q2⟩ => ⟨I2.kIn, ?_⟩) hpl
    rw [hks]
    exact run_kw (us := [.ref a]) (vs := [.ref a]) R (hr.mono hj) tk hb hi I2 (.cons rfl .nil) rz rfl (rz.length.symm.trans l2) q2
  · refine ro G0 H0 Γ σ G H _ kx _ F ht (fun d v G1 H1 k1 x1 n1 => ?_) hx
    cases d with
    | ins C fs =>
      obtain ⟨hl, f, hf, k2⟩ := k1
      have M := hm _ hf
      obtain ⟨fn, fd, ps, mt, R, hb, hn, hi⟩ := M.ex
      obtain ⟨a, dx, fvs, rfl, h1, h2⟩ := (show DenU X.K H0 G1 H1 v (.ins C fs) from .inl n1).ins x1.sub
      refine ⟨a, C, dx, fvs, fn, fd, ps, f, rfl, h1, h2.no hl, M.c, mt, R, hb, hi, ?_⟩
      refine ra G0 H0 Γ σ G1 H1 _ kx _ (F.up x1) k2 (fun ds vs G2 H2 k3 x2 n2 => ?_) (hx.up x1)
      obtain ⟨l2, k3⟩ := k3
      refine ⟨by rw [n2.length]; exact l2, ?_⟩
      refine rd_after (G0 := G0) (H0 := H0) (Γ := Γ) (x1.trans x2) (den_by (.cons (n1.up x2.g) n2) is fun i h => ?_) (by unfold byIx; rw [List.length_map]; exact hn) k3 hk hx
      have := hi i h
      show i < (D.ins C fs :: ds).length
      rw [List.length_cons, l2]
      omega
    | _ => exact k1.elim
end
end PL
set_option Elab.async false
set_option linter.all false
set_option maxRecDepth 100000
set_option maxHeartbeats 4000000
namespace PL
def frontAt (s : List Nat) : Nat := frontGo [] 0 s
def rearAt (s : List Nat) : Nat := s.length - 1 - frontAt s.reverse
theorem front_is {s : List Nat} (h : s ≠ []) : IsFront s (frontAt s) := frontGo_ok s [] 0 (fun z => absurd rfl z) h
theorem rear_is {s : List Nat} (h : s ≠ []) : IsRear s (rearAt s) := (front_rev (front_is (by simpa using h))).2
def laidGo (l r : List Nat) : Nat → List Nat
  | 0 => l ++ r
  | n + 1 => if (r.take (n + 1)).isSuffixOf l = true then l ++ r.drop (n + 1) else laidGo l r n
def laid (l r : List Nat) : List Nat := laidGo l r (min l.length r.length)
def sb (s : List Nat) : List Nat :=
  if h : s = [] then [] else laid (sb (s.take (frontAt s)) ++ [s.getD (frontAt s) 0]) (s.getD (rearAt s) 0 :: sb (s.drop (rearAt s + 1)))
termination_by s.length
decreasing_by
  · have := (front_is h).lt
    rw [List.length_take]
    omega
  · have := (rear_is h).lt
    rw [List.length_drop]
    omega
/-- the parts of a log -/
structure Parts (s : List Nat) (i j a b : Nat) (p q : List Nat) : Prop where
  f : IsFront s i
  r : IsRear s j
  ea : s[i]? = some a
  eb : s[j]? = some b
  ep : p = s.take i
  eq : q = s.drop (j + 1)
  na : a ∉ p
  nb : b ∉ q
  cp : ∀ d ∈ s, d ∈ p ∨ d = a
  cq : ∀ d ∈ s, d = b ∨ d ∈ q
  sbe : sb s = laid (sb p ++ [a]) (b :: sb q)
end PL
set_option Elab.async false
set_option linter.all false
set_option maxRecDepth 100000
set_option maxHeartbeats 4000000
namespace PL
open PySem L2
def m_is_log_of : FS := fun ds k kx =>
  (tsRet (tpAnd (tp1 (fIsi "str") (tpVar 0)) (tp1 fAll (tpLc [2] (tiStr (tpVar 0)) (tgName 2) tbYes (tpOp fInS (tpVar 2) (tpVar 1))))))
  (fEnds k kx) (ga0 3 ds)
def m_is_ascending : FS := fun ds k kx =>
  (tsRet (tp1 fAll (tpLc [1] (tiRng2 (tlCons (tpC (.int 1)) (tlCons (tp1 fLenS (tpVar 0)) tlNil))) (tgName 1) tbYes (tpOp fLt (tpOp fIx (tpVar 0) (tpOp fSub (tpVar 1) (tpC (.int 1)))) (tpOp fIx (tpVar 0) (tpVar 1))))))
  (fEnds k kx) (ga0 2 ds)
def m_is_deeds (fs_is_log fs_is_ascending : FS) : FS := fun ds k kx =>
  (tsRet (tpAnd (tpCall 1 fs_is_log (tlCons (tpVar 0) tlNil)) (tpAnd (tpChain fLe fLe (tpC (.int 1)) (tp1 fLenS (tpVar 0)) (tpC (.int 8))) (tpCall 1 fs_is_ascending (tlCons (tpVar 0) tlNil)))))
  (fEnds k kx) (ga0 1 ds)
section
variable {ds : List D} {kd : KD} {kx : KX} {C : Addr}
local instance : Tabl := ⟨[], fun p hp => absurd hp (by simp)⟩
end
end PL
set_option Elab.async false
set_option linter.all false
set_option maxRecDepth 100000
set_option maxHeartbeats 4000000
namespace PL
open PySem L2
def fsIsLogOf : FS := fun ds k _ => match ds with
  | [.str v, .str s] => v.length ≤ 3000 ∧ k (.bl (v.all fun c => decide (c ∈ s)))
  | _ => False
section
variable {ds : List D} {kd : KD} {kx : KX} {C : Addr}
local instance : Tabl := ⟨[], fun p hp => absurd hp (by simp)⟩
theorem is_log_of_ok' : fsIsLogOf ds kd kx → m_is_log_of ds kd kx := by
  intro h
  match ds, h with
  | [.str v, .str s], ⟨hl, h⟩ =>
    refine ⟨by rw [List.length_map]; omega, lc_all (f := fun c => .bl (decide (c ∈ s))) v (fun c _ k' h' => h') ?_⟩
    have e : (v.map fun c => D.bl (decide (c ∈ s))) = (v.map fun c => decide (c ∈ s)).map D.bl := by rw [List.map_map]; rfl
    show onBs (v.map fun c => D.bl (decide (c ∈ s))) _
    rw [e, onBs_map, List.all_map]
    exact h
section
variable {s p q : List Nat} {i j a b : Nat}
theorem Parts.mp (P : Parts s i j a b p q) : ∀ c ∈ p, c ∈ s := fun c hc => by
  rw [P.ep] at hc
  exact List.mem_of_mem_take hc
end
end
end PL
set_option Elab.async false
set_option linter.all false
set_option maxRecDepth 100000
set_option maxHeartbeats 4000000
namespace PL
open PySem L2
def m_is_number : FS := fun ds k kx =>
  (tsRet (tpAnd (tp1 (fIsi "int") (tpVar 0)) (tpNot (tp1 (fIsi "bool") (tpVar 0)))))
  (fEnds k kx) (ga0 1 ds)
def m_is_within (fs_is_number : FS) : FS := fun ds k kx =>
  (tsRet (tpAnd (tpCall 1 fs_is_number (tlCons (tpVar 0) tlNil)) (tpChain fLe fLe (tpVar 1) (tpVar 0) (tpVar 2))))
  (fEnds k kx) (ga0 3 ds)
end PL
set_option Elab.async false
set_option linter.all false
set_option maxRecDepth 100000
set_option maxHeartbeats 4000000
namespace PL
open PySem L2
abbrev okA (s : List Nat) : Prop := 1 ≤ s.length ∧ s.length ≤ 8 ∧ s.Pairwise (· < ·) ∧ ∀ c ∈ s, c ∈ LET
theorem plain_of {t : List Nat} (h : ∀ c ∈ t, c ∈ LET) : D.plain (.str t) = true := by
  show t.all _ = true
  rw [List.all_eq_true]
  exact fun c hc => decide_eq_true (by have := (let_iff (c := c)).mp (h c hc); omega)
theorem eqD_str (a b : List Nat) : eqD (.str a) (.str b) = decide (a = b) := by
  show (SS a == SS b) = _
  by_cases h : a = b
  · rw [h, decide_eq_true rfl]
    exact beq_iff_eq.mpr rfl
  · rw [decide_eq_false h]
    refine beq_eq_false_iff_ne.mpr fun z => h ?_
    have := congrArg (fun x : PySem.Str => x.cps.toList) z
    simpa [SS] using this
def fsIsNum : FS := fun ds k _ => match ds with
  | [d] => (tyD d).isSome = true ∧ k (.bl (match d with | .int _ => true | _ => false))
  | _ => False
def within (lo hi : Int) : D → Bool
  | .int i => decide (lo ≤ i) && decide (i ≤ hi)
  | _ => false
def fsWithin : FS := fun ds k _ => match ds with
  | [d, .int lo, .int hi] => (tyD d).isSome = true ∧ k (.bl (within lo hi d))
  | _ => False
section
variable {ds : List D} {kd : KD} {kx : KX}
local instance : Tabl := ⟨[], fun p hp => absurd hp (by simp)⟩
theorem is_num_ok' : fsIsNum ds kd kx → m_is_number ds kd kx := by
  intro h
  match ds, h with
  | [d], ⟨g, h⟩ =>
    cases d <;> first | exact h | cases g
theorem within_ok' : fsWithin ds kd kx → m_is_within fsIsNum ds kd kx := by
  intro h
  match ds, h with
  | [d, .int lo, .int hi], ⟨g, h⟩ =>
    refine ⟨rfl, g, ?_⟩
    cases d with
    | int i =>
      show (if true = true then (if decide (lo ≤ i) = true then kd (.bl (decide (i ≤ hi))) else kd (.bl false)) else kd (.bl false))
      rw [if_pos rfl]
      have h : kd (.bl (decide (lo ≤ i) && decide (i ≤ hi))) := h
      by_cases z : lo ≤ i
      · rw [decide_eq_true z] at h ⊢
        rw [if_pos rfl]
        exact h
      · rw [decide_eq_false z] at h ⊢
        rw [if_neg Bool.false_ne_true]
        exact h
    | _ => exact h
end
end PL
set_option Elab.async false
set_option linter.all false
set_option maxRecDepth 100000
set_option maxHeartbeats 4000000
namespace PL
open PySem L2
def Ev (t : TP) (Γ : Ga) (d : D) : Prop := ∀ (k : KD) (kx : KX), k d → t Γ k kx
def EvL (t : TL) (Γ : Ga) (ds : List D) : Prop := ∀ (k : List D → Prop) (kx : KX), k ds → t Γ k kx
def EvB (t : TB) (Γ : Ga) (b : Bool) : Prop := ∀ (k : Bool → Prop) (kx : KX), k b → t Γ k kx
section
local instance : Tabl := ⟨[], fun p hp => absurd hp (by simp)⟩
variable {Γ Γ' : Ga} {t ta tb : TP} {tl : TL} {d x y : D} {ds : List D} {i j n : Nat} {P : PEn} {u s r : TSp} {b c : Bool} {cb cc : TB}
theorem ev_var (e : gat Γ i = .pu d) : Ev (tpVar i) Γ d := fun k kx h => by
  show (match gat Γ i with | .pu d => k d | _ => False)
  rw [e]
  exact h
theorem ev_c (d : D) : Ev (tpC d) Γ d := fun _ _ h => h
theorem evl_nil : EvL tlNil Γ [] := fun _ _ h => h
theorem evl_cons (h : Ev t Γ d) (g : EvL tl Γ ds) : EvL (tlCons t tl) Γ (d :: ds) := fun k kx z => h _ _ (g _ _ z)
theorem evl_1 (h : Ev t Γ d) : EvL (tlCons t tlNil) Γ [d] := evl_cons h evl_nil
theorem evl_2 (h : Ev ta Γ x) (g : Ev tb Γ y) : EvL (tlCons ta (tlCons tb tlNil)) Γ [x, y] := evl_cons h (evl_1 g)
theorem evl_3 {tc : TP} {z : D} (h : Ev ta Γ x) (g : Ev tb Γ y) (f : Ev tc Γ z) : EvL (tlCons ta (tlCons tb (tlCons tc tlNil))) Γ [x, y, z] := evl_cons h (evl_2 g f)
theorem ev_lst (h : EvL tl Γ ds) (hl : ds.length ≤ 100000) : Ev (tpLst tl) Γ (.lst ds) := fun k kx z => h _ _ ⟨hl, z⟩
theorem ev_tup (h : EvL tl Γ ds) (hl : ds.length ≤ 100000) : Ev (tpTup tl) Γ (.tup ds) := fun k kx z => h _ _ ⟨hl, z⟩
theorem ev_call {f : FS} (h : EvL tl Γ ds) (hn : ds.length = n) (hf : ∀ k kx, k d → f ds k kx) : Ev (tpCall n f tl) Γ d := fun k kx z => h _ _ ⟨hn, hf k kx z⟩
theorem ev_op {f : F2} (h : Ev ta Γ x) (g : Ev tb Γ y) (hf : ∀ k : KD, k d → f x y k) : Ev (tpOp f ta tb) Γ d := fun k kx z => h _ _ (g _ _ (hf k z))
theorem ev_1 {f : F1} (h : Ev t Γ x) (hf : ∀ k : KD, k d → f x k) : Ev (tp1 f t) Γ d := fun k kx z => h _ _ (hf k z)
theorem ev_addS {a b : List Nat} (h : Ev ta Γ (.str a)) (g : Ev tb Γ (.str b)) (hl : a.length + b.length ≤ sizeLine) : Ev (tpOp fAdd ta tb) Γ (.str (a ++ b)) := ev_op h g fun k z => ⟨hl, z⟩
theorem ev_addL {a b : List D} (h : Ev ta Γ (.lst a)) (g : Ev tb Γ (.lst b)) (hl : a.length + b.length ≤ sizeLine) : Ev (tpOp fAdd ta tb) Γ (.lst (a ++ b)) := ev_op h g fun k z => ⟨hl, z⟩
theorem ev_addI {a b : Int} (h : Ev ta Γ (.int a)) (g : Ev tb Γ (.int b)) : Ev (tpOp fAdd ta tb) Γ (.int (a + b)) := ev_op h g fun k z => z
theorem ev_subI {a b : Int} (h : Ev ta Γ (.int a)) (g : Ev tb Γ (.int b)) : Ev (tpOp fSub ta tb) Γ (.int (a - b)) := ev_op h g fun k z => z
theorem ev_mulS {a : List Nat} {m : Nat} (h : Ev ta Γ (.str a)) (g : Ev tb Γ (.int (m : Nat))) (h1 : m < 1000) (h2 : a.length ≤ 100000) (h3 : a.length * m ≤ 100000) : Ev (tpOp fMulS ta tb) Γ (.str (List.replicate m a).flatten) := ev_op h g fun k z => ⟨m, rfl, h1, h2, h3, z⟩
theorem ev_ixL {l : List D} {z : Int} (h : Ev ta Γ (.lst l)) (g : Ev tb Γ (.int z)) (e : atI l z = some d) : Ev (tpOp fIx ta tb) Γ d := ev_op h g fun k w => by
  show (match atI l z with | some d => k d | none => False)
  rw [e]
  exact w
theorem ev_ixS {l : List Nat} {z : Int} {q : Nat} (h : Ev ta Γ (.str l)) (g : Ev tb Γ (.int z)) (hl : l.length ≤ sizeLine) (e : atI l z = some q) : Ev (tpOp fIx ta tb) Γ (.str [q]) := ev_op h g fun k w => by
  refine ⟨hl, ?_⟩
  show (match atI l z with | some c => k (.str [c]) | none => False)
  rw [e]
  exact w
theorem ev_lenS {l : List Nat} (h : Ev t Γ (.str l)) (hl : l.length ≤ sizeLine) : Ev (tp1 fLenS t) Γ (.int (l.length : Nat)) := ev_1 h fun k z => ⟨hl, z⟩
theorem ev_lenL {l : List D} (h : Ev t Γ (.lst l)) : Ev (tp1 fLenS t) Γ (.int (l.length : Nat)) := ev_1 h fun k z => z
theorem ev_lenT {l : List D} (h : Ev t Γ (.tup l)) : Ev (tp1 fLenS t) Γ (.int (l.length : Nat)) := ev_1 h fun k z => z
theorem ev_eqI {a b : Int} (h : Ev ta Γ (.int a)) (g : Ev tb Γ (.int b)) : Ev (tpOp fEq ta tb) Γ (.bl (decide (a = b))) := ev_op h g fun k z => ⟨⟨rfl, rfl, Nat.zero_le _, Nat.zero_le _⟩, by
  have e : eqD (.int a) (.int b) = decide (a = b) := by
    by_cases q : a = b
    · rw [q, decide_eq_true rfl]
      exact beq_iff_eq.mpr rfl
    · rw [decide_eq_false q]
      exact beq_eq_false_iff_ne.mpr q
  rw [e]
  exact z⟩
theorem ev_sl {l : List Nat} {lo hi : Option Int} {tlo thi : TO'} (h : Ev t Γ (.str l)) (hlo : ∀ (k : Option Int → Prop) kx, k lo → tlo Γ k kx) (hhi : ∀ (k : Option Int → Prop) kx, k hi → thi Γ k kx) (hl : l.length ≤ sizeLine) : Ev (tpSl t tlo thi) Γ (.str (cutL l lo hi)) := fun k kx z => h _ _ (hlo _ _ (hhi _ _ ⟨hl, z⟩))
theorem evb_v (h : Ev t Γ (.bl b)) : EvB (tbV t) Γ b := fun k kx z => h _ _ z
theorem evb_not (h : EvB cb Γ b) : EvB (tbNot cb) Γ (!b) := fun k kx z => h _ _ z
theorem evb_orT (h : EvB cb Γ true) : EvB (tbOr cb cc) Γ true := fun k kx z => h _ _ z
theorem evb_orF (h : EvB cb Γ false) (g : EvB cc Γ b) : EvB (tbOr cb cc) Γ b := fun k kx z => h _ _ (show (if false = true then k true else cc Γ k kx) from g k kx z)
theorem ev_lc {is : List Nat} {ti : TL} {te : TP} {items : List D} {f : D → D} (h : EvL ti Γ items) (hl : items.length ≤ 100000) (he : ∀ x ∈ items, Ev te (gset (wipeG Γ is) i (.pu x)) (f x)) : Ev (tpLc is ti (tgName i) tbYes te) Γ (.lst (items.map f)) := fun k kx z => h _ _ (by
  refine ⟨hl, ?_⟩
  have go : ∀ (items : List D) {k : List D → Prop}, (∀ x ∈ items, Ev te (gset (wipeG Γ is) i (.pu x)) (f x)) → k (items.map f) → lcW (tgName i) tbYes te (wipeG Γ is) items k := fun items => by
    induction items with
    | nil => exact fun _ h => h
    | cons x r ih => exact fun hx h => hx x List.mem_cons_self _ _ (ih (fun y hy => hx y (List.mem_cons_of_mem _ hy)) h)
  exact go items he z)
theorem evl_tiLst (h : Ev t Γ (.lst ds)) : EvL (tiLst t) Γ ds := fun k kx z => h _ _ z
theorem evl_tiTup (h : Ev t Γ (.tup ds)) : EvL (tiTup t) Γ ds := fun k kx z => h _ _ z
theorem evl_tiStr {l : List Nat} (h : Ev t Γ (.str l)) : EvL (tiStr t) Γ (l.map fun c => .str [c]) := fun k kx z => h _ _ z
theorem evl_rng1 {z : Nat} (h : Ev t Γ (.int (z : Nat))) (hz : z < 2 ^ 62) : EvL (tiRng1 (tlCons t tlNil)) Γ ((List.range z).map fun i => .int (i : Nat)) := fun k kx w => h _ _ ⟨⟨by omega, by omega⟩, by
  rw [show ((z : Nat) : Int).toNat = z by omega]
  exact w⟩
theorem st_set (h : Ev t Γ d) (g : u P (gset Γ i (.pu d))) : tsSeq (tsSet i t) u P Γ := h _ _ g
theorem st_set1 (h : Ev t Γ d) (g : P.nx (gset Γ i (.pu d))) : tsSet i t P Γ := h _ _ g
theorem st_ifT (h : EvB cb Γ true) (g : s { P with nx := u P } Γ) : tsSeq (tsIf cb s r) u P Γ := h _ _ g
theorem st_ifF (h : EvB cb Γ false) (g : r { P with nx := u P } Γ) : tsSeq (tsIf cb s r) u P Γ := h _ _ (show (if false = true then s { P with nx := u P } Γ else r { P with nx := u P } Γ) from g)
theorem st_ifN (h : EvB cb Γ false) (g : u P Γ) : tsSeq (tsIf cb s tsNext) u P Γ := st_ifF h g
theorem st_if1T (h : EvB cb Γ true) (g : s P Γ) : tsIf cb s r P Γ := h _ _ g
theorem st_if1F (h : EvB cb Γ false) (g : r P Γ) : tsIf cb s r P Γ := h _ _ (show (if false = true then s P Γ else r P Γ) from g)
theorem st_drop (h : Ev t Γ d) (g : u P Γ) : tsSeq (tsDrop t) u P Γ := h _ _ g
theorem st_ret (h : Ev t Γ d) (g : P.rt d Γ) : tsRet t P Γ := h _ _ g
theorem st_own (h : Ev t Γ d) (g : u P (gset Γ i (.ow d))) : tsSeq (tsOwn i t) u P Γ := h _ _ g
theorem st_for {ti : TL} {tg : TGp} (h : EvL ti Γ ds) (g : forW tg s { P with nx := u P } ds Γ) : tsSeq (tsFor ti tg s) u P Γ := h _ _ g
theorem st_for1 {ti : TL} {tg : TGp} (h : EvL ti Γ ds) (g : forW tg s P ds Γ) : tsFor ti tg s P Γ := h _ _ g
theorem for_cons (h : s { P with nx := forW (tgName i) s P ds, ct := forW (tgName i) s P ds, bk := P.nx } (gset Γ i (.pu d))) : forW (tgName i) s P (d :: ds) Γ := h
theorem ev_meth {C : Addr} {fs : List (PySem.Str × D)} {ms : List (Addr × FS)} {nm : PySem.Str} {f : FS} (h : Ev t Γ (.ins C fs)) (hno : fs.lookup nm = none) (hm : (C, f) ∈ ms) (hl : EvL tl Γ ds) (hn : ds.length = n) (hf : ∀ k kx, k d → f (.ins C fs :: ds) k kx) : Ev (tpMeth ms nm n t tl) Γ d := fun k kx z => h _ _ (by
  show fs.lookup nm = none ∧ ∃ f, (C, f) ∈ ms ∧ tl Γ (fun ds => ds.length = n ∧ f (.ins C fs :: ds) k kx) kx
  exact ⟨hno, f, hm, hl _ _ ⟨hn, hf k kx z⟩⟩)
theorem ev_fld {C : Addr} {fs : List (PySem.Str × D)} {cs : List Addr} {f : PySem.Str} (h : Ev t Γ (.ins C fs)) (hm : C ∈ cs) (e : fs.lookup f = some d) : Ev (tpFld cs f t) Γ d := fun k kx z => h _ _ (by
  show C ∈ cs ∧ match fs.lookup f with | some v => k v | none => False
  refine ⟨hm, ?_⟩
  rw [e]
  exact z)
end
end PL
set_option Elab.async false
set_option linter.all false
set_option maxRecDepth 100000
set_option maxHeartbeats 4000000
namespace PL
open PySem L2
def EvN (t : TP) (Γ : Ga) (A : D → Prop) : Prop := ∀ (k : KD) (kx : KX), (∀ d, A d → k d) → t Γ k kx
def EvNL (t : TL) (Γ : Ga) (A : List D → Prop) : Prop := ∀ (k : List D → Prop) (kx : KX), (∀ d, A d → k d) → t Γ k kx
def EvNB (t : TB) (Γ : Ga) (A : Bool → Prop) : Prop := ∀ (k : Bool → Prop) (kx : KX), (∀ d, A d → k d) → t Γ k kx
section
local instance : Tabl := ⟨[], fun p hp => absurd hp (by simp)⟩
variable {Γ Γ' : Ga} {t ta tb : TP} {tl : TL} {d x y : D} {ds : List D} {i j n : Nat} {P : PEn} {u s r : TSp} {b c : Bool} {cb cc : TB} {A B C : D → Prop} {L M : List D → Prop}
theorem evn (h : Ev t Γ d) : EvN t Γ (· = d) := fun k kx z => h k kx (z d rfl)
theorem evn_imp (h : EvN t Γ A) (g : ∀ d, A d → B d) : EvN t Γ B := fun k kx z => h k kx fun d q => z d (g d q)
theorem evnl (h : EvL tl Γ ds) : EvNL tl Γ (· = ds) := fun k kx z => h k kx (z ds rfl)
theorem evnl_nil : EvNL tlNil Γ (· = []) := fun k kx z => z [] rfl
theorem evnl_cons (h : EvN t Γ A) (g : EvNL tl Γ L) : EvNL (tlCons t tl) Γ (fun l => ∃ d ds, A d ∧ L ds ∧ l = d :: ds) := fun k kx z => h _ _ fun d hd => g _ _ fun ds hs => z _ ⟨d, ds, hd, hs, rfl⟩
theorem evn_tup (h : EvNL tl Γ L) (hl : ∀ ds, L ds → ds.length ≤ 100000) : EvN (tpTup tl) Γ (fun d => ∃ ds, L ds ∧ d = .tup ds) := fun k kx z => h _ _ fun ds hs => ⟨hl ds hs, z _ ⟨ds, hs, rfl⟩⟩
theorem evn_call {f : FS} (h : EvNL tl Γ L) (hf : ∀ ds, L ds → ds.length = n ∧ ∀ (k : KD) (kx : KX), (∀ d, A d → k d) → f ds k kx) : EvN (tpCall n f tl) Γ A := fun k kx z => h _ _ fun ds hs => ⟨(hf ds hs).1, (hf ds hs).2 k kx z⟩
theorem evn_op {f : F2} (h : EvN ta Γ A) (g : EvN tb Γ B) (hf : ∀ x y, A x → B y → ∀ k : KD, (∀ d, C d → k d) → f x y k) : EvN (tpOp f ta tb) Γ C := fun k kx z => h _ _ fun x hx => g _ _ fun y hy => hf x y hx hy k z
theorem evn_1 {f : F1} (h : EvN t Γ A) (hf : ∀ x, A x → ∀ k : KD, (∀ d, C d → k d) → f x k) : EvN (tp1 f t) Γ C := fun k kx z => h _ _ fun x hx => hf x hx k z
theorem evn_ifT (h : EvB cb Γ true) (g : EvN ta Γ A) : EvN (tpIf cb ta tb) Γ A := fun k kx z => h _ _ (g k kx z)
theorem evn_ifF (h : EvB cb Γ false) (g : EvN tb Γ A) : EvN (tpIf cb ta tb) Γ A := fun k kx z => h _ _ (show (if false = true then ta Γ k kx else tb Γ k kx) from g k kx z)
theorem st_setN (h : EvN t Γ A) (g : ∀ d, A d → u P (gset Γ i (.pu d))) : tsSeq (tsSet i t) u P Γ := h _ _ g
theorem st_retN (h : EvN t Γ A) (g : ∀ d, A d → P.rt d Γ) : tsRet t P Γ := h _ _ g
theorem st_set1N (h : EvN t Γ A) (g : ∀ d, A d → P.nx (gset Γ i (.pu d))) : tsSet i t P Γ := h _ _ g
theorem st_asgGN {tg : TGp} (h : EvN t Γ A) (g : ∀ d, A d → tg d Γ (u P)) : tsSeq (tsAsgG t tg) u P Γ := h _ _ g
theorem evn_pull {m : Int} (h : Ev tb Γ .bag) (g : Ev t Γ (.int m)) (m1 : 1 ≤ m) (m2 : m < 1073741824) : EvN (tpCall 2 fsPull (tlCons tb (tlCons t tlNil))) Γ (fun d => ∃ r : Int, 0 ≤ r ∧ r < m ∧ d = .int r) := evn_call (evnl (evl_2 h g)) fun ds e => by
  subst e
  exact ⟨rfl, fun k kx z => ⟨⟨m1, m2⟩, fun r r1 r2 => z _ ⟨r, r1, r2, rfl⟩⟩⟩
theorem evn_pick {l : List D} (h : Ev tb Γ .bag) (g : Ev t Γ (.lst l)) (n0 : l ≠ []) (nz : l.length ≤ 100000) : EvN (tpCall 2 fsPick (tlCons tb (tlCons t tlNil))) Γ (· ∈ l) := evn_call (evnl (evl_2 h g)) fun ds e => by
  subst e
  exact ⟨rfl, fun k kx z => ⟨⟨n0, nz⟩, z⟩⟩
end
end PL
set_option Elab.async false
set_option linter.all false
set_option maxRecDepth 100000
set_option maxHeartbeats 4000000
namespace PL
open PySem L2
def m_law_ask (K : PySem.W.Frag) (C_LogError C_Missing C_InvalidDeed C_InvalidDeeds C_InvalidLog C_InvalidStep C_InvalidStore C_InvalidStand C_InvalidNumber C_InvalidCount C_TooMany C_NothingLeft : Addr) (act : TP) : TSp :=
  (tsTry (tsRet (tpTup (tlCons (tpC (.str [])) (tlCons act tlNil))))
    [(fun cls => PySem.W.exmAny K cls [.ref C_InvalidDeed, .ref C_InvalidDeeds, .ref C_InvalidLog, .ref C_InvalidStand, .ref C_InvalidNumber, .ref C_InvalidCount], some 1, fun a cls d => (tsRet (tpTup (tlCons (tpXat K a cls d 1 "tag") (tlCons (tpXat K a cls d 1 "given") tlNil))))),
    (fun cls => PySem.W.exmOne K cls (.ref C_InvalidStep), some 1, fun a cls d => (tsRet (tpTup (tlCons (tpXat K a cls d 1 "tag") (tlCons (tpXat K a cls d 1 "step") tlNil))))),
    (fun cls => PySem.W.exmOne K cls (.ref C_InvalidStore), some 1, fun a cls d => (tsRet (tpTup (tlCons (tpXat K a cls d 1 "tag") (tlCons (tpXat K a cls d 1 "index") tlNil))))),
    (fun cls => PySem.W.exmOne K cls (.ref C_TooMany), some 1, fun a cls d => (tsRet (tpTup (tlCons (tpXat K a cls d 1 "tag") (tlCons (tpXat K a cls d 1 "most") tlNil))))),
    (fun cls => PySem.W.exmAny K cls [.ref C_LogError, .ref C_Missing, .ref C_NothingLeft], some 1, fun a cls d => (tsRet (tpTup (tlCons (tpXat K a cls d 1 "tag") (tlCons (tpC .non) tlNil)))))])
end PL
set_option Elab.async false
set_option linter.all false
set_option maxRecDepth 100000
set_option maxHeartbeats 4000000
namespace PL
open PySem L2 PyProof.Rows
end PL
set_option Elab.async false
set_option linter.all false
set_option maxRecDepth 100000
set_option maxHeartbeats 4000000
namespace PL
open PySem L2
def mx_need_deeds (C_InvalidDeeds : Addr) (fs_is_deeds : FS) : FS := fun ds k kx =>
  (tsIf (tbNot (tbV (tpCall 1 fs_is_deeds (tlCons (tpVar 0) tlNil))))
    (tsRaise C_InvalidDeeds "InvalidDeeds" "given" (tpVar 0))
    tsNext)
  (fEnds k kx) (ga0 1 ds)
def m_need_rows (C_InvalidStore C_TooMany : Addr) (fs_is_within : FS) : FS := fun ds k kx =>
  (tsSeq (tsIf (tbOr (tbNot (tbV (tp1 (fIsi2 "list" "tuple") (tpVar 0)))) (tbV (tpOp fEq (tp1 fLenS (tpVar 0)) (tpC (.int 0)))))
    (tsRaise C_InvalidStore "InvalidStore" "index" (tpC (.int 0)))
    tsNext)
    (tsSeq (tsIf (tbV (tpOp fGt (tp1 fLenS (tpVar 0)) (tpC (.int 120))))
    (tsRaise C_TooMany "TooMany" "most" (tpC (.int 120)))
    tsNext)
    (tsFor (tiEnumL (tpVar 0)) (tgTup2 2 3)
    (tsSeq (tsIf (tbOr (tbNot (tbV (tp1 (fIsi "tuple") (tpVar 3)))) (tbV (tpOp fNe (tp1 fLenS (tpVar 3)) (tpVar 1))))
    (tsRaise C_InvalidStore "InvalidStore" "index" (tpVar 2))
    tsNext)
    (tsIf (tbNot (tbV (tp1 fAll (tpLc [4] (tiTup (tpVar 3)) (tgName 4) tbYes (tpCall 3 fs_is_within (tlCons (tpVar 4) (tlCons (tpC (.int 0)) (tlCons (tpOp fSub (tp1 fLenS (tpVar 0)) (tpC (.int 1))) tlNil))))))))
    (tsRaise C_InvalidStore "InvalidStore" "index" (tpVar 2))
    tsNext)))))
  (fEnds k kx) (ga0 5 ds)
def m_place_of : FS := fun ds k kx =>
  (tsRet (tpOp fIx (tpLc [2, 3] (tiEnumS (tpVar 0)) (tgTup2 2 3) (tbV (tpOp fEq (tpVar 3) (tpVar 1))) (tpVar 2)) (tpC (.int 0))))
  (fEnds k kx) (ga0 4 ds)
def m_Store___init__ (C_Store : Addr) (fs_need_deeds fs_need_rows : FS) : FSo := fun ds k kx => ∀ p,
  (tsSeq (tsDrop (tpCall 1 fs_need_deeds (tlCons (tpVar 1) tlNil)))
    (tsSeq (tsDrop (tpCall 2 fs_need_rows (tlCons (tpVar 2) (tlCons (tp1 fLenS (tpVar 1)) tlNil))))
    (tsSeq (tsSetF [C_Store] 0 "own_deeds" (tpVar 1))
    (tsSetF [C_Store] 0 "table" (tpLc [3] (tiSq (tpVar 2)) (tgName 3) tbYes (tp1 fList (tpVar 3)))))))
  (iEnds p k kx) (gaO 4 0 p ds)
def m_Store_idle (C_InvalidCount C_Store : Addr) (fs_need_deeds fs_is_within : FS) (g_Store : FSo) : FS := fun ds k kx =>
  (tsSeq (tsDrop (tpCall 1 fs_need_deeds (tlCons (tpVar 1) tlNil)))
    (tsSeq (tsIf (tbNot (tbV (tpCall 3 fs_is_within (tlCons (tpVar 2) (tlCons (tpC (.int 1)) (tlCons (tpC (.int 120)) tlNil))))))
    (tsRaise C_InvalidCount "InvalidCount" "given" (tpVar 2))
    tsNext)
    (tsRet (tpMakeL 0 C_Store g_Store 2 (tlCons (tpVar 1) (tlCons (tpLc [3] (tiRng1 (tlCons (tpVar 2) tlNil)) (tgName 3) tbYes (tpOp fMulT (tpTup (tlCons (tpVar 3) tlNil)) (tp1 fLenS (tpVar 1)))) tlNil))))))
  (fEnds k kx) (ga0 4 ds)
def m_Store_rows (C_Store : Addr) : FS := fun ds k kx =>
  (tsRet (tpLc [1] (tiLst (tpFld [C_Store] "table" (tpVar 0))) (tgName 1) tbYes (tp1 fTup (tpVar 1))))
  (fEnds k kx) (ga0 2 ds)
def m_Store_need_stand (C_InvalidStand C_Store : Addr) (fs_is_within : FS) : FS := fun ds k kx =>
  (tsIf (tbNot (tbV (tpCall 3 fs_is_within (tlCons (tpVar 1) (tlCons (tpC (.int 0)) (tlCons (tpOp fSub (tp1 fLenS (tpFld [C_Store] "table" (tpVar 0))) (tpC (.int 1))) tlNil))))))
    (tsRaise C_InvalidStand "InvalidStand" "given" (tpVar 1))
    tsNext)
  (fEnds k kx) (ga0 2 ds)
def m_Store_need_deed (C_InvalidDeed C_Store : Addr) : FS := fun ds k kx =>
  (tsIf (tbOr (tbNot (tbV (tp1 (fIsi "str") (tpVar 1)))) (tbOr (tbV (tpOp fNe (tp1 fLenS (tpVar 1)) (tpC (.int 1)))) (tbV (tpOp fNotInS (tpVar 1) (tpFld [C_Store] "own_deeds" (tpVar 0))))))
    (tsRaise C_InvalidDeed "InvalidDeed" "given" (tpVar 1))
    tsNext)
  (fEnds k kx) (ga0 2 ds)
def m_Store___call__ (C_Store : Addr) (fs_need_log_of fs_Store_need_stand : FS) : FS := fun ds k kx =>
  (tsSeq (tsDrop (tpMeth [(C_Store, fs_Store_need_stand)] "need_stand" 1 (tpVar 0) (tlCons (tpVar 1) tlNil)))
    (tsSeq (tsDrop (tpCall 2 fs_need_log_of (tlCons (tpVar 2) (tlCons (tpFld [C_Store] "own_deeds" (tpVar 0)) tlNil))))
    tsNever))
  (fEnds k kx) (ga0 3 ds)
def m_Store___getitem__ (C_Store : Addr) (fs_place_of fs_Store_need_stand fs_Store_need_deed : FS) : FS := fun ds k kx =>
  (tsSeq (tsAsgG (tpVar 1) (tgTup2 2 3))
    (tsSeq (tsDrop (tpMeth [(C_Store, fs_Store_need_stand)] "need_stand" 1 (tpVar 0) (tlCons (tpVar 2) tlNil)))
    (tsSeq (tsDrop (tpMeth [(C_Store, fs_Store_need_deed)] "need_deed" 1 (tpVar 0) (tlCons (tpVar 3) tlNil)))
    (tsRet (tpOp fIx (tpOp fIx (tpFld [C_Store] "table" (tpVar 0)) (tpVar 2)) (tpCall 2 fs_place_of (tlCons (tpFld [C_Store] "own_deeds" (tpVar 0)) (tlCons (tpVar 3) tlNil))))))))
  (fEnds k kx) (ga0 4 ds)
def m_Store_change (C_Store : Addr) (fs_Store_need_stand fs_Store_need_deed : FS) : FS := fun ds k kx =>
  (tsSeq (tsDrop (tpMeth [(C_Store, fs_Store_need_stand)] "need_stand" 1 (tpVar 0) (tlCons (tpVar 1) tlNil)))
    (tsSeq (tsDrop (tpMeth [(C_Store, fs_Store_need_deed)] "need_deed" 1 (tpVar 0) (tlCons (tpVar 2) tlNil)))
    (tsSeq (tsDrop (tpMeth [(C_Store, fs_Store_need_stand)] "need_stand" 1 (tpVar 0) (tlCons (tpVar 3) tlNil)))
    tsNever)))
  (fEnds k kx) (ga0 4 ds)
def m_Store___setitem__ (C_Store : Addr) (fs_Store_change : FS) : FS := fun ds k kx =>
  (tsSeq (tsAsgG (tpVar 1) (tgTup2 3 4))
    (tsDrop (tpMeth [(C_Store, fs_Store_change)] "change" 3 (tpVar 0) (tlCons (tpVar 3) (tlCons (tpVar 4) (tlCons (tpVar 2) tlNil))))))
  (fEnds k kx) (ga0 5 ds)
def m_Store_reached (C_Store : Addr) (fs_Store_need_stand : FS) : FS := fun ds k kx =>
  (tsSeq (tsDrop (tpMeth [(C_Store, fs_Store_need_stand)] "need_stand" 1 (tpVar 0) (tlCons (tpVar 1) tlNil)))
    (tsSeq tsNever
    (tsSeq tsNever
    (tsSeq tsNever
    tsNever))))
  (fEnds k kx) (ga0 5 ds)
def m_law_rows (fs_law_pull : FS) : FS := fun ds k kx =>
  (tsSeq (tsOwn 3 (tpLst tlNil))
    (tsSeq (tsFor (tiRng1 (tlCons (tpVar 2) tlNil)) (tgName 4)
    (tsSeq (tsSet 5 (tpCall 2 fs_law_pull (tlCons (tpVar 0) (tlCons (tpC (.int 4)) tlNil))))
    (tsSeq (tsSet 6 (tpLc [7] (tiRng1 (tlCons (tpVar 1) tlNil)) (tgName 7) tbYes (tpCall 2 fs_law_pull (tlCons (tpVar 0) (tlCons (tpVar 1) tlNil)))))
    (tsSeq (tsIf (tbV (tpOp fEq (tpVar 5) (tpC (.int 0))))
    (tsSet 6 (tpOp fMul (tpLst (tlCons (tpOp fIx (tpVar 6) (tpC (.int 0))) tlNil)) (tpVar 1)))
    (tsIf (tbV (tpOp fEq (tpVar 5) (tpC (.int 1))))
    (tsSet 6 (tpLc [7] (tiRng1 (tlCons (tpVar 1) tlNil)) (tgName 7) tbYes (tpIf (tbV (tpOp (fInI false) (tpVar 7) (tpSl (tpVar 6) toNo (toSome (tpOp fAdd (tpC (.int 1)) (tpOp fFdiv (tpVar 1) (tpC (.int 2)))))))) (tpVar 7) (tpOp fIx (tpVar 6) (tpC (.int 0))))))
    (tsIf (tbV (tpOp fEq (tpVar 5) (tpC (.int 2))))
    (tsSet 6 (tpLc [7] (tiRng1 (tlCons (tpVar 1) tlNil)) (tgName 7) tbYes (tpIf (tbV (tpOp fEq (tpCall 2 fs_law_pull (tlCons (tpVar 0) (tlCons (tpC (.int 2)) tlNil))) (tpC (.int 0)))) (tpVar 7) (tpOp fIx (tpVar 6) (tpVar 7)))))
    tsNext)))
    (tsApp 3 (tpVar 6))))))
    (tsFrz 3 (tsRet (tpLc [7] (tiRng1 (tlCons (tpVar 1) tlNil)) (tgName 7) tbYes (tp1 fTup (tpLc [6] (tiLst (tpVar 3)) (tgName 6) tbYes (tpOp fIx (tpVar 6) (tpVar 7)))))))))
  (fEnds k kx) (ga0 8 ds)
def m_law_bad_deeds (fs_law_alphabet fs_law_pick : FS) : FS := fun ds k kx =>
  (tsSeq (tsSet 1 (tpCall 2 fs_law_alphabet (tlCons (tpVar 0) (tlCons (tpC (.int 8)) tlNil))))
    (tsSeq (tsSet 2 (tpLst (tlCons (tpC .non) (tlCons (tpC (.bl true)) (tlCons (tpC (.int 5)) (tlCons (tpLst (tlCons (tpVar 1) tlNil)) (tlCons (tpTup tlNil) (tlCons (tpC (.str [])) (tlCons (tpC (.str [98, 97])) (tlCons (tpC (.str [122, 121, 120])) (tlCons (tpC (.str [97, 98, 99, 100, 101, 102, 103, 104, 105])) (tlCons (tpOp fAdd (tpVar 1) (tpSl (tpVar 1) toNo (toSome (tpC (.int 1))))) (tlCons (tpOp fAdd (tpSl (tpVar 1) toNo (toSome (tpC (.int 1)))) (tpVar 1)) (tlCons (tpOp fAdd (tpVar 1) (tpC (.str [65]))) tlNil))))))))))))))
    (tsRet (tpCall 2 fs_law_pick (tlCons (tpVar 0) (tlCons (tpOp fAdd (tpVar 2) (tpLst (tlCons (tpOp fAdd (tpVar 1) (tpC (.str [32]))) (tlCons (tpC (.str [45])) (tlCons (tpC (.str [97, 47, 98])) (tlCons (tpC (.int 0)) tlNil)))))) tlNil))))))
  (fEnds k kx) (ga0 3 ds)
def m_law_laid (K : PySem.W.Frag) (C_InvalidDeed C_InvalidStand C_Store : Addr) (fs_Store___setitem__ : FS) : FS := fun ds k kx =>
  (tsSeq (tsSet 4 (tpTup (tlCons (tpC (.str [])) (tlCons (tpC .non) tlNil))))
    (tsSeq (tsTry (tsSetO [(C_Store, fs_Store___setitem__)] (tpVar 0) (tpTup (tlCons (tpVar 1) (tlCons (tpVar 2) tlNil))) (tpVar 3))
    [(fun cls => PySem.W.exmAny K cls [.ref C_InvalidStand, .ref C_InvalidDeed], some 5, fun a cls d => (tsSet 4 (tpTup (tlCons (tpXat K a cls d 5 "tag") (tlCons (tpXat K a cls d 5 "given") tlNil)))))])
    (tsRet (tpVar 4))))
  (fEnds k kx) (ga0 6 ds)
def m_law_calls_refused (K : PySem.W.Frag) (C_LogError C_Missing C_InvalidDeed C_InvalidDeeds C_InvalidLog C_InvalidStep C_InvalidStore C_InvalidStand C_InvalidNumber C_InvalidCount C_TooMany C_NothingLeft C_Store : Addr) (fs_law_pick fs_law_letters fs_law_same fs_law_laid fs_Store___call__ fs_Store___getitem__ fs_Store_change fs_Store_reached fs_Store_idle : FS) : FS := fun ds k kx =>
  (tsSeq (tsSet 4 (tpCall 2 fs_law_pick (tlCons (tpVar 0) (tlCons (tpLst (tlCons (tpVar 3) (tlCons (tpOp fSub (tpC (.int 0)) (tpC (.int 1))) (tlCons (tpC .non) (tlCons (tpC (.bl true)) (tlCons (tpC (.str [48])) (tlCons (tpOp fPow (tpC (.int 10)) (tpC (.int 30))) (tlCons (tpLst (tlCons (tpC (.int 0)) tlNil)) tlNil)))))))) tlNil))))
    (tsSeq (tsSet 5 (tpLc [6] (tiStr (tpCall 0 fs_law_letters tlNil)) (tgName 6) (tbV (tpOp fNotInS (tpVar 6) (tpVar 1))) (tpVar 6)))
    (tsSeq (tsSet 7 (tpCall 2 fs_law_pick (tlCons (tpVar 0) (tlCons (tpOp fAdd (tpLst (tlCons (tpC (.str [])) (tlCons (tpC (.str [65])) (tlCons (tpOp fAdd (tpVar 1) (tpC (.str [97]))) (tlCons (tpC .non) (tlCons (tpC (.int 0)) (tlCons (tpLst (tlCons (tpC (.str [97])) tlNil)) (tlCons (tpOp fMulS (tpSl (tpVar 1) toNo (toSome (tpC (.int 1)))) (tpC (.int 2))) tlNil)))))))) (tpVar 5)) tlNil))))
    (tsSeq (tsSet 8 (tpOp fAdd (tpVar 1) (tp1 fStrAny (tpVar 7))))
    (tsFns 9 10 [(tpLam 2 (m_law_ask K C_LogError C_Missing C_InvalidDeed C_InvalidDeeds C_InvalidLog C_InvalidStep C_InvalidStore C_InvalidStand C_InvalidNumber C_InvalidCount C_TooMany C_NothingLeft) (tpCallI [(C_Store, fs_Store___call__)] 2 (tpVar 2) (tlCons (tpVar 4) (tlCons (tpVar 8) tlNil)))), (tpLam 2 (m_law_ask K C_LogError C_Missing C_InvalidDeed C_InvalidDeeds C_InvalidLog C_InvalidStep C_InvalidStore C_InvalidStand C_InvalidNumber C_InvalidCount C_TooMany C_NothingLeft) (tpGetO [(C_Store, fs_Store___getitem__)] (tpVar 2) (tpTup (tlCons (tpVar 4) (tlCons (tpVar 7) tlNil))))), (tpLam 2 (m_law_ask K C_LogError C_Missing C_InvalidDeed C_InvalidDeeds C_InvalidLog C_InvalidStep C_InvalidStore C_InvalidStand C_InvalidNumber C_InvalidCount C_TooMany C_NothingLeft) (tpMeth [(C_Store, fs_Store_change)] "change" 3 (tpVar 2) (tlCons (tpVar 4) (tlCons (tpVar 7) (tlCons (tpVar 4) tlNil))))), (tpLam 2 (m_law_ask K C_LogError C_Missing C_InvalidDeed C_InvalidDeeds C_InvalidLog C_InvalidStep C_InvalidStore C_InvalidStand C_InvalidNumber C_InvalidCount C_TooMany C_NothingLeft) (tpMeth [(C_Store, fs_Store_reached)] "reached" 1 (tpVar 2) (tlCons (tpVar 4) tlNil))), (tpLam 2 (m_law_ask K C_LogError C_Missing C_InvalidDeed C_InvalidDeeds C_InvalidLog C_InvalidStep C_InvalidStore C_InvalidStand C_InvalidNumber C_InvalidCount C_TooMany C_NothingLeft) (tpMethK [(C_Store, fs_Store_change)] "change" 3 [0, 2, 3, 1] (tpVar 2) (tlCons (tpVar 4) (tlCons (tpC (.int 0)) (tlCons (tpOp fIx (tpVar 1) (tpC (.int 0))) tlNil)))))] fun aq1 =>
    (tsSeq (tsIf (tbNot (tbV (tpCall 2 fs_law_same (tlCons (tpLc [10] (tiLst (tpVarF 9)) (tgName 10) tbYes aq1) (tlCons (tpOp fMul (tpLst (tlCons (tpTup (tlCons (tpC (.str [73, 110, 118, 97, 108, 105, 100, 83, 116, 97, 110, 100])) (tlCons (tpVar 4) tlNil))) tlNil)) (tpC (.int 5))) tlNil)))))
    (tsRet (tpC (.bl false)))
    tsNext)
    (tsFns 9 10 [(tpLam 2 (m_law_ask K C_LogError C_Missing C_InvalidDeed C_InvalidDeeds C_InvalidLog C_InvalidStep C_InvalidStore C_InvalidStand C_InvalidNumber C_InvalidCount C_TooMany C_NothingLeft) (tpGetO [(C_Store, fs_Store___getitem__)] (tpVar 2) (tpTup (tlCons (tpC (.int 0)) (tlCons (tpVar 7) tlNil))))), (tpLam 2 (m_law_ask K C_LogError C_Missing C_InvalidDeed C_InvalidDeeds C_InvalidLog C_InvalidStep C_InvalidStore C_InvalidStand C_InvalidNumber C_InvalidCount C_TooMany C_NothingLeft) (tpMeth [(C_Store, fs_Store_change)] "change" 3 (tpVar 2) (tlCons (tpC (.int 0)) (tlCons (tpVar 7) (tlCons (tpVar 4) tlNil)))))] fun aq2 =>
    (tsSeq (tsIf (tbNot (tbV (tpCall 2 fs_law_same (tlCons (tpLc [10] (tiLst (tpVarF 9)) (tgName 10) tbYes aq2) (tlCons (tpOp fMul (tpLst (tlCons (tpTup (tlCons (tpC (.str [73, 110, 118, 97, 108, 105, 100, 68, 101, 101, 100])) (tlCons (tpVar 7) tlNil))) tlNil)) (tpC (.int 2))) tlNil)))))
    (tsRet (tpC (.bl false)))
    tsNext)
    (tsSeq (tsSet 11 (tpLst (tlCons (tpCall 4 fs_law_laid (tlCons (tpVar 2) (tlCons (tpVar 4) (tlCons (tpVar 7) (tlCons (tpVar 4) tlNil))))) (tlCons (tpCall 4 fs_law_laid (tlCons (tpVar 2) (tlCons (tpC (.int 0)) (tlCons (tpOp fIx (tpVar 1) (tpC (.int 0))) (tlCons (tpVar 4) tlNil))))) (tlCons (tpCall 4 fs_law_laid (tlCons (tpVar 2) (tlCons (tpC (.int 0)) (tlCons (tpVar 7) (tlCons (tpVar 4) tlNil))))) tlNil)))))
    (tsSeq (tsIf (tbNot (tbV (tpCall 2 fs_law_same (tlCons (tpVar 11) (tlCons (tpLst (tlCons (tpTup (tlCons (tpC (.str [73, 110, 118, 97, 108, 105, 100, 83, 116, 97, 110, 100])) (tlCons (tpVar 4) tlNil))) (tlCons (tpTup (tlCons (tpC (.str [73, 110, 118, 97, 108, 105, 100, 83, 116, 97, 110, 100])) (tlCons (tpVar 4) tlNil))) (tlCons (tpTup (tlCons (tpC (.str [73, 110, 118, 97, 108, 105, 100, 68, 101, 101, 100])) (tlCons (tpVar 7) tlNil))) tlNil)))) tlNil)))))
    (tsRet (tpC (.bl false)))
    tsNext)
    (tsSeq (tsSet 8 (tpCall 2 fs_law_pick (tlCons (tpVar 0) (tlCons (tpLst (tlCons (tpOp fAdd (tpVar 1) (tpC (.str [65]))) (tlCons (tpC .non) (tlCons (tpLst (tlCons (tpVar 1) tlNil)) (tlCons (tpC (.int 3)) tlNil))))) tlNil))))
    (tsSeq (tsSet 12 (tpCall 2 fs_law_pick (tlCons (tpVar 0) (tlCons (tpLst (tlCons (tpC (.int 0)) (tlCons (tpC (.int 121)) (tlCons (tpC .non) (tlCons (tpC (.bl true)) (tlCons (tpC (.str [49])) (tlCons (tpOp fSub (tpC (.int 0)) (tpC (.int 5))) (tlCons (tpOp fPow (tpC (.int 10)) (tpC (.int 30))) tlNil)))))))) tlNil))))
    (tsSeq (tsSet 9 (tpLst (tlCons (tpLam 2 (m_law_ask K C_LogError C_Missing C_InvalidDeed C_InvalidDeeds C_InvalidLog C_InvalidStep C_InvalidStore C_InvalidStand C_InvalidNumber C_InvalidCount C_TooMany C_NothingLeft) (tpCallI [(C_Store, fs_Store___call__)] 2 (tpVar 2) (tlCons (tpC (.int 0)) (tlCons (tpVar 8) tlNil)))) (tlCons (tpLam 2 (m_law_ask K C_LogError C_Missing C_InvalidDeed C_InvalidDeeds C_InvalidLog C_InvalidStep C_InvalidStore C_InvalidStand C_InvalidNumber C_InvalidCount C_TooMany C_NothingLeft) (tpCMeth C_Store fs_Store_idle 2 (tpC (.cls C_Store)) (tlCons (tpVar 1) (tlCons (tpVar 12) tlNil)))) tlNil))))
    (tsRet (tpCall 2 fs_law_same (tlCons (tpVar 9) (tlCons (tpLst (tlCons (tpTup (tlCons (tpC (.str [73, 110, 118, 97, 108, 105, 100, 76, 111, 103])) (tlCons (tpVar 8) tlNil))) (tlCons (tpTup (tlCons (tpC (.str [73, 110, 118, 97, 108, 105, 100, 67, 111, 117, 110, 116])) (tlCons (tpVar 12) tlNil))) tlNil))) tlNil)))))))))))))))))
  (fEnds k kx) (ga0 13 ds)
end PL
set_option Elab.async false
set_option linter.all false
set_option maxRecDepth 100000
set_option maxHeartbeats 4000000
namespace PL
open PySem L2
end PL
set_option Elab.async false
set_option linter.all false
set_option maxRecDepth 100000
set_option maxHeartbeats 4000000
namespace PL
open PySem L2
end PL
set_option Elab.async false
set_option linter.all false
set_option maxRecDepth 100000
set_option maxHeartbeats 4000000
namespace PL
open PySem L2
end PL
set_option Elab.async false
set_option linter.all false
set_option maxRecDepth 100000
set_option maxHeartbeats 4000000
namespace PL
open PySem L2 PyProof.Rows
end PL
set_option Elab.async false
set_option linter.all false
set_option maxRecDepth 100000
set_option maxHeartbeats 4000000
namespace PL
open PySem L2 PyProof.Rows
end PL
set_option Elab.async false
set_option linter.all false
set_option maxRecDepth 100000
set_option maxHeartbeats 4000000
namespace PL
open PySem L2
end PL
set_option Elab.async false
set_option linter.all false
set_option maxRecDepth 100000
set_option maxHeartbeats 4000000
namespace PL
end PL
set_option Elab.async false
set_option linter.all false
set_option maxRecDepth 100000
set_option maxHeartbeats 4000000
namespace PL
end PL
set_option Elab.async false
set_option linter.all false
set_option maxRecDepth 100000
set_option maxHeartbeats 4000000
namespace PL
abbrev Blk := Nat × List Nat
section
variable (ap : Nat → Nat → Bool)
/-- w goes to the last block of its sender, if all blocks behind it are apart -/
def putL (s : Nat) (w : List Nat) : List Blk → Option (List Blk)
  | [] => none
  | b :: r => if b.1 = s then some ((s, b.2 ++ w) :: r) else if ap b.1 s = true then (putL s w r).map (b :: ·) else none
def addL (s : Nat) (w : List Nat) (R : List Blk) : List Blk := match putL ap s w R with
  | some x => x
  | none => (s, w) :: R
inductive BE : List Blk → List Blk → Prop
  | refl (R : List Blk) : BE R R
  | symm {R R' : List Blk} : BE R R' → BE R' R
  | trans {R R' R'' : List Blk} : BE R R' → BE R' R'' → BE R R''
  | con (s : Nat) {u v : List Nat} (r : List Blk) : sb u = sb v → BE ((s, u) :: r) ((s, v) :: r)
  | sw (a b : Blk) (r : List Blk) : ap a.1 b.1 = true → BE (a :: b :: r) (b :: a :: r)
  | cons (a : Blk) {r r' : List Blk} : BE r r' → BE (a :: r) (a :: r')
def OE : Option (List Blk) → Option (List Blk) → Prop
  | some x, some y => BE ap x y
  | none, none => True
  | _, _ => False
/-- the logs that come to the same -/
inductive Sim (own : Nat → Nat) : List Nat → List Nat → Prop
  | refl (x : List Nat) : Sim own x x
  | symm {x y : List Nat} : Sim own x y → Sim own y x
  | trans {x y z : List Nat} : Sim own x y → Sim own y z → Sim own x z
  | sw (x : List Nat) (c d : Nat) (y : List Nat) : ap (own c) (own d) = true → Sim own (x ++ c :: d :: y) (x ++ d :: c :: y)
  | st (x : List Nat) {v v' : List Nat} (y : List Nat) (s : Nat) : v ≠ [] → v' ≠ [] → (∀ c ∈ v, own c = s) → (∀ c ∈ v', own c = s) → sb v = sb v' → Sim own (x ++ (v ++ y)) (x ++ (v' ++ y))
def runB (own : Nat → Nat) (y : List Nat) (R : List Blk) : List Blk := y.foldl (fun R c => addL ap (own c) [c] R) R
end
section
variable {ap : Nat → Nat → Bool} {own : Nat → Nat} {s t : Nat} {w z v v' : List Nat} {R R' : List Blk}
theorem OE.refl (x : Option (List Blk)) : OE ap x x := by
  cases x
  · trivial
  · exact BE.refl _
theorem OE.symm {x y : Option (List Blk)} (h : OE ap x y) : OE ap y x := by
  cases x <;> cases y
  · trivial
  · exact h
  · exact h
  · exact BE.symm h
theorem OE.trans {x y z : Option (List Blk)} (h : OE ap x y) (g : OE ap y z) : OE ap x z := by
  cases x <;> cases y <;> cases z
  · trivial
  · exact g
  · exact h.elim
  · exact h.elim
  · exact h.elim
  · exact h.elim
  · exact g.elim
  · exact BE.trans h g
theorem OE.map {x y : Option (List Blk)} (a : Blk) (h : OE ap x y) : OE ap (x.map (a :: ·)) (y.map (a :: ·)) := by
  cases x <;> cases y
  · trivial
  · exact h
  · exact h
  · exact BE.cons a h
theorem put_comm (hs : ∀ a b, ap a b = ap b a) (hi : ∀ a, ap a a = false) (hst : ap s t = true) : ∀ R R1, putL ap s w R = some R1 → (putL ap t z R = none → putL ap t z R1 = none) ∧ ∀ R2, putL ap t z R = some R2 → ∃ x, putL ap t z R1 = some x ∧ putL ap s w R2 = some x := by
  have nst : s ≠ t := fun e => by
    rw [e, hi] at hst
    cases hst
  have hts : ap t s = true := by rw [hs]; exact hst
  intro R
  induction R with
  | nil => exact fun R1 h => nomatch h
  | cons b r ih =>
    intro R1 h
    unfold putL at h
    by_cases h1 : b.1 = s
    · rw [if_pos h1] at h
      cases h
      have h2 : b.1 ≠ t := fun e => nst (h1.symm.trans e)
      have h3 : ap b.1 t = true := by rw [h1]; exact hst
      refine ⟨fun g => ?_, fun R2 g => ?_⟩
      · unfold putL at g ⊢
        rw [if_neg h2, if_pos h3] at g
        rw [if_neg nst, if_pos hst]
        cases e : putL ap t z r with
        | none => rfl
        | some y => rw [e] at g; cases g
      · unfold putL at g
        rw [if_neg h2, if_pos h3] at g
        cases e : putL ap t z r with
        | none => rw [e] at g; cases g
        | some y =>
          rw [e] at g
          cases g
          refine ⟨(s, b.2 ++ w) :: y, ?_, ?_⟩
          · unfold putL
            rw [if_neg nst, if_pos hst, e]
            rfl
          · unfold putL
            rw [if_pos h1]
    · rw [if_neg h1] at h
      by_cases h2 : ap b.1 s = true
      · rw [if_pos h2] at h
        cases e : putL ap s w r with
        | none => rw [e] at h; cases h
        | some r1 =>
          rw [e] at h
          cases h
          obtain ⟨i1, i2⟩ := ih r1 e
          by_cases h3 : b.1 = t
          · refine ⟨fun g => ?_, fun R2 g => ?_⟩
            · unfold putL at g
              rw [if_pos h3] at g
              cases g
            · unfold putL at g
              rw [if_pos h3] at g
              cases g
              refine ⟨(t, b.2 ++ z) :: r1, ?_, ?_⟩
              · unfold putL
                rw [if_pos h3]
              · unfold putL
                rw [if_neg (Ne.symm nst), if_pos hts, e]
                rfl
          · by_cases h4 : ap b.1 t = true
            · refine ⟨fun g => ?_, fun R2 g => ?_⟩
              · unfold putL at g ⊢
                rw [if_neg h3, if_pos h4] at g ⊢
                cases e2 : putL ap t z r with
                | none => rw [i1 e2]; rfl
                | some y => rw [e2] at g; cases g
              · unfold putL at g
                rw [if_neg h3, if_pos h4] at g
                cases e2 : putL ap t z r with
                | none => rw [e2] at g; cases g
                | some y =>
                  rw [e2] at g
                  cases g
                  obtain ⟨x, x1, x2⟩ := i2 y e2
                  refine ⟨b :: x, ?_, ?_⟩
                  · unfold putL
                    rw [if_neg h3, if_pos h4, x1]
                    rfl
                  · unfold putL
                    rw [if_neg h1, if_pos h2, x2]
                    rfl
            · refine ⟨fun g => ?_, fun R2 g => ?_⟩
              · unfold putL
                rw [if_neg h3, if_neg h4]
              · unfold putL at g
                rw [if_neg h3, if_neg h4] at g
                cases g
      · rw [if_neg h2] at h
        cases h
theorem add_comm (hs : ∀ a b, ap a b = ap b a) (hi : ∀ a, ap a a = false) (hst : ap s t = true) (R : List Blk) : BE ap (addL ap t z (addL ap s w R)) (addL ap s w (addL ap t z R)) := by
  have nst : s ≠ t := fun e => by
    rw [e, hi] at hst
    cases hst
  have hts : ap t s = true := by rw [hs]; exact hst
  have head1 : ∀ x, putL ap t z ((s, w) :: x) = (putL ap t z x).map ((s, w) :: ·) := fun x => by
    show (if s = t then _ else if ap s t = true then _ else _) = _
    rw [if_neg nst, if_pos hst]
  have head2 : ∀ x, putL ap s w ((t, z) :: x) = (putL ap s w x).map ((t, z) :: ·) := fun x => by
    show (if t = s then _ else if ap t s = true then _ else _) = _
    rw [if_neg (Ne.symm nst), if_pos hts]
  cases e1 : putL ap s w R with
  | some R1 =>
    cases e2 : putL ap t z R with
    | some R2 =>
      obtain ⟨x, x1, x2⟩ := (put_comm hs hi hst R R1 e1).2 R2 e2
      have a : addL ap t z (addL ap s w R) = x := by unfold addL; rw [e1]; dsimp only; rw [x1]
      have b : addL ap s w (addL ap t z R) = x := by unfold addL; rw [e2]; dsimp only; rw [x2]
      rw [a, b]
      exact .refl _
    | none =>
      have a : addL ap t z (addL ap s w R) = (t, z) :: R1 := by unfold addL; rw [e1]; dsimp only; rw [(put_comm hs hi hst R R1 e1).1 e2]
      have b : addL ap s w (addL ap t z R) = (t, z) :: R1 := by unfold addL; rw [e2]; dsimp only; rw [head2, e1]; rfl
      rw [a, b]
      exact .refl _
  | none =>
    cases e2 : putL ap t z R with
    | some R2 =>
      have a : addL ap t z (addL ap s w R) = (s, w) :: R2 := by unfold addL; rw [e1]; dsimp only; rw [head1, e2]; rfl
      have b : addL ap s w (addL ap t z R) = (s, w) :: R2 := by unfold addL; rw [e2]; dsimp only; rw [(put_comm hs hi hts R R2 e2).1 e1]
      rw [a, b]
      exact .refl _
    | none =>
      have a : addL ap t z (addL ap s w R) = (t, z) :: (s, w) :: R := by unfold addL; rw [e1]; dsimp only; rw [head1, e2]; rfl
      have b : addL ap s w (addL ap t z R) = (s, w) :: (t, z) :: R := by unfold addL; rw [e2]; dsimp only; rw [head2, e1]; rfl
      rw [a, b]
      exact .sw _ _ _ hts
end
end PL
set_option Elab.async false
set_option linter.all false
set_option maxRecDepth 100000
set_option maxHeartbeats 4000000
namespace PL
section
variable {ap : Nat → Nat → Bool} {own : Nat → Nat} {s t : Nat} {w z v v' : List Nat} {R R' r r' o o' : List Blk} {b b' : Blk}
theorem Sim.of_eq {x y : List Nat} (h : x = y) : Sim ap own x y := h ▸ .refl _
end
end PL
set_option Elab.async false
set_option linter.all false
set_option maxRecDepth 100000
set_option maxHeartbeats 4000000
namespace PL
open PySem L2
abbrev Prs := List (Nat × Nat)
def apP (ps : Prs) (a b : Nat) : Bool := decide ((min a b, max a b) ∈ ps)
def pdN (p : Nat × Nat) : D := pd ((p.1 : Int), (p.2 : Int))
/-- a kind's senders and pairs -/
structure Cst (ss : List (List Nat)) (ps : Prs) : Prop where
  l1 : 1 ≤ ss.length
  l4 : ss.length ≤ 4
  ok : ∀ s ∈ ss, okA s
  nd : ss.flatten.Nodup
  pr : ∀ p ∈ ps, p.1 < p.2 ∧ p.2 < ss.length
  so : ps.Pairwise fun p q => p.1 < q.1 ∨ (p.1 = q.1 ∧ p.2 < q.2)
/-- the sender of a deed -/
def ownF (ss : List (List Nat)) (c : Nat) : Nat := ss.findIdx fun s => decide (c ∈ s)
section
variable {ds : List D} {kd : KD} {kx : KX} {C CF CC : Addr}
local instance : Tabl := ⟨[], fun p hp => absurd hp (by simp)⟩
end
end PL
set_option Elab.async false
set_option linter.all false
set_option maxRecDepth 100000
set_option maxHeartbeats 4000000
namespace PL
open PySem L2
section
variable {ds : List D} {kd : KD} {kx : KX} {C CF CC : Addr} {ss : List (List Nat)} {ps : Prs} {os : List Nat}
local instance : Tabl := ⟨[], fun p hp => absurd hp (by simp)⟩
end
end PL
set_option Elab.async false
set_option linter.all false
set_option maxRecDepth 100000
set_option maxHeartbeats 4000000
namespace PL
open PySem L2
def blkD (b : Blk) : D := .tup [.int (b.1 : Nat), .str b.2]
section
variable {ds : List D} {kd : KD} {kx : KX} {C CF CC : Addr} {ss : List (List Nat)} {ps : Prs} {os : List Nat}
local instance : Tabl := ⟨[], fun p hp => absurd hp (by simp)⟩
end
end PL
set_option Elab.async false
set_option linter.all false
set_option maxRecDepth 100000
set_option maxHeartbeats 4000000
namespace PL
open PySem L2
theorem dL_mem {s : List Nat} (h : ∀ c ∈ s, c ∈ LET) (c : Nat) : c ∈ deeds s ↔ c ∈ s := by
  unfold deeds
  rw [List.mem_filter, decide_eq_true_eq]
  exact ⟨fun z => z.2, fun z => ⟨h c z, z⟩⟩
theorem Cst.letr {ss : List (List Nat)} {ps : Prs} (h : Cst ss ps) : ∀ c ∈ ss.flatten, c ∈ LET := fun c hc => by
  obtain ⟨s, h1, h2⟩ := List.mem_flatten.mp hc
  exact (h.ok s h1).2.2.2 c h2
theorem Cst.size {ss : List (List Nat)} {ps : Prs} (h : Cst ss ps) : ss.flatten.length ≤ 26 := nodup_le ss.flatten LET h.nd h.letr
structure Ks where
  (F C1 C2 C3 : Addr)
def Ks.all (K : Ks) : List Addr := [K.F, K.C1, K.C2, K.C3]
section
variable {ds : List D} {kd : KD} {kx : KX} {C CF CC : Addr} {ss : List (List Nat)} {ps : Prs} {K : Ks}
local instance : Tabl := ⟨[], fun p hp => absurd hp (by simp)⟩
end
end PL
set_option Elab.async false
set_option linter.all false
set_option maxRecDepth 100000
set_option maxHeartbeats 4000000
namespace PL
open PySem L2
/-- the kinds -/
inductive KindM where
  | free (ss : List (List Nat)) (ps : Prs)
  | first (s : List Nat)
  | last (s : List Nat)
  | lot (s : List Nat)
def KindM.al : KindM → List Nat
  | .free ss _ => deeds ss.flatten
  | .first s => s
  | .last s => s
  | .lot s => s
def KindM.ok : KindM → Prop
  | .free ss ps => Cst ss ps ∧ ss.flatten.length ≤ 8
  | .first s => 1 ≤ s.length ∧ s.length ≤ 8 ∧ s.Pairwise (· < ·) ∧ ∀ c ∈ s, c ∈ LET
  | .last s => 1 ≤ s.length ∧ s.length ≤ 8 ∧ s.Pairwise (· < ·) ∧ ∀ c ∈ s, c ∈ LET
  | .lot s => 1 ≤ s.length ∧ s.length ≤ 8 ∧ s.Pairwise (· < ·) ∧ ∀ c ∈ s, c ∈ LET
theorem KindM.letr {m : KindM} (h : m.ok) : ∀ c ∈ m.al, c ∈ LET := by
  cases m with
  | free ss ps => exact fun c hc => h.1.letr c ((dL_mem h.1.letr c).mp hc)
  | _ => exact h.2.2.2
section
variable {ds : List D} {kd : KD} {kx : KX} {C CF CC : Addr} {ss : List (List Nat)} {ps : Prs} {K : Ks}
local instance : Tabl := ⟨[], fun p hp => absurd hp (by simp)⟩
end
end PL
set_option Elab.async false
set_option linter.all false
set_option maxRecDepth 100000
set_option maxHeartbeats 4000000
namespace PL
open PySem L2
section
variable {ds : List D} {kd : KD} {kx : KX} {C CF CC : Addr} {ss : List (List Nat)} {ps : Prs} {K : Ks}
local instance : Tabl := ⟨[], fun p hp => absurd hp (by simp)⟩
end
end PL
set_option Elab.async false
set_option linter.all false
set_option maxRecDepth 100000
set_option maxHeartbeats 4000000
namespace PL
open PySem L2
abbrev FREE : List Nat := [102, 114, 101, 101]
abbrev FIRST : List Nat := [102, 105, 114, 115, 116]
abbrev LAST : List Nat := [108, 97, 115, 116]
abbrev LOT : List Nat := [108, 111, 116]
def modT (w : List Nat) (ss : List (List Nat)) (ps : Prs) : D := .tup [.str w, .lst (ss.map .str), .lst (ps.map pdN)]
def modD : KindM → D
  | .free ss ps => modT FREE ss ps
  | .first s => modT FIRST [s] []
  | .last s => modT LAST [s] []
  | .lot s => modT LOT [s] []
section
variable {ds : List D} {kd : KD} {kx : KX} {C CF CC : Addr} {ss : List (List Nat)} {ps : Prs} {K : Ks}
local instance : Tabl := ⟨[], fun p hp => absurd hp (by simp)⟩
end
end PL
set_option Elab.async false
set_option linter.all false
set_option maxRecDepth 100000
set_option maxHeartbeats 4000000
namespace PL
open PySem L2
section
variable {ds : List D} {kd : KD} {kx : KX} {C CF CC : Addr} {ss : List (List Nat)} {ps : Prs} {K : Ks}
local instance : Tabl := ⟨[], fun p hp => absurd hp (by simp)⟩
end
end PL
set_option Elab.async false
set_option linter.all false
set_option maxRecDepth 100000
set_option maxHeartbeats 4000000
namespace PL
open PySem L2
end PL
set_option Elab.async false
set_option linter.all false
set_option maxRecDepth 100000
set_option maxHeartbeats 4000000
namespace PL
open PySem L2
end PL
set_option Elab.async false
set_option linter.all false
set_option maxRecDepth 100000
set_option maxHeartbeats 4000000
namespace PL
open PySem L2
section
variable {ds : List D} {kd : KD} {kx : KX} {C CF CC : Addr} {ss : List (List Nat)} {ps : Prs} {K : Ks} {m : KindM} {Γ : Ga} {tl : TL} {d : D} {i n : Nat} {nm : PySem.Str}
local instance : Tabl := ⟨[], fun p hp => absurd hp (by simp)⟩
end
end PL
set_option Elab.async false
set_option linter.all false
set_option maxRecDepth 100000
set_option maxHeartbeats 4000000
namespace PL
open PySem L2
end PL
set_option Elab.async false
set_option linter.all false
set_option maxRecDepth 100000
set_option maxHeartbeats 4000000
namespace PL
open PySem L2
section
variable {ds : List D} {kd : KD} {kx : KX} {C CF CC : Addr} {ss : List (List Nat)} {ps : Prs} {K : Ks} {Γ : Ga} {t : TP}
local instance : Tabl := ⟨[], fun p hp => absurd hp (by simp)⟩
end
end PL
set_option Elab.async false
set_option linter.all false
set_option maxRecDepth 100000
set_option maxHeartbeats 4000000
namespace PL
open PySem L2
section
variable {Γ : Ga} {t ta tb : TP} {tl tk : TL} {ds es : List D} {n m l : Nat} {C C' : Addr} {fs : List (PySem.Str × D)} {g : FSo} {is : List Nat} {cb cc : TB} {b c : Bool}
local instance : Tabl := ⟨[], fun p hp => absurd hp (by simp)⟩
theorem ev_make (h : EvL tl Γ ds) (hn : ds.length = n) (hg : ∀ (k : D → D → Prop) kx, k .non (.ins C' fs) → g (.ins C [] :: ds) k kx) : Ev (tpMake C g n tl) Γ (.ins C' fs) := fun k kx z => h _ _ ⟨hn, hg _ _ ⟨rfl, z⟩⟩
theorem evb_or (h : EvB cb Γ b) (g : EvB cc Γ c) : EvB (tbOr cb cc) Γ (b || c) := by
  cases b
  · exact evb_orF h g
  · exact evb_orT h
end
end PL
set_option Elab.async false
set_option linter.all false
set_option maxRecDepth 100000
set_option maxHeartbeats 4000000
namespace PL
def Sq (x : List Nat) : Prop := ∃ p u q, u ≠ [] ∧ x = p ++ (u ++ (u ++ q))
def Md (x : List Nat) : Prop := ∃ p u m w q, m ≠ [] ∧ x = p ++ (u ++ (m ++ (w ++ q))) ∧ (∀ c, c ∈ u ↔ c ∈ w) ∧ ∀ c ∈ m, c ∈ u
theorem Sq.sub {x : List Nat} (p q : List Nat) (h : Sq x) : Sq (p ++ (x ++ q)) := by
  obtain ⟨p', u, q', hu, e⟩ := h
  exact ⟨p ++ p', u, q' ++ q, hu, by rw [e]; simp⟩
theorem Md.sub {x : List Nat} (p q : List Nat) (h : Md x) : Md (p ++ (x ++ q)) := by
  obtain ⟨p', u, m, w, q', hm0, e, h1, h2⟩ := h
  exact ⟨p ++ p', u, m, w, q' ++ q, hm0, by rw [e]; simp, h1, h2⟩
end PL
set_option Elab.async false
set_option linter.all false
set_option maxRecDepth 100000
set_option maxHeartbeats 4000000
namespace PL
open PySem L2
end PL
set_option Elab.async false
set_option linter.all false
set_option maxRecDepth 100000
set_option maxHeartbeats 4000000
namespace PL
open PySem L2
section
variable {ds : List D} {kd : KD} {kx : KX} {Γ : Ga} {ta tb : TP}
local instance : Tabl := ⟨[], fun p hp => absurd hp (by simp)⟩
theorem ev_slT {x : List Nat} {a : Nat} {ia : Int} (h : Ev ta Γ (.str x)) {t1 : TP} (h1 : Ev t1 Γ (.int ia)) (ea : ia = (a : Nat)) (hz : x.length ≤ sizeLine) : Ev (tpSl ta toNo (toSome t1)) Γ (.str (x.take a)) := by
  rw [← cut_take]
  exact ev_sl h (fun k kx z => z) (fun k kx z => h1 _ _ (ea ▸ z)) hz
end
end PL
set_option Elab.async false
set_option linter.all false
set_option maxRecDepth 100000
set_option maxHeartbeats 4000000
namespace PL
open PySem L2
section
variable {ds : List D} {kd : KD} {kx : KX} {ss : List (List Nat)} {ps : Prs} {v : List Nat} {Γ : Ga} {ta tb : TP}
local instance : Tabl := ⟨[], fun p hp => absurd hp (by simp)⟩
theorem ev_neI {a b : Int} (h : Ev ta Γ (.int a)) (g : Ev tb Γ (.int b)) : Ev (tpOp fNe ta tb) Γ (.bl (!decide (a = b))) := ev_op h g fun k z => ⟨⟨rfl, rfl, Nat.zero_le _, Nat.zero_le _⟩, by
  have e : eqD (.int a) (.int b) = decide (a = b) := by
    by_cases q : a = b
    · rw [q, decide_eq_true rfl]
      exact beq_iff_eq.mpr rfl
    · rw [decide_eq_false q]
      exact beq_eq_false_iff_ne.mpr q
  rw [e]
  exact z⟩
theorem ev_all {bs : List Bool} {t : TP} (h : Ev t Γ (.lst (bs.map .bl))) : Ev (tp1 fAll t) Γ (.bl (bs.all id)) := ev_1 h fun k z => by
  show onBs (bs.map D.bl) _
  rw [onBs_map]
  exact z
abbrev hG (ss : List (List Nat)) (ps : Prs) (v : List Nat) (W : List Blk) (fo : List D) (s4 s5 s6 s7 s8 s9 : Sl) : Ga := [.pu (modD (.free ss ps)), .pu (.str v), .ow (.lst (W.map blkD)), .ow (.lst fo), s4, s5, s6, s7, s8, s9]
end
end PL
set_option Elab.async false
set_option linter.all false
set_option maxRecDepth 100000
set_option maxHeartbeats 4000000
namespace PL
open PySem L2
section
variable {ds : List D} {kd : KD} {kx : KX} {Γ : Ga} {t : TP} {tl : TL} {es : List D} {d : D} {l i n : Nat} {nm : PySem.Str} {K : Ks} {CC : Addr} {m : KindM}
local instance : Tabl := ⟨[], fun p hp => absurd hp (by simp)⟩
end
end PL
set_option Elab.async false
set_option linter.all false
set_option maxRecDepth 100000
set_option maxHeartbeats 4000000
namespace PL
open PySem L2 PyProof.Rows
end PL
set_option Elab.async false
set_option linter.all false
set_option maxRecDepth 100000
set_option maxHeartbeats 4000000
namespace PL
open PySem L2
end PL
set_option Elab.async false
set_option linter.all false
set_option maxRecDepth 100000
set_option maxHeartbeats 4000000
namespace PL
open PySem L2
section
variable {ds : List D} {kd : KD} {kx : KX} {C CF CC CX : Addr} {ss : List (List Nat)} {ps : Prs} {Γ : Ga} {t ta tb : TP} {tl : TL} {d x y : D} {n : Nat}
local instance : Tabl := ⟨[], fun p hp => absurd hp (by simp)⟩
theorem ev_and {b c : Bool} (h : Ev ta Γ (.bl b)) (g : b = true → Ev tb Γ (.bl c)) (e : b = false → c = false) : Ev (tpAnd ta tb) Γ (.bl c) := fun k kx z => h _ _ (by
  cases b
  · rw [e rfl] at z
    exact z
  · exact g rfl _ _ z)
end
end PL
set_option Elab.async false
set_option linter.all false
set_option maxRecDepth 100000
set_option maxHeartbeats 4000000
set_option Elab.async false
set_option linter.all false
set_option maxRecDepth 100000
set_option maxHeartbeats 4000000
namespace PL
open PySem L2
abbrev REP : List Nat := [114, 101, 112, 101, 97, 116]
abbrev MID : List Nat := [109, 105, 100, 100, 108, 101]
abbrev AGN : List Nat := [97, 103, 97, 105, 110]
abbrev LAT : List Nat := [108, 97, 116, 101, 114]
abbrev nD (n : Nat) : D := .int (n : Nat)
section
variable {ds : List D} {kd : KD} {kx : KX} {C CF CC CX : Addr} {ss : List (List Nat)} {ps : Prs} {Γ : Ga} {t ta tb : TP} {tl : TL} {d x y : D} {n : Nat}
local instance : Tabl := ⟨[], fun p hp => absurd hp (by simp)⟩
/-- a step that cuts, and the log behind it -/
inductive Way : KindM → List Nat → D → List Nat → Prop
  | rep {ss : List (List Nat)} {ps : Prs} {p u q : List Nat} {s : Nat} : u ≠ [] → (∀ c ∈ u, ownF ss c = s) → Way (.free ss ps) (p ++ (u ++ (u ++ q))) (.tup [.str REP, nD p.length, nD u.length]) (p ++ (u ++ q))
  | mid {ss : List (List Nat)} {ps : Prs} {p u m w q : List Nat} {s : Nat} : u ≠ [] → m ≠ [] → w ≠ [] → (∀ c, c ∈ u ↔ c ∈ w) → (∀ c ∈ m, c ∈ u) → (∀ c ∈ u, ownF ss c = s) →
      Way (.free ss ps) (p ++ (u ++ (m ++ (w ++ q)))) (.tup [.str MID, nD p.length, nD u.length, nD m.length, nD w.length]) (p ++ (u ++ (w ++ q)))
  | agn {s p q : List Nat} {c : Nat} : c ∈ p → Way (.first s) (p ++ (c :: q)) (.tup [.str AGN, nD p.length]) (p ++ q)
  | lat {s p q : List Nat} {c : Nat} : c ∈ q → Way (.last s) (p ++ (c :: q)) (.tup [.str LAT, nD p.length]) (p ++ q)
theorem Way.tup {m : KindM} {v w : List Nat} {st : D} (h : Way m v st w) : ∃ a b r, st = .tup (a :: b :: r) := by
  cases h <;> exact ⟨_, _, _, rfl⟩
end
end PL
set_option Elab.async false
set_option linter.all false
set_option maxRecDepth 100000
set_option maxHeartbeats 4000000
namespace PL
open PySem L2
section
variable {ds : List D} {kd : KD} {kx : KX} {Γ : Ga} {t ta tb : TP} {d x y : D} {n : Nat}
local instance : Tabl := ⟨[], fun p hp => absurd hp (by simp)⟩
end
end PL
set_option Elab.async false
set_option linter.all false
set_option maxRecDepth 100000
set_option maxHeartbeats 4000000
namespace PL
open PySem L2
section
variable {ds : List D} {kd : KD} {kx : KX} {Γ : Ga} {t ta tb : TP} {d x y : D} {n : Nat}
local instance : Tabl := ⟨[], fun p hp => absurd hp (by simp)⟩
end
end PL
set_option Elab.async false
set_option linter.all false
set_option maxRecDepth 100000
set_option maxHeartbeats 4000000
namespace PL
open PySem L2
end PL
set_option Elab.async false
set_option linter.all false
set_option maxRecDepth 100000
set_option maxHeartbeats 4000000
namespace PL
open PySem L2
end PL
set_option Elab.async false
set_option linter.all false
set_option maxRecDepth 100000
set_option maxHeartbeats 4000000
namespace PL
open PySem L2
def one (ss : List (List Nat)) (u : List Nat) : Bool := decide (∀ d ∈ u, ∀ e ∈ u, ownF ss d = ownF ss e)
section
variable {ds : List D} {kd : KD} {kx : KX} {C CF CC CX : Addr} {ss : List (List Nat)} {ps : Prs} {Γ : Ga} {t ta tb tc : TP} {tl : TL} {d x y : D} {n : Nat} {cb : TB} {P : PEn} {u s r : TSp} {b : Bool}
local instance : Tabl := ⟨[], fun p hp => absurd hp (by simp)⟩
theorem st_ifB (h : EvB cb Γ b) (ht : b = true → s { P with nx := u P } Γ) (hf : b = false → r { P with nx := u P } Γ) : tsSeq (tsIf cb s r) u P Γ := by
  cases b
  · exact st_ifF h (hf rfl)
  · exact st_ifT h (ht rfl)
theorem st_if1B (h : EvB cb Γ b) (ht : b = true → s P Γ) (hf : b = false → r P Γ) : tsIf cb s r P Γ := by
  cases b
  · exact st_if1F h (hf rfl)
  · exact st_if1T h (ht rfl)
theorem st_ifNB (h : EvB cb Γ b) (ht : b = true → s { P with nx := u P } Γ) (hf : b = false → u P Γ) : tsSeq (tsIf cb s tsNext) u P Γ := st_ifB h ht hf
theorem ev_gtI {a b : Int} (h : Ev ta Γ (.int a)) (g : Ev tb Γ (.int b)) : Ev (tpOp fGt ta tb) Γ (.bl (decide (b < a))) := ev_op h g fun k z => z
theorem ev_notInS {c : Nat} {l : List Nat} (h : Ev ta Γ (.str [c])) (g : Ev tb Γ (.str l)) : Ev (tpOp fNotInS ta tb) Γ (.bl (!decide (c ∈ l))) := ev_op h g fun k z => z
end
end PL
set_option Elab.async false
set_option linter.all false
set_option maxRecDepth 100000
set_option maxHeartbeats 4000000
namespace PL
open PySem L2
section
variable {ds : List D} {kd : KD} {kx : KX} {C CF CC CX : Addr} {ss : List (List Nat)} {ps : Prs} {Γ : Ga} {t ta tb tc : TP} {tl : TL} {d x y : D} {n : Nat} {cb : TB} {P : PEn} {u s r : TSp} {b : Bool} {K : Ks}
local instance : Tabl := ⟨[], fun p hp => absurd hp (by simp)⟩
end
end PL
set_option Elab.async false
set_option linter.all false
set_option maxRecDepth 100000
set_option maxHeartbeats 4000000
namespace PL
open PySem L2
section
variable {ds : List D} {kd : KD} {kx : KX} {C CF CC CX : Addr} {ss : List (List Nat)} {ps : Prs} {Γ : Ga} {t ta tb tc : TP} {tl : TL} {d x y : D} {n : Nat} {cb : TB} {P : PEn} {u s r : TSp} {b : Bool} {K : Ks}
local instance : Tabl := ⟨[], fun p hp => absurd hp (by simp)⟩
end
end PL
set_option Elab.async false
set_option linter.all false
set_option maxRecDepth 100000
set_option maxHeartbeats 4000000
namespace PL
open PySem L2
section
variable {ds : List D} {kd : KD} {kx : KX} {C CF CC CX : Addr} {ss : List (List Nat)} {ps : Prs} {Γ : Ga} {t ta tb tc : TP} {tl : TL} {d x y : D} {n : Nat} {cb : TB} {P : PEn} {u s r : TSp} {b : Bool} {K : Ks}
local instance : Tabl := ⟨[], fun p hp => absurd hp (by simp)⟩
end
end PL
set_option Elab.async false
set_option linter.all false
set_option maxRecDepth 100000
set_option maxHeartbeats 4000000
namespace PL
open PySem L2
/-- the expression raises x -/
def EvX (t : TP) (Γ : Ga) (x : XD) : Prop := ∀ (k : KD) (kx : KX), kx x → t Γ k kx
section
local instance : Tabl := ⟨[], fun p hp => absurd hp (by simp)⟩
variable {Γ : Ga} {t ta tb : TP} {tl : TL} {d : D} {ds : List D} {i n : Nat} {KK : PySem.W.Frag} {C0 C1 C2 C3 C4 C5 C6 C7 C8 C9 C10 C11 : Addr} {CX : Addr} {T : List Nat} {x : XD} {nm : PySem.Str}
theorem evx_call {f : FS} (h : EvL tl Γ ds) (hn : ds.length = n) (hf : ∀ (k : KD) (kx : KX), kx x → f ds k kx) : EvX (tpCall n f tl) Γ x := fun k kx z => h _ _ ⟨hn, hf k kx z⟩
theorem evx_meth {C : Addr} {fs : List (PySem.Str × D)} {ms : List (Addr × FS)} {f : FS} (h : Ev t Γ (.ins C fs)) (hno : fs.lookup nm = none) (hm : (C, f) ∈ ms) (hl : EvL tl Γ ds) (hn : ds.length = n) (hf : ∀ (k : KD) (kx : KX), kx x → f (.ins C fs :: ds) k kx) : EvX (tpMeth ms nm n t tl) Γ x := fun k kx z => h _ _ (by
  show fs.lookup nm = none ∧ ∃ f, (C, f) ∈ ms ∧ tl Γ (fun ds => ds.length = n ∧ f (.ins C fs :: ds) k kx) kx
  exact ⟨hno, f, hm, hl _ _ ⟨hn, hf k kx z⟩⟩)
theorem evx_methK {C : Addr} {fs : List (PySem.Str × D)} {ms : List (Addr × FS)} {f : FS} {l : Nat} {is : List Nat} {es : List D} (h : Ev t Γ (.ins C fs)) (hno : fs.lookup nm = none) (hm : (C, f) ∈ ms) (hl : EvL tl Γ es) (hn : es.length = l) (hf : ∀ (k : KD) (kx : KX), kx x → f (byIx is .non ([.ins C fs] ++ es)) k kx) : EvX (tpMethK ms nm l is t tl) Γ x := fun k kx z => h _ _ (by
  show fs.lookup nm = none ∧ ∃ f, (C, f) ∈ ms ∧ _
  exact ⟨hno, f, hm, hl _ _ ⟨hn, hf k kx z⟩⟩)
abbrev askF (KK : PySem.W.Frag) (C0 C1 C2 C3 C4 C5 C6 C7 C8 C9 C10 C11 : Addr) : TP → TSp := m_law_ask KK C0 C1 C2 C3 C4 C5 C6 C7 C8 C9 C10 C11
/-- an error of the first clause -/
theorem ask_given (XF : ∀ f : PySem.Str, f = "tag" ∨ f = "given" → XFld KK (.ref CX) f) (he : PySem.W.exmAny KK (.ref CX) [.ref C2, .ref C3, .ref C4, .ref C7, .ref C8, .ref C9] = some true)
    (h : EvX t (purify Γ) ⟨.ref CX, [(("given" : PySem.Str), d), (("tag" : PySem.Str), .str T)]⟩) : Ev (tpLam 2 (askF KK C0 C1 C2 C3 C4 C5 C6 C7 C8 C9 C10 C11) t) Γ (.tup [.str T, d]) := fun k kx z =>
  fun v cA u Gx => ⟨⟨rfl, rfl, rfl, rfl⟩, h _ _ ⟨true, he, fun _ a dA => ⟨rfl, rfl, XF "tag" (.inl rfl), rfl, rfl, XF "given" (.inr rfl), by show 2 ≤ 100000; decide, z⟩, fun z => Bool.noConfusion z⟩⟩
theorem ask_most (XF : ∀ f : PySem.Str, f = "tag" ∨ f = "most" → XFld KK (.ref CX) f) (he : PySem.W.exmAny KK (.ref CX) [.ref C2, .ref C3, .ref C4, .ref C7, .ref C8, .ref C9] = some false) (e5 : PySem.W.exmOne KK (.ref CX) (.ref C5) = some false) (e6 : PySem.W.exmOne KK (.ref CX) (.ref C6) = some false) (e10 : PySem.W.exmOne KK (.ref CX) (.ref C10) = some true)
    (h : EvX t (purify Γ) ⟨.ref CX, [(("most" : PySem.Str), d), (("tag" : PySem.Str), .str T)]⟩) : Ev (tpLam 2 (askF KK C0 C1 C2 C3 C4 C5 C6 C7 C8 C9 C10 C11) t) Γ (.tup [.str T, d]) := fun k kx z =>
  fun v cA u Gx => ⟨⟨rfl, rfl, rfl, rfl⟩, h _ _ ⟨false, he, fun z => Bool.noConfusion z, fun _ => ⟨false, e5, fun z => Bool.noConfusion z, fun _ => ⟨false, e6, fun z => Bool.noConfusion z, fun _ => ⟨true, e10, fun _ a dA => ⟨rfl, rfl, XF "tag" (.inl rfl), rfl, rfl, XF "most" (.inr rfl), by show 2 ≤ 100000; decide, z⟩, fun z => Bool.noConfusion z⟩⟩⟩⟩⟩
end
end PL
set_option Elab.async false
set_option linter.all false
set_option maxRecDepth 100000
set_option maxHeartbeats 4000000
namespace PL
open PySem L2
end PL
set_option Elab.async false
set_option linter.all false
set_option maxRecDepth 100000
set_option maxHeartbeats 4000000
namespace PL
open PySem L2
section
variable {ds : List D} {kd : KD} {kx : KX} {Γ : Ga} {t ta tb : TP} {d x y : D} {n : Nat}
local instance : Tabl := ⟨[], fun p hp => absurd hp (by simp)⟩
variable {P : PEn} {s r : TSp}
end
end PL
set_option Elab.async false
set_option linter.all false
set_option maxRecDepth 100000
set_option maxHeartbeats 4000000
namespace PL
open PySem L2
section
variable {ds : List D} {kd : KD} {kx : KX} {C CF CC CX : Addr} {ss : List (List Nat)} {ps : Prs} {Γ : Ga} {t ta tb tc : TP} {tl : TL} {d x y : D} {n : Nat} {cb : TB} {P : PEn} {u s r : TSp} {b : Bool} {K : Ks}
local instance : Tabl := ⟨[], fun p hp => absurd hp (by simp)⟩
end
end PL
set_option Elab.async false
set_option linter.all false
set_option maxRecDepth 100000
set_option maxHeartbeats 4000000
namespace PL
open PySem L2
section
variable {Γ : Ga} {t ta tb : TP} {ts : List TP} {s : List Nat} {ss : List (List Nat)} {i : Int} {d : D} {cs : List (Addr × Bool)} {C : Addr} {fs : List (PySem.Str × D)} {b : Bool}
local instance : Tabl := ⟨[], fun p hp => absurd hp (by simp)⟩
end
section
variable {ds : List D} {kd : KD} {kx : KX} {C CF CC CX CG : Addr} {ss : List (List Nat)} {ps : Prs} {Γ : Ga} {t ta tb tc : TP} {tl : TL} {d x y : D} {n : Nat} {cb : TB} {P : PEn} {u s r : TSp} {b : Bool} {K : Ks} {m : KindM}
local instance : Tabl := ⟨[], fun p hp => absurd hp (by simp)⟩
end
end PL
set_option Elab.async false
set_option linter.all false
set_option maxRecDepth 100000
set_option maxHeartbeats 4000000
namespace PL
open PySem L2
section
variable {ds : List D} {kd : KD} {kx : KX} {C CF CC CX CG : Addr} {ss : List (List Nat)} {ps : Prs} {Γ : Ga} {t ta tb tc tj : TP} {tl : TL} {d e x y : D} {n i : Nat} {cb : TB} {P : PEn} {s r : TSp} {b : Bool} {K : Ks} {m : KindM} {u v w : List Nat}
local instance : Tabl := ⟨[], fun p hp => absurd hp (by simp)⟩
end
end PL
set_option Elab.async false
set_option linter.all false
set_option maxRecDepth 100000
set_option maxHeartbeats 4000000
namespace PySem
end PySem
namespace L2
open PySem PySem.Spec PyProof.Rows
end L2
namespace PL
open PySem L2
end PL
set_option Elab.async false
set_option linter.all false
set_option maxRecDepth 100000
set_option maxHeartbeats 4000000
namespace PL
open PySem L2
def mx_need_log_of (C_InvalidLog : Addr) (fs_is_log_of : FS) : FS := fun ds k kx =>
  (tsIf (tbNot (tbV (tpCall 2 fs_is_log_of (tlCons (tpVar 0) (tlCons (tpVar 1) tlNil)))))
    (tsRaise C_InvalidLog "InvalidLog" "given" (tpVar 0))
    tsNext)
  (fEnds k kx) (ga0 2 ds)
end PL
set_option Elab.async false
set_option linter.all false
set_option maxRecDepth 100000
set_option maxHeartbeats 4000000
namespace PL
open PySem L2
end PL
set_option Elab.async false
set_option linter.all false
set_option maxRecDepth 100000
set_option maxHeartbeats 4000000
namespace PL
open PySem L2
end PL
set_option Elab.async false
set_option linter.all false
set_option maxRecDepth 100000
set_option maxHeartbeats 4000000
namespace PL
open PySem L2
section
variable {ds : List D} {kd : KD} {kx : KX} {C CF CC : Addr}
local instance : Tabl := ⟨[], fun p hp => absurd hp (by simp)⟩
end
end PL
set_option Elab.async false
set_option linter.all false
set_option maxRecDepth 100000
set_option maxHeartbeats 4000000
namespace PL
open PySem L2
section
variable {ds : List D} {kd : KD} {kx : KX} {C CF CC : Addr}
local instance : Tabl := ⟨[], fun p hp => absurd hp (by simp)⟩
end
end PL
set_option Elab.async false
set_option linter.all false
set_option maxRecDepth 100000
set_option maxHeartbeats 4000000
namespace PL
open PySem L2
section
variable {ds : List D} {kd : KD} {kx : KX} {C CF CC : Addr}
local instance : Tabl := ⟨[], fun p hp => absurd hp (by simp)⟩
end
end PL
set_option Elab.async false
set_option linter.all false
set_option maxRecDepth 100000
set_option maxHeartbeats 4000000
namespace PL
open PySem L2
section
variable {ds : List D} {kd : KD} {kx : KX} {C CF CC : Addr}
local instance : Tabl := ⟨[], fun p hp => absurd hp (by simp)⟩
end
end PL
set_option Elab.async false
set_option linter.all false
set_option maxRecDepth 100000
set_option maxHeartbeats 4000000
namespace PL
open PySem L2
variable [Tabl]
theorem OwnAt.h0 {K : PySem.W.Frag} {H0 H1 G H : Hp} {p : Addr} {l : List D} (h : OwnAt K H0 G H p (.lst l)) : OwnAt K H1 G H p (.lst l) := h
end PL
set_option Elab.async false
set_option linter.all false
set_option maxRecDepth 100000
set_option maxHeartbeats 4000000
namespace PL
open PySem L2
section
variable {ds : List D} {kd : KD} {kx : KX} {Γ : Ga} {t : TP} {tl : TL} {i n : Nat} {d : D} {P : PEn} {u : TSp}
local instance : Tabl := ⟨[], fun p hp => absurd hp (by simp)⟩
theorem ev_slL {l : List D} {lo hi : Option Int} {tlo thi : TO'} (h : Ev t Γ (.lst l)) (hlo : ∀ (k : Option Int → Prop) kx, k lo → tlo Γ k kx) (hhi : ∀ (k : Option Int → Prop) kx, k hi → thi Γ k kx) : Ev (tpSl t tlo thi) Γ (.lst (cutL l lo hi)) := fun k kx z => h _ _ (hlo _ _ (hhi _ _ z))
variable {ss : List (List Nat)} {ps : Prs}
end
end PL
set_option Elab.async false
set_option linter.all false
set_option maxRecDepth 100000
set_option maxHeartbeats 4000000
namespace PL
open PySem L2
abbrev TMW : List Nat := [84, 111, 111, 77, 97, 110, 121]
def rl (ss : List (List Nat)) (ps : Prs) (v : List Nat) : Nat := (runB (apP ps) (ownF ss) v []).length
/-- a log of a free kind -/
def lgF (ss : List (List Nat)) (ps : Prs) (v : List Nat) : Prop := (KindM.free ss ps).ok ∧ v.length ≤ 3000 ∧ ∀ c ∈ v, c ∈ ss.flatten
section
variable {ds : List D} {kd : KD} {kx : KX} {C CF CC CT : Addr} {ss : List (List Nat)} {ps : Prs} {os : List Nat}
local instance : Tabl := ⟨[], fun p hp => absurd hp (by simp)⟩
variable {Γ : Ga} {tl : TL}
theorem lgF.own {v : List Nat} (h : lgF ss ps v) : ∀ c ∈ v, c ∈ deeds ss.flatten := fun c hc => (dL_mem h.1.1.letr c).mpr (h.2.2 c hc)
theorem lgF.app {v w : List Nat} (h : lgF ss ps (v ++ w)) : lgF ss ps v ∧ lgF ss ps w := by
  obtain ⟨h1, h2, h3⟩ := h
  rw [List.length_append] at h2
  exact ⟨⟨h1, by omega, fun c hc => h3 c (List.mem_append_left _ hc)⟩, ⟨h1, by omega, fun c hc => h3 c (List.mem_append_right _ hc)⟩⟩
end
end PL
set_option Elab.async false
set_option linter.all false
set_option maxRecDepth 100000
set_option maxHeartbeats 4000000
namespace PL
open PySem L2
abbrev ILOG : List Nat := [73, 110, 118, 97, 108, 105, 100, 76, 111, 103]
abbrev ICNT : List Nat := [73, 110, 118, 97, 108, 105, 100, 67, 111, 117, 110, 116]
def ilX (CL : Addr) (d : D) : XD := ⟨.ref CL, [(("given" : PySem.Str), d), (("tag" : PySem.Str), .str ILOG)]⟩
def icX (CN : Addr) (d : D) : XD := ⟨.ref CN, [(("given" : PySem.Str), d), (("tag" : PySem.Str), .str ICNT)]⟩
/-- more than two hundred blocks -/
def bigL : KindM → List Nat → Prop
  | .free ss ps, v => v.length ≤ 3000 ∧ (∀ c ∈ v, c ∈ ss.flatten) ∧ 200 < rl ss ps v
  | _, _ => False
section
variable {ds : List D} {kd : KD} {kx : KX} {C CF CC CX CG CT CL CN CD : Addr} {ss : List (List Nat)} {ps : Prs} {Γ : Ga} {t ta tb tc tj : TP} {tl : TL} {d e y : D} {x : XD} {n i : Nat} {cb : TB} {P : PEn} {r : TSp} {b : Bool} {K : Ks} {m : KindM} {u v w : List Nat}
local instance : Tabl := ⟨[], fun p hp => absurd hp (by simp)⟩
theorem stx_drop (h : EvX t Γ x) (g : P.xx x Γ) : tsSeq (tsDrop t) r P Γ := h _ _ g
theorem evx_make {g : FSo} (h : EvL tl Γ ds) (hn : ds.length = n) (hg : ∀ (k : D → D → Prop) (kx : KX), kx x → g (.ins C [] :: ds) k kx) : EvX (tpMake C g n tl) Γ x := fun k kx z => h _ _ ⟨hn, hg _ _ z⟩
theorem bigL.al {m : KindM} (hm : m.ok) (h : bigL m v) : v.length ≤ 3000 ∧ ∀ c ∈ v, c ∈ m.al := by
  cases m with
  | free ss ps => exact ⟨h.1, fun c hc => (dL_mem hm.1.letr c).mpr (h.2.1 c hc)⟩
  | _ => exact h.elim
end
end PL
set_option Elab.async false
set_option linter.all false
set_option maxRecDepth 100000
set_option maxHeartbeats 4000000
namespace PL
open PySem L2 PyProof.Rows
variable [Tabl]
structure LamSS (N : List PySem.Str) (sc scope : Scope) (i0 : Nat) : Prop where
  kind : scope.kind = .function
  co : scope.isCoroutine = false
  gen : scope.isGenerator = false
  cell : ∀ y ∈ scope.names, y.2 ≠ .cell
  own : ∀ y ∈ scope.names, y.2 = .local → N[i0]? = some y.1 ∨ y.1 ∉ N
  free : ∀ y ∈ scope.names, y.2 = .free → sc.names.lookup y.1 = some .cell ∨ sc.names.lookup y.1 = some .free
  nd : N.Nodup
theorem LamSS.has {X : Cx} {scope : Scope} {i0 : Nat} (L : LamSS X.N X.env.scope scope i0) (ok : X.Ok) : ∀ y ∈ scope.names, y.2 = .free → ∃ c, X.env.cells.lookup y.1 = some c :=
  fun y hy e => ok.has _ (L.free y hy e)
end PL
set_option Elab.async false
set_option linter.all false
set_option maxRecDepth 100000
set_option maxHeartbeats 8000000
namespace K22
open PySem L2 PL
def m_law (K : PySem.W.Frag) (C_LogError C_Missing C_InvalidDeed C_InvalidDeeds C_InvalidLog C_InvalidStep C_InvalidStore C_InvalidStand C_InvalidNumber C_InvalidCount C_TooMany C_NothingLeft C_Store : Addr) (fs_law_start fs_law_alphabet fs_law_pull fs_law_rows fs_law_bad_deeds fs_law_same fs_law_pick fs_law_calls_refused fs_Store_idle fs_Store_rows : FS) (g_Store : FSo) : FS := fun ds k kx =>
  (tsSeq (tsSet 1 (tpCall 1 fs_law_start (tlCons (tpVar 0) tlNil)))
    (tsSeq (tsFor (tiRng1 (tlCons (tpC (.int 4)) tlNil)) (tgName 2)
    (tsSeq (tsAsgG (tpTup (tlCons (tpCall 2 fs_law_alphabet (tlCons (tpVar 1) (tlCons (tpC (.int 8)) tlNil))) (tlCons (tpOp fAdd (tpC (.int 1)) (tpCall 2 fs_law_pull (tlCons (tpVar 1) (tlCons (tpC (.int 9)) tlNil)))) tlNil))) (tgTup2 3 4))
    (tsSeq (tsPar [5, 6] (tlCons (tpCall 3 fs_law_rows (tlCons (tpVar 1) (tlCons (tpVar 4) (tlCons (tp1 fLenS (tpVar 3)) tlNil)))) (tlCons (tp1 fLenS (tpVar 3)) tlNil)))
    (tsSeq (tsSet 7 (tpCall 1 fs_law_bad_deeds (tlCons (tpVar 1) tlNil)))
    (tsFns 8 9 [(tpLam 2 (m_law_ask K C_LogError C_Missing C_InvalidDeed C_InvalidDeeds C_InvalidLog C_InvalidStep C_InvalidStore C_InvalidStand C_InvalidNumber C_InvalidCount C_TooMany C_NothingLeft) (tpMake C_Store g_Store 2 (tlCons (tpVar 7) (tlCons (tpLst tlNil) tlNil)))), (tpLam 2 (m_law_ask K C_LogError C_Missing C_InvalidDeed C_InvalidDeeds C_InvalidLog C_InvalidStep C_InvalidStore C_InvalidStand C_InvalidNumber C_InvalidCount C_TooMany C_NothingLeft) (tpCMeth C_Store fs_Store_idle 2 (tpC (.cls C_Store)) (tlCons (tpVar 7) (tlCons (tpC (.int 0)) tlNil))))] fun aq1 =>
    (tsSeq (tsIf (tbNot (tbV (tpCall 2 fs_law_same (tlCons (tpLc [9] (tiLst (tpVarF 8)) (tgName 9) tbYes aq1) (tlCons (tpOp fMul (tpLst (tlCons (tpTup (tlCons (tpC (.str [73, 110, 118, 97, 108, 105, 100, 68, 101, 101, 100, 115])) (tlCons (tpVar 7) tlNil))) tlNil)) (tpC (.int 2))) tlNil)))))
    (tsRet (tpC (.bl false)))
    tsNext)
    (tsSeq (tsSet 10 (tpCall 2 fs_law_pull (tlCons (tpVar 1) (tlCons (tpVar 4) tlNil))))
    (tsSeq (tsSet 11 (tpCall 2 fs_law_pick (tlCons (tpVar 1) (tlCons (tpLst (tlCons (tp1 fList (tpOp fIx (tpVar 5) (tpC (.int 0)))) (tlCons (tpOp fAddT (tpOp fIx (tpVar 5) (tpC (.int 0))) (tpTup (tlCons (tpC (.int 0)) tlNil))) (tlCons (tpSl (tpOp fIx (tpVar 5) (tpC (.int 0))) (toSome (tpC (.int 1))) toNo) (tlCons (tpOp fMulT (tpTup (tlCons (tpVar 4) tlNil)) (tpVar 6)) (tlCons (tpOp fMulT (tpTup (tlCons (tpOp fSub (tpC (.int 0)) (tpC (.int 1))) tlNil)) (tpVar 6)) tlNil)))))) tlNil))))
    (tsSeq (tsSet 11 (tpCall 2 fs_law_pick (tlCons (tpVar 1) (tlCons (tpLst (tlCons (tpVar 11) (tlCons (tpVar 11) (tlCons (tpC .non) (tlCons (tpC (.str [48])) (tlCons (tpC (.int 5)) (tlCons (tpOp fMulT (tpTup (tlCons (tpC (.bl true)) tlNil)) (tpVar 6)) (tlCons (tpOp fMulT (tpTup (tlCons (tpC .non) tlNil)) (tpVar 6)) (tlCons (tpOp fMulT (tpTup (tlCons (tpC (.str [48])) tlNil)) (tpVar 6)) tlNil))))))))) tlNil))))
    (tsSeq (tsSet 12 (tpOp fAdd (tpOp fAdd (tpSl (tpVar 5) toNo (toSome (tpVar 10))) (tpLst (tlCons (tpVar 11) tlNil))) (tpSl (tpCall 2 fs_law_pick (tlCons (tpVar 1) (tlCons (tpLst (tlCons (tpVar 5) (tlCons (tpOp fMul (tpLst (tlCons (tpC .non) tlNil)) (tpVar 4)) tlNil))) tlNil))) (toSome (tpOp fAdd (tpVar 10) (tpC (.int 1)))) toNo)))
    (tsSeq (tsIf (tbNot (tbV (tpCall 2 fs_law_same (tlCons (tpLam 2 (m_law_ask K C_LogError C_Missing C_InvalidDeed C_InvalidDeeds C_InvalidLog C_InvalidStep C_InvalidStore C_InvalidStand C_InvalidNumber C_InvalidCount C_TooMany C_NothingLeft) (tpMake C_Store g_Store 2 (tlCons (tpVar 3) (tlCons (tpVar 12) tlNil)))) (tlCons (tpTup (tlCons (tpC (.str [73, 110, 118, 97, 108, 105, 100, 83, 116, 111, 114, 101])) (tlCons (tpVar 10) tlNil))) tlNil)))))
    (tsRet (tpC (.bl false)))
    tsNext)
    (tsSeq (tsSet 13 (tpMake C_Store g_Store 2 (tlCons (tpVar 3) (tlCons (tpVar 5) tlNil))))
    (tsIf (tbOr (tbNot (tbV (tpCall 4 fs_law_calls_refused (tlCons (tpVar 1) (tlCons (tpVar 3) (tlCons (tpVar 13) (tlCons (tpVar 4) tlNil))))))) (tbV (tpOp fNe (tpMeth [(C_Store, fs_Store_rows)] "rows" 0 (tpVar 13) tlNil) (tpVar 5))))
    (tsRet (tpC (.bl false)))
    tsNext)))))))))))))
    (tsFns 8 9 [(tpLam 2 (m_law_ask K C_LogError C_Missing C_InvalidDeed C_InvalidDeeds C_InvalidLog C_InvalidStep C_InvalidStore C_InvalidStand C_InvalidNumber C_InvalidCount C_TooMany C_NothingLeft) (tpMake C_Store g_Store 2 (tlCons (tpC (.str [97])) (tlCons (tpLst tlNil) tlNil)))), (tpLam 2 (m_law_ask K C_LogError C_Missing C_InvalidDeed C_InvalidDeeds C_InvalidLog C_InvalidStep C_InvalidStore C_InvalidStand C_InvalidNumber C_InvalidCount C_TooMany C_NothingLeft) (tpMake C_Store g_Store 2 (tlCons (tpC (.str [97])) (tlCons (tpC .non) tlNil)))), (tpLam 2 (m_law_ask K C_LogError C_Missing C_InvalidDeed C_InvalidDeeds C_InvalidLog C_InvalidStep C_InvalidStore C_InvalidStand C_InvalidNumber C_InvalidCount C_TooMany C_NothingLeft) (tpMake C_Store g_Store 2 (tlCons (tpC (.str [97])) (tlCons (tpOp fMul (tpLst (tlCons (tpC .non) tlNil)) (tpC (.int 121))) tlNil))))] fun aq2 =>
    (tsRet (tpCall 2 fs_law_same (tlCons (tpLc [9] (tiLst (tpVarF 8)) (tgName 9) tbYes aq2) (tlCons (tpLst (tlCons (tpTup (tlCons (tpC (.str [73, 110, 118, 97, 108, 105, 100, 83, 116, 111, 114, 101])) (tlCons (tpC (.int 0)) tlNil))) (tlCons (tpTup (tlCons (tpC (.str [73, 110, 118, 97, 108, 105, 100, 83, 116, 111, 114, 101])) (tlCons (tpC (.int 0)) tlNil))) (tlCons (tpTup (tlCons (tpC (.str [84, 111, 111, 77, 97, 110, 121])) (tlCons (tpC (.int 120)) tlNil))) tlNil)))) tlNil)))))))
  (fEnds k kx) (ga0 14 ds)
def top (i : Nat) : Stmt := PySem.Challenge.pw_replaylog_k22_stores_refused.main.body.getD i (.Pass ⟨0, 0, 0, 0⟩)
abbrev s_is_number : Stmt := top 17
abbrev s_is_within : Stmt := top 18
abbrev s_is_log : Stmt := top 19
abbrev s_is_log_of : Stmt := top 20
abbrev s_is_ascending : Stmt := top 21
abbrev s_is_deeds : Stmt := top 22
abbrev s_need_log_of : Stmt := top 23
abbrev s_need_deeds : Stmt := top 26
abbrev s_need_rows : Stmt := top 27
abbrev s_place_of : Stmt := top 28
abbrev s_Store___init__ : Stmt := (inClass (top 29) 1)
abbrev s_Store_idle : Stmt := (inClass (top 29) 2)
abbrev s_Store_rows : Stmt := (inClass (top 29) 4)
abbrev s_Store_need_stand : Stmt := (inClass (top 29) 5)
abbrev s_Store_need_deed : Stmt := (inClass (top 29) 6)
abbrev s_Store___call__ : Stmt := (inClass (top 29) 8)
abbrev s_Store___getitem__ : Stmt := (inClass (top 29) 9)
abbrev s_Store_change : Stmt := (inClass (top 29) 12)
abbrev s_Store___setitem__ : Stmt := (inClass (top 29) 10)
abbrev s_Store_reached : Stmt := (inClass (top 29) 13)
abbrev s_law_pull : Stmt := top 32
abbrev s_law_pick : Stmt := top 33
abbrev s_law_letters : Stmt := top 34
abbrev s_law_alphabet : Stmt := top 35
abbrev s_law_rows : Stmt := top 36
abbrev s_law_bad_deeds : Stmt := top 37
abbrev s_law_same : Stmt := top 38
abbrev s_law_ask : Stmt := top 39
abbrev s_law_laid : Stmt := top 40
abbrev s_law_calls_refused : Stmt := top 41
abbrev s_law : Stmt := top 42
structure Cls where
  LogError : Addr
  Missing : Addr
  InvalidDeed : Addr
  InvalidDeeds : Addr
  InvalidLog : Addr
  InvalidStep : Addr
  InvalidStore : Addr
  InvalidStand : Addr
  InvalidNumber : Addr
  InvalidCount : Addr
  TooMany : Addr
  NothingLeft : Addr
  Store : Addr
structure Txt (P : Program) (K : PySem.W.Frag) (mg : PySem.Str → Option Value) (C : Cls) : Prop where
  LETTERS : ∃ t, mg "LETTERS" = some (.str (SS [97, 98, 99, 100, 101, 102, 103, 104, 105, 106, 107, 108, 109, 110, 111, 112, 113, 114, 115, 116, 117, 118, 119, 120, 121, 122]) t)
  MOST_DEEDS : ∃ t, mg "MOST_DEEDS" = some (.int 8 t)
  MOST_STANDS : ∃ t, mg "MOST_STANDS" = some (.int 120 t)
  b_all : mg "all" = none
  b_bool : mg "bool" = none
  b_enumerate : mg "enumerate" = none
  b_int : mg "int" = none
  b_isinstance : mg "isinstance" = none
  b_len : mg "len" = none
  b_list : mg "list" = none
  b_min : mg "min" = none
  b_range : mg "range" = none
  b_str : mg "str" = none
  b_tuple : mg "tuple" = none
  g_LogError : mg "LogError" = some (.ref C.LogError)
  g_Missing : mg "Missing" = some (.ref C.Missing)
  g_InvalidDeed : mg "InvalidDeed" = some (.ref C.InvalidDeed)
  g_InvalidDeeds : mg "InvalidDeeds" = some (.ref C.InvalidDeeds)
  g_InvalidLog : mg "InvalidLog" = some (.ref C.InvalidLog)
  g_InvalidStep : mg "InvalidStep" = some (.ref C.InvalidStep)
  g_InvalidStore : mg "InvalidStore" = some (.ref C.InvalidStore)
  g_InvalidStand : mg "InvalidStand" = some (.ref C.InvalidStand)
  g_InvalidNumber : mg "InvalidNumber" = some (.ref C.InvalidNumber)
  g_InvalidCount : mg "InvalidCount" = some (.ref C.InvalidCount)
  g_TooMany : mg "TooMany" = some (.ref C.TooMany)
  g_NothingLeft : mg "NothingLeft" = some (.ref C.NothingLeft)
  n_Store_own_deeds : L2.Cls K C.Store ∧ NoAttr K C.Store "own_deeds"
  n_Store_table : L2.Cls K C.Store ∧ NoAttr K C.Store "table"
  ns_Store : PySem.W.noSeq K C.Store = true
  fa_Store___call__ : FnAt K C.Store "__call__"
  fa_Store___getitem__ : FnAt K C.Store "__getitem__"
  g_Store : mg "Store" = some (.ref C.Store)
  x_InvalidCount : PySem.ExcX.XC P K mg "InvalidCount" "given" C.InvalidCount
  x_InvalidDeed : PySem.ExcX.XC P K mg "InvalidDeed" "given" C.InvalidDeed
  x_InvalidDeeds : PySem.ExcX.XC P K mg "InvalidDeeds" "given" C.InvalidDeeds
  x_InvalidLog : PySem.ExcX.XC P K mg "InvalidLog" "given" C.InvalidLog
  x_InvalidStand : PySem.ExcX.XC P K mg "InvalidStand" "given" C.InvalidStand
  x_InvalidStore : PySem.ExcX.XC P K mg "InvalidStore" "index" C.InvalidStore
  x_TooMany : PySem.ExcX.XC P K mg "TooMany" "most" C.TooMany
section
variable [Tabl] {P : Program} {w : World} {K : PySem.W.Frag} {mg : PySem.Str → Option Value} {base : Heap} {C : Cls}
theorem sc_is_number : FnScope ["value"] ["value"] (defScope s_is_number) := ⟨rfl, rfl, rfl, by decide +kernel, rfl, by decide +kernel, by decide +kernel⟩
theorem ok_is_number {f : Addr} {fd : FuncData} (F : Fun K "is_number" "is_number" s_is_number f fd) (T : Txt P K mg C)  : FnOk P w K mg base (L2.CX P w) (0 + 1) f fd ["value"] (spOf K 1 (m_is_number   )) := by
  refine fn_ok F sc_is_number rfl (fun cdv A outer s H E hr => ⟨_, ?_, fun ds kd kx _ hf => hf⟩)
  have tk := takes_of (X := (cxOf (L2.CX P w) P w K mg base ["value"] "is_number" (defScope s_is_number) f cdv A outer s H E)) rfl rfl rfl rfl
  have po : PassesOwn (model P w) (cxOf (L2.CX P w) P w K mg base ["value"] "is_number" (defScope s_is_number) f cdv A outer s H E).A (cxOf (L2.CX P w) P w K mg base ["value"] "is_number" (defScope s_is_number) f cdv A outer s H E).env (cxOf (L2.CX P w) P w K mg base ["value"] "is_number" (defScope s_is_number) f cdv A outer s H E).xe := passes_of rfl
  exact (ss_one (s_ret (p_and (p_isi "int" (PP.u (p_var 0)) (pe_bltn (v := .ty "int") (by rfl) T.b_int (by decide +kernel) rfl) T.b_isinstance) (p_one (p_not (p_isi "bool" (PP.u (p_var 0)) (pe_bltn (v := .ty "bool") (by rfl) T.b_bool (by decide +kernel) rfl) T.b_isinstance))))))
theorem sc_is_within : FnScope ["value", "low", "high"] ["value", "low", "high"] (defScope s_is_within) := ⟨rfl, rfl, rfl, by decide +kernel, rfl, by decide +kernel, by decide +kernel⟩
theorem ok_is_within {f : Addr} {fd : FuncData} {fs_is_number : FS} (F : Fun K "is_within" "is_within" s_is_within f fd) (T : Txt P K mg C) (D_is_number : Df P w K mg base "is_number" 1 1 fs_is_number) : FnOk P w K mg base (L2.CX P w) (1 + 1) f fd ["value", "low", "high"] (spOf K 3 (m_is_within  fs_is_number )) := by
  refine fn_ok F sc_is_within rfl (fun cdv A outer s H E hr => ⟨_, ?_, fun ds kd kx _ hf => hf⟩)
  have tk := takes_of (X := (cxOf (L2.CX P w) P w K mg base ["value", "low", "high"] "is_within" (defScope s_is_within) f cdv A outer s H E)) rfl rfl rfl rfl
  have po : PassesOwn (model P w) (cxOf (L2.CX P w) P w K mg base ["value", "low", "high"] "is_within" (defScope s_is_within) f cdv A outer s H E).A (cxOf (L2.CX P w) P w K mg base ["value", "low", "high"] "is_within" (defScope s_is_within) f cdv A outer s H E).env (cxOf (L2.CX P w) P w K mg base ["value", "low", "high"] "is_within" (defScope s_is_within) f cdv A outer s H E).xe := passes_of rfl
  exact (ss_one (s_ret (p_and (p_call D_is_number hr (by decide) tk (l_cons (p_var 0) l_nil)) (p_one (p_chain o_le o_le (PP.u (p_var 1)) (PP.u (p_var 0)) (PP.u (p_var 2)) (fun pa pb pc => pe_chain o_le.1 o_le.1 pa pb pc))))))
theorem sc_is_log : FnScope ["value", "sign"] ["value"] (defScope s_is_log) := ⟨rfl, rfl, rfl, by decide +kernel, rfl, by decide +kernel, by decide +kernel⟩
theorem ok_is_log {f : Addr} {fd : FuncData} (F : Fun K "is_log" "is_log" s_is_log f fd) (T : Txt P K mg C)  : FnOk P w K mg base (L2.CX P w) (0 + 1) f fd ["value"] (spOf K 1 (m_is_log   )) := by
  refine fn_ok F sc_is_log rfl (fun cdv A outer s H E hr => ⟨_, ?_, fun ds kd kx _ hf => hf⟩)
  have tk := takes_of (X := (cxOf (L2.CX P w) P w K mg base ["value", "sign"] "is_log" (defScope s_is_log) f cdv A outer s H E)) rfl rfl rfl rfl
  have po : PassesOwn (model P w) (cxOf (L2.CX P w) P w K mg base ["value", "sign"] "is_log" (defScope s_is_log) f cdv A outer s H E).A (cxOf (L2.CX P w) P w K mg base ["value", "sign"] "is_log" (defScope s_is_log) f cdv A outer s H E).env (cxOf (L2.CX P w) P w K mg base ["value", "sign"] "is_log" (defScope s_is_log) f cdv A outer s H E).xe := passes_of rfl
  exact (ss_one (s_ret (p_and (p_isi "str" (PP.u (p_var 0)) (pe_bltn (v := .ty "str") (by rfl) T.b_str (by decide +kernel) rfl) T.b_isinstance) (p_one (p_b1 (c_all rfl) T.b_all (by decide +kernel) (PP.u (p_lc [("sign", 1)] rfl sc_is_log.nd (i_str (p_var 0)) (blkOk_by (N := ["value", "sign"]) (sc := defScope s_is_log) (by decide +kernel)) (fun _ => (g_name 1 sc_is_log.nd)) (fun _ => bs_nil) (fun _ => (p_cmp o_inS (PP.u (p_var 1)) (PP.u (p_globS (s := [97, 98, 99, 100, 101, 102, 103, 104, 105, 106, 107, 108, 109, 110, 111, 112, 113, 114, 115, 116, 117, 118, 119, 120, 121, 122]) (by rfl) T.LETTERS)))))))))))
theorem sc_is_log_of : FnScope ["value", "deeds", "sign"] ["value", "deeds"] (defScope s_is_log_of) := ⟨rfl, rfl, rfl, by decide +kernel, rfl, by decide +kernel, by decide +kernel⟩
theorem ok_is_log_of {f : Addr} {fd : FuncData} (F : Fun K "is_log_of" "is_log_of" s_is_log_of f fd) (T : Txt P K mg C)  : FnOk P w K mg base (L2.CX P w) (0 + 1) f fd ["value", "deeds"] (spOf K 2 (m_is_log_of   )) := by
  refine fn_ok F sc_is_log_of rfl (fun cdv A outer s H E hr => ⟨_, ?_, fun ds kd kx _ hf => hf⟩)
  have tk := takes_of (X := (cxOf (L2.CX P w) P w K mg base ["value", "deeds", "sign"] "is_log_of" (defScope s_is_log_of) f cdv A outer s H E)) rfl rfl rfl rfl
  have po : PassesOwn (model P w) (cxOf (L2.CX P w) P w K mg base ["value", "deeds", "sign"] "is_log_of" (defScope s_is_log_of) f cdv A outer s H E).A (cxOf (L2.CX P w) P w K mg base ["value", "deeds", "sign"] "is_log_of" (defScope s_is_log_of) f cdv A outer s H E).env (cxOf (L2.CX P w) P w K mg base ["value", "deeds", "sign"] "is_log_of" (defScope s_is_log_of) f cdv A outer s H E).xe := passes_of rfl
  exact (ss_one (s_ret (p_and (p_isi "str" (PP.u (p_var 0)) (pe_bltn (v := .ty "str") (by rfl) T.b_str (by decide +kernel) rfl) T.b_isinstance) (p_one (p_b1 (c_all rfl) T.b_all (by decide +kernel) (PP.u (p_lc [("sign", 2)] rfl sc_is_log_of.nd (i_str (p_var 0)) (blkOk_by (N := ["value", "deeds", "sign"]) (sc := defScope s_is_log_of) (by decide +kernel)) (fun _ => (g_name 2 sc_is_log_of.nd)) (fun _ => bs_nil) (fun _ => (p_cmp o_inS (PP.u (p_var 2)) (PP.u (p_var 1)))))))))))
theorem sc_is_ascending : FnScope ["text", "at"] ["text"] (defScope s_is_ascending) := ⟨rfl, rfl, rfl, by decide +kernel, rfl, by decide +kernel, by decide +kernel⟩
theorem ok_is_ascending {f : Addr} {fd : FuncData} (F : Fun K "is_ascending" "is_ascending" s_is_ascending f fd) (T : Txt P K mg C)  : FnOk P w K mg base (L2.CX P w) (0 + 1) f fd ["text"] (spOf K 1 (m_is_ascending   )) := by
  refine fn_ok F sc_is_ascending rfl (fun cdv A outer s H E hr => ⟨_, ?_, fun ds kd kx _ hf => hf⟩)
  have tk := takes_of (X := (cxOf (L2.CX P w) P w K mg base ["text", "at"] "is_ascending" (defScope s_is_ascending) f cdv A outer s H E)) rfl rfl rfl rfl
  have po : PassesOwn (model P w) (cxOf (L2.CX P w) P w K mg base ["text", "at"] "is_ascending" (defScope s_is_ascending) f cdv A outer s H E).A (cxOf (L2.CX P w) P w K mg base ["text", "at"] "is_ascending" (defScope s_is_ascending) f cdv A outer s H E).env (cxOf (L2.CX P w) P w K mg base ["text", "at"] "is_ascending" (defScope s_is_ascending) f cdv A outer s H E).xe := passes_of rfl
  exact (ss_one (s_ret (p_b1 (c_all rfl) T.b_all (by decide +kernel) (PP.u (p_lc [("at", 1)] rfl sc_is_ascending.nd (i_rng2 T.b_range (l_cons p_int (l_cons (p_b1 c_len T.b_len (by decide +kernel) (PP.u (p_var 0))) l_nil))) (blkOk_by (N := ["text", "at"]) (sc := defScope s_is_ascending) (by decide +kernel)) (fun _ => (g_name 1 sc_is_ascending.nd)) (fun _ => bs_nil) (fun _ => (p_cmp o_lt (PP.u (p_ix (PP.u (p_var 0)) (PP.u (p_op o_sub (PP.u (p_var 1)) (PP.u p_int))))) (PP.u (p_ix (PP.u (p_var 0)) (PP.u (p_var 1)))))))))))
theorem sc_is_deeds : FnScope ["value"] ["value"] (defScope s_is_deeds) := ⟨rfl, rfl, rfl, by decide +kernel, rfl, by decide +kernel, by decide +kernel⟩
theorem ok_is_deeds {f : Addr} {fd : FuncData} {fs_is_log fs_is_ascending : FS} (F : Fun K "is_deeds" "is_deeds" s_is_deeds f fd) (T : Txt P K mg C) (D_is_log : Df P w K mg base "is_log" 1 1 fs_is_log) (D_is_ascending : Df P w K mg base "is_ascending" 1 1 fs_is_ascending) : FnOk P w K mg base (L2.CX P w) (1 + 1) f fd ["value"] (spOf K 1 (m_is_deeds  fs_is_log fs_is_ascending )) := by
  refine fn_ok F sc_is_deeds rfl (fun cdv A outer s H E hr => ⟨_, ?_, fun ds kd kx _ hf => hf⟩)
  have tk := takes_of (X := (cxOf (L2.CX P w) P w K mg base ["value"] "is_deeds" (defScope s_is_deeds) f cdv A outer s H E)) rfl rfl rfl rfl
  have po : PassesOwn (model P w) (cxOf (L2.CX P w) P w K mg base ["value"] "is_deeds" (defScope s_is_deeds) f cdv A outer s H E).A (cxOf (L2.CX P w) P w K mg base ["value"] "is_deeds" (defScope s_is_deeds) f cdv A outer s H E).env (cxOf (L2.CX P w) P w K mg base ["value"] "is_deeds" (defScope s_is_deeds) f cdv A outer s H E).xe := passes_of rfl
  exact (ss_one (s_ret (p_and (p_call D_is_log hr (by decide) tk (l_cons (p_var 0) l_nil)) (p_and (p_chain o_le o_le (PP.u p_int) (PP.u (p_b1 c_len T.b_len (by decide +kernel) (PP.u (p_var 0)))) (PP.u (p_globI (by rfl) T.MOST_DEEDS)) (fun pa pb pc => pe_chain o_le.1 o_le.1 pa pb pc)) (p_one (p_call D_is_ascending hr (by decide) tk (l_cons (p_var 0) l_nil)))))))
theorem sc_need_log_of : FnScope ["value", "deeds"] ["value", "deeds"] (defScope s_need_log_of) := ⟨rfl, rfl, rfl, by decide +kernel, rfl, by decide +kernel, by decide +kernel⟩
theorem ok_need_log_of {f : Addr} {fd : FuncData} {fs_is_log_of : FS} (F : Fun K "need_log_of" "need_log_of" s_need_log_of f fd) (T : Txt P K mg C) (D_is_log_of : Df P w K mg base "is_log_of" 1 2 fs_is_log_of) : FnOk P w K mg base (L2.CX P w) (1 + 1) f fd ["value", "deeds"] (spOf K 2 (mx_need_log_of C.InvalidLog fs_is_log_of )) := by
  refine fn_ok F sc_need_log_of rfl (fun cdv A outer s H E hr => ⟨_, ?_, fun ds kd kx _ hf => hf⟩)
  have tk := takes_of (X := (cxOf (L2.CX P w) P w K mg base ["value", "deeds"] "need_log_of" (defScope s_need_log_of) f cdv A outer s H E)) rfl rfl rfl rfl
  have po : PassesOwn (model P w) (cxOf (L2.CX P w) P w K mg base ["value", "deeds"] "need_log_of" (defScope s_need_log_of) f cdv A outer s H E).A (cxOf (L2.CX P w) P w K mg base ["value", "deeds"] "need_log_of" (defScope s_need_log_of) f cdv A outer s H E).env (cxOf (L2.CX P w) P w K mg base ["value", "deeds"] "need_log_of" (defScope s_need_log_of) f cdv A outer s H E).xe := passes_of rfl
  exact (ss_one (s_if (b_not (b_val (p_call D_is_log_of hr (by decide) tk (l_cons (p_var 0) (l_cons (p_var 1) l_nil)))))
    (ss_one (s_raise rfl T.x_InvalidLog (by decide) hr tk (p_var 0)))
    ss_nil))
theorem sc_need_deeds : FnScope ["value"] ["value"] (defScope s_need_deeds) := ⟨rfl, rfl, rfl, by decide +kernel, rfl, by decide +kernel, by decide +kernel⟩
theorem ok_need_deeds {f : Addr} {fd : FuncData} {fs_is_deeds : FS} (F : Fun K "need_deeds" "need_deeds" s_need_deeds f fd) (T : Txt P K mg C) (D_is_deeds : Df P w K mg base "is_deeds" 2 1 fs_is_deeds) : FnOk P w K mg base (L2.CX P w) (2 + 1) f fd ["value"] (spOf K 1 (mx_need_deeds C.InvalidDeeds fs_is_deeds )) := by
  refine fn_ok F sc_need_deeds rfl (fun cdv A outer s H E hr => ⟨_, ?_, fun ds kd kx _ hf => hf⟩)
  have tk := takes_of (X := (cxOf (L2.CX P w) P w K mg base ["value"] "need_deeds" (defScope s_need_deeds) f cdv A outer s H E)) rfl rfl rfl rfl
  have po : PassesOwn (model P w) (cxOf (L2.CX P w) P w K mg base ["value"] "need_deeds" (defScope s_need_deeds) f cdv A outer s H E).A (cxOf (L2.CX P w) P w K mg base ["value"] "need_deeds" (defScope s_need_deeds) f cdv A outer s H E).env (cxOf (L2.CX P w) P w K mg base ["value"] "need_deeds" (defScope s_need_deeds) f cdv A outer s H E).xe := passes_of rfl
  exact (ss_one (s_if (b_not (b_val (p_call D_is_deeds hr (by decide) tk (l_cons (p_var 0) l_nil))))
    (ss_one (s_raise rfl T.x_InvalidDeeds (by decide) hr tk (p_var 0)))
    ss_nil))
theorem sc_need_rows : FnScope ["rows", "width", "index", "row", "target"] ["rows", "width"] (defScope s_need_rows) := ⟨rfl, rfl, rfl, by decide +kernel, rfl, by decide +kernel, by decide +kernel⟩
theorem ok_need_rows {f : Addr} {fd : FuncData} {fs_is_within : FS} (F : Fun K "need_rows" "need_rows" s_need_rows f fd) (T : Txt P K mg C) (D_is_within : Df P w K mg base "is_within" 2 3 fs_is_within) : FnOk P w K mg base (L2.CX P w) (2 + 1) f fd ["rows", "width"] (spOf K 2 (m_need_rows C.InvalidStore C.TooMany fs_is_within )) := by
  refine fn_ok F sc_need_rows rfl (fun cdv A outer s H E hr => ⟨_, ?_, fun ds kd kx _ hf => hf⟩)
  have tk := takes_of (X := (cxOf (L2.CX P w) P w K mg base ["rows", "width", "index", "row", "target"] "need_rows" (defScope s_need_rows) f cdv A outer s H E)) rfl rfl rfl rfl
  have po : PassesOwn (model P w) (cxOf (L2.CX P w) P w K mg base ["rows", "width", "index", "row", "target"] "need_rows" (defScope s_need_rows) f cdv A outer s H E).A (cxOf (L2.CX P w) P w K mg base ["rows", "width", "index", "row", "target"] "need_rows" (defScope s_need_rows) f cdv A outer s H E).env (cxOf (L2.CX P w) P w K mg base ["rows", "width", "index", "row", "target"] "need_rows" (defScope s_need_rows) f cdv A outer s H E).xe := passes_of rfl
  exact (ss_cons (s_if (PBw.to (b_or (b_not (b_val (p_isi2 "list" "tuple" (PP.u (p_var 0)) (pe_bltn (v := .ty "list") (by rfl) T.b_list (by decide +kernel) rfl) (pe_bltn (v := .ty "tuple") (by rfl) T.b_tuple (by decide +kernel) rfl) T.b_isinstance))) (b_or1 (b_cmp (o_eq hr.units) (PP.u (p_b1 c_len T.b_len (by decide +kernel) (PP.u (p_var 0)))) (PP.u p_int)))))
    (ss_one (s_raise rfl T.x_InvalidStore (by decide) hr tk p_int))
    ss_nil)
    (ss_cons (s_if (b_cmp o_gt (PP.u (p_b1 c_len T.b_len (by decide +kernel) (PP.u (p_var 0)))) (PP.u (p_globI (by rfl) T.MOST_STANDS)))
    (ss_one (s_raise rfl T.x_TooMany (by decide) hr tk (p_globI (by rfl) T.MOST_STANDS)))
    ss_nil)
    (ss_one (s_for po rfl (i_enumL T.b_enumerate (p_var 0)) (g_tup2 2 3 rfl sc_need_rows.nd)
    (ss_cons (s_if (PBw.to (b_or (b_not (b_val (p_isi "tuple" (PP.u (p_var 3)) (pe_bltn (v := .ty "tuple") (by rfl) T.b_tuple (by decide +kernel) rfl) T.b_isinstance))) (b_or1 (b_cmp (o_ne hr.units) (PP.u (p_b1 c_len T.b_len (by decide +kernel) (PP.u (p_var 3)))) (PP.u (p_var 1))))))
    (ss_one (s_raise rfl T.x_InvalidStore (by decide) hr tk (p_var 2)))
    ss_nil)
    (ss_one (s_if (b_not (b_val (p_b1 (c_all rfl) T.b_all (by decide +kernel) (PP.u (p_lc [("target", 4)] rfl sc_need_rows.nd (i_tup (p_var 3)) (blkOk_by (N := ["rows", "width", "index", "row", "target"]) (sc := defScope s_need_rows) (by decide +kernel)) (fun _ => (g_name 4 sc_need_rows.nd)) (fun _ => bs_nil) (fun _ => (p_call D_is_within hr (by decide) takes0 (l_cons (p_var 4) (l_cons p_int (l_cons (p_op o_sub (PP.u (p_b1 c_len T.b_len (by decide +kernel) (PP.u (p_var 0)))) (PP.u p_int)) l_nil))))))))))
    (ss_one (s_raise rfl T.x_InvalidStore (by decide) hr tk (p_var 2)))
    ss_nil)))))))
theorem sc_place_of : FnScope ["deeds", "deed", "at", "sign"] ["deeds", "deed"] (defScope s_place_of) := ⟨rfl, rfl, rfl, by decide +kernel, rfl, by decide +kernel, by decide +kernel⟩
theorem ok_place_of {f : Addr} {fd : FuncData} (F : Fun K "place_of" "place_of" s_place_of f fd) (T : Txt P K mg C)  : FnOk P w K mg base (L2.CX P w) (0 + 1) f fd ["deeds", "deed"] (spOf K 2 (m_place_of   )) := by
  refine fn_ok F sc_place_of rfl (fun cdv A outer s H E hr => ⟨_, ?_, fun ds kd kx _ hf => hf⟩)
  have tk := takes_of (X := (cxOf (L2.CX P w) P w K mg base ["deeds", "deed", "at", "sign"] "place_of" (defScope s_place_of) f cdv A outer s H E)) rfl rfl rfl rfl
  have po : PassesOwn (model P w) (cxOf (L2.CX P w) P w K mg base ["deeds", "deed", "at", "sign"] "place_of" (defScope s_place_of) f cdv A outer s H E).A (cxOf (L2.CX P w) P w K mg base ["deeds", "deed", "at", "sign"] "place_of" (defScope s_place_of) f cdv A outer s H E).env (cxOf (L2.CX P w) P w K mg base ["deeds", "deed", "at", "sign"] "place_of" (defScope s_place_of) f cdv A outer s H E).xe := passes_of rfl
  exact (ss_one (s_ret (p_ix (PP.u (p_lc [("at", 2), ("sign", 3)] rfl sc_place_of.nd (i_enumS T.b_enumerate (p_var 0)) (blkOk_by (N := ["deeds", "deed", "at", "sign"]) (sc := defScope s_place_of) (by decide +kernel)) (fun _ => (g_tup2 2 3 rfl sc_place_of.nd)) (fun _ => (bs_one (b_cmp (o_eq hr.units) (PP.u (p_var 3)) (PP.u (p_var 1))))) (fun _ => (p_var 2)))) (PP.u p_int))))
theorem sc_Store___init__ : FnScope ["self", "deeds", "rows", "row"] ["self", "deeds", "rows"] (defScope s_Store___init__) := ⟨rfl, rfl, rfl, by decide +kernel, rfl, by decide +kernel, by decide +kernel⟩
theorem ok_Store___init__ {f : Addr} {fd : FuncData} {fs_need_deeds fs_need_rows : FS} (F : Fun K "__init__" "Store.__init__" s_Store___init__ f fd) (T : Txt P K mg C) (D_need_deeds : Df P w K mg base "need_deeds" 3 1 fs_need_deeds) (D_need_rows : Df P w K mg base "need_rows" 3 2 fs_need_rows) : FnOk P w K mg base (L2.CX P w) (3 + 1) f fd ["self", "deeds", "rows"] (spOi K 3 (m_Store___init__ C.Store fs_need_deeds fs_need_rows )) := by
  refine fn_okI F sc_Store___init__ rfl (fun cdv A outer s H E hr => ⟨_, ?_, fun ds kd kx p _ hf => hf p⟩)
  have tk := takes_of (X := (cxOf (L2.CX P w) P w K mg base ["self", "deeds", "rows", "row"] "Store.__init__" (defScope s_Store___init__) f cdv A outer s H E)) rfl rfl rfl rfl
  have po : PassesOwn (model P w) (cxOf (L2.CX P w) P w K mg base ["self", "deeds", "rows", "row"] "Store.__init__" (defScope s_Store___init__) f cdv A outer s H E).A (cxOf (L2.CX P w) P w K mg base ["self", "deeds", "rows", "row"] "Store.__init__" (defScope s_Store___init__) f cdv A outer s H E).env (cxOf (L2.CX P w) P w K mg base ["self", "deeds", "rows", "row"] "Store.__init__" (defScope s_Store___init__) f cdv A outer s H E).xe := passes_of rfl
  exact (ss_cons (s_expr (PP.u (p_call D_need_deeds hr (by decide) tk (l_cons (p_var 1) l_nil))))
    (ss_cons (s_expr (PP.u (p_call D_need_rows hr (by decide) tk (l_cons (p_var 2) (l_cons (p_b1 c_len T.b_len (by decide +kernel) (PP.u (p_var 1))) l_nil)))))
    (ss_cons (s_setF (cs := [C.Store]) 0 (fun c hc => by (rcases List.mem_cons.mp hc with rfl | hc; exact T.n_Store_own_deeds; cases hc)) (p_var 1))
    (ss_one (s_setF (cs := [C.Store]) 0 (fun c hc => by (rcases List.mem_cons.mp hc with rfl | hc; exact T.n_Store_table; cases hc)) (p_lc [("row", 3)] rfl sc_Store___init__.nd (i_sq (p_var 2)) (blkOk_by (N := ["self", "deeds", "rows", "row"]) (sc := defScope s_Store___init__) (by decide +kernel)) (fun _ => (g_name 3 sc_Store___init__.nd)) (fun _ => bs_nil) (fun _ => (p_t1 c_list T.b_list (by decide +kernel) (PP.u (p_var 3))))))))))
theorem sc_Store_idle : FnScope ["cls", "deeds", "many", "stand"] ["cls", "deeds", "many"] (defScope s_Store_idle) := ⟨rfl, rfl, rfl, by decide +kernel, rfl, by decide +kernel, by decide +kernel⟩
theorem ok_Store_idle {f : Addr} {fd : FuncData} {fs_need_deeds fs_is_within : FS} {g_Store : FSo} {dvs : List V} {kws : List (PySem.Str × V)} (F : L2.FunD K "idle" "Store.idle" (defArgs s_Store_idle) (defBody s_Store_idle) (defScope s_Store_idle) dvs kws f fd) (T : Txt P K mg C) (D_need_deeds : Df P w K mg base "need_deeds" 3 1 fs_need_deeds) (D_is_within : Df P w K mg base "is_within" 2 3 fs_is_within) (Mk_Store : MkI P w K mg base C.Store 4 2 g_Store) : FnOk P w K mg base (L2.CX P w) (5 + 1) f fd ["cls", "deeds", "many"] (spOf K 3 (m_Store_idle C.InvalidCount C.Store fs_need_deeds fs_is_within g_Store)) := by
  refine fn_okD F sc_Store_idle rfl (fun cdv A outer s H E hr => ⟨_, ?_, fun ds kd kx _ hf => hf⟩)
  have tk := takes_of (X := (cxOf (L2.CX P w) P w K mg base ["cls", "deeds", "many", "stand"] "Store.idle" (defScope s_Store_idle) f cdv A outer s H E)) rfl rfl rfl rfl
  have po : PassesOwn (model P w) (cxOf (L2.CX P w) P w K mg base ["cls", "deeds", "many", "stand"] "Store.idle" (defScope s_Store_idle) f cdv A outer s H E).A (cxOf (L2.CX P w) P w K mg base ["cls", "deeds", "many", "stand"] "Store.idle" (defScope s_Store_idle) f cdv A outer s H E).env (cxOf (L2.CX P w) P w K mg base ["cls", "deeds", "many", "stand"] "Store.idle" (defScope s_Store_idle) f cdv A outer s H E).xe := passes_of rfl
  exact (ss_cons (s_expr (PP.u (p_call D_need_deeds hr (by decide) tk (l_cons (p_var 1) l_nil))))
    (ss_cons (s_if (b_not (b_val (p_call D_is_within hr (by decide) tk (l_cons (p_var 2) (l_cons p_int (l_cons (p_globI (by rfl) T.MOST_STANDS) l_nil))))))
    (ss_one (s_raise rfl T.x_InvalidCount (by decide) hr tk (p_var 2)))
    ss_nil)
    (ss_one (s_ret (p_makeL 0 Mk_Store hr (by decide) tk (l_cons (p_var 1) (l_cons (p_lc [("stand", 3)] rfl sc_Store_idle.nd (i_rng1 T.b_range (l_cons (p_var 2) l_nil)) (blkOk_by (N := ["cls", "deeds", "many", "stand"]) (sc := defScope s_Store_idle) (by decide +kernel)) (fun _ => (g_name 3 sc_Store_idle.nd)) (fun _ => bs_nil) (fun _ => (p_op o_mulT (PP.u (p_tup (l_cons (p_var 3) l_nil))) (PP.u (p_b1 c_len T.b_len (by decide +kernel) (PP.u (p_var 1))))))) l_nil)))))))
theorem sc_Store_rows : FnScope ["self", "row"] ["self"] (defScope s_Store_rows) := ⟨rfl, rfl, rfl, by decide +kernel, rfl, by decide +kernel, by decide +kernel⟩
theorem ok_Store_rows {f : Addr} {fd : FuncData} (F : Fun K "rows" "Store.rows" s_Store_rows f fd) (T : Txt P K mg C)  : FnOk P w K mg base (L2.CX P w) (0 + 1) f fd ["self"] (spOf K 1 (m_Store_rows C.Store  )) := by
  refine fn_ok F sc_Store_rows rfl (fun cdv A outer s H E hr => ⟨_, ?_, fun ds kd kx _ hf => hf⟩)
  have tk := takes_of (X := (cxOf (L2.CX P w) P w K mg base ["self", "row"] "Store.rows" (defScope s_Store_rows) f cdv A outer s H E)) rfl rfl rfl rfl
  have po : PassesOwn (model P w) (cxOf (L2.CX P w) P w K mg base ["self", "row"] "Store.rows" (defScope s_Store_rows) f cdv A outer s H E).A (cxOf (L2.CX P w) P w K mg base ["self", "row"] "Store.rows" (defScope s_Store_rows) f cdv A outer s H E).env (cxOf (L2.CX P w) P w K mg base ["self", "row"] "Store.rows" (defScope s_Store_rows) f cdv A outer s H E).xe := passes_of rfl
  exact (ss_one (s_ret (p_lc [("row", 1)] rfl sc_Store_rows.nd (i_lst (p_fld (cs := [C.Store]) (fun c hc => by (rcases List.mem_cons.mp hc with rfl | hc; exact T.n_Store_table; cases hc)) (PP.u (p_var 0)))) (blkOk_by (N := ["self", "row"]) (sc := defScope s_Store_rows) (by decide +kernel)) (fun _ => (g_name 1 sc_Store_rows.nd)) (fun _ => bs_nil) (fun _ => (p_t1 c_tup T.b_tuple (by decide +kernel) (PP.u (p_var 1)))))))
theorem sc_Store_need_stand : FnScope ["self", "stand"] ["self", "stand"] (defScope s_Store_need_stand) := ⟨rfl, rfl, rfl, by decide +kernel, rfl, by decide +kernel, by decide +kernel⟩
theorem ok_Store_need_stand {f : Addr} {fd : FuncData} {fs_is_within : FS} (F : Fun K "need_stand" "Store.need_stand" s_Store_need_stand f fd) (T : Txt P K mg C) (D_is_within : Df P w K mg base "is_within" 2 3 fs_is_within) : FnOk P w K mg base (L2.CX P w) (2 + 1) f fd ["self", "stand"] (spOf K 2 (m_Store_need_stand C.InvalidStand C.Store fs_is_within )) := by
  refine fn_ok F sc_Store_need_stand rfl (fun cdv A outer s H E hr => ⟨_, ?_, fun ds kd kx _ hf => hf⟩)
  have tk := takes_of (X := (cxOf (L2.CX P w) P w K mg base ["self", "stand"] "Store.need_stand" (defScope s_Store_need_stand) f cdv A outer s H E)) rfl rfl rfl rfl
  have po : PassesOwn (model P w) (cxOf (L2.CX P w) P w K mg base ["self", "stand"] "Store.need_stand" (defScope s_Store_need_stand) f cdv A outer s H E).A (cxOf (L2.CX P w) P w K mg base ["self", "stand"] "Store.need_stand" (defScope s_Store_need_stand) f cdv A outer s H E).env (cxOf (L2.CX P w) P w K mg base ["self", "stand"] "Store.need_stand" (defScope s_Store_need_stand) f cdv A outer s H E).xe := passes_of rfl
  exact (ss_one (s_if (b_not (b_val (p_call D_is_within hr (by decide) tk (l_cons (p_var 1) (l_cons p_int (l_cons (p_op o_sub (PP.u (p_b1 c_len T.b_len (by decide +kernel) (PP.u (p_fld (cs := [C.Store]) (fun c hc => by (rcases List.mem_cons.mp hc with rfl | hc; exact T.n_Store_table; cases hc)) (PP.u (p_var 0)))))) (PP.u p_int)) l_nil))))))
    (ss_one (s_raise rfl T.x_InvalidStand (by decide) hr tk (p_var 1)))
    ss_nil))
theorem sc_Store_need_deed : FnScope ["self", "deed"] ["self", "deed"] (defScope s_Store_need_deed) := ⟨rfl, rfl, rfl, by decide +kernel, rfl, by decide +kernel, by decide +kernel⟩
theorem ok_Store_need_deed {f : Addr} {fd : FuncData} (F : Fun K "need_deed" "Store.need_deed" s_Store_need_deed f fd) (T : Txt P K mg C)  : FnOk P w K mg base (L2.CX P w) (1 + 1) f fd ["self", "deed"] (spOf K 2 (m_Store_need_deed C.InvalidDeed C.Store  )) := by
  refine fn_ok F sc_Store_need_deed rfl (fun cdv A outer s H E hr => ⟨_, ?_, fun ds kd kx _ hf => hf⟩)
  have tk := takes_of (X := (cxOf (L2.CX P w) P w K mg base ["self", "deed"] "Store.need_deed" (defScope s_Store_need_deed) f cdv A outer s H E)) rfl rfl rfl rfl
  have po : PassesOwn (model P w) (cxOf (L2.CX P w) P w K mg base ["self", "deed"] "Store.need_deed" (defScope s_Store_need_deed) f cdv A outer s H E).A (cxOf (L2.CX P w) P w K mg base ["self", "deed"] "Store.need_deed" (defScope s_Store_need_deed) f cdv A outer s H E).env (cxOf (L2.CX P w) P w K mg base ["self", "deed"] "Store.need_deed" (defScope s_Store_need_deed) f cdv A outer s H E).xe := passes_of rfl
  exact (ss_one (s_if (PBw.to (b_or (b_not (b_val (p_isi "str" (PP.u (p_var 1)) (pe_bltn (v := .ty "str") (by rfl) T.b_str (by decide +kernel) rfl) T.b_isinstance))) (b_or (b_cmp (o_ne hr.units) (PP.u (p_b1 c_len T.b_len (by decide +kernel) (PP.u (p_var 1)))) (PP.u p_int)) (b_or1 (b_cmp o_notInS (PP.u (p_var 1)) (PP.u (p_fld (cs := [C.Store]) (fun c hc => by (rcases List.mem_cons.mp hc with rfl | hc; exact T.n_Store_own_deeds; cases hc)) (PP.u (p_var 0)))))))))
    (ss_one (s_raise rfl T.x_InvalidDeed (by decide) hr tk (p_var 1)))
    ss_nil))
theorem sc_Store___call__ : FnScope ["self", "stand", "log"] ["self", "stand", "log"] (defScope s_Store___call__) := ⟨rfl, rfl, rfl, by decide +kernel, rfl, by decide +kernel, by decide +kernel⟩
theorem ok_Store___call__ {f : Addr} {fd : FuncData} {fs_need_log_of fs_Store_need_stand : FS} (F : Fun K "__call__" "Store.__call__" s_Store___call__ f fd) (T : Txt P K mg C) (D_need_log_of : Df P w K mg base "need_log_of" 2 2 fs_need_log_of) (M_Store_need_stand : Mt P w K mg base C.Store "need_stand" 3 1 fs_Store_need_stand) : FnOk P w K mg base (L2.CX P w) (3 + 1) f fd ["self", "stand", "log"] (spOf K 3 (m_Store___call__ C.Store fs_need_log_of fs_Store_need_stand )) := by
  refine fn_ok F sc_Store___call__ rfl (fun cdv A outer s H E hr => ⟨_, ?_, fun ds kd kx _ hf => hf⟩)
  have tk := takes_of (X := (cxOf (L2.CX P w) P w K mg base ["self", "stand", "log"] "Store.__call__" (defScope s_Store___call__) f cdv A outer s H E)) rfl rfl rfl rfl
  have po : PassesOwn (model P w) (cxOf (L2.CX P w) P w K mg base ["self", "stand", "log"] "Store.__call__" (defScope s_Store___call__) f cdv A outer s H E).A (cxOf (L2.CX P w) P w K mg base ["self", "stand", "log"] "Store.__call__" (defScope s_Store___call__) f cdv A outer s H E).env (cxOf (L2.CX P w) P w K mg base ["self", "stand", "log"] "Store.__call__" (defScope s_Store___call__) f cdv A outer s H E).xe := passes_of rfl
  exact (ss_cons (s_expr (PP.u (p_meth (ms := [(C.Store, fs_Store_need_stand)]) (fun c hc => by (rcases List.mem_cons.mp hc with rfl | hc; exact M_Store_need_stand; cases hc)) hr (by decide) tk (p_var 0) (l_cons (p_var 1) l_nil))))
    (ss_cons (s_expr (PP.u (p_call D_need_log_of hr (by decide) tk (l_cons (p_var 2) (l_cons (p_fld (cs := [C.Store]) (fun c hc => by (rcases List.mem_cons.mp hc with rfl | hc; exact T.n_Store_own_deeds; cases hc)) (PP.u (p_var 0))) l_nil)))))
    (ss_one s_never)))
theorem sc_Store___getitem__ : FnScope ["self", "at", "stand", "deed"] ["self", "at"] (defScope s_Store___getitem__) := ⟨rfl, rfl, rfl, by decide +kernel, rfl, by decide +kernel, by decide +kernel⟩
theorem ok_Store___getitem__ {f : Addr} {fd : FuncData} {fs_place_of fs_Store_need_stand fs_Store_need_deed : FS} (F : Fun K "__getitem__" "Store.__getitem__" s_Store___getitem__ f fd) (T : Txt P K mg C) (D_place_of : Df P w K mg base "place_of" 1 2 fs_place_of) (M_Store_need_stand : Mt P w K mg base C.Store "need_stand" 3 1 fs_Store_need_stand) (M_Store_need_deed : Mt P w K mg base C.Store "need_deed" 2 1 fs_Store_need_deed) : FnOk P w K mg base (L2.CX P w) (3 + 1) f fd ["self", "at"] (spOf K 2 (m_Store___getitem__ C.Store fs_place_of fs_Store_need_stand fs_Store_need_deed )) := by
  refine fn_ok F sc_Store___getitem__ rfl (fun cdv A outer s H E hr => ⟨_, ?_, fun ds kd kx _ hf => hf⟩)
  have tk := takes_of (X := (cxOf (L2.CX P w) P w K mg base ["self", "at", "stand", "deed"] "Store.__getitem__" (defScope s_Store___getitem__) f cdv A outer s H E)) rfl rfl rfl rfl
  have po : PassesOwn (model P w) (cxOf (L2.CX P w) P w K mg base ["self", "at", "stand", "deed"] "Store.__getitem__" (defScope s_Store___getitem__) f cdv A outer s H E).A (cxOf (L2.CX P w) P w K mg base ["self", "at", "stand", "deed"] "Store.__getitem__" (defScope s_Store___getitem__) f cdv A outer s H E).env (cxOf (L2.CX P w) P w K mg base ["self", "at", "stand", "deed"] "Store.__getitem__" (defScope s_Store___getitem__) f cdv A outer s H E).xe := passes_of rfl
  exact (ss_cons (s_asgG (p_var 1) (g_tup2 2 3 rfl sc_Store___getitem__.nd))
    (ss_cons (s_expr (PP.u (p_meth (ms := [(C.Store, fs_Store_need_stand)]) (fun c hc => by (rcases List.mem_cons.mp hc with rfl | hc; exact M_Store_need_stand; cases hc)) hr (by decide) tk (p_var 0) (l_cons (p_var 2) l_nil))))
    (ss_cons (s_expr (PP.u (p_meth (ms := [(C.Store, fs_Store_need_deed)]) (fun c hc => by (rcases List.mem_cons.mp hc with rfl | hc; exact M_Store_need_deed; cases hc)) hr (by decide) tk (p_var 0) (l_cons (p_var 3) l_nil))))
    (ss_one (s_ret (p_ix (PP.u (p_ix (PP.u (p_fld (cs := [C.Store]) (fun c hc => by (rcases List.mem_cons.mp hc with rfl | hc; exact T.n_Store_table; cases hc)) (PP.u (p_var 0)))) (PP.u (p_var 2)))) (PP.u (p_call D_place_of hr (by decide) tk (l_cons (p_fld (cs := [C.Store]) (fun c hc => by (rcases List.mem_cons.mp hc with rfl | hc; exact T.n_Store_own_deeds; cases hc)) (PP.u (p_var 0))) (l_cons (p_var 3) l_nil))))))))))
theorem sc_Store_change : FnScope ["self", "stand", "deed", "target"] ["self", "stand", "deed", "target"] (defScope s_Store_change) := ⟨rfl, rfl, rfl, by decide +kernel, rfl, by decide +kernel, by decide +kernel⟩
theorem ok_Store_change {f : Addr} {fd : FuncData} {fs_Store_need_stand fs_Store_need_deed : FS} (F : Fun K "change" "Store.change" s_Store_change f fd) (T : Txt P K mg C) (M_Store_need_stand : Mt P w K mg base C.Store "need_stand" 3 1 fs_Store_need_stand) (M_Store_need_deed : Mt P w K mg base C.Store "need_deed" 2 1 fs_Store_need_deed) : FnOk P w K mg base (L2.CX P w) (3 + 1) f fd ["self", "stand", "deed", "target"] (spOf K 4 (m_Store_change C.Store fs_Store_need_stand fs_Store_need_deed )) := by
  refine fn_ok F sc_Store_change rfl (fun cdv A outer s H E hr => ⟨_, ?_, fun ds kd kx _ hf => hf⟩)
  have tk := takes_of (X := (cxOf (L2.CX P w) P w K mg base ["self", "stand", "deed", "target"] "Store.change" (defScope s_Store_change) f cdv A outer s H E)) rfl rfl rfl rfl
  have po : PassesOwn (model P w) (cxOf (L2.CX P w) P w K mg base ["self", "stand", "deed", "target"] "Store.change" (defScope s_Store_change) f cdv A outer s H E).A (cxOf (L2.CX P w) P w K mg base ["self", "stand", "deed", "target"] "Store.change" (defScope s_Store_change) f cdv A outer s H E).env (cxOf (L2.CX P w) P w K mg base ["self", "stand", "deed", "target"] "Store.change" (defScope s_Store_change) f cdv A outer s H E).xe := passes_of rfl
  exact (ss_cons (s_expr (PP.u (p_meth (ms := [(C.Store, fs_Store_need_stand)]) (fun c hc => by (rcases List.mem_cons.mp hc with rfl | hc; exact M_Store_need_stand; cases hc)) hr (by decide) tk (p_var 0) (l_cons (p_var 1) l_nil))))
    (ss_cons (s_expr (PP.u (p_meth (ms := [(C.Store, fs_Store_need_deed)]) (fun c hc => by (rcases List.mem_cons.mp hc with rfl | hc; exact M_Store_need_deed; cases hc)) hr (by decide) tk (p_var 0) (l_cons (p_var 2) l_nil))))
    (ss_cons (s_expr (PP.u (p_meth (ms := [(C.Store, fs_Store_need_stand)]) (fun c hc => by (rcases List.mem_cons.mp hc with rfl | hc; exact M_Store_need_stand; cases hc)) hr (by decide) tk (p_var 0) (l_cons (p_var 3) l_nil))))
    (ss_one s_never))))
theorem sc_Store___setitem__ : FnScope ["self", "at", "worth", "stand", "deed"] ["self", "at", "worth"] (defScope s_Store___setitem__) := ⟨rfl, rfl, rfl, by decide +kernel, rfl, by decide +kernel, by decide +kernel⟩
theorem ok_Store___setitem__ {f : Addr} {fd : FuncData} {fs_Store_change : FS} (F : Fun K "__setitem__" "Store.__setitem__" s_Store___setitem__ f fd) (T : Txt P K mg C) (M_Store_change : Mt P w K mg base C.Store "change" 4 3 fs_Store_change) : FnOk P w K mg base (L2.CX P w) (4 + 1) f fd ["self", "at", "worth"] (spOf K 3 (m_Store___setitem__ C.Store fs_Store_change )) := by
  refine fn_ok F sc_Store___setitem__ rfl (fun cdv A outer s H E hr => ⟨_, ?_, fun ds kd kx _ hf => hf⟩)
  have tk := takes_of (X := (cxOf (L2.CX P w) P w K mg base ["self", "at", "worth", "stand", "deed"] "Store.__setitem__" (defScope s_Store___setitem__) f cdv A outer s H E)) rfl rfl rfl rfl
  have po : PassesOwn (model P w) (cxOf (L2.CX P w) P w K mg base ["self", "at", "worth", "stand", "deed"] "Store.__setitem__" (defScope s_Store___setitem__) f cdv A outer s H E).A (cxOf (L2.CX P w) P w K mg base ["self", "at", "worth", "stand", "deed"] "Store.__setitem__" (defScope s_Store___setitem__) f cdv A outer s H E).env (cxOf (L2.CX P w) P w K mg base ["self", "at", "worth", "stand", "deed"] "Store.__setitem__" (defScope s_Store___setitem__) f cdv A outer s H E).xe := passes_of rfl
  exact (ss_cons (s_asgG (p_var 1) (g_tup2 3 4 rfl sc_Store___setitem__.nd))
    (ss_one (s_expr (PP.u (p_meth (ms := [(C.Store, fs_Store_change)]) (fun c hc => by (rcases List.mem_cons.mp hc with rfl | hc; exact M_Store_change; cases hc)) hr (by decide) tk (p_var 0) (l_cons (p_var 3) (l_cons (p_var 4) (l_cons (p_var 2) l_nil))))))))
theorem sc_Store_reached : FnScope ["self", "stand", "found", "waiting", "target"] ["self", "stand"] (defScope s_Store_reached) := ⟨rfl, rfl, rfl, by decide +kernel, rfl, by decide +kernel, by decide +kernel⟩
theorem ok_Store_reached {f : Addr} {fd : FuncData} {fs_Store_need_stand : FS} (F : Fun K "reached" "Store.reached" s_Store_reached f fd) (T : Txt P K mg C) (M_Store_need_stand : Mt P w K mg base C.Store "need_stand" 3 1 fs_Store_need_stand) : FnOk P w K mg base (L2.CX P w) (3 + 1) f fd ["self", "stand"] (spOf K 2 (m_Store_reached C.Store fs_Store_need_stand )) := by
  refine fn_ok F sc_Store_reached rfl (fun cdv A outer s H E hr => ⟨_, ?_, fun ds kd kx _ hf => hf⟩)
  have tk := takes_of (X := (cxOf (L2.CX P w) P w K mg base ["self", "stand", "found", "waiting", "target"] "Store.reached" (defScope s_Store_reached) f cdv A outer s H E)) rfl rfl rfl rfl
  have po : PassesOwn (model P w) (cxOf (L2.CX P w) P w K mg base ["self", "stand", "found", "waiting", "target"] "Store.reached" (defScope s_Store_reached) f cdv A outer s H E).A (cxOf (L2.CX P w) P w K mg base ["self", "stand", "found", "waiting", "target"] "Store.reached" (defScope s_Store_reached) f cdv A outer s H E).env (cxOf (L2.CX P w) P w K mg base ["self", "stand", "found", "waiting", "target"] "Store.reached" (defScope s_Store_reached) f cdv A outer s H E).xe := passes_of rfl
  exact (ss_cons (s_expr (PP.u (p_meth (ms := [(C.Store, fs_Store_need_stand)]) (fun c hc => by (rcases List.mem_cons.mp hc with rfl | hc; exact M_Store_need_stand; cases hc)) hr (by decide) tk (p_var 0) (l_cons (p_var 1) l_nil))))
    (ss_cons s_never
    (ss_cons s_never
    (ss_cons s_never
    (ss_one s_never)))))
theorem sc_law_pull : FnScope ["_law_bag", "_law_many", "_law_cell", "_law_got", "_law_seed"] ["_law_bag", "_law_many"] (defScope s_law_pull) := ⟨rfl, rfl, rfl, by decide +kernel, rfl, by decide +kernel, by decide +kernel⟩
theorem ok_law_pull {f : Addr} {fd : FuncData} (F : Fun K "_law_pull" "_law_pull" s_law_pull f fd) (T : Txt P K mg C)  : FnOk P w K mg base (L2.CX P w) (0 + 1) f fd ["_law_bag", "_law_many"] (spOw K 2 0 (m_law_pull   )) := by
  refine fn_okO F sc_law_pull rfl (fun cdv A outer s H E hr => ⟨_, ?_, fun ds kd kx p _ hf => hf p⟩)
  have tk := takes_of (X := (cxOf (L2.CX P w) P w K mg base ["_law_bag", "_law_many", "_law_cell", "_law_got", "_law_seed"] "_law_pull" (defScope s_law_pull) f cdv A outer s H E)) rfl rfl rfl rfl
  have po : PassesOwn (model P w) (cxOf (L2.CX P w) P w K mg base ["_law_bag", "_law_many", "_law_cell", "_law_got", "_law_seed"] "_law_pull" (defScope s_law_pull) f cdv A outer s H E).A (cxOf (L2.CX P w) P w K mg base ["_law_bag", "_law_many", "_law_cell", "_law_got", "_law_seed"] "_law_pull" (defScope s_law_pull) f cdv A outer s H E).env (cxOf (L2.CX P w) P w K mg base ["_law_bag", "_law_many", "_law_cell", "_law_got", "_law_seed"] "_law_pull" (defScope s_law_pull) f cdv A outer s H E).xe := passes_of rfl
  exact (ss_cons (s_if (PBw.to (b_and (b_cmp (o_eq hr.units) (PP.u (p_ix (u_var 0) (PP.u p_int))) (PP.u p_int)) (b_and1 (b_cmp o_lt (PP.u (p_ix (u_var 0) (PP.u p_int))) (PP.u (p_b1 c_len T.b_len (by decide +kernel) (PP.u (p_ix (u_var 0) (PP.u p_int)))))))))
    (ss_cons (s_set 2 (p_ix (PP.u (p_ix (u_var 0) (PP.u p_int))) (PP.u (p_ix (u_var 0) (PP.u p_int)))) sc_law_pull.nd)
    (ss_cons (s_setIx 0 (pv 0) p_int (p_op o_add (PP.u (p_ix (u_var 0) (PP.u p_int))) (PP.u p_int)) (fun pi pe => ps_asg pe (pg_sub (pv 0) pi set_list)))
    (ss_one (s_if (b_cmp o_ge (PP.u (p_var 2)) (PP.u (p_op o_pow (PP.u p_int) (PP.u p_int))))
    (ss_one (s_setIx 0 (pv 0) p_int (p_var 2) (fun pi pe => ps_asg pe (pg_sub (pv 0) pi set_list))))
    (ss_one (s_setIx 0 (pv 0) p_int (p_op o_mod (PP.u (p_t1 c_int T.b_int (by decide +kernel) (PP.u (p_op o_add (PP.u (p_op o_add (PP.u (p_op o_mul (PP.u (p_ix (u_var 0) (PP.u p_int))) (PP.u p_int))) (PP.u (p_op o_mul (PP.u (p_op o_mod (PP.u (p_t1 c_int T.b_int (by decide +kernel) (PP.u (p_var 2)))) (PP.u p_int))) (PP.u p_int))))) (PP.u p_int))))) (PP.u p_int)) (fun pi pe => ps_asg pe (pg_sub (pv 0) pi set_list))))))))
    ss_nil)
    (ss_cons (s_if (b_cmp o_gt (PP.u (p_ix (u_var 0) (PP.u p_int))) (PP.u p_int))
    (ss_cons (s_set 3 (p_op o_mod (PP.u (p_t1 c_int T.b_int (by decide +kernel) (PP.u (p_ix (u_var 0) (PP.u p_int))))) (PP.u (p_var 1))) sc_law_pull.nd)
    (ss_cons (s_setIx 0 (pv 0) p_int (p_op o_fdiv (PP.u (p_ix (u_var 0) (PP.u p_int))) (PP.u (p_var 1))) (fun pi pe => ps_asg pe (pg_sub (pv 0) pi set_list)))
    (ss_one (s_ret (p_var 3)))))
    ss_nil)
    (ss_cons (s_set 4 (p_ix (u_var 0) (PP.u p_int)) sc_law_pull.nd)
    (ss_cons (s_setIx 0 (pv 0) p_int (p_op o_mod (PP.u (p_t1 c_int T.b_int (by decide +kernel) (PP.u (p_op o_add (PP.u (p_op o_add (PP.u (p_op o_mul (PP.u (p_var 4)) (PP.u (p_var 4)))) (PP.u (p_op o_mul (PP.u (p_var 4)) (PP.u p_int))))) (PP.u p_int))))) (PP.u p_int)) (fun pi pe => ps_asg pe (pg_sub (pv 0) pi set_list)))
    (ss_one (s_ret (p_op o_mod (PP.u (p_t1 c_int T.b_int (by decide +kernel) (PP.u (p_op o_add (PP.u (p_op o_fdiv (PP.u (p_ix (u_var 0) (PP.u p_int))) (PP.u p_int))) (PP.u (p_op o_mul (PP.u (p_op o_mod (PP.u (p_t1 c_int T.b_int (by decide +kernel) (PP.u (p_ix (u_var 0) (PP.u p_int))))) (PP.u p_int))) (PP.u p_int))))))) (PP.u (p_var 1)))))))))
theorem sc_law_pick : FnScope ["_law_bag", "_law_some"] ["_law_bag", "_law_some"] (defScope s_law_pick) := ⟨rfl, rfl, rfl, by decide +kernel, rfl, by decide +kernel, by decide +kernel⟩
theorem ok_law_pick {f : Addr} {fd : FuncData} {fs_law_pull : FS} (F : Fun K "_law_pick" "_law_pick" s_law_pick f fd) (T : Txt P K mg C) (D_law_pull : Df P w K mg base "_law_pull" 1 2 fs_law_pull) : FnOk P w K mg base (L2.CX P w) (1 + 1) f fd ["_law_bag", "_law_some"] (spOf K 2 (m_law_pick  fs_law_pull )) := by
  refine fn_ok F sc_law_pick rfl (fun cdv A outer s H E hr => ⟨_, ?_, fun ds kd kx _ hf => hf⟩)
  have tk := takes_of (X := (cxOf (L2.CX P w) P w K mg base ["_law_bag", "_law_some"] "_law_pick" (defScope s_law_pick) f cdv A outer s H E)) rfl rfl rfl rfl
  have po : PassesOwn (model P w) (cxOf (L2.CX P w) P w K mg base ["_law_bag", "_law_some"] "_law_pick" (defScope s_law_pick) f cdv A outer s H E).A (cxOf (L2.CX P w) P w K mg base ["_law_bag", "_law_some"] "_law_pick" (defScope s_law_pick) f cdv A outer s H E).env (cxOf (L2.CX P w) P w K mg base ["_law_bag", "_law_some"] "_law_pick" (defScope s_law_pick) f cdv A outer s H E).xe := passes_of rfl
  exact (ss_one (s_ret (p_ix (PP.u (p_var 1)) (PP.u (p_call D_law_pull hr (by decide) tk (l_cons (p_var 0) (l_cons (p_b1 c_len T.b_len (by decide +kernel) (PP.u (p_var 1))) l_nil)))))))
theorem sc_law_letters : FnScope [] [] (defScope s_law_letters) := ⟨rfl, rfl, rfl, by decide +kernel, rfl, by decide +kernel, by decide +kernel⟩
theorem ok_law_letters {f : Addr} {fd : FuncData} (F : Fun K "_law_letters" "_law_letters" s_law_letters f fd) (T : Txt P K mg C)  : FnOk P w K mg base (L2.CX P w) (0 + 1) f fd [] (spOf K 0 (m_law_letters   )) := by
  refine fn_ok F sc_law_letters rfl (fun cdv A outer s H E hr => ⟨_, ?_, fun ds kd kx _ hf => hf⟩)
  have tk := takes_of (X := (cxOf (L2.CX P w) P w K mg base [] "_law_letters" (defScope s_law_letters) f cdv A outer s H E)) rfl rfl rfl rfl
  have po : PassesOwn (model P w) (cxOf (L2.CX P w) P w K mg base [] "_law_letters" (defScope s_law_letters) f cdv A outer s H E).A (cxOf (L2.CX P w) P w K mg base [] "_law_letters" (defScope s_law_letters) f cdv A outer s H E).env (cxOf (L2.CX P w) P w K mg base [] "_law_letters" (defScope s_law_letters) f cdv A outer s H E).xe := passes_of rfl
  exact (ss_one (s_ret (p_str [97, 98, 99, 100, 101, 102, 103, 104, 105, 106, 107, 108, 109, 110, 111, 112, 113, 114, 115, 116, 117, 118, 119, 120, 121, 122])))
theorem sc_law_alphabet : FnScope ["_law_bag", "_law_most", "_law_many", "_law_found", "_law_at", "_law_room", "_law_k", "_law_gap"] ["_law_bag", "_law_most"] (defScope s_law_alphabet) := ⟨rfl, rfl, rfl, by decide +kernel, rfl, by decide +kernel, by decide +kernel⟩
theorem ok_law_alphabet {f : Addr} {fd : FuncData} {fs_law_pull fs_law_pick fs_law_letters : FS} (F : Fun K "_law_alphabet" "_law_alphabet" s_law_alphabet f fd) (T : Txt P K mg C) (D_law_pull : Df P w K mg base "_law_pull" 1 2 fs_law_pull) (D_law_pick : Df P w K mg base "_law_pick" 2 2 fs_law_pick) (D_law_letters : Df P w K mg base "_law_letters" 1 0 fs_law_letters) : FnOk P w K mg base (L2.CX P w) (2 + 1) f fd ["_law_bag", "_law_most"] (spOf K 2 (m_law_alphabet  fs_law_pull fs_law_pick fs_law_letters )) := by
  refine fn_ok F sc_law_alphabet rfl (fun cdv A outer s H E hr => ⟨_, ?_, fun ds kd kx _ hf => hf⟩)
  have tk := takes_of (X := (cxOf (L2.CX P w) P w K mg base ["_law_bag", "_law_most", "_law_many", "_law_found", "_law_at", "_law_room", "_law_k", "_law_gap"] "_law_alphabet" (defScope s_law_alphabet) f cdv A outer s H E)) rfl rfl rfl rfl
  have po : PassesOwn (model P w) (cxOf (L2.CX P w) P w K mg base ["_law_bag", "_law_most", "_law_many", "_law_found", "_law_at", "_law_room", "_law_k", "_law_gap"] "_law_alphabet" (defScope s_law_alphabet) f cdv A outer s H E).A (cxOf (L2.CX P w) P w K mg base ["_law_bag", "_law_most", "_law_many", "_law_found", "_law_at", "_law_room", "_law_k", "_law_gap"] "_law_alphabet" (defScope s_law_alphabet) f cdv A outer s H E).env (cxOf (L2.CX P w) P w K mg base ["_law_bag", "_law_most", "_law_many", "_law_found", "_law_at", "_law_room", "_law_k", "_law_gap"] "_law_alphabet" (defScope s_law_alphabet) f cdv A outer s H E).xe := passes_of rfl
  exact (ss_cons (s_set 2 (p_op o_add (PP.u p_int) (PP.u (p_call D_law_pull hr (by decide) tk (l_cons (p_var 0) (l_cons (p_var 1) l_nil))))) sc_law_alphabet.nd)
    (ss_cons (s_par3 3 4 5 rfl sc_law_alphabet.nd (l_cons (p_str []) (l_cons p_int (l_cons (p_op o_sub (PP.u p_int) (PP.u (p_var 2))) l_nil))))
    (ss_cons (s_for po rfl (i_rng1 T.b_range (l_cons (p_var 2) l_nil)) (g_name 6 sc_law_alphabet.nd)
    (ss_cons (s_set 7 (p_call D_law_pick hr (by decide) tk (l_cons (p_var 0) (l_cons (p_lst (l_cons p_int (l_cons (p_call D_law_pull hr (by decide) tk (l_cons (p_var 0) (l_cons (p_op o_add (PP.u (p_var 5)) (PP.u p_int)) l_nil))) (l_cons (p_bn (c_min2 rfl) T.b_min (by decide +kernel) (l_cons (p_var 5) (l_cons (p_call D_law_pull hr (by decide) tk (l_cons (p_var 0) (l_cons p_int l_nil))) l_nil))) l_nil)))) l_nil))) sc_law_alphabet.nd)
    (ss_cons (s_par2 4 5 rfl sc_law_alphabet.nd (l_cons (p_op o_add (PP.u (p_var 4)) (PP.u (p_var 7))) (l_cons (p_op o_sub (PP.u (p_var 5)) (PP.u (p_var 7))) l_nil)))
    (ss_cons (s_set 3 (p_op o_add (PP.u (p_var 3)) (PP.u (p_ix (PP.u (p_call0 D_law_letters hr (by decide) tk)) (PP.u (p_var 4))))) sc_law_alphabet.nd)
    (ss_one (s_set 4 (p_op o_add (PP.u (p_var 4)) (PP.u p_int)) sc_law_alphabet.nd))))))
    (ss_one (s_ret (p_var 3))))))
theorem sc_law_rows : FnScope ["_law_bag", "_law_many", "_law_width", "_law_columns", "_law_k", "_law_way", "_law_column", "_law_my_stand"] ["_law_bag", "_law_many", "_law_width"] (defScope s_law_rows) := ⟨rfl, rfl, rfl, by decide +kernel, rfl, by decide +kernel, by decide +kernel⟩
theorem ok_law_rows {f : Addr} {fd : FuncData} {fs_law_pull : FS} (F : Fun K "_law_rows" "_law_rows" s_law_rows f fd) (T : Txt P K mg C) (D_law_pull : Df P w K mg base "_law_pull" 1 2 fs_law_pull) : FnOk P w K mg base (L2.CX P w) (1 + 1) f fd ["_law_bag", "_law_many", "_law_width"] (spOf K 3 (m_law_rows  fs_law_pull )) := by
  refine fn_ok F sc_law_rows rfl (fun cdv A outer s H E hr => ⟨_, ?_, fun ds kd kx _ hf => hf⟩)
  have tk := takes_of (X := (cxOf (L2.CX P w) P w K mg base ["_law_bag", "_law_many", "_law_width", "_law_columns", "_law_k", "_law_way", "_law_column", "_law_my_stand"] "_law_rows" (defScope s_law_rows) f cdv A outer s H E)) rfl rfl rfl rfl
  have po : PassesOwn (model P w) (cxOf (L2.CX P w) P w K mg base ["_law_bag", "_law_many", "_law_width", "_law_columns", "_law_k", "_law_way", "_law_column", "_law_my_stand"] "_law_rows" (defScope s_law_rows) f cdv A outer s H E).A (cxOf (L2.CX P w) P w K mg base ["_law_bag", "_law_many", "_law_width", "_law_columns", "_law_k", "_law_way", "_law_column", "_law_my_stand"] "_law_rows" (defScope s_law_rows) f cdv A outer s H E).env (cxOf (L2.CX P w) P w K mg base ["_law_bag", "_law_many", "_law_width", "_law_columns", "_law_k", "_law_way", "_law_column", "_law_my_stand"] "_law_rows" (defScope s_law_rows) f cdv A outer s H E).xe := passes_of rfl
  exact (ss_cons (s_own 3 (n_lst l_nil) sc_law_rows.nd)
    (ss_cons (s_for po rfl (i_rng1 T.b_range (l_cons (p_var 2) l_nil)) (g_name 4 sc_law_rows.nd)
    (ss_cons (s_set 5 (p_call D_law_pull hr (by decide) tk (l_cons (p_var 0) (l_cons p_int l_nil))) sc_law_rows.nd)
    (ss_cons (s_set 6 (p_lc [("_law_my_stand", 7)] rfl sc_law_rows.nd (i_rng1 T.b_range (l_cons (p_var 1) l_nil)) (blkOk_by (N := ["_law_bag", "_law_many", "_law_width", "_law_columns", "_law_k", "_law_way", "_law_column", "_law_my_stand"]) (sc := defScope s_law_rows) (by decide +kernel)) (fun _ => (g_name 7 sc_law_rows.nd)) (fun _ => bs_nil) (fun _ => (p_call D_law_pull hr (by decide) takes0 (l_cons (p_var 0) (l_cons (p_var 1) l_nil))))) sc_law_rows.nd)
    (ss_cons (s_if (b_cmp (o_eq hr.units) (PP.u (p_var 5)) (PP.u p_int))
    (ss_one (s_set 6 (p_op o_mul (PP.u (p_lst (l_cons (p_ix (PP.u (p_var 6)) (PP.u p_int)) l_nil))) (PP.u (p_var 1))) sc_law_rows.nd))
    (ss_one (s_if (b_cmp (o_eq hr.units) (PP.u (p_var 5)) (PP.u p_int))
    (ss_one (s_set 6 (p_lc [("_law_my_stand", 7)] rfl sc_law_rows.nd (i_rng1 T.b_range (l_cons (p_var 1) l_nil)) (blkOk_by (N := ["_law_bag", "_law_many", "_law_width", "_law_columns", "_law_k", "_law_way", "_law_column", "_law_my_stand"]) (sc := defScope s_law_rows) (by decide +kernel)) (fun _ => (g_name 7 sc_law_rows.nd)) (fun _ => bs_nil) (fun _ => (p_ifExp (b_cmp o_inI (PP.u (p_var 7)) (PP.u (p_slice (PP.u (p_var 6)) s_none (s_some (p_op o_add (PP.u p_int) (PP.u (p_op o_fdiv (PP.u (p_var 1)) (PP.u p_int)))))))) (p_var 7) (p_ix (PP.u (p_var 6)) (PP.u p_int))))) sc_law_rows.nd))
    (ss_one (s_if (b_cmp (o_eq hr.units) (PP.u (p_var 5)) (PP.u p_int))
    (ss_one (s_set 6 (p_lc [("_law_my_stand", 7)] rfl sc_law_rows.nd (i_rng1 T.b_range (l_cons (p_var 1) l_nil)) (blkOk_by (N := ["_law_bag", "_law_many", "_law_width", "_law_columns", "_law_k", "_law_way", "_law_column", "_law_my_stand"]) (sc := defScope s_law_rows) (by decide +kernel)) (fun _ => (g_name 7 sc_law_rows.nd)) (fun _ => bs_nil) (fun _ => (p_ifExp (b_cmp (o_eq hr.units) (PP.u (p_call D_law_pull hr (by decide) takes0 (l_cons (p_var 0) (l_cons p_int l_nil)))) (PP.u p_int)) (p_var 7) (p_ix (PP.u (p_var 6)) (PP.u (p_var 7)))))) sc_law_rows.nd))
    ss_nil)))))
    (ss_one (s_append 3 (p_var 6) (fun _ pa => pe_bm PySem.F.plainAttrs_list PySem.F.slot_list_append PySem.F.type_list_append mt_append (pv 3) (pa_cons pa pa_nil))))))))
    (ss_one (s_frz 3 (s_ret (p_lc [("_law_my_stand", 7)] rfl sc_law_rows.nd (i_rng1 T.b_range (l_cons (p_var 1) l_nil)) (blkOk_by (N := ["_law_bag", "_law_many", "_law_width", "_law_columns", "_law_k", "_law_way", "_law_column", "_law_my_stand"]) (sc := defScope s_law_rows) (by decide +kernel)) (fun _ => (g_name 7 sc_law_rows.nd)) (fun _ => bs_nil) (fun _ => (p_t1 c_tup T.b_tuple (by decide +kernel) (PP.u (p_lc [("_law_column", 6)] rfl sc_law_rows.nd (i_lst (p_var 3)) (blkOk_by (N := ["_law_bag", "_law_many", "_law_width", "_law_columns", "_law_k", "_law_way", "_law_column", "_law_my_stand"]) (by rfl)) (fun _ => (g_name 6 sc_law_rows.nd)) (fun _ => bs_nil) (fun _ => (p_ix (PP.u (p_var 6)) (PP.u (p_var 7))))))))))))))
theorem sc_law_bad_deeds : FnScope ["_law_bag", "_law_deeds", "_law_bad"] ["_law_bag"] (defScope s_law_bad_deeds) := ⟨rfl, rfl, rfl, by decide +kernel, rfl, by decide +kernel, by decide +kernel⟩
theorem ok_law_bad_deeds {f : Addr} {fd : FuncData} {fs_law_alphabet fs_law_pick : FS} (F : Fun K "_law_bad_deeds" "_law_bad_deeds" s_law_bad_deeds f fd) (T : Txt P K mg C) (D_law_alphabet : Df P w K mg base "_law_alphabet" 3 2 fs_law_alphabet) (D_law_pick : Df P w K mg base "_law_pick" 2 2 fs_law_pick) : FnOk P w K mg base (L2.CX P w) (3 + 1) f fd ["_law_bag"] (spOf K 1 (m_law_bad_deeds  fs_law_alphabet fs_law_pick )) := by
  refine fn_ok F sc_law_bad_deeds rfl (fun cdv A outer s H E hr => ⟨_, ?_, fun ds kd kx _ hf => hf⟩)
  have tk := takes_of (X := (cxOf (L2.CX P w) P w K mg base ["_law_bag", "_law_deeds", "_law_bad"] "_law_bad_deeds" (defScope s_law_bad_deeds) f cdv A outer s H E)) rfl rfl rfl rfl
  have po : PassesOwn (model P w) (cxOf (L2.CX P w) P w K mg base ["_law_bag", "_law_deeds", "_law_bad"] "_law_bad_deeds" (defScope s_law_bad_deeds) f cdv A outer s H E).A (cxOf (L2.CX P w) P w K mg base ["_law_bag", "_law_deeds", "_law_bad"] "_law_bad_deeds" (defScope s_law_bad_deeds) f cdv A outer s H E).env (cxOf (L2.CX P w) P w K mg base ["_law_bag", "_law_deeds", "_law_bad"] "_law_bad_deeds" (defScope s_law_bad_deeds) f cdv A outer s H E).xe := passes_of rfl
  exact (ss_cons (s_set 1 (p_call D_law_alphabet hr (by decide) tk (l_cons (p_var 0) (l_cons p_int l_nil))) sc_law_bad_deeds.nd)
    (ss_cons (s_set 2 (p_lst (l_cons p_non (l_cons p_bl (l_cons p_int (l_cons (p_lst (l_cons (p_var 1) l_nil)) (l_cons (p_tup l_nil) (l_cons (p_str []) (l_cons (p_str [98, 97]) (l_cons (p_str [122, 121, 120]) (l_cons (p_str [97, 98, 99, 100, 101, 102, 103, 104, 105]) (l_cons (p_op o_add (PP.u (p_var 1)) (PP.u (p_slice (PP.u (p_var 1)) s_none (s_some p_int)))) (l_cons (p_op o_add (PP.u (p_slice (PP.u (p_var 1)) s_none (s_some p_int))) (PP.u (p_var 1))) (l_cons (p_op o_add (PP.u (p_var 1)) (PP.u (p_str [65]))) l_nil))))))))))))) sc_law_bad_deeds.nd)
    (ss_one (s_ret (p_call D_law_pick hr (by decide) tk (l_cons (p_var 0) (l_cons (p_op o_add (PP.u (p_var 2)) (PP.u (p_lst (l_cons (p_op o_add (PP.u (p_var 1)) (PP.u (p_str [32]))) (l_cons (p_str [45]) (l_cons (p_str [97, 47, 98]) (l_cons p_int l_nil))))))) l_nil)))))))
theorem sc_law_same : FnScope ["_law_found", "_law_due", "_law_at"] ["_law_found", "_law_due"] (defScope s_law_same) := ⟨rfl, rfl, rfl, by decide +kernel, rfl, by decide +kernel, by decide +kernel⟩
theorem ok_law_same {f : Addr} {fd : FuncData} {fs_law_same : FS} (F : Fun K "_law_same" "_law_same" s_law_same f fd) (T : Txt P K mg C) {kk : Nat} (hkk : 0 ≤ kk) (D_law_same : Df P w K mg base "_law_same" kk 2 fs_law_same) : FnOk P w K mg base (L2.CX P w) (kk + 1) f fd ["_law_found", "_law_due"] (spOf K 2 (m_law_same  fs_law_same )) := by
  refine fn_ok F sc_law_same rfl (fun cdv A outer s H E hr => ⟨_, ?_, fun ds kd kx _ hf => hf⟩)
  have tk := takes_of (X := (cxOf (L2.CX P w) P w K mg base ["_law_found", "_law_due", "_law_at"] "_law_same" (defScope s_law_same) f cdv A outer s H E)) rfl rfl rfl rfl
  have po : PassesOwn (model P w) (cxOf (L2.CX P w) P w K mg base ["_law_found", "_law_due", "_law_at"] "_law_same" (defScope s_law_same) f cdv A outer s H E).A (cxOf (L2.CX P w) P w K mg base ["_law_found", "_law_due", "_law_at"] "_law_same" (defScope s_law_same) f cdv A outer s H E).env (cxOf (L2.CX P w) P w K mg base ["_law_found", "_law_due", "_law_at"] "_law_same" (defScope s_law_same) f cdv A outer s H E).xe := passes_of rfl
  exact (ss_cons (s_if (PBw.to (b_or (b_isN (PP.u (p_var 1))) (b_or1 (b_isN (PP.u (p_var 0))))))
    (ss_one (s_ret (p_and (p_isN (PP.u (p_var 1))) (p_one (p_isN (PP.u (p_var 0)))))))
    ss_nil)
    (ss_cons (s_if (PBw.to (b_or (b_val (p_isi "bool" (PP.u (p_var 1)) (pe_bltn (v := .ty "bool") (by rfl) T.b_bool (by decide +kernel) rfl) T.b_isinstance)) (b_or1 (b_val (p_isi "bool" (PP.u (p_var 0)) (pe_bltn (v := .ty "bool") (by rfl) T.b_bool (by decide +kernel) rfl) T.b_isinstance)))))
    (ss_one (s_ret (p_and (p_isi "bool" (PP.u (p_var 1)) (pe_bltn (v := .ty "bool") (by rfl) T.b_bool (by decide +kernel) rfl) T.b_isinstance) (p_and (p_isi "bool" (PP.u (p_var 0)) (pe_bltn (v := .ty "bool") (by rfl) T.b_bool (by decide +kernel) rfl) T.b_isinstance) (p_one (p_cmp (o_eq hr.units) (PP.u (p_var 0)) (PP.u (p_var 1))))))))
    ss_nil)
    (ss_cons (s_if (b_val (p_isi "int" (PP.u (p_var 1)) (pe_bltn (v := .ty "int") (by rfl) T.b_int (by decide +kernel) rfl) T.b_isinstance))
    (ss_one (s_ret (p_and (p_isi "int" (PP.u (p_var 0)) (pe_bltn (v := .ty "int") (by rfl) T.b_int (by decide +kernel) rfl) T.b_isinstance) (p_one (p_cmp (o_eq hr.units) (PP.u (p_var 0)) (PP.u (p_var 1)))))))
    ss_nil)
    (ss_cons (s_if (b_val (p_isi "str" (PP.u (p_var 1)) (pe_bltn (v := .ty "str") (by rfl) T.b_str (by decide +kernel) rfl) T.b_isinstance))
    (ss_one (s_ret (p_and (p_isi "str" (PP.u (p_var 0)) (pe_bltn (v := .ty "str") (by rfl) T.b_str (by decide +kernel) rfl) T.b_isinstance) (p_one (p_cmp (o_eq hr.units) (PP.u (p_var 0)) (PP.u (p_var 1)))))))
    ss_nil)
    (ss_cons (s_if (PBw.to (b_or (b_cmp (o_ne hr.units) (PP.u (p_isi "list" (PP.u (p_var 1)) (pe_bltn (v := .ty "list") (by rfl) T.b_list (by decide +kernel) rfl) T.b_isinstance)) (PP.u (p_isi "list" (PP.u (p_var 0)) (pe_bltn (v := .ty "list") (by rfl) T.b_list (by decide +kernel) rfl) T.b_isinstance))) (b_or1 (b_cmp (o_ne hr.units) (PP.u (p_isi "tuple" (PP.u (p_var 1)) (pe_bltn (v := .ty "tuple") (by rfl) T.b_tuple (by decide +kernel) rfl) T.b_isinstance)) (PP.u (p_isi "tuple" (PP.u (p_var 0)) (pe_bltn (v := .ty "tuple") (by rfl) T.b_tuple (by decide +kernel) rfl) T.b_isinstance))))))
    (ss_one (s_ret p_bl))
    ss_nil)
    (ss_one (s_ret (p_and (p_cmp (o_eq hr.units) (PP.u (p_b1 c_len T.b_len (by decide +kernel) (PP.u (p_var 0)))) (PP.u (p_b1 c_len T.b_len (by decide +kernel) (PP.u (p_var 1))))) (p_one (p_b1 (c_all rfl) T.b_all (by decide +kernel) (PP.u (p_lc [("_law_at", 2)] rfl sc_law_same.nd (i_rng1 T.b_range (l_cons (p_b1 c_len T.b_len (by decide +kernel) (PP.u (p_var 1))) l_nil)) (blkOk_by (N := ["_law_found", "_law_due", "_law_at"]) (sc := defScope s_law_same) (by decide +kernel)) (fun _ => (g_name 2 sc_law_same.nd)) (fun _ => bs_nil) (fun _ => (p_call D_law_same hr (by omega) takes0 (l_cons (p_ix (PP.u (p_var 0)) (PP.u (p_var 2))) (l_cons (p_ix (PP.u (p_var 1)) (PP.u (p_var 2))) l_nil))))))))))))))))
theorem sc_law_ask : FnScope ["_law_f", "e"] ["_law_f"] (defScope s_law_ask) := ⟨rfl, rfl, rfl, by decide +kernel, rfl, by decide +kernel, by decide +kernel⟩
theorem ask_law_ask (T : Txt P K mg C) (k : Nat) : AskOk P w K mg base "_law_ask" "_law_f" s_law_ask ["_law_f", "e"] k (m_law_ask K C.LogError C.Missing C.InvalidDeed C.InvalidDeeds C.InvalidLog C.InvalidStep C.InvalidStore C.InvalidStand C.InvalidNumber C.InvalidCount C.TooMany C.NothingLeft) := by
  intro g cdv A outer s H E tact hr act
  have tk := takes_of (X := (cxOf (L2.CX P w) P w K mg base ["_law_f", "e"] "_law_ask" (defScope s_law_ask) g cdv A outer s H E)) rfl rfl rfl rfl
  exact (ss_one (s_try rfl rfl tk (fun W pn xe tkb _ => (ss_one (s_ret (p_tup (l_cons (p_str []) (l_cons (act _ _ _ _ _ tkb) l_nil))))))
    (.cons (.tup (.cons ⟨by rfl, by decide, .inl T.g_InvalidDeed⟩ (.cons ⟨by rfl, by decide, .inl T.g_InvalidDeeds⟩ (.cons ⟨by rfl, by decide, .inl T.g_InvalidLog⟩ (.cons ⟨by rfl, by decide, .inl T.g_InvalidStand⟩ (.cons ⟨by rfl, by decide, .inl T.g_InvalidNumber⟩ (.cons ⟨by rfl, by decide, .inl T.g_InvalidCount⟩ .nil)))))) (by simp)) (.as sc_law_ask.nd rfl rfl) (fun a oe cls d pn hz hf => (ss_one (s_ret (p_tup (l_cons (p_xat 1 hz hf) (l_cons (p_xat 1 hz hf) l_nil))))))
    (.cons (.one ⟨by rfl, by decide, .inl T.g_InvalidStep⟩) (.as sc_law_ask.nd rfl rfl) (fun a oe cls d pn hz hf => (ss_one (s_ret (p_tup (l_cons (p_xat 1 hz hf) (l_cons (p_xat 1 hz hf) l_nil))))))
    (.cons (.one ⟨by rfl, by decide, .inl T.g_InvalidStore⟩) (.as sc_law_ask.nd rfl rfl) (fun a oe cls d pn hz hf => (ss_one (s_ret (p_tup (l_cons (p_xat 1 hz hf) (l_cons (p_xat 1 hz hf) l_nil))))))
    (.cons (.one ⟨by rfl, by decide, .inl T.g_TooMany⟩) (.as sc_law_ask.nd rfl rfl) (fun a oe cls d pn hz hf => (ss_one (s_ret (p_tup (l_cons (p_xat 1 hz hf) (l_cons (p_xat 1 hz hf) l_nil))))))
    (.cons (.tup (.cons ⟨by rfl, by decide, .inl T.g_LogError⟩ (.cons ⟨by rfl, by decide, .inl T.g_Missing⟩ (.cons ⟨by rfl, by decide, .inl T.g_NothingLeft⟩ .nil))) (by simp)) (.as sc_law_ask.nd rfl rfl) (fun a oe cls d pn hz hf => (ss_one (s_ret (p_tup (l_cons (p_xat 1 hz hf) (l_cons p_non l_nil))))))
    .nil)))))))
theorem sc_law_laid : FnScope ["_law_store", "_law_my_stand", "_law_my_deed", "_law_my_target", "_law_said", "e"] ["_law_store", "_law_my_stand", "_law_my_deed", "_law_my_target"] (defScope s_law_laid) := ⟨rfl, rfl, rfl, by decide +kernel, rfl, by decide +kernel, by decide +kernel⟩
theorem ok_law_laid {f : Addr} {fd : FuncData} {fs_Store___setitem__ : FS} (F : Fun K "_law_laid" "_law_laid" s_law_laid f fd) (T : Txt P K mg C) (M_Store___setitem__ : Mt P w K mg base C.Store "__setitem__" 5 2 fs_Store___setitem__) : FnOk P w K mg base (L2.CX P w) (5 + 1) f fd ["_law_store", "_law_my_stand", "_law_my_deed", "_law_my_target"] (spOf K 4 (m_law_laid K C.InvalidDeed C.InvalidStand C.Store fs_Store___setitem__ )) := by
  refine fn_ok F sc_law_laid rfl (fun cdv A outer s H E hr => ⟨_, ?_, fun ds kd kx _ hf => hf⟩)
  have tk := takes_of (X := (cxOf (L2.CX P w) P w K mg base ["_law_store", "_law_my_stand", "_law_my_deed", "_law_my_target", "_law_said", "e"] "_law_laid" (defScope s_law_laid) f cdv A outer s H E)) rfl rfl rfl rfl
  have po : PassesOwn (model P w) (cxOf (L2.CX P w) P w K mg base ["_law_store", "_law_my_stand", "_law_my_deed", "_law_my_target", "_law_said", "e"] "_law_laid" (defScope s_law_laid) f cdv A outer s H E).A (cxOf (L2.CX P w) P w K mg base ["_law_store", "_law_my_stand", "_law_my_deed", "_law_my_target", "_law_said", "e"] "_law_laid" (defScope s_law_laid) f cdv A outer s H E).env (cxOf (L2.CX P w) P w K mg base ["_law_store", "_law_my_stand", "_law_my_deed", "_law_my_target", "_law_said", "e"] "_law_laid" (defScope s_law_laid) f cdv A outer s H E).xe := passes_of rfl
  exact (ss_cons (s_set 4 (p_tup (l_cons (p_str []) (l_cons p_non l_nil))) sc_law_laid.nd)
    (ss_cons (s_try rfl rfl tk (fun W pn xe tkb _ => (ss_one (s_setO (ms := [(C.Store, fs_Store___setitem__)]) (fun c hc => by (rcases List.mem_cons.mp hc with rfl | hc; exact M_Store___setitem__; cases hc)) (fun c hc => by (rcases List.mem_cons.mp hc with rfl | hc; exact T.ns_Store; cases hc)) hr (by decide) tkb (p_var 0) (p_tup (l_cons (p_var 1) (l_cons (p_var 2) l_nil))) (p_var 3))))
    (.cons (.tup (.cons ⟨by rfl, by decide, .inl T.g_InvalidStand⟩ (.cons ⟨by rfl, by decide, .inl T.g_InvalidDeed⟩ .nil)) (by simp)) (.as sc_law_laid.nd rfl rfl) (fun a oe cls d pn hz hf => (ss_one (s_set 4 (p_tup (l_cons (p_xat 5 hz hf) (l_cons (p_xat 5 hz hf) l_nil))) sc_law_laid.nd)))
    .nil))
    (ss_one (s_ret (p_var 4)))))
theorem sc_law_calls_refused : FnScope ["_law_bag", "_law_deeds", "_law_store", "_law_many", "_law_my_stand", "_law_foreign", "_law_one", "_law_my_deed", "_law_log", "_law_asks", "_law_ask_here", "_law_laid_here", "_law_count"] ["_law_bag", "_law_deeds", "_law_store", "_law_many"] (defScope s_law_calls_refused) := ⟨rfl, rfl, rfl, by decide +kernel, rfl, by decide +kernel, by decide +kernel⟩
theorem ok_law_calls_refused {f c Pt : Addr} {kV doc pm ct oc : Value} {an od : Option Addr} {osl : Array (Option Value)} {fs_law_pick fs_law_letters fs_law_same fs_law_laid fs_Store___call__ fs_Store___getitem__ fs_Store_change fs_Store_reached fs_Store_idle : FS} (lk : K.lookup f = some ⟨oc, od, .func (PySem.W.fnOf "_law_calls_refused" "_law_calls_refused" (defArgs s_law_calls_refused) (defBody s_law_calls_refused) (defScope s_law_calls_refused) .none kV doc pm an (.ref c) ct), osl⟩)
    (hcd : PySem.W.codeIn K (.ref c) "_law_calls_refused" = true) (TB : LamX.TabB base mg c Pt) (hT : (Pt, ((("_law_calls_refused" : PySem.Str) ++ ".<locals>.") ++ "<lambda>" : PySem.Str)) ∈ Tabl.T) (T : Txt P K mg C) (D_law_pick : Df P w K mg base "_law_pick" 2 2 fs_law_pick) (D_law_letters : Df P w K mg base "_law_letters" 1 0 fs_law_letters) (D_law_same : Df P w K mg base "_law_same" 9 2 fs_law_same) (D_law_laid : Df P w K mg base "_law_laid" 6 4 fs_law_laid) {g_law_ask : Addr} {fd_law_ask : FuncData} (F_law_ask : Fun K "_law_ask" "_law_ask" s_law_ask g_law_ask fd_law_ask) (g_law_ask_is : mg "_law_ask" = some (.ref g_law_ask)) (B_law_ask : Binds K fd_law_ask ["_law_f"] []) (M_Store___call__ : Mt P w K mg base C.Store "__call__" 4 2 fs_Store___call__) (M_Store___getitem__ : Mt P w K mg base C.Store "__getitem__" 4 1 fs_Store___getitem__) (M_Store_change : Mt P w K mg base C.Store "change" 4 3 fs_Store_change) (M_Store_reached : Mt P w K mg base C.Store "reached" 4 1 fs_Store_reached) (MK_Store_change_target_stand_deed : MtK P w K mg base C.Store "change" 4 4 fs_Store_change ["target", "stand", "deed"] [0, 2, 3, 1]) (M_Store_idle : CMt P w K mg base C.Store "idle" 6 2 fs_Store_idle) : FnOk P w K mg base (L2.CX P w) (23 + 1) f (PySem.W.fnOf "_law_calls_refused" "_law_calls_refused" (defArgs s_law_calls_refused) (defBody s_law_calls_refused) (defScope s_law_calls_refused) .none kV doc pm an (.ref c) ct) ["_law_bag", "_law_deeds", "_law_store", "_law_many"] (spOf K 4 (m_law_calls_refused K C.LogError C.Missing C.InvalidDeed C.InvalidDeeds C.InvalidLog C.InvalidStep C.InvalidStore C.InvalidStand C.InvalidNumber C.InvalidCount C.TooMany C.NothingLeft C.Store fs_law_pick fs_law_letters fs_law_same fs_law_laid fs_Store___call__ fs_Store___getitem__ fs_Store_change fs_Store_reached fs_Store_idle )) := by
  refine fn_okC lk hcd sc_law_calls_refused rfl (fun A outer s H E hr => ⟨_, ?_, fun ds kd kx _ hf => hf⟩)
  have tk := takes_of (X := (cxOf (L2.CX P w) P w K mg base ["_law_bag", "_law_deeds", "_law_store", "_law_many", "_law_my_stand", "_law_foreign", "_law_one", "_law_my_deed", "_law_log", "_law_asks", "_law_ask_here", "_law_laid_here", "_law_count"] "_law_calls_refused" (defScope s_law_calls_refused) f (.ref c) A outer s H E)) rfl rfl rfl rfl
  have po : PassesOwn (model P w) (cxOf (L2.CX P w) P w K mg base ["_law_bag", "_law_deeds", "_law_store", "_law_many", "_law_my_stand", "_law_foreign", "_law_one", "_law_my_deed", "_law_log", "_law_asks", "_law_ask_here", "_law_laid_here", "_law_count"] "_law_calls_refused" (defScope s_law_calls_refused) f (.ref c) A outer s H E).A (cxOf (L2.CX P w) P w K mg base ["_law_bag", "_law_deeds", "_law_store", "_law_many", "_law_my_stand", "_law_foreign", "_law_one", "_law_my_deed", "_law_log", "_law_asks", "_law_ask_here", "_law_laid_here", "_law_count"] "_law_calls_refused" (defScope s_law_calls_refused) f (.ref c) A outer s H E).env (cxOf (L2.CX P w) P w K mg base ["_law_bag", "_law_deeds", "_law_store", "_law_many", "_law_my_stand", "_law_foreign", "_law_one", "_law_my_deed", "_law_log", "_law_asks", "_law_ask_here", "_law_laid_here", "_law_count"] "_law_calls_refused" (defScope s_law_calls_refused) f (.ref c) A outer s H E).xe := passes_of rfl
  have A_law_ask := ask_law_ask (P := P) (w := w) (base := base) T 22
  exact (ss_cons (s_set 4 (p_call D_law_pick hr (by decide) tk (l_cons (p_var 0) (l_cons (p_lst (l_cons (p_var 3) (l_cons (p_op o_sub (PP.u p_int) (PP.u p_int)) (l_cons p_non (l_cons p_bl (l_cons (p_str [48]) (l_cons (p_op o_pow (PP.u p_int) (PP.u p_int)) (l_cons (p_lst (l_cons p_int l_nil)) l_nil)))))))) l_nil))) sc_law_calls_refused.nd)
    (ss_cons (s_setLc 5 [("_law_one", 6)] rfl sc_law_calls_refused.nd (i_str (p_call0 D_law_letters hr (by decide) tk)) (blkOk_by (N := ["_law_bag", "_law_deeds", "_law_store", "_law_many", "_law_my_stand", "_law_foreign", "_law_one", "_law_my_deed", "_law_log", "_law_asks", "_law_ask_here", "_law_laid_here", "_law_count"]) (sc := defScope s_law_calls_refused) (by decide +kernel)) (fun _ => (g_name 6 sc_law_calls_refused.nd)) (fun _ => (bs_one (b_cmp o_notInS (PP.u (p_var 6)) (PP.u (p_var 1))))) (fun _ => (p_var 6)))
    (ss_cons (s_set 7 (p_call D_law_pick hr (by decide) tk (l_cons (p_var 0) (l_cons (p_op o_add (PP.u (p_lst (l_cons (p_str []) (l_cons (p_str [65]) (l_cons (p_op o_add (PP.u (p_var 1)) (PP.u (p_str [97]))) (l_cons p_non (l_cons p_int (l_cons (p_lst (l_cons (p_str [97]) l_nil)) (l_cons (p_op o_mulS (PP.u (p_slice (PP.u (p_var 1)) s_none (s_some p_int))) (PP.u p_int)) l_nil))))))))) (PP.u (p_var 5))) l_nil))) sc_law_calls_refused.nd)
    (ss_cons (s_set 8 (p_op o_add (PP.u (p_var 1)) (PP.u (p_strAny hr T.b_str (PP.u (p_var 7))))) sc_law_calls_refused.nd)
    (ss_fns (h := 10) (fbs_cons (fb_set 9 (fs_cons (pe_lamN TB rfl hT rfl (LamX.lamS_by (by show LamX.lamSB (defScope s_law_calls_refused) _ = true; decide +kernel))) (fs_cons (pe_lamD (y := "_law_a") TB rfl hT rfl pe_int (lamSD_by (by show lamSDB ["_law_bag", "_law_deeds", "_law_store", "_law_many", "_law_my_stand", "_law_foreign", "_law_one", "_law_my_deed", "_law_log", "_law_asks", "_law_ask_here", "_law_laid_here", "_law_count"] (defScope s_law_calls_refused) _ = true; decide +kernel))) fs_nil)) sc_law_calls_refused.nd)
    (fbs_cons (fb_cat2 9 (fs_cons (pe_lamD (y := "_law_b") TB rfl hT rfl pe_int (lamSD_by (by show lamSDB ["_law_bag", "_law_deeds", "_law_store", "_law_many", "_law_my_stand", "_law_foreign", "_law_one", "_law_my_deed", "_law_log", "_law_asks", "_law_ask_here", "_law_laid_here", "_law_count"] (defScope s_law_calls_refused) _ = true; decide +kernel))) (fs_cons (pe_lamD (y := "_law_c") TB rfl hT rfl pe_int (lamSD_by (by show lamSDB ["_law_bag", "_law_deeds", "_law_store", "_law_many", "_law_my_stand", "_law_foreign", "_law_one", "_law_my_deed", "_law_log", "_law_asks", "_law_ask_here", "_law_laid_here", "_law_count"] (defScope s_law_calls_refused) _ = true; decide +kernel))) fs_nil)) sc_law_calls_refused.nd)
    (fbs_cons (fb_app 9 (pe_lamD (y := "_law_d") TB rfl hT rfl pe_int (lamSD_by (by show lamSDB ["_law_bag", "_law_deeds", "_law_store", "_law_many", "_law_my_stand", "_law_foreign", "_law_one", "_law_my_deed", "_law_log", "_law_asks", "_law_ask_here", "_law_laid_here", "_law_count"] (defScope s_law_calls_refused) _ = true; decide +kernel))) (fun _ pa => pe_bm PySem.F.plainAttrs_list PySem.F.slot_list_append PySem.F.type_list_append mt_append (pv 9) (pa_cons pa pa_nil)))
    (fbs_all (by exact (AskAll.cons (ask_n F_law_ask sc_law_ask B_law_ask A_law_ask (Room.mono hr (by decide)) (kl := 6) (by decide) (by show LamX.lamSB (defScope s_law_calls_refused) _ = true; decide +kernel) (fun f c E A outer s H hrl => (p_callI (ms := [(C.Store, fs_Store___call__)]) (fun c hc => by (rcases List.mem_cons.mp hc with rfl | hc; exact M_Store___call__; cases hc)) (fun c hc => by (rcases List.mem_cons.mp hc with rfl | hc; exact T.fa_Store___call__; cases hc)) hrl (by decide) (takes_of rfl rfl rfl rfl) (p_var 2) (l_cons (p_var 4) (l_cons (p_var 8) l_nil)))))
    (AskAll.cons (ask_d F_law_ask sc_law_ask B_law_ask A_law_ask (Room.mono hr (by decide)) (kl := 6) (by decide) (by show lamSDB ["_law_bag", "_law_deeds", "_law_store", "_law_many", "_law_my_stand", "_law_foreign", "_law_one", "_law_my_deed", "_law_log", "_law_asks", "_law_ask_here", "_law_laid_here", "_law_count"] (defScope s_law_calls_refused) _ = true; decide +kernel) (fun f c E A outer s H hrl => (p_getO (ms := [(C.Store, fs_Store___getitem__)]) (fun c hc => by (rcases List.mem_cons.mp hc with rfl | hc; exact M_Store___getitem__; cases hc)) (fun c hc => by (rcases List.mem_cons.mp hc with rfl | hc; exact T.fa_Store___getitem__; cases hc)) hrl (by decide) (takes_of rfl rfl rfl rfl) (p_var 2) (p_tup (l_cons (p_var 4) (l_cons (p_var 7) l_nil))))))
    (AskAll.cons (ask_d F_law_ask sc_law_ask B_law_ask A_law_ask (Room.mono hr (by decide)) (kl := 5) (by decide) (by show lamSDB ["_law_bag", "_law_deeds", "_law_store", "_law_many", "_law_my_stand", "_law_foreign", "_law_one", "_law_my_deed", "_law_log", "_law_asks", "_law_ask_here", "_law_laid_here", "_law_count"] (defScope s_law_calls_refused) _ = true; decide +kernel) (fun f c E A outer s H hrl => (p_meth (ms := [(C.Store, fs_Store_change)]) (fun c hc => by (rcases List.mem_cons.mp hc with rfl | hc; exact M_Store_change; cases hc)) hrl (by decide) (takes_of rfl rfl rfl rfl) (p_var 2) (l_cons (p_var 4) (l_cons (p_var 7) (l_cons (p_var 4) l_nil))))))
    (AskAll.cons (ask_d F_law_ask sc_law_ask B_law_ask A_law_ask (Room.mono hr (by decide)) (kl := 5) (by decide) (by show lamSDB ["_law_bag", "_law_deeds", "_law_store", "_law_many", "_law_my_stand", "_law_foreign", "_law_one", "_law_my_deed", "_law_log", "_law_asks", "_law_ask_here", "_law_laid_here", "_law_count"] (defScope s_law_calls_refused) _ = true; decide +kernel) (fun f c E A outer s H hrl => (p_meth (ms := [(C.Store, fs_Store_reached)]) (fun c hc => by (rcases List.mem_cons.mp hc with rfl | hc; exact M_Store_reached; cases hc)) hrl (by decide) (takes_of rfl rfl rfl rfl) (p_var 2) (l_cons (p_var 4) l_nil))))
    (AskAll.cons (ask_d F_law_ask sc_law_ask B_law_ask A_law_ask (Room.mono hr (by decide)) (kl := 5) (by decide) (by show lamSDB ["_law_bag", "_law_deeds", "_law_store", "_law_many", "_law_my_stand", "_law_foreign", "_law_one", "_law_my_deed", "_law_log", "_law_asks", "_law_ask_here", "_law_laid_here", "_law_count"] (defScope s_law_calls_refused) _ = true; decide +kernel) (fun f c E A outer s H hrl => (p_methK (ms := [(C.Store, fs_Store_change)]) (fun c hc => by (rcases List.mem_cons.mp hc with rfl | hc; exact MK_Store_change_target_stand_deed; cases hc)) hrl (by decide) (takes_of rfl rfl rfl rfl) (p_var 2) (k_cons (p_var 4) (k_cons p_int (k_cons (p_ix (PP.u (p_var 1)) (PP.u p_int)) k_nil))))))
    AskAll.nil)))))) (fun aq1 AQ1 => (ss_cons (s_if (b_not (b_val (p_call D_law_same hr (by decide) tk (l_cons (p_askLc AQ1 g_law_ask_is F_law_ask.kp rfl sc_law_calls_refused.nd (i_lst (p_varF 9)) (blkOk_by (N := ["_law_bag", "_law_deeds", "_law_store", "_law_many", "_law_my_stand", "_law_foreign", "_law_one", "_law_my_deed", "_law_log", "_law_asks", "_law_ask_here", "_law_laid_here", "_law_count"]) (sc := defScope s_law_calls_refused) (by decide +kernel)) (fun _ => (g_name 10 sc_law_calls_refused.nd))) (l_cons (p_op o_mul (PP.u (p_lst (l_cons (p_tup (l_cons (p_str [73, 110, 118, 97, 108, 105, 100, 83, 116, 97, 110, 100]) (l_cons (p_var 4) l_nil))) l_nil))) (PP.u p_int)) l_nil)))))
    (ss_one (s_ret p_bl))
    ss_nil)
    (ss_fns (h := 10) (fbs_cons (fb_set 9 (fs_cons (pe_lamN TB rfl hT rfl (LamX.lamS_by (by show LamX.lamSB (defScope s_law_calls_refused) _ = true; decide +kernel))) (fs_cons (pe_lamD (y := "_law_a") TB rfl hT rfl pe_int (lamSD_by (by show lamSDB ["_law_bag", "_law_deeds", "_law_store", "_law_many", "_law_my_stand", "_law_foreign", "_law_one", "_law_my_deed", "_law_log", "_law_asks", "_law_ask_here", "_law_laid_here", "_law_count"] (defScope s_law_calls_refused) _ = true; decide +kernel))) fs_nil)) sc_law_calls_refused.nd)
    (fbs_all (by exact (AskAll.cons (ask_n F_law_ask sc_law_ask B_law_ask A_law_ask (Room.mono hr (by decide)) (kl := 6) (by decide) (by show LamX.lamSB (defScope s_law_calls_refused) _ = true; decide +kernel) (fun f c E A outer s H hrl => (p_getO (ms := [(C.Store, fs_Store___getitem__)]) (fun c hc => by (rcases List.mem_cons.mp hc with rfl | hc; exact M_Store___getitem__; cases hc)) (fun c hc => by (rcases List.mem_cons.mp hc with rfl | hc; exact T.fa_Store___getitem__; cases hc)) hrl (by decide) (takes_of rfl rfl rfl rfl) (p_var 2) (p_tup (l_cons p_int (l_cons (p_var 7) l_nil))))))
    (AskAll.cons (ask_d F_law_ask sc_law_ask B_law_ask A_law_ask (Room.mono hr (by decide)) (kl := 5) (by decide) (by show lamSDB ["_law_bag", "_law_deeds", "_law_store", "_law_many", "_law_my_stand", "_law_foreign", "_law_one", "_law_my_deed", "_law_log", "_law_asks", "_law_ask_here", "_law_laid_here", "_law_count"] (defScope s_law_calls_refused) _ = true; decide +kernel) (fun f c E A outer s H hrl => (p_meth (ms := [(C.Store, fs_Store_change)]) (fun c hc => by (rcases List.mem_cons.mp hc with rfl | hc; exact M_Store_change; cases hc)) hrl (by decide) (takes_of rfl rfl rfl rfl) (p_var 2) (l_cons p_int (l_cons (p_var 7) (l_cons (p_var 4) l_nil))))))
    AskAll.nil))) (fun aq2 AQ2 => (ss_cons (s_if (b_not (b_val (p_call D_law_same hr (by decide) tk (l_cons (p_askLc AQ2 g_law_ask_is F_law_ask.kp rfl sc_law_calls_refused.nd (i_lst (p_varF 9)) (blkOk_by (N := ["_law_bag", "_law_deeds", "_law_store", "_law_many", "_law_my_stand", "_law_foreign", "_law_one", "_law_my_deed", "_law_log", "_law_asks", "_law_ask_here", "_law_laid_here", "_law_count"]) (sc := defScope s_law_calls_refused) (by decide +kernel)) (fun _ => (g_name 10 sc_law_calls_refused.nd))) (l_cons (p_op o_mul (PP.u (p_lst (l_cons (p_tup (l_cons (p_str [73, 110, 118, 97, 108, 105, 100, 68, 101, 101, 100]) (l_cons (p_var 7) l_nil))) l_nil))) (PP.u p_int)) l_nil)))))
    (ss_one (s_ret p_bl))
    ss_nil)
    (ss_cons (s_set 11 (p_lst (l_cons (p_call D_law_laid hr (by decide) tk (l_cons (p_var 2) (l_cons (p_var 4) (l_cons (p_var 7) (l_cons (p_var 4) l_nil))))) (l_cons (p_call D_law_laid hr (by decide) tk (l_cons (p_var 2) (l_cons p_int (l_cons (p_ix (PP.u (p_var 1)) (PP.u p_int)) (l_cons (p_var 4) l_nil))))) (l_cons (p_call D_law_laid hr (by decide) tk (l_cons (p_var 2) (l_cons p_int (l_cons (p_var 7) (l_cons (p_var 4) l_nil))))) l_nil)))) sc_law_calls_refused.nd)
    (ss_cons (s_if (b_not (b_val (p_call D_law_same hr (by decide) tk (l_cons (p_var 11) (l_cons (p_lst (l_cons (p_tup (l_cons (p_str [73, 110, 118, 97, 108, 105, 100, 83, 116, 97, 110, 100]) (l_cons (p_var 4) l_nil))) (l_cons (p_tup (l_cons (p_str [73, 110, 118, 97, 108, 105, 100, 83, 116, 97, 110, 100]) (l_cons (p_var 4) l_nil))) (l_cons (p_tup (l_cons (p_str [73, 110, 118, 97, 108, 105, 100, 68, 101, 101, 100]) (l_cons (p_var 7) l_nil))) l_nil)))) l_nil)))))
    (ss_one (s_ret p_bl))
    ss_nil)
    (ss_cons (s_set 8 (p_call D_law_pick hr (by decide) tk (l_cons (p_var 0) (l_cons (p_lst (l_cons (p_op o_add (PP.u (p_var 1)) (PP.u (p_str [65]))) (l_cons p_non (l_cons (p_lst (l_cons (p_var 1) l_nil)) (l_cons p_int l_nil))))) l_nil))) sc_law_calls_refused.nd)
    (ss_cons (s_set 12 (p_call D_law_pick hr (by decide) tk (l_cons (p_var 0) (l_cons (p_lst (l_cons p_int (l_cons p_int (l_cons p_non (l_cons p_bl (l_cons (p_str [49]) (l_cons (p_op o_sub (PP.u p_int) (PP.u p_int)) (l_cons (p_op o_pow (PP.u p_int) (PP.u p_int)) l_nil)))))))) l_nil))) sc_law_calls_refused.nd)
    (ss_cons (s_set 9 (p_lst (l_cons (p_lamcall F_law_ask sc_law_ask g_law_ask_is B_law_ask A_law_ask TB rfl hT (Room.mono hr (by decide)) (kl := 6) (by decide) tk (by show LamX.lamSB (defScope s_law_calls_refused) _ = true; decide +kernel) (fun f c E A outer s H hrl => (p_callI (ms := [(C.Store, fs_Store___call__)]) (fun c hc => by (rcases List.mem_cons.mp hc with rfl | hc; exact M_Store___call__; cases hc)) (fun c hc => by (rcases List.mem_cons.mp hc with rfl | hc; exact T.fa_Store___call__; cases hc)) hrl (by decide) (takes_of rfl rfl rfl rfl) (p_var 2) (l_cons p_int (l_cons (p_var 8) l_nil))))) (l_cons (p_lamcallD F_law_ask sc_law_ask g_law_ask_is B_law_ask A_law_ask TB rfl hT (Room.mono hr (by decide)) (kl := 7) (by decide) tk (by show lamSDB ["_law_bag", "_law_deeds", "_law_store", "_law_many", "_law_my_stand", "_law_foreign", "_law_one", "_law_my_deed", "_law_log", "_law_asks", "_law_ask_here", "_law_laid_here", "_law_count"] (defScope s_law_calls_refused) _ = true; decide +kernel) (fun f c E A outer s H hrl => (p_cmeth M_Store_idle hrl (by decide) (takes_of rfl rfl rfl rfl) (p_globC T.g_Store) (l_cons (p_var 1) (l_cons (p_var 12) l_nil)))) pe_int (y := "_law_a")) l_nil))) sc_law_calls_refused.nd)
    (ss_one (s_ret (p_call D_law_same hr (by decide) tk (l_cons (p_var 9) (l_cons (p_lst (l_cons (p_tup (l_cons (p_str [73, 110, 118, 97, 108, 105, 100, 76, 111, 103]) (l_cons (p_var 8) l_nil))) (l_cons (p_tup (l_cons (p_str [73, 110, 118, 97, 108, 105, 100, 67, 111, 117, 110, 116]) (l_cons (p_var 12) l_nil))) l_nil))) l_nil))))))))))))))))))))))))))
theorem sc_law : FnScope ["_law_script", "_law_bag", "_law_turn", "_law_deeds", "_law_many", "_law_rows_here", "_law_width", "_law_bad", "_law_asks", "_law_ask_here", "_law_at", "_law_row", "_law_wrong", "_law_store"] ["_law_script"] (defScope s_law) := ⟨rfl, rfl, rfl, by decide +kernel, rfl, by decide +kernel, by decide +kernel⟩
theorem ok_law {f c Pt : Addr} {kV doc pm ct oc : Value} {an od : Option Addr} {osl : Array (Option Value)} {fs_law_start fs_law_alphabet fs_law_pull fs_law_rows fs_law_bad_deeds fs_law_same fs_law_pick fs_law_calls_refused fs_Store_idle fs_Store_rows : FS} {g_Store : FSo} (lk : K.lookup f = some ⟨oc, od, .func (PySem.W.fnOf "law" "law" (defArgs s_law) (defBody s_law) (defScope s_law) .none kV doc pm an (.ref c) ct), osl⟩)
    (hcd : PySem.W.codeIn K (.ref c) "law" = true) (TB : LamX.TabB base mg c Pt) (hT : (Pt, ((("law" : PySem.Str) ++ ".<locals>.") ++ "<lambda>" : PySem.Str)) ∈ Tabl.T) (T : Txt P K mg C) (D_law_start : Df P w K mg base "_law_start" 1 1 fs_law_start) (D_law_alphabet : Df P w K mg base "_law_alphabet" 3 2 fs_law_alphabet) (D_law_pull : Df P w K mg base "_law_pull" 1 2 fs_law_pull) (D_law_rows : Df P w K mg base "_law_rows" 2 3 fs_law_rows) (D_law_bad_deeds : Df P w K mg base "_law_bad_deeds" 4 1 fs_law_bad_deeds) (D_law_same : Df P w K mg base "_law_same" 9 2 fs_law_same) (D_law_pick : Df P w K mg base "_law_pick" 2 2 fs_law_pick) (D_law_calls_refused : Df P w K mg base "_law_calls_refused" 24 4 fs_law_calls_refused) {g_law_ask : Addr} {fd_law_ask : FuncData} (F_law_ask : Fun K "_law_ask" "_law_ask" s_law_ask g_law_ask fd_law_ask) (g_law_ask_is : mg "_law_ask" = some (.ref g_law_ask)) (B_law_ask : Binds K fd_law_ask ["_law_f"] []) (Mk_Store : MkI P w K mg base C.Store 4 2 g_Store) (M_Store_idle : CMt P w K mg base C.Store "idle" 6 2 fs_Store_idle) (M_Store_rows : Mt P w K mg base C.Store "rows" 1 0 fs_Store_rows) : FnOk P w K mg base (L2.CX P w) (24 + 1) f (PySem.W.fnOf "law" "law" (defArgs s_law) (defBody s_law) (defScope s_law) .none kV doc pm an (.ref c) ct) ["_law_script"] (spOf K 1 (m_law K C.LogError C.Missing C.InvalidDeed C.InvalidDeeds C.InvalidLog C.InvalidStep C.InvalidStore C.InvalidStand C.InvalidNumber C.InvalidCount C.TooMany C.NothingLeft C.Store fs_law_start fs_law_alphabet fs_law_pull fs_law_rows fs_law_bad_deeds fs_law_same fs_law_pick fs_law_calls_refused fs_Store_idle fs_Store_rows g_Store)) := by
  refine fn_okC lk hcd sc_law rfl (fun A outer s H E hr => ⟨_, ?_, fun ds kd kx _ hf => hf⟩)
  have tk := takes_of (X := (cxOf (L2.CX P w) P w K mg base ["_law_script", "_law_bag", "_law_turn", "_law_deeds", "_law_many", "_law_rows_here", "_law_width", "_law_bad", "_law_asks", "_law_ask_here", "_law_at", "_law_row", "_law_wrong", "_law_store"] "law" (defScope s_law) f (.ref c) A outer s H E)) rfl rfl rfl rfl
  have po : PassesOwn (model P w) (cxOf (L2.CX P w) P w K mg base ["_law_script", "_law_bag", "_law_turn", "_law_deeds", "_law_many", "_law_rows_here", "_law_width", "_law_bad", "_law_asks", "_law_ask_here", "_law_at", "_law_row", "_law_wrong", "_law_store"] "law" (defScope s_law) f (.ref c) A outer s H E).A (cxOf (L2.CX P w) P w K mg base ["_law_script", "_law_bag", "_law_turn", "_law_deeds", "_law_many", "_law_rows_here", "_law_width", "_law_bad", "_law_asks", "_law_ask_here", "_law_at", "_law_row", "_law_wrong", "_law_store"] "law" (defScope s_law) f (.ref c) A outer s H E).env (cxOf (L2.CX P w) P w K mg base ["_law_script", "_law_bag", "_law_turn", "_law_deeds", "_law_many", "_law_rows_here", "_law_width", "_law_bad", "_law_asks", "_law_ask_here", "_law_at", "_law_row", "_law_wrong", "_law_store"] "law" (defScope s_law) f (.ref c) A outer s H E).xe := passes_of rfl
  have A_law_ask := ask_law_ask (P := P) (w := w) (base := base) T 22
  exact (ss_cons (s_set 1 (p_call D_law_start hr (by decide) tk (l_cons (p_var 0) l_nil)) sc_law.nd)
    (ss_cons (s_for po rfl (i_rng1 T.b_range (l_cons p_int l_nil)) (g_name 2 sc_law.nd)
    (ss_cons (s_asgG (p_tup (l_cons (p_call D_law_alphabet hr (by decide) tk (l_cons (p_var 1) (l_cons p_int l_nil))) (l_cons (p_op o_add (PP.u p_int) (PP.u (p_call D_law_pull hr (by decide) tk (l_cons (p_var 1) (l_cons p_int l_nil))))) l_nil))) (g_tup2 3 4 rfl sc_law.nd))
    (ss_cons (s_par2 5 6 rfl sc_law.nd (l_cons (p_call D_law_rows hr (by decide) tk (l_cons (p_var 1) (l_cons (p_var 4) (l_cons (p_b1 c_len T.b_len (by decide +kernel) (PP.u (p_var 3))) l_nil)))) (l_cons (p_b1 c_len T.b_len (by decide +kernel) (PP.u (p_var 3))) l_nil)))
    (ss_cons (s_set 7 (p_call D_law_bad_deeds hr (by decide) tk (l_cons (p_var 1) l_nil)) sc_law.nd)
    (ss_fns (h := 9) (fbs_cons (fb_set 8 (fs_cons (pe_lamN TB rfl hT rfl (LamX.lamS_by (by show LamX.lamSB (defScope s_law) _ = true; decide +kernel))) (fs_cons (pe_lamD (y := "_law_a") TB rfl hT rfl pe_int (lamSD_by (by show lamSDB ["_law_script", "_law_bag", "_law_turn", "_law_deeds", "_law_many", "_law_rows_here", "_law_width", "_law_bad", "_law_asks", "_law_ask_here", "_law_at", "_law_row", "_law_wrong", "_law_store"] (defScope s_law) _ = true; decide +kernel))) fs_nil)) sc_law.nd)
    (fbs_all (by exact (AskAll.cons (ask_n F_law_ask sc_law_ask B_law_ask A_law_ask (Room.mono hr (by decide)) (kl := 5) (by decide) (by show LamX.lamSB (defScope s_law) _ = true; decide +kernel) (fun f c E A outer s H hrl => (p_make Mk_Store hrl (by decide) (takes_of rfl rfl rfl rfl) T.g_Store (l_cons (p_var 7) (l_cons (p_lst l_nil) l_nil)))))
    (AskAll.cons (ask_d F_law_ask sc_law_ask B_law_ask A_law_ask (Room.mono hr (by decide)) (kl := 7) (by decide) (by show lamSDB ["_law_script", "_law_bag", "_law_turn", "_law_deeds", "_law_many", "_law_rows_here", "_law_width", "_law_bad", "_law_asks", "_law_ask_here", "_law_at", "_law_row", "_law_wrong", "_law_store"] (defScope s_law) _ = true; decide +kernel) (fun f c E A outer s H hrl => (p_cmeth M_Store_idle hrl (by decide) (takes_of rfl rfl rfl rfl) (p_globC T.g_Store) (l_cons (p_var 7) (l_cons p_int l_nil)))))
    AskAll.nil))) (fun aq1 AQ1 => (ss_cons (s_if (b_not (b_val (p_call D_law_same hr (by decide) tk (l_cons (p_askLc AQ1 g_law_ask_is F_law_ask.kp rfl sc_law.nd (i_lst (p_varF 8)) (blkOk_by (N := ["_law_script", "_law_bag", "_law_turn", "_law_deeds", "_law_many", "_law_rows_here", "_law_width", "_law_bad", "_law_asks", "_law_ask_here", "_law_at", "_law_row", "_law_wrong", "_law_store"]) (sc := defScope s_law) (by decide +kernel)) (fun _ => (g_name 9 sc_law.nd))) (l_cons (p_op o_mul (PP.u (p_lst (l_cons (p_tup (l_cons (p_str [73, 110, 118, 97, 108, 105, 100, 68, 101, 101, 100, 115]) (l_cons (p_var 7) l_nil))) l_nil))) (PP.u p_int)) l_nil)))))
    (ss_one (s_ret p_bl))
    ss_nil)
    (ss_cons (s_set 10 (p_call D_law_pull hr (by decide) tk (l_cons (p_var 1) (l_cons (p_var 4) l_nil))) sc_law.nd)
    (ss_cons (s_set 11 (p_call D_law_pick hr (by decide) tk (l_cons (p_var 1) (l_cons (p_lst (l_cons (p_t1 c_list T.b_list (by decide +kernel) (PP.u (p_ix (PP.u (p_var 5)) (PP.u p_int)))) (l_cons (p_op o_addT (PP.u (p_ix (PP.u (p_var 5)) (PP.u p_int))) (PP.u (p_tup (l_cons p_int l_nil)))) (l_cons (p_slice (PP.u (p_ix (PP.u (p_var 5)) (PP.u p_int))) (s_some p_int) s_none) (l_cons (p_op o_mulT (PP.u (p_tup (l_cons (p_var 4) l_nil))) (PP.u (p_var 6))) (l_cons (p_op o_mulT (PP.u (p_tup (l_cons (p_op o_sub (PP.u p_int) (PP.u p_int)) l_nil))) (PP.u (p_var 6))) l_nil)))))) l_nil))) sc_law.nd)
    (ss_cons (s_set 11 (p_call D_law_pick hr (by decide) tk (l_cons (p_var 1) (l_cons (p_lst (l_cons (p_var 11) (l_cons (p_var 11) (l_cons p_non (l_cons (p_str [48]) (l_cons p_int (l_cons (p_op o_mulT (PP.u (p_tup (l_cons p_bl l_nil))) (PP.u (p_var 6))) (l_cons (p_op o_mulT (PP.u (p_tup (l_cons p_non l_nil))) (PP.u (p_var 6))) (l_cons (p_op o_mulT (PP.u (p_tup (l_cons (p_str [48]) l_nil))) (PP.u (p_var 6))) l_nil))))))))) l_nil))) sc_law.nd)
    (ss_cons (s_set 12 (p_op o_add (PP.u (p_op o_add (PP.u (p_slice (PP.u (p_var 5)) s_none (s_some (p_var 10)))) (PP.u (p_lst (l_cons (p_var 11) l_nil))))) (PP.u (p_slice (PP.u (p_call D_law_pick hr (by decide) tk (l_cons (p_var 1) (l_cons (p_lst (l_cons (p_var 5) (l_cons (p_op o_mul (PP.u (p_lst (l_cons p_non l_nil))) (PP.u (p_var 4))) l_nil))) l_nil)))) (s_some (p_op o_add (PP.u (p_var 10)) (PP.u p_int))) s_none))) sc_law.nd)
    (ss_cons (s_if (b_not (b_val (p_call D_law_same hr (by decide) tk (l_cons (p_lamcall F_law_ask sc_law_ask g_law_ask_is B_law_ask A_law_ask TB rfl hT (Room.mono hr (by decide)) (kl := 5) (by decide) tk (by show LamX.lamSB (defScope s_law) _ = true; decide +kernel) (fun f c E A outer s H hrl => (p_make Mk_Store hrl (by decide) (takes_of rfl rfl rfl rfl) T.g_Store (l_cons (p_var 3) (l_cons (p_var 12) l_nil))))) (l_cons (p_tup (l_cons (p_str [73, 110, 118, 97, 108, 105, 100, 83, 116, 111, 114, 101]) (l_cons (p_var 10) l_nil))) l_nil)))))
    (ss_one (s_ret p_bl))
    ss_nil)
    (ss_cons (s_set 13 (p_make Mk_Store hr (by decide) tk T.g_Store (l_cons (p_var 3) (l_cons (p_var 5) l_nil))) sc_law.nd)
    (ss_one (s_if (PBw.to (b_or (b_not (b_val (p_call D_law_calls_refused hr (by decide) tk (l_cons (p_var 1) (l_cons (p_var 3) (l_cons (p_var 13) (l_cons (p_var 4) l_nil))))))) (b_or1 (b_cmp (o_ne hr.units) (PP.u (p_meth0 (ms := [(C.Store, fs_Store_rows)]) (fun c hc => by (rcases List.mem_cons.mp hc with rfl | hc; exact M_Store_rows; cases hc)) hr (by decide) tk (p_var 13))) (PP.u (p_var 5))))))
    (ss_one (s_ret p_bl))
    ss_nil)))))))))))))))))
    (ss_fns (h := 9) (fbs_cons (fb_set 8 (fs_cons (pe_lamN TB rfl hT rfl (LamX.lamS_by (by show LamX.lamSB (defScope s_law) _ = true; decide +kernel))) (fs_cons (pe_lamD (y := "_law_a") TB rfl hT rfl pe_int (lamSD_by (by show lamSDB ["_law_script", "_law_bag", "_law_turn", "_law_deeds", "_law_many", "_law_rows_here", "_law_width", "_law_bad", "_law_asks", "_law_ask_here", "_law_at", "_law_row", "_law_wrong", "_law_store"] (defScope s_law) _ = true; decide +kernel))) (fs_cons (pe_lamD (y := "_law_b") TB rfl hT rfl pe_int (lamSD_by (by show lamSDB ["_law_script", "_law_bag", "_law_turn", "_law_deeds", "_law_many", "_law_rows_here", "_law_width", "_law_bad", "_law_asks", "_law_ask_here", "_law_at", "_law_row", "_law_wrong", "_law_store"] (defScope s_law) _ = true; decide +kernel))) fs_nil))) sc_law.nd)
    (fbs_all (by exact (AskAll.cons (ask_n F_law_ask sc_law_ask B_law_ask A_law_ask (Room.mono hr (by decide)) (kl := 5) (by decide) (by show LamX.lamSB (defScope s_law) _ = true; decide +kernel) (fun f c E A outer s H hrl => (p_make Mk_Store hrl (by decide) (takes_of rfl rfl rfl rfl) T.g_Store (l_cons (p_str [97]) (l_cons (p_lst l_nil) l_nil)))))
    (AskAll.cons (ask_d F_law_ask sc_law_ask B_law_ask A_law_ask (Room.mono hr (by decide)) (kl := 5) (by decide) (by show lamSDB ["_law_script", "_law_bag", "_law_turn", "_law_deeds", "_law_many", "_law_rows_here", "_law_width", "_law_bad", "_law_asks", "_law_ask_here", "_law_at", "_law_row", "_law_wrong", "_law_store"] (defScope s_law) _ = true; decide +kernel) (fun f c E A outer s H hrl => (p_make Mk_Store hrl (by decide) (takes_of rfl rfl rfl rfl) T.g_Store (l_cons (p_str [97]) (l_cons p_non l_nil)))))
    (AskAll.cons (ask_d F_law_ask sc_law_ask B_law_ask A_law_ask (Room.mono hr (by decide)) (kl := 5) (by decide) (by show lamSDB ["_law_script", "_law_bag", "_law_turn", "_law_deeds", "_law_many", "_law_rows_here", "_law_width", "_law_bad", "_law_asks", "_law_ask_here", "_law_at", "_law_row", "_law_wrong", "_law_store"] (defScope s_law) _ = true; decide +kernel) (fun f c E A outer s H hrl => (p_make Mk_Store hrl (by decide) (takes_of rfl rfl rfl rfl) T.g_Store (l_cons (p_str [97]) (l_cons (p_op o_mul (PP.u (p_lst (l_cons p_non l_nil))) (PP.u p_int)) l_nil)))))
    AskAll.nil)))) (fun aq2 AQ2 => (ss_one (s_ret (p_call D_law_same hr (by decide) tk (l_cons (p_askLc AQ2 g_law_ask_is F_law_ask.kp rfl sc_law.nd (i_lst (p_varF 8)) (blkOk_by (N := ["_law_script", "_law_bag", "_law_turn", "_law_deeds", "_law_many", "_law_rows_here", "_law_width", "_law_bad", "_law_asks", "_law_ask_here", "_law_at", "_law_row", "_law_wrong", "_law_store"]) (sc := defScope s_law) (by decide +kernel)) (fun _ => (g_name 9 sc_law.nd))) (l_cons (p_lst (l_cons (p_tup (l_cons (p_str [73, 110, 118, 97, 108, 105, 100, 83, 116, 111, 114, 101]) (l_cons p_int l_nil))) (l_cons (p_tup (l_cons (p_str [73, 110, 118, 97, 108, 105, 100, 83, 116, 111, 114, 101]) (l_cons p_int l_nil))) (l_cons (p_tup (l_cons (p_str [84, 111, 111, 77, 97, 110, 121]) (l_cons p_int l_nil))) l_nil)))) l_nil)))))))))))
end
end K22
set_option Elab.async false
set_option linter.all false
set_option maxRecDepth 100000
set_option maxHeartbeats 4000000
namespace PL
open PySem L2
end PL
set_option Elab.async false
set_option linter.all false
set_option maxRecDepth 100000
set_option maxHeartbeats 4000000
namespace PL
open PySem L2
section
variable {ds : List D} {kd : KD} {kx : KX} {Γ : Ga} {tl : TL} {i n : Nat} {ta tb : TP}
local instance : Tabl := ⟨[], fun p hp => absurd hp (by simp)⟩
def AllEv (G : Ga) : List TP → List D → Prop
  | [], [] => True
  | t :: ts, d :: ds => Ev t G d ∧ AllEv G ts ds
  | _, _ => False
theorem ev_askLc {G : Ga} {fs : List Addr} {l : List (Addr × HO)} {Gx : Hp} {i h : Nat} {ts : List TP} {ds : List D} (hl : fs.length = ts.length) (hz : ts.length ≤ 100000) (g4 : gat G i = .pf (clsD fs) l Gx)
    (w4 : ∀ d, gat (gset (wipeG G [h]) h d) i = .pf (clsD fs) l Gx) (w5 : ∀ d, gat (gset (wipeG G [h]) h d) h = d) (ha : AllEv (gset (wipeG G [h]) h .un) ts ds) :
    Ev (tpLc [h] (tiLst (tpVarF i)) (tgName h) tbYes (tpAskV fs l Gx i h ts)) G (.lst ds) := fun k kx z => by
  show tpVarF i G (fun d => _) kx
  show (match gat G i with | .pf d _ _ => _ | _ => False)
  rw [g4]
  show (fs.map D.cls).length ≤ 100000 ∧ _
  refine ⟨by rw [List.length_map]; omega, ?_⟩
  have go : ∀ (r : List Addr) (rt : List TP) (rd : List D) (j : Nat) {k : List D → Prop}, (∀ n, fs[j + n]? = r[n]?) → (∀ n, ts[j + n]? = rt[n]?) → r.length = rt.length → AllEv (gset (wipeG G [h]) h .un) rt rd → k rd →
      lcW (tgName h) tbYes (tpAskV fs l Gx i h ts) (wipeG G [h]) (r.map D.cls) k := by
    intro r
    induction r with
    | nil =>
      intro rt rd j k _ _ hr ha z
      cases rt with
      | nil =>
        cases rd with
        | nil => exact z
        | cons _ _ => exact ha.elim
      | cons _ _ => cases hr
    | cons f r ih =>
      intro rt rd j k hf ht hr ha z
      cases rt with
      | nil => cases hr
      | cons t rt =>
        cases rd with
        | nil => exact ha.elim
        | cons d rd =>
          show tpAskV fs l Gx i h ts (gset (wipeG G [h]) h (.pu (.cls f))) _ _
          unfold tpAskV
          rw [w4, w5]
          refine ⟨⟨rfl, rfl⟩, j, t, hf 0, ht 0, ?_⟩
          rw [gset2]
          exact ha.1 _ _ (ih rt rd (j + 1) (fun n => by rw [Nat.add_assoc, Nat.add_comm 1 n]; exact hf (n + 1)) (fun n => by rw [Nat.add_assoc, Nat.add_comm 1 n]; exact ht (n + 1)) (Nat.succ.inj hr) ha.2 z)
  exact go fs ts ds 0 (fun n => by rw [Nat.zero_add]) (fun n => by rw [Nat.zero_add]) hl ha z
theorem st_fns {G : Ga} {i h : Nat} {ts : List TP} {m : TP → TSp} {P : PEn} (hi : i < G.length) (g : ∀ (fs : List Addr) (l : List (Addr × HO)) (Gx : Hp), fs.length = ts.length → m (tpAskV fs l Gx i h ts) P (gset G i (.pf (clsD fs) l Gx))) : tsFns i h ts m P G := ⟨hi, g⟩
theorem ev_mulL {xs : List D} {n : Int} (h : Ev ta Γ (.lst xs)) (g : Ev tb Γ (.int n)) (h1 : n < 2 ^ 60) (h2 : -(2 ^ 60) < n) (h3 : xs.length * n.toNat ≤ sizeLine) : Ev (tpOp fMul ta tb) Γ (.lst (List.replicate n.toNat xs).flatten) := ev_op h g fun k z => ⟨h1, h2, h3, z⟩
end
end PL
set_option Elab.async false
set_option linter.all false
set_option maxRecDepth 100000
set_option maxHeartbeats 4000000
namespace PL
open PySem L2
abbrev REPW : List Nat := [114, 101, 112, 101, 97, 116]
/-- values that are asked whether they are logs -/
def okV2 (d : D) : Prop := (tyD d).isSome = true ∧ ∀ v, d = .str v → v.length ≤ 3000
def goodV (s : List Nat) : D → Bool
  | .str v => v.all fun c => decide (c ∈ s)
  | _ => false
def fsIsLogV : FS := fun ds k _ => match ds with
  | [d, .str s] => okV2 d ∧ k (.bl (goodV s d))
  | _ => False
def fsNeedV (CL : Addr) : FS := fun ds k kx => match ds with
  | [d, .str s] => okV2 d ∧ (goodV s d = true → k .non) ∧ (goodV s d = false → kx (ilX CL d))
  | _ => False
def plB (n : Int) : D → Bool
  | .int i => decide (0 ≤ i) && decide (i < n)
  | _ => false
/-- no step of any kind -/
structure Odd (w p : D) (zs : List D) : Prop where
  pw : D.plain w = true
  dw : D.dep w ≤ 64
  pz : D.plainL zs = true
  dz : D.depL zs ≤ 60
  tp : (tyD p).isSome = true
  tz : ∀ z ∈ zs, (tyD z).isSome = true
  lz : zs.length ≤ 1
  odd : (∀ s, w ≠ .str s) ∨ (∀ i, p ≠ .int i) ∨ (w = .str REPW ∧ ∃ z, zs = [z] ∧ ∀ i, z ≠ .int i)
section
variable {ds : List D} {kd : KD} {kx : KX} {C CF CC CX CG CT CL CN CD : Addr} {ss : List (List Nat)} {ps : Prs} {Γ : Ga} {t ta tb tc tj : TP} {tl : TL} {d e y w p : D} {zs : List D} {x : XD} {n i : Nat} {cb : TB} {P : PEn} {r : TSp} {b : Bool} {K : Ks} {m : KindM} {u v : List Nat}
local instance : Tabl := ⟨[], fun p hp => absurd hp (by simp)⟩
theorem isLogV_ok' : fsIsLogV ds kd kx → m_is_log_of ds kd kx := by
  intro h0
  match ds, h0 with
  | [d, .str s], ⟨⟨ht, hz⟩, h⟩ =>
    cases d with
    | str v => exact is_log_of_ok' ⟨hz v rfl, h⟩
    | non => exact h
    | bl _ => exact h
    | int _ => exact h
    | lst _ => exact h
    | tup _ => exact h
    | dct _ => exact h
    | _ => cases ht
theorem needV_ok' : fsNeedV CL ds kd kx → mx_need_log_of CL fsIsLogV ds kd kx := by
  intro h0
  match ds, h0 with
  | [d, .str s], ⟨h1, h2, h3⟩ =>
    let G : Ga := [.pu d, .pu (.str s)]
    have c : Ev (tpCall 2 fsIsLogV (tlCons (tpVar 0) (tlCons (tpVar 1) tlNil))) G (.bl (goodV s d)) := ev_call (evl_2 (ev_var rfl) (ev_var rfl)) rfl fun k kx z => ⟨h1, z⟩
    refine st_if1B (Γ := G) (evb_not (evb_v c)) (fun e => ?_) (fun e => ?_)
    · exact h3 (by simpa using e)
    · exact h2 (by simpa using e)
theorem eq_ns {s : List Nat} (h : ∀ s, w ≠ .str s) : eqD w (.str s) = false := by
  cases w with
  | str s => exact absurd rfl (h s)
  | _ => rfl
theorem pl_ni {n : Int} (h : ∀ i, p ≠ .int i) : plB n p = false := by
  cases p with
  | int i => exact absurd rfl (h i)
  | _ => rfl
theorem Odd.one {s : List Nat} {n : Int} (o : Odd w p zs) (hs : REPW ≠ s) : eqD w (.str s) = false ∨ plB n p = false := by
  rcases o.odd with h | h | ⟨rfl, _⟩
  · exact .inl (eq_ns h)
  · exact .inr (pl_ni h)
  · exact .inl (by rw [eqD_str]; exact decide_eq_false hs)
end
end PL
set_option Elab.async false
set_option linter.all false
set_option maxRecDepth 100000
set_option maxHeartbeats 4000000
namespace PL
open PySem L2
abbrev IDDS : List Nat := [73, 110, 118, 97, 108, 105, 100, 68, 101, 101, 100, 115]
abbrev idX (CD : Addr) (d : D) : XD := ⟨.ref CD, [(("given" : PySem.Str), d), (("tag" : PySem.Str), .str IDDS)]⟩
/-- whether the signs ascend -/
def ltB (s : List Nat) (i : Nat) : Bool := decide ([s.getD (i - 1) 0] < [s.getD i 0])
def ascB (s : List Nat) : Bool := ((List.range (s.length - 1)).map (· + 1)).all fun i => ltB s i
def goodDs : D → Bool
  | .str s => isLog (.str s) && (decide (1 ≤ s.length) && (decide (s.length ≤ 8) && ascB s))
  | _ => false
def fsAscX : FS := fun ds k _ => match ds with
  | [.str s] => s.length ≤ 3000 ∧ k (.bl (ascB s))
  | _ => False
def fsIsDeedsX : FS := fun ds k _ => match ds with
  | [d] => goodL d ∧ k (.bl (goodDs d))
  | _ => False
def fsNeedDsX (CD : Addr) : FS := fun ds k kx => match ds with
  | [d] => goodL d ∧ ((∃ al, d = .str al ∧ okA al ∧ k .non) ∨ (goodDs d = false ∧ kx (idX CD d)))
  | _ => False
def fsBadDs : FS := fun ds k _ => match ds with
  | [.bag] => ∀ d, goodL d → goodDs d = false → okS 6 d → k d
  | _ => False
section
variable {ds : List D} {kd : KD} {kx : KX} {CD : Addr} {Γ : Ga} {tl : TL} {i n : Nat} {ta tb : TP}
local instance : Tabl := ⟨[], fun p hp => absurd hp (by simp)⟩
theorem gd {s : List Nat} {j : Nat} (h : j < s.length) : s.getD j 0 = s[j] := by
  rw [List.getD_eq_getElem?_getD, List.getElem?_eq_getElem h]
  rfl
theorem asc_of {s : List Nat} (h : s.Pairwise (· < ·)) : ascB s = true := by
  unfold ascB
  rw [List.all_eq_true]
  intro i hi
  obtain ⟨j, hj, rfl⟩ := List.mem_map.mp hi
  have hj := List.mem_range.mp hj
  have a1 : j < s.length := by omega
  have a2 : j + 1 < s.length := by omega
  have lt : s[j] < s[j + 1] := List.pairwise_iff_getElem.mp h j (j + 1) a1 a2 (Nat.lt_succ_self j)
  refine decide_eq_true ?_
  rw [Nat.add_sub_cancel, gd a1, gd a2, List.cons_lt_cons_iff]
  exact .inl lt
theorem asc_not {s : List Nat} {j : Nat} (h : j + 1 < s.length) (g : s.getD (j + 1) 0 ≤ s.getD j 0) : ascB s = false := by
  cases e : ascB s with
  | false => rfl
  | true =>
    unfold ascB at e
    have := List.all_eq_true.mp e (j + 1) (List.mem_map.mpr ⟨j, List.mem_range.mpr (by omega), rfl⟩)
    have := of_decide_eq_true this
    rw [Nat.add_sub_cancel, List.cons_lt_cons_iff] at this
    rcases this with q | ⟨_, q⟩
    · omega
    · exact absurd q (by decide)
theorem ascX_ok' : fsAscX ds kd kx → m_is_ascending ds kd kx := by
  intro h0
  match ds, h0 with
  | [.str s], ⟨hl, h⟩ =>
    have big : s.length ≤ sizeLine := Nat.le_trans hl (by decide)
    refine ⟨big, ⟨by decide, by decide, by omega, by omega⟩, ?_⟩
    have e : (List.range (((s.length : Nat) : Int) - 1).toNat).map (fun i => D.int (1 + (i : Nat))) = ((List.range (s.length - 1)).map (· + 1)).map fun i => D.int (i : Nat) := by
      rw [List.map_map, show (((s.length : Nat) : Int) - 1).toNat = s.length - 1 by omega]
      refine List.map_congr_left fun i _ => ?_
      show D.int _ = D.int _
      congr 1
      show (1 : Int) + (i : Nat) = ((i + 1 : Nat) : Int)
      omega
    show (List.map _ (List.range (((s.length : Nat) : Int) - 1).toNat)).length ≤ 100000 ∧ lcW _ _ _ _ (List.map _ (List.range (((s.length : Nat) : Int) - 1).toNat)) _
    rw [e]
    refine ⟨by rw [List.length_map, List.length_map, List.length_range]; omega, ?_⟩
    refine lc_rng (f := fun i => .bl (ltB s i)) _ (fun i hi k' h' => ?_) ?_
    · obtain ⟨j, hj, rfl⟩ := List.mem_map.mp hi
      have hj := List.mem_range.mp hj
      have a1 : j < s.length := by omega
      have a2 : j + 1 < s.length := by omega
      refine ⟨big, ?_⟩
      show (match atI s (((j + 1 : Nat) : Int) - 1) with | some c => _ | none => False)
      rw [show (((j + 1 : Nat) : Int) - 1) = (j : Nat) by omega, at_nat s j a1]
      refine ⟨big, ?_⟩
      show (match atI s ((j + 1 : Nat) : Int) with | some c => _ | none => False)
      rw [at_nat s (j + 1) a2]
      show k' (.bl (decide ([s[j]] < [s[j + 1]])))
      have e : ltB s (j + 1) = decide ([s[j]] < [s[j + 1]]) := by
        unfold ltB
        rw [Nat.add_sub_cancel, gd a1, gd a2]
      rw [← e]
      exact h'
    · have e2 : (((List.range (s.length - 1)).map (· + 1)).map fun i => D.bl (ltB s i)) = (((List.range (s.length - 1)).map (· + 1)).map fun i => ltB s i).map D.bl := by rw [List.map_map (g := D.bl)]; rfl
      show onBs (((List.range (s.length - 1)).map (· + 1)).map fun i => D.bl (ltB s i)) _
      rw [e2, onBs_map]
      have : ((((List.range (s.length - 1)).map (· + 1)).map fun i => ltB s i).all id) = ascB s := by
        unfold ascB
        rw [List.all_map]
        rfl
      rw [this]
      exact h
theorem is_deedsX_ok' : fsIsDeedsX ds kd kx → m_is_deeds fsIsLog fsAscX ds kd kx := by
  intro h0
  match ds, h0 with
  | [d], ⟨g, h⟩ =>
    let G : Ga := [.pu d]
    have il : Ev (tpCall 1 fsIsLog (tlCons (tpVar 0) tlNil)) G (.bl (isLog d)) := ev_call (evl_1 (ev_var rfl)) rfl fun k kx z => ⟨g, z⟩
    cases hd : isLog d with
    | false =>
      rw [hd] at il
      have e : goodDs d = false := by
        cases d with
        | str s =>
          show (isLog (.str s) && _) = false
          rw [hd, Bool.false_and]
        | _ => rfl
      rw [e] at h
      exact st_ret (Γ := G) (ev_and (c := false) il (fun z => by cases z) fun _ => rfl) h
    | true =>
      rw [hd] at il
      obtain ⟨s, rfl⟩ : ∃ s, d = .str s := by
        cases d with
        | str s => exact ⟨s, rfl⟩
        | _ => cases hd
      have ls := g.2 s rfl
      have big : s.length ≤ sizeLine := Nat.le_trans ls (by decide)
      have e : goodDs (.str s) = (decide (1 ≤ s.length) && (decide (s.length ≤ 8) && ascB s)) := by
        show (isLog (.str s) && _) = _
        rw [hd, Bool.true_and]
      have ch : Ev (tpChain fLe fLe (tpC (.int 1)) (tp1 fLenS (tpVar 0)) (tpC (.int 8))) G (.bl (decide (1 ≤ s.length) && decide (s.length ≤ 8))) := fun k kx z => by
        refine ⟨big, ?_⟩
        show (if decide ((1 : Int) ≤ (s.length : Nat)) = true then _ else _)
        by_cases h1 : 1 ≤ s.length
        · rw [decide_eq_true h1, Bool.true_and] at z
          rw [decide_eq_true (show (1 : Int) ≤ (s.length : Nat) by omega), if_pos rfl]
          show k (.bl (decide (((s.length : Nat) : Int) ≤ 8)))
          rw [show decide (((s.length : Nat) : Int) ≤ 8) = decide (s.length ≤ 8) from decide_eq_decide.mpr (by omega)]
          exact z
        · rw [decide_eq_false h1, Bool.false_and] at z
          rw [decide_eq_false (show ¬ (1 : Int) ≤ (s.length : Nat) by omega), if_neg Bool.false_ne_true]
          exact z
      have as : Ev (tpCall 1 fsAscX (tlCons (tpVar 0) tlNil)) G (.bl (ascB s)) := ev_call (evl_1 (ev_var rfl)) rfl fun k kx z => ⟨ls, z⟩
      rw [e] at h
      refine st_ret (Γ := G) (ev_and (c := decide (1 ≤ s.length) && (decide (s.length ≤ 8) && ascB s)) il (fun _ => ev_and ch (fun q => ?_) (fun q => ?_)) (fun z => by cases z)) h
      · rw [Bool.and_eq_true] at q
        rw [q.1, q.2, Bool.true_and, Bool.true_and]
        exact as
      · rw [← Bool.and_assoc, q, Bool.false_and]
theorem good_of {al : List Nat} (h : okA al) : goodDs (.str al) = true := by
  obtain ⟨a1, a2, a3, a4⟩ := h
  show (al.all _ && (decide (1 ≤ al.length) && (decide (al.length ≤ 8) && ascB al))) = true
  rw [decide_eq_true a1, decide_eq_true a2, asc_of a3, Bool.and_true, Bool.and_true, Bool.and_true]
  exact List.all_eq_true.mpr fun c hc => decide_eq_true (a4 c hc)
theorem goodL_of {al : List Nat} (h : okA al) : goodL (.str al) := ⟨rfl, fun s e => by cases e; have := h.2.1; omega⟩
theorem need_deedsX_ok' : fsNeedDsX CD ds kd kx → mx_need_deeds CD fsIsDeedsX ds kd kx := by
  intro h0
  match ds, h0 with
  | [d], ⟨g, h⟩ =>
    let G : Ga := [.pu d]
    have c : Ev (tpCall 1 fsIsDeedsX (tlCons (tpVar 0) tlNil)) G (.bl (goodDs d)) := ev_call (evl_1 (ev_var rfl)) rfl fun k kx z => ⟨g, z⟩
    have b := evb_not (evb_v c)
    rcases h with ⟨al, rfl, ha, h⟩ | ⟨e, h⟩
    · rw [good_of ha] at b
      exact st_if1F (Γ := G) b h
    · rw [e] at b
      exact st_if1T (Γ := G) b h
theorem bad_len {s : List Nat} (h : 8 < s.length) : goodDs (.str s) = false := by
  show (isLog (.str s) && (_ && (decide (s.length ≤ 8) && _))) = false
  rw [decide_eq_false (show ¬ s.length ≤ 8 by omega), Bool.false_and, Bool.and_false, Bool.and_false]
theorem bad_asc {s : List Nat} (h : ascB s = false) : goodDs (.str s) = false := by
  show (isLog (.str s) && (_ && (_ && ascB s))) = false
  rw [h, Bool.and_false, Bool.and_false, Bool.and_false]
theorem bad_let {s : List Nat} {c : Nat} (h : c ∈ s) (g : c ∉ LET) : goodDs (.str s) = false := by
  have : isLog (.str s) = false := by
    cases e : isLog (.str s) with
    | false => rfl
    | true => exact absurd (of_decide_eq_true (List.all_eq_true.mp e c h)) g
  show (isLog (.str s) && _) = false
  rw [this, Bool.false_and]
theorem bad_deeds_ok' : fsBadDs ds kd kx → m_law_bad_deeds fsAlpha fsPick ds kd kx := by
  intro h0
  match ds, h0 with
  | [.bag], h =>
    have h : ∀ d, goodL d → goodDs d = false → okS 6 d → kd d := h
    have big : 3000 ≤ sizeLine := by decide
    let G : Ga := [.pu .bag, .un, .un]
    have alp : EvN (tpCall 2 fsAlpha (tlCons (tpVar 0) (tlCons (tpC (.int 8)) tlNil))) G (fun d => ∃ s : List Nat, okA s ∧ d = .str s) := evn_call (evnl (evl_2 (ev_var rfl) (ev_c _))) fun ds hd => by
      subst hd
      exact ⟨rfl, fun k kx z => ⟨⟨by decide, by decide⟩, fun s s1 s2 s3 s4 => z _ ⟨s, ⟨List.length_pos_iff.mpr s1, by omega, s3, s4⟩, rfl⟩⟩⟩
    refine st_setN (Γ := G) alp fun _ ⟨s, hs, e⟩ => ?_
    subst e
    obtain ⟨a1, a2, a3, a4⟩ := hs
    let G1 : Ga := [.pu .bag, .pu (.str s), .un]
    have vs : ∀ {G : Ga}, gat G 1 = .pu (.str s) → Ev (tpVar 1) G (.str s) := fun e => ev_var e
    have sl : Ev (tpSl (tpVar 1) toNo (toSome (tpC (.int 1)))) G1 (.str (s.take 1)) := by
      have := ev_sl (lo := none) (hi := some ((1 : Nat) : Int)) (tlo := toNo) (thi := toSome (tpC (.int 1))) (vs (G := G1) rfl) (fun k kx z => z) (fun k kx z => z) (by omega)
      rwa [cut_take] at this
    have l1 : (s.take 1).length = 1 := by rw [List.length_take]; omega
    let X1 : List D := [.non, .bl true, .int 5, .lst [.str s], .tup [], .str [], .str [98, 97], .str [122, 121, 120], .str [97, 98, 99, 100, 101, 102, 103, 104, 105], .str (s ++ s.take 1), .str (s.take 1 ++ s), .str (s ++ [65])]
    let X2 : List D := [.str (s ++ [32]), .str [45], .str [97, 47, 98], .int 0]
    have e1 : Ev (tpOp fAdd (tpVar 1) (tpSl (tpVar 1) toNo (toSome (tpC (.int 1))))) G1 (.str (s ++ s.take 1)) := ev_addS (vs rfl) sl (by omega)
    have e2 : Ev (tpOp fAdd (tpSl (tpVar 1) toNo (toSome (tpC (.int 1)))) (tpVar 1)) G1 (.str (s.take 1 ++ s)) := ev_addS sl (vs rfl) (by omega)
    have e3 : Ev (tpOp fAdd (tpVar 1) (tpC (.str [65]))) G1 (.str (s ++ [65])) := ev_addS (vs rfl) (ev_c _) (by show s.length + 1 ≤ sizeLine; omega)
    refine st_set (Γ := G1) (d := .lst X1) (ev_lst (evl_cons (ev_c _) (evl_cons (ev_c _) (evl_cons (ev_c _) (evl_cons (ev_lst (evl_1 (vs rfl)) (by show 1 ≤ 100000; decide)) (evl_cons (ev_tup evl_nil (Nat.zero_le _)) (evl_cons (ev_c _) (evl_cons (ev_c _) (evl_cons (ev_c _) (evl_cons (ev_c _) (evl_3 e1 e2 e3)))))))))) (by show 12 ≤ 100000; decide)) ?_
    let G2 : Ga := [.pu .bag, .pu (.str s), .pu (.lst X1)]
    have e4 : Ev (tpOp fAdd (tpVar 1) (tpC (.str [32]))) G2 (.str (s ++ [32])) := ev_addS (vs rfl) (ev_c _) (by show s.length + 1 ≤ sizeLine; omega)
    have sum := ev_addL (Γ := G2) (ev_var (i := 2) (d := .lst X1) rfl) (ev_lst (evl_cons e4 (evl_3 (ev_c (.str [45])) (ev_c (.str [97, 47, 98])) (ev_c (.int 0)))) (by show 4 ≤ 100000; decide)) (by show 16 ≤ sizeLine; omega)
    refine st_retN (Γ := G2) (evn_pick (ev_var (d := .bag) rfl) sum (by simp [X1]) (by show 16 ≤ 100000; decide)) fun d hd => ?_
    show kd d
    have pl := plain_of a4
    have okStr : ∀ {t : List Nat}, t.length ≤ 3000 → (∀ c ∈ t, c < 1114112) → okS 6 (.str t) := fun l p => ⟨by omega, List.all_eq_true.mpr fun c hc => decide_eq_true (p c hc)⟩
    have lo : ∀ c ∈ s, c < 1114112 := fun c hc => of_decide_eq_true (List.all_eq_true.mp pl c hc)
    have lo1 : ∀ c ∈ s.take 1, c < 1114112 := fun c hc => lo c (List.mem_of_mem_take hc)
    have app : ∀ {a b : List Nat}, (∀ c ∈ a, c < 1114112) → (∀ c ∈ b, c < 1114112) → ∀ c ∈ a ++ b, c < 1114112 := fun h1 h2 c hc => (List.mem_append.mp hc).elim (h1 c) (h2 c)
    have gl : ∀ {t : List Nat}, t.length ≤ 3000 → goodL (.str t) := fun l => ⟨rfl, fun s e => by cases e; exact l⟩
    have gn : ∀ {d : D}, (tyD d).isSome = true → (∀ s, d ≠ .str s) → goodL d := fun a b => ⟨a, fun s e => absurd e (b s)⟩
    simp only [X1, List.cons_append, List.nil_append, List.mem_cons, List.not_mem_nil, or_false] at hd
    obtain ⟨c0, hc0⟩ : ∃ c0, s[0]? = some c0 := ⟨s[0], List.getElem?_eq_getElem (by omega)⟩
    have t1 : s.take 1 = [c0] := by
      match s, hc0 with
      | x :: r, h => cases h; rfl
    rcases hd with rfl | rfl | rfl | rfl | rfl | rfl | rfl | rfl | rfl | rfl | rfl | rfl | rfl | rfl | rfl | rfl
    · exact h _ (gn rfl fun _ z => by cases z) rfl trivial
    · exact h _ (gn rfl fun _ z => by cases z) rfl trivial
    · exact h _ (gn rfl fun _ z => by cases z) rfl trivial
    · exact h _ (gn rfl fun _ z => by cases z) rfl ⟨by show 1 ≤ 100000; decide, ⟨by omega, pl⟩, trivial⟩
    · exact h _ (gn rfl fun _ z => by cases z) rfl ⟨Nat.zero_le _, trivial⟩
    · exact h _ (gl (Nat.zero_le _)) rfl (okStr (Nat.zero_le _) fun _ z => nomatch z)
    · exact h _ (gl (by decide)) (bad_asc (asc_not (j := 0) (by decide) (by decide))) (okStr (by decide) (by decide))
    · exact h _ (gl (by decide)) (bad_asc (asc_not (j := 0) (by decide) (by decide))) (okStr (by decide) (by decide))
    · exact h _ (gl (by decide)) (bad_len (by decide)) (okStr (by decide) (by decide))
    · refine h _ (gl (by rw [List.length_append]; omega)) (bad_asc (asc_not (j := s.length - 1) (by rw [List.length_append]; omega) ?_)) (okStr (by rw [List.length_append]; omega) (app lo lo1))
      have z1 : (s ++ s.take 1).getD (s.length - 1 + 1) 0 = c0 := by
        rw [List.getD_eq_getElem?_getD, show s.length - 1 + 1 = s.length by omega, List.getElem?_append_right (Nat.le_refl _), Nat.sub_self, t1]
        rfl
      have z2 : (s ++ s.take 1).getD (s.length - 1) 0 = s[s.length - 1] := by
        rw [List.getD_eq_getElem?_getD, List.getElem?_append_left (by omega), List.getElem?_eq_getElem (by omega)]
        rfl
      rw [z1, z2]
      obtain ⟨h0, e0⟩ := List.getElem?_eq_some_iff.mp hc0
      rw [← e0]
      by_cases z : s.length = 1
      · exact Nat.le_of_eq (by congr 1; omega)
      · exact Nat.le_of_lt (List.pairwise_iff_getElem.mp a3 0 (s.length - 1) (by omega) (by omega) (by omega))
    · refine h _ (gl (by rw [List.length_append]; omega)) (bad_asc (asc_not (j := 0) (by rw [List.length_append]; omega) ?_)) (okStr (by rw [List.length_append]; omega) (app lo1 lo))
      rw [t1]
      show s.getD 0 0 ≤ c0
      rw [List.getD_eq_getElem?_getD, hc0]
      exact Nat.le_refl _
    · exact h _ (gl (by rw [List.length_append]; show s.length + 1 ≤ 3000; omega)) (bad_let (c := 65) (List.mem_append_right _ List.mem_cons_self) (by decide)) (okStr (by rw [List.length_append]; show s.length + 1 ≤ 3000; omega) (app lo (by decide)))
    · exact h _ (gl (by rw [List.length_append]; show s.length + 1 ≤ 3000; omega)) (bad_let (c := 32) (List.mem_append_right _ List.mem_cons_self) (by decide)) (okStr (by rw [List.length_append]; show s.length + 1 ≤ 3000; omega) (app lo (by decide)))
    · exact h _ (gl (by decide)) (bad_let (c := 45) List.mem_cons_self (by decide)) (okStr (by decide) (by decide))
    · exact h _ (gl (by decide)) (bad_let (c := 47) (.tail _ List.mem_cons_self) (by decide)) (okStr (by decide) (by decide))
    · exact h _ (gn rfl fun _ z => by cases z) rfl trivial
end
end PL
set_option Elab.async false
set_option linter.all false
set_option maxRecDepth 100000
set_option maxHeartbeats 4000000
namespace PL
open PySem L2
abbrev ISTO : List Nat := [73, 110, 118, 97, 108, 105, 100, 83, 116, 111, 114, 101]
abbrev ISTA : List Nat := [73, 110, 118, 97, 108, 105, 100, 83, 116, 97, 110, 100]
abbrev IDEE : List Nat := [73, 110, 118, 97, 108, 105, 100, 68, 101, 101, 100]
def isX2 (CI : Addr) (n : Nat) : XD := ⟨.ref CI, [(("index" : PySem.Str), .int (n : Nat)), (("tag" : PySem.Str), .str ISTO)]⟩
def itX (CT : Addr) : XD := ⟨.ref CT, [(("most" : PySem.Str), .int 120), (("tag" : PySem.Str), .str TMW)]⟩
def inX (CN : Addr) (d : D) : XD := ⟨.ref CN, [(("given" : PySem.Str), d), (("tag" : PySem.Str), .str ISTA)]⟩
def ieX (CE : Addr) (d : D) : XD := ⟨.ref CE, [(("given" : PySem.Str), d), (("tag" : PySem.Str), .str IDEE)]⟩
abbrev lstI (r : List Int) : List D := r.map D.int
def tabD (rs : List (List Int)) : D := .lst (rs.map fun r => .lst (lstI r))
def stoD (CS : Addr) (al : List Nat) (rs : List (List Int)) : D := .ins CS [(("own_deeds" : PySem.Str), .str al), (("table" : PySem.Str), tabD rs)]
def rowsD (rs : List (List Int)) : D := .lst (rs.map fun r => .tup (lstI r))
/-- rows as such a store wants them -/
def rowGood (n w : Int) : D → Bool
  | .tup r => decide ((r.length : Int) = w) && r.all fun x => within 0 (n - 1) x
  | _ => false
def rowOk (d : D) : Prop := (tyD d).isSome = true ∧ ∀ r, d = .tup r → r.length ≤ 1000 ∧ ∀ x ∈ r, (tyD x).isSome = true
def fsNeedRows (CI CT : Addr) : FS := fun ds k kx => match ds with
  | [d, .int w] => (d = .non ∧ kx (isX2 CI 0)) ∨ ∃ l, d = .lst l ∧ ((l = [] ∧ kx (isX2 CI 0)) ∨ ((120 < l.length ∧ l.length ≤ 100000) ∧ kx (itX CT)) ∨
      ((1 ≤ l.length ∧ l.length ≤ 120 ∧ ∀ r ∈ l, rowOk r) ∧ (((∀ r ∈ l, rowGood l.length w r = true) ∧ k .non) ∨ ∃ pre b post, (l = pre ++ b :: post ∧ (∀ r ∈ pre, rowGood l.length w r = true) ∧ rowGood l.length w b = false) ∧ kx (isX2 CI pre.length))))
  | _ => False
def fsStoI (CS CD CI CT : Addr) : FSo := fun ds k kx => match ds with
  | [.ins C [], d, rows] => C = CS ∧ goodL d ∧ ((goodDs d = false ∧ kx (idX CD d)) ∨ ∃ al, (d = .str al ∧ okA al) ∧ fsNeedRows CI CT [rows, .int (al.length : Nat)] (fun _ => ∃ rs, rows = rowsD rs ∧ rs.length ≤ 120 ∧ k .non (stoD CS al rs)) kx)
  | _ => False
def fsIdle (CS CD CC : Addr) : FS := fun ds k kx => match ds with
  | [.cls C, d, m] => C = CS ∧ goodL d ∧ ((goodDs d = false ∧ kx (idX CD d)) ∨ ∃ al, (d = .str al ∧ okA al) ∧ ((tyD m).isSome = true ∧ within 1 120 m = false) ∧ kx (icX CC m))
  | _ => False
def fsRows (CS : Addr) : FS := fun ds k _ => match ds with
  | [s] => ∃ al rs, (s = stoD CS al rs ∧ rs.length ≤ 100000) ∧ k (rowsD rs)
  | _ => False
def fsNeedSt (CS CN : Addr) : FS := fun ds k kx => match ds with
  | [s, d] => ∃ al rs, (s = stoD CS al rs ∧ (tyD d).isSome = true) ∧ (within 0 ((rs.length : Nat) - 1) d = true → k .non) ∧ (within 0 ((rs.length : Nat) - 1) d = false → kx (inX CN d))
  | _ => False
def deedB (al : List Nat) : D → Bool
  | .str [c] => decide (c ∈ al)
  | _ => false
def fsNeedDe (CS CE : Addr) : FS := fun ds k kx => match ds with
  | [s, d] => ∃ al rs, (s = stoD CS al rs ∧ goodL d) ∧ (deedB al d = true → k .non) ∧ (deedB al d = false → kx (ieX CE d))
  | _ => False
def fsNoF : FS := fun _ _ _ => False
def fsCallX (CS CN CL : Addr) : FS := fun ds k kx => match ds with
  | [s, d, lg] => ∃ al rs, (s = stoD CS al rs ∧ (tyD d).isSome = true) ∧ ((within 0 ((rs.length : Nat) - 1) d = false ∧ kx (inX CN d)) ∨ ((within 0 ((rs.length : Nat) - 1) d = true ∧ okV2 lg ∧ goodV al lg = false) ∧ kx (ilX CL lg)))
  | _ => False
def fsGetX (CS CN CE : Addr) : FS := fun ds k kx => match ds with
  | [s, .tup [d, e]] => ∃ al rs, (s = stoD CS al rs ∧ (tyD d).isSome = true) ∧ ((within 0 ((rs.length : Nat) - 1) d = false ∧ kx (inX CN d)) ∨ ((within 0 ((rs.length : Nat) - 1) d = true ∧ goodL e ∧ deedB al e = false) ∧ kx (ieX CE e)))
  | _ => False
def fsChgX (CS CN CE : Addr) : FS := fun ds k kx => match ds with
  | [s, d, e, t] => ∃ al rs, (s = stoD CS al rs ∧ (tyD d).isSome = true) ∧ ((within 0 ((rs.length : Nat) - 1) d = false ∧ kx (inX CN d)) ∨ ((within 0 ((rs.length : Nat) - 1) d = true ∧ goodL e ∧ deedB al e = false) ∧ kx (ieX CE e)) ∨
      ((within 0 ((rs.length : Nat) - 1) d = true ∧ goodL e ∧ deedB al e = true ∧ (tyD t).isSome = true ∧ within 0 ((rs.length : Nat) - 1) t = false) ∧ kx (inX CN t)))
  | _ => False
def fsSetX (CS CN CE : Addr) : FS := fun ds k kx => match ds with
  | [s, .tup [d, e], t] => fsChgX CS CN CE [s, d, e, t] k kx
  | _ => False
def fsReachX (CS CN : Addr) : FS := fun ds k kx => match ds with
  | [s, d] => ∃ al rs, (s = stoD CS al rs ∧ (tyD d).isSome = true) ∧ within 0 ((rs.length : Nat) - 1) d = false ∧ kx (inX CN d)
  | _ => False
section
variable {ds : List D} {kd : KD} {kx : KX} {C CS CD CI CT CC CN CE CL : Addr} {Γ : Ga} {tl : TL} {i n : Nat} {ta tb t : TP} {d : D} {P : PEn} {s u r : TSp} {al : List Nat} {rs : List (List Int)} {x : XD} {cb : TB}
local instance : Tabl := ⟨[], fun p hp => absurd hp (by simp)⟩
theorem ev_within {d : D} {lo hi : Int} (h : Ev t Γ d) (g : Ev ta Γ (.int lo)) (f : Ev tb Γ (.int hi)) (ht : (tyD d).isSome = true) : Ev (tpCall 3 fsWithin (tlCons t (tlCons ta (tlCons tb tlNil)))) Γ (.bl (within lo hi d)) := ev_call (evl_3 h g f) rfl fun k kx z => ⟨ht, z⟩
theorem st_asg2 {j : Nat} {a b : D} (h : Ev t Γ (.tup [a, b])) (g : u P (gset (gset Γ i (.pu a)) j (.pu b))) : tsSeq (tsAsgG t (tgTup2 i j)) u P Γ := h _ _ g
theorem stx_raise {cn f : PySem.Str} (h : Ev t Γ d) (g : P.xx ⟨.ref C, [(f, d), (("tag" : PySem.Str), .str cn.cps.toList)]⟩ Γ) : tsRaise C cn f t P Γ := h _ _ g
theorem go_meth {fs : List (PySem.Str × D)} {ms : List (Addr × FS)} {nm : PySem.Str} {f : FS} {k : KD} (h : Ev t Γ (.ins C fs)) (hno : fs.lookup nm = none) (hm : (C, f) ∈ ms) (hl : EvL tl Γ ds) (hn : ds.length = n) (hf : f (.ins C fs :: ds) k kx) : tpMeth ms nm n t tl Γ k kx := h _ _ (by
  show fs.lookup nm = none ∧ ∃ f, (C, f) ∈ ms ∧ tl Γ (fun ds => ds.length = n ∧ f (.ins C fs :: ds) k kx) kx
  exact ⟨hno, f, hm, hl _ _ ⟨hn, hf⟩⟩)
theorem ev_ownd (h : Ev t Γ (stoD CS al rs)) : Ev (tpFld [CS] "own_deeds" t) Γ (.str al) := ev_fld h List.mem_cons_self rfl
theorem ev_tab (h : Ev t Γ (stoD CS al rs)) : Ev (tpFld [CS] "table" t) Γ (tabD rs) := ev_fld h List.mem_cons_self rfl
theorem ev_many (h : Ev t Γ (stoD CS al rs)) : Ev (tpOp fSub (tp1 fLenS (tpFld [CS] "table" t)) (tpC (.int 1))) Γ (.int ((rs.length : Nat) - 1)) := by
  have := ev_lenL (ev_tab h)
  rw [List.length_map] at this
  exact ev_subI this (ev_c _)
theorem needSt_ok' : fsNeedSt CS CN ds kd kx → m_Store_need_stand CN CS fsWithin ds kd kx := by
  intro h0
  match ds, h0 with
  | [s, d], h0 =>
    obtain ⟨al, rs, ⟨rfl, ht⟩, h1, h2⟩ := h0
    let G : Ga := [.pu (stoD CS al rs), .pu d]
    exact st_if1B (Γ := G) (evb_not (evb_v (ev_within (ev_var (i := 1) rfl) (ev_c _) (ev_many (ev_var (i := 0) rfl)) ht))) (fun e => stx_raise (ev_var (d := d) rfl) (h2 (by simpa using e))) (fun e => h1 (by simpa using e))
theorem ev_needSt {ms : List (Addr × FS)} (h : Ev t Γ (stoD CS al rs)) (g : Ev ta Γ d) (hm : (CS, fsNeedSt CS CN) ∈ ms) (ht : (tyD d).isSome = true) (e : within 0 ((rs.length : Nat) - 1) d = true) : Ev (tpMeth ms "need_stand" 1 t (tlCons ta tlNil)) Γ .non :=
  ev_meth h rfl hm (evl_1 g) rfl fun k kx z => ⟨al, rs, ⟨rfl, ht⟩, fun _ => z, fun q => by rw [e] at q; cases q⟩
theorem evx_needSt {ms : List (Addr × FS)} (h : Ev t Γ (stoD CS al rs)) (g : Ev ta Γ d) (hm : (CS, fsNeedSt CS CN) ∈ ms) (ht : (tyD d).isSome = true) (e : within 0 ((rs.length : Nat) - 1) d = false) : EvX (tpMeth ms "need_stand" 1 t (tlCons ta tlNil)) Γ (inX CN d) :=
  evx_meth h rfl hm (evl_1 g) rfl fun k kx z => ⟨al, rs, ⟨rfl, ht⟩, fun q => (by rw [e] at q; cases q), fun _ => z⟩
theorem needDe_ok' : fsNeedDe CS CE ds kd kx → m_Store_need_deed CE CS ds kd kx := by
  intro h0
  match ds, h0 with
  | [s, d], h0 =>
    obtain ⟨al, rs, ⟨rfl, hg⟩, h1, h2⟩ := h0
    let G : Ga := [.pu (stoD CS al rs), .pu d]
    have bad : ∀ {b : Bool} {cb : TB}, EvB cb G b → b = true → deedB al d = false → tsIf cb (tsRaise CE "InvalidDeed" "given" (tpVar 1)) tsNext (fEnds kd kx) G := fun h e q => by
      rw [e] at h
      exact st_if1T h (stx_raise (ev_var (d := d) rfl) (h2 q))
    have isi : ∀ b, (tyD d).isSome = true → ((match tyD d with | some n => subTy n "str" | none => true) = b) → Ev (tp1 (fIsi "str") (tpVar 1)) G (.bl b) := fun b h e => ev_1 (ev_var rfl) fun k z => by
      unfold fIsi
      cases q : tyD d with
      | none => rw [q] at h; cases h
      | some n =>
        rw [q] at e
        subst e
        exact z
    cases d with
    | str v =>
      have z := hg.2 v rfl
      have big : v.length ≤ sizeLine := Nat.le_trans z (by decide)
      have c1 := isi true rfl rfl
      have c2 : Ev (tpOp fNe (tp1 fLenS (tpVar 1)) (tpC (.int 1))) G (.bl (!decide (((v.length : Nat) : Int) = 1))) := by
        have := ev_lenS (Γ := G) (t := tpVar 1) (l := v) (ev_var rfl) big
        refine ev_op this (ev_c _) fun k z => ⟨⟨rfl, rfl, Nat.zero_le _, Nat.zero_le _⟩, ?_⟩
        have e : eqD (.int (v.length : Nat)) (.int 1) = decide (((v.length : Nat) : Int) = 1) := by
          by_cases q : ((v.length : Nat) : Int) = 1
          · rw [q]; rfl
          · rw [decide_eq_false q]
            exact beq_eq_false_iff_ne.mpr q
        rw [e]
        exact z
      by_cases hl : v.length = 1
      · obtain ⟨c, rfl⟩ := List.length_eq_one_iff.mp hl
        have c3 : Ev (tpOp fNotInS (tpVar 1) (tpFld [CS] "own_deeds" (tpVar 0))) G (.bl (!decide (c ∈ al))) := ev_op (ev_var (d := .str [c]) rfl) (ev_ownd (ev_var rfl)) fun k z => z
        refine st_if1B (Γ := G) (evb_or (evb_not (evb_v c1)) (evb_or (evb_v c2) (evb_v c3))) (fun e => stx_raise (ev_var (d := .str [c]) rfl) (h2 ?_)) (fun e => h1 ?_)
        · show decide (c ∈ al) = false
          simpa using e
        · show decide (c ∈ al) = true
          simpa using e
      · refine bad (evb_orF (cc := tbOr _ _) (by have := evb_not (evb_v c1); exact this) (evb_orT (by have := evb_v c2; rwa [decide_eq_false (by omega)] at this))) rfl ?_
        match v, hl with
        | [], _ => rfl
        | _ :: _ :: _, _ => rfl
        | [_], hl => exact absurd rfl hl
    | non => exact bad (evb_orT (evb_not (evb_v (isi false rfl rfl)))) rfl rfl
    | bl _ => exact bad (evb_orT (evb_not (evb_v (isi false rfl rfl)))) rfl rfl
    | int _ => exact bad (evb_orT (evb_not (evb_v (isi false rfl rfl)))) rfl rfl
    | lst _ => exact bad (evb_orT (evb_not (evb_v (isi false rfl rfl)))) rfl rfl
    | tup _ => exact bad (evb_orT (evb_not (evb_v (isi false rfl rfl)))) rfl rfl
    | dct _ => exact bad (evb_orT (evb_not (evb_v (isi false rfl rfl)))) rfl rfl
    | _ => cases hg.1
theorem ev_needDe {ms : List (Addr × FS)} (h : Ev t Γ (stoD CS al rs)) (g : Ev ta Γ d) (hm : (CS, fsNeedDe CS CE) ∈ ms) (hg : goodL d) (e : deedB al d = true) : Ev (tpMeth ms "need_deed" 1 t (tlCons ta tlNil)) Γ .non :=
  ev_meth h rfl hm (evl_1 g) rfl fun k kx z => ⟨al, rs, ⟨rfl, hg⟩, fun _ => z, fun q => by rw [e] at q; cases q⟩
theorem evx_needDe {ms : List (Addr × FS)} (h : Ev t Γ (stoD CS al rs)) (g : Ev ta Γ d) (hm : (CS, fsNeedDe CS CE) ∈ ms) (hg : goodL d) (e : deedB al d = false) : EvX (tpMeth ms "need_deed" 1 t (tlCons ta tlNil)) Γ (ieX CE d) :=
  evx_meth h rfl hm (evl_1 g) rfl fun k kx z => ⟨al, rs, ⟨rfl, hg⟩, fun q => (by rw [e] at q; cases q), fun _ => z⟩
theorem callX_ok' : fsCallX CS CN CL ds kd kx → m_Store___call__ CS (fsNeedV CL) (fsNeedSt CS CN) ds kd kx := by
  intro h0
  match ds, h0 with
  | [s, d, lg], h0 =>
    obtain ⟨al, rs, ⟨rfl, ht⟩, h⟩ := h0
    let G : Ga := [.pu (stoD CS al rs), .pu d, .pu lg]
    rcases h with ⟨e, h⟩ | ⟨⟨e, hv, hb⟩, h⟩
    · exact stx_drop (Γ := G) (evx_needSt (ev_var rfl) (ev_var rfl) List.mem_cons_self ht e) h
    · refine st_drop (Γ := G) (ev_needSt (ev_var rfl) (ev_var rfl) List.mem_cons_self ht e) ?_
      exact stx_drop (evx_call (evl_2 (ev_var rfl) (ev_ownd (ev_var rfl))) rfl fun k kx z => ⟨hv, fun q => (by rw [hb] at q; cases q), fun _ => z⟩) h
theorem getX_ok' {f : FS} : fsGetX CS CN CE ds kd kx → m_Store___getitem__ CS f (fsNeedSt CS CN) (fsNeedDe CS CE) ds kd kx := by
  intro h0
  match ds, h0 with
  | [s, .tup [d, e]], h0 =>
    obtain ⟨al, rs, ⟨rfl, ht⟩, h⟩ := h0
    let G : Ga := [.pu (stoD CS al rs), .pu (.tup [d, e]), .pu d, .pu e]
    refine st_asg2 (Γ := [.pu (stoD CS al rs), .pu (.tup [d, e]), .un, .un]) (ev_var (i := 1) (d := .tup [d, e]) rfl) ?_
    rcases h with ⟨q, h⟩ | ⟨⟨q, hv, hb⟩, h⟩
    · exact stx_drop (Γ := G) (evx_needSt (ev_var rfl) (ev_var rfl) List.mem_cons_self ht q) h
    · refine st_drop (Γ := G) (ev_needSt (ev_var rfl) (ev_var rfl) List.mem_cons_self ht q) ?_
      exact stx_drop (evx_needDe (ev_var rfl) (ev_var rfl) List.mem_cons_self hv hb) h
theorem chgX_ok' : fsChgX CS CN CE ds kd kx → m_Store_change CS (fsNeedSt CS CN) (fsNeedDe CS CE) ds kd kx := by
  intro h0
  match ds, h0 with
  | [s, d, e, w], h0 =>
    obtain ⟨al, rs, ⟨rfl, ht⟩, h⟩ := h0
    let G : Ga := [.pu (stoD CS al rs), .pu d, .pu e, .pu w]
    rcases h with ⟨q, h⟩ | ⟨⟨q, hv, hb⟩, h⟩ | ⟨⟨q, hv, hb, hw, q2⟩, h⟩
    · exact stx_drop (Γ := G) (evx_needSt (ev_var rfl) (ev_var rfl) List.mem_cons_self ht q) h
    · refine st_drop (Γ := G) (ev_needSt (ev_var rfl) (ev_var rfl) List.mem_cons_self ht q) ?_
      exact stx_drop (evx_needDe (ev_var rfl) (ev_var rfl) List.mem_cons_self hv hb) h
    · refine st_drop (Γ := G) (ev_needSt (ev_var rfl) (ev_var rfl) List.mem_cons_self ht q) ?_
      refine st_drop (ev_needDe (ev_var rfl) (ev_var rfl) List.mem_cons_self hv hb) ?_
      exact stx_drop (evx_needSt (ev_var rfl) (ev_var (d := w) rfl) List.mem_cons_self hw q2) h
theorem setX_ok' : fsSetX CS CN CE ds kd kx → m_Store___setitem__ CS (fsChgX CS CN CE) ds kd kx := by
  intro h0
  match ds, h0 with
  | [s, .tup [d, e], w], h0 =>
    have h0 : fsChgX CS CN CE [s, d, e, w] kd kx := h0
    obtain ⟨al, rs, ⟨rfl, ht⟩, h⟩ := id h0
    refine st_asg2 (Γ := [.pu (stoD CS al rs), .pu (.tup [d, e]), .pu w, .un, .un]) (ev_var (i := 1) (d := .tup [d, e]) rfl) ?_
    let G : Ga := [.pu (stoD CS al rs), .pu (.tup [d, e]), .pu w, .pu d, .pu e]
    have ar : EvL (tlCons (tpVar 3) (tlCons (tpVar 4) (tlCons (tpVar 2) tlNil))) G [d, e, w] := evl_3 (ev_var rfl) (ev_var rfl) (ev_var rfl)
    exact go_meth (Γ := G) (ev_var (i := 0) (d := stoD CS al rs) rfl) rfl List.mem_cons_self ar rfl ⟨al, rs, ⟨rfl, ht⟩, h⟩
theorem reachX_ok' : fsReachX CS CN ds kd kx → m_Store_reached CS (fsNeedSt CS CN) ds kd kx := by
  intro h0
  match ds, h0 with
  | [s, d], h0 =>
    obtain ⟨al, rs, ⟨rfl, ht⟩, e, h⟩ := h0
    let G : Ga := [.pu (stoD CS al rs), .pu d, .un, .un, .un]
    exact stx_drop (Γ := G) (evx_needSt (ev_var rfl) (ev_var rfl) List.mem_cons_self ht e) h
theorem noF_ok' {f : FS} : fsNoF ds kd kx → f ds kd kx := fun h => h.elim
theorem rows_ok' : fsRows CS ds kd kx → m_Store_rows CS ds kd kx := by
  intro h0
  match ds, h0 with
  | [s], h0 =>
    obtain ⟨al, rs, ⟨rfl, hz⟩, h⟩ := h0
    let G : Ga := [.pu (stoD CS al rs), .un]
    have lc := ev_lc (Γ := G) (is := [1]) (i := 1) (te := tp1 fTup (tpVar 1)) (f := fun d => match d with | .lst l => .tup l | d => d) (evl_tiLst (ev_tab (ev_var (i := 0) (d := stoD CS al rs) rfl))) (by rw [List.length_map]; exact hz) (fun x hx => by
      obtain ⟨r, _, rfl⟩ := List.mem_map.mp hx
      exact ev_1 (ev_var (d := .lst (lstI r)) rfl) fun k z => z)
    rw [List.map_map] at lc
    exact st_ret (Γ := G) lc h
theorem idle_ok' {g : FSo} : fsIdle CS CD CC ds kd kx → m_Store_idle CC CS (fsNeedDsX CD) fsWithin g ds kd kx := by
  intro h0
  match ds, h0 with
  | [.cls C, d, m], h0 =>
    obtain ⟨rfl, hg, h⟩ := h0
    let G : Ga := [.pu (.cls C), .pu d, .pu m, .un]
    rcases h with ⟨e, h⟩ | ⟨al, ⟨rfl, ha⟩, ⟨ht, e⟩, h⟩
    · exact stx_drop (Γ := G) (evx_call (evl_1 (ev_var rfl)) rfl fun k kx z => ⟨hg, .inr ⟨e, z⟩⟩) h
    · refine st_drop (Γ := G) (ev_call (evl_1 (ev_var (d := .str al) rfl)) rfl fun k kx z => ⟨hg, .inl ⟨al, rfl, ha, z⟩⟩) ?_
      refine st_ifT (by have := evb_not (evb_v (ev_within (Γ := G) (ev_var (i := 2) (d := m) rfl) (ev_c (.int 1)) (ev_c (.int 120)) ht)); rwa [e] at this) (stx_raise (ev_var (d := m) rfl) h)
end
end PL
set_option Elab.async false
set_option linter.all false
set_option maxRecDepth 100000
set_option maxHeartbeats 4000000
namespace PL
open PySem L2
/-- tables of stands -/
structure Tab (n w : Nat) (rs : List (List Int)) : Prop where
  hn : rs.length = n
  hw : ∀ r ∈ rs, r.length = w
  hb : ∀ r ∈ rs, ∀ x ∈ r, 0 ≤ x ∧ x < (n : Int)
def fsLRows : FS := fun ds k _ => match ds with
  | [.bag, .int m, .int w] => ∃ n v : Nat, (m = (n : Nat) ∧ w = (v : Nat) ∧ 1 ≤ n ∧ n ≤ 120 ∧ v ≤ 100) ∧ ∀ rs, Tab n v rs → k (rowsD rs)
  | _ => False
def fsLaidX (CS CN CE : Addr) : FS := fun ds k _ => fsChgX CS CN CE ds (fun _ => False) fun x => (∃ d, x = inX CN d ∧ k (.tup [.str ISTA, d])) ∨ (∃ d, x = ieX CE d ∧ k (.tup [.str IDEE, d]))
section
variable {ds : List D} {kd : KD} {kx : KX} {C CS CD CI CT CC CN CE CL : Addr} {Γ : Ga} {tl : TL} {i n : Nat} {ta tb t : TP} {d : D} {P : PEn} {s u r : TSp} {al : List Nat} {rs : List (List Int)} {x : XD} {cb : TB} {A B M : D → Prop} {L : List D → Prop} {KK : PySem.W.Frag}
local instance : Tabl := ⟨[], fun p hp => absurd hp (by simp)⟩
theorem evn_lcM {is : List Nat} {ti : TL} {te : TP} (h : EvNL ti Γ L) (hl : ∀ ds, L ds → ds.length ≤ 100000) (hM : ∀ ds, L ds → ∀ x ∈ ds, M x) (he : ∀ x, M x → EvN te (gset (wipeG Γ is) i (.pu x)) B) : EvN (tpLc is ti (tgName i) tbYes te) Γ (fun d => ∃ items ys, L items ∧ ys.length = items.length ∧ (∀ y ∈ ys, B y) ∧ d = .lst ys) := fun k kx z => h _ _ fun ds hs => by
  refine ⟨hl ds hs, ?_⟩
  have go : ∀ (items : List D) {k : List D → Prop}, (∀ x ∈ items, M x) → (∀ ys : List D, ys.length = items.length → (∀ y ∈ ys, B y) → k ys) → lcW (tgName i) tbYes te (wipeG Γ is) items k := by
    intro items
    induction items with
    | nil => exact fun _ h => h [] rfl fun _ z => nomatch z
    | cons x r ih =>
      intro k hm hx
      refine he x (hm x List.mem_cons_self) _ _ fun d hd => ih (fun y hy => hm y (List.mem_cons_of_mem _ hy)) fun ys h1 h2 => hx (d :: ys) (by simp [h1]) fun y hy => ?_
      rcases List.mem_cons.mp hy with rfl | hy
      · exact hd
      · exact h2 y hy
  exact go ds (hM ds hs) fun ys h1 h2 => z _ ⟨ds, ys, hs, h1, h2, rfl⟩
theorem evn_ifB {b : Bool} (h : EvB cb Γ b) (g : b = true → EvN ta Γ A) (f : b = false → EvN tb Γ A) : EvN (tpIf cb ta tb) Γ A := by
  cases b with
  | true => exact evn_ifT h (g rfl)
  | false => exact evn_ifF h (f rfl)
theorem evn_ifN {Bb : Bool → Prop} (h : EvNB cb Γ Bb) (g : EvN ta Γ A) (f : EvN tb Γ A) : EvN (tpIf cb ta tb) Γ A := fun k kx z => h _ _ fun b _ => by
  cases b with
  | true => exact g k kx z
  | false => exact (show (if false = true then ta Γ k kx else tb Γ k kx) from f k kx z)
theorem evnb_v (h : EvN t Γ (fun d => ∃ b : Bool, d = .bl b)) : EvNB (tbV t) Γ fun _ => True := fun k kx z => h _ _ fun d ⟨b, e⟩ => by
  subst e
  exact z b trivial
theorem ints_of {Q : Int → Prop} : ∀ {ys : List D}, (∀ y ∈ ys, ∃ z : Int, Q z ∧ y = .int z) → ∃ c : List Int, ys = lstI c ∧ ∀ z ∈ c, Q z
  | [], _ => ⟨[], rfl, fun _ z => nomatch z⟩
  | y :: ys, h => by
    obtain ⟨z, hz, rfl⟩ := h y List.mem_cons_self
    obtain ⟨c, rfl, hc⟩ := ints_of fun y hy => h y (List.mem_cons_of_mem _ hy)
    exact ⟨z :: c, rfl, fun w hw => (List.mem_cons.mp hw).elim (fun e => e ▸ hz) (hc w)⟩
theorem evl_enumL {l : List D} (h : Ev t Γ (.lst l)) : EvL (tiEnumL t) Γ (pairsD 0 l) := fun k kx z => h _ _ z
theorem st_dropCall {f : FS} (hl : EvL tl Γ ds) (hn : ds.length = n) (hf : f ds (fun _ => u P Γ) (fun x => P.xx x Γ)) : tsSeq (tsDrop (tpCall n f tl)) u P Γ := hl _ _ ⟨hn, hf⟩
theorem st_tryO {fs : List (PySem.Str × D)} {ms : List (Addr × FS)} {f : FS} {l : List PL.CL} {te : TP} {w y : D} (he : Ev te Γ w) (ha : Ev ta Γ (.ins C fs)) (hm : (C, f) ∈ ms) (hb : Ev tb Γ y) (hf : f [.ins C fs, y, w] (fun _ => u P Γ) (fun x => catchW { P with nx := u P } l x Γ)) : tsSeq (tsTry (tsSetO ms ta tb te) l) u P Γ := he _ _ (ha _ _ ⟨f, hm, hb _ _ hf⟩)
theorem st_setF1 {cs : List Addr} {f : PySem.Str} (h : Ev t Γ d) (g : onOI Γ i fun C fs => C ∈ cs ∧ fs.length < 900 ∧ P.nx (oput Γ i (.ins C (putFD f d fs)))) : tsSetF cs i f t P Γ := h _ _ g
abbrev nrBody (CI : Addr) : TSp := (tsSeq (tsIf (tbOr (tbNot (tbV (tp1 (fIsi "tuple") (tpVar 3)))) (tbV (tpOp fNe (tp1 fLenS (tpVar 3)) (tpVar 1))))
    (tsRaise CI "InvalidStore" "index" (tpVar 2))
    tsNext)
    (tsIf (tbNot (tbV (tp1 fAll (tpLc [4] (tiTup (tpVar 3)) (tgName 4) tbYes (tpCall 3 fsWithin (tlCons (tpVar 4) (tlCons (tpC (.int 0)) (tlCons (tpOp fSub (tp1 fLenS (tpVar 0)) (tpC (.int 1))) tlNil))))))))
    (tsRaise CI "InvalidStore" "index" (tpVar 2))
    tsNext))
theorem nr_body {l : List D} {w : Int} {j : Nat} {y : D} {s4 : Sl} (hy : rowOk y) (h1 : rowGood l.length w y = true → P.nx [.pu (.lst l), .pu (.int w), .pu (.int (j : Nat)), .pu y, s4]) (h2 : rowGood l.length w y = false → P.xx (isX2 CI j) [.pu (.lst l), .pu (.int w), .pu (.int (j : Nat)), .pu y, s4]) :
    nrBody CI P [.pu (.lst l), .pu (.int w), .pu (.int (j : Nat)), .pu y, s4] := by
  let G : Ga := [.pu (.lst l), .pu (.int w), .pu (.int (j : Nat)), .pu y, s4]
  have isi : ∀ b, ((match tyD y with | some n => subTy n "tuple" | none => true) = b) → Ev (tp1 (fIsi "tuple") (tpVar 3)) G (.bl b) := fun b e => ev_1 (ev_var (d := y) rfl) fun k z => by
    unfold fIsi
    cases q : tyD y with
    | none => have := hy.1; rw [q] at this; cases this
    | some n =>
      rw [q] at e
      subst e
      exact z
  have no : (match tyD y with | some n => subTy n "tuple" | none => true) = false → rowGood l.length w y = false → nrBody CI P G := fun e q => by
    have := evb_not (evb_v (isi false e))
    exact st_ifT (evb_orT this) (stx_raise (ev_var (i := 2) (d := .int (j : Nat)) rfl) (h2 q))
  cases y with
  | tup r =>
    obtain ⟨hz, hr⟩ := hy.2 r rfl
    have c1 := isi true rfl
    have c2 := ev_neI (Γ := G) (ta := tp1 fLenS (tpVar 3)) (tb := tpVar 1) (ev_lenT (ev_var (d := .tup r) rfl)) (ev_var (d := .int w) rfl)
    refine st_ifNB (Γ := G) (evb_or (evb_not (evb_v c1)) (evb_v c2)) (fun e => stx_raise (ev_var (i := 2) (d := .int (j : Nat)) rfl) (h2 ?_)) (fun e => ?_)
    · have e : ¬ ((r.length : Nat) : Int) = w := by simpa using e
      show (decide (((r.length : Nat) : Int) = w) && _) = false
      rw [decide_eq_false e, Bool.false_and]
    · have e : ((r.length : Nat) : Int) = w := by simpa using e
      have lc := ev_lc (Γ := G) (is := [4]) (i := 4) (te := tpCall 3 fsWithin (tlCons (tpVar 4) (tlCons (tpC (.int 0)) (tlCons (tpOp fSub (tp1 fLenS (tpVar 0)) (tpC (.int 1))) tlNil)))) (f := fun d => .bl (within 0 ((l.length : Nat) - 1) d)) (evl_tiTup (ev_var (i := 3) (d := .tup r) rfl)) (by omega) (fun x hx =>
        ev_within (ev_var (d := x) rfl) (ev_c _) (ev_subI (ev_lenL (ev_var (i := 0) (d := .lst l) rfl)) (ev_c _)) (hr x hx))
      rw [show (r.map fun d => D.bl (within 0 ((l.length : Nat) - 1) d)) = (r.map fun d => within 0 ((l.length : Nat) - 1) d).map .bl by rw [List.map_map]; rfl] at lc
      have al := ev_all lc
      have q : ((r.map fun d => within 0 ((l.length : Nat) - 1) d).all id) = rowGood l.length w (.tup r) := by
        show _ = (decide (((r.length : Nat) : Int) = w) && _)
        rw [decide_eq_true e, Bool.true_and, List.all_map]
        rfl
      rw [q] at al
      exact st_if1B (Γ := G) (evb_not (evb_v al)) (fun e => stx_raise (ev_var (i := 2) (d := .int (j : Nat)) rfl) (h2 (by simpa using e))) (fun e => h1 (by simpa using e))
  | non => exact no rfl rfl
  | bl _ => exact no rfl rfl
  | int _ => exact no rfl rfl
  | str _ => exact no rfl rfl
  | lst _ => exact no rfl rfl
  | dct _ => exact no rfl rfl
  | _ => exact absurd hy.1 (by intro z; cases z)
theorem nr_loop {l : List D} {w : Int} {post : List D} : ∀ (pre : List D) (j : Nat) (s2 s3 s4 : Sl), (∀ y ∈ pre, rowOk y ∧ rowGood l.length w y = true) →
    (∀ s2 s3 s4, forW (tgTup2 2 3) (nrBody CI) P (pairsD (j + pre.length) post) [.pu (.lst l), .pu (.int w), s2, s3, s4]) →
    forW (tgTup2 2 3) (nrBody CI) P (pairsD j (pre ++ post)) [.pu (.lst l), .pu (.int w), s2, s3, s4]
  | [], j, s2, s3, s4, _, g => g s2 s3 s4
  | y :: pre, j, s2, s3, s4, h, g => by
    have ih := nr_loop (l := l) (w := w) (post := post) pre (j + 1) (.pu (.int (j : Nat))) (.pu y) s4 (fun z hz => h z (List.mem_cons_of_mem _ hz)) (fun a b c => by rw [show j + 1 + pre.length = j + (y :: pre).length by rw [List.length_cons]; omega]; exact g a b c)
    obtain ⟨hy, hg⟩ := h y List.mem_cons_self
    refine (nr_body (CI := CI) (l := l) (w := w) (j := j) (y := y) (s4 := s4) hy (fun _ => ih) (fun q => by rw [hg] at q; cases q))
theorem needRows_ok' : fsNeedRows CI CT ds kd kx → m_need_rows CI CT fsWithin ds kd kx := by
  intro h0
  match ds, h0 with
  | [d, .int w], h0 =>
    rcases h0 with ⟨rfl, h⟩ | ⟨l, rfl, h⟩
    · let G : Ga := [.pu .non, .pu (.int w), .un, .un, .un]
      have c : Ev (tp1 (fIsi2 "list" "tuple") (tpVar 0)) G (.bl false) := ev_1 (ev_var (d := .non) rfl) fun k z => z
      exact st_ifT (Γ := G) (evb_orT (evb_not (evb_v c))) (stx_raise (ev_c (.int 0)) h)
    · let G : Ga := [.pu (.lst l), .pu (.int w), .un, .un, .un]
      have c : Ev (tp1 (fIsi2 "list" "tuple") (tpVar 0)) G (.bl true) := ev_1 (ev_var (d := .lst l) rfl) fun k z => z
      have ln := ev_lenL (Γ := G) (t := tpVar 0) (l := l) (ev_var rfl)
      have c2 := ev_eqI ln (ev_c (.int 0))
      have c3 := ev_gtI ln (ev_c (.int 120))
      have nz : l ≠ [] → ((l.length : Nat) : Int) ≠ 0 := fun h e => h (List.length_eq_zero_iff.mp (by omega))
      have skip : l ≠ [] → ∀ {u}, u (fEnds kd kx) G → tsSeq (tsIf (tbOr (tbNot (tbV (tp1 (fIsi2 "list" "tuple") (tpVar 0)))) (tbV (tpOp fEq (tp1 fLenS (tpVar 0)) (tpC (.int 0))))) (tsRaise CI "InvalidStore" "index" (tpC (.int 0))) tsNext) u (fEnds kd kx) G := fun hl u hu => by
        refine st_ifN (Γ := G) (evb_orF (evb_not (evb_v c)) (evb_v ?_)) hu
        rw [decide_eq_false (nz hl)] at c2
        exact c2
      rcases h with ⟨rfl, h⟩ | ⟨⟨h1, h2⟩, h⟩ | ⟨⟨h1, h2, hok⟩, h⟩
      · exact st_ifT (Γ := G) (evb_orF (evb_not (evb_v c)) (evb_v c2)) (stx_raise (ev_c (.int 0)) h)
      · refine skip (fun e => by rw [e] at h1; exact absurd h1 (by decide)) ?_
        rw [decide_eq_true (show (120 : Int) < (l.length : Nat) by omega)] at c3
        exact st_ifT (evb_v c3) (stx_raise (ev_c (.int 120)) h)
      · refine skip (fun e => by rw [e] at h1; exact absurd h1 (by decide)) ?_
        rw [decide_eq_false (show ¬ (120 : Int) < (l.length : Nat) by omega)] at c3
        refine st_ifN (evb_v c3) ?_
        refine st_for1 (Γ := G) (P := fEnds kd kx) (tg := tgTup2 2 3) (s := nrBody CI) (evl_enumL (ev_var (i := 0) (d := .lst l) rfl)) ?_
        rcases h with ⟨hg, h⟩ | ⟨pre, b, post, ⟨e, hp, hb⟩, h⟩
        · have := nr_loop (CI := CI) (P := fEnds kd kx) (l := l) (w := w) (post := []) l 0 .un .un .un (fun y hy => ⟨hok y hy, hg y hy⟩) (fun _ _ _ => h)
          rwa [List.append_nil] at this
        · have := nr_loop (CI := CI) (P := fEnds kd kx) (l := l) (w := w) (post := b :: post) pre 0 .un .un .un (fun y hy => ⟨hok y (by rw [e]; exact List.mem_append_left _ hy), hp y hy⟩) (fun s2 s3 s4 => by
            rw [Nat.zero_add]
            exact nr_body (CI := CI) (l := l) (w := w) (j := pre.length) (y := b) (s4 := s4) (hok b (by rw [e]; exact List.mem_append_right _ List.mem_cons_self)) (fun q => by rw [hb] at q; cases q) (fun _ => h))
          rwa [← e] at this
theorem stoI_ok' {ko : D → D → Prop} : fsStoI CS CD CI CT ds ko kx → m_Store___init__ CS (fsNeedDsX CD) (fsNeedRows CI CT) ds ko kx := by
  intro h0
  match ds, h0 with
  | [.ins C [], d, rows], h0 =>
    obtain ⟨rfl, hg, h⟩ := h0
    intro p
    let G : Ga := [.pw p (.ins C []), .pu d, .pu rows, .un]
    rcases h with ⟨e, h⟩ | ⟨al, ⟨rfl, ha⟩, h⟩
    · exact stx_drop (Γ := G) (evx_call (evl_1 (ev_var rfl)) rfl fun k kx z => ⟨hg, .inr ⟨e, z⟩⟩) h
    · refine st_drop (Γ := G) (ev_call (evl_1 (ev_var (d := .str al) rfl)) rfl fun k kx z => ⟨hg, .inl ⟨al, rfl, ha, z⟩⟩) ?_
      have ar : EvL (tlCons (tpVar 2) (tlCons (tp1 fLenS (tpVar 1)) tlNil)) [.pw p (.ins C []), .pu (.str al), .pu rows, .un] [rows, .int (al.length : Nat)] := evl_2 (ev_var rfl) (ev_lenS (ev_var rfl) (Nat.le_trans ha.2.1 (by decide)))
      refine st_dropCall (Γ := [.pw p (.ins C []), .pu (.str al), .pu rows, .un]) ar rfl ?_
      have go : (∃ rs, rows = rowsD rs ∧ rs.length ≤ 120 ∧ ko .non (stoD C al rs)) → tsSeq (tsSetF [C] 0 "own_deeds" (tpVar 1)) (tsSetF [C] 0 "table" (tpLc [3] (tiSq (tpVar 2)) (tgName 3) tbYes (tp1 fList (tpVar 3)))) (iEnds p ko kx) [.pw p (.ins C []), .pu (.str al), .pu rows, .un] := fun ⟨rs, e, hz, hh⟩ => by
        subst e
        refine ⟨List.mem_cons_self, by show 0 < 900; decide, ?_⟩
        let G1 : Ga := [.pw p (.ins C [("own_deeds", .str al)]), .pu (.str al), .pu (rowsD rs), .un]
        have sq : EvL (tiSq (tpVar 2)) G1 (rs.map fun r => .tup (lstI r)) := fun k kx z => (ev_var (Γ := G1) (i := 2) (d := rowsD rs) rfl) _ _ z
        have lc := ev_lc (Γ := G1) (is := [3]) (i := 3) (te := tp1 fList (tpVar 3)) (f := fun d => match d with | .tup l => .lst l | d => d) sq (by rw [List.length_map]; omega) (fun x hx => by
          obtain ⟨r, _, rfl⟩ := List.mem_map.mp hx
          exact ev_1 (ev_var (d := .tup (lstI r)) rfl) fun k z => z)
        rw [List.map_map] at lc
        refine st_setF1 (Γ := G1) lc ?_
        exact ⟨List.mem_cons_self, by show 1 < 900; decide, rfl, hh⟩
      rcases h with ⟨e, h⟩ | ⟨l, e, h⟩
      · exact .inl ⟨e, h⟩
      · refine .inr ⟨l, e, ?_⟩
        rcases h with h | h | ⟨h1, h⟩
        · exact .inl h
        · exact .inr (.inl h)
        · refine .inr (.inr ⟨h1, ?_⟩)
          rcases h with ⟨hg, h⟩ | h
          · exact .inl ⟨hg, go h⟩
          · exact .inr h
theorem laidX_ok' (XN : ∀ f : PySem.Str, f = "tag" ∨ f = "given" → XFld KK (.ref CN) f) (XE : ∀ f : PySem.Str, f = "tag" ∨ f = "given" → XFld KK (.ref CE) f)
    (eN : PySem.W.exmAny KK (.ref CN) [.ref CN, .ref CE] = some true) (eE : PySem.W.exmAny KK (.ref CE) [.ref CN, .ref CE] = some true) : fsLaidX CS CN CE ds kd kx → m_law_laid KK CE CN CS (fsSetX CS CN CE) ds kd kx := by
  intro h0
  match ds, h0 with
  | [s, d, e, w], h0 =>
    have h0 : fsChgX CS CN CE [s, d, e, w] _ _ := h0
    obtain ⟨al, rs, ⟨rfl, ht⟩, h⟩ := h0
    let G : Ga := [.pu (stoD CS al rs), .pu d, .pu e, .pu w, .un, .un]
    refine st_set (Γ := G) (ev_tup (evl_2 (ev_c (.str [])) (ev_c .non)) (by show 2 ≤ 100000; decide)) ?_
    let G1 : Ga := [.pu (stoD CS al rs), .pu d, .pu e, .pu w, .pu (.tup [.str [], .non]), .un]
    have tu : Ev (tpTup (tlCons (tpVar 1) (tlCons (tpVar 2) tlNil))) G1 (.tup [d, e]) := ev_tup (evl_2 (ev_var rfl) (ev_var rfl)) (by show 2 ≤ 100000; decide)
    refine st_tryO (Γ := G1) (ev_var (i := 3) (d := w) rfl) (ev_var (i := 0) (d := stoD CS al rs) rfl) List.mem_cons_self tu ?_
    refine ⟨al, rs, ⟨rfl, ht⟩, ?_⟩
    have rN : ∀ d, kd (.tup [.str ISTA, d]) → catchW { fEnds kd kx with nx := tsRet (tpVar 4) (fEnds kd kx) } [(fun cls => PySem.W.exmAny KK cls [.ref CN, .ref CE], some 5, fun a cls d => (tsSet 4 (tpTup (tlCons (tpXat KK a cls d 5 "tag") (tlCons (tpXat KK a cls d 5 "given") tlNil)))))] (inX CN d) G1 := fun d z => ⟨true, eN, fun _ a dA => ⟨rfl, rfl, XN "tag" (.inl rfl), rfl, rfl, XN "given" (.inr rfl), by show 2 ≤ 100000; decide, z⟩, fun z => Bool.noConfusion z⟩
    have rE : ∀ d, kd (.tup [.str IDEE, d]) → catchW { fEnds kd kx with nx := tsRet (tpVar 4) (fEnds kd kx) } [(fun cls => PySem.W.exmAny KK cls [.ref CN, .ref CE], some 5, fun a cls d => (tsSet 4 (tpTup (tlCons (tpXat KK a cls d 5 "tag") (tlCons (tpXat KK a cls d 5 "given") tlNil)))))] (ieX CE d) G1 := fun d z => ⟨true, eE, fun _ a dA => ⟨rfl, rfl, XE "tag" (.inl rfl), rfl, rfl, XE "given" (.inr rfl), by show 2 ≤ 100000; decide, z⟩, fun z => Bool.noConfusion z⟩
    have oN : ∀ d, ((∃ d', inX CN d = inX CN d' ∧ kd (.tup [.str ISTA, d'])) ∨ (∃ d', inX CN d = ieX CE d' ∧ kd (.tup [.str IDEE, d']))) → kd (.tup [.str ISTA, d]) := fun d h => by
      rcases h with ⟨d', e, h⟩ | ⟨d', e, h⟩
      · simp only [inX, XD.mk.injEq, List.cons.injEq, Prod.mk.injEq] at e
        rw [e.2.1.2]; exact h
      · simp [inX, ieX] at e
    have oE : ∀ d, ((∃ d', ieX CE d = inX CN d' ∧ kd (.tup [.str ISTA, d'])) ∨ (∃ d', ieX CE d = ieX CE d' ∧ kd (.tup [.str IDEE, d']))) → kd (.tup [.str IDEE, d]) := fun d h => by
      rcases h with ⟨d', e, h⟩ | ⟨d', e, h⟩
      · simp [inX, ieX] at e
      · simp only [ieX, XD.mk.injEq, List.cons.injEq, Prod.mk.injEq] at e
        rw [e.2.1.2]; exact h
    rcases h with ⟨e, h⟩ | ⟨e, h⟩ | ⟨e, h⟩
    · exact .inl ⟨e, rN _ (oN _ h)⟩
    · exact .inr (.inl ⟨e, rE _ (oE _ h)⟩)
    · exact .inr (.inr ⟨e, rN _ (oN _ h)⟩)
end
end PL
set_option Elab.async false
set_option linter.all false
set_option maxRecDepth 100000
set_option maxHeartbeats 4000000
namespace PL
open PySem L2
def Col (n : Nat) (c : List Int) : Prop := c.length = n ∧ ∀ x ∈ c, 0 ≤ x ∧ x < (n : Int)
abbrev colD (c : List Int) : D := .lst (lstI c)
abbrev lrIf : TSp := (tsIf (tbV (tpOp fEq (tpVar 5) (tpC (.int 0))))
    (tsSet 6 (tpOp fMul (tpLst (tlCons (tpOp fIx (tpVar 6) (tpC (.int 0))) tlNil)) (tpVar 1)))
    (tsIf (tbV (tpOp fEq (tpVar 5) (tpC (.int 1))))
    (tsSet 6 (tpLc [7] (tiRng1 (tlCons (tpVar 1) tlNil)) (tgName 7) tbYes (tpIf (tbV (tpOp (fInI false) (tpVar 7) (tpSl (tpVar 6) toNo (toSome (tpOp fAdd (tpC (.int 1)) (tpOp fFdiv (tpVar 1) (tpC (.int 2)))))))) (tpVar 7) (tpOp fIx (tpVar 6) (tpC (.int 0))))))
    (tsIf (tbV (tpOp fEq (tpVar 5) (tpC (.int 2))))
    (tsSet 6 (tpLc [7] (tiRng1 (tlCons (tpVar 1) tlNil)) (tgName 7) tbYes (tpIf (tbV (tpOp fEq (tpCall 2 fsPull (tlCons (tpVar 0) (tlCons (tpC (.int 2)) tlNil))) (tpC (.int 0)))) (tpVar 7) (tpOp fIx (tpVar 6) (tpVar 7)))))
    tsNext)))
abbrev lrBody : TSp := (tsSeq (tsSet 5 (tpCall 2 fsPull (tlCons (tpVar 0) (tlCons (tpC (.int 4)) tlNil))))
    (tsSeq (tsSet 6 (tpLc [7] (tiRng1 (tlCons (tpVar 1) tlNil)) (tgName 7) tbYes (tpCall 2 fsPull (tlCons (tpVar 0) (tlCons (tpVar 1) tlNil)))))
    (tsSeq lrIf
    (tsApp 3 (tpVar 6)))))
section
variable {ds : List D} {kd : KD} {kx : KX} {Γ : Ga} {t ta tb : TP} {d : D} {P : PEn} {s u r : TSp} {n : Nat} {c : List Int}
local instance : Tabl := ⟨[], fun p hp => absurd hp (by simp)⟩
theorem st_frzL {i : Nat} (h : gat Γ i = .ow (.lst ds)) (g : s P (gset Γ i (.pu (.lst ds)))) : tsFrz i s P Γ := by
  unfold tsFrz
  rw [h]
  exact g
theorem rep1 (x : Int) : ∀ n, (List.replicate n [D.int x]).flatten = lstI (List.replicate n x)
  | 0 => rfl
  | n + 1 => by
    rw [List.replicate_succ, List.replicate_succ, List.flatten_cons, rep1 x n]
    rfl
theorem lst_get {i : Nat} (h : i < c.length) : atI (lstI c) (i : Nat) = some (.int c[i]) := by
  have h2 : i < (lstI c).length := by rw [List.length_map]; exact h
  rw [at_nat _ _ h2, List.getElem_map]
theorem ev_ixC {i : Nat} (h : Ev ta Γ (colD c)) (g : Ev tb Γ (.int (i : Nat))) (hi : i < c.length) : Ev (tpOp fIx ta tb) Γ (.int c[i]) := ev_ixL h g (lst_get hi)
theorem rng_mem : ∀ x ∈ ((List.range n).map fun i => D.int (i : Nat)), ∃ i : Nat, i < n ∧ x = .int (i : Nat) := fun x hx => by
  obtain ⟨i, hi, rfl⟩ := List.mem_map.mp hx
  exact ⟨i, List.mem_range.mp hi, rfl⟩
theorem rng_len : ((List.range n).map fun i => D.int (i : Nat)).length = n := by rw [List.length_map, List.length_range]
def inC (n : Nat) (d : D) : Prop := ∃ z : Int, (0 ≤ z ∧ z < (n : Int)) ∧ d = .int z
theorem Col.at_ {n : Nat} {c : List Int} (h : Col n c) {i : Nat} (hi : i < c.length) : inC n (.int c[i]) := ⟨_, h.2 _ (List.getElem_mem hi), rfl⟩
theorem col_of {items ys : List D} (hi : items = (List.range n).map fun i => D.int (i : Nat)) (hl : ys.length = items.length) (h : ∀ y ∈ ys, inC n y) : ∃ c, Col n c ∧ D.lst ys = colD c := by
  obtain ⟨c, rfl, hc⟩ := ints_of h
  refine ⟨c, ⟨?_, hc⟩, rfl⟩
  rw [hi, rng_len, List.length_map] at hl
  exact hl
theorem lr_if {sw s3 s4 s7 : Sl} {way : Int} (hc : Col n c) (n1 : 1 ≤ n) (n2 : n ≤ 120) (hk : ∀ c' s7, Col n c' → P.nx [.pu .bag, .pu (.int (n : Nat)), sw, s3, s4, .pu (.int way), .pu (colD c'), s7]) :
    lrIf P [.pu .bag, .pu (.int (n : Nat)), sw, s3, s4, .pu (.int way), .pu (colD c), s7] := by
  let G : Ga := [.pu .bag, .pu (.int (n : Nat)), sw, s3, s4, .pu (.int way), .pu (colD c), s7]
  have lc := hc.1
  have eq : ∀ z : Int, Ev (tpOp fEq (tpVar 5) (tpC (.int z))) G (.bl (decide (way = z))) := fun z => ev_eqI (ev_var rfl) (ev_c _)
  have rg : EvL (tiRng1 (tlCons (tpVar 1) tlNil)) G ((List.range n).map fun i => D.int (i : Nat)) := evl_rng1 (ev_var rfl) (by omega)
  have c0 : ∀ {G : Ga}, gat G 6 = .pu (colD c) → Ev (tpOp fIx (tpVar 6) (tpC (.int 0))) G (.int c[0]) := fun e => ev_ixC (i := 0) (ev_var e) (ev_c _) (by omega)
  refine st_if1B (Γ := G) (evb_v (eq 0)) (fun _ => ?_) (fun _ => st_if1B (Γ := G) (evb_v (eq 1)) (fun _ => ?_) (fun _ => st_if1B (Γ := G) (evb_v (eq 2)) (fun _ => ?_) (fun _ => hk c s7 hc)))
  · have m := ev_mulL (Γ := G) (ev_lst (evl_1 (c0 rfl)) (by show 1 ≤ 100000; decide)) (ev_var (i := 1) (d := .int (n : Nat)) rfl) (by omega) (by omega) (by
      show 1 * ((n : Nat) : Int).toNat ≤ sizeLine
      have : 200 ≤ sizeLine := by decide
      omega)
    have e : (List.replicate ((n : Nat) : Int).toNat [D.int c[0]]).flatten = lstI (List.replicate n c[0]) := by rw [Int.toNat_natCast, rep1]
    rw [e] at m
    refine st_set1 m (hk _ _ ⟨List.length_replicate, fun x hx => ?_⟩)
    rw [(List.mem_replicate.mp hx).2]
    exact hc.2 _ (List.getElem_mem _)
  · refine st_set1N (evn_lcM (Γ := G) (M := fun x => ∃ i : Nat, i < n ∧ x = .int (i : Nat)) (B := inC n) (evnl rg) (fun ds e => by rw [e, rng_len]; omega) (fun ds e => by rw [e]; exact rng_mem) ?_) fun d hd => ?_
    · rintro x ⟨i, hi, rfl⟩
      have sl : Ev (tpSl (tpVar 6) toNo (toSome (tpOp fAdd (tpC (.int 1)) (tpOp fFdiv (tpVar 1) (tpC (.int 2)))))) (gset (wipeG G [7]) 7 (.pu (.int (i : Nat)))) (.lst (lstI (c.take (1 + n / 2)))) := by
        have hh : Ev (tpOp fAdd (tpC (.int 1)) (tpOp fFdiv (tpVar 1) (tpC (.int 2)))) (gset (wipeG G [7]) 7 (.pu (.int (i : Nat)))) (.int ((1 + n / 2 : Nat) : Int)) := by
          have := ev_addI (Γ := gset (wipeG G [7]) 7 (.pu (.int (i : Nat)))) (ev_c (.int 1)) (ev_op (f := fFdiv) (d := .int ((n : Nat) / 2)) (ev_var (i := 1) (d := .int (n : Nat)) rfl) (ev_c (.int 2)) fun k z => ⟨⟨by decide, by decide⟩, z⟩)
          rwa [show (1 : Int) + ((n : Nat) : Int) / 2 = ((1 + n / 2 : Nat) : Int) by omega] at this
        have := ev_slL (lo := none) (hi := some ((1 + n / 2 : Nat) : Int)) (tlo := toNo) (thi := toSome (tpOp fAdd (tpC (.int 1)) (tpOp fFdiv (tpVar 1) (tpC (.int 2))))) (ev_var (Γ := gset (wipeG G [7]) 7 (.pu (.int (i : Nat)))) (i := 6) (d := colD c) rfl) (fun k kx z => z) (fun k kx z => hh _ _ z)
        rwa [cut_take, ← List.map_take] at this
      refine evn_ifB (b := (c.take (1 + n / 2)).contains (i : Int)) (evb_v (ev_op (ev_var (d := .int (i : Nat)) rfl) sl fun k z => ⟨_, rfl, z⟩)) (fun _ => evn_imp (evn (ev_var (d := .int (i : Nat)) rfl)) fun d e => ⟨i, by omega, e⟩) (fun _ => evn_imp (evn (c0 rfl)) fun d e => by rw [e]; exact hc.at_ _)
    · obtain ⟨items, ys, e, hl, hy, rfl⟩ := hd
      obtain ⟨c', h', e'⟩ := col_of e hl hy
      rw [e']
      exact hk _ _ h'
  · refine st_set1N (evn_lcM (Γ := G) (M := fun x => ∃ i : Nat, i < n ∧ x = .int (i : Nat)) (B := inC n) (evnl rg) (fun ds e => by rw [e, rng_len]; omega) (fun ds e => by rw [e]; exact rng_mem) ?_) fun d hd => ?_
    · rintro x ⟨i, hi, rfl⟩
      refine evn_ifN (Bb := fun _ => True) (evnb_v (evn_op (evn_pull (m := 2) (ev_var (d := .bag) rfl) (ev_c _) (by decide) (by decide)) (evn (ev_c (.int 0))) fun x y hx hy k hk => ?_)) (evn_imp (evn (ev_var (d := .int (i : Nat)) rfl)) fun d e => ⟨i, by omega, e⟩) (evn_imp (evn (ev_ixC (i := i) (ev_var (d := colD c) rfl) (ev_var rfl) (by omega))) fun d e => by rw [e]; exact hc.at_ _)
      obtain ⟨r, _, _, rfl⟩ := hx
      subst hy
      exact ⟨⟨rfl, rfl, Nat.zero_le _, Nat.zero_le _⟩, hk _ ⟨_, rfl⟩⟩
    · obtain ⟨items, ys, e, hl, hy, rfl⟩ := hd
      obtain ⟨c', h', e'⟩ := col_of e hl hy
      rw [e']
      exact hk _ _ h'
theorem lr_loop (n1 : 1 ≤ n) (n2 : n ≤ 120) {sw : Sl} : ∀ (ks : List D) (cols : List (List Int)) (s4 s5 s6 s7 : Sl), (∀ c ∈ cols, Col n c) → cols.length + ks.length ≤ 100 →
    (∀ (cols' : List (List Int)) (s4 s5 s6 s7 : Sl), (∀ c ∈ cols', Col n c) → cols'.length = cols.length + ks.length → P.nx [.pu .bag, .pu (.int (n : Nat)), sw, .ow (.lst (cols'.map colD)), s4, s5, s6, s7]) →
    forW (tgName 4) lrBody P ks [.pu .bag, .pu (.int (n : Nat)), sw, .ow (.lst (cols.map colD)), s4, s5, s6, s7]
  | [], cols, s4, s5, s6, s7, h, _, g => g cols s4 s5 s6 s7 h rfl
  | k0 :: ks, cols, s4, s5, s6, s7, h, hz, g => by
    rw [List.length_cons] at hz
    refine for_cons (i := 4) ?_
    let G : Ga := [.pu .bag, .pu (.int (n : Nat)), sw, .ow (.lst (cols.map colD)), .pu k0, s5, s6, s7]
    refine st_setN (Γ := G) (evn_pull (m := 4) (ev_var (d := .bag) rfl) (ev_c _) (by decide) (by decide)) fun d ⟨way, _, _, e⟩ => ?_
    subst e
    let G1 : Ga := [.pu .bag, .pu (.int (n : Nat)), sw, .ow (.lst (cols.map colD)), .pu k0, .pu (.int way), s6, s7]
    have rg : EvL (tiRng1 (tlCons (tpVar 1) tlNil)) G1 ((List.range n).map fun i => D.int (i : Nat)) := evl_rng1 (ev_var rfl) (by omega)
    refine st_setN (Γ := G1) (evn_lcM (Γ := G1) (M := fun _ => True) (B := inC n) (evnl rg) (fun ds e => by rw [e, rng_len]; omega) (fun ds e x _ => trivial) fun x _ => evn_imp (evn_pull (m := (n : Nat)) (ev_var (d := .bag) rfl) (ev_var rfl) (by omega) (by omega)) fun d ⟨r, r0, r1, e⟩ => ⟨r, ⟨r0, r1⟩, e⟩) fun d hd => ?_
    obtain ⟨items, ys, e, hl, hy, rfl⟩ := hd
    obtain ⟨c, hc, e'⟩ := col_of e hl hy
    rw [e']
    refine lr_if (P := { nx := tsApp 3 (tpVar 6) _, bk := _, ct := _, rt := _, xx := _ }) (n := n) (c := c) hc n1 n2 fun c' s7' hc' => ?_
    refine ⟨by rw [List.length_map]; omega, ?_⟩
    have ih := lr_loop n1 n2 (sw := sw) ks (cols ++ [c']) (.pu k0) (.pu (.int way)) (.pu (colD c')) s7' (fun x hx => by
      rcases List.mem_append.mp hx with hx | hx
      · exact h x hx
      · rw [List.mem_singleton.mp hx]; exact hc') (by rw [List.length_append]; show cols.length + 1 + ks.length ≤ 100; omega) (fun cols' a b c d hc hl => g cols' a b c d hc (by rw [hl]; simp only [List.length_append, List.length_cons, List.length_nil]; omega))
    rw [List.map_append] at ih
    exact ih
theorem rows_law_ok' : fsLRows ds kd kx → m_law_rows fsPull ds kd kx := by
  intro h0
  match ds, h0 with
  | [.bag, .int m, .int w], h0 =>
    obtain ⟨n, v, ⟨rfl, rfl, n1, n2, v2⟩, h⟩ := h0
    let G : Ga := [.pu .bag, .pu (.int (n : Nat)), .pu (.int (v : Nat)), .un, .un, .un, .un, .un]
    refine st_own (Γ := G) (ev_lst evl_nil (Nat.zero_le _)) ?_
    let G1 : Ga := [.pu .bag, .pu (.int (n : Nat)), .pu (.int (v : Nat)), .ow (.lst []), .un, .un, .un, .un]
    refine st_for (Γ := G1) (evl_rng1 (z := v) (ev_var rfl) (by omega)) ?_
    refine lr_loop n1 n2 (sw := .pu (.int (v : Nat))) ((List.range v).map fun i => .int (i : Nat)) [] .un .un .un .un (fun _ z => nomatch z) (by rw [rng_len]; show 0 + v ≤ 100; omega) fun cols s4 s5 s6 s7 hc hl => ?_
    rw [rng_len] at hl
    have hl : cols.length = v := by rw [hl]; exact Nat.zero_add _
    let G2 : Ga := [.pu .bag, .pu (.int (n : Nat)), .pu (.int (v : Nat)), .pu (.lst (cols.map colD)), s4, s5, s6, s7]
    have rg : EvL (tiRng1 (tlCons (tpVar 1) tlNil)) G2 ((List.range n).map fun i => D.int (i : Nat)) := evl_rng1 (ev_var rfl) (by omega)
    have lc := ev_lc (Γ := G2) (is := [7]) (i := 7) (te := tp1 fTup (tpLc [6] (tiLst (tpVar 3)) (tgName 6) tbYes (tpOp fIx (tpVar 6) (tpVar 7)))) (f := fun d => match d with | .int i => .tup (lstI (cols.map fun c => c.getD i.toNat 0)) | d => d) rg (by rw [rng_len]; omega) (fun x hx => by
      obtain ⟨i, hi, rfl⟩ := rng_mem x hx
      let G3 : Ga := gset (wipeG G2 [7]) 7 (.pu (.int (i : Nat)))
      have l2 := ev_lc (Γ := G3) (is := [6]) (i := 6) (te := tpOp fIx (tpVar 6) (tpVar 7)) (f := fun d => match d with | .lst l => l.getD i (.int 0) | d => d) (evl_tiLst (ev_var (i := 3) (d := .lst (cols.map colD)) rfl)) (by rw [List.length_map]; omega) (fun y hy => by
        obtain ⟨c, hcm, rfl⟩ := List.mem_map.mp hy
        have h1 : i < c.length := by rw [(hc c hcm).1]; exact hi
        have := ev_ixC (Γ := gset (wipeG G3 [6]) 6 (.pu (colD c))) (ta := tpVar 6) (tb := tpVar 7) (c := c) (i := i) (ev_var rfl) (ev_var rfl) h1
        show Ev _ _ ((lstI c).getD i (.int 0))
        rw [List.getD_eq_getElem?_getD, List.getElem?_map, List.getElem?_eq_getElem h1]
        exact this)
      refine ev_1 l2 fun k z => ?_
      show k (.tup _)
      have e : ((cols.map colD).map fun d => match d with | .lst l => l.getD i (.int 0) | d => d) = lstI (cols.map fun c => c.getD ((i : Nat) : Int).toNat 0) := by
        rw [List.map_map]
        show _ = List.map D.int (List.map _ cols)
        rw [List.map_map]
        refine List.map_congr_left fun c hcm => ?_
        have h1 : i < c.length := by rw [(hc c hcm).1]; exact hi
        show (lstI c).getD i (.int 0) = .int (c.getD ((i : Nat) : Int).toNat 0)
        rw [Int.toNat_natCast, List.getD_eq_getElem?_getD, List.getElem?_map, List.getD_eq_getElem?_getD, List.getElem?_eq_getElem h1]
        rfl
      rw [e]
      exact z)
    rw [List.map_map] at lc
    dsimp only
    refine st_frzL (Γ := [.pu .bag, .pu (.int (n : Nat)), .pu (.int (v : Nat)), .ow (.lst (cols.map colD)), s4, s5, s6, s7]) (i := 3) (ds := cols.map colD) rfl ?_
    refine st_ret (Γ := G2) lc ?_
    have := h ((List.range n).map fun i => cols.map fun c => c.getD i 0) ⟨by rw [List.length_map, List.length_range], fun r hr => ?_, fun r hr x hx => ?_⟩
    · unfold rowsD at this
      rw [List.map_map] at this
      exact this
    · obtain ⟨i, hi, rfl⟩ := List.mem_map.mp hr
      rw [List.length_map, hl]
    · obtain ⟨i, hi, rfl⟩ := List.mem_map.mp hr
      obtain ⟨c, hcm, rfl⟩ := List.mem_map.mp hx
      have hi := List.mem_range.mp hi
      have h1 : i < c.length := by rw [(hc c hcm).1]; exact hi
      rw [List.getD_eq_getElem?_getD, List.getElem?_eq_getElem h1]
      exact (hc c hcm).2 _ (List.getElem_mem h1)
end
end PL
set_option Elab.async false
set_option linter.all false
set_option maxRecDepth 100000
set_option maxHeartbeats 4000000
namespace PL
open PySem L2
def fsRefused (CS : Addr) : FS := fun ds k _ => match ds with
  | [.bag, .str al, s, .int m] => ∃ rs, (s = stoD CS al rs ∧ okA al ∧ m = (rs.length : Nat) ∧ 1 ≤ rs.length ∧ rs.length ≤ 120) ∧ k (.bl true)
  | _ => False
/-- an error of the first clause of _law_ask -/
structure Giv (KK : PySem.W.Frag) (C2 C3 C4 C7 C8 C9 CX : Addr) : Prop where
  xf : ∀ f : PySem.Str, f = "tag" ∨ f = "given" → XFld KK (.ref CX) f
  he : PySem.W.exmAny KK (.ref CX) [.ref C2, .ref C3, .ref C4, .ref C7, .ref C8, .ref C9] = some true
def strOk (d : D) : Prop := ∀ k : KD, (∀ s : List Nat, s.length ≤ 40 → k (.str s)) → fStrAny d k
section
variable {ds : List D} {kd : KD} {kx : KX} {CS : Addr} {Γ : Ga} {tl : TL} {t ta tb tf : TP} {d e y : D} {P : PEn} {s u r : TSp} {i n : Nat} {al : List Nat} {rs : List (List Int)} {x : XD} {KK : PySem.W.Frag} {C0 C1 C2 C3 C4 C5 C6 C7 C8 C9 C10 C11 C : Addr} {fs : List (PySem.Str × D)} {ms : List (Addr × FS)} {f : FS}
local instance : Tabl := ⟨[], fun p hp => absurd hp (by simp)⟩
theorem evx_callI (h : Ev tf Γ (.ins C fs)) (hm : (C, f) ∈ ms) (hl : EvL tl Γ ds) (hn : ds.length = n) (hf : ∀ (k : KD) (kx : KX), kx x → f (.ins C fs :: ds) k kx) : EvX (tpCallI ms n tf tl) Γ x := fun k kx z => h _ _ ⟨f, hm, hl _ _ ⟨hn, hf k kx z⟩⟩
theorem evx_getO (h : Ev ta Γ (.ins C fs)) (hm : (C, f) ∈ ms) (g : Ev tb Γ y) (hf : ∀ (k : KD) (kx : KX), kx x → f [.ins C fs, y] k kx) : EvX (tpGetO ms ta tb) Γ x := fun k kx z => h _ _ ⟨f, hm, g _ _ (hf k kx z)⟩
theorem evx_cmeth (h : Ev t Γ (.cls C)) (hl : EvL tl Γ ds) (hn : ds.length = n) (hf : ∀ (k : KD) (kx : KX), kx x → f (.cls C :: ds) k kx) : EvX (tpCMeth C f n t tl) Γ x := fun k kx z => h _ _ ⟨rfl, hl _ _ ⟨hn, hf k kx z⟩⟩
theorem ev_lcF2 {is : List Nat} {ti : TL} {tt : TB} {te : TP} {α : Type} {items : List α} {pa : α → D} {p : α → Bool} {f : α → D} (h : EvL ti Γ (items.map pa)) (hl : items.length ≤ 100000) (ht : ∀ x ∈ items, EvB tt (gset (wipeG Γ is) i (.pu (pa x))) (p x)) (he : ∀ x ∈ items, Ev te (gset (wipeG Γ is) i (.pu (pa x))) (f x)) : Ev (tpLc is ti (tgName i) tt te) Γ (.lst ((items.filter p).map f)) := fun k kx z => h _ _ (by
  refine ⟨by rw [List.length_map]; exact hl, ?_⟩
  have go : ∀ (items : List α) {k : List D → Prop}, (∀ x ∈ items, EvB tt (gset (wipeG Γ is) i (.pu (pa x))) (p x)) → (∀ x ∈ items, Ev te (gset (wipeG Γ is) i (.pu (pa x))) (f x)) → k ((items.filter p).map f) → lcW (tgName i) tt te (wipeG Γ is) (items.map pa) k := fun items => by
    induction items with
    | nil => exact fun _ _ h => h
    | cons x r ih =>
      intro k ht he h
      refine ht x List.mem_cons_self _ _ ?_
      cases q : p x with
      | true =>
        rw [List.filter_cons, if_pos q] at h
        exact he x List.mem_cons_self _ _ (ih (fun y hy => ht y (List.mem_cons_of_mem _ hy)) (fun y hy => he y (List.mem_cons_of_mem _ hy)) h)
      | false =>
        rw [List.filter_cons, if_neg (by rw [q]; exact Bool.false_ne_true)] at h
        exact ih (fun y hy => ht y (List.mem_cons_of_mem _ hy)) (fun y hy => he y (List.mem_cons_of_mem _ hy)) h
  exact go items ht he z)
theorem giv_ask (g : Giv KK C2 C3 C4 C7 C8 C9 C) {T : List Nat} (h : EvX t (purify Γ) ⟨.ref C, [(("given" : PySem.Str), d), (("tag" : PySem.Str), .str T)]⟩) : Ev (tpLam 2 (askF KK C0 C1 C2 C3 C4 C5 C6 C7 C8 C9 C10 C11) t) Γ (.tup [.str T, d]) := ask_given g.xf g.he h
theorem sameV {a b : D} (h : Ev ta Γ a) (g : Ev tb Γ b) (e : a = b) (ho : okS 8 a) : Ev (tpCall 2 (fsSame 9) (tlCons ta (tlCons tb tlNil))) Γ (.bl true) := ev_call (evl_2 h g) rfl fun k kx z => ⟨e, ho, z⟩
theorem ev_pow30 : Ev (tpOp fPow (tpC (.int 10)) (tpC (.int 30))) Γ (.int (10 ^ 30)) := ev_op (ev_c _) (ev_c _) fun k z => ⟨⟨by decide, by decide, by decide⟩, z⟩
def stands (n : Nat) : List D := [.int (n : Nat), .int (0 - 1), .non, .bl true, .str [48], .int (10 ^ 30), .lst [.int 0]]
theorem stands_bad (h2 : n ≤ 120) {d : D} (h : d ∈ stands n) : (tyD d).isSome = true ∧ within 0 ((n : Nat) - 1) d = false ∧ okS 6 d := by
  simp only [stands, List.mem_cons, List.not_mem_nil, or_false] at h
  rcases h with rfl | rfl | rfl | rfl | rfl | rfl | rfl
  · refine ⟨rfl, ?_, trivial⟩
    show (decide ((0 : Int) ≤ (n : Nat)) && decide (((n : Nat) : Int) ≤ (n : Nat) - 1)) = false
    rw [decide_eq_false (show ¬ ((n : Nat) : Int) ≤ (n : Nat) - 1 by omega), Bool.and_false]
  · exact ⟨rfl, rfl, trivial⟩
  · exact ⟨rfl, rfl, trivial⟩
  · exact ⟨rfl, rfl, trivial⟩
  · exact ⟨rfl, rfl, by decide, rfl⟩
  · refine ⟨rfl, ?_, trivial⟩
    show (decide ((0 : Int) ≤ 10 ^ 30) && decide ((10 ^ 30 : Int) ≤ (n : Nat) - 1)) = false
    rw [decide_eq_false (show ¬ (10 ^ 30 : Int) ≤ (n : Nat) - 1 by omega), Bool.and_false]
  · exact ⟨rfl, rfl, by show 1 ≤ 100000; decide, trivial, trivial⟩
def foreign (al : List Nat) : List D := (LET.filter fun c => !decide (c ∈ al)).map fun c => .str [c]
def baddes (al : List Nat) : List D := [.str [], .str [65], .str (al ++ [97]), .non, .int 0, .lst [.str [97]], .str (List.replicate 2 (al.take 1)).flatten] ++ foreign al
theorem okS_str {v : List Nat} (hl : v.length ≤ 100000) (hp : ∀ c ∈ v, c < 1114112) : okS 6 (.str v) := ⟨hl, List.all_eq_true.mpr fun c hc => decide_eq_true (hp c hc)⟩
theorem goodL_str {v : List Nat} (hl : v.length ≤ 3000) : goodL (.str v) := ⟨rfl, fun s e => by cases e; exact hl⟩
theorem strOk_str {v : List Nat} (hl : v.length ≤ 40) : strOk (.str v) := fun k h => h v hl
theorem let_lo {v : List Nat} (h : ∀ c ∈ v, c ∈ LET) : ∀ c ∈ v, c < 1114112 := fun c hc => (show ∀ c ∈ LET, c < 1114112 by decide) c (h c hc)
theorem baddes_bad (ha : okA al) {d : D} (h : d ∈ baddes al) : goodL d ∧ deedB al d = false ∧ okS 6 d ∧ strOk d := by
  obtain ⟨a1, a2, a3, a4⟩ := ha
  rcases List.mem_append.mp h with h | h
  · simp only [List.mem_cons, List.not_mem_nil, or_false] at h
    have lo := let_lo a4
    rcases h with rfl | rfl | rfl | rfl | rfl | rfl | rfl
    · exact ⟨goodL_str (Nat.zero_le _), rfl, okS_str (Nat.zero_le _) (fun _ z => nomatch z), strOk_str (Nat.zero_le _)⟩
    · exact ⟨goodL_str (by decide), decide_eq_false fun z => absurd (a4 _ z) (by decide), okS_str (by decide) (by decide), strOk_str (by decide)⟩
    · have l : (al ++ [97]).length = al.length + 1 := by rw [List.length_append]; rfl
      refine ⟨goodL_str (by omega), ?_, okS_str (by omega) (fun c hc => (List.mem_append.mp hc).elim (lo c) fun z => by rw [List.mem_singleton.mp z]; decide), strOk_str (by omega)⟩
      match al, a1 with
      | a :: r, _ =>
        cases r with
        | nil => rfl
        | cons _ _ => rfl
    · exact ⟨⟨rfl, fun _ z => by cases z⟩, rfl, trivial, fun k h => h _ (by decide)⟩
    · exact ⟨⟨rfl, fun _ z => by cases z⟩, rfl, trivial, fun k h => ⟨by decide, h _ (by decide +kernel)⟩⟩
    · exact ⟨⟨rfl, fun _ z => by cases z⟩, rfl, ⟨by show 1 ≤ 100000; decide, ⟨by decide, rfl⟩, trivial⟩, fun k h => ⟨by decide, by decide, fun s hs => h s (Nat.le_trans hs (by decide))⟩⟩
    · match al, a1 with
      | a :: r, _ =>
        refine ⟨goodL_str (by show 2 ≤ 3000; decide), rfl, okS_str (by show 2 ≤ 100000; decide) ?_, strOk_str (by show 2 ≤ 40; decide)⟩
        intro c hc
        have : c = a := by
          have hc : c ∈ [a, a] := hc
          simpa using hc
        rw [this]
        exact lo a List.mem_cons_self
  · obtain ⟨c, hc, rfl⟩ := List.mem_map.mp h
    have := List.mem_filter.mp hc
    exact ⟨goodL_str (by show 1 ≤ 3000; decide), by simpa [deedB] using this.2, okS_str (by show 1 ≤ 100000; decide) (fun d hd => by rw [List.mem_singleton.mp hd]; exact (show ∀ c ∈ LET, c < 1114112 by decide) c this.1), strOk_str (by show 1 ≤ 40; decide)⟩
def badlogs (al : List Nat) : List D := [.str (al ++ [65]), .non, .lst [.str al], .int 3]
theorem badlogs_bad (ha : okA al) {d : D} (h : d ∈ badlogs al) : okV2 d ∧ goodV al d = false ∧ okS 6 d := by
  obtain ⟨a1, a2, a3, a4⟩ := ha
  have lo := let_lo a4
  simp only [badlogs, List.mem_cons, List.not_mem_nil, or_false] at h
  rcases h with rfl | rfl | rfl | rfl
  · have l : (al ++ [65]).length = al.length + 1 := by rw [List.length_append]; rfl
    refine ⟨⟨rfl, fun v e => by cases e; omega⟩, ?_, okS_str (by omega) (fun c hc => (List.mem_append.mp hc).elim (lo c) fun z => by rw [List.mem_singleton.mp z]; decide)⟩
    show (al ++ [65]).all _ = false
    rw [List.all_append]
    have : ([65].all fun c => decide (c ∈ al)) = false := by
      show (decide (65 ∈ al) && true) = false
      rw [decide_eq_false fun z => absurd (a4 _ z) (by decide)]
      rfl
    rw [this, Bool.and_false]
  · exact ⟨⟨rfl, fun _ z => by cases z⟩, rfl, trivial⟩
  · exact ⟨⟨rfl, fun _ z => by cases z⟩, rfl, by show 1 ≤ 100000; decide, okS_str (by omega) lo, trivial⟩
  · exact ⟨⟨rfl, fun _ z => by cases z⟩, rfl, trivial⟩
def badcounts : List D := [.int 0, .int 121, .non, .bl true, .str [49], .int (0 - 5), .int (10 ^ 30)]
theorem badcounts_bad {d : D} (h : d ∈ badcounts) : (tyD d).isSome = true ∧ within 1 120 d = false ∧ okS 6 d := by
  simp only [badcounts, List.mem_cons, List.not_mem_nil, or_false] at h
  rcases h with rfl | rfl | rfl | rfl | rfl | rfl | rfl
  · exact ⟨rfl, rfl, trivial⟩
  · exact ⟨rfl, rfl, trivial⟩
  · exact ⟨rfl, rfl, trivial⟩
  · exact ⟨rfl, rfl, trivial⟩
  · exact ⟨rfl, rfl, by decide, rfl⟩
  · exact ⟨rfl, rfl, trivial⟩
  · exact ⟨rfl, by decide, trivial⟩
abbrev AF (KK : PySem.W.Frag) (C0 C1 C2 C3 C4 C5 C6 C7 C8 C9 C10 C11 : Addr) (t : TP) : TP := tpLam 2 (askF KK C0 C1 C2 C3 C4 C5 C6 C7 C8 C9 C10 C11) t
theorem refused_ok' (g2 : Giv KK C2 C3 C4 C7 C8 C9 C2) (g4 : Giv KK C2 C3 C4 C7 C8 C9 C4) (g7 : Giv KK C2 C3 C4 C7 C8 C9 C7) (g9 : Giv KK C2 C3 C4 C7 C8 C9 C9) :
    fsRefused CS ds kd kx → m_law_calls_refused KK C0 C1 C2 C3 C4 C5 C6 C7 C8 C9 C10 C11 CS fsPick fsLetters (fsSame 9) (fsLaidX CS C7 C2) (fsCallX CS C7 C4) (fsGetX CS C7 C2) (fsChgX CS C7 C2) (fsReachX CS C7) (fsIdle CS C3 C9) ds kd kx := by
  intro h0
  match ds, h0 with
  | [.bag, .str al, s, .int m], h0 =>
    obtain ⟨rs, ⟨rfl, ha, rfl, n1, n2⟩, h⟩ := h0
    have big : 4000 ≤ sizeLine := by decide
    obtain ⟨a1, a2, a3, a4⟩ := id ha
    let G : Ga := [.pu .bag, .pu (.str al), .pu (stoD CS al rs), .pu (.int (rs.length : Nat)), .un, .un, .un, .un, .un, .un, .un, .un, .un]
    have L1 : Ev (tpLst (tlCons (tpVar 3) (tlCons (tpOp fSub (tpC (.int 0)) (tpC (.int 1))) (tlCons (tpC .non) (tlCons (tpC (.bl true)) (tlCons (tpC (.str [48])) (tlCons (tpOp fPow (tpC (.int 10)) (tpC (.int 30))) (tlCons (tpLst (tlCons (tpC (.int 0)) tlNil)) tlNil)))))))) G (.lst (stands rs.length)) :=
      ev_lst (evl_cons (ev_var rfl) (evl_cons (ev_subI (ev_c _) (ev_c _)) (evl_cons (ev_c _) (evl_cons (ev_c _) (evl_cons (ev_c _) (evl_2 ev_pow30 (ev_lst (evl_1 (ev_c _)) (by show 1 ≤ 100000; decide)))))))) (by show 7 ≤ 100000; decide)
    refine st_setN (Γ := G) (evn_pick (ev_var (d := .bag) rfl) L1 (by simp [stands]) (by show 7 ≤ 100000; decide)) fun d4 h4 => ?_
    obtain ⟨t4, w4, o4⟩ := stands_bad n2 h4
    let G1 : Ga := [.pu .bag, .pu (.str al), .pu (stoD CS al rs), .pu (.int (rs.length : Nat)), .pu d4, .un, .un, .un, .un, .un, .un, .un, .un]
    have lt : Ev (tpCall 0 fsLetters tlNil) G1 (.str LET) := ev_call evl_nil rfl fun k kx z => z
    have fo : Ev (tpLc [6] (tiStr (tpCall 0 fsLetters tlNil)) (tgName 6) (tbV (tpOp fNotInS (tpVar 6) (tpVar 1))) (tpVar 6)) G1 (.lst (foreign al)) :=
      ev_lcF2 (items := LET) (pa := fun c => D.str [c]) (f := fun c => D.str [c]) (evl_tiStr lt) (by decide) (fun c _ => evb_v (ev_notInS (c := c) (l := al) (ev_var rfl) (ev_var rfl))) (fun c _ => ev_var rfl)
    refine st_set (Γ := G1) fo ?_
    let G2 : Ga := [.pu .bag, .pu (.str al), .pu (stoD CS al rs), .pu (.int (rs.length : Nat)), .pu d4, .pu (.lst (foreign al)), .un, .un, .un, .un, .un, .un, .un]
    have fl : (foreign al).length ≤ 26 := by
      unfold foreign
      rw [List.length_map]
      exact List.length_filter_le _ _
    have sl : Ev (tpSl (tpVar 1) toNo (toSome (tpC (.int 1)))) G2 (.str (al.take 1)) := by
      have := ev_sl (lo := none) (hi := some ((1 : Nat) : Int)) (tlo := toNo) (thi := toSome (tpC (.int 1))) (ev_var (Γ := G2) (i := 1) (d := .str al) rfl) (fun k kx z => z) (fun k kx z => z) (by omega)
      rwa [cut_take] at this
    have tk1 : (al.take 1).length ≤ 1 := by rw [List.length_take]; omega
    have L2 : Ev (tpOp fAdd (tpLst (tlCons (tpC (.str [])) (tlCons (tpC (.str [65])) (tlCons (tpOp fAdd (tpVar 1) (tpC (.str [97]))) (tlCons (tpC .non) (tlCons (tpC (.int 0)) (tlCons (tpLst (tlCons (tpC (.str [97])) tlNil)) (tlCons (tpOp fMulS (tpSl (tpVar 1) toNo (toSome (tpC (.int 1)))) (tpC (.int 2))) tlNil)))))))) (tpVar 5)) G2 (.lst (baddes al)) :=
      ev_addL (ev_lst (evl_cons (ev_c _) (evl_cons (ev_c _) (evl_cons (ev_addS (ev_var rfl) (ev_c _) (by show al.length + 1 ≤ sizeLine; omega)) (evl_cons (ev_c _) (evl_cons (ev_c _) (evl_2 (ev_lst (evl_1 (ev_c _)) (by show 1 ≤ 100000; decide)) (ev_mulS (m := 2) sl (ev_c _) (by decide) (by omega) (by omega)))))))) (by show 7 ≤ 100000; decide)) (ev_var (d := .lst (foreign al)) rfl) (by show 7 + _ ≤ sizeLine; omega)
    refine st_setN (Γ := G2) (evn_pick (ev_var (d := .bag) rfl) L2 (by simp [baddes]) (by unfold baddes; rw [List.length_append]; show 7 + _ ≤ 100000; omega)) fun d7 h7 => ?_
    obtain ⟨l7, b7, o7, s7⟩ := baddes_bad ha h7
    let G3 : Ga := [.pu .bag, .pu (.str al), .pu (stoD CS al rs), .pu (.int (rs.length : Nat)), .pu d4, .pu (.lst (foreign al)), .un, .pu d7, .un, .un, .un, .un, .un]
    have lg : EvN (tpOp fAdd (tpVar 1) (tp1 fStrAny (tpVar 7))) G3 (fun d => ∃ v : List Nat, v.length ≤ 3000 ∧ d = .str v) := evn_op (evn (ev_var (d := .str al) rfl)) (evn_1 (C := fun d => ∃ v : List Nat, v.length ≤ 40 ∧ d = .str v) (evn (ev_var (d := d7) rfl)) fun x hx k hk => by
        subst hx
        exact s7 _ fun s hs => hk _ ⟨s, hs, rfl⟩) fun x y hx hy k hk => by
      subst hx
      obtain ⟨v, hv, rfl⟩ := hy
      exact ⟨by omega, hk _ ⟨_, by rw [List.length_append]; omega, rfl⟩⟩
    refine st_setN (Γ := G3) lg fun _ ⟨lv, hlv, e⟩ => ?_
    subst e
    let G4 : Ga := [.pu .bag, .pu (.str al), .pu (stoD CS al rs), .pu (.int (rs.length : Nat)), .pu d4, .pu (.lst (foreign al)), .un, .pu d7, .pu (.str lv), .un, .un, .un, .un]
    refine st_fns (by show 9 < 13; decide) fun fs l Gx hfl => ?_
    let G5 : Ga := [.pu .bag, .pu (.str al), .pu (stoD CS al rs), .pu (.int (rs.length : Nat)), .pu d4, .pu (.lst (foreign al)), .un, .pu d7, .pu (.str lv), .pf (clsD fs) l Gx, .un, .un, .un]
    let IT : D := .tup [.str ISTA, d4]
    have oIT : okS 7 IT := ⟨by show 2 ≤ 100000; decide, okS_str (by decide) (by decide), o4, trivial⟩
    let G6 : Ga := gset (wipeG G5 [10]) 10 .un
    have vs : ∀ {H : Ga}, gat H 2 = .pu (stoD CS al rs) → Ev (tpVar 2) H (stoD CS al rs) := fun e => ev_var e
    have A1 : Ev (AF KK C0 C1 C2 C3 C4 C5 C6 C7 C8 C9 C10 C11 (tpCallI [(CS, fsCallX CS C7 C4)] 2 (tpVar 2) (tlCons (tpVar 4) (tlCons (tpVar 8) tlNil)))) G6 IT := giv_ask g7 (evx_callI (vs rfl) List.mem_cons_self (evl_2 (ev_var (d := d4) rfl) (ev_var (d := .str lv) rfl)) rfl fun k kx z => ⟨al, rs, ⟨rfl, t4⟩, .inl ⟨w4, z⟩⟩)
    have A2 : Ev (AF KK C0 C1 C2 C3 C4 C5 C6 C7 C8 C9 C10 C11 (tpGetO [(CS, fsGetX CS C7 C2)] (tpVar 2) (tpTup (tlCons (tpVar 4) (tlCons (tpVar 7) tlNil))))) G6 IT := giv_ask g7 (evx_getO (vs rfl) List.mem_cons_self (ev_tup (evl_2 (ev_var (d := d4) rfl) (ev_var (d := d7) rfl)) (by show 2 ≤ 100000; decide)) fun k kx z => ⟨al, rs, ⟨rfl, t4⟩, .inl ⟨w4, z⟩⟩)
    have A3 : Ev (AF KK C0 C1 C2 C3 C4 C5 C6 C7 C8 C9 C10 C11 (tpMeth [(CS, fsChgX CS C7 C2)] "change" 3 (tpVar 2) (tlCons (tpVar 4) (tlCons (tpVar 7) (tlCons (tpVar 4) tlNil))))) G6 IT := giv_ask g7 (evx_meth (vs rfl) rfl List.mem_cons_self (evl_3 (ev_var (d := d4) rfl) (ev_var (d := d7) rfl) (ev_var (d := d4) rfl)) rfl fun k kx z => ⟨al, rs, ⟨rfl, t4⟩, .inl ⟨w4, z⟩⟩)
    have A4 : Ev (AF KK C0 C1 C2 C3 C4 C5 C6 C7 C8 C9 C10 C11 (tpMeth [(CS, fsReachX CS C7)] "reached" 1 (tpVar 2) (tlCons (tpVar 4) tlNil))) G6 IT := giv_ask g7 (evx_meth (vs rfl) rfl List.mem_cons_self (evl_1 (ev_var (d := d4) rfl)) rfl fun k kx z => ⟨al, rs, ⟨rfl, t4⟩, w4, z⟩)
    obtain ⟨a, ar, e0⟩ : ∃ a r, al = a :: r := by
      cases al with
      | nil => exact absurd a1 (by decide)
      | cons a r => exact ⟨a, r, rfl⟩
    have i0 : ∀ {H : Ga}, gat H 1 = .pu (.str al) → Ev (tpOp fIx (tpVar 1) (tpC (.int 0))) H (.str [a]) := fun e => ev_ixS (ev_var e) (ev_c (.int 0)) (by omega) (by rw [e0]; exact at_nat (a :: ar) 0 (Nat.succ_pos _))
    have la : goodL (.str [a]) := goodL_str (by show 1 ≤ 3000; decide)
    have da : deedB al (.str [a]) = true := decide_eq_true (by rw [e0]; exact List.mem_cons_self)
    have w0 : within 0 ((rs.length : Nat) - 1) (.int 0) = true := by
      show (decide ((0 : Int) ≤ 0) && decide ((0 : Int) ≤ (rs.length : Nat) - 1)) = true
      rw [decide_eq_true (show (0 : Int) ≤ (rs.length : Nat) - 1 by omega)]
      rfl
    have A5 : Ev (AF KK C0 C1 C2 C3 C4 C5 C6 C7 C8 C9 C10 C11 (tpMethK [(CS, fsChgX CS C7 C2)] "change" 3 [0, 2, 3, 1] (tpVar 2) (tlCons (tpVar 4) (tlCons (tpC (.int 0)) (tlCons (tpOp fIx (tpVar 1) (tpC (.int 0))) tlNil))))) G6 IT := giv_ask g7 (evx_methK (vs rfl) rfl List.mem_cons_self (evl_3 (ev_var (d := d4) rfl) (ev_c (.int 0)) (i0 rfl)) rfl fun k kx z => ⟨al, rs, ⟨rfl, rfl⟩, .inr (.inr ⟨⟨w0, la, da, t4, w4⟩, z⟩)⟩)
    have lc := ev_askLc (G := G5) (fs := fs) (l := l) (Gx := Gx) (i := 9) (h := 10) (ds := [IT, IT, IT, IT, IT]) hfl (by show 5 ≤ 100000; decide) rfl (fun _ => rfl) (fun _ => rfl) ⟨A1, A2, A3, A4, A5, trivial⟩
    have du : Ev (tpOp fMul (tpLst (tlCons (tpTup (tlCons (tpC (.str ISTA)) (tlCons (tpVar 4) tlNil))) tlNil)) (tpC (.int 5))) G5 (.lst [IT, IT, IT, IT, IT]) := ev_mulL (ev_lst (evl_1 (ev_tup (evl_2 (ev_c _) (ev_var (d := d4) rfl)) (by show 2 ≤ 100000; decide))) (by show 1 ≤ 100000; decide)) (ev_c (.int 5)) (by decide) (by decide) (by show 5 ≤ sizeLine; decide)
    have c1 := sameV lc du rfl ⟨by show 5 ≤ 100000; decide, oIT, oIT, oIT, oIT, oIT, trivial⟩
    refine st_ifN (Γ := G5) (evb_not (b := true) (evb_v c1)) ?_
    refine st_fns (by show 9 < 13; decide) fun fs2 l2 Gx2 hfl2 => ?_
    let G7 : Ga := [.pu .bag, .pu (.str al), .pu (stoD CS al rs), .pu (.int (rs.length : Nat)), .pu d4, .pu (.lst (foreign al)), .un, .pu d7, .pu (.str lv), .pf (clsD fs2) l2 Gx2, .un, .un, .un]
    let G8 : Ga := gset (wipeG G7 [10]) 10 .un
    let JT : D := .tup [.str IDEE, d7]
    have oJT : okS 7 JT := ⟨by show 2 ≤ 100000; decide, okS_str (by decide) (by decide), o7, trivial⟩
    have B1 : Ev (AF KK C0 C1 C2 C3 C4 C5 C6 C7 C8 C9 C10 C11 (tpGetO [(CS, fsGetX CS C7 C2)] (tpVar 2) (tpTup (tlCons (tpC (.int 0)) (tlCons (tpVar 7) tlNil))))) G8 JT := giv_ask g2 (evx_getO (vs rfl) List.mem_cons_self (ev_tup (evl_2 (ev_c (.int 0)) (ev_var (d := d7) rfl)) (by show 2 ≤ 100000; decide)) fun k kx z => ⟨al, rs, ⟨rfl, rfl⟩, .inr ⟨⟨w0, l7, b7⟩, z⟩⟩)
    have B2 : Ev (AF KK C0 C1 C2 C3 C4 C5 C6 C7 C8 C9 C10 C11 (tpMeth [(CS, fsChgX CS C7 C2)] "change" 3 (tpVar 2) (tlCons (tpC (.int 0)) (tlCons (tpVar 7) (tlCons (tpVar 4) tlNil))))) G8 JT := giv_ask g2 (evx_meth (vs rfl) rfl List.mem_cons_self (evl_3 (ev_c (.int 0)) (ev_var (d := d7) rfl) (ev_var (d := d4) rfl)) rfl fun k kx z => ⟨al, rs, ⟨rfl, rfl⟩, .inr (.inl ⟨⟨w0, l7, b7⟩, z⟩)⟩)
    have lc2 := ev_askLc (G := G7) (fs := fs2) (l := l2) (Gx := Gx2) (i := 9) (h := 10) (ds := [JT, JT]) hfl2 (by show 2 ≤ 100000; decide) rfl (fun _ => rfl) (fun _ => rfl) ⟨B1, B2, trivial⟩
    have du2 : Ev (tpOp fMul (tpLst (tlCons (tpTup (tlCons (tpC (.str IDEE)) (tlCons (tpVar 7) tlNil))) tlNil)) (tpC (.int 2))) G7 (.lst [JT, JT]) := ev_mulL (ev_lst (evl_1 (ev_tup (evl_2 (ev_c _) (ev_var (d := d7) rfl)) (by show 2 ≤ 100000; decide))) (by show 1 ≤ 100000; decide)) (ev_c (.int 2)) (by decide) (by decide) (by show 2 ≤ sizeLine; decide)
    have c2 := sameV lc2 du2 rfl ⟨by show 2 ≤ 100000; decide, oJT, oJT, trivial⟩
    refine st_ifN (Γ := G7) (evb_not (b := true) (evb_v c2)) ?_
    have D1 : Ev (tpCall 4 (fsLaidX CS C7 C2) (tlCons (tpVar 2) (tlCons (tpVar 4) (tlCons (tpVar 7) (tlCons (tpVar 4) tlNil))))) G7 IT := ev_call (evl_cons (vs rfl) (evl_3 (ev_var (d := d4) rfl) (ev_var (d := d7) rfl) (ev_var (d := d4) rfl))) rfl fun k kx z => ⟨al, rs, ⟨rfl, t4⟩, .inl ⟨w4, .inl ⟨d4, rfl, z⟩⟩⟩
    have D2 : Ev (tpCall 4 (fsLaidX CS C7 C2) (tlCons (tpVar 2) (tlCons (tpC (.int 0)) (tlCons (tpOp fIx (tpVar 1) (tpC (.int 0))) (tlCons (tpVar 4) tlNil))))) G7 IT := ev_call (evl_cons (vs rfl) (evl_3 (ev_c (.int 0)) (i0 rfl) (ev_var (d := d4) rfl))) rfl fun k kx z => ⟨al, rs, ⟨rfl, rfl⟩, .inr (.inr ⟨⟨w0, la, da, t4, w4⟩, .inl ⟨d4, rfl, z⟩⟩)⟩
    have D3 : Ev (tpCall 4 (fsLaidX CS C7 C2) (tlCons (tpVar 2) (tlCons (tpC (.int 0)) (tlCons (tpVar 7) (tlCons (tpVar 4) tlNil))))) G7 JT := ev_call (evl_cons (vs rfl) (evl_3 (ev_c (.int 0)) (ev_var (d := d7) rfl) (ev_var (d := d4) rfl))) rfl fun k kx z => ⟨al, rs, ⟨rfl, rfl⟩, .inr (.inl ⟨⟨w0, l7, b7⟩, .inr ⟨d7, rfl, z⟩⟩)⟩
    refine st_set (Γ := G7) (ev_lst (evl_3 D1 D2 D3) (by show 3 ≤ 100000; decide)) ?_
    let G9 : Ga := [.pu .bag, .pu (.str al), .pu (stoD CS al rs), .pu (.int (rs.length : Nat)), .pu d4, .pu (.lst (foreign al)), .un, .pu d7, .pu (.str lv), .pf (clsD fs2) l2 Gx2, .un, .pu (.lst [IT, IT, JT]), .un]
    have tI : ∀ {H : Ga}, gat H 4 = .pu d4 → Ev (tpTup (tlCons (tpC (.str ISTA)) (tlCons (tpVar 4) tlNil))) H IT := fun e => ev_tup (evl_2 (ev_c _) (ev_var e)) (by show 2 ≤ 100000; decide)
    have tJ : ∀ {H : Ga}, gat H 7 = .pu d7 → Ev (tpTup (tlCons (tpC (.str IDEE)) (tlCons (tpVar 7) tlNil))) H JT := fun e => ev_tup (evl_2 (ev_c _) (ev_var e)) (by show 2 ≤ 100000; decide)
    have c3 := sameV (Γ := G9) (ta := tpVar 11) (ev_var (d := .lst [IT, IT, JT]) rfl) (ev_lst (evl_3 (tI rfl) (tI rfl) (tJ rfl)) (by show 3 ≤ 100000; decide)) rfl ⟨by show 3 ≤ 100000; decide, oIT, oIT, oJT, trivial⟩
    refine st_ifN (Γ := G9) (evb_not (b := true) (evb_v c3)) ?_
    have L3 : Ev (tpLst (tlCons (tpOp fAdd (tpVar 1) (tpC (.str [65]))) (tlCons (tpC .non) (tlCons (tpLst (tlCons (tpVar 1) tlNil)) (tlCons (tpC (.int 3)) tlNil))))) G9 (.lst (badlogs al)) := ev_lst (evl_cons (ev_addS (ev_var rfl) (ev_c _) (by show al.length + 1 ≤ sizeLine; omega)) (evl_3 (ev_c _) (ev_lst (evl_1 (ev_var (d := .str al) rfl)) (by show 1 ≤ 100000; decide)) (ev_c _))) (by show 4 ≤ 100000; decide)
    refine st_setN (Γ := G9) (evn_pick (ev_var (d := .bag) rfl) L3 (by simp [badlogs]) (by show 4 ≤ 100000; decide)) fun d8 h8 => ?_
    obtain ⟨v8, b8, o8⟩ := badlogs_bad ha h8
    let GA : Ga := [.pu .bag, .pu (.str al), .pu (stoD CS al rs), .pu (.int (rs.length : Nat)), .pu d4, .pu (.lst (foreign al)), .un, .pu d7, .pu d8, .pf (clsD fs2) l2 Gx2, .un, .pu (.lst [IT, IT, JT]), .un]
    have L4 : Ev (tpLst (tlCons (tpC (.int 0)) (tlCons (tpC (.int 121)) (tlCons (tpC .non) (tlCons (tpC (.bl true)) (tlCons (tpC (.str [49])) (tlCons (tpOp fSub (tpC (.int 0)) (tpC (.int 5))) (tlCons (tpOp fPow (tpC (.int 10)) (tpC (.int 30))) tlNil)))))))) GA (.lst badcounts) := ev_lst (evl_cons (ev_c _) (evl_cons (ev_c _) (evl_cons (ev_c _) (evl_cons (ev_c _) (evl_3 (ev_c _) (ev_subI (ev_c _) (ev_c _)) ev_pow30))))) (by show 7 ≤ 100000; decide)
    refine st_setN (Γ := GA) (evn_pick (ev_var (d := .bag) rfl) L4 (by simp [badcounts]) (by show 7 ≤ 100000; decide)) fun dc hc => ?_
    obtain ⟨tc, wc, oc⟩ := badcounts_bad hc
    let GB : Ga := [.pu .bag, .pu (.str al), .pu (stoD CS al rs), .pu (.int (rs.length : Nat)), .pu d4, .pu (.lst (foreign al)), .un, .pu d7, .pu d8, .pf (clsD fs2) l2 Gx2, .un, .pu (.lst [IT, IT, JT]), .pu dc]
    let LT : D := .tup [.str ILOG, d8]
    let CT : D := .tup [.str ICNT, dc]
    have oLT : okS 7 LT := ⟨by show 2 ≤ 100000; decide, okS_str (by decide) (by decide), o8, trivial⟩
    have oCT : okS 7 CT := ⟨by show 2 ≤ 100000; decide, okS_str (by decide) (by decide), oc, trivial⟩
    have E1 : Ev (AF KK C0 C1 C2 C3 C4 C5 C6 C7 C8 C9 C10 C11 (tpCallI [(CS, fsCallX CS C7 C4)] 2 (tpVar 2) (tlCons (tpC (.int 0)) (tlCons (tpVar 8) tlNil)))) GB LT := giv_ask g4 (evx_callI (vs rfl) List.mem_cons_self (evl_2 (ev_c (.int 0)) (ev_var (d := d8) rfl)) rfl fun k kx z => ⟨al, rs, ⟨rfl, rfl⟩, .inr ⟨⟨w0, v8, b8⟩, z⟩⟩)
    have E2 : Ev (AF KK C0 C1 C2 C3 C4 C5 C6 C7 C8 C9 C10 C11 (tpCMeth CS (fsIdle CS C3 C9) 2 (tpC (.cls CS)) (tlCons (tpVar 1) (tlCons (tpVar 12) tlNil)))) GB CT := giv_ask g9 (evx_cmeth (ev_c _) (evl_2 (ev_var (d := .str al) rfl) (ev_var (d := dc) rfl)) rfl fun k kx z => ⟨rfl, goodL_of ha, .inr ⟨al, ⟨rfl, ha⟩, ⟨tc, wc⟩, z⟩⟩)
    refine st_set (Γ := GB) (ev_lst (evl_2 E1 E2) (by show 2 ≤ 100000; decide)) ?_
    let GC : Ga := [.pu .bag, .pu (.str al), .pu (stoD CS al rs), .pu (.int (rs.length : Nat)), .pu d4, .pu (.lst (foreign al)), .un, .pu d7, .pu d8, .pu (.lst [LT, CT]), .un, .pu (.lst [IT, IT, JT]), .pu dc]
    have c4 := sameV (Γ := GC) (ta := tpVar 9) (ev_var (d := .lst [LT, CT]) rfl) (ev_lst (evl_2 (ev_tup (evl_2 (ev_c (.str ILOG)) (ev_var (i := 8) (d := d8) rfl)) (by show 2 ≤ 100000; decide)) (ev_tup (evl_2 (ev_c (.str ICNT)) (ev_var (i := 12) (d := dc) rfl)) (by show 2 ≤ 100000; decide))) (by show 2 ≤ 100000; decide)) rfl ⟨by show 2 ≤ 100000; decide, oLT, oCT, trivial⟩
    exact st_ret (Γ := GC) c4 h
end
end PL
set_option Elab.async false
set_option linter.all false
set_option maxRecDepth 100000
set_option maxHeartbeats 4000000
namespace K22
open PySem L2 PL
section
variable {ds : List D} {kd : KD} {kx : KX} {CS : Addr} {Γ : Ga} {tl : TL} {t ta tb tf : TP} {d e y : D} {P : PEn} {s u r : TSp} {i n w : Nat} {al : List Nat} {rs : List (List Int)} {x : XD} {KK : PySem.W.Frag} {C0 C1 C2 C3 C4 C5 C6 C7 C8 C9 C10 C11 C CX : Addr} {A B : D → Prop} {L : List D → Prop}
local instance : Tabl := ⟨[], fun p hp => absurd hp (by simp)⟩
structure XH (KK : PySem.W.Frag) (C2 C3 C4 C5 C6 C7 C8 C9 C10 : Addr) : Prop where
  g3 : Giv KK C2 C3 C4 C7 C8 C9 C3
  x6 : ∀ f : PySem.Str, f = "tag" ∨ f = "index" → XFld KK (.ref C6) f
  h6 : PySem.W.exmAny KK (.ref C6) [.ref C2, .ref C3, .ref C4, .ref C7, .ref C8, .ref C9] = some false
  e65 : PySem.W.exmOne KK (.ref C6) (.ref C5) = some false
  e66 : PySem.W.exmOne KK (.ref C6) (.ref C6) = some true
  x10 : ∀ f : PySem.Str, f = "tag" ∨ f = "most" → XFld KK (.ref C10) f
  h10 : PySem.W.exmAny KK (.ref C10) [.ref C2, .ref C3, .ref C4, .ref C7, .ref C8, .ref C9] = some false
  e105 : PySem.W.exmOne KK (.ref C10) (.ref C5) = some false
  e106 : PySem.W.exmOne KK (.ref C10) (.ref C6) = some false
  e1010 : PySem.W.exmOne KK (.ref C10) (.ref C10) = some true
theorem ask_index {T : List Nat} (XF : ∀ f : PySem.Str, f = "tag" ∨ f = "index" → XFld KK (.ref CX) f) (he : PySem.W.exmAny KK (.ref CX) [.ref C2, .ref C3, .ref C4, .ref C7, .ref C8, .ref C9] = some false) (e5 : PySem.W.exmOne KK (.ref CX) (.ref C5) = some false) (e6 : PySem.W.exmOne KK (.ref CX) (.ref C6) = some true)
    (h : EvX t (purify Γ) ⟨.ref CX, [(("index" : PySem.Str), d), (("tag" : PySem.Str), .str T)]⟩) : Ev (tpLam 2 (askF KK C0 C1 C2 C3 C4 C5 C6 C7 C8 C9 C10 C11) t) Γ (.tup [.str T, d]) := fun k kx z =>
  fun v cA u Gx => ⟨⟨rfl, rfl, rfl, rfl⟩, h _ _ ⟨false, he, fun z => Bool.noConfusion z, fun _ => ⟨false, e5, fun z => Bool.noConfusion z, fun _ => ⟨true, e6, fun _ a dA => ⟨rfl, rfl, XF "tag" (.inl rfl), rfl, rfl, XF "index" (.inr rfl), by show 2 ≤ 100000; decide, z⟩, fun z => Bool.noConfusion z⟩⟩⟩⟩
theorem ev_mulT {xs : List D} {n : Nat} (h : Ev ta Γ (.tup xs)) (g : Ev tb Γ (.int (n : Nat))) (h0 : xs ≠ []) (h1 : xs.length ≤ 1000) (h2 : 1 ≤ n) (h3 : n ≤ 1000) : Ev (tpOp fMulT ta tb) Γ (.tup (List.replicate n xs).flatten) := ev_op h g fun k z => ⟨⟨h0, h1, by omega, by omega⟩, by rw [Int.toNat_natCast]; exact z⟩
theorem rep_one (x : D) : ∀ n, (List.replicate n [x]).flatten = List.replicate n x
  | 0 => rfl
  | n + 1 => by rw [List.replicate_succ, List.replicate_succ, List.flatten_cons, rep_one x n]; rfl
theorem ev_mulT1 {x : D} {n : Nat} (h : Ev ta Γ (.tup [x])) (g : Ev tb Γ (.int (n : Nat))) (h2 : 1 ≤ n) (h3 : n ≤ 1000) : Ev (tpOp fMulT ta tb) Γ (.tup (List.replicate n x)) := by
  have := ev_mulT h g (by simp) (by show 1 ≤ 1000; decide) h2 h3
  rwa [rep_one] at this
theorem ev_addT {a b : List D} (h : Ev ta Γ (.tup a)) (g : Ev tb Γ (.tup b)) (hl : a.length + b.length ≤ sizeLine) : Ev (tpOp fAddT ta tb) Γ (.tup (a ++ b)) := ev_op h g fun k z => ⟨hl, z⟩
theorem ev_slT {l : List D} {lo hi : Option Int} {tlo thi : TO'} (h : Ev t Γ (.tup l)) (hlo : ∀ (k : Option Int → Prop) kx, k lo → tlo Γ k kx) (hhi : ∀ (k : Option Int → Prop) kx, k hi → thi Γ k kx) : Ev (tpSl t tlo thi) Γ (.tup (cutL l lo hi)) := fun k kx z => h _ _ (hlo _ _ (hhi _ _ z))
theorem evn_slL {Q : List D → Prop} {lo hi : Option Int} {tlo thi : TO'} (h : EvN t Γ (fun d => ∃ l, Q l ∧ d = .lst l)) (hlo : ∀ (k : Option Int → Prop) kx, k lo → tlo Γ k kx) (hhi : ∀ (k : Option Int → Prop) kx, k hi → thi Γ k kx) : EvN (tpSl t tlo thi) Γ (fun d => ∃ l, Q l ∧ d = .lst (cutL l lo hi)) := fun k kx z => h _ _ fun d ⟨l, q, e⟩ => by
  subst e
  exact hlo _ _ (hhi _ _ (z _ ⟨l, q, rfl⟩))
theorem st_parN {is : List Nat} {L : List D → Prop} {r : TSp} (h : EvNL tl Γ L) (g : ∀ ds, L ds → ∃ Γ', stores is ds Γ = some Γ' ∧ r P Γ') : tsSeq (tsPar is tl) r P Γ := h _ _ fun ds hd => by
  obtain ⟨G, e, q⟩ := g ds hd
  show (match stores is ds Γ with | some Γ' => r P Γ' | none => False)
  rw [e]
  exact q
abbrev rowD (r : List Int) : D := .tup (lstI r)
def bad (n w : Nat) (d : D) : Prop := rowOk d ∧ rowGood (n : Nat) (w : Nat) d = false
theorem ints_ty : ∀ (r : List Int), ∀ x ∈ lstI r, (tyD x).isSome = true := fun r x hx => by
  obtain ⟨z, _, rfl⟩ := List.mem_map.mp hx
  rfl
theorem row_ok {r : List Int} (h : r.length ≤ 1000) : rowOk (rowD r) := ⟨rfl, fun q e => by
  cases e
  exact ⟨by rw [List.length_map]; exact h, ints_ty r⟩⟩
theorem tab_ok (h : Tab n w rs) (hw : w ≤ 8) : ∀ y ∈ rs.map rowD, rowOk y := fun y hy => by
  obtain ⟨r, hr, rfl⟩ := List.mem_map.mp hy
  exact row_ok (by rw [h.hw r hr]; omega)
theorem tab_good (h : Tab n w rs) : ∀ y ∈ rs.map rowD, rowGood (n : Nat) (w : Nat) y = true := fun y hy => by
  obtain ⟨r, hr, rfl⟩ := List.mem_map.mp hy
  show (decide ((((lstI r).length : Nat) : Int) = (w : Nat)) && (lstI r).all fun x => within 0 ((n : Nat) - 1) x) = true
  rw [decide_eq_true (by rw [List.length_map, h.hw r hr]), Bool.true_and, List.all_eq_true]
  intro x hx
  obtain ⟨z, hz, rfl⟩ := List.mem_map.mp hx
  obtain ⟨z0, z1⟩ := h.hb r hr z hz
  show (decide ((0 : Int) ≤ z) && decide (z ≤ (n : Nat) - 1)) = true
  rw [decide_eq_true z0, decide_eq_true (by omega)]
  rfl
theorem bad_other {d : D} (ht : (tyD d).isSome = true) (h : ∀ r, d ≠ .tup r) : bad n w d := ⟨⟨ht, fun r e => absurd e (h r)⟩, by
  cases d with
  | tup r => exact absurd rfl (h r)
  | _ => rfl⟩
theorem bad_len {r : List D} (h1 : r.length ≤ 1000) (h2 : ∀ x ∈ r, (tyD x).isSome = true) (h3 : r.length ≠ w) : bad n w (.tup r) := ⟨⟨rfl, fun q e => by cases e; exact ⟨h1, h2⟩⟩, by
  show (decide (((r.length : Nat) : Int) = (w : Nat)) && _) = false
  rw [decide_eq_false (by omega), Bool.false_and]⟩
theorem bad_rep {x : D} (h1 : 1 ≤ w) (h2 : w ≤ 8) (ht : (tyD x).isSome = true) (hx : within 0 ((n : Nat) - 1) x = false) : bad n w (.tup (List.replicate w x)) := ⟨⟨rfl, fun q e => by
    cases e
    exact ⟨by rw [List.length_replicate]; omega, fun y hy => by rw [(List.mem_replicate.mp hy).2]; exact ht⟩⟩, by
  show (_ && (List.replicate w x).all fun x => within 0 ((n : Nat) - 1) x) = false
  obtain ⟨k, rfl⟩ : ∃ k, w = k + 1 := ⟨w - 1, by omega⟩
  rw [List.replicate_succ, List.all_cons, hx, Bool.false_and, Bool.and_false]⟩
theorem plain_ints : ∀ r : List Int, D.plainL (lstI r) = true
  | [] => rfl
  | z :: r => by
    show (true && D.plainL (lstI r)) = true
    rw [plain_ints r]
    rfl
theorem plain_rows' : ∀ rs : List (List Int), D.plainL (rs.map rowD) = true
  | [] => rfl
  | r :: rs => by
    show (D.plainL (lstI r) && D.plainL (rs.map rowD)) = true
    rw [plain_ints, plain_rows' rs]
    rfl
theorem plain_rows (rs : List (List Int)) : D.plain (rowsD rs) = true := plain_rows' rs
theorem dep_ints : ∀ r : List Int, D.depL (lstI r) = 0
  | [] => rfl
  | z :: r => by
    show max 0 (D.depL (lstI r)) = 0
    rw [dep_ints r]
    rfl
theorem dep_rows' : ∀ rs : List (List Int), D.depL (rs.map rowD) ≤ 1
  | [] => Nat.zero_le _
  | r :: rs => by
    show max (D.depL (lstI r) + 1) (D.depL (rs.map rowD)) ≤ 1
    rw [dep_ints]
    exact Nat.max_le.mpr ⟨Nat.le_refl _, dep_rows' rs⟩
theorem dep_rows (rs : List (List Int)) : D.dep (rowsD rs) ≤ 64 := by
  show D.depL (rs.map rowD) + 1 ≤ 64
  have := dep_rows' rs
  omega
abbrev asks1 (KK : PySem.W.Frag) (C0 C1 C2 C3 C4 C5 C6 C7 C8 C9 C10 C11 CS : Addr) : List TP := [(tpLam 2 (askF KK C0 C1 C2 C3 C4 C5 C6 C7 C8 C9 C10 C11) (tpMake CS (fsStoI CS C3 C6 C10) 2 (tlCons (tpVar 7) (tlCons (tpLst tlNil) tlNil)))), (tpLam 2 (askF KK C0 C1 C2 C3 C4 C5 C6 C7 C8 C9 C10 C11) (tpCMeth CS (fsIdle CS C3 C9) 2 (tpC (.cls CS)) (tlCons (tpVar 7) (tlCons (tpC (.int 0)) tlNil))))]
def t1 (KK : PySem.W.Frag) (C0 C1 C2 C3 C4 C5 C6 C7 C8 C9 C10 C11 CS : Addr) (aq1 : TP) : TSp := (tsSeq (tsIf (tbNot (tbV (tpCall 2 (fsSame 9) (tlCons (tpLc [9] (tiLst (tpVarF 8)) (tgName 9) tbYes aq1) (tlCons (tpOp fMul (tpLst (tlCons (tpTup (tlCons (tpC (.str [73, 110, 118, 97, 108, 105, 100, 68, 101, 101, 100, 115])) (tlCons (tpVar 7) tlNil))) tlNil)) (tpC (.int 2))) tlNil)))))
    (tsRet (tpC (.bl false)))
    tsNext)
    (tsSeq (tsSet 10 (tpCall 2 fsPull (tlCons (tpVar 1) (tlCons (tpVar 4) tlNil))))
    (tsSeq (tsSet 11 (tpCall 2 fsPick (tlCons (tpVar 1) (tlCons (tpLst (tlCons (tp1 fList (tpOp fIx (tpVar 5) (tpC (.int 0)))) (tlCons (tpOp fAddT (tpOp fIx (tpVar 5) (tpC (.int 0))) (tpTup (tlCons (tpC (.int 0)) tlNil))) (tlCons (tpSl (tpOp fIx (tpVar 5) (tpC (.int 0))) (toSome (tpC (.int 1))) toNo) (tlCons (tpOp fMulT (tpTup (tlCons (tpVar 4) tlNil)) (tpVar 6)) (tlCons (tpOp fMulT (tpTup (tlCons (tpOp fSub (tpC (.int 0)) (tpC (.int 1))) tlNil)) (tpVar 6)) tlNil)))))) tlNil))))
    (tsSeq (tsSet 11 (tpCall 2 fsPick (tlCons (tpVar 1) (tlCons (tpLst (tlCons (tpVar 11) (tlCons (tpVar 11) (tlCons (tpC .non) (tlCons (tpC (.str [48])) (tlCons (tpC (.int 5)) (tlCons (tpOp fMulT (tpTup (tlCons (tpC (.bl true)) tlNil)) (tpVar 6)) (tlCons (tpOp fMulT (tpTup (tlCons (tpC .non) tlNil)) (tpVar 6)) (tlCons (tpOp fMulT (tpTup (tlCons (tpC (.str [48])) tlNil)) (tpVar 6)) tlNil))))))))) tlNil))))
    (tsSeq (tsSet 12 (tpOp fAdd (tpOp fAdd (tpSl (tpVar 5) toNo (toSome (tpVar 10))) (tpLst (tlCons (tpVar 11) tlNil))) (tpSl (tpCall 2 fsPick (tlCons (tpVar 1) (tlCons (tpLst (tlCons (tpVar 5) (tlCons (tpOp fMul (tpLst (tlCons (tpC .non) tlNil)) (tpVar 4)) tlNil))) tlNil))) (toSome (tpOp fAdd (tpVar 10) (tpC (.int 1)))) toNo)))
    (tsSeq (tsIf (tbNot (tbV (tpCall 2 (fsSame 9) (tlCons (tpLam 2 (askF KK C0 C1 C2 C3 C4 C5 C6 C7 C8 C9 C10 C11) (tpMake CS (fsStoI CS C3 C6 C10) 2 (tlCons (tpVar 3) (tlCons (tpVar 12) tlNil)))) (tlCons (tpTup (tlCons (tpC (.str [73, 110, 118, 97, 108, 105, 100, 83, 116, 111, 114, 101])) (tlCons (tpVar 10) tlNil))) tlNil)))))
    (tsRet (tpC (.bl false)))
    tsNext)
    (tsSeq (tsSet 13 (tpMake CS (fsStoI CS C3 C6 C10) 2 (tlCons (tpVar 3) (tlCons (tpVar 5) tlNil))))
    (tsIf (tbOr (tbNot (tbV (tpCall 4 (fsRefused CS) (tlCons (tpVar 1) (tlCons (tpVar 3) (tlCons (tpVar 13) (tlCons (tpVar 4) tlNil))))))) (tbV (tpOp fNe (tpMeth [(CS, (fsRows CS))] "rows" 0 (tpVar 13) tlNil) (tpVar 5))))
    (tsRet (tpC (.bl false)))
    tsNext))))))))
def turn (KK : PySem.W.Frag) (C0 C1 C2 C3 C4 C5 C6 C7 C8 C9 C10 C11 CS : Addr) : TSp := (tsSeq (tsAsgG (tpTup (tlCons (tpCall 2 fsAlpha (tlCons (tpVar 1) (tlCons (tpC (.int 8)) tlNil))) (tlCons (tpOp fAdd (tpC (.int 1)) (tpCall 2 fsPull (tlCons (tpVar 1) (tlCons (tpC (.int 9)) tlNil)))) tlNil))) (tgTup2 3 4))
    (tsSeq (tsPar [5, 6] (tlCons (tpCall 3 fsLRows (tlCons (tpVar 1) (tlCons (tpVar 4) (tlCons (tp1 fLenS (tpVar 3)) tlNil)))) (tlCons (tp1 fLenS (tpVar 3)) tlNil)))
    (tsSeq (tsSet 7 (tpCall 1 fsBadDs (tlCons (tpVar 1) tlNil)))
    (tsFns 8 9 (asks1 KK C0 C1 C2 C3 C4 C5 C6 C7 C8 C9 C10 C11 CS) fun aq1 => t1 KK C0 C1 C2 C3 C4 C5 C6 C7 C8 C9 C10 C11 CS aq1))))
abbrev asks2 (KK : PySem.W.Frag) (C0 C1 C2 C3 C4 C5 C6 C7 C8 C9 C10 C11 CS : Addr) : List TP := [(tpLam 2 (askF KK C0 C1 C2 C3 C4 C5 C6 C7 C8 C9 C10 C11) (tpMake CS (fsStoI CS C3 C6 C10) 2 (tlCons (tpC (.str [97])) (tlCons (tpLst tlNil) tlNil)))), (tpLam 2 (askF KK C0 C1 C2 C3 C4 C5 C6 C7 C8 C9 C10 C11) (tpMake CS (fsStoI CS C3 C6 C10) 2 (tlCons (tpC (.str [97])) (tlCons (tpC .non) tlNil)))), (tpLam 2 (askF KK C0 C1 C2 C3 C4 C5 C6 C7 C8 C9 C10 C11) (tpMake CS (fsStoI CS C3 C6 C10) 2 (tlCons (tpC (.str [97])) (tlCons (tpOp fMul (tpLst (tlCons (tpC .non) tlNil)) (tpC (.int 121))) tlNil))))]
def t2 (KK : PySem.W.Frag) (C0 C1 C2 C3 C4 C5 C6 C7 C8 C9 C10 C11 CS : Addr) (aq2 : TP) : TSp := (tsRet (tpCall 2 (fsSame 9) (tlCons (tpLc [9] (tiLst (tpVarF 8)) (tgName 9) tbYes aq2) (tlCons (tpLst (tlCons (tpTup (tlCons (tpC (.str [73, 110, 118, 97, 108, 105, 100, 83, 116, 111, 114, 101])) (tlCons (tpC (.int 0)) tlNil))) (tlCons (tpTup (tlCons (tpC (.str [73, 110, 118, 97, 108, 105, 100, 83, 116, 111, 114, 101])) (tlCons (tpC (.int 0)) tlNil))) (tlCons (tpTup (tlCons (tpC (.str [84, 111, 111, 77, 97, 110, 121])) (tlCons (tpC (.int 120)) tlNil))) tlNil)))) tlNil))))
def tail (KK : PySem.W.Frag) (C0 C1 C2 C3 C4 C5 C6 C7 C8 C9 C10 C11 CS : Addr) : TSp := (tsFns 8 9 (asks2 KK C0 C1 C2 C3 C4 C5 C6 C7 C8 C9 C10 C11 CS) fun aq2 => t2 KK C0 C1 C2 C3 C4 C5 C6 C7 C8 C9 C10 C11 CS aq2)
abbrev Gl (s0 s2 s8 s9 s10 s11 s12 s13 : Sl) (al : List Nat) (n : Nat) (rs : List (List Int)) (w : Nat) (bd : D) : Ga := [s0, .pu .bag, s2, .pu (.str al), .pu (.int (n : Nat)), .pu (rowsD rs), .pu (.int (w : Nat)), .pu bd, s8, s9, s10, s11, s12, s13]
theorem t1_ok {s0 s2 s9 s10 s11 s12 s13 : Sl} {bd : D} {fs : List Addr} {l : List (Addr × HO)} {Gx : Hp} (X : XH KK C2 C3 C4 C5 C6 C7 C8 C9 C10) (ha : okA al) (hT : Tab n w rs) (hw : w = al.length) (n1 : 1 ≤ n) (n2 : n ≤ 9) (g1 : goodL bd) (g2 : goodDs bd = false) (g3 : okS 6 bd)
    (hfl : fs.length = (asks1 KK C0 C1 C2 C3 C4 C5 C6 C7 C8 C9 C10 C11 CS).length) (hk : ∀ s3 s4 s5 s6 s7 s8 s9 s10 s11 s12 s13, P.nx [s0, .pu .bag, s2, s3, s4, s5, s6, s7, s8, s9, s10, s11, s12, s13]) :
    t1 KK C0 C1 C2 C3 C4 C5 C6 C7 C8 C9 C10 C11 CS (tpAskV fs l Gx 8 9 (asks1 KK C0 C1 C2 C3 C4 C5 C6 C7 C8 C9 C10 C11 CS)) P (Gl s0 s2 (.pf (clsD fs) l Gx) s9 s10 s11 s12 s13 al n rs w bd) := by
  obtain ⟨a1, a2, a3, a4⟩ := id ha
  have big : 4000 ≤ sizeLine := by decide
  let G : Ga := Gl s0 s2 (.pf (clsD fs) l Gx) s9 s10 s11 s12 s13 al n rs w bd
  let G6 : Ga := gset (wipeG G [9]) 9 .un
  let IT : D := .tup [.str IDDS, bd]
  have oIT : okS 7 IT := ⟨by show 2 ≤ 100000; decide, okS_str (by decide) (by decide), g3, trivial⟩
  have A1 : Ev (tpLam 2 (askF KK C0 C1 C2 C3 C4 C5 C6 C7 C8 C9 C10 C11) (tpMake CS (fsStoI CS C3 C6 C10) 2 (tlCons (tpVar 7) (tlCons (tpLst tlNil) tlNil)))) G6 IT := giv_ask X.g3 (evx_make (evl_2 (ev_var (d := bd) rfl) (ev_lst evl_nil (Nat.zero_le _))) rfl fun k kx z => ⟨rfl, g1, .inl ⟨g2, z⟩⟩)
  have A2 : Ev (tpLam 2 (askF KK C0 C1 C2 C3 C4 C5 C6 C7 C8 C9 C10 C11) (tpCMeth CS (fsIdle CS C3 C9) 2 (tpC (.cls CS)) (tlCons (tpVar 7) (tlCons (tpC (.int 0)) tlNil)))) G6 IT := giv_ask X.g3 (evx_cmeth (ev_c _) (evl_2 (ev_var (d := bd) rfl) (ev_c _)) rfl fun k kx z => ⟨rfl, g1, .inl ⟨g2, z⟩⟩)
  have lc := ev_askLc (G := G) (fs := fs) (l := l) (Gx := Gx) (i := 8) (h := 9) (ds := [IT, IT]) hfl (by show 2 ≤ 100000; decide) rfl (fun _ => rfl) (fun _ => rfl) ⟨A1, A2, trivial⟩
  have du : Ev (tpOp fMul (tpLst (tlCons (tpTup (tlCons (tpC (.str IDDS)) (tlCons (tpVar 7) tlNil))) tlNil)) (tpC (.int 2))) G (.lst [IT, IT]) := ev_mulL (ev_lst (evl_1 (ev_tup (evl_2 (ev_c _) (ev_var (d := bd) rfl)) (by show 2 ≤ 100000; decide))) (by show 1 ≤ 100000; decide)) (ev_c (.int 2)) (by decide) (by decide) (by show 2 ≤ sizeLine; decide)
  have c1 := sameV lc du rfl ⟨by show 2 ≤ 100000; decide, oIT, oIT, trivial⟩
  refine st_ifN (Γ := G) (evb_not (b := true) (evb_v c1)) ?_
  refine st_setN (Γ := G) (evn_pull (m := (n : Nat)) (ev_var (d := .bag) rfl) (ev_var rfl) (by omega) (by omega)) fun d ⟨at', q0, q1, e⟩ => ?_
  subst e
  obtain ⟨q, rfl⟩ : ∃ q : Nat, at' = (q : Nat) := ⟨at'.toNat, by omega⟩
  have qn : q < n := by omega
  let G1 : Ga := Gl s0 s2 (.pf (clsD fs) l Gx) s9 (.pu (.int (q : Nat))) s11 s12 s13 al n rs w bd
  obtain ⟨r0, rr, e0⟩ : ∃ r0 rr, rs = r0 :: rr := by
    cases rs with
    | nil => have := hT.hn; simp at this; omega
    | cons a b => exact ⟨a, b, rfl⟩
  have w0 : r0.length = w := hT.hw r0 (by rw [e0]; exact List.mem_cons_self)
  have rw0 : ∀ {H : Ga}, gat H 5 = .pu (rowsD rs) → Ev (tpOp fIx (tpVar 5) (tpC (.int 0))) H (rowD r0) := fun e => ev_ixL (ev_var e) (ev_c (.int 0)) (by rw [e0]; exact at_nat (rowD r0 :: rr.map rowD) 0 (Nat.succ_pos _))
  let R1 : List D := [.lst (lstI r0), .tup (lstI r0 ++ [.int 0]), .tup ((lstI r0).drop 1), .tup (List.replicate w (.int (n : Nat))), .tup (List.replicate w (.int (0 - 1)))]
  have p1 : Ev (tp1 fList (tpOp fIx (tpVar 5) (tpC (.int 0)))) G1 (.lst (lstI r0)) := ev_1 (rw0 rfl) fun k z => z
  have p2 : Ev (tpOp fAddT (tpOp fIx (tpVar 5) (tpC (.int 0))) (tpTup (tlCons (tpC (.int 0)) tlNil))) G1 (.tup (lstI r0 ++ [.int 0])) := ev_addT (rw0 rfl) (ev_tup (evl_1 (ev_c _)) (by show 1 ≤ 100000; decide)) (by rw [List.length_map]; show _ + 1 ≤ _; omega)
  have p3 : Ev (tpSl (tpOp fIx (tpVar 5) (tpC (.int 0))) (toSome (tpC (.int 1))) toNo) G1 (.tup ((lstI r0).drop 1)) := by
    have := ev_slT (lo := some ((1 : Nat) : Int)) (hi := none) (tlo := toSome (tpC (.int 1))) (thi := toNo) (rw0 (H := G1) rfl) (fun k kx z => z) (fun k kx z => z)
    rwa [cut_drop] at this
  have p4 : Ev (tpOp fMulT (tpTup (tlCons (tpVar 4) tlNil)) (tpVar 6)) G1 (.tup (List.replicate w (.int (n : Nat)))) := ev_mulT1 (ev_tup (evl_1 (ev_var rfl)) (by show 1 ≤ 100000; decide)) (ev_var rfl) (by omega) (by omega)
  have p5 : Ev (tpOp fMulT (tpTup (tlCons (tpOp fSub (tpC (.int 0)) (tpC (.int 1))) tlNil)) (tpVar 6)) G1 (.tup (List.replicate w (.int (0 - 1)))) := ev_mulT1 (ev_tup (evl_1 (ev_subI (ev_c _) (ev_c _))) (by show 1 ≤ 100000; decide)) (ev_var rfl) (by omega) (by omega)
  refine st_setN (Γ := G1) (evn_pick (ev_var (d := .bag) rfl) (ev_lst (evl_cons p1 (evl_cons p2 (evl_3 p3 p4 p5))) (by show 5 ≤ 100000; decide)) (by simp) (by show 5 ≤ 100000; decide)) fun d1 hd1 => ?_
  have bd1 : bad n w d1 := by
    have z : d1 ∈ R1 := hd1
    simp only [R1, List.mem_cons, List.not_mem_nil, or_false] at z
    rcases z with rfl | rfl | rfl | rfl | rfl
    · exact bad_other rfl fun r e => by cases e
    · refine bad_len (by rw [List.length_append, List.length_map]; show _ + 1 ≤ _; omega) (fun x hx => ?_) (by rw [List.length_append, List.length_map]; show _ + 1 ≠ _; omega)
      rcases List.mem_append.mp hx with hx | hx
      · exact ints_ty r0 x hx
      · rw [List.mem_singleton.mp hx]; rfl
    · exact bad_len (by rw [List.length_drop, List.length_map]; omega) (fun x hx => ints_ty r0 x (List.mem_of_mem_drop hx)) (by rw [List.length_drop, List.length_map]; omega)
    · refine bad_rep (by omega) (by omega) rfl ?_
      show (decide ((0 : Int) ≤ (n : Nat)) && decide (((n : Nat) : Int) ≤ (n : Nat) - 1)) = false
      rw [decide_eq_false (show ¬ ((n : Nat) : Int) ≤ (n : Nat) - 1 by omega), Bool.and_false]
    · exact bad_rep (by omega) (by omega) rfl rfl
  let G2 : Ga := Gl s0 s2 (.pf (clsD fs) l Gx) s9 (.pu (.int (q : Nat))) (.pu d1) s12 s13 al n rs w bd
  have q6 : ∀ d, Ev (tpOp fMulT (tpTup (tlCons (tpC d) tlNil)) (tpVar 6)) G2 (.tup (List.replicate w d)) := fun d => ev_mulT1 (ev_tup (evl_1 (ev_c _)) (by show 1 ≤ 100000; decide)) (ev_var rfl) (by omega) (by omega)
  let R2 : List D := [d1, d1, .non, .str [48], .int 5, .tup (List.replicate w (.bl true)), .tup (List.replicate w .non), .tup (List.replicate w (.str [48]))]
  refine st_setN (Γ := G2) (evn_pick (ev_var (d := .bag) rfl) (ev_lst (evl_cons (ev_var (d := d1) rfl) (evl_cons (ev_var (d := d1) rfl) (evl_cons (ev_c _) (evl_cons (ev_c _) (evl_cons (ev_c _) (evl_3 (q6 _) (q6 _) (q6 _))))))) (by show 8 ≤ 100000; decide)) (by simp) (by show 8 ≤ 100000; decide)) fun d2 hd2 => ?_
  have bd2 : bad n w d2 := by
    have z : d2 ∈ R2 := hd2
    simp only [R2, List.mem_cons, List.not_mem_nil, or_false] at z
    rcases z with rfl | rfl | rfl | rfl | rfl | rfl | rfl | rfl
    · exact bd1
    · exact bd1
    · exact bad_other rfl fun r e => by cases e
    · exact bad_other rfl fun r e => by cases e
    · exact bad_other rfl fun r e => by cases e
    · exact bad_rep (by omega) (by omega) rfl rfl
    · exact bad_rep (by omega) (by omega) rfl rfl
    · exact bad_rep (by omega) (by omega) rfl rfl
  let G3 : Ga := Gl s0 s2 (.pf (clsD fs) l Gx) s9 (.pu (.int (q : Nat))) (.pu d2) s12 s13 al n rs w bd
  have tn := hT.hn
  have lR : (rs.map rowD).length = n := by rw [List.length_map, tn]
  have pre : Ev (tpSl (tpVar 5) toNo (toSome (tpVar 10))) G3 (.lst ((rs.map rowD).take q)) := by
    have := ev_slL (lo := none) (hi := some ((q : Nat) : Int)) (tlo := toNo) (thi := toSome (tpVar 10)) (ev_var (Γ := G3) (i := 5) (d := rowsD rs) rfl) (fun k kx z => z) (fun k kx z => (ev_var (Γ := G3) (i := 10) (d := .int (q : Nat)) rfl) _ _ z)
    rwa [cut_take] at this
  have row1 : Ev (tpLst (tlCons (tpVar 11) tlNil)) G3 (.lst [d2]) := ev_lst (evl_1 (ev_var rfl)) (by show 1 ≤ 100000; decide)
  have nons : Ev (tpOp fMul (tpLst (tlCons (tpC .non) tlNil)) (tpVar 4)) G3 (.lst (List.replicate n .non)) := by
    have := ev_mulL (Γ := G3) (ev_lst (evl_1 (ev_c .non)) (by show 1 ≤ 100000; decide)) (ev_var (i := 4) (d := .int (n : Nat)) rfl) (by omega) (by omega) (by show 1 * _ ≤ _; rw [Int.toNat_natCast]; omega)
    rwa [Int.toNat_natCast, rep_one] at this
  have post : EvN (tpSl (tpCall 2 fsPick (tlCons (tpVar 1) (tlCons (tpLst (tlCons (tpVar 5) (tlCons (tpOp fMul (tpLst (tlCons (tpC .non) tlNil)) (tpVar 4)) tlNil))) tlNil))) (toSome (tpOp fAdd (tpVar 10) (tpC (.int 1)))) toNo) G3 (fun d => ∃ l : List D, (l.length = n - (q + 1) ∧ ∀ r ∈ l, rowOk r) ∧ d = .lst l) := by
    have pk : EvN (tpCall 2 fsPick (tlCons (tpVar 1) (tlCons (tpLst (tlCons (tpVar 5) (tlCons (tpOp fMul (tpLst (tlCons (tpC .non) tlNil)) (tpVar 4)) tlNil))) tlNil))) G3 (fun d => ∃ l : List D, (l.length = n ∧ ∀ r ∈ l, rowOk r) ∧ d = .lst l) := evn_imp (evn_pick (ev_var (d := .bag) rfl) (ev_lst (evl_2 (ev_var (d := rowsD rs) rfl) nons) (by show 2 ≤ 100000; decide)) (by simp) (by show 2 ≤ 100000; decide)) fun d hd => by
      rcases List.mem_cons.mp hd with rfl | hd
      · exact ⟨_, ⟨lR, tab_ok hT (by omega)⟩, rfl⟩
      · rw [List.mem_singleton.mp hd]
        exact ⟨_, ⟨List.length_replicate, fun r hr => by rw [(List.mem_replicate.mp hr).2]; exact ⟨rfl, fun _ z => by cases z⟩⟩, rfl⟩
    have hh : Ev (tpOp fAdd (tpVar 10) (tpC (.int 1))) G3 (.int ((q + 1 : Nat) : Int)) := by
      have := ev_addI (Γ := G3) (ev_var (i := 10) (d := .int (q : Nat)) rfl) (ev_c (.int 1))
      exact this
    refine evn_imp (evn_slL (lo := some ((q + 1 : Nat) : Int)) (hi := none) (tlo := toSome (tpOp fAdd (tpVar 10) (tpC (.int 1)))) (thi := toNo) pk (fun k kx z => hh _ _ z) (fun k kx z => z)) fun d ⟨l, ⟨h1, h2⟩, e⟩ => ?_
    rw [cut_drop] at e
    exact ⟨_, ⟨by rw [List.length_drop, h1], fun r hr => h2 r (List.mem_of_mem_drop hr)⟩, e⟩
  have lp : ((rs.map rowD).take q).length = q := by rw [List.length_take, lR]; omega
  have wr : EvN (tpOp fAdd (tpOp fAdd (tpSl (tpVar 5) toNo (toSome (tpVar 10))) (tpLst (tlCons (tpVar 11) tlNil))) (tpSl (tpCall 2 fsPick (tlCons (tpVar 1) (tlCons (tpLst (tlCons (tpVar 5) (tlCons (tpOp fMul (tpLst (tlCons (tpC .non) tlNil)) (tpVar 4)) tlNil))) tlNil))) (toSome (tpOp fAdd (tpVar 10) (tpC (.int 1)))) toNo)) G3
      (fun d => ∃ l : List D, (l.length = n - (q + 1) ∧ ∀ r ∈ l, rowOk r) ∧ d = .lst ((rs.map rowD).take q ++ d2 :: l)) := evn_op (evn (ev_addL pre row1 (by rw [lp]; show _ + 1 ≤ _; omega))) post fun x y hx ⟨l, hl, hy⟩ k hk => by
    subst hx hy
    refine ⟨by rw [List.length_append, lp, hl.1]; show _ + 1 + _ ≤ _; omega, ?_⟩
    have := hk _ ⟨l, hl, rfl⟩
    rwa [List.append_assoc]
  refine st_setN (Γ := G3) wr fun _ ⟨l2, hl2, e⟩ => ?_
  subst e
  let WR : List D := (rs.map rowD).take q ++ d2 :: l2
  let G4 : Ga := Gl s0 s2 (.pf (clsD fs) l Gx) s9 (.pu (.int (q : Nat))) (.pu d2) (.pu (.lst WR)) s13 al n rs w bd
  have lW : WR.length = n := by
    show ((rs.map rowD).take q ++ d2 :: l2).length = n
    rw [List.length_append, lp, List.length_cons, hl2.1]
    omega
  let JT : D := .tup [.str ISTO, .int (q : Nat)]
  have oJT : okS 8 JT := ⟨by show 2 ≤ 100000; decide, ⟨by decide, rfl⟩, trivial, trivial⟩
  have B1 : Ev (tpLam 2 (askF KK C0 C1 C2 C3 C4 C5 C6 C7 C8 C9 C10 C11) (tpMake CS (fsStoI CS C3 C6 C10) 2 (tlCons (tpVar 3) (tlCons (tpVar 12) tlNil)))) G4 JT := ask_index X.x6 X.h6 X.e65 X.e66 (evx_make (evl_2 (ev_var (d := .str al) rfl) (ev_var (d := .lst WR) rfl)) rfl fun k kx z => ⟨rfl, goodL_of ha, .inr ⟨al, ⟨rfl, ha⟩, .inr ⟨WR, rfl, .inr (.inr ⟨⟨by rw [lW]; omega, by rw [lW]; omega, fun r hr => ?_⟩, .inr ⟨(rs.map rowD).take q, d2, l2, ⟨rfl, fun r hr => ?_, ?_⟩, ?_⟩⟩)⟩⟩⟩)
  rotate_left
  · rcases List.mem_append.mp hr with hr | hr
    · exact tab_ok hT (by omega) r (List.mem_of_mem_take hr)
    · rcases List.mem_cons.mp hr with rfl | hr
      · exact bd2.1
      · exact hl2.2 r hr
  · rw [lW, ← hw]
    exact tab_good hT r (List.mem_of_mem_take hr)
  · rw [lW, ← hw]
    exact bd2.2
  · rw [lp]
    exact z
  have c2 := sameV (Γ := G4) B1 (ev_tup (evl_2 (ev_c (.str ISTO)) (ev_var (i := 10) (d := .int (q : Nat)) rfl)) (by show 2 ≤ 100000; decide)) rfl oJT
  refine st_ifN (Γ := G4) (evb_not (b := true) (evb_v c2)) ?_
  have mk : Ev (tpMake CS (fsStoI CS C3 C6 C10) 2 (tlCons (tpVar 3) (tlCons (tpVar 5) tlNil))) G4 (stoD CS al rs) := ev_make (evl_2 (ev_var (d := .str al) rfl) (ev_var (d := rowsD rs) rfl)) rfl fun k kx z => ⟨rfl, goodL_of ha, .inr ⟨al, ⟨rfl, ha⟩, .inr ⟨rs.map rowD, rfl, .inr (.inr ⟨⟨by rw [lR]; omega, by rw [lR]; omega, tab_ok hT (by omega)⟩, .inl ⟨fun r hr => by rw [lR, ← hw]; exact tab_good hT r hr, rs, rfl, by omega, z⟩⟩)⟩⟩⟩
  refine st_set (Γ := G4) mk ?_
  let G5 : Ga := Gl s0 s2 (.pf (clsD fs) l Gx) s9 (.pu (.int (q : Nat))) (.pu d2) (.pu (.lst WR)) (.pu (stoD CS al rs)) al n rs w bd
  have c3 : Ev (tpCall 4 (fsRefused CS) (tlCons (tpVar 1) (tlCons (tpVar 3) (tlCons (tpVar 13) (tlCons (tpVar 4) tlNil))))) G5 (.bl true) := ev_call (evl_cons (ev_var (d := .bag) rfl) (evl_3 (ev_var (d := .str al) rfl) (ev_var (d := stoD CS al rs) rfl) (ev_var (d := .int (n : Nat)) rfl))) rfl fun k kx z => ⟨rs, ⟨rfl, ha, by rw [tn], by omega, by omega⟩, z⟩
  have c4 : Ev (tpMeth [(CS, (fsRows CS))] "rows" 0 (tpVar 13) tlNil) G5 (rowsD rs) := ev_meth (ev_var (d := stoD CS al rs) rfl) rfl List.mem_cons_self evl_nil rfl fun k kx z => ⟨al, rs, ⟨rfl, by omega⟩, z⟩
  have pl : D.plain (rowsD rs) = true := plain_rows rs
  have dp : D.dep (rowsD rs) ≤ 64 := dep_rows rs
  have c5 : Ev (tpOp fNe (tpMeth [(CS, (fsRows CS))] "rows" 0 (tpVar 13) tlNil) (tpVar 5)) G5 (.bl false) := ev_op c4 (ev_var (d := rowsD rs) rfl) fun k z => ⟨⟨pl, pl, dp, dp⟩, by rw [eqD_refl _ pl]; exact z⟩
  exact st_if1F (Γ := G5) (evb_orF (evb_not (b := true) (evb_v c3)) (evb_v c5)) (hk _ _ _ _ _ _ _ _ _ _ _)
theorem turn_ok {s0 s2 s3 s4 s5 s6 s7 s8 s9 s10 s11 s12 s13 : Sl} (X : XH KK C2 C3 C4 C5 C6 C7 C8 C9 C10) (hk : ∀ s3 s4 s5 s6 s7 s8 s9 s10 s11 s12 s13, P.nx [s0, .pu .bag, s2, s3, s4, s5, s6, s7, s8, s9, s10, s11, s12, s13]) :
    turn KK C0 C1 C2 C3 C4 C5 C6 C7 C8 C9 C10 C11 CS P [s0, .pu .bag, s2, s3, s4, s5, s6, s7, s8, s9, s10, s11, s12, s13] := by
  let G : Ga := [s0, .pu .bag, s2, s3, s4, s5, s6, s7, s8, s9, s10, s11, s12, s13]
  have alp : EvN (tpCall 2 fsAlpha (tlCons (tpVar 1) (tlCons (tpC (.int 8)) tlNil))) G (fun d => ∃ s : List Nat, okA s ∧ d = .str s) := evn_call (evnl (evl_2 (ev_var rfl) (ev_c _))) fun ds hd => by
    subst hd
    exact ⟨rfl, fun k kx z => ⟨⟨by decide, by decide⟩, fun s s1 s2 s3 s4 => z _ ⟨s, ⟨List.length_pos_iff.mpr s1, by omega, s3, s4⟩, rfl⟩⟩⟩
  have mny : EvN (tpOp fAdd (tpC (.int 1)) (tpCall 2 fsPull (tlCons (tpVar 1) (tlCons (tpC (.int 9)) tlNil)))) G (fun d => ∃ n : Nat, (1 ≤ n ∧ n ≤ 9) ∧ d = .int (n : Nat)) := evn_op (evn (ev_c (.int 1))) (evn_pull (m := 9) (ev_var (d := .bag) rfl) (ev_c _) (by decide) (by decide)) fun x y hx ⟨r, r0, r1, hy⟩ k hk => by
    subst hx hy
    exact hk _ ⟨(1 + r).toNat, ⟨by omega, by omega⟩, by rw [show (((1 + r).toNat : Nat) : Int) = 1 + r by omega]⟩
  refine st_asgGN (Γ := G) (evn_tup (evnl_cons alp (evnl_cons mny evnl_nil)) (fun ds ⟨_, _, _, ⟨_, _, _, e, e2⟩, e3⟩ => by subst e e2 e3; show 2 ≤ 100000; decide)) fun d hd => ?_
  obtain ⟨_, ⟨_, _, ⟨al, ha, rfl⟩, ⟨_, _, ⟨n, ⟨n1, n2⟩, rfl⟩, rfl, rfl⟩, rfl⟩, rfl⟩ := hd
  let G1 : Ga := [s0, .pu .bag, s2, .pu (.str al), .pu (.int (n : Nat)), s5, s6, s7, s8, s9, s10, s11, s12, s13]
  have big : 4000 ≤ sizeLine := by decide
  have ha2 := ha.2.1
  have ln : Ev (tp1 fLenS (tpVar 3)) G1 (.int (al.length : Nat)) := ev_lenS (ev_var rfl) (by omega)
  have rws : EvN (tpCall 3 fsLRows (tlCons (tpVar 1) (tlCons (tpVar 4) (tlCons (tp1 fLenS (tpVar 3)) tlNil)))) G1 (fun d => ∃ rs, Tab n al.length rs ∧ d = rowsD rs) := evn_call (evnl (evl_3 (ev_var (d := .bag) rfl) (ev_var (d := .int (n : Nat)) rfl) ln)) fun ds hd => by
    subst hd
    exact ⟨rfl, fun k kx z => ⟨n, al.length, ⟨rfl, rfl, n1, by omega, by omega⟩, fun rs h => z _ ⟨rs, h, rfl⟩⟩⟩
  show tsSeq (tsPar [5, 6] _) _ P G1
  refine st_parN (Γ := G1) (evnl_cons rws (evnl_cons (evn ln) evnl_nil)) fun ds hd => ?_
  obtain ⟨_, _, ⟨rs, hT, rfl⟩, ⟨_, _, rfl, rfl, rfl⟩, rfl⟩ := hd
  refine ⟨[s0, .pu .bag, s2, .pu (.str al), .pu (.int (n : Nat)), .pu (rowsD rs), .pu (.int (al.length : Nat)), s7, s8, s9, s10, s11, s12, s13], rfl, ?_⟩
  let G2 : Ga := [s0, .pu .bag, s2, .pu (.str al), .pu (.int (n : Nat)), .pu (rowsD rs), .pu (.int (al.length : Nat)), s7, s8, s9, s10, s11, s12, s13]
  have bdd : EvN (tpCall 1 fsBadDs (tlCons (tpVar 1) tlNil)) G2 (fun d => goodL d ∧ goodDs d = false ∧ okS 6 d) := evn_call (evnl (evl_1 (ev_var rfl))) fun ds hd => by
    subst hd
    exact ⟨rfl, fun k kx z => fun d a b c => z d ⟨a, b, c⟩⟩
  refine st_setN (Γ := G2) bdd fun bd ⟨g1, g2, g3⟩ => ?_
  refine st_fns (by show 8 < 14; decide) fun fs l Gx hfl => ?_
  exact t1_ok (w := al.length) X ha hT rfl n1 n2 g1 g2 g3 hfl hk
theorem loop_ok {s0 : Sl} (X : XH KK C2 C3 C4 C5 C6 C7 C8 C9 C10) (hk : ∀ s2 s3 s4 s5 s6 s7 s8 s9 s10 s11 s12 s13, P.nx [s0, .pu .bag, s2, s3, s4, s5, s6, s7, s8, s9, s10, s11, s12, s13]) :
    ∀ (items : List D) (s2 s3 s4 s5 s6 s7 s8 s9 s10 s11 s12 s13 : Sl), forW (tgName 2) (turn KK C0 C1 C2 C3 C4 C5 C6 C7 C8 C9 C10 C11 CS) P items [s0, .pu .bag, s2, s3, s4, s5, s6, s7, s8, s9, s10, s11, s12, s13]
  | [], _, _, _, _, _, _, _, _, _, _, _, _ => hk _ _ _ _ _ _ _ _ _ _ _ _
  | d :: items, s2, s3, s4, s5, s6, s7, s8, s9, s10, s11, s12, s13 => turn_ok (P := { P with nx := forW (tgName 2) (turn KK C0 C1 C2 C3 C4 C5 C6 C7 C8 C9 C10 C11 CS) P items, ct := forW (tgName 2) (turn KK C0 C1 C2 C3 C4 C5 C6 C7 C8 C9 C10 C11 CS) P items, bk := P.nx }) X fun s3 s4 s5 s6 s7 s8 s9 s10 s11 s12 s13 => loop_ok X hk items _ _ _ _ _ _ _ _ _ _ _ _
theorem tail_ok {s0 s2 s3 s4 s5 s6 s7 s8 s9 s10 s11 s12 s13 : Sl} (X : XH KK C2 C3 C4 C5 C6 C7 C8 C9 C10) (hk : ∀ Γ, P.rt (.bl true) Γ) : tail KK C0 C1 C2 C3 C4 C5 C6 C7 C8 C9 C10 C11 CS P [s0, .pu .bag, s2, s3, s4, s5, s6, s7, s8, s9, s10, s11, s12, s13] := by
  refine st_fns (by show 8 < 14; decide) fun fs l Gx hfl => ?_
  let G : Ga := [s0, .pu .bag, s2, s3, s4, s5, s6, s7, .pf (clsD fs) l Gx, s9, s10, s11, s12, s13]
  let G6 : Ga := gset (wipeG G [9]) 9 .un
  let IT : D := .tup [.str ISTO, .int 0]
  let TT : D := .tup [.str TMW, .int 120]
  have oIT : okS 7 IT := ⟨by show 2 ≤ 100000; decide, ⟨by decide, rfl⟩, trivial, trivial⟩
  have oTT : okS 7 TT := ⟨by show 2 ≤ 100000; decide, ⟨by decide, rfl⟩, trivial, trivial⟩
  have ha : okA [97] := ⟨by decide, by decide, List.pairwise_singleton _ _, by decide⟩
  have A1 : Ev (tpLam 2 (askF KK C0 C1 C2 C3 C4 C5 C6 C7 C8 C9 C10 C11) (tpMake CS (fsStoI CS C3 C6 C10) 2 (tlCons (tpC (.str [97])) (tlCons (tpLst tlNil) tlNil)))) G6 IT := ask_index X.x6 X.h6 X.e65 X.e66 (evx_make (evl_2 (ev_c _) (ev_lst evl_nil (Nat.zero_le _))) rfl fun k kx z => ⟨rfl, goodL_of ha, .inr ⟨_, ⟨rfl, ha⟩, .inr ⟨[], rfl, .inl ⟨rfl, z⟩⟩⟩⟩)
  have A2 : Ev (tpLam 2 (askF KK C0 C1 C2 C3 C4 C5 C6 C7 C8 C9 C10 C11) (tpMake CS (fsStoI CS C3 C6 C10) 2 (tlCons (tpC (.str [97])) (tlCons (tpC .non) tlNil)))) G6 IT := ask_index X.x6 X.h6 X.e65 X.e66 (evx_make (evl_2 (ev_c _) (ev_c _)) rfl fun k kx z => ⟨rfl, goodL_of ha, .inr ⟨_, ⟨rfl, ha⟩, .inl ⟨rfl, z⟩⟩⟩)
  have nons : Ev (tpOp fMul (tpLst (tlCons (tpC .non) tlNil)) (tpC (.int 121))) (purify G6) (.lst (List.replicate 121 .non)) := by
    have := ev_mulL (Γ := purify G6) (ev_lst (evl_1 (ev_c .non)) (by show 1 ≤ 100000; decide)) (ev_c (.int ((121 : Nat) : Int))) (by decide) (by decide) (by show 121 ≤ sizeLine; decide)
    rwa [Int.toNat_natCast, rep_one] at this
  have A3 : Ev (tpLam 2 (askF KK C0 C1 C2 C3 C4 C5 C6 C7 C8 C9 C10 C11) (tpMake CS (fsStoI CS C3 C6 C10) 2 (tlCons (tpC (.str [97])) (tlCons (tpOp fMul (tpLst (tlCons (tpC .non) tlNil)) (tpC (.int 121))) tlNil)))) G6 TT := ask_most X.x10 X.h10 X.e105 X.e106 X.e1010 (evx_make (evl_2 (ev_c _) nons) rfl fun k kx z => ⟨rfl, goodL_of ha, .inr ⟨_, ⟨rfl, ha⟩, .inr ⟨List.replicate 121 .non, rfl, .inr (.inl ⟨⟨by rw [List.length_replicate]; decide, by rw [List.length_replicate]; decide⟩, z⟩)⟩⟩⟩)
  have lc := ev_askLc (G := G) (fs := fs) (l := l) (Gx := Gx) (i := 8) (h := 9) (ds := [IT, IT, TT]) hfl (by show 3 ≤ 100000; decide) rfl (fun _ => rfl) (fun _ => rfl) ⟨A1, A2, A3, trivial⟩
  have tt : ∀ T d, Ev (tpTup (tlCons (tpC (.str T)) (tlCons (tpC d) tlNil))) G (.tup [.str T, d]) := fun T d => ev_tup (evl_2 (ev_c _) (ev_c _)) (by show 2 ≤ 100000; decide)
  have c1 := sameV lc (ev_lst (evl_3 (tt ISTO (.int 0)) (tt ISTO (.int 0)) (tt TMW (.int 120))) (by show 3 ≤ 100000; decide)) rfl ⟨by show 3 ≤ 100000; decide, oIT, oIT, oTT, trivial⟩
  exact st_ret (Γ := G) c1 (hk _)
theorem law_ok' (g3 : Giv KK C2 C3 C4 C7 C8 C9 C3) (x6 : ∀ f : PySem.Str, f = "tag" ∨ f = "index" → XFld KK (.ref C6) f) (h6 : PySem.W.exmAny KK (.ref C6) [.ref C2, .ref C3, .ref C4, .ref C7, .ref C8, .ref C9] = some false) (e65 : PySem.W.exmOne KK (.ref C6) (.ref C5) = some false) (e66 : PySem.W.exmOne KK (.ref C6) (.ref C6) = some true)
    (x10 : ∀ f : PySem.Str, f = "tag" ∨ f = "most" → XFld KK (.ref C10) f) (h10 : PySem.W.exmAny KK (.ref C10) [.ref C2, .ref C3, .ref C4, .ref C7, .ref C8, .ref C9] = some false) (e105 : PySem.W.exmOne KK (.ref C10) (.ref C5) = some false) (e106 : PySem.W.exmOne KK (.ref C10) (.ref C6) = some false) (e1010 : PySem.W.exmOne KK (.ref C10) (.ref C10) = some true) :
    fsLaw ds kd kx → m_law KK C0 C1 C2 C3 C4 C5 C6 C7 C8 C9 C10 C11 CS fsStart fsAlpha fsPull fsLRows fsBadDs (fsSame 9) fsPick (fsRefused CS) (fsIdle CS C3 C9) (fsRows CS) (fsStoI CS C3 C6 C10) ds kd kx := by
  intro h0
  have X : XH KK C2 C3 C4 C5 C6 C7 C8 C9 C10 := ⟨g3, x6, h6, e65, e66, x10, h10, e105, e106, e1010⟩
  match ds, h0 with
  | [.scr], h =>
    refine ⟨rfl, ⟨by decide, by decide⟩, ?_⟩
    exact loop_ok (P := { fEnds kd kx with nx := _ }) X (fun s2 s3 s4 s5 s6 s7 s8 s9 s10 s11 s12 s13 => tail_ok X fun _ => h) _ _ _ _ _ _ _ _ _ _ _ _ _
end
end K22
set_option Elab.async false
set_option linter.all false
set_option maxRecDepth 100000
set_option maxHeartbeats 8000000
namespace K22
open PySem L2 PL
abbrev s_law_start : Stmt := top 31
theorem sc_law_start : FnScope ["_law_script"] ["_law_script"] (defScope s_law_start) := ⟨rfl, rfl, rfl, by decide +kernel, rfl, by decide +kernel, by decide +kernel⟩
section
variable {P : Program} {w : World} {K : PySem.W.Frag} {mg : PySem.Str → Option Value} {base : Heap} {C : Cls}
theorem ok_law_start [Tabl] {f : Addr} {fd : FuncData} (F : Fun K "_law_start" "_law_start" s_law_start f fd) (T : Txt P K mg C) : FnOk P w K mg base (L2.CX P w) (0 + 1) f fd ["_law_script"] (spOf K 1 fsStart) :=
  start_ok F sc_law_start rfl fun cdv A outer s H E => pss_one (ps_ret (pe_lst (pa_cons (pe_callTy call_list_of (by rfl) T.b_list (by decide +kernel) (pa_cons (pe_slice sl_list (pv 0) po_none (po_some pe_int)) pa_nil)) (pa_cons pe_int (pa_cons pe_int (pa_cons (pe_op op_add pe_int (pe_callB call_len (by rfl) T.b_len (by decide +kernel) (pa_cons (pv 0) pa_nil))) pa_nil))))))
end
theorem xtext_InvalidCount : PySem.ExcX.XText (inClass (top 11) 0) "InvalidCount" "given" :=
  ⟨⟨_, _, rfl⟩, ⟨_, _, _, _, _, _, _, _, _, _, _, _, _, _, rfl, fun env => ⟨_, rfl⟩⟩, rfl, by decide, by decide, by decide, by decide, by decide, by decide, fun _ _ _ _ _ _ _ _ _ _ _ => rfl⟩
theorem xtext_InvalidDeed : PySem.ExcX.XText (inClass (top 4) 0) "InvalidDeed" "given" :=
  ⟨⟨_, _, rfl⟩, ⟨_, _, _, _, _, _, _, _, _, _, _, _, _, _, rfl, fun env => ⟨_, rfl⟩⟩, rfl, by decide, by decide, by decide, by decide, by decide, by decide, fun _ _ _ _ _ _ _ _ _ _ _ => rfl⟩
theorem xtext_InvalidDeeds : PySem.ExcX.XText (inClass (top 5) 0) "InvalidDeeds" "given" :=
  ⟨⟨_, _, rfl⟩, ⟨_, _, _, _, _, _, _, _, _, _, _, _, _, _, rfl, fun env => ⟨_, rfl⟩⟩, rfl, by decide, by decide, by decide, by decide, by decide, by decide, fun _ _ _ _ _ _ _ _ _ _ _ => rfl⟩
theorem xtext_InvalidLog : PySem.ExcX.XText (inClass (top 6) 0) "InvalidLog" "given" :=
  ⟨⟨_, _, rfl⟩, ⟨_, _, _, _, _, _, _, _, _, _, _, _, _, _, rfl, fun env => ⟨_, rfl⟩⟩, rfl, by decide, by decide, by decide, by decide, by decide, by decide, fun _ _ _ _ _ _ _ _ _ _ _ => rfl⟩
theorem xtext_InvalidStand : PySem.ExcX.XText (inClass (top 9) 0) "InvalidStand" "given" :=
  ⟨⟨_, _, rfl⟩, ⟨_, _, _, _, _, _, _, _, _, _, _, _, _, _, rfl, fun env => ⟨_, rfl⟩⟩, rfl, by decide, by decide, by decide, by decide, by decide, by decide, fun _ _ _ _ _ _ _ _ _ _ _ => rfl⟩
theorem xtext_InvalidStore : PySem.ExcX.XText (inClass (top 8) 0) "InvalidStore" "index" :=
  ⟨⟨_, _, rfl⟩, ⟨_, _, _, _, _, _, _, _, _, _, _, _, _, _, rfl, fun env => ⟨_, rfl⟩⟩, rfl, by decide, by decide, by decide, by decide, by decide, by decide, fun _ _ _ _ _ _ _ _ _ _ _ => rfl⟩
theorem xtext_TooMany : PySem.ExcX.XText (inClass (top 12) 0) "TooMany" "most" :=
  ⟨⟨_, _, rfl⟩, ⟨_, _, _, _, _, _, _, _, _, _, _, _, _, _, rfl, fun env => ⟨_, rfl⟩⟩, rfl, by decide, by decide, by decide, by decide, by decide, by decide, fun _ _ _ _ _ _ _ _ _ _ _ => rfl⟩
theorem all_mk {l : PySem.W.OpenLaw} {w : World} {K : PySem.W.Frag} {h : Heap} {mg : PySem.Str → Option Value} {fa : Addr} (KX : K.In h) (G : h.Ns mainGlobals mg) (hfa : mg "law" = some (.ref fa))
    {C_Store : Addr} {pfa_Store___call__ : Addr} {pfa_Store___getitem__ : Addr} {mp_Store_idle : Addr} {mr_Store_idle : List Value} {f_is_number : Addr} {oc_is_number kV_is_number dc_is_number pm_is_number cd_is_number ct_is_number : Value} {od_is_number an_is_number : Option Addr} {sl_is_number : Array (Option Value)} {f_is_within : Addr} {oc_is_within kV_is_within dc_is_within pm_is_within cd_is_within ct_is_within : Value} {od_is_within an_is_within : Option Addr} {sl_is_within : Array (Option Value)} {f_is_log : Addr} {oc_is_log kV_is_log dc_is_log pm_is_log cd_is_log ct_is_log : Value} {od_is_log an_is_log : Option Addr} {sl_is_log : Array (Option Value)} {f_is_log_of : Addr} {oc_is_log_of kV_is_log_of dc_is_log_of pm_is_log_of cd_is_log_of ct_is_log_of : Value} {od_is_log_of an_is_log_of : Option Addr} {sl_is_log_of : Array (Option Value)} {f_is_ascending : Addr} {oc_is_ascending kV_is_ascending dc_is_ascending pm_is_ascending cd_is_ascending ct_is_ascending : Value} {od_is_ascending an_is_ascending : Option Addr} {sl_is_ascending : Array (Option Value)} {f_is_deeds : Addr} {oc_is_deeds kV_is_deeds dc_is_deeds pm_is_deeds cd_is_deeds ct_is_deeds : Value} {od_is_deeds an_is_deeds : Option Addr} {sl_is_deeds : Array (Option Value)} {f_need_log_of : Addr} {oc_need_log_of kV_need_log_of dc_need_log_of pm_need_log_of cd_need_log_of ct_need_log_of : Value} {od_need_log_of an_need_log_of : Option Addr} {sl_need_log_of : Array (Option Value)} {f_need_deeds : Addr} {oc_need_deeds kV_need_deeds dc_need_deeds pm_need_deeds cd_need_deeds ct_need_deeds : Value} {od_need_deeds an_need_deeds : Option Addr} {sl_need_deeds : Array (Option Value)} {f_need_rows : Addr} {oc_need_rows kV_need_rows dc_need_rows pm_need_rows cd_need_rows ct_need_rows : Value} {od_need_rows an_need_rows : Option Addr} {sl_need_rows : Array (Option Value)} {f_place_of : Addr} {oc_place_of kV_place_of dc_place_of pm_place_of cd_place_of ct_place_of : Value} {od_place_of an_place_of : Option Addr} {sl_place_of : Array (Option Value)} {f_Store___init__ : Addr} {oc_Store___init__ kV_Store___init__ dc_Store___init__ pm_Store___init__ cd_Store___init__ ct_Store___init__ : Value} {od_Store___init__ an_Store___init__ : Option Addr} {sl_Store___init__ : Array (Option Value)} {f_Store_idle dT_Store_idle : Addr} {oc_Store_idle kV_Store_idle dc_Store_idle pm_Store_idle cd_Store_idle ct_Store_idle dtc_Store_idle : Value} {od_Store_idle an_Store_idle dtd_Store_idle : Option Addr} {sl_Store_idle dts_Store_idle : Array (Option Value)} {dtn_Store_idle : Nat} {dtt_Store_idle : Tok} {f_Store_rows : Addr} {oc_Store_rows kV_Store_rows dc_Store_rows pm_Store_rows cd_Store_rows ct_Store_rows : Value} {od_Store_rows an_Store_rows : Option Addr} {sl_Store_rows : Array (Option Value)} {f_Store_need_stand : Addr} {oc_Store_need_stand kV_Store_need_stand dc_Store_need_stand pm_Store_need_stand cd_Store_need_stand ct_Store_need_stand : Value} {od_Store_need_stand an_Store_need_stand : Option Addr} {sl_Store_need_stand : Array (Option Value)} {f_Store_need_deed : Addr} {oc_Store_need_deed kV_Store_need_deed dc_Store_need_deed pm_Store_need_deed cd_Store_need_deed ct_Store_need_deed : Value} {od_Store_need_deed an_Store_need_deed : Option Addr} {sl_Store_need_deed : Array (Option Value)} {f_Store___call__ : Addr} {oc_Store___call__ kV_Store___call__ dc_Store___call__ pm_Store___call__ cd_Store___call__ ct_Store___call__ : Value} {od_Store___call__ an_Store___call__ : Option Addr} {sl_Store___call__ : Array (Option Value)} {f_Store___getitem__ : Addr} {oc_Store___getitem__ kV_Store___getitem__ dc_Store___getitem__ pm_Store___getitem__ cd_Store___getitem__ ct_Store___getitem__ : Value} {od_Store___getitem__ an_Store___getitem__ : Option Addr} {sl_Store___getitem__ : Array (Option Value)} {f_Store_change : Addr} {oc_Store_change kV_Store_change dc_Store_change pm_Store_change cd_Store_change ct_Store_change : Value} {od_Store_change an_Store_change : Option Addr} {sl_Store_change : Array (Option Value)} {f_Store___setitem__ : Addr} {oc_Store___setitem__ kV_Store___setitem__ dc_Store___setitem__ pm_Store___setitem__ cd_Store___setitem__ ct_Store___setitem__ : Value} {od_Store___setitem__ an_Store___setitem__ : Option Addr} {sl_Store___setitem__ : Array (Option Value)} {f_Store_reached : Addr} {oc_Store_reached kV_Store_reached dc_Store_reached pm_Store_reached cd_Store_reached ct_Store_reached : Value} {od_Store_reached an_Store_reached : Option Addr} {sl_Store_reached : Array (Option Value)} {f_law_pull : Addr} {oc_law_pull kV_law_pull dc_law_pull pm_law_pull cd_law_pull ct_law_pull : Value} {od_law_pull an_law_pull : Option Addr} {sl_law_pull : Array (Option Value)} {f_law_pick : Addr} {oc_law_pick kV_law_pick dc_law_pick pm_law_pick cd_law_pick ct_law_pick : Value} {od_law_pick an_law_pick : Option Addr} {sl_law_pick : Array (Option Value)} {f_law_letters : Addr} {oc_law_letters kV_law_letters dc_law_letters pm_law_letters cd_law_letters ct_law_letters : Value} {od_law_letters an_law_letters : Option Addr} {sl_law_letters : Array (Option Value)} {f_law_alphabet : Addr} {oc_law_alphabet kV_law_alphabet dc_law_alphabet pm_law_alphabet cd_law_alphabet ct_law_alphabet : Value} {od_law_alphabet an_law_alphabet : Option Addr} {sl_law_alphabet : Array (Option Value)} {f_law_rows : Addr} {oc_law_rows kV_law_rows dc_law_rows pm_law_rows cd_law_rows ct_law_rows : Value} {od_law_rows an_law_rows : Option Addr} {sl_law_rows : Array (Option Value)} {f_law_bad_deeds : Addr} {oc_law_bad_deeds kV_law_bad_deeds dc_law_bad_deeds pm_law_bad_deeds cd_law_bad_deeds ct_law_bad_deeds : Value} {od_law_bad_deeds an_law_bad_deeds : Option Addr} {sl_law_bad_deeds : Array (Option Value)} {f_law_same : Addr} {oc_law_same kV_law_same dc_law_same pm_law_same cd_law_same ct_law_same : Value} {od_law_same an_law_same : Option Addr} {sl_law_same : Array (Option Value)} {f_law_ask : Addr} {oc_law_ask kV_law_ask dc_law_ask pm_law_ask cd_law_ask ct_law_ask : Value} {od_law_ask an_law_ask : Option Addr} {sl_law_ask : Array (Option Value)} {f_law_laid : Addr} {oc_law_laid kV_law_laid dc_law_laid pm_law_laid cd_law_laid ct_law_laid : Value} {od_law_laid an_law_laid : Option Addr} {sl_law_laid : Array (Option Value)} {f_law_calls_refused c_law_calls_refused Pt_law_calls_refused : Addr} {oc_law_calls_refused kV_law_calls_refused dc_law_calls_refused pm_law_calls_refused ct_law_calls_refused : Value} {od_law_calls_refused an_law_calls_refused : Option Addr} {sl_law_calls_refused : Array (Option Value)} {f_law c_law Pt_law : Addr} {oc_law kV_law dc_law pm_law ct_law : Value} {od_law an_law : Option Addr} {sl_law : Array (Option Value)} {f_law_start : Addr} {oc_law_start kV_law_start dc_law_start pm_law_start cd_law_start ct_law_start : Value} {od_law_start an_law_start : Option Addr} {sl_law_start : Array (Option Value)} {ccl_law_calls_refused : Value} {cdd_law_calls_refused : Option Addr} {vs_law_calls_refused : Array Value} {ccs_law_calls_refused : Array (Option Value)} {ccl_law : Value} {cdd_law : Option Addr} {vs_law : Array Value} {ccs_law : Array (Option Value)} {t_LETTERS : Tok} {t_MOST_DEEDS : Tok} {t_MOST_STANDS : Tok} {C_LogError : Addr} {C_Missing : Addr} {C_InvalidDeed : Addr} {C_InvalidDeeds : Addr} {C_InvalidLog : Addr} {C_InvalidStep : Addr} {C_InvalidStore : Addr} {C_InvalidStand : Addr} {C_InvalidNumber : Addr} {C_InvalidCount : Addr} {C_TooMany : Addr} {C_NothingLeft : Addr} {nm_InvalidCount q_InvalidCount : PySem.Str} {N_InvalidCount : Addr} {bs_InvalidCount bm_InvalidCount : List Value} {sn_InvalidCount : List PySem.Str} {sub_InvalidCount : List Value} {ab_InvalidCount : Bool} {col_InvalidCount : Option Bool} {dd_InvalidCount : Option Addr} {m0_InvalidCount m1_InvalidCount m2_InvalidCount m3_InvalidCount m5_InvalidCount : Option Value} {fI_InvalidCount cda_InvalidCount cc_InvalidCount : Addr} {oc_InvalidCount dc_InvalidCount pm_InvalidCount ct_InvalidCount ccl_InvalidCount cl_InvalidCount : Value} {od_InvalidCount an_InvalidCount cdd_InvalidCount cld_InvalidCount : Option Addr} {sl_InvalidCount ccs_InvalidCount csl_InvalidCount : Array (Option Value)} {vs_InvalidCount : Array Value} {fl_InvalidCount : PySem.Str} {tf_InvalidCount : Tok} {nm_InvalidDeed q_InvalidDeed : PySem.Str} {N_InvalidDeed : Addr} {bs_InvalidDeed bm_InvalidDeed : List Value} {sn_InvalidDeed : List PySem.Str} {sub_InvalidDeed : List Value} {ab_InvalidDeed : Bool} {col_InvalidDeed : Option Bool} {dd_InvalidDeed : Option Addr} {m0_InvalidDeed m1_InvalidDeed m2_InvalidDeed m3_InvalidDeed m5_InvalidDeed : Option Value} {fI_InvalidDeed cda_InvalidDeed cc_InvalidDeed : Addr} {oc_InvalidDeed dc_InvalidDeed pm_InvalidDeed ct_InvalidDeed ccl_InvalidDeed cl_InvalidDeed : Value} {od_InvalidDeed an_InvalidDeed cdd_InvalidDeed cld_InvalidDeed : Option Addr} {sl_InvalidDeed ccs_InvalidDeed csl_InvalidDeed : Array (Option Value)} {vs_InvalidDeed : Array Value} {fl_InvalidDeed : PySem.Str} {tf_InvalidDeed : Tok} {nm_InvalidDeeds q_InvalidDeeds : PySem.Str} {N_InvalidDeeds : Addr} {bs_InvalidDeeds bm_InvalidDeeds : List Value} {sn_InvalidDeeds : List PySem.Str} {sub_InvalidDeeds : List Value} {ab_InvalidDeeds : Bool} {col_InvalidDeeds : Option Bool} {dd_InvalidDeeds : Option Addr} {m0_InvalidDeeds m1_InvalidDeeds m2_InvalidDeeds m3_InvalidDeeds m5_InvalidDeeds : Option Value} {fI_InvalidDeeds cda_InvalidDeeds cc_InvalidDeeds : Addr} {oc_InvalidDeeds dc_InvalidDeeds pm_InvalidDeeds ct_InvalidDeeds ccl_InvalidDeeds cl_InvalidDeeds : Value} {od_InvalidDeeds an_InvalidDeeds cdd_InvalidDeeds cld_InvalidDeeds : Option Addr} {sl_InvalidDeeds ccs_InvalidDeeds csl_InvalidDeeds : Array (Option Value)} {vs_InvalidDeeds : Array Value} {fl_InvalidDeeds : PySem.Str} {tf_InvalidDeeds : Tok} {nm_InvalidLog q_InvalidLog : PySem.Str} {N_InvalidLog : Addr} {bs_InvalidLog bm_InvalidLog : List Value} {sn_InvalidLog : List PySem.Str} {sub_InvalidLog : List Value} {ab_InvalidLog : Bool} {col_InvalidLog : Option Bool} {dd_InvalidLog : Option Addr} {m0_InvalidLog m1_InvalidLog m2_InvalidLog m3_InvalidLog m5_InvalidLog : Option Value} {fI_InvalidLog cda_InvalidLog cc_InvalidLog : Addr} {oc_InvalidLog dc_InvalidLog pm_InvalidLog ct_InvalidLog ccl_InvalidLog cl_InvalidLog : Value} {od_InvalidLog an_InvalidLog cdd_InvalidLog cld_InvalidLog : Option Addr} {sl_InvalidLog ccs_InvalidLog csl_InvalidLog : Array (Option Value)} {vs_InvalidLog : Array Value} {fl_InvalidLog : PySem.Str} {tf_InvalidLog : Tok} {nm_InvalidStand q_InvalidStand : PySem.Str} {N_InvalidStand : Addr} {bs_InvalidStand bm_InvalidStand : List Value} {sn_InvalidStand : List PySem.Str} {sub_InvalidStand : List Value} {ab_InvalidStand : Bool} {col_InvalidStand : Option Bool} {dd_InvalidStand : Option Addr} {m0_InvalidStand m1_InvalidStand m2_InvalidStand m3_InvalidStand m5_InvalidStand : Option Value} {fI_InvalidStand cda_InvalidStand cc_InvalidStand : Addr} {oc_InvalidStand dc_InvalidStand pm_InvalidStand ct_InvalidStand ccl_InvalidStand cl_InvalidStand : Value} {od_InvalidStand an_InvalidStand cdd_InvalidStand cld_InvalidStand : Option Addr} {sl_InvalidStand ccs_InvalidStand csl_InvalidStand : Array (Option Value)} {vs_InvalidStand : Array Value} {fl_InvalidStand : PySem.Str} {tf_InvalidStand : Tok} {nm_InvalidStore q_InvalidStore : PySem.Str} {N_InvalidStore : Addr} {bs_InvalidStore bm_InvalidStore : List Value} {sn_InvalidStore : List PySem.Str} {sub_InvalidStore : List Value} {ab_InvalidStore : Bool} {col_InvalidStore : Option Bool} {dd_InvalidStore : Option Addr} {m0_InvalidStore m1_InvalidStore m2_InvalidStore m3_InvalidStore m5_InvalidStore : Option Value} {fI_InvalidStore cda_InvalidStore cc_InvalidStore : Addr} {oc_InvalidStore dc_InvalidStore pm_InvalidStore ct_InvalidStore ccl_InvalidStore cl_InvalidStore : Value} {od_InvalidStore an_InvalidStore cdd_InvalidStore cld_InvalidStore : Option Addr} {sl_InvalidStore ccs_InvalidStore csl_InvalidStore : Array (Option Value)} {vs_InvalidStore : Array Value} {fl_InvalidStore : PySem.Str} {tf_InvalidStore : Tok} {nm_TooMany q_TooMany : PySem.Str} {N_TooMany : Addr} {bs_TooMany bm_TooMany : List Value} {sn_TooMany : List PySem.Str} {sub_TooMany : List Value} {ab_TooMany : Bool} {col_TooMany : Option Bool} {dd_TooMany : Option Addr} {m0_TooMany m1_TooMany m2_TooMany m3_TooMany m5_TooMany : Option Value} {fI_TooMany cda_TooMany cc_TooMany : Addr} {oc_TooMany dc_TooMany pm_TooMany ct_TooMany ccl_TooMany cl_TooMany : Value} {od_TooMany an_TooMany cdd_TooMany cld_TooMany : Option Addr} {sl_TooMany ccs_TooMany csl_TooMany : Array (Option Value)} {vs_TooMany : Array Value} {fl_TooMany : PySem.Str} {tf_TooMany : Tok}
    (tb : h.get? Pt_law_calls_refused = some (PySem.W.tabObj #[]))
    (tb1 : h.get? Pt_law = some (PySem.W.tabObj #[]))
    (g_Store : PySem.W.nsIn K mainGlobals "Store" = some (some (.ref C_Store)))
    (kg_Store : PySem.W.plainGet K C_Store PySem.Str.empty = true)
    (kh_Store : PySem.W.hasDictIn K C_Store = true)
    (ko_Store : PySem.W.plainOver K C_Store = true)
    (ks_Store : PySem.W.findIn K (.ref C_Store) "__setattr__" = some (some (.builtin "object.__setattr__")))
    (fn_Store_own_deeds : PySem.W.findIn K (.ref C_Store) "own_deeds" = some none)
    (fn_Store_table : PySem.W.findIn K (.ref C_Store) "table" = some none)
    (fns_Store : PySem.W.noSeq K C_Store = true)
    (fafa_Store___call__ : PySem.W.findIn K (.ref C_Store) "__call__" = some (some (.ref pfa_Store___call__)))
    (fbfa_Store___call__ : PySem.W.fnIn K pfa_Store___call__ = true)
    (fafa_Store___getitem__ : PySem.W.findIn K (.ref C_Store) "__getitem__" = some (some (.ref pfa_Store___getitem__)))
    (fbfa_Store___getitem__ : PySem.W.fnIn K pfa_Store___getitem__ = true)
    (ia_Store : PySem.W.makesIn K C_Store = true)
    (ib_Store : PySem.W.findIn K (.ref C_Store) "__init__" = some (some (.ref f_Store___init__)))
    (ic_Store : PySem.W.isFn K (.ref f_Store___init__) = true)
    (id_Store : PySem.W.keepIn K (.ref C_Store) = true)
    (ma_Store_need_stand : PySem.W.findIn K (.ref C_Store) "need_stand" = some (some (.ref f_Store_need_stand)))
    (mf_Store_need_stand : PySem.W.isFn K (.ref f_Store_need_stand) = true)
    (mk_Store_need_stand : PySem.W.keepIn K (.ref f_Store_need_stand) = true)
    (ma_Store_need_deed : PySem.W.findIn K (.ref C_Store) "need_deed" = some (some (.ref f_Store_need_deed)))
    (mf_Store_need_deed : PySem.W.isFn K (.ref f_Store_need_deed) = true)
    (mk_Store_need_deed : PySem.W.keepIn K (.ref f_Store_need_deed) = true)
    (ma_Store_change : PySem.W.findIn K (.ref C_Store) "change" = some (some (.ref f_Store_change)))
    (mf_Store_change : PySem.W.isFn K (.ref f_Store_change) = true)
    (mk_Store_change : PySem.W.keepIn K (.ref f_Store_change) = true)
    (ma_Store___setitem__ : PySem.W.findIn K (.ref C_Store) "__setitem__" = some (some (.ref f_Store___setitem__)))
    (mf_Store___setitem__ : PySem.W.isFn K (.ref f_Store___setitem__) = true)
    (mk_Store___setitem__ : PySem.W.keepIn K (.ref f_Store___setitem__) = true)
    (ma_Store___call__ : PySem.W.findIn K (.ref C_Store) "__call__" = some (some (.ref f_Store___call__)))
    (mf_Store___call__ : PySem.W.isFn K (.ref f_Store___call__) = true)
    (mk_Store___call__ : PySem.W.keepIn K (.ref f_Store___call__) = true)
    (ma_Store___getitem__ : PySem.W.findIn K (.ref C_Store) "__getitem__" = some (some (.ref f_Store___getitem__)))
    (mf_Store___getitem__ : PySem.W.isFn K (.ref f_Store___getitem__) = true)
    (mk_Store___getitem__ : PySem.W.keepIn K (.ref f_Store___getitem__) = true)
    (ma_Store_reached : PySem.W.findIn K (.ref C_Store) "reached" = some (some (.ref f_Store_reached)))
    (mf_Store_reached : PySem.W.isFn K (.ref f_Store_reached) = true)
    (mk_Store_reached : PySem.W.keepIn K (.ref f_Store_reached) = true)
    (ma_Store_idle : PySem.W.findCls K (.ref C_Store) (.type "type") "idle" = some (.get (.builtin "classmethod.__get__") (.ref mp_Store_idle) .none (.ref C_Store)))
    (mb_Store_idle : PySem.W.readsIn K C_Store (.type "type") = true)
    (mg_Store_idle : PySem.W.specialIn K (.ref C_Store) "__getattribute__" = some (some (.builtin "type.__getattribute__")))
    (mr_Store_idle_ : PySem.W.recIn K mp_Store_idle "classmethod" = some (.ref f_Store_idle :: mr_Store_idle))
    (mf_Store_idle : PySem.W.fnIn K f_Store_idle = true)
    (ma_Store_rows : PySem.W.findIn K (.ref C_Store) "rows" = some (some (.ref f_Store_rows)))
    (mf_Store_rows : PySem.W.isFn K (.ref f_Store_rows) = true)
    (mk_Store_rows : PySem.W.keepIn K (.ref f_Store_rows) = true)
    (a_is_number : PySem.W.nsIn K mainGlobals "is_number" = some (some (.ref f_is_number)))
    (l_is_number : K.lookup f_is_number = some ⟨oc_is_number, od_is_number, .func (PySem.W.fnOf "is_number" "is_number" (defArgs s_is_number) (defBody s_is_number) (defScope s_is_number) .none kV_is_number dc_is_number pm_is_number an_is_number cd_is_number ct_is_number), sl_is_number⟩)
    (c_is_number_ : PySem.W.codeIn K cd_is_number "is_number" = true)
    (k_is_number : PySem.W.keepIn K (.ref f_is_number) = true)
    (a_is_within : PySem.W.nsIn K mainGlobals "is_within" = some (some (.ref f_is_within)))
    (l_is_within : K.lookup f_is_within = some ⟨oc_is_within, od_is_within, .func (PySem.W.fnOf "is_within" "is_within" (defArgs s_is_within) (defBody s_is_within) (defScope s_is_within) .none kV_is_within dc_is_within pm_is_within an_is_within cd_is_within ct_is_within), sl_is_within⟩)
    (c_is_within_ : PySem.W.codeIn K cd_is_within "is_within" = true)
    (k_is_within : PySem.W.keepIn K (.ref f_is_within) = true)
    (a_is_log : PySem.W.nsIn K mainGlobals "is_log" = some (some (.ref f_is_log)))
    (l_is_log : K.lookup f_is_log = some ⟨oc_is_log, od_is_log, .func (PySem.W.fnOf "is_log" "is_log" (defArgs s_is_log) (defBody s_is_log) (defScope s_is_log) .none kV_is_log dc_is_log pm_is_log an_is_log cd_is_log ct_is_log), sl_is_log⟩)
    (c_is_log_ : PySem.W.codeIn K cd_is_log "is_log" = true)
    (k_is_log : PySem.W.keepIn K (.ref f_is_log) = true)
    (a_is_log_of : PySem.W.nsIn K mainGlobals "is_log_of" = some (some (.ref f_is_log_of)))
    (l_is_log_of : K.lookup f_is_log_of = some ⟨oc_is_log_of, od_is_log_of, .func (PySem.W.fnOf "is_log_of" "is_log_of" (defArgs s_is_log_of) (defBody s_is_log_of) (defScope s_is_log_of) .none kV_is_log_of dc_is_log_of pm_is_log_of an_is_log_of cd_is_log_of ct_is_log_of), sl_is_log_of⟩)
    (c_is_log_of_ : PySem.W.codeIn K cd_is_log_of "is_log_of" = true)
    (k_is_log_of : PySem.W.keepIn K (.ref f_is_log_of) = true)
    (a_is_ascending : PySem.W.nsIn K mainGlobals "is_ascending" = some (some (.ref f_is_ascending)))
    (l_is_ascending : K.lookup f_is_ascending = some ⟨oc_is_ascending, od_is_ascending, .func (PySem.W.fnOf "is_ascending" "is_ascending" (defArgs s_is_ascending) (defBody s_is_ascending) (defScope s_is_ascending) .none kV_is_ascending dc_is_ascending pm_is_ascending an_is_ascending cd_is_ascending ct_is_ascending), sl_is_ascending⟩)
    (c_is_ascending_ : PySem.W.codeIn K cd_is_ascending "is_ascending" = true)
    (k_is_ascending : PySem.W.keepIn K (.ref f_is_ascending) = true)
    (a_is_deeds : PySem.W.nsIn K mainGlobals "is_deeds" = some (some (.ref f_is_deeds)))
    (l_is_deeds : K.lookup f_is_deeds = some ⟨oc_is_deeds, od_is_deeds, .func (PySem.W.fnOf "is_deeds" "is_deeds" (defArgs s_is_deeds) (defBody s_is_deeds) (defScope s_is_deeds) .none kV_is_deeds dc_is_deeds pm_is_deeds an_is_deeds cd_is_deeds ct_is_deeds), sl_is_deeds⟩)
    (c_is_deeds_ : PySem.W.codeIn K cd_is_deeds "is_deeds" = true)
    (k_is_deeds : PySem.W.keepIn K (.ref f_is_deeds) = true)
    (a_need_log_of : PySem.W.nsIn K mainGlobals "need_log_of" = some (some (.ref f_need_log_of)))
    (l_need_log_of : K.lookup f_need_log_of = some ⟨oc_need_log_of, od_need_log_of, .func (PySem.W.fnOf "need_log_of" "need_log_of" (defArgs s_need_log_of) (defBody s_need_log_of) (defScope s_need_log_of) .none kV_need_log_of dc_need_log_of pm_need_log_of an_need_log_of cd_need_log_of ct_need_log_of), sl_need_log_of⟩)
    (c_need_log_of_ : PySem.W.codeIn K cd_need_log_of "need_log_of" = true)
    (k_need_log_of : PySem.W.keepIn K (.ref f_need_log_of) = true)
    (a_need_deeds : PySem.W.nsIn K mainGlobals "need_deeds" = some (some (.ref f_need_deeds)))
    (l_need_deeds : K.lookup f_need_deeds = some ⟨oc_need_deeds, od_need_deeds, .func (PySem.W.fnOf "need_deeds" "need_deeds" (defArgs s_need_deeds) (defBody s_need_deeds) (defScope s_need_deeds) .none kV_need_deeds dc_need_deeds pm_need_deeds an_need_deeds cd_need_deeds ct_need_deeds), sl_need_deeds⟩)
    (c_need_deeds_ : PySem.W.codeIn K cd_need_deeds "need_deeds" = true)
    (k_need_deeds : PySem.W.keepIn K (.ref f_need_deeds) = true)
    (a_need_rows : PySem.W.nsIn K mainGlobals "need_rows" = some (some (.ref f_need_rows)))
    (l_need_rows : K.lookup f_need_rows = some ⟨oc_need_rows, od_need_rows, .func (PySem.W.fnOf "need_rows" "need_rows" (defArgs s_need_rows) (defBody s_need_rows) (defScope s_need_rows) .none kV_need_rows dc_need_rows pm_need_rows an_need_rows cd_need_rows ct_need_rows), sl_need_rows⟩)
    (c_need_rows_ : PySem.W.codeIn K cd_need_rows "need_rows" = true)
    (k_need_rows : PySem.W.keepIn K (.ref f_need_rows) = true)
    (a_place_of : PySem.W.nsIn K mainGlobals "place_of" = some (some (.ref f_place_of)))
    (l_place_of : K.lookup f_place_of = some ⟨oc_place_of, od_place_of, .func (PySem.W.fnOf "place_of" "place_of" (defArgs s_place_of) (defBody s_place_of) (defScope s_place_of) .none kV_place_of dc_place_of pm_place_of an_place_of cd_place_of ct_place_of), sl_place_of⟩)
    (c_place_of_ : PySem.W.codeIn K cd_place_of "place_of" = true)
    (k_place_of : PySem.W.keepIn K (.ref f_place_of) = true)
    (l_Store___init__ : K.lookup f_Store___init__ = some ⟨oc_Store___init__, od_Store___init__, .func (PySem.W.fnOf "__init__" "Store.__init__" (defArgs s_Store___init__) (defBody s_Store___init__) (defScope s_Store___init__) .none kV_Store___init__ dc_Store___init__ pm_Store___init__ an_Store___init__ cd_Store___init__ ct_Store___init__), sl_Store___init__⟩)
    (c_Store___init___ : PySem.W.codeIn K cd_Store___init__ "Store.__init__" = true)
    (k_Store___init__ : PySem.W.keepIn K (.ref f_Store___init__) = true)
    (l_Store_idle : K.lookup f_Store_idle = some ⟨oc_Store_idle, od_Store_idle, .func (PySem.W.fnOf "idle" "Store.idle" (defArgs s_Store_idle) (defBody s_Store_idle) (defScope s_Store_idle) (.ref dT_Store_idle) kV_Store_idle dc_Store_idle pm_Store_idle an_Store_idle cd_Store_idle ct_Store_idle), sl_Store_idle⟩)
    (c_Store_idle_ : PySem.W.codeIn K cd_Store_idle "Store.idle" = true)
    (ld_Store_idle : K.lookup dT_Store_idle = some ⟨dtc_Store_idle, dtd_Store_idle, .seq #[.int 1 dtt_Store_idle] dtn_Store_idle, dts_Store_idle⟩)
    (k_Store_idle : PySem.W.keepIn K (.ref f_Store_idle) = true)
    (l_Store_rows : K.lookup f_Store_rows = some ⟨oc_Store_rows, od_Store_rows, .func (PySem.W.fnOf "rows" "Store.rows" (defArgs s_Store_rows) (defBody s_Store_rows) (defScope s_Store_rows) .none kV_Store_rows dc_Store_rows pm_Store_rows an_Store_rows cd_Store_rows ct_Store_rows), sl_Store_rows⟩)
    (c_Store_rows_ : PySem.W.codeIn K cd_Store_rows "Store.rows" = true)
    (l_Store_need_stand : K.lookup f_Store_need_stand = some ⟨oc_Store_need_stand, od_Store_need_stand, .func (PySem.W.fnOf "need_stand" "Store.need_stand" (defArgs s_Store_need_stand) (defBody s_Store_need_stand) (defScope s_Store_need_stand) .none kV_Store_need_stand dc_Store_need_stand pm_Store_need_stand an_Store_need_stand cd_Store_need_stand ct_Store_need_stand), sl_Store_need_stand⟩)
    (c_Store_need_stand_ : PySem.W.codeIn K cd_Store_need_stand "Store.need_stand" = true)
    (l_Store_need_deed : K.lookup f_Store_need_deed = some ⟨oc_Store_need_deed, od_Store_need_deed, .func (PySem.W.fnOf "need_deed" "Store.need_deed" (defArgs s_Store_need_deed) (defBody s_Store_need_deed) (defScope s_Store_need_deed) .none kV_Store_need_deed dc_Store_need_deed pm_Store_need_deed an_Store_need_deed cd_Store_need_deed ct_Store_need_deed), sl_Store_need_deed⟩)
    (c_Store_need_deed_ : PySem.W.codeIn K cd_Store_need_deed "Store.need_deed" = true)
    (l_Store___call__ : K.lookup f_Store___call__ = some ⟨oc_Store___call__, od_Store___call__, .func (PySem.W.fnOf "__call__" "Store.__call__" (defArgs s_Store___call__) (defBody s_Store___call__) (defScope s_Store___call__) .none kV_Store___call__ dc_Store___call__ pm_Store___call__ an_Store___call__ cd_Store___call__ ct_Store___call__), sl_Store___call__⟩)
    (c_Store___call___ : PySem.W.codeIn K cd_Store___call__ "Store.__call__" = true)
    (l_Store___getitem__ : K.lookup f_Store___getitem__ = some ⟨oc_Store___getitem__, od_Store___getitem__, .func (PySem.W.fnOf "__getitem__" "Store.__getitem__" (defArgs s_Store___getitem__) (defBody s_Store___getitem__) (defScope s_Store___getitem__) .none kV_Store___getitem__ dc_Store___getitem__ pm_Store___getitem__ an_Store___getitem__ cd_Store___getitem__ ct_Store___getitem__), sl_Store___getitem__⟩)
    (c_Store___getitem___ : PySem.W.codeIn K cd_Store___getitem__ "Store.__getitem__" = true)
    (l_Store_change : K.lookup f_Store_change = some ⟨oc_Store_change, od_Store_change, .func (PySem.W.fnOf "change" "Store.change" (defArgs s_Store_change) (defBody s_Store_change) (defScope s_Store_change) .none kV_Store_change dc_Store_change pm_Store_change an_Store_change cd_Store_change ct_Store_change), sl_Store_change⟩)
    (c_Store_change_ : PySem.W.codeIn K cd_Store_change "Store.change" = true)
    (l_Store___setitem__ : K.lookup f_Store___setitem__ = some ⟨oc_Store___setitem__, od_Store___setitem__, .func (PySem.W.fnOf "__setitem__" "Store.__setitem__" (defArgs s_Store___setitem__) (defBody s_Store___setitem__) (defScope s_Store___setitem__) .none kV_Store___setitem__ dc_Store___setitem__ pm_Store___setitem__ an_Store___setitem__ cd_Store___setitem__ ct_Store___setitem__), sl_Store___setitem__⟩)
    (c_Store___setitem___ : PySem.W.codeIn K cd_Store___setitem__ "Store.__setitem__" = true)
    (l_Store_reached : K.lookup f_Store_reached = some ⟨oc_Store_reached, od_Store_reached, .func (PySem.W.fnOf "reached" "Store.reached" (defArgs s_Store_reached) (defBody s_Store_reached) (defScope s_Store_reached) .none kV_Store_reached dc_Store_reached pm_Store_reached an_Store_reached cd_Store_reached ct_Store_reached), sl_Store_reached⟩)
    (c_Store_reached_ : PySem.W.codeIn K cd_Store_reached "Store.reached" = true)
    (a_law_pull : PySem.W.nsIn K mainGlobals "_law_pull" = some (some (.ref f_law_pull)))
    (l_law_pull : K.lookup f_law_pull = some ⟨oc_law_pull, od_law_pull, .func (PySem.W.fnOf "_law_pull" "_law_pull" (defArgs s_law_pull) (defBody s_law_pull) (defScope s_law_pull) .none kV_law_pull dc_law_pull pm_law_pull an_law_pull cd_law_pull ct_law_pull), sl_law_pull⟩)
    (c_law_pull_ : PySem.W.codeIn K cd_law_pull "_law_pull" = true)
    (k_law_pull : PySem.W.keepIn K (.ref f_law_pull) = true)
    (a_law_pick : PySem.W.nsIn K mainGlobals "_law_pick" = some (some (.ref f_law_pick)))
    (l_law_pick : K.lookup f_law_pick = some ⟨oc_law_pick, od_law_pick, .func (PySem.W.fnOf "_law_pick" "_law_pick" (defArgs s_law_pick) (defBody s_law_pick) (defScope s_law_pick) .none kV_law_pick dc_law_pick pm_law_pick an_law_pick cd_law_pick ct_law_pick), sl_law_pick⟩)
    (c_law_pick_ : PySem.W.codeIn K cd_law_pick "_law_pick" = true)
    (k_law_pick : PySem.W.keepIn K (.ref f_law_pick) = true)
    (a_law_letters : PySem.W.nsIn K mainGlobals "_law_letters" = some (some (.ref f_law_letters)))
    (l_law_letters : K.lookup f_law_letters = some ⟨oc_law_letters, od_law_letters, .func (PySem.W.fnOf "_law_letters" "_law_letters" (defArgs s_law_letters) (defBody s_law_letters) (defScope s_law_letters) .none kV_law_letters dc_law_letters pm_law_letters an_law_letters cd_law_letters ct_law_letters), sl_law_letters⟩)
    (c_law_letters_ : PySem.W.codeIn K cd_law_letters "_law_letters" = true)
    (k_law_letters : PySem.W.keepIn K (.ref f_law_letters) = true)
    (a_law_alphabet : PySem.W.nsIn K mainGlobals "_law_alphabet" = some (some (.ref f_law_alphabet)))
    (l_law_alphabet : K.lookup f_law_alphabet = some ⟨oc_law_alphabet, od_law_alphabet, .func (PySem.W.fnOf "_law_alphabet" "_law_alphabet" (defArgs s_law_alphabet) (defBody s_law_alphabet) (defScope s_law_alphabet) .none kV_law_alphabet dc_law_alphabet pm_law_alphabet an_law_alphabet cd_law_alphabet ct_law_alphabet), sl_law_alphabet⟩)
    (c_law_alphabet_ : PySem.W.codeIn K cd_law_alphabet "_law_alphabet" = true)
    (k_law_alphabet : PySem.W.keepIn K (.ref f_law_alphabet) = true)
    (a_law_rows : PySem.W.nsIn K mainGlobals "_law_rows" = some (some (.ref f_law_rows)))
    (l_law_rows : K.lookup f_law_rows = some ⟨oc_law_rows, od_law_rows, .func (PySem.W.fnOf "_law_rows" "_law_rows" (defArgs s_law_rows) (defBody s_law_rows) (defScope s_law_rows) .none kV_law_rows dc_law_rows pm_law_rows an_law_rows cd_law_rows ct_law_rows), sl_law_rows⟩)
    (c_law_rows_ : PySem.W.codeIn K cd_law_rows "_law_rows" = true)
    (k_law_rows : PySem.W.keepIn K (.ref f_law_rows) = true)
    (a_law_bad_deeds : PySem.W.nsIn K mainGlobals "_law_bad_deeds" = some (some (.ref f_law_bad_deeds)))
    (l_law_bad_deeds : K.lookup f_law_bad_deeds = some ⟨oc_law_bad_deeds, od_law_bad_deeds, .func (PySem.W.fnOf "_law_bad_deeds" "_law_bad_deeds" (defArgs s_law_bad_deeds) (defBody s_law_bad_deeds) (defScope s_law_bad_deeds) .none kV_law_bad_deeds dc_law_bad_deeds pm_law_bad_deeds an_law_bad_deeds cd_law_bad_deeds ct_law_bad_deeds), sl_law_bad_deeds⟩)
    (c_law_bad_deeds_ : PySem.W.codeIn K cd_law_bad_deeds "_law_bad_deeds" = true)
    (k_law_bad_deeds : PySem.W.keepIn K (.ref f_law_bad_deeds) = true)
    (a_law_same : PySem.W.nsIn K mainGlobals "_law_same" = some (some (.ref f_law_same)))
    (l_law_same : K.lookup f_law_same = some ⟨oc_law_same, od_law_same, .func (PySem.W.fnOf "_law_same" "_law_same" (defArgs s_law_same) (defBody s_law_same) (defScope s_law_same) .none kV_law_same dc_law_same pm_law_same an_law_same cd_law_same ct_law_same), sl_law_same⟩)
    (c_law_same_ : PySem.W.codeIn K cd_law_same "_law_same" = true)
    (k_law_same : PySem.W.keepIn K (.ref f_law_same) = true)
    (a_law_ask : PySem.W.nsIn K mainGlobals "_law_ask" = some (some (.ref f_law_ask)))
    (l_law_ask : K.lookup f_law_ask = some ⟨oc_law_ask, od_law_ask, .func (PySem.W.fnOf "_law_ask" "_law_ask" (defArgs s_law_ask) (defBody s_law_ask) (defScope s_law_ask) .none kV_law_ask dc_law_ask pm_law_ask an_law_ask cd_law_ask ct_law_ask), sl_law_ask⟩)
    (c_law_ask_ : PySem.W.codeIn K cd_law_ask "_law_ask" = true)
    (k_law_ask : PySem.W.keepIn K (.ref f_law_ask) = true)
    (a_law_laid : PySem.W.nsIn K mainGlobals "_law_laid" = some (some (.ref f_law_laid)))
    (l_law_laid : K.lookup f_law_laid = some ⟨oc_law_laid, od_law_laid, .func (PySem.W.fnOf "_law_laid" "_law_laid" (defArgs s_law_laid) (defBody s_law_laid) (defScope s_law_laid) .none kV_law_laid dc_law_laid pm_law_laid an_law_laid cd_law_laid ct_law_laid), sl_law_laid⟩)
    (c_law_laid_ : PySem.W.codeIn K cd_law_laid "_law_laid" = true)
    (k_law_laid : PySem.W.keepIn K (.ref f_law_laid) = true)
    (a_law_calls_refused : PySem.W.nsIn K mainGlobals "_law_calls_refused" = some (some (.ref f_law_calls_refused)))
    (l_law_calls_refused : K.lookup f_law_calls_refused = some ⟨oc_law_calls_refused, od_law_calls_refused, .func (PySem.W.fnOf "_law_calls_refused" "_law_calls_refused" (defArgs s_law_calls_refused) (defBody s_law_calls_refused) (defScope s_law_calls_refused) .none kV_law_calls_refused dc_law_calls_refused pm_law_calls_refused an_law_calls_refused (.ref c_law_calls_refused) ct_law_calls_refused), sl_law_calls_refused⟩)
    (c_law_calls_refused_ : PySem.W.codeIn K (.ref c_law_calls_refused) "_law_calls_refused" = true)
    (k_law_calls_refused : PySem.W.keepIn K (.ref f_law_calls_refused) = true)
    (a_law : PySem.W.nsIn K mainGlobals "law" = some (some (.ref f_law)))
    (l_law : K.lookup f_law = some ⟨oc_law, od_law, .func (PySem.W.fnOf "law" "law" (defArgs s_law) (defBody s_law) (defScope s_law) .none kV_law dc_law pm_law an_law (.ref c_law) ct_law), sl_law⟩)
    (c_law_ : PySem.W.codeIn K (.ref c_law) "law" = true)
    (k_law : PySem.W.keepIn K (.ref f_law) = true)
    (a_law_start : PySem.W.nsIn K mainGlobals "_law_start" = some (some (.ref f_law_start)))
    (l_law_start : K.lookup f_law_start = some ⟨oc_law_start, od_law_start, .func (PySem.W.fnOf "_law_start" "_law_start" (defArgs s_law_start) (defBody s_law_start) (defScope s_law_start) .none kV_law_start dc_law_start pm_law_start an_law_start cd_law_start ct_law_start), sl_law_start⟩)
    (c_law_start_ : PySem.W.codeIn K cd_law_start "_law_start" = true)
    (k_law_start : PySem.W.keepIn K (.ref f_law_start) = true)
    (lc_law_calls_refused : K.lookup c_law_calls_refused = some ⟨ccl_law_calls_refused, cdd_law_calls_refused, .fields vs_law_calls_refused, ccs_law_calls_refused⟩)
    (lp_law_calls_refused : vs_law_calls_refused[11]? = some (.ref Pt_law_calls_refused))
    (hd_law_calls_refused : PySem.W.codeHdIn K c_law_calls_refused Pt_law_calls_refused = true)
    (nP_law_calls_refused : K.lookup Pt_law_calls_refused = none)
    (lc_law : K.lookup c_law = some ⟨ccl_law, cdd_law, .fields vs_law, ccs_law⟩)
    (lp_law : vs_law[11]? = some (.ref Pt_law))
    (hd_law : PySem.W.codeHdIn K c_law Pt_law = true)
    (nP_law : K.lookup Pt_law = none)
    (dP : Pt_law_calls_refused ≠ Pt_law)
    (z_all : PySem.W.nsIn K mainGlobals "all" = some none)
    (z_bool : PySem.W.nsIn K mainGlobals "bool" = some none)
    (z_enumerate : PySem.W.nsIn K mainGlobals "enumerate" = some none)
    (z_int : PySem.W.nsIn K mainGlobals "int" = some none)
    (z_isinstance : PySem.W.nsIn K mainGlobals "isinstance" = some none)
    (z_len : PySem.W.nsIn K mainGlobals "len" = some none)
    (z_list : PySem.W.nsIn K mainGlobals "list" = some none)
    (z_min : PySem.W.nsIn K mainGlobals "min" = some none)
    (z_range : PySem.W.nsIn K mainGlobals "range" = some none)
    (z_str : PySem.W.nsIn K mainGlobals "str" = some none)
    (z_tuple : PySem.W.nsIn K mainGlobals "tuple" = some none)
    (q_LETTERS : PySem.W.nsIn K mainGlobals "LETTERS" = some (some (.str (SS [97, 98, 99, 100, 101, 102, 103, 104, 105, 106, 107, 108, 109, 110, 111, 112, 113, 114, 115, 116, 117, 118, 119, 120, 121, 122]) t_LETTERS)))
    (q_MOST_DEEDS : PySem.W.nsIn K mainGlobals "MOST_DEEDS" = some (some (.int 8 t_MOST_DEEDS)))
    (q_MOST_STANDS : PySem.W.nsIn K mainGlobals "MOST_STANDS" = some (some (.int 120 t_MOST_STANDS)))
    (g_LogError : PySem.W.nsIn K mainGlobals "LogError" = some (some (.ref C_LogError)))
    (g_Missing : PySem.W.nsIn K mainGlobals "Missing" = some (some (.ref C_Missing)))
    (g_InvalidDeed : PySem.W.nsIn K mainGlobals "InvalidDeed" = some (some (.ref C_InvalidDeed)))
    (g_InvalidDeeds : PySem.W.nsIn K mainGlobals "InvalidDeeds" = some (some (.ref C_InvalidDeeds)))
    (g_InvalidLog : PySem.W.nsIn K mainGlobals "InvalidLog" = some (some (.ref C_InvalidLog)))
    (g_InvalidStep : PySem.W.nsIn K mainGlobals "InvalidStep" = some (some (.ref C_InvalidStep)))
    (g_InvalidStore : PySem.W.nsIn K mainGlobals "InvalidStore" = some (some (.ref C_InvalidStore)))
    (g_InvalidStand : PySem.W.nsIn K mainGlobals "InvalidStand" = some (some (.ref C_InvalidStand)))
    (g_InvalidNumber : PySem.W.nsIn K mainGlobals "InvalidNumber" = some (some (.ref C_InvalidNumber)))
    (g_InvalidCount : PySem.W.nsIn K mainGlobals "InvalidCount" = some (some (.ref C_InvalidCount)))
    (g_TooMany : PySem.W.nsIn K mainGlobals "TooMany" = some (some (.ref C_TooMany)))
    (g_NothingLeft : PySem.W.nsIn K mainGlobals "NothingLeft" = some (some (.ref C_NothingLeft)))
    (xc_InvalidCount : K.lookup C_InvalidCount = some (excClassObj nm_InvalidCount q_InvalidCount C_InvalidCount N_InvalidCount bs_InvalidCount bm_InvalidCount true sn_InvalidCount sub_InvalidCount ab_InvalidCount col_InvalidCount dd_InvalidCount m0_InvalidCount m1_InvalidCount m2_InvalidCount m3_InvalidCount m5_InvalidCount "ValueError.__new__"))
    (xm_InvalidCount : PySem.HandSPX.refsVE bm_InvalidCount = true)
    (xsa_InvalidCount : PySem.W.findIn K (.ref C_InvalidCount) "__setattr__" = some (some (.builtin "object.__setattr__")))
    (xga_InvalidCount : PySem.W.findIn K (.ref C_InvalidCount) "__getattribute__" = some (some (.builtin "BaseException.__getattribute__")))
    (xgg_InvalidCount : PySem.W.findIn K (.ref C_InvalidCount) "__getattr__" = some none)
    (xnf_InvalidCount : PySem.W.findIn K (.ref C_InvalidCount) "given" = some none)
    (xnt_InvalidCount : PySem.W.findIn K (.ref C_InvalidCount) "tag" = some none)
    (xk_InvalidCount : PySem.W.keepIn K (.ref C_InvalidCount) = true)
    (xe_InvalidCount : PySem.W.subIn K (.ref C_InvalidCount) (.type "BaseException") = some true)
    (xv_InvalidCount : PySem.W.subIn K (.ref C_InvalidCount) (.type "ValueError") = some true)
    (xt_InvalidCount : PySem.W.typeIn K (.ref C_InvalidCount) = some (.type "type"))
    (xd_InvalidCount : PySem.W.hasDictIn K C_InvalidCount = true)
    (xi_InvalidCount : PySem.W.findIn K (.ref C_InvalidCount) "__init__" = some (some (.ref fI_InvalidCount)))
    (xit_InvalidCount : PySem.W.typeIn K (.ref fI_InvalidCount) = some (.type "function"))
    (xl_InvalidCount : K.lookup fI_InvalidCount = some ⟨oc_InvalidCount, od_InvalidCount, .func (PySem.W.ksFn "__init__" "InvalidCount.__init__" (defArgs (inClass (top 11) 0)) (defBody (inClass (top 11) 0)) (defScope (inClass (top 11) 0)) .none .none dc_InvalidCount pm_InvalidCount an_InvalidCount (.ref cda_InvalidCount) ct_InvalidCount cc_InvalidCount), sl_InvalidCount⟩)
    (xco_InvalidCount : PySem.W.codeIn K (.ref cda_InvalidCount) "InvalidCount.__init__" = true)
    (xcd_InvalidCount : K.lookup cda_InvalidCount = some ⟨ccl_InvalidCount, cdd_InvalidCount, .fields vs_InvalidCount, ccs_InvalidCount⟩)
    (xcf_InvalidCount : vs_InvalidCount[2]? = some (.str fl_InvalidCount tf_InvalidCount))
    (xcg_InvalidCount : ((l.prog.main.file : PySem.Str) == fl_InvalidCount) = true)
    (xcc_InvalidCount : K.lookup cc_InvalidCount = some ⟨cl_InvalidCount, cld_InvalidCount, .cell (some (.ref C_InvalidCount)), csl_InvalidCount⟩)
    (xmr_InvalidCount : PySem.W.mroIn K C_InvalidCount (.ref C_InvalidCount) = some true)
    (xsu_InvalidCount : PySem.W.ks_superIn K C_InvalidCount C_InvalidCount "__init__" = some (some (.builtin "ValueError.__init__")))
    (xc_InvalidDeed : K.lookup C_InvalidDeed = some (excClassObj nm_InvalidDeed q_InvalidDeed C_InvalidDeed N_InvalidDeed bs_InvalidDeed bm_InvalidDeed true sn_InvalidDeed sub_InvalidDeed ab_InvalidDeed col_InvalidDeed dd_InvalidDeed m0_InvalidDeed m1_InvalidDeed m2_InvalidDeed m3_InvalidDeed m5_InvalidDeed "ValueError.__new__"))
    (xm_InvalidDeed : PySem.HandSPX.refsVE bm_InvalidDeed = true)
    (xsa_InvalidDeed : PySem.W.findIn K (.ref C_InvalidDeed) "__setattr__" = some (some (.builtin "object.__setattr__")))
    (xga_InvalidDeed : PySem.W.findIn K (.ref C_InvalidDeed) "__getattribute__" = some (some (.builtin "BaseException.__getattribute__")))
    (xgg_InvalidDeed : PySem.W.findIn K (.ref C_InvalidDeed) "__getattr__" = some none)
    (xnf_InvalidDeed : PySem.W.findIn K (.ref C_InvalidDeed) "given" = some none)
    (xnt_InvalidDeed : PySem.W.findIn K (.ref C_InvalidDeed) "tag" = some none)
    (xk_InvalidDeed : PySem.W.keepIn K (.ref C_InvalidDeed) = true)
    (xe_InvalidDeed : PySem.W.subIn K (.ref C_InvalidDeed) (.type "BaseException") = some true)
    (xv_InvalidDeed : PySem.W.subIn K (.ref C_InvalidDeed) (.type "ValueError") = some true)
    (xt_InvalidDeed : PySem.W.typeIn K (.ref C_InvalidDeed) = some (.type "type"))
    (xd_InvalidDeed : PySem.W.hasDictIn K C_InvalidDeed = true)
    (xi_InvalidDeed : PySem.W.findIn K (.ref C_InvalidDeed) "__init__" = some (some (.ref fI_InvalidDeed)))
    (xit_InvalidDeed : PySem.W.typeIn K (.ref fI_InvalidDeed) = some (.type "function"))
    (xl_InvalidDeed : K.lookup fI_InvalidDeed = some ⟨oc_InvalidDeed, od_InvalidDeed, .func (PySem.W.ksFn "__init__" "InvalidDeed.__init__" (defArgs (inClass (top 4) 0)) (defBody (inClass (top 4) 0)) (defScope (inClass (top 4) 0)) .none .none dc_InvalidDeed pm_InvalidDeed an_InvalidDeed (.ref cda_InvalidDeed) ct_InvalidDeed cc_InvalidDeed), sl_InvalidDeed⟩)
    (xco_InvalidDeed : PySem.W.codeIn K (.ref cda_InvalidDeed) "InvalidDeed.__init__" = true)
    (xcd_InvalidDeed : K.lookup cda_InvalidDeed = some ⟨ccl_InvalidDeed, cdd_InvalidDeed, .fields vs_InvalidDeed, ccs_InvalidDeed⟩)
    (xcf_InvalidDeed : vs_InvalidDeed[2]? = some (.str fl_InvalidDeed tf_InvalidDeed))
    (xcg_InvalidDeed : ((l.prog.main.file : PySem.Str) == fl_InvalidDeed) = true)
    (xcc_InvalidDeed : K.lookup cc_InvalidDeed = some ⟨cl_InvalidDeed, cld_InvalidDeed, .cell (some (.ref C_InvalidDeed)), csl_InvalidDeed⟩)
    (xmr_InvalidDeed : PySem.W.mroIn K C_InvalidDeed (.ref C_InvalidDeed) = some true)
    (xsu_InvalidDeed : PySem.W.ks_superIn K C_InvalidDeed C_InvalidDeed "__init__" = some (some (.builtin "ValueError.__init__")))
    (xc_InvalidDeeds : K.lookup C_InvalidDeeds = some (excClassObj nm_InvalidDeeds q_InvalidDeeds C_InvalidDeeds N_InvalidDeeds bs_InvalidDeeds bm_InvalidDeeds true sn_InvalidDeeds sub_InvalidDeeds ab_InvalidDeeds col_InvalidDeeds dd_InvalidDeeds m0_InvalidDeeds m1_InvalidDeeds m2_InvalidDeeds m3_InvalidDeeds m5_InvalidDeeds "ValueError.__new__"))
    (xm_InvalidDeeds : PySem.HandSPX.refsVE bm_InvalidDeeds = true)
    (xsa_InvalidDeeds : PySem.W.findIn K (.ref C_InvalidDeeds) "__setattr__" = some (some (.builtin "object.__setattr__")))
    (xga_InvalidDeeds : PySem.W.findIn K (.ref C_InvalidDeeds) "__getattribute__" = some (some (.builtin "BaseException.__getattribute__")))
    (xgg_InvalidDeeds : PySem.W.findIn K (.ref C_InvalidDeeds) "__getattr__" = some none)
    (xnf_InvalidDeeds : PySem.W.findIn K (.ref C_InvalidDeeds) "given" = some none)
    (xnt_InvalidDeeds : PySem.W.findIn K (.ref C_InvalidDeeds) "tag" = some none)
    (xk_InvalidDeeds : PySem.W.keepIn K (.ref C_InvalidDeeds) = true)
    (xe_InvalidDeeds : PySem.W.subIn K (.ref C_InvalidDeeds) (.type "BaseException") = some true)
    (xv_InvalidDeeds : PySem.W.subIn K (.ref C_InvalidDeeds) (.type "ValueError") = some true)
    (xt_InvalidDeeds : PySem.W.typeIn K (.ref C_InvalidDeeds) = some (.type "type"))
    (xd_InvalidDeeds : PySem.W.hasDictIn K C_InvalidDeeds = true)
    (xi_InvalidDeeds : PySem.W.findIn K (.ref C_InvalidDeeds) "__init__" = some (some (.ref fI_InvalidDeeds)))
    (xit_InvalidDeeds : PySem.W.typeIn K (.ref fI_InvalidDeeds) = some (.type "function"))
    (xl_InvalidDeeds : K.lookup fI_InvalidDeeds = some ⟨oc_InvalidDeeds, od_InvalidDeeds, .func (PySem.W.ksFn "__init__" "InvalidDeeds.__init__" (defArgs (inClass (top 5) 0)) (defBody (inClass (top 5) 0)) (defScope (inClass (top 5) 0)) .none .none dc_InvalidDeeds pm_InvalidDeeds an_InvalidDeeds (.ref cda_InvalidDeeds) ct_InvalidDeeds cc_InvalidDeeds), sl_InvalidDeeds⟩)
    (xco_InvalidDeeds : PySem.W.codeIn K (.ref cda_InvalidDeeds) "InvalidDeeds.__init__" = true)
    (xcd_InvalidDeeds : K.lookup cda_InvalidDeeds = some ⟨ccl_InvalidDeeds, cdd_InvalidDeeds, .fields vs_InvalidDeeds, ccs_InvalidDeeds⟩)
    (xcf_InvalidDeeds : vs_InvalidDeeds[2]? = some (.str fl_InvalidDeeds tf_InvalidDeeds))
    (xcg_InvalidDeeds : ((l.prog.main.file : PySem.Str) == fl_InvalidDeeds) = true)
    (xcc_InvalidDeeds : K.lookup cc_InvalidDeeds = some ⟨cl_InvalidDeeds, cld_InvalidDeeds, .cell (some (.ref C_InvalidDeeds)), csl_InvalidDeeds⟩)
    (xmr_InvalidDeeds : PySem.W.mroIn K C_InvalidDeeds (.ref C_InvalidDeeds) = some true)
    (xsu_InvalidDeeds : PySem.W.ks_superIn K C_InvalidDeeds C_InvalidDeeds "__init__" = some (some (.builtin "ValueError.__init__")))
    (xc_InvalidLog : K.lookup C_InvalidLog = some (excClassObj nm_InvalidLog q_InvalidLog C_InvalidLog N_InvalidLog bs_InvalidLog bm_InvalidLog true sn_InvalidLog sub_InvalidLog ab_InvalidLog col_InvalidLog dd_InvalidLog m0_InvalidLog m1_InvalidLog m2_InvalidLog m3_InvalidLog m5_InvalidLog "ValueError.__new__"))
    (xm_InvalidLog : PySem.HandSPX.refsVE bm_InvalidLog = true)
    (xsa_InvalidLog : PySem.W.findIn K (.ref C_InvalidLog) "__setattr__" = some (some (.builtin "object.__setattr__")))
    (xga_InvalidLog : PySem.W.findIn K (.ref C_InvalidLog) "__getattribute__" = some (some (.builtin "BaseException.__getattribute__")))
    (xgg_InvalidLog : PySem.W.findIn K (.ref C_InvalidLog) "__getattr__" = some none)
    (xnf_InvalidLog : PySem.W.findIn K (.ref C_InvalidLog) "given" = some none)
    (xnt_InvalidLog : PySem.W.findIn K (.ref C_InvalidLog) "tag" = some none)
    (xk_InvalidLog : PySem.W.keepIn K (.ref C_InvalidLog) = true)
    (xe_InvalidLog : PySem.W.subIn K (.ref C_InvalidLog) (.type "BaseException") = some true)
    (xv_InvalidLog : PySem.W.subIn K (.ref C_InvalidLog) (.type "ValueError") = some true)
    (xt_InvalidLog : PySem.W.typeIn K (.ref C_InvalidLog) = some (.type "type"))
    (xd_InvalidLog : PySem.W.hasDictIn K C_InvalidLog = true)
    (xi_InvalidLog : PySem.W.findIn K (.ref C_InvalidLog) "__init__" = some (some (.ref fI_InvalidLog)))
    (xit_InvalidLog : PySem.W.typeIn K (.ref fI_InvalidLog) = some (.type "function"))
    (xl_InvalidLog : K.lookup fI_InvalidLog = some ⟨oc_InvalidLog, od_InvalidLog, .func (PySem.W.ksFn "__init__" "InvalidLog.__init__" (defArgs (inClass (top 6) 0)) (defBody (inClass (top 6) 0)) (defScope (inClass (top 6) 0)) .none .none dc_InvalidLog pm_InvalidLog an_InvalidLog (.ref cda_InvalidLog) ct_InvalidLog cc_InvalidLog), sl_InvalidLog⟩)
    (xco_InvalidLog : PySem.W.codeIn K (.ref cda_InvalidLog) "InvalidLog.__init__" = true)
    (xcd_InvalidLog : K.lookup cda_InvalidLog = some ⟨ccl_InvalidLog, cdd_InvalidLog, .fields vs_InvalidLog, ccs_InvalidLog⟩)
    (xcf_InvalidLog : vs_InvalidLog[2]? = some (.str fl_InvalidLog tf_InvalidLog))
    (xcg_InvalidLog : ((l.prog.main.file : PySem.Str) == fl_InvalidLog) = true)
    (xcc_InvalidLog : K.lookup cc_InvalidLog = some ⟨cl_InvalidLog, cld_InvalidLog, .cell (some (.ref C_InvalidLog)), csl_InvalidLog⟩)
    (xmr_InvalidLog : PySem.W.mroIn K C_InvalidLog (.ref C_InvalidLog) = some true)
    (xsu_InvalidLog : PySem.W.ks_superIn K C_InvalidLog C_InvalidLog "__init__" = some (some (.builtin "ValueError.__init__")))
    (xc_InvalidStand : K.lookup C_InvalidStand = some (excClassObj nm_InvalidStand q_InvalidStand C_InvalidStand N_InvalidStand bs_InvalidStand bm_InvalidStand true sn_InvalidStand sub_InvalidStand ab_InvalidStand col_InvalidStand dd_InvalidStand m0_InvalidStand m1_InvalidStand m2_InvalidStand m3_InvalidStand m5_InvalidStand "ValueError.__new__"))
    (xm_InvalidStand : PySem.HandSPX.refsVE bm_InvalidStand = true)
    (xsa_InvalidStand : PySem.W.findIn K (.ref C_InvalidStand) "__setattr__" = some (some (.builtin "object.__setattr__")))
    (xga_InvalidStand : PySem.W.findIn K (.ref C_InvalidStand) "__getattribute__" = some (some (.builtin "BaseException.__getattribute__")))
    (xgg_InvalidStand : PySem.W.findIn K (.ref C_InvalidStand) "__getattr__" = some none)
    (xnf_InvalidStand : PySem.W.findIn K (.ref C_InvalidStand) "given" = some none)
    (xnt_InvalidStand : PySem.W.findIn K (.ref C_InvalidStand) "tag" = some none)
    (xk_InvalidStand : PySem.W.keepIn K (.ref C_InvalidStand) = true)
    (xe_InvalidStand : PySem.W.subIn K (.ref C_InvalidStand) (.type "BaseException") = some true)
    (xv_InvalidStand : PySem.W.subIn K (.ref C_InvalidStand) (.type "ValueError") = some true)
    (xt_InvalidStand : PySem.W.typeIn K (.ref C_InvalidStand) = some (.type "type"))
    (xd_InvalidStand : PySem.W.hasDictIn K C_InvalidStand = true)
    (xi_InvalidStand : PySem.W.findIn K (.ref C_InvalidStand) "__init__" = some (some (.ref fI_InvalidStand)))
    (xit_InvalidStand : PySem.W.typeIn K (.ref fI_InvalidStand) = some (.type "function"))
    (xl_InvalidStand : K.lookup fI_InvalidStand = some ⟨oc_InvalidStand, od_InvalidStand, .func (PySem.W.ksFn "__init__" "InvalidStand.__init__" (defArgs (inClass (top 9) 0)) (defBody (inClass (top 9) 0)) (defScope (inClass (top 9) 0)) .none .none dc_InvalidStand pm_InvalidStand an_InvalidStand (.ref cda_InvalidStand) ct_InvalidStand cc_InvalidStand), sl_InvalidStand⟩)
    (xco_InvalidStand : PySem.W.codeIn K (.ref cda_InvalidStand) "InvalidStand.__init__" = true)
    (xcd_InvalidStand : K.lookup cda_InvalidStand = some ⟨ccl_InvalidStand, cdd_InvalidStand, .fields vs_InvalidStand, ccs_InvalidStand⟩)
    (xcf_InvalidStand : vs_InvalidStand[2]? = some (.str fl_InvalidStand tf_InvalidStand))
    (xcg_InvalidStand : ((l.prog.main.file : PySem.Str) == fl_InvalidStand) = true)
    (xcc_InvalidStand : K.lookup cc_InvalidStand = some ⟨cl_InvalidStand, cld_InvalidStand, .cell (some (.ref C_InvalidStand)), csl_InvalidStand⟩)
    (xmr_InvalidStand : PySem.W.mroIn K C_InvalidStand (.ref C_InvalidStand) = some true)
    (xsu_InvalidStand : PySem.W.ks_superIn K C_InvalidStand C_InvalidStand "__init__" = some (some (.builtin "ValueError.__init__")))
    (xc_InvalidStore : K.lookup C_InvalidStore = some (excClassObj nm_InvalidStore q_InvalidStore C_InvalidStore N_InvalidStore bs_InvalidStore bm_InvalidStore true sn_InvalidStore sub_InvalidStore ab_InvalidStore col_InvalidStore dd_InvalidStore m0_InvalidStore m1_InvalidStore m2_InvalidStore m3_InvalidStore m5_InvalidStore "ValueError.__new__"))
    (xm_InvalidStore : PySem.HandSPX.refsVE bm_InvalidStore = true)
    (xsa_InvalidStore : PySem.W.findIn K (.ref C_InvalidStore) "__setattr__" = some (some (.builtin "object.__setattr__")))
    (xga_InvalidStore : PySem.W.findIn K (.ref C_InvalidStore) "__getattribute__" = some (some (.builtin "BaseException.__getattribute__")))
    (xgg_InvalidStore : PySem.W.findIn K (.ref C_InvalidStore) "__getattr__" = some none)
    (xnf_InvalidStore : PySem.W.findIn K (.ref C_InvalidStore) "index" = some none)
    (xnt_InvalidStore : PySem.W.findIn K (.ref C_InvalidStore) "tag" = some none)
    (xk_InvalidStore : PySem.W.keepIn K (.ref C_InvalidStore) = true)
    (xe_InvalidStore : PySem.W.subIn K (.ref C_InvalidStore) (.type "BaseException") = some true)
    (xv_InvalidStore : PySem.W.subIn K (.ref C_InvalidStore) (.type "ValueError") = some true)
    (xt_InvalidStore : PySem.W.typeIn K (.ref C_InvalidStore) = some (.type "type"))
    (xd_InvalidStore : PySem.W.hasDictIn K C_InvalidStore = true)
    (xi_InvalidStore : PySem.W.findIn K (.ref C_InvalidStore) "__init__" = some (some (.ref fI_InvalidStore)))
    (xit_InvalidStore : PySem.W.typeIn K (.ref fI_InvalidStore) = some (.type "function"))
    (xl_InvalidStore : K.lookup fI_InvalidStore = some ⟨oc_InvalidStore, od_InvalidStore, .func (PySem.W.ksFn "__init__" "InvalidStore.__init__" (defArgs (inClass (top 8) 0)) (defBody (inClass (top 8) 0)) (defScope (inClass (top 8) 0)) .none .none dc_InvalidStore pm_InvalidStore an_InvalidStore (.ref cda_InvalidStore) ct_InvalidStore cc_InvalidStore), sl_InvalidStore⟩)
    (xco_InvalidStore : PySem.W.codeIn K (.ref cda_InvalidStore) "InvalidStore.__init__" = true)
    (xcd_InvalidStore : K.lookup cda_InvalidStore = some ⟨ccl_InvalidStore, cdd_InvalidStore, .fields vs_InvalidStore, ccs_InvalidStore⟩)
    (xcf_InvalidStore : vs_InvalidStore[2]? = some (.str fl_InvalidStore tf_InvalidStore))
    (xcg_InvalidStore : ((l.prog.main.file : PySem.Str) == fl_InvalidStore) = true)
    (xcc_InvalidStore : K.lookup cc_InvalidStore = some ⟨cl_InvalidStore, cld_InvalidStore, .cell (some (.ref C_InvalidStore)), csl_InvalidStore⟩)
    (xmr_InvalidStore : PySem.W.mroIn K C_InvalidStore (.ref C_InvalidStore) = some true)
    (xsu_InvalidStore : PySem.W.ks_superIn K C_InvalidStore C_InvalidStore "__init__" = some (some (.builtin "ValueError.__init__")))
    (xc_TooMany : K.lookup C_TooMany = some (excClassObj nm_TooMany q_TooMany C_TooMany N_TooMany bs_TooMany bm_TooMany true sn_TooMany sub_TooMany ab_TooMany col_TooMany dd_TooMany m0_TooMany m1_TooMany m2_TooMany m3_TooMany m5_TooMany "ValueError.__new__"))
    (xm_TooMany : PySem.HandSPX.refsVE bm_TooMany = true)
    (xsa_TooMany : PySem.W.findIn K (.ref C_TooMany) "__setattr__" = some (some (.builtin "object.__setattr__")))
    (xga_TooMany : PySem.W.findIn K (.ref C_TooMany) "__getattribute__" = some (some (.builtin "BaseException.__getattribute__")))
    (xgg_TooMany : PySem.W.findIn K (.ref C_TooMany) "__getattr__" = some none)
    (xnf_TooMany : PySem.W.findIn K (.ref C_TooMany) "most" = some none)
    (xnt_TooMany : PySem.W.findIn K (.ref C_TooMany) "tag" = some none)
    (xk_TooMany : PySem.W.keepIn K (.ref C_TooMany) = true)
    (xe_TooMany : PySem.W.subIn K (.ref C_TooMany) (.type "BaseException") = some true)
    (xv_TooMany : PySem.W.subIn K (.ref C_TooMany) (.type "ValueError") = some true)
    (xt_TooMany : PySem.W.typeIn K (.ref C_TooMany) = some (.type "type"))
    (xd_TooMany : PySem.W.hasDictIn K C_TooMany = true)
    (xi_TooMany : PySem.W.findIn K (.ref C_TooMany) "__init__" = some (some (.ref fI_TooMany)))
    (xit_TooMany : PySem.W.typeIn K (.ref fI_TooMany) = some (.type "function"))
    (xl_TooMany : K.lookup fI_TooMany = some ⟨oc_TooMany, od_TooMany, .func (PySem.W.ksFn "__init__" "TooMany.__init__" (defArgs (inClass (top 12) 0)) (defBody (inClass (top 12) 0)) (defScope (inClass (top 12) 0)) .none .none dc_TooMany pm_TooMany an_TooMany (.ref cda_TooMany) ct_TooMany cc_TooMany), sl_TooMany⟩)
    (xco_TooMany : PySem.W.codeIn K (.ref cda_TooMany) "TooMany.__init__" = true)
    (xcd_TooMany : K.lookup cda_TooMany = some ⟨ccl_TooMany, cdd_TooMany, .fields vs_TooMany, ccs_TooMany⟩)
    (xcf_TooMany : vs_TooMany[2]? = some (.str fl_TooMany tf_TooMany))
    (xcg_TooMany : ((l.prog.main.file : PySem.Str) == fl_TooMany) = true)
    (xcc_TooMany : K.lookup cc_TooMany = some ⟨cl_TooMany, cld_TooMany, .cell (some (.ref C_TooMany)), csl_TooMany⟩)
    (xmr_TooMany : PySem.W.mroIn K C_TooMany (.ref C_TooMany) = some true)
    (xsu_TooMany : PySem.W.ks_superIn K C_TooMany C_TooMany "__init__" = some (some (.builtin "ValueError.__init__")))
    (xop : PySem.W.nsIn K cStatics "thirdparty.any" = some none)
    (xsup : PySem.W.nsIn K mainGlobals "super" = some none)
    (xtop : (l.prog.main.scope.names.lookup ("super" : PySem.Str)).isSome = false)
    (e_InvalidCount_InvalidDeed : PySem.W.exmOne K (.ref C_InvalidCount) (.ref C_InvalidDeed) = some false)
    (e_InvalidCount_InvalidDeeds : PySem.W.exmOne K (.ref C_InvalidCount) (.ref C_InvalidDeeds) = some false)
    (e_InvalidCount_InvalidLog : PySem.W.exmOne K (.ref C_InvalidCount) (.ref C_InvalidLog) = some false)
    (e_InvalidCount_InvalidStand : PySem.W.exmOne K (.ref C_InvalidCount) (.ref C_InvalidStand) = some false)
    (e_InvalidCount_InvalidNumber : PySem.W.exmOne K (.ref C_InvalidCount) (.ref C_InvalidNumber) = some false)
    (e_InvalidCount_InvalidCount : PySem.W.exmOne K (.ref C_InvalidCount) (.ref C_InvalidCount) = some true)
    (e_InvalidCount_InvalidStep : PySem.W.exmOne K (.ref C_InvalidCount) (.ref C_InvalidStep) = some false)
    (e_InvalidCount_InvalidStore : PySem.W.exmOne K (.ref C_InvalidCount) (.ref C_InvalidStore) = some false)
    (e_InvalidCount_TooMany : PySem.W.exmOne K (.ref C_InvalidCount) (.ref C_TooMany) = some false)
    (e_InvalidCount_LogError : PySem.W.exmOne K (.ref C_InvalidCount) (.ref C_LogError) = some true)
    (e_InvalidCount_Missing : PySem.W.exmOne K (.ref C_InvalidCount) (.ref C_Missing) = some false)
    (e_InvalidCount_NothingLeft : PySem.W.exmOne K (.ref C_InvalidCount) (.ref C_NothingLeft) = some false)
    (e_InvalidDeed_InvalidDeed : PySem.W.exmOne K (.ref C_InvalidDeed) (.ref C_InvalidDeed) = some true)
    (e_InvalidDeed_InvalidDeeds : PySem.W.exmOne K (.ref C_InvalidDeed) (.ref C_InvalidDeeds) = some false)
    (e_InvalidDeed_InvalidLog : PySem.W.exmOne K (.ref C_InvalidDeed) (.ref C_InvalidLog) = some false)
    (e_InvalidDeed_InvalidStand : PySem.W.exmOne K (.ref C_InvalidDeed) (.ref C_InvalidStand) = some false)
    (e_InvalidDeed_InvalidNumber : PySem.W.exmOne K (.ref C_InvalidDeed) (.ref C_InvalidNumber) = some false)
    (e_InvalidDeed_InvalidCount : PySem.W.exmOne K (.ref C_InvalidDeed) (.ref C_InvalidCount) = some false)
    (e_InvalidDeed_InvalidStep : PySem.W.exmOne K (.ref C_InvalidDeed) (.ref C_InvalidStep) = some false)
    (e_InvalidDeed_InvalidStore : PySem.W.exmOne K (.ref C_InvalidDeed) (.ref C_InvalidStore) = some false)
    (e_InvalidDeed_TooMany : PySem.W.exmOne K (.ref C_InvalidDeed) (.ref C_TooMany) = some false)
    (e_InvalidDeed_LogError : PySem.W.exmOne K (.ref C_InvalidDeed) (.ref C_LogError) = some true)
    (e_InvalidDeed_Missing : PySem.W.exmOne K (.ref C_InvalidDeed) (.ref C_Missing) = some false)
    (e_InvalidDeed_NothingLeft : PySem.W.exmOne K (.ref C_InvalidDeed) (.ref C_NothingLeft) = some false)
    (e_InvalidDeeds_InvalidDeed : PySem.W.exmOne K (.ref C_InvalidDeeds) (.ref C_InvalidDeed) = some false)
    (e_InvalidDeeds_InvalidDeeds : PySem.W.exmOne K (.ref C_InvalidDeeds) (.ref C_InvalidDeeds) = some true)
    (e_InvalidDeeds_InvalidLog : PySem.W.exmOne K (.ref C_InvalidDeeds) (.ref C_InvalidLog) = some false)
    (e_InvalidDeeds_InvalidStand : PySem.W.exmOne K (.ref C_InvalidDeeds) (.ref C_InvalidStand) = some false)
    (e_InvalidDeeds_InvalidNumber : PySem.W.exmOne K (.ref C_InvalidDeeds) (.ref C_InvalidNumber) = some false)
    (e_InvalidDeeds_InvalidCount : PySem.W.exmOne K (.ref C_InvalidDeeds) (.ref C_InvalidCount) = some false)
    (e_InvalidDeeds_InvalidStep : PySem.W.exmOne K (.ref C_InvalidDeeds) (.ref C_InvalidStep) = some false)
    (e_InvalidDeeds_InvalidStore : PySem.W.exmOne K (.ref C_InvalidDeeds) (.ref C_InvalidStore) = some false)
    (e_InvalidDeeds_TooMany : PySem.W.exmOne K (.ref C_InvalidDeeds) (.ref C_TooMany) = some false)
    (e_InvalidDeeds_LogError : PySem.W.exmOne K (.ref C_InvalidDeeds) (.ref C_LogError) = some true)
    (e_InvalidDeeds_Missing : PySem.W.exmOne K (.ref C_InvalidDeeds) (.ref C_Missing) = some false)
    (e_InvalidDeeds_NothingLeft : PySem.W.exmOne K (.ref C_InvalidDeeds) (.ref C_NothingLeft) = some false)
    (e_InvalidLog_InvalidDeed : PySem.W.exmOne K (.ref C_InvalidLog) (.ref C_InvalidDeed) = some false)
    (e_InvalidLog_InvalidDeeds : PySem.W.exmOne K (.ref C_InvalidLog) (.ref C_InvalidDeeds) = some false)
    (e_InvalidLog_InvalidLog : PySem.W.exmOne K (.ref C_InvalidLog) (.ref C_InvalidLog) = some true)
    (e_InvalidLog_InvalidStand : PySem.W.exmOne K (.ref C_InvalidLog) (.ref C_InvalidStand) = some false)
    (e_InvalidLog_InvalidNumber : PySem.W.exmOne K (.ref C_InvalidLog) (.ref C_InvalidNumber) = some false)
    (e_InvalidLog_InvalidCount : PySem.W.exmOne K (.ref C_InvalidLog) (.ref C_InvalidCount) = some false)
    (e_InvalidLog_InvalidStep : PySem.W.exmOne K (.ref C_InvalidLog) (.ref C_InvalidStep) = some false)
    (e_InvalidLog_InvalidStore : PySem.W.exmOne K (.ref C_InvalidLog) (.ref C_InvalidStore) = some false)
    (e_InvalidLog_TooMany : PySem.W.exmOne K (.ref C_InvalidLog) (.ref C_TooMany) = some false)
    (e_InvalidLog_LogError : PySem.W.exmOne K (.ref C_InvalidLog) (.ref C_LogError) = some true)
    (e_InvalidLog_Missing : PySem.W.exmOne K (.ref C_InvalidLog) (.ref C_Missing) = some false)
    (e_InvalidLog_NothingLeft : PySem.W.exmOne K (.ref C_InvalidLog) (.ref C_NothingLeft) = some false)
    (e_InvalidStand_InvalidDeed : PySem.W.exmOne K (.ref C_InvalidStand) (.ref C_InvalidDeed) = some false)
    (e_InvalidStand_InvalidDeeds : PySem.W.exmOne K (.ref C_InvalidStand) (.ref C_InvalidDeeds) = some false)
    (e_InvalidStand_InvalidLog : PySem.W.exmOne K (.ref C_InvalidStand) (.ref C_InvalidLog) = some false)
    (e_InvalidStand_InvalidStand : PySem.W.exmOne K (.ref C_InvalidStand) (.ref C_InvalidStand) = some true)
    (e_InvalidStand_InvalidNumber : PySem.W.exmOne K (.ref C_InvalidStand) (.ref C_InvalidNumber) = some false)
    (e_InvalidStand_InvalidCount : PySem.W.exmOne K (.ref C_InvalidStand) (.ref C_InvalidCount) = some false)
    (e_InvalidStand_InvalidStep : PySem.W.exmOne K (.ref C_InvalidStand) (.ref C_InvalidStep) = some false)
    (e_InvalidStand_InvalidStore : PySem.W.exmOne K (.ref C_InvalidStand) (.ref C_InvalidStore) = some false)
    (e_InvalidStand_TooMany : PySem.W.exmOne K (.ref C_InvalidStand) (.ref C_TooMany) = some false)
    (e_InvalidStand_LogError : PySem.W.exmOne K (.ref C_InvalidStand) (.ref C_LogError) = some true)
    (e_InvalidStand_Missing : PySem.W.exmOne K (.ref C_InvalidStand) (.ref C_Missing) = some false)
    (e_InvalidStand_NothingLeft : PySem.W.exmOne K (.ref C_InvalidStand) (.ref C_NothingLeft) = some false)
    (e_InvalidStore_InvalidDeed : PySem.W.exmOne K (.ref C_InvalidStore) (.ref C_InvalidDeed) = some false)
    (e_InvalidStore_InvalidDeeds : PySem.W.exmOne K (.ref C_InvalidStore) (.ref C_InvalidDeeds) = some false)
    (e_InvalidStore_InvalidLog : PySem.W.exmOne K (.ref C_InvalidStore) (.ref C_InvalidLog) = some false)
    (e_InvalidStore_InvalidStand : PySem.W.exmOne K (.ref C_InvalidStore) (.ref C_InvalidStand) = some false)
    (e_InvalidStore_InvalidNumber : PySem.W.exmOne K (.ref C_InvalidStore) (.ref C_InvalidNumber) = some false)
    (e_InvalidStore_InvalidCount : PySem.W.exmOne K (.ref C_InvalidStore) (.ref C_InvalidCount) = some false)
    (e_InvalidStore_InvalidStep : PySem.W.exmOne K (.ref C_InvalidStore) (.ref C_InvalidStep) = some false)
    (e_InvalidStore_InvalidStore : PySem.W.exmOne K (.ref C_InvalidStore) (.ref C_InvalidStore) = some true)
    (e_InvalidStore_TooMany : PySem.W.exmOne K (.ref C_InvalidStore) (.ref C_TooMany) = some false)
    (e_InvalidStore_LogError : PySem.W.exmOne K (.ref C_InvalidStore) (.ref C_LogError) = some true)
    (e_InvalidStore_Missing : PySem.W.exmOne K (.ref C_InvalidStore) (.ref C_Missing) = some false)
    (e_InvalidStore_NothingLeft : PySem.W.exmOne K (.ref C_InvalidStore) (.ref C_NothingLeft) = some false)
    (e_TooMany_InvalidDeed : PySem.W.exmOne K (.ref C_TooMany) (.ref C_InvalidDeed) = some false)
    (e_TooMany_InvalidDeeds : PySem.W.exmOne K (.ref C_TooMany) (.ref C_InvalidDeeds) = some false)
    (e_TooMany_InvalidLog : PySem.W.exmOne K (.ref C_TooMany) (.ref C_InvalidLog) = some false)
    (e_TooMany_InvalidStand : PySem.W.exmOne K (.ref C_TooMany) (.ref C_InvalidStand) = some false)
    (e_TooMany_InvalidNumber : PySem.W.exmOne K (.ref C_TooMany) (.ref C_InvalidNumber) = some false)
    (e_TooMany_InvalidCount : PySem.W.exmOne K (.ref C_TooMany) (.ref C_InvalidCount) = some false)
    (e_TooMany_InvalidStep : PySem.W.exmOne K (.ref C_TooMany) (.ref C_InvalidStep) = some false)
    (e_TooMany_InvalidStore : PySem.W.exmOne K (.ref C_TooMany) (.ref C_InvalidStore) = some false)
    (e_TooMany_TooMany : PySem.W.exmOne K (.ref C_TooMany) (.ref C_TooMany) = some true)
    (e_TooMany_LogError : PySem.W.exmOne K (.ref C_TooMany) (.ref C_LogError) = some true)
    (e_TooMany_Missing : PySem.W.exmOne K (.ref C_TooMany) (.ref C_Missing) = some false)
    (e_TooMany_NothingLeft : PySem.W.exmOne K (.ref C_TooMany) (.ref C_NothingLeft) = some false) : LamX.LawAtS l w K (L2.CX l.prog w) 25 63 "_law_script" mg fa h := by
  have e := hfa.symm.trans (PySem.W.mg_of KX G a_law)
  cases e
  letI : Tabl := ⟨[(Pt_law_calls_refused, ((("_law_calls_refused" : PySem.Str) ++ ".<locals>.") ++ "<lambda>" : PySem.Str)), (Pt_law, ((("law" : PySem.Str) ++ ".<locals>.") ++ "<lambda>" : PySem.Str))], fun p hp q hq e => by rcases List.mem_cons.mp hp with rfl | hp <;> rcases List.mem_cons.mp hq with rfl | hq <;> first | rfl | (rw [List.mem_singleton.mp hq] at e; exact absurd e dP) | (rw [List.mem_singleton.mp hp] at e; exact absurd e.symm dP) | rw [List.mem_singleton.mp hp, List.mem_singleton.mp hq]⟩
  let C : Cls := ⟨C_LogError, C_Missing, C_InvalidDeed, C_InvalidDeeds, C_InvalidLog, C_InvalidStep, C_InvalidStore, C_InvalidStand, C_InvalidNumber, C_InvalidCount, C_TooMany, C_NothingLeft, C_Store⟩
  have x_InvalidCount : PySem.ExcX.XC l.prog K mg "InvalidCount" "given" C.InvalidCount :=
    { gC := PySem.W.mg_of KX G g_InvalidCount, cls := ⟨_, _, _, _, _, _, _, _, _, _, _, _, _, _, _, xc_InvalidCount, xm_InvalidCount⟩, sa := xsa_InvalidCount, ga := xga_InvalidCount, gg := xgg_InvalidCount, noF := xnf_InvalidCount, noT := xnt_InvalidCount, kC := xk_InvalidCount, exC := xe_InvalidCount,
      veC := xv_InvalidCount, tyC := xt_InvalidCount, hdC := xd_InvalidCount, sub := xmr_InvalidCount, sup := PySem.W.mg_none_of KX G xsup, supI := xsu_InvalidCount, opq := xop, htop := xtop,
      fn := ⟨_, _, _, _, _, _, _, _, _, _, _, _, _, _, _, _, _, _, _, _, _, xi_InvalidCount, xit_InvalidCount, xl_InvalidCount, xco_InvalidCount, xcd_InvalidCount, xcf_InvalidCount, xcg_InvalidCount, xcc_InvalidCount, xtext_InvalidCount⟩ }
  have x_InvalidDeed : PySem.ExcX.XC l.prog K mg "InvalidDeed" "given" C.InvalidDeed :=
    { gC := PySem.W.mg_of KX G g_InvalidDeed, cls := ⟨_, _, _, _, _, _, _, _, _, _, _, _, _, _, _, xc_InvalidDeed, xm_InvalidDeed⟩, sa := xsa_InvalidDeed, ga := xga_InvalidDeed, gg := xgg_InvalidDeed, noF := xnf_InvalidDeed, noT := xnt_InvalidDeed, kC := xk_InvalidDeed, exC := xe_InvalidDeed,
      veC := xv_InvalidDeed, tyC := xt_InvalidDeed, hdC := xd_InvalidDeed, sub := xmr_InvalidDeed, sup := PySem.W.mg_none_of KX G xsup, supI := xsu_InvalidDeed, opq := xop, htop := xtop,
      fn := ⟨_, _, _, _, _, _, _, _, _, _, _, _, _, _, _, _, _, _, _, _, _, xi_InvalidDeed, xit_InvalidDeed, xl_InvalidDeed, xco_InvalidDeed, xcd_InvalidDeed, xcf_InvalidDeed, xcg_InvalidDeed, xcc_InvalidDeed, xtext_InvalidDeed⟩ }
  have x_InvalidDeeds : PySem.ExcX.XC l.prog K mg "InvalidDeeds" "given" C.InvalidDeeds :=
    { gC := PySem.W.mg_of KX G g_InvalidDeeds, cls := ⟨_, _, _, _, _, _, _, _, _, _, _, _, _, _, _, xc_InvalidDeeds, xm_InvalidDeeds⟩, sa := xsa_InvalidDeeds, ga := xga_InvalidDeeds, gg := xgg_InvalidDeeds, noF := xnf_InvalidDeeds, noT := xnt_InvalidDeeds, kC := xk_InvalidDeeds, exC := xe_InvalidDeeds,
      veC := xv_InvalidDeeds, tyC := xt_InvalidDeeds, hdC := xd_InvalidDeeds, sub := xmr_InvalidDeeds, sup := PySem.W.mg_none_of KX G xsup, supI := xsu_InvalidDeeds, opq := xop, htop := xtop,
      fn := ⟨_, _, _, _, _, _, _, _, _, _, _, _, _, _, _, _, _, _, _, _, _, xi_InvalidDeeds, xit_InvalidDeeds, xl_InvalidDeeds, xco_InvalidDeeds, xcd_InvalidDeeds, xcf_InvalidDeeds, xcg_InvalidDeeds, xcc_InvalidDeeds, xtext_InvalidDeeds⟩ }
  have x_InvalidLog : PySem.ExcX.XC l.prog K mg "InvalidLog" "given" C.InvalidLog :=
    { gC := PySem.W.mg_of KX G g_InvalidLog, cls := ⟨_, _, _, _, _, _, _, _, _, _, _, _, _, _, _, xc_InvalidLog, xm_InvalidLog⟩, sa := xsa_InvalidLog, ga := xga_InvalidLog, gg := xgg_InvalidLog, noF := xnf_InvalidLog, noT := xnt_InvalidLog, kC := xk_InvalidLog, exC := xe_InvalidLog,
      veC := xv_InvalidLog, tyC := xt_InvalidLog, hdC := xd_InvalidLog, sub := xmr_InvalidLog, sup := PySem.W.mg_none_of KX G xsup, supI := xsu_InvalidLog, opq := xop, htop := xtop,
      fn := ⟨_, _, _, _, _, _, _, _, _, _, _, _, _, _, _, _, _, _, _, _, _, xi_InvalidLog, xit_InvalidLog, xl_InvalidLog, xco_InvalidLog, xcd_InvalidLog, xcf_InvalidLog, xcg_InvalidLog, xcc_InvalidLog, xtext_InvalidLog⟩ }
  have x_InvalidStand : PySem.ExcX.XC l.prog K mg "InvalidStand" "given" C.InvalidStand :=
    { gC := PySem.W.mg_of KX G g_InvalidStand, cls := ⟨_, _, _, _, _, _, _, _, _, _, _, _, _, _, _, xc_InvalidStand, xm_InvalidStand⟩, sa := xsa_InvalidStand, ga := xga_InvalidStand, gg := xgg_InvalidStand, noF := xnf_InvalidStand, noT := xnt_InvalidStand, kC := xk_InvalidStand, exC := xe_InvalidStand,
      veC := xv_InvalidStand, tyC := xt_InvalidStand, hdC := xd_InvalidStand, sub := xmr_InvalidStand, sup := PySem.W.mg_none_of KX G xsup, supI := xsu_InvalidStand, opq := xop, htop := xtop,
      fn := ⟨_, _, _, _, _, _, _, _, _, _, _, _, _, _, _, _, _, _, _, _, _, xi_InvalidStand, xit_InvalidStand, xl_InvalidStand, xco_InvalidStand, xcd_InvalidStand, xcf_InvalidStand, xcg_InvalidStand, xcc_InvalidStand, xtext_InvalidStand⟩ }
  have x_InvalidStore : PySem.ExcX.XC l.prog K mg "InvalidStore" "index" C.InvalidStore :=
    { gC := PySem.W.mg_of KX G g_InvalidStore, cls := ⟨_, _, _, _, _, _, _, _, _, _, _, _, _, _, _, xc_InvalidStore, xm_InvalidStore⟩, sa := xsa_InvalidStore, ga := xga_InvalidStore, gg := xgg_InvalidStore, noF := xnf_InvalidStore, noT := xnt_InvalidStore, kC := xk_InvalidStore, exC := xe_InvalidStore,
      veC := xv_InvalidStore, tyC := xt_InvalidStore, hdC := xd_InvalidStore, sub := xmr_InvalidStore, sup := PySem.W.mg_none_of KX G xsup, supI := xsu_InvalidStore, opq := xop, htop := xtop,
      fn := ⟨_, _, _, _, _, _, _, _, _, _, _, _, _, _, _, _, _, _, _, _, _, xi_InvalidStore, xit_InvalidStore, xl_InvalidStore, xco_InvalidStore, xcd_InvalidStore, xcf_InvalidStore, xcg_InvalidStore, xcc_InvalidStore, xtext_InvalidStore⟩ }
  have x_TooMany : PySem.ExcX.XC l.prog K mg "TooMany" "most" C.TooMany :=
    { gC := PySem.W.mg_of KX G g_TooMany, cls := ⟨_, _, _, _, _, _, _, _, _, _, _, _, _, _, _, xc_TooMany, xm_TooMany⟩, sa := xsa_TooMany, ga := xga_TooMany, gg := xgg_TooMany, noF := xnf_TooMany, noT := xnt_TooMany, kC := xk_TooMany, exC := xe_TooMany,
      veC := xv_TooMany, tyC := xt_TooMany, hdC := xd_TooMany, sub := xmr_TooMany, sup := PySem.W.mg_none_of KX G xsup, supI := xsu_TooMany, opq := xop, htop := xtop,
      fn := ⟨_, _, _, _, _, _, _, _, _, _, _, _, _, _, _, _, _, _, _, _, _, xi_TooMany, xit_TooMany, xl_TooMany, xco_TooMany, xcd_TooMany, xcf_TooMany, xcg_TooMany, xcc_TooMany, xtext_TooMany⟩ }
  have T : Txt l.prog K mg C :=
    { LETTERS := ⟨_, PySem.W.mg_of KX G q_LETTERS⟩, MOST_DEEDS := ⟨_, PySem.W.mg_of KX G q_MOST_DEEDS⟩, MOST_STANDS := ⟨_, PySem.W.mg_of KX G q_MOST_STANDS⟩, b_all := PySem.W.mg_none_of KX G z_all, b_bool := PySem.W.mg_none_of KX G z_bool, b_enumerate := PySem.W.mg_none_of KX G z_enumerate, b_int := PySem.W.mg_none_of KX G z_int, b_isinstance := PySem.W.mg_none_of KX G z_isinstance, b_len := PySem.W.mg_none_of KX G z_len, b_list := PySem.W.mg_none_of KX G z_list, b_min := PySem.W.mg_none_of KX G z_min, b_range := PySem.W.mg_none_of KX G z_range, b_str := PySem.W.mg_none_of KX G z_str, b_tuple := PySem.W.mg_none_of KX G z_tuple, g_LogError := PySem.W.mg_of KX G g_LogError, g_Missing := PySem.W.mg_of KX G g_Missing, g_InvalidDeed := PySem.W.mg_of KX G g_InvalidDeed, g_InvalidDeeds := PySem.W.mg_of KX G g_InvalidDeeds, g_InvalidLog := PySem.W.mg_of KX G g_InvalidLog, g_InvalidStep := PySem.W.mg_of KX G g_InvalidStep, g_InvalidStore := PySem.W.mg_of KX G g_InvalidStore, g_InvalidStand := PySem.W.mg_of KX G g_InvalidStand, g_InvalidNumber := PySem.W.mg_of KX G g_InvalidNumber, g_InvalidCount := PySem.W.mg_of KX G g_InvalidCount, g_TooMany := PySem.W.mg_of KX G g_TooMany, g_NothingLeft := PySem.W.mg_of KX G g_NothingLeft, n_Store_own_deeds := ⟨⟨kg_Store, kh_Store, ko_Store, ks_Store⟩, fn_Store_own_deeds⟩, n_Store_table := ⟨⟨kg_Store, kh_Store, ko_Store, ks_Store⟩, fn_Store_table⟩, ns_Store := fns_Store, fa_Store___call__ := ⟨_, fafa_Store___call__, fbfa_Store___call__⟩, fa_Store___getitem__ := ⟨_, fafa_Store___getitem__, fbfa_Store___getitem__⟩, g_Store := PySem.W.mg_of KX G g_Store, x_InvalidCount := x_InvalidCount, x_InvalidDeed := x_InvalidDeed, x_InvalidDeeds := x_InvalidDeeds, x_InvalidLog := x_InvalidLog, x_InvalidStand := x_InvalidStand, x_InvalidStore := x_InvalidStore, x_TooMany := x_TooMany }
  have XF_InvalidCount : ∀ f : PySem.Str, f = "tag" ∨ f = "given" → XFld K (.ref C.InvalidCount) f := fun f hf => ⟨_, rfl, xga_InvalidCount, xgg_InvalidCount, xe_InvalidCount, xd_InvalidCount, by rcases hf with rfl | rfl <;> assumption⟩
  have XF_InvalidDeed : ∀ f : PySem.Str, f = "tag" ∨ f = "given" → XFld K (.ref C.InvalidDeed) f := fun f hf => ⟨_, rfl, xga_InvalidDeed, xgg_InvalidDeed, xe_InvalidDeed, xd_InvalidDeed, by rcases hf with rfl | rfl <;> assumption⟩
  have XF_InvalidDeeds : ∀ f : PySem.Str, f = "tag" ∨ f = "given" → XFld K (.ref C.InvalidDeeds) f := fun f hf => ⟨_, rfl, xga_InvalidDeeds, xgg_InvalidDeeds, xe_InvalidDeeds, xd_InvalidDeeds, by rcases hf with rfl | rfl <;> assumption⟩
  have XF_InvalidLog : ∀ f : PySem.Str, f = "tag" ∨ f = "given" → XFld K (.ref C.InvalidLog) f := fun f hf => ⟨_, rfl, xga_InvalidLog, xgg_InvalidLog, xe_InvalidLog, xd_InvalidLog, by rcases hf with rfl | rfl <;> assumption⟩
  have XF_InvalidStand : ∀ f : PySem.Str, f = "tag" ∨ f = "given" → XFld K (.ref C.InvalidStand) f := fun f hf => ⟨_, rfl, xga_InvalidStand, xgg_InvalidStand, xe_InvalidStand, xd_InvalidStand, by rcases hf with rfl | rfl <;> assumption⟩
  have XF_InvalidStore : ∀ f : PySem.Str, f = "tag" ∨ f = "index" → XFld K (.ref C.InvalidStore) f := fun f hf => ⟨_, rfl, xga_InvalidStore, xgg_InvalidStore, xe_InvalidStore, xd_InvalidStore, by rcases hf with rfl | rfl <;> assumption⟩
  have XF_TooMany : ∀ f : PySem.Str, f = "tag" ∨ f = "most" → XFld K (.ref C.TooMany) f := fun f hf => ⟨_, rfl, xga_TooMany, xgg_TooMany, xe_TooMany, xd_TooMany, by rcases hf with rfl | rfl <;> assumption⟩
  have F_is_number := fun_mk (st := s_is_number) l_is_number c_is_number_ k_is_number
  have b_is_number := F_is_number.binds (ps := ["value"]) fun _ _ _ _ _ _ us hl => match us, hl with | [_], _ => rfl
  have F_is_within := fun_mk (st := s_is_within) l_is_within c_is_within_ k_is_within
  have b_is_within := F_is_within.binds (ps := ["value", "low", "high"]) fun _ _ _ _ _ _ us hl => match us, hl with | [_, _, _], _ => rfl
  have F_is_log := fun_mk (st := s_is_log) l_is_log c_is_log_ k_is_log
  have b_is_log := F_is_log.binds (ps := ["value"]) fun _ _ _ _ _ _ us hl => match us, hl with | [_], _ => rfl
  have F_is_log_of := fun_mk (st := s_is_log_of) l_is_log_of c_is_log_of_ k_is_log_of
  have b_is_log_of := F_is_log_of.binds (ps := ["value", "deeds"]) fun _ _ _ _ _ _ us hl => match us, hl with | [_, _], _ => rfl
  have F_is_ascending := fun_mk (st := s_is_ascending) l_is_ascending c_is_ascending_ k_is_ascending
  have b_is_ascending := F_is_ascending.binds (ps := ["text"]) fun _ _ _ _ _ _ us hl => match us, hl with | [_], _ => rfl
  have F_is_deeds := fun_mk (st := s_is_deeds) l_is_deeds c_is_deeds_ k_is_deeds
  have b_is_deeds := F_is_deeds.binds (ps := ["value"]) fun _ _ _ _ _ _ us hl => match us, hl with | [_], _ => rfl
  have F_need_log_of := fun_mk (st := s_need_log_of) l_need_log_of c_need_log_of_ k_need_log_of
  have b_need_log_of := F_need_log_of.binds (ps := ["value", "deeds"]) fun _ _ _ _ _ _ us hl => match us, hl with | [_, _], _ => rfl
  have F_need_deeds := fun_mk (st := s_need_deeds) l_need_deeds c_need_deeds_ k_need_deeds
  have b_need_deeds := F_need_deeds.binds (ps := ["value"]) fun _ _ _ _ _ _ us hl => match us, hl with | [_], _ => rfl
  have F_need_rows := fun_mk (st := s_need_rows) l_need_rows c_need_rows_ k_need_rows
  have b_need_rows := F_need_rows.binds (ps := ["rows", "width"]) fun _ _ _ _ _ _ us hl => match us, hl with | [_, _], _ => rfl
  have F_place_of := fun_mk (st := s_place_of) l_place_of c_place_of_ k_place_of
  have b_place_of := F_place_of.binds (ps := ["deeds", "deed"]) fun _ _ _ _ _ _ us hl => match us, hl with | [_, _], _ => rfl
  have F_Store___init__ := fun_mk (st := s_Store___init__) l_Store___init__ c_Store___init___ k_Store___init__
  have b_Store___init__ := F_Store___init__.binds (ps := ["self", "deeds", "rows"]) fun _ _ _ _ _ _ us hl => match us, hl with | [_, _, _], _ => rfl
  have F_Store_idle : L2.FunD K "idle" "Store.idle" (defArgs s_Store_idle) (defBody s_Store_idle) (defScope s_Store_idle) [.int 1] [] f_Store_idle _ := ⟨⟨_, _, _, _, _, _, _, _, _, _, rfl, l_Store_idle, c_Store_idle_, .inr ⟨by simp, _, _, _, _, rfl, ld_Store_idle, rfl, .cons ⟨_, rfl⟩ .nil⟩, .inl rfl⟩, k_Store_idle⟩
  obtain ⟨_, ⟨⟩, b_Store_idle⟩ := F_Store_idle.binds1 (ps := ["cls", "deeds", "many"]) 3 1 (by simp) rfl fun _ _ _ _ _ _ _ us its h1 h2 => match us, h1, its, h2 with | [_, _, _], _, [_], _ => ⟨_, rfl, rfl⟩
  have F_Store_rows := fun_mk (st := s_Store_rows) l_Store_rows c_Store_rows_ mk_Store_rows
  have b_Store_rows := F_Store_rows.binds (ps := ["self"]) fun _ _ _ _ _ _ us hl => match us, hl with | [_], _ => rfl
  have F_Store_need_stand := fun_mk (st := s_Store_need_stand) l_Store_need_stand c_Store_need_stand_ mk_Store_need_stand
  have b_Store_need_stand := F_Store_need_stand.binds (ps := ["self", "stand"]) fun _ _ _ _ _ _ us hl => match us, hl with | [_, _], _ => rfl
  have F_Store_need_deed := fun_mk (st := s_Store_need_deed) l_Store_need_deed c_Store_need_deed_ mk_Store_need_deed
  have b_Store_need_deed := F_Store_need_deed.binds (ps := ["self", "deed"]) fun _ _ _ _ _ _ us hl => match us, hl with | [_, _], _ => rfl
  have F_Store___call__ := fun_mk (st := s_Store___call__) l_Store___call__ c_Store___call___ mk_Store___call__
  have b_Store___call__ := F_Store___call__.binds (ps := ["self", "stand", "log"]) fun _ _ _ _ _ _ us hl => match us, hl with | [_, _, _], _ => rfl
  have F_Store___getitem__ := fun_mk (st := s_Store___getitem__) l_Store___getitem__ c_Store___getitem___ mk_Store___getitem__
  have b_Store___getitem__ := F_Store___getitem__.binds (ps := ["self", "at"]) fun _ _ _ _ _ _ us hl => match us, hl with | [_, _], _ => rfl
  have F_Store_change := fun_mk (st := s_Store_change) l_Store_change c_Store_change_ mk_Store_change
  have b_Store_change := F_Store_change.binds (ps := ["self", "stand", "deed", "target"]) fun _ _ _ _ _ _ us hl => match us, hl with | [_, _, _, _], _ => rfl
  have F_Store___setitem__ := fun_mk (st := s_Store___setitem__) l_Store___setitem__ c_Store___setitem___ mk_Store___setitem__
  have b_Store___setitem__ := F_Store___setitem__.binds (ps := ["self", "at", "worth"]) fun _ _ _ _ _ _ us hl => match us, hl with | [_, _, _], _ => rfl
  have F_Store_reached := fun_mk (st := s_Store_reached) l_Store_reached c_Store_reached_ mk_Store_reached
  have b_Store_reached := F_Store_reached.binds (ps := ["self", "stand"]) fun _ _ _ _ _ _ us hl => match us, hl with | [_, _], _ => rfl
  have F_law_pull := fun_mk (st := s_law_pull) l_law_pull c_law_pull_ k_law_pull
  have b_law_pull := F_law_pull.binds (ps := ["_law_bag", "_law_many"]) fun _ _ _ _ _ _ us hl => match us, hl with | [_, _], _ => rfl
  have F_law_pick := fun_mk (st := s_law_pick) l_law_pick c_law_pick_ k_law_pick
  have b_law_pick := F_law_pick.binds (ps := ["_law_bag", "_law_some"]) fun _ _ _ _ _ _ us hl => match us, hl with | [_, _], _ => rfl
  have F_law_letters := fun_mk (st := s_law_letters) l_law_letters c_law_letters_ k_law_letters
  have b_law_letters := F_law_letters.binds (ps := []) fun _ _ _ _ _ _ us hl => match us, hl with | [], _ => rfl
  have F_law_alphabet := fun_mk (st := s_law_alphabet) l_law_alphabet c_law_alphabet_ k_law_alphabet
  have b_law_alphabet := F_law_alphabet.binds (ps := ["_law_bag", "_law_most"]) fun _ _ _ _ _ _ us hl => match us, hl with | [_, _], _ => rfl
  have F_law_rows := fun_mk (st := s_law_rows) l_law_rows c_law_rows_ k_law_rows
  have b_law_rows := F_law_rows.binds (ps := ["_law_bag", "_law_many", "_law_width"]) fun _ _ _ _ _ _ us hl => match us, hl with | [_, _, _], _ => rfl
  have F_law_bad_deeds := fun_mk (st := s_law_bad_deeds) l_law_bad_deeds c_law_bad_deeds_ k_law_bad_deeds
  have b_law_bad_deeds := F_law_bad_deeds.binds (ps := ["_law_bag"]) fun _ _ _ _ _ _ us hl => match us, hl with | [_], _ => rfl
  have F_law_same := fun_mk (st := s_law_same) l_law_same c_law_same_ k_law_same
  have b_law_same := F_law_same.binds (ps := ["_law_found", "_law_due"]) fun _ _ _ _ _ _ us hl => match us, hl with | [_, _], _ => rfl
  have F_law_ask := fun_mk (st := s_law_ask) l_law_ask c_law_ask_ k_law_ask
  have b_law_ask := F_law_ask.binds (ps := ["_law_f"]) fun _ _ _ _ _ _ us hl => match us, hl with | [_], _ => rfl
  have F_law_laid := fun_mk (st := s_law_laid) l_law_laid c_law_laid_ k_law_laid
  have b_law_laid := F_law_laid.binds (ps := ["_law_store", "_law_my_stand", "_law_my_deed", "_law_my_target"]) fun _ _ _ _ _ _ us hl => match us, hl with | [_, _, _, _], _ => rfl
  have F_law_calls_refused := fun_mk (st := s_law_calls_refused) l_law_calls_refused c_law_calls_refused_ k_law_calls_refused
  have b_law_calls_refused := F_law_calls_refused.binds (ps := ["_law_bag", "_law_deeds", "_law_store", "_law_many"]) fun _ _ _ _ _ _ us hl => match us, hl with | [_, _, _, _], _ => rfl
  have F_law_start := fun_mk (st := s_law_start) l_law_start c_law_start_ k_law_start
  have b_law_start := F_law_start.binds (ps := ["_law_script"]) fun _ _ _ _ _ _ us hl => match us, hl with | [_], _ => rfl
  refine ⟨PySem.W.fnOf "law" "law" (defArgs s_law) (defBody s_law) (defScope s_law) .none kV_law dc_law pm_law an_law (.ref c_law) ct_law, [(c_law_calls_refused, Pt_law_calls_refused), (c_law, Pt_law)], spOf K 1 fsLaw, fun p hp => ?_, fun p hp => ?_, fun p hp => ?_, fun s u => .of_eq rfl, fun H a ns hn _ hT hS => ?_, fun base KB GB TB => ?_⟩
  · rcases List.mem_cons.mp hp with rfl | hp
    · exact tb
    · rw [List.mem_singleton.mp hp]; exact tb1
  · rcases List.mem_cons.mp hp with rfl | hp
    · exact nP_law_calls_refused
    · rw [List.mem_singleton.mp hp]; exact nP_law
  · rcases List.mem_cons.mp hp with rfl | hp
    · exact PySem.W.codeHd_of_K KX hd_law_calls_refused
    · rw [List.mem_singleton.mp hp]; exact PySem.W.codeHd_of_K KX hd_law
  · exact law_entry (fun p hp => by
      rcases List.mem_cons.mp hp with rfl | hp
      · exact LamX.TabS.nil (hT _ List.mem_cons_self)
      · rw [List.mem_singleton.mp hp]; exact LamX.TabS.nil (hT _ (List.mem_cons_of_mem _ List.mem_cons_self))) hS hn
  · have D_law_start : Df l.prog w K mg base "_law_start" 1 1 fsStart := df_mk F_law_start (PySem.W.mg_of KX G a_law_start) b_law_start rfl (ok_law_start (w := w) F_law_start T)
    have ok_is_number := (ok_is_number (w := w) (base := base) F_is_number T )
    have D_is_number := (df_mk F_is_number (PySem.W.mg_of KX G a_is_number) b_is_number rfl ok_is_number).imp (fs' := fsIsNum) fun ds kd kx _ => is_num_ok'
    have ok_is_within := (ok_is_within (w := w) (base := base) F_is_within T D_is_number)
    have D_is_within := (df_mk F_is_within (PySem.W.mg_of KX G a_is_within) b_is_within rfl ok_is_within).imp (fs' := fsWithin) fun ds kd kx _ => within_ok'
    have ok_is_log := (ok_is_log (w := w) (base := base) F_is_log T )
    have D_is_log := (df_mk F_is_log (PySem.W.mg_of KX G a_is_log) b_is_log rfl ok_is_log).imp (fs' := fsIsLog) fun ds kd kx _ => is_log_ok'
    have ok_is_log_of := (ok_is_log_of (w := w) (base := base) F_is_log_of T )
    have D_is_log_of := (df_mk F_is_log_of (PySem.W.mg_of KX G a_is_log_of) b_is_log_of rfl ok_is_log_of).imp (fs' := fsIsLogV) fun ds kd kx _ => isLogV_ok'
    have ok_is_ascending := (ok_is_ascending (w := w) (base := base) F_is_ascending T )
    have D_is_ascending := (df_mk F_is_ascending (PySem.W.mg_of KX G a_is_ascending) b_is_ascending rfl ok_is_ascending).imp (fs' := fsAscX) fun ds kd kx _ => ascX_ok'
    have ok_is_deeds := (ok_is_deeds (w := w) (base := base) F_is_deeds T D_is_log D_is_ascending)
    have D_is_deeds := (df_mk F_is_deeds (PySem.W.mg_of KX G a_is_deeds) b_is_deeds rfl ok_is_deeds).imp (fs' := fsIsDeedsX) fun ds kd kx _ => is_deedsX_ok'
    have ok_need_log_of := (ok_need_log_of (w := w) (base := base) F_need_log_of T D_is_log_of)
    have D_need_log_of := (df_mk F_need_log_of (PySem.W.mg_of KX G a_need_log_of) b_need_log_of rfl ok_need_log_of).imp (fs' := (fsNeedV C.InvalidLog)) fun ds kd kx _ => needV_ok'
    have ok_need_deeds := (ok_need_deeds (w := w) (base := base) F_need_deeds T D_is_deeds)
    have D_need_deeds := (df_mk F_need_deeds (PySem.W.mg_of KX G a_need_deeds) b_need_deeds rfl ok_need_deeds).imp (fs' := (fsNeedDsX C.InvalidDeeds)) fun ds kd kx _ => need_deedsX_ok'
    have ok_need_rows := (ok_need_rows (w := w) (base := base) F_need_rows T D_is_within)
    have D_need_rows := (df_mk F_need_rows (PySem.W.mg_of KX G a_need_rows) b_need_rows rfl ok_need_rows).imp (fs' := (fsNeedRows C.InvalidStore C.TooMany)) fun ds kd kx _ => needRows_ok'
    have ok_place_of := (ok_place_of (w := w) (base := base) F_place_of T )
    have D_place_of := (df_mk F_place_of (PySem.W.mg_of KX G a_place_of) b_place_of rfl ok_place_of).imp (fs' := fsNoF) fun ds kd kx _ => noF_ok'
    have R_Store___init__ := imp_spOi (fs' := (fsStoI C.Store C.InvalidDeeds C.InvalidStore C.TooMany)) (fnR_of (ok_Store___init__ (w := w) (base := base) F_Store___init__ T D_need_deeds D_need_rows) b_Store___init__) fun ds kd kx h => stoI_ok' h
    have Mk_Store : MkI l.prog w K mg base C.Store 4 2 (fsStoI C.Store C.InvalidDeeds C.InvalidStore C.TooMany) := ⟨_, ⟨ia_Store, ib_Store, ic_Store, id_Store⟩, R_Store___init__⟩
    have R_Store_idle := imp_spOf (fs' := (fsIdle C.Store C.InvalidDeeds C.InvalidCount)) (fnR_of (ok_Store_idle (w := w) (base := base) F_Store_idle T D_need_deeds D_is_within Mk_Store) b_Store_idle) fun ds kd kx h => idle_ok' h
    have M_Store_idle : CMt l.prog w K mg base C.Store "idle" 6 2 (fsIdle C.Store C.InvalidDeeds C.InvalidCount) := ⟨_, _, _, ⟨mb_Store_idle, mg_Store_idle⟩, ⟨ma_Store_idle, ⟨_, mr_Store_idle_⟩, mf_Store_idle⟩, R_Store_idle⟩
    have R_Store_rows := imp_spOf (fs' := (fsRows C.Store)) (fnR_of (ok_Store_rows (w := w) (base := base) F_Store_rows T ) b_Store_rows) fun ds kd kx h => rows_ok' h
    have M_Store_rows : Mt l.prog w K mg base C.Store "rows" 1 0 (fsRows C.Store) := ⟨⟨kg_Store, kh_Store, ko_Store, ks_Store⟩, _, ⟨ma_Store_rows, mf_Store_rows, mk_Store_rows⟩, R_Store_rows⟩
    have R_Store_need_stand := imp_spOf (fs' := (fsNeedSt C.Store C.InvalidStand)) (fnR_of (ok_Store_need_stand (w := w) (base := base) F_Store_need_stand T D_is_within) b_Store_need_stand) fun ds kd kx h => needSt_ok' h
    have M_Store_need_stand : Mt l.prog w K mg base C.Store "need_stand" 3 1 (fsNeedSt C.Store C.InvalidStand) := ⟨⟨kg_Store, kh_Store, ko_Store, ks_Store⟩, _, ⟨ma_Store_need_stand, mf_Store_need_stand, mk_Store_need_stand⟩, R_Store_need_stand⟩
    have R_Store_need_deed := imp_spOf (fs' := (fsNeedDe C.Store C.InvalidDeed)) (fnR_of (ok_Store_need_deed (w := w) (base := base) F_Store_need_deed T ) b_Store_need_deed) fun ds kd kx h => needDe_ok' h
    have M_Store_need_deed : Mt l.prog w K mg base C.Store "need_deed" 2 1 (fsNeedDe C.Store C.InvalidDeed) := ⟨⟨kg_Store, kh_Store, ko_Store, ks_Store⟩, _, ⟨ma_Store_need_deed, mf_Store_need_deed, mk_Store_need_deed⟩, R_Store_need_deed⟩
    have R_Store___call__ := imp_spOf (fs' := (fsCallX C.Store C.InvalidStand C.InvalidLog)) (fnR_of (ok_Store___call__ (w := w) (base := base) F_Store___call__ T D_need_log_of M_Store_need_stand) b_Store___call__) fun ds kd kx h => callX_ok' h
    have M_Store___call__ : Mt l.prog w K mg base C.Store "__call__" 4 2 (fsCallX C.Store C.InvalidStand C.InvalidLog) := ⟨⟨kg_Store, kh_Store, ko_Store, ks_Store⟩, _, ⟨ma_Store___call__, mf_Store___call__, mk_Store___call__⟩, R_Store___call__⟩
    have R_Store___getitem__ := imp_spOf (fs' := (fsGetX C.Store C.InvalidStand C.InvalidDeed)) (fnR_of (ok_Store___getitem__ (w := w) (base := base) F_Store___getitem__ T D_place_of M_Store_need_stand M_Store_need_deed) b_Store___getitem__) fun ds kd kx h => getX_ok' h
    have M_Store___getitem__ : Mt l.prog w K mg base C.Store "__getitem__" 4 1 (fsGetX C.Store C.InvalidStand C.InvalidDeed) := ⟨⟨kg_Store, kh_Store, ko_Store, ks_Store⟩, _, ⟨ma_Store___getitem__, mf_Store___getitem__, mk_Store___getitem__⟩, R_Store___getitem__⟩
    have R_Store_change := imp_spOf (fs' := (fsChgX C.Store C.InvalidStand C.InvalidDeed)) (fnR_of (ok_Store_change (w := w) (base := base) F_Store_change T M_Store_need_stand M_Store_need_deed) b_Store_change) fun ds kd kx h => chgX_ok' h
    have M_Store_change : Mt l.prog w K mg base C.Store "change" 4 3 (fsChgX C.Store C.InvalidStand C.InvalidDeed) := ⟨⟨kg_Store, kh_Store, ko_Store, ks_Store⟩, _, ⟨ma_Store_change, mf_Store_change, mk_Store_change⟩, R_Store_change⟩
    have MK_Store_change_target_stand_deed : MtK l.prog w K mg base C.Store "change" 4 4 (fsChgX C.Store C.InvalidStand C.InvalidDeed) ["target", "stand", "deed"] [0, 2, 3, 1] := mtk_mk ⟨kg_Store, kh_Store, ko_Store, ks_Store⟩ ⟨ma_Store_change, mf_Store_change, mk_Store_change⟩ F_Store_change ((ok_Store_change (w := w) (base := base) F_Store_change T M_Store_need_stand M_Store_need_deed).imp (sp' := spOf K 4 (fsChgX C.Store C.InvalidStand C.InvalidDeed)) fun vs H Q E ⟨G, ds, k, kx, a, b, c, d, e⟩ => ⟨G, ds, k, kx, a, b, c, chgX_ok' d, e⟩) (fun _ _ _ _ _ _ us ws h1 h2 => match us, ws, h1, h2 with | [_], [_, _, _], _, _ => rfl) rfl (by decide)
    have R_Store___setitem__ := imp_spOf (fs' := (fsSetX C.Store C.InvalidStand C.InvalidDeed)) (fnR_of (ok_Store___setitem__ (w := w) (base := base) F_Store___setitem__ T M_Store_change) b_Store___setitem__) fun ds kd kx h => setX_ok' h
    have M_Store___setitem__ : Mt l.prog w K mg base C.Store "__setitem__" 5 2 (fsSetX C.Store C.InvalidStand C.InvalidDeed) := ⟨⟨kg_Store, kh_Store, ko_Store, ks_Store⟩, _, ⟨ma_Store___setitem__, mf_Store___setitem__, mk_Store___setitem__⟩, R_Store___setitem__⟩
    have R_Store_reached := imp_spOf (fs' := (fsReachX C.Store C.InvalidStand)) (fnR_of (ok_Store_reached (w := w) (base := base) F_Store_reached T M_Store_need_stand) b_Store_reached) fun ds kd kx h => reachX_ok' h
    have M_Store_reached : Mt l.prog w K mg base C.Store "reached" 4 1 (fsReachX C.Store C.InvalidStand) := ⟨⟨kg_Store, kh_Store, ko_Store, ks_Store⟩, _, ⟨ma_Store_reached, mf_Store_reached, mk_Store_reached⟩, R_Store_reached⟩
    have D_law_pull : Df l.prog w K mg base "_law_pull" 1 2 fsPull := df_mk F_law_pull (PySem.W.mg_of KX G a_law_pull) b_law_pull rfl (pull_conv (ok_law_pull (w := w) F_law_pull T) rfl pull_ok')
    have ok_law_pick := (ok_law_pick (w := w) (base := base) F_law_pick T D_law_pull)
    have D_law_pick := (df_mk F_law_pick (PySem.W.mg_of KX G a_law_pick) b_law_pick rfl ok_law_pick).imp (fs' := fsPick) fun ds kd kx _ => pick_ok'
    have ok_law_letters := (ok_law_letters (w := w) (base := base) F_law_letters T )
    have D_law_letters := (df_mk F_law_letters (PySem.W.mg_of KX G a_law_letters) b_law_letters rfl ok_law_letters).imp (fs' := fsLetters) fun ds kd kx _ => letters_ok' ‹_›
    have ok_law_alphabet := (ok_law_alphabet (w := w) (base := base) F_law_alphabet T D_law_pull D_law_pick D_law_letters)
    have D_law_alphabet := (df_mk F_law_alphabet (PySem.W.mg_of KX G a_law_alphabet) b_law_alphabet rfl ok_law_alphabet).imp (fs' := fsAlpha) fun ds kd kx _ => alpha_ok'
    have ok_law_rows := (ok_law_rows (w := w) (base := base) F_law_rows T D_law_pull)
    have D_law_rows := (df_mk F_law_rows (PySem.W.mg_of KX G a_law_rows) b_law_rows rfl ok_law_rows).imp (fs' := fsLRows) fun ds kd kx _ => rows_law_ok'
    have ok_law_bad_deeds := (ok_law_bad_deeds (w := w) (base := base) F_law_bad_deeds T D_law_alphabet D_law_pick)
    have D_law_bad_deeds := (df_mk F_law_bad_deeds (PySem.W.mg_of KX G a_law_bad_deeds) b_law_bad_deeds rfl ok_law_bad_deeds).imp (fs' := fsBadDs) fun ds kd kx _ => bad_deeds_ok'
    have same : ∀ n, Df l.prog w K mg base "_law_same" n 2 (fsSame n) := fun n => by
      induction n with
      | zero => exact df_mk F_law_same (PySem.W.mg_of KX G a_law_same) b_law_same rfl same_zero
      | succ n ih => exact (df_mk (base := base) F_law_same (PySem.W.mg_of KX G a_law_same) b_law_same rfl (ok_law_same (w := w) F_law_same T (Nat.zero_le n) ih)).imp fun ds kd kx _ => same_ok'
    have D_law_same := same 9
    have ok_law_laid := (ok_law_laid (w := w) (base := base) F_law_laid T M_Store___setitem__)
    have D_law_laid := (df_mk F_law_laid (PySem.W.mg_of KX G a_law_laid) b_law_laid rfl ok_law_laid).imp (fs' := (fsLaidX C.Store C.InvalidStand C.InvalidDeed)) fun ds kd kx _ => laidX_ok' XF_InvalidStand XF_InvalidDeed (by
      show PySem.W.exmAny K (.ref C_InvalidStand) [.ref C_InvalidStand, .ref C_InvalidDeed] = some true
      simp only [PySem.W.exmAny, e_InvalidStand_InvalidStand, e_InvalidStand_InvalidDeed]
      rfl) (by
      show PySem.W.exmAny K (.ref C_InvalidDeed) [.ref C_InvalidStand, .ref C_InvalidDeed] = some true
      simp only [PySem.W.exmAny, e_InvalidDeed_InvalidStand, e_InvalidDeed_InvalidDeed]
      rfl)
    have ok_law_calls_refused := (ok_law_calls_refused (w := w) (base := base) l_law_calls_refused c_law_calls_refused_ (TB _ List.mem_cons_self) List.mem_cons_self T D_law_pick D_law_letters D_law_same D_law_laid F_law_ask (PySem.W.mg_of KX G a_law_ask) b_law_ask M_Store___call__ M_Store___getitem__ M_Store_change M_Store_reached MK_Store_change_target_stand_deed M_Store_idle)
    have D_law_calls_refused := (df_mk F_law_calls_refused (PySem.W.mg_of KX G a_law_calls_refused) b_law_calls_refused rfl ok_law_calls_refused).imp (fs' := (fsRefused C.Store)) fun ds kd kx _ => refused_ok' ⟨XF_InvalidDeed, (by
      show PySem.W.exmAny K (.ref C_InvalidDeed) [.ref C_InvalidDeed, .ref C_InvalidDeeds, .ref C_InvalidLog, .ref C_InvalidStand, .ref C_InvalidNumber, .ref C_InvalidCount] = some true
      simp only [PySem.W.exmAny, e_InvalidDeed_InvalidDeed, e_InvalidDeed_InvalidDeeds, e_InvalidDeed_InvalidLog, e_InvalidDeed_InvalidStand, e_InvalidDeed_InvalidNumber, e_InvalidDeed_InvalidCount]
      rfl)⟩ ⟨XF_InvalidLog, (by
      show PySem.W.exmAny K (.ref C_InvalidLog) [.ref C_InvalidDeed, .ref C_InvalidDeeds, .ref C_InvalidLog, .ref C_InvalidStand, .ref C_InvalidNumber, .ref C_InvalidCount] = some true
      simp only [PySem.W.exmAny, e_InvalidLog_InvalidDeed, e_InvalidLog_InvalidDeeds, e_InvalidLog_InvalidLog, e_InvalidLog_InvalidStand, e_InvalidLog_InvalidNumber, e_InvalidLog_InvalidCount]
      rfl)⟩ ⟨XF_InvalidStand, (by
      show PySem.W.exmAny K (.ref C_InvalidStand) [.ref C_InvalidDeed, .ref C_InvalidDeeds, .ref C_InvalidLog, .ref C_InvalidStand, .ref C_InvalidNumber, .ref C_InvalidCount] = some true
      simp only [PySem.W.exmAny, e_InvalidStand_InvalidDeed, e_InvalidStand_InvalidDeeds, e_InvalidStand_InvalidLog, e_InvalidStand_InvalidStand, e_InvalidStand_InvalidNumber, e_InvalidStand_InvalidCount]
      rfl)⟩ ⟨XF_InvalidCount, (by
      show PySem.W.exmAny K (.ref C_InvalidCount) [.ref C_InvalidDeed, .ref C_InvalidDeeds, .ref C_InvalidLog, .ref C_InvalidStand, .ref C_InvalidNumber, .ref C_InvalidCount] = some true
      simp only [PySem.W.exmAny, e_InvalidCount_InvalidDeed, e_InvalidCount_InvalidDeeds, e_InvalidCount_InvalidLog, e_InvalidCount_InvalidStand, e_InvalidCount_InvalidNumber, e_InvalidCount_InvalidCount]
      rfl)⟩
    refine (ok_law (w := w) (kV := kV_law) l_law c_law_ (TB _ (List.mem_cons_of_mem _ List.mem_cons_self)) (List.mem_cons_of_mem _ List.mem_cons_self) T D_law_start D_law_alphabet D_law_pull D_law_rows D_law_bad_deeds D_law_same D_law_pick D_law_calls_refused F_law_ask (PySem.W.mg_of KX G a_law_ask) b_law_ask Mk_Store M_Store_idle M_Store_rows).imp fun vs H Q E ⟨G, ds, k, kx, a, b, c, d, e⟩ => ⟨G, ds, k, kx, a, b, c, law_ok' ⟨XF_InvalidDeeds, (by
      show PySem.W.exmAny K (.ref C_InvalidDeeds) [.ref C_InvalidDeed, .ref C_InvalidDeeds, .ref C_InvalidLog, .ref C_InvalidStand, .ref C_InvalidNumber, .ref C_InvalidCount] = some true
      simp only [PySem.W.exmAny, e_InvalidDeeds_InvalidDeed, e_InvalidDeeds_InvalidDeeds, e_InvalidDeeds_InvalidLog, e_InvalidDeeds_InvalidStand, e_InvalidDeeds_InvalidNumber, e_InvalidDeeds_InvalidCount]
      rfl)⟩ XF_InvalidStore (by
      show PySem.W.exmAny K (.ref C_InvalidStore) [.ref C_InvalidDeed, .ref C_InvalidDeeds, .ref C_InvalidLog, .ref C_InvalidStand, .ref C_InvalidNumber, .ref C_InvalidCount] = some false
      simp only [PySem.W.exmAny, e_InvalidStore_InvalidDeed, e_InvalidStore_InvalidDeeds, e_InvalidStore_InvalidLog, e_InvalidStore_InvalidStand, e_InvalidStore_InvalidNumber, e_InvalidStore_InvalidCount]
      rfl) e_InvalidStore_InvalidStep e_InvalidStore_InvalidStore XF_TooMany (by
      show PySem.W.exmAny K (.ref C_TooMany) [.ref C_InvalidDeed, .ref C_InvalidDeeds, .ref C_InvalidLog, .ref C_InvalidStand, .ref C_InvalidNumber, .ref C_InvalidCount] = some false
      simp only [PySem.W.exmAny, e_TooMany_InvalidDeed, e_TooMany_InvalidDeeds, e_TooMany_InvalidLog, e_TooMany_InvalidStand, e_TooMany_InvalidNumber, e_TooMany_InvalidCount]
      rfl) e_TooMany_InvalidStep e_TooMany_InvalidStore e_TooMany_TooMany d, e⟩
end K22
def PySem.W.Fast.tw16741871509817345260 : Unit := ()
def PySem.W.Fast.tw18431937649997760576 : Unit := ()
def PySem.W.Fast.tw7981134985830498492 : Unit := ()
def PySem.W.Fast.tw18445233450658716694 : Unit := ()
def PySem.W.Fast.tw17415875340106267719 : Unit := ()
def PySem.W.Fast.tw4152372786253090100 : Unit := ()
def PySem.W.Fast.tw6503404540998210722 : Unit := ()
def PySem.W.Fast.tw14464730103763715575 : Unit := ()
def PySem.W.Fast.tw3470415567959918015 : Unit := ()
def PySem.W.Fast.tw5244960862118628112 : Unit := ()
def PySem.W.Fast.tw12686510625362668038 : Unit := ()
def PySem.W.Fast.tw2874734368242980769 : Unit := ()
def PySem.W.Fast.tw14689677314322653899 : Unit := ()
def PySem.W.Fast.tw10378916291231481065 : Unit := ()
def PySem.W.Fast.tw7722807201515250032 : Unit := ()
def PySem.W.Fast.tw16223981939080447178 : Unit := ()
def PySem.W.Fast.tw9167993784138267309 : Unit := ()
def PySem.W.Fast.tw8172270541944875705 : Unit := ()
def PySem.W.Fast.tw14687216335947041663 : Unit := ()
def PySem.W.Fast.tw16652578503895991499 : Unit := ()
def PySem.W.Fast.tw3506223772597122678 : Unit := ()
def PySem.W.Fast.tw197233382285946364 : Unit := ()
def PySem.W.Fast.tw14403405676067303 : Unit := ()
def PySem.W.Fast.tw2066022323104437880 : Unit := ()
def PySem.W.Fast.tw8100116414687324561 : Unit := ()
def PySem.W.Fast.tw9333808297676851982 : Unit := ()
def PySem.W.Fast.tw2144990551800323581 : Unit := ()
def PySem.W.Fast.tw2240462002899013815 : Unit := ()
def PySem.W.Fast.tw1466833480238745947 : Unit := ()
def PySem.W.Fast.tw1472977261628039318 : Unit := ()
def PySem.W.Fast.tw7043437640202394668 : Unit := ()
def PySem.W.Fast.tw15295633100609135901 : Unit := ()
def PySem.W.Fast.tw15403965451895491276 : Unit := ()
def PySem.W.Fast.tw3617266142603609781 : Unit := ()
def PySem.W.Fast.tw7425530848012699229 : Unit := ()
def PySem.W.Fast.tw10006693268261783903 : Unit := ()
def PySem.W.Fast.tw7833226719112299981 : Unit := ()
def PySem.W.Fast.tw12005357326239909414 : Unit := ()
def PySem.W.Fast.tw3797253139865966645 : Unit := ()
def PySem.W.Fast.tw570312001075295103 : Unit := ()
def PySem.W.Fast.tw15028149635642307148 : Unit := ()
def PySem.W.Fast.tw5144011254181208822 : Unit := ()
def PySem.W.Fast.tw13811730240320986664 : Unit := ()
def PySem.W.Fast.tw17963950411492835914 : Unit := ()
def PySem.W.Fast.tw7868010651902387853 : Unit := ()
def PySem.W.Fast.tw10343497037878350189 : Unit := ()
def PySem.W.Fast.tw2030440433405014198 : Unit := ()
def PySem.W.Fast.tw11449183929634613741 : Unit := ()
def PySem.W.Fast.tw14543228441358802467 : Unit := ()
def PySem.W.Fast.tw8083039526622030016 : Unit := ()
def PySem.W.Fast.tw11037685546462013258 : Unit := ()
def PySem.W.Fast.tw2964361875147378456 : Unit := ()
def PySem.W.Fast.tw14132724705747182782 : Unit := ()
def PySem.W.Fast.tw16989498508470271082 : Unit := ()
def PySem.W.Fast.tw5739974054859973018 : Unit := ()
def PySem.W.Fast.tw5952568260004393367 : Unit := ()
def PySem.W.Fast.tw14915969040085368059 : Unit := ()
def PySem.W.Fast.tw9405291386237751412 : Unit := ()
def PySem.W.Fast.tw3695677534863508222 : Unit := ()
def PySem.W.Fast.tw16996383958893250954 : Unit := ()
def PySem.W.Fast.tw4392449611217769322 : Unit := ()
def PySem.W.Fast.tw11542846748397572277 : Unit := ()
def PySem.W.Fast.tw14872344215419711374 : Unit := ()
def PySem.W.Fast.tw1918959823668176056 : Unit := ()
def PySem.W.Fast.tw2601219907565887438 : Unit := ()
def PySem.W.Fast.tw7835379982520137900 : Unit := ()
def PySem.W.Fast.tw17183548020243258575 : Unit := ()
def PySem.W.Fast.tw1707539439052651829 : Unit := ()
def PySem.W.Fast.tw18295762249538825636 : Unit := ()
def PySem.W.Fast.tw2460935832469621996 : Unit := ()
def PySem.W.Fast.tw8560414754023546270 : Unit := ()
def PySem.W.Fast.tw7195887806802342366 : Unit := ()
def PySem.W.Fast.tw12928573061340614788 : Unit := ()
def PySem.W.Fast.tw11487354233735979193 : Unit := ()
def PySem.W.Fast.tw7282040893407015901 : Unit := ()
def PySem.W.Fast.tw1442628349868549209 : Unit := ()
def PySem.W.Fast.tw2009697173049185964 : Unit := ()
def PySem.W.Fast.tw14246469721775450406 : Unit := ()
def PySem.W.Fast.tw11605026853587554570 : Unit := ()
def PySem.W.Fast.tw12875767540456962868 : Unit := ()
def PySem.W.Fast.tw14257935966363942274 : Unit := ()
def PySem.W.Fast.tw2060882731491586965 : Unit := ()
def PySem.W.Fast.tw16767048903718289523 : Unit := ()
def PySem.W.Fast.tw17311150385370353440 : Unit := ()
def PySem.W.Fast.tw13091156595683990235 : Unit := ()
def PySem.W.Fast.tw4440398329670257085 : Unit := ()
def PySem.W.Fast.tw4316599434948263294 : Unit := ()
def PySem.W.Fast.tw1735964085708088340 : Unit := ()
def PySem.W.Fast.tw9696605969407831412 : Unit := ()
def PySem.W.Fast.tw9726518628912871865 : Unit := ()
def PySem.W.Fast.tw1782239515558767772 : Unit := ()
def PySem.W.Fast.tw13633722217319990659 : Unit := ()
def PySem.W.Fast.tw14805014218241580840 : Unit := ()
def PySem.W.Fast.tw2697688121592950517 : Unit := ()
def PySem.W.Fast.tw4207533614021492695 : Unit := ()
def PySem.W.Fast.tw7212198837339927399 : Unit := ()
def PySem.W.Fast.tw9656924261697049508 : Unit := ()
def PySem.W.Fast.tw15520121592042632430 : Unit := ()
def PySem.W.Fast.tw10365988259520268464 : Unit := ()
def PySem.W.Fast.tw17159533206544291218 : Unit := ()
def PySem.W.Fast.tw11820471171039056707 : Unit := ()
def PySem.W.Fast.tw14139410356770765482 : Unit := ()
def PySem.W.Fast.tw3704897250576511222 : Unit := ()
def PySem.W.Fast.tw4583766113438542695 : Unit := ()
def PySem.W.Fast.tw10736474186532840846 : Unit := ()
def PySem.W.Fast.tw13597682061312487102 : Unit := ()
def PySem.W.Fast.tw15689051491616246672 : Unit := ()
def PySem.W.Fast.tw6483806878255149457 : Unit := ()
def PySem.W.Fast.tw15198551679469042084 : Unit := ()
def PySem.W.Fast.tw13970457016402166818 : Unit := ()
def PySem.W.Fast.tw3209784718096466448 : Unit := ()
def PySem.W.Fast.tw3693310015968097550 : Unit := ()
def PySem.W.Fast.tw3983354909395590673 : Unit := ()
def PySem.W.Fast.tw10505555310137646919 : Unit := ()
def PySem.W.Fast.tw5898973392961671157 : Unit := ()
def PySem.W.Fast.tw6990801119104034633 : Unit := ()
def PySem.W.Fast.tw2604068643994130876 : Unit := ()
def PySem.W.Fast.tw11045267079456536729 : Unit := ()
def PySem.W.Fast.tw3425996932718250067 : Unit := ()
def PySem.W.Fast.tw7721070333303652399 : Unit := ()
def PySem.W.Fast.tw3055022212306509627 : Unit := ()
def PySem.W.Fast.tw13503481056778931314 : Unit := ()
def PySem.W.Fast.tw3704753265631673050 : Unit := ()
def PySem.W.Fast.tw16727846890993534558 : Unit := ()
def PySem.W.Fast.tw16849209550466824636 : Unit := ()
def PySem.W.Fast.tw6883709898267574629 : Unit := ()
def PySem.W.Fast.tw576715518707086962 : Unit := ()
def PySem.W.Fast.tw16744692044828093817 : Unit := ()
def PySem.W.Fast.tw3987384883319637708 : Unit := ()
def PySem.W.Fast.tw14418140855477430955 : Unit := ()
def PySem.W.Fast.tw9378532683663182925 : Unit := ()
def PySem.W.Fast.tw7905146434714425904 : Unit := ()
def PySem.W.Fast.tw14081587945506741200 : Unit := ()
def PySem.W.Fast.tw3466574216434632884 : Unit := ()
def PySem.W.Fast.tw13251452924197536520 : Unit := ()
def PySem.W.Fast.tw1143734119717607388 : Unit := ()
def PySem.W.Fast.tw6428045069569924723 : Unit := ()
def PySem.W.Fast.tw9143111817644932230 : Unit := ()
def PySem.W.Fast.tw17858344351356918294 : Unit := ()
def PySem.W.Fast.tw16376349006420824743 : Unit := ()
def PySem.W.Fast.tw8185289406044879871 : Unit := ()
def PySem.W.Fast.tw12186921786553202591 : Unit := ()
def PySem.W.Fast.tw6007882776182658263 : Unit := ()
def PySem.W.Fast.tw14557013346895980841 : Unit := ()
def PySem.W.Fast.tw5266833483395064868 : Unit := ()
def PySem.W.Fast.tw8234315589819398239 : Unit := ()
def PySem.W.Fast.tw13408430570798077997 : Unit := ()
def PySem.W.Fast.tw4683974410478201795 : Unit := ()
def PySem.W.Fast.tw6647755347688705905 : Unit := ()
def PySem.W.Fast.tw17395801849083592053 : Unit := ()
def PySem.W.Fast.tw17473168215892475984 : Unit := ()
def PySem.W.Fast.tw15958927899355962244 : Unit := ()
def PySem.W.Fast.tw5379257456179974748 : Unit := ()
def PySem.W.Fast.tw11113862143724954907 : Unit := ()
def PySem.W.Fast.tw9044506069911492291 : Unit := ()
def PySem.W.Fast.tw1426631314081371025 : Unit := ()
def PySem.W.Fast.tw4702858439679648718 : Unit := ()
def PySem.W.Fast.tw3211746179726424058 : Unit := ()
def PySem.W.Fast.tw4895656556501932664 : Unit := ()
def PySem.W.Fast.tw17459526008869109145 : Unit := ()
def PySem.W.Fast.tw13128864548268984536 : Unit := ()
def PySem.W.Fast.tw9732239726877472484 : Unit := ()
def PySem.W.Fast.tw1858260259522714766 : Unit := ()
def PySem.W.Fast.tw16661441370372189318 : Unit := ()
def PySem.W.Fast.tw188866083481499151 : Unit := ()
def PySem.W.Fast.tw7686258295259568824 : Unit := ()
def PySem.W.Fast.tw7293198219170792347 : Unit := ()
def PySem.W.Fast.tw16037491789157258620 : Unit := ()
def PySem.W.Fast.tw9167477663924727025 : Unit := ()
def PySem.W.Fast.tw10590540138076093501 : Unit := ()
def PySem.W.Fast.tw8206625998262209641 : Unit := ()
def PySem.W.Fast.tw9790331985102951700 : Unit := ()
def PySem.W.Fast.tw13660805017813786164 : Unit := ()
def PySem.W.Fast.tw8734326603510983522 : Unit := ()
def PySem.W.Fast.tw7741416526838731929 : Unit := ()
def PySem.W.Fast.tw6534765854558406007 : Unit := ()
def PySem.W.Fast.tw12042010525279509064 : Unit := ()
def PySem.W.Fast.tw18439712756009932758 : Unit := ()
def PySem.W.Fast.tw11054301201983076098 : Unit := ()
def PySem.W.Fast.tw7510361937699199298 : Unit := ()
def PySem.W.Fast.tw7337370792630704113 : Unit := ()
def PySem.W.Fast.tw4948243157665760469 : Unit := ()
def PySem.W.Fast.tw9710055020911502993 : Unit := ()
def PySem.W.Fast.tw5264111351871434227 : Unit := ()
def PySem.W.Fast.tw1045381776312597067 : Unit := ()
def PySem.W.Fast.tw12347233928336035456 : Unit := ()
def PySem.W.Fast.tw9325427896488734547 : Unit := ()
def PySem.W.Fast.tw2415904548799737728 : Unit := ()
def PySem.W.Fast.tw9291160232969027280 : Unit := ()
def PySem.W.Fast.tw3848272294485121926 : Unit := ()
def PySem.W.Fast.tw16112069382891872204 : Unit := ()
def PySem.W.Fast.tw17305564974930534175 : Unit := ()
def PySem.W.Fast.tw13367284877017351629 : Unit := ()
def PySem.W.Fast.tw10023743300853571766 : Unit := ()
def PySem.W.Fast.tw11524477278280615805 : Unit := ()
def PySem.W.Fast.tw17811324107567956642 : Unit := ()
def PySem.W.Fast.tw9580809179879861966 : Unit := ()
def PySem.W.Fast.tw12197091109375199739 : Unit := ()
def PySem.W.Fast.tw385508894199149369 : Unit := ()
def PySem.W.Fast.tw16836011185024622129 : Unit := ()
def PySem.W.Fast.tw18024418453554727407 : Unit := ()
def PySem.W.Fast.tw17285625140034481278 : Unit := ()
def PySem.W.Fast.tw7875111856761825737 : Unit := ()
def PySem.W.Fast.tw6801522552075282230 : Unit := ()
def PySem.W.Fast.tw15897293491359517059 : Unit := ()
def PySem.W.Fast.tw6709077824732704036 : Unit := ()
def PySem.W.Fast.tw3742524833314654932 : Unit := ()
def PySem.W.Fast.tw5083093333511820068 : Unit := ()
def PySem.W.Fast.tw1041045609006472094 : Unit := ()
def PySem.W.Fast.tw364023800671091718 : Unit := ()
def PySem.W.Fast.tw7816507661111041078 : Unit := ()
def PySem.W.Fast.tw748329486025717492 : Unit := ()
def PySem.W.Fast.tw9326077756345111554 : Unit := ()
def PySem.W.Fast.tw11470133336008791973 : Unit := ()
def PySem.W.Fast.tw6771947919380281375 : Unit := ()
def PySem.W.Fast.tw1484592510214693546 : Unit := ()
def PySem.W.Fast.tw15191056310674980738 : Unit := ()
def PySem.W.Fast.tw1311752999830078377 : Unit := ()
def PySem.W.Fast.tw6146328900413151753 : Unit := ()
def PySem.W.Fast.tw13337779596887437805 : Unit := ()
def PySem.W.Fast.tw4356997998141201855 : Unit := ()
def PySem.W.Fast.tw7271310995332192201 : Unit := ()
def PySem.W.Fast.tw14316896874616974849 : Unit := ()
def PySem.W.Fast.tw11497168679888632666 : Unit := ()
def PySem.W.Fast.tw3380317469350626186 : Unit := ()
def PySem.W.Fast.tw3105465620787786653 : Unit := ()
def PySem.W.Fast.tw3431737661685904248 : Unit := ()
def PySem.W.Fast.tw16468178304126091934 : Unit := ()
def PySem.W.Fast.tw7543985711217819063 : Unit := ()
def PySem.W.Fast.tw4593177997288773621 : Unit := ()
def PySem.W.Fast.tw6435214895650270512 : Unit := ()
def PySem.W.Fast.tw18236982461189399059 : Unit := ()
def PySem.W.Fast.tw8990911514973066149 : Unit := ()
def PySem.W.Fast.tw6169699827265947210 : Unit := ()
def PySem.W.Fast.tw14370069242179888556 : Unit := ()
def PySem.W.Fast.tw7077906876783842112 : Unit := ()
def PySem.W.Fast.tw4929542403216820729 : Unit := ()
def PySem.W.Fast.tw1426012375411945091 : Unit := ()
def PySem.W.Fast.tw1306151035657995644 : Unit := ()
def PySem.W.Fast.tw12529458952867840438 : Unit := ()
def PySem.W.Fast.tw474489369537172369 : Unit := ()
def PySem.W.Fast.tw1145932536313694202 : Unit := ()
def PySem.W.Fast.tw4127719950354670057 : Unit := ()
def PySem.W.Fast.tw4747126018771637862 : Unit := ()
def PySem.W.Fast.tw1634010167977790404 : Unit := ()
def PySem.W.Fast.tw16735754758937616301 : Unit := ()
def PySem.W.Fast.tw15303124080531556185 : Unit := ()
def PySem.W.Fast.tw2037592925738836615 : Unit := ()
def PySem.W.Fast.tw9548488992435211838 : Unit := ()
def PySem.W.Fast.tw2940551796599932986 : Unit := ()
def PySem.W.Fast.tw12458485717072565284 : Unit := ()
def PySem.W.Fast.tw6756612280277712683 : Unit := ()
def PySem.W.Fast.tw15284618182146288920 : Unit := ()
def PySem.W.Fast.tw7035283257363929953 : Unit := ()
def PySem.W.Fast.tw993264176151372116 : Unit := ()
def PySem.W.Fast.tw10011390264035429743 : Unit := ()
def PySem.W.Fast.tw13699580300110421619 : Unit := ()
def PySem.W.Fast.tw15028922558704620326 : Unit := ()
def PySem.W.Fast.tw4113618684327836535 : Unit := ()
def PySem.W.Fast.tw5763830757337337358 : Unit := ()
def PySem.W.Fast.tw16350026401489913454 : Unit := ()
def PySem.W.Fast.tw15345569023545821176 : Unit := ()
def PySem.W.Fast.tw16203513501151561599 : Unit := ()
def PySem.W.Fast.tw17376308069681444643 : Unit := ()
def PySem.W.Fast.tw6124467520584865282 : Unit := ()
def PySem.W.Fast.tw3682066117477284714 : Unit := ()
def PySem.W.Fast.tw6884416208619561552 : Unit := ()
def PySem.W.Fast.tw11639705949196516133 : Unit := ()
def PySem.W.Fast.tw13256238789973393809 : Unit := ()
def PySem.W.Fast.tw7723956105322641158 : Unit := ()
def PySem.W.Fast.tw5976602036242402024 : Unit := ()
def PySem.W.Fast.tw13913644157337292997 : Unit := ()
def PySem.W.Fast.tw9258359438332526862 : Unit := ()
def PySem.W.Fast.tw18383234238503026802 : Unit := ()
def PySem.W.Fast.tw204133307237006737 : Unit := ()
def PySem.W.Fast.tw12894348592013473403 : Unit := ()
def PySem.W.Fast.tw7598784393893357807 : Unit := ()
def PySem.W.Fast.tw16414288825959867605 : Unit := ()
def PySem.W.Fast.tw5056441921605012312 : Unit := ()
def PySem.W.Fast.tw14076077825252898864 : Unit := ()
def PySem.W.Fast.tw3618234124528413729 : Unit := ()
def PySem.W.Fast.tw16590026207337155501 : Unit := ()
def PySem.W.Fast.tw15537607769492779705 : Unit := ()
def PySem.W.Fast.tw17017467212753570592 : Unit := ()
def PySem.W.Fast.tw9757560868784838342 : Unit := ()
def PySem.W.Fast.tw5370197123182456204 : Unit := ()
def PySem.W.Fast.tw17650707594520880759 : Unit := ()
def PySem.W.Fast.tw9380235579335584088 : Unit := ()
def PySem.W.Fast.tw8845663619617731905 : Unit := ()
def PySem.W.Fast.tw12768565245635564065 : Unit := ()
def PySem.W.Fast.tw6581438500198091155 : Unit := ()
def PySem.W.Fast.tw17247604274719257022 : Unit := ()
def PySem.W.Fast.tw7645394123164726532 : Unit := ()
def PySem.W.Fast.tw9287120445545694572 : Unit := ()
def PySem.W.Fast.tw13295078339565946288 : Unit := ()
def PySem.W.Fast.tw4523662098652448245 : Unit := ()
def PySem.W.Fast.tw3012165322799098575 : Unit := ()
def PySem.W.Fast.tw18424711406542795720 : Unit := ()
def PySem.W.Fast.tw6542102676011860109 : Unit := ()
def PySem.W.Fast.tw5113604331164892942 : Unit := ()
def PySem.W.Fast.tw2129012473615663648 : Unit := ()
def PySem.W.Fast.tw11850037914303729541 : Unit := ()
def PySem.W.Fast.tw16608576838551720574 : Unit := ()
def PySem.W.Fast.tw7342141423550196031 : Unit := ()
def PySem.W.Fast.tw4338534115508189979 : Unit := ()
def PySem.W.Fast.tw4480859838426866368 : Unit := ()
def PySem.W.Fast.tw829118166544629466 : Unit := ()
def PySem.W.Fast.tw5693488426042473245 : Unit := ()
def PySem.W.Fast.tw18166989052456564760 : Unit := ()
def PySem.W.Fast.tw2052452549206458427 : Unit := ()
def PySem.W.Fast.tw11097984067368632360 : Unit := ()
def PySem.W.Fast.tw4632041361106083570 : Unit := ()
def PySem.W.Fast.tw13441537297135653598 : Unit := ()
def PySem.W.Fast.tw2891147846500718814 : Unit := ()
def PySem.W.Fast.tw15470454171449403520 : Unit := ()
def PySem.W.Fast.tw13370158836975886455 : Unit := ()
def PySem.W.Fast.tw10847527932989360240 : Unit := ()
def PySem.W.Fast.tw3464873629526766254 : Unit := ()
def PySem.W.Fast.tw4769164081777885224 : Unit := ()
def PySem.W.Fast.tw13799496697259821996 : Unit := ()
def PySem.W.Fast.tw15925750610950049216 : Unit := ()
def PySem.W.Fast.tw1337204350928291097 : Unit := ()
def PySem.W.Fast.tw8473200879553770812 : Unit := ()
def PySem.W.Fast.tw17666558816254709794 : Unit := ()
def PySem.W.Fast.tw2117428899553898440 : Unit := ()
def PySem.W.Fast.tw6696870651524767815 : Unit := ()
def PySem.W.Fast.tw5266666555000805949 : Unit := ()
def PySem.W.Fast.tw2305274300035302201 : Unit := ()
def PySem.W.Fast.tw6287435913160657970 : Unit := ()
def PySem.W.Fast.tw7638625581754678370 : Unit := ()
def PySem.W.Fast.tw1311575747836721495 : Unit := ()
def PySem.W.Fast.tw8081580945439759784 : Unit := ()
def PySem.W.Fast.tw6877008404580595798 : Unit := ()
def PySem.W.Fast.tw1226170526775925272 : Unit := ()
def PySem.W.Fast.tw1181871752323431505 : Unit := ()
def PySem.W.Fast.tw2031992150011513494 : Unit := ()
def PySem.W.Fast.tw526938487037925723 : Unit := ()
def PySem.W.Fast.tw13844714525908419333 : Unit := ()
def PySem.W.Fast.tw13836855401411779886 : Unit := ()
def PySem.W.Fast.tw10895962819410492065 : Unit := ()
def PySem.W.Fast.tw5335821483678526850 : Unit := ()
def PySem.W.Fast.tw775791435861614724 : Unit := ()
def PySem.W.Fast.tw4618067487947235747 : Unit := ()
def PySem.W.Fast.tw3409538225280955733 : Unit := ()
def PySem.W.Fast.tw14617433117905674229 : Unit := ()
def PySem.W.Fast.tw5347018573076959669 : Unit := ()
def PySem.W.Fast.tw6705311841419556813 : Unit := ()
def PySem.W.Fast.tw2483122866700258025 : Unit := ()
def PySem.W.Fast.tw18377840608627653218 : Unit := ()
def PySem.W.Fast.tw16390915102119474211 : Unit := ()
def PySem.W.Fast.tw13316666881718373802 : Unit := ()
def PySem.W.Fast.tw7363485375997784681 : Unit := ()
def PySem.W.Fast.tw12325785803119974922 : Unit := ()
def PySem.W.Fast.tw11651548864245057763 : Unit := ()
def PySem.W.Fast.tw14257758973105688686 : Unit := ()
def PySem.W.Fast.tw4372069879593063673 : Unit := ()
def PySem.W.Fast.tw17006375048480043998 : Unit := ()
def PySem.W.Fast.tw9510840794906870516 : Unit := ()
def PySem.W.Fast.tw2098260514286341681 : Unit := ()
def PySem.W.Fast.tw12154254398435837337 : Unit := ()
def PySem.W.Fast.tw7525111205188888778 : Unit := ()
def PySem.W.Fast.tw17247887592821421450 : Unit := ()
def PySem.W.Fast.tw14654280497634909208 : Unit := ()
def PySem.W.Fast.tw17697597278690507985 : Unit := ()
def PySem.W.Fast.tw7239852076241715548 : Unit := ()
def PySem.W.Fast.tw11515427847011634392 : Unit := ()
def PySem.W.Fast.tw2785199764034638196 : Unit := ()
def PySem.W.Fast.tw10723821024658012407 : Unit := ()
def PySem.W.Fast.tw6332343762589159116 : Unit := ()
def PySem.W.Fast.tw2689777274681092862 : Unit := ()
def PySem.W.Fast.tw3615621360712599066 : Unit := ()
def PySem.W.Fast.tw10840155980442454673 : Unit := ()
def PySem.W.Fast.tw17785332872299428427 : Unit := ()
def PySem.W.Fast.tw3826065142462928633 : Unit := ()
def PySem.W.Fast.tw7001466451158561948 : Unit := ()
def PySem.W.Fast.tw15718271384504291180 : Unit := ()
def PySem.W.Fast.tw16034710300759740027 : Unit := ()
def PySem.W.Fast.tw16487759129120013791 : Unit := ()
def PySem.W.Fast.tw15936544510644357882 : Unit := ()
def PySem.W.Fast.tw5142267163260147494 : Unit := ()
def PySem.W.Fast.tw12659542452953108672 : Unit := ()
def PySem.W.Fast.tw12326447783981800494 : Unit := ()
def PySem.W.Fast.tw14258100292140073699 : Unit := ()
def PySem.W.Fast.tw4795600439497092233 : Unit := ()
def PySem.W.Fast.tw6759276944011287888 : Unit := ()
def PySem.W.Fast.tw7223611433193267904 : Unit := ()
def PySem.W.Fast.tw6064493601029817905 : Unit := ()
def PySem.W.Fast.tw3428569716624315806 : Unit := ()
def PySem.W.Fast.tw12175317809812058283 : Unit := ()
def PySem.W.Fast.tw15726821531080677703 : Unit := ()
def PySem.W.Fast.tw3849168265804740879 : Unit := ()
def PySem.W.Fast.tw12745966526954846885 : Unit := ()
def PySem.W.Fast.tw10010629768579967475 : Unit := ()
def PySem.W.Fast.tw13763064960225772825 : Unit := ()
def PySem.W.Fast.tw4333799358538466668 : Unit := ()
def PySem.W.Fast.tw13633957121366334227 : Unit := ()
def PySem.W.Fast.tw497344962000054157 : Unit := ()
def PySem.W.Fast.tw10469121453885690528 : Unit := ()
def PySem.W.Fast.tw16465650820338438112 : Unit := ()
def PySem.W.Fast.tw10098344807745321647 : Unit := ()
def PySem.W.Fast.tw3479025939731571666 : Unit := ()
def PySem.W.Fast.tw1753801954770682181 : Unit := ()
def PySem.W.Fast.tw6545882483633270697 : Unit := ()
def PySem.W.Fast.tw16090282170271919074 : Unit := ()
def PySem.W.Fast.tw9512459961208477173 : Unit := ()
def PySem.W.Fast.tw16560260804735918487 : Unit := ()
def PySem.W.Fast.tw6062210851905540855 : Unit := ()
def PySem.W.Fast.tw4570788929401986069 : Unit := ()
def PySem.W.Fast.tw3979117614355175387 : Unit := ()
def PySem.W.Fast.tw4116247549133004136 : Unit := ()
def PySem.W.Fast.tw4690081141436766827 : Unit := ()
def PySem.W.Fast.tw9035073385362136958 : Unit := ()
def PySem.W.Fast.tw5847076958193195355 : Unit := ()
def PySem.W.Fast.tw17768375098022897936 : Unit := ()
def PySem.W.Fast.tw1625500070362894642 : Unit := ()
def PySem.W.Fast.tw12718132309955679237 : Unit := ()
def PySem.W.Fast.tw6421255635203890357 : Unit := ()
def PySem.W.Fast.tw4658027452786153910 : Unit := ()
def PySem.W.Fast.tw6229527612515764994 : Unit := ()
def PySem.W.Fast.tw4776519584882511914 : Unit := ()
def PySem.W.Fast.tw4184108350925602920 : Unit := ()
def PySem.W.Fast.tw10279825330964135426 : Unit := ()
def PySem.W.Fast.tw7363070890893076711 : Unit := ()
def PySem.W.Fast.tw3304374130008173974 : Unit := ()
def PySem.W.Fast.tw13176141946108348628 : Unit := ()
def PySem.W.Fast.tw5083730997120838115 : Unit := ()
def PySem.W.Fast.tw5697549433345403763 : Unit := ()
def PySem.W.Fast.tw5249677536028626431 : Unit := ()
def PySem.W.Fast.tw7449947745311798019 : Unit := ()
def PySem.W.Fast.tw8843735755096952915 : Unit := ()
def PySem.W.Fast.tw9298173823038949812 : Unit := ()
def PySem.W.Fast.tw3048715364400284467 : Unit := ()
def PySem.W.Fast.tw10533605640206312869 : Unit := ()
def PySem.W.Fast.tw2552064238360294628 : Unit := ()
def PySem.W.Fast.tw3108259766725855433 : Unit := ()
def PySem.W.Fast.tw2262256691352820757 : Unit := ()
def PySem.W.Fast.tw11338772411148729368 : Unit := ()
def PySem.W.Fast.tw6710918028777028122 : Unit := ()
def PySem.W.Fast.tw811958226093370678 : Unit := ()
def PySem.W.Fast.tw6655918903919216942 : Unit := ()
def PySem.W.Fast.tw2988755508614347407 : Unit := ()
def PySem.W.Fast.tw15893524370782052570 : Unit := ()
def PySem.W.Fast.tw3121904560165874572 : Unit := ()
def PySem.W.Fast.tw3455054707547016320 : Unit := ()
def PySem.W.Fast.tw6192457757343867106 : Unit := ()
def PySem.W.Fast.tw13498049290263044818 : Unit := ()
def PySem.W.Fast.tw11743661715075870172 : Unit := ()
def PySem.W.Fast.tw16625575421535700467 : Unit := ()
def PySem.W.Fast.tw14469745993629495889 : Unit := ()
def PySem.W.Fast.tw17255332144538645947 : Unit := ()
def PySem.W.Fast.tw13830091238757827014 : Unit := ()
def PySem.W.Fast.tw12419179508604213476 : Unit := ()
def PySem.W.Fast.tw12545742167284283033 : Unit := ()
def PySem.W.Fast.tw17848638730219454345 : Unit := ()
def PySem.W.Fast.tw18017861893874184560 : Unit := ()
def PySem.W.Fast.tw8083050835303345527 : Unit := ()
def PySem.W.Fast.tw3665468587366969716 : Unit := ()
def PySem.W.Fast.tw3599706215559003338 : Unit := ()
def PySem.W.Fast.tw3901273180910860139 : Unit := ()
def PySem.W.Fast.tw16915426208605766707 : Unit := ()
def PySem.W.Fast.tw13805027068732777236 : Unit := ()
def PySem.W.Fast.tw1878068585658293964 : Unit := ()
def PySem.W.Fast.tw6829237369919615485 : Unit := ()
def PySem.W.Fast.tw14971788662413118249 : Unit := ()
def PySem.W.Fast.tw14097074541391460978 : Unit := ()
def PySem.W.Fast.tw11242854031765089709 : Unit := ()
def PySem.W.Fast.tw2817680843795200452 : Unit := ()
def PySem.W.Fast.tw14061865385647224671 : Unit := ()
def PySem.W.Fast.tw13098252359306222882 : Unit := ()
def PySem.W.Fast.tw14993558326266939943 : Unit := ()
def PySem.W.Fast.tw242137496040483317 : Unit := ()
def PySem.W.Fast.tw11106467796415860643 : Unit := ()
def PySem.W.Fast.tw9993735307483582742 : Unit := ()
def PySem.W.Fast.tw9705437044058967381 : Unit := ()
def PySem.W.Fast.tw7439734646858123206 : Unit := ()
def PySem.W.Fast.tw2107249316710032801 : Unit := ()
def PySem.W.Fast.tw12004959711339966844 : Unit := ()
def PySem.W.Fast.tw4366779052053637443 : Unit := ()
def PySem.W.Fast.tw4647815023539641733 : Unit := ()
def PySem.W.Fast.tw17536529137458154568 : Unit := ()
def PySem.W.Fast.tw2219496199884762849 : Unit := ()
def PySem.W.Fast.tw10960722020092020920 : Unit := ()
def PySem.W.Fast.tw6673231541374147564 : Unit := ()
def PySem.W.Fast.tw12305909788779844386 : Unit := ()
def PySem.W.Fast.tw9218197724757981851 : Unit := ()
def PySem.W.Fast.tw10369299900501959332 : Unit := ()
def PySem.W.Fast.tw4097285201787505376 : Unit := ()
def PySem.W.Fast.tw11242422629679865405 : Unit := ()
def PySem.W.Fast.tw14941500918569459471 : Unit := ()
def PySem.W.Fast.tw14047241056756112214 : Unit := ()
def PySem.W.Fast.tw3885436516224974763 : Unit := ()
def PySem.W.Fast.tw7092056999952126455 : Unit := ()
def PySem.W.Fast.tw12125577750274941210 : Unit := ()
def PySem.W.Fast.tw11828677941996350106 : Unit := ()
def PySem.W.Fast.tw12307538092370464030 : Unit := ()
def PySem.W.Fast.tw15974149773094504181 : Unit := ()
def PySem.W.Fast.tw10662933361764999154 : Unit := ()
def PySem.W.Fast.tw10614987191252039797 : Unit := ()
def PySem.W.Fast.tw15088806869982730187 : Unit := ()
def PySem.W.Fast.tw17951067482079416481 : Unit := ()
def PySem.W.Fast.tw17736298543445697576 : Unit := ()
def PySem.W.Fast.tw16485655773752866208 : Unit := ()
def PySem.W.Fast.tw1092331985317773874 : Unit := ()
def PySem.W.Fast.tw13753655649826690385 : Unit := ()
def PySem.W.Fast.tw1465697741522182047 : Unit := ()
def PySem.W.Fast.tw12020572362715847706 : Unit := ()
def PySem.W.Fast.tw7600953316528156823 : Unit := ()
def PySem.W.Fast.tw13897337635078441142 : Unit := ()
def PySem.W.Fast.tw10263756706201372912 : Unit := ()
def PySem.W.Fast.tw10592513193102858852 : Unit := ()
def PySem.W.Fast.tw18202655618871882222 : Unit := ()
def PySem.W.Fast.tw1208426302001053581 : Unit := ()
def PySem.W.Fast.tw14809242972262788466 : Unit := ()
def PySem.W.Fast.tw17018338234880249677 : Unit := ()
def PySem.W.Fast.tw5396591509513504823 : Unit := ()
def PySem.W.Fast.tw5803376806094909815 : Unit := ()
def PySem.W.Fast.tw5179201794364666193 : Unit := ()
def PySem.W.Fast.tw10441466363586969092 : Unit := ()
def PySem.W.Fast.tw10202322919089554497 : Unit := ()
def PySem.W.Fast.tw12231637219849628958 : Unit := ()
def PySem.W.Fast.tw17839793847191863919 : Unit := ()
def PySem.W.Fast.tw11826861974067823306 : Unit := ()
def PySem.W.Fast.tw2195613969544052158 : Unit := ()
def PySem.W.Fast.tw9662382014610185800 : Unit := ()
def PySem.W.Fast.tw14534258182394891230 : Unit := ()
def PySem.W.Fast.tw12865571353786326941 : Unit := ()
def PySem.W.Fast.tw14393240933251309637 : Unit := ()
def PySem.W.Fast.tw2393602577163212029 : Unit := ()
def PySem.W.Fast.tw16078227513303599115 : Unit := ()
def PySem.W.Fast.tw15499744162742740887 : Unit := ()
def PySem.W.Fast.tw3500246808366462418 : Unit := ()
def PySem.W.Fast.tw17704239035841047644 : Unit := ()
def PySem.W.Fast.tw6132449208615996898 : Unit := ()
def PySem.W.Fast.tw11751267804212403293 : Unit := ()
def PySem.W.Fast.tw15562797538948883656 : Unit := ()
def PySem.W.Fast.tw4171473926510277795 : Unit := ()
def PySem.W.Fast.tw13019919323440631560 : Unit := ()
def PySem.W.Fast.tw1387610164816658961 : Unit := ()
def PySem.W.Fast.tw17012374559064588737 : Unit := ()
def PySem.W.Fast.tw17583634401515258424 : Unit := ()
def PySem.W.Fast.tw6481186968631010768 : Unit := ()
def PySem.W.Fast.tw13203341142736808783 : Unit := ()
def PySem.W.Fast.tw3909864364476147505 : Unit := ()
def PySem.W.Fast.tw9227410388892613945 : Unit := ()
def PySem.W.Fast.tw8990022529207408180 : Unit := ()
def PySem.W.Fast.tw8053650203038412151 : Unit := ()
def PySem.W.Fast.tw12763141491579859125 : Unit := ()
def PySem.W.Fast.tw7514668751174508065 : Unit := ()
def PySem.W.Fast.tw4772941080574912556 : Unit := ()
def PySem.W.Fast.tw11245667349075972686 : Unit := ()
def PySem.W.Fast.tw16465320215655972234 : Unit := ()
def PySem.W.Fast.tw5077958439956297916 : Unit := ()
def PySem.W.Fast.tw14667758880078998549 : Unit := ()
def PySem.W.Fast.tw2378131396795427854 : Unit := ()
def PySem.W.Fast.tw8989633897444922412 : Unit := ()
def PySem.W.Fast.tw11010841861175219517 : Unit := ()
def PySem.W.Fast.tw16169601284969526308 : Unit := ()
def PySem.W.Fast.tw11490660607494864731 : Unit := ()
def PySem.W.Fast.tw12669407554907195619 : Unit := ()
def PySem.W.Fast.tw16474677369940582174 : Unit := ()
def PySem.W.Fast.tw2336936628816285039 : Unit := ()
def PySem.W.Fast.tw14253748506107112508 : Unit := ()
def PySem.W.Fast.tw1871898848138734431 : Unit := ()
def PySem.W.Fast.tw525455985759606161 : Unit := ()
def PySem.W.Fast.tw2783630803622216887 : Unit := ()
def PySem.W.Fast.tw13415508484779699561 : Unit := ()
def PySem.W.Fast.tw5915124561327162338 : Unit := ()
def PySem.W.Fast.tw8139651683389392688 : Unit := ()
def PySem.W.Fast.tw320873893337788633 : Unit := ()
def PySem.W.Fast.tw2748303919561157726 : Unit := ()
def PySem.W.Fast.tw6894683001246361247 : Unit := ()
def PySem.W.Fast.tw8765043868298822913 : Unit := ()
def PySem.W.Fast.tw911279606107811843 : Unit := ()
def PySem.W.Fast.tw4515562856544232209 : Unit := ()
def PySem.W.Fast.tw8081236569440459819 : Unit := ()
def PySem.W.Fast.tw10923038983898175430 : Unit := ()
def PySem.W.Fast.tw7857440491151975050 : Unit := ()
def PySem.W.Fast.tw17256789243516640132 : Unit := ()
def PySem.W.Fast.tw9939442944792449049 : Unit := ()
def PySem.W.Fast.tw9947100675201902390 : Unit := ()
def PySem.W.Fast.tw10784819580467496424 : Unit := ()
def PySem.W.Fast.tw16722029097735431550 : Unit := ()
def PySem.W.Fast.tw5663405314943351317 : Unit := ()
def PySem.W.Fast.tw10764197902139572188 : Unit := ()
def PySem.W.Fast.tw11956753817249816642 : Unit := ()
def PySem.W.Fast.tw8128602105650091845 : Unit := ()
def PySem.W.Fast.tw18229135329577805526 : Unit := ()
def PySem.W.Fast.tw3993419999508549889 : Unit := ()
def PySem.W.Fast.tw5859379023695436661 : Unit := ()
def PySem.W.Fast.tw9133717331018022238 : Unit := ()
def PySem.W.Fast.tw4227019574617919495 : Unit := ()
def PySem.W.Fast.tw8206052697207366101 : Unit := ()
def PySem.W.Fast.tw11096082877945647634 : Unit := ()
def PySem.W.Fast.tw13765499133936985149 : Unit := ()
def PySem.W.Fast.tw17248389786380361308 : Unit := ()
def PySem.W.Fast.tw6623047970127078002 : Unit := ()
def PySem.W.Fast.tw17550336470366958905 : Unit := ()
def PySem.W.Fast.tw1959744124079954996 : Unit := ()
def PySem.W.Fast.tw3272201524622938321 : Unit := ()
def PySem.W.Fast.tw12205266479038310788 : Unit := ()
def PySem.W.Fast.tw4891269289059682135 : Unit := ()
def PySem.W.Fast.tw4618445185731374324 : Unit := ()
def PySem.W.Fast.tw4748885035723004013 : Unit := ()
def PySem.W.Fast.tw3941983496743970550 : Unit := ()
def PySem.W.Fast.tw4630720544614611384 : Unit := ()
def PySem.W.Fast.tw10864607389472616041 : Unit := ()
def PySem.W.Fast.tw498032041810835375 : Unit := ()
def PySem.W.Fast.tw13502744643203184148 : Unit := ()
def PySem.W.Fast.tw8964755428570335451 : Unit := ()
def PySem.W.Fast.tw4585030232076107426 : Unit := ()
def PySem.W.Fast.tw520316731354938052 : Unit := ()
def PySem.W.Fast.tw10021202221942905174 : Unit := ()
def PySem.W.Fast.tw9645873566197367086 : Unit := ()
def PySem.W.Fast.tw5420180531743081437 : Unit := ()
def PySem.W.Fast.tw14781880932942398595 : Unit := ()
def PySem.W.Fast.tw3644692466835721988 : Unit := ()
def PySem.W.Fast.tw11400253201530297426 : Unit := ()
def PySem.W.Fast.tw17384130127858694682 : Unit := ()
def PySem.W.Fast.tw7728738762920965185 : Unit := ()
def PySem.W.Fast.tw9208811725841670367 : Unit := ()
def PySem.W.Fast.tw15344076406036137623 : Unit := ()
def PySem.W.Fast.tw16625273461063108541 : Unit := ()
def PySem.W.Fast.tw4681948954669944882 : Unit := ()
def PySem.W.Fast.tw14317647620373220508 : Unit := ()
def PySem.W.Fast.tw7788269206031215382 : Unit := ()
def PySem.W.Fast.tw2461085252707918453 : Unit := ()
def PySem.W.Fast.tw5051961523309306510 : Unit := ()
def PySem.W.Fast.tw5439173600222560166 : Unit := ()
def PySem.W.Fast.tw10962587532830658772 : Unit := ()
def PySem.W.Fast.tw6528574536164842053 : Unit := ()
def PySem.W.Fast.tw9156078925111267447 : Unit := ()
def PySem.W.Fast.tw6316223362062466070 : Unit := ()
def PySem.W.Fast.tw12868912755406119448 : Unit := ()
def PySem.W.Fast.tw5001586609396715961 : Unit := ()
def PySem.W.Fast.tw1628404688082084441 : Unit := ()
def PySem.W.Fast.tw16403427095797254140 : Unit := ()
def PySem.W.Fast.tw11991784795935611146 : Unit := ()
def PySem.W.Fast.tw6541654212756209855 : Unit := ()
def PySem.W.Fast.tw8952031367628136653 : Unit := ()
def PySem.W.Fast.tw7450730991498152557 : Unit := ()
def PySem.W.Fast.tw5873641369063293969 : Unit := ()
def PySem.W.Fast.tw12282407840613326485 : Unit := ()
def PySem.W.Fast.tw1249933500630894186 : Unit := ()
def PySem.W.Fast.tw8230055473277021024 : Unit := ()
def PySem.W.Fast.tw9977238889504795155 : Unit := ()
def PySem.W.Fast.tw15808312874361671652 : Unit := ()
def PySem.W.Fast.tw11706193508011079094 : Unit := ()
def PySem.W.Fast.tw9943480308311122466 : Unit := ()
def PySem.W.Fast.tw10568652256081901779 : Unit := ()
def PySem.W.Fast.tw13194672898182918654 : Unit := ()
def PySem.W.Fast.tw13317547380698014734 : Unit := ()
def PySem.W.Fast.tw14727499547438665262 : Unit := ()
def PySem.W.Fast.tw9886056366821050094 : Unit := ()
def PySem.W.Fast.tw8047238441784755183 : Unit := ()
def PySem.W.Fast.tw16617067340790954890 : Unit := ()
def PySem.W.Fast.tw11647415058418963913 : Unit := ()
def PySem.W.Fast.tw10891339760823466061 : Unit := ()
def PySem.W.Fast.tw14626876106494235484 : Unit := ()
def PySem.W.Fast.tw14349834042554526776 : Unit := ()
def PySem.W.Fast.tw7556728261361330358 : Unit := ()
def PySem.W.Fast.tw9383536634163395595 : Unit := ()
def PySem.W.Fast.tw7521281216452216742 : Unit := ()
def PySem.W.Fast.tw14293029258499502991 : Unit := ()
def PySem.W.Fast.tw15772770171407397825 : Unit := ()
def PySem.W.Fast.tw2854683621672866555 : Unit := ()
def PySem.W.Fast.tw11484174071671661076 : Unit := ()
def PySem.W.Fast.tw12998756402784056555 : Unit := ()
def PySem.W.Fast.tw5785113469484445758 : Unit := ()
def PySem.W.Fast.tw16866073502681366326 : Unit := ()
def PySem.W.Fast.tw16311687311710857778 : Unit := ()
def PySem.W.Fast.tw8657382341229779536 : Unit := ()
def PySem.W.Fast.tw13522068569505483518 : Unit := ()
def PySem.W.Fast.tw6392232723690789656 : Unit := ()
def PySem.W.Fast.tw7482228146145284392 : Unit := ()
def PySem.W.Fast.tw9202415735546461359 : Unit := ()
def PySem.W.Fast.tw3111658598749091511 : Unit := ()
def PySem.W.Fast.tw9052479509896681168 : Unit := ()
def PySem.W.Fast.tw17433899603599324880 : Unit := ()
def PySem.W.Fast.tw7373882013895962228 : Unit := ()
def PySem.W.Fast.tw3606240058329484250 : Unit := ()
def PySem.W.Fast.tw13629177364687289778 : Unit := ()
def PySem.W.Fast.tw11518493208832037715 : Unit := ()
def PySem.W.Fast.tw13008973105961234674 : Unit := ()
def PySem.W.Fast.tw13252070734071531512 : Unit := ()
def PySem.W.Fast.tw4306169533713046962 : Unit := ()
def PySem.W.Fast.tw14617008542516161334 : Unit := ()
def PySem.W.Fast.tw13271348976329156745 : Unit := ()
def PySem.W.Fast.tw5836579517215908012 : Unit := ()
def PySem.W.Fast.tw9222761747610104094 : Unit := ()
def PySem.W.Fast.tw13161819482353937670 : Unit := ()
def PySem.W.Fast.tw15724196356570865668 : Unit := ()
def PySem.W.Fast.tw3713915954998169704 : Unit := ()
def PySem.W.Fast.tw178024852179748707 : Unit := ()
def PySem.W.Fast.tw12521261631452883519 : Unit := ()
def PySem.W.Fast.tw11739856013561260138 : Unit := ()
def PySem.W.Fast.tw16149730847741548616 : Unit := ()
def PySem.W.Fast.tw14905239159373145684 : Unit := ()
def PySem.W.Fast.tw3630236589899300255 : Unit := ()
def PySem.W.Fast.tw12245410630133272641 : Unit := ()
def PySem.W.Fast.tw912753214612724362 : Unit := ()
def PySem.W.Fast.tw978045172583601956 : Unit := ()
def PySem.W.Fast.tw1176045451614142031 : Unit := ()
def PySem.W.Fast.tw13764898400096031020 : Unit := ()
def PySem.W.Fast.tw6414435694806137080 : Unit := ()
def PySem.W.Fast.tw31332523783833256 : Unit := ()
def PySem.W.Fast.tw1379284902085181923 : Unit := ()
def PySem.W.Fast.tw3126006730610490671 : Unit := ()
def PySem.W.Fast.tw12522454130246439049 : Unit := ()
def PySem.W.Fast.tw9764719953316707948 : Unit := ()
def PySem.W.Fast.tw10331411783379252927 : Unit := ()
def PySem.W.Fast.tw1687072612071067210 : Unit := ()
def PySem.W.Fast.tw10612480059231391831 : Unit := ()
def PySem.W.Fast.tw16119825678453242884 : Unit := ()
def PySem.W.Fast.tw1995821536675356735 : Unit := ()
def PySem.W.Fast.tw3726285037751711048 : Unit := ()
def PySem.W.Fast.tw16714091013407579540 : Unit := ()
def PySem.W.Fast.tw2132929786671146799 : Unit := ()
def PySem.W.Fast.tw10430992251365069382 : Unit := ()
def PySem.W.Fast.tw3912054953940352319 : Unit := ()
def PySem.W.Fast.tw17673165846440540700 : Unit := ()
def PySem.W.Fast.tw1511870728633373122 : Unit := ()
def PySem.W.Fast.tw5418079643093875477 : Unit := ()
def PySem.W.Fast.tw18189034658206045966 : Unit := ()
def PySem.W.Fast.tw15119323943454266750 : Unit := ()
def PySem.W.Fast.tw2847408815589472941 : Unit := ()
def PySem.W.Fast.tw5202562835546071091 : Unit := ()
def PySem.W.Fast.tw6521726746517049448 : Unit := ()
def PySem.W.Fast.tw8506884276883388059 : Unit := ()
def PySem.W.Fast.tw1634313135165934932 : Unit := ()
def PySem.W.Fast.tw4085221123204547925 : Unit := ()
def PySem.W.Fast.tw8657748281570410016 : Unit := ()
def PySem.W.Fast.tw9848902971235808450 : Unit := ()
def PySem.W.Fast.tw12412173103449470191 : Unit := ()
def PySem.W.Fast.tw1163849121792692961 : Unit := ()
def PySem.W.Fast.tw5081365362898587341 : Unit := ()
def PySem.W.Fast.tw10464696441417450378 : Unit := ()
def PySem.W.Fast.tw14614460354515335119 : Unit := ()
def PySem.W.Fast.tw17734382621153894217 : Unit := ()
def PySem.W.Fast.tw4693858889843305831 : Unit := ()
def PySem.W.Fast.tw12779831776228052219 : Unit := ()
def PySem.W.Fast.tw14215948316860180864 : Unit := ()
def PySem.W.Fast.tw4854061855386809382 : Unit := ()
def PySem.W.Fast.tw6743318923344576471 : Unit := ()
def PySem.W.Fast.tw2000358339720514038 : Unit := ()
def PySem.W.Fast.tw12607963619241359848 : Unit := ()
def PySem.W.Fast.tw4824696293875569485 : Unit := ()
def PySem.W.Fast.tw6714466055700808699 : Unit := ()
def PySem.W.Fast.tw4946466459421541216 : Unit := ()
def PySem.W.Fast.tw320409884848640137 : Unit := ()
def PySem.W.Fast.tw12006730915933350126 : Unit := ()
def PySem.W.Fast.tw12676830846733919179 : Unit := ()
def PySem.W.Fast.tw5339952617878746434 : Unit := ()
def PySem.W.Fast.tw13295628475235123498 : Unit := ()
def PySem.W.Fast.tw2814792885831550545 : Unit := ()
def PySem.W.Fast.tw10623530584278513669 : Unit := ()
def PySem.W.Fast.tw17213552254212596218 : Unit := ()
def PySem.W.Fast.tw16855498934143477764 : Unit := ()
def PySem.W.Fast.tw16472653081194411651 : Unit := ()
def PySem.W.Fast.tw4702565720362415174 : Unit := ()
def PySem.W.Fast.tw15230914143308102380 : Unit := ()
def PySem.W.Fast.tw15141739723006941490 : Unit := ()
def PySem.W.Fast.tw3106948682302765559 : Unit := ()
def PySem.W.Fast.tw5569532130916925302 : Unit := ()
def PySem.W.Fast.tw13354544626450888376 : Unit := ()
def PySem.W.Fast.tw7267670525185500644 : Unit := ()
def PySem.W.Fast.tw12762458134325981783 : Unit := ()
def PySem.W.Fast.tw14309641254541136474 : Unit := ()
def PySem.W.Fast.tw240233742792478479 : Unit := ()
def PySem.W.Fast.tw48582258420966372 : Unit := ()
def PySem.W.Fast.tw8103067381628339071 : Unit := ()
def PySem.W.Fast.tw15170226561752481384 : Unit := ()
def PySem.W.Fast.tw13733405757591273932 : Unit := ()
def PySem.W.Fast.tw5613917543452270789 : Unit := ()
def PySem.W.Fast.tw2066433581944115654 : Unit := ()
def PySem.W.Fast.tw6585611777722435544 : Unit := ()
def PySem.W.Fast.tw13982916919799653608 : Unit := ()
def PySem.W.Fast.tw12126122486879298537 : Unit := ()
def PySem.W.Fast.tw13738018703446067707 : Unit := ()
def PySem.W.Fast.tw343046648158136803 : Unit := ()
def PySem.W.Fast.tw1506306569182569781 : Unit := ()
def PySem.W.Fast.tw9202205372621829866 : Unit := ()
def PySem.W.Fast.tw2795468456614538200 : Unit := ()
def PySem.W.Fast.tw3997252540376510640 : Unit := ()
def PySem.W.Fast.tw14073595256367577565 : Unit := ()
def PySem.W.Fast.tw3858818966074796245 : Unit := ()
def PySem.W.Fast.tw1382522468480422116 : Unit := ()
def PySem.W.Fast.tw348964241567400624 : Unit := ()
def PySem.W.Fast.tw9780660307458979943 : Unit := ()
def PySem.W.Fast.tw3045439122272574289 : Unit := ()
def PySem.W.Fast.tw16936263627763351747 : Unit := ()
def PySem.W.Fast.tw16647882488557443357 : Unit := ()
def PySem.W.Fast.tw18007261041225202118 : Unit := ()
def PySem.W.Fast.tw731004725599767319 : Unit := ()
def PySem.W.Fast.tw14230130919546403754 : Unit := ()
def PySem.W.Fast.tw13345227187680512677 : Unit := ()
def PySem.W.Fast.tw12392695289904081837 : Unit := ()
def PySem.W.Fast.tw12846062591709665714 : Unit := ()
def PySem.W.Fast.tw16406874329445089568 : Unit := ()
def PySem.W.Fast.tw14959633944107859736 : Unit := ()
def PySem.W.Fast.tw7382394290369106306 : Unit := ()
def PySem.W.Fast.tw1540786135250133992 : Unit := ()
def PySem.W.Fast.tw5770040621300837035 : Unit := ()
def PySem.W.Fast.tw4451171024625323146 : Unit := ()
def PySem.W.Fast.tw3308674360445605125 : Unit := ()
def PySem.W.Fast.tw5549540178755395962 : Unit := ()
def PySem.W.Fast.tw8806312809504575712 : Unit := ()
def PySem.W.Fast.tw10422404829339023594 : Unit := ()
def PySem.W.Fast.tw8211004077022679909 : Unit := ()
def PySem.W.Fast.tw14376474063556336410 : Unit := ()
def PySem.W.Fast.tw16530387244751692640 : Unit := ()
def PySem.W.Fast.tw11372134028086866327 : Unit := ()
def PySem.W.Fast.tw10461919987931130307 : Unit := ()
def PySem.W.Fast.tw18383808838036315761 : Unit := ()
def PySem.W.Fast.tw4633337146104603920 : Unit := ()
def PySem.W.Fast.tw5934499649051300981 : Unit := ()
def PySem.W.Fast.tw17064838009750662091 : Unit := ()
def PySem.W.Fast.tw13733141646662902742 : Unit := ()
def PySem.W.Fast.tw15680738911224630008 : Unit := ()
def PySem.W.Fast.tw15574190437790564819 : Unit := ()
def PySem.W.Fast.tw9023908390272932366 : Unit := ()
def PySem.W.Fast.tw9368792401020290341 : Unit := ()
def PySem.W.Fast.tw1172563693556367087 : Unit := ()
def PySem.W.Fast.tw14514718211325698546 : Unit := ()
def PySem.W.Fast.tw7489248385429649758 : Unit := ()
def PySem.W.Fast.tw2279899217547876908 : Unit := ()
def PySem.W.Fast.tw12808970964908225525 : Unit := ()
def PySem.W.Fast.tw265435673431569174 : Unit := ()
def PySem.W.Fast.tw15387234327804616058 : Unit := ()
def PySem.W.Fast.tw13462507012281014426 : Unit := ()
def PySem.W.Fast.tw11653090668247092025 : Unit := ()
def PySem.W.Fast.tw15145892138844613728 : Unit := ()
def PySem.W.Fast.tw9055760892711991372 : Unit := ()
def PySem.W.Fast.tw8308951978918182487 : Unit := ()
def PySem.W.Fast.tw471641245530804733 : Unit := ()
def PySem.W.Fast.tw11184177665287165230 : Unit := ()
def PySem.W.Fast.tw14518582019990329839 : Unit := ()
def PySem.W.Fast.tw4790298773165205153 : Unit := ()
def PySem.W.Fast.tw14280701138963300488 : Unit := ()
def PySem.W.Fast.tw18027887518358856061 : Unit := ()
def PySem.W.Fast.tw9904175696442134708 : Unit := ()
def PySem.W.Fast.tw13506420108459212958 : Unit := ()
def PySem.W.Fast.tw10406901584469160863 : Unit := ()
def PySem.W.Fast.tw14253885904838131214 : Unit := ()
def PySem.W.Fast.tw5813490541465512192 : Unit := ()
def PySem.W.Fast.tw16631836246369965169 : Unit := ()
def PySem.W.Fast.tw9944283909222114994 : Unit := ()
def PySem.W.Fast.tw7453923674191917367 : Unit := ()
def PySem.W.Fast.tw12677271306668016056 : Unit := ()
def PySem.W.Fast.tw6692674381969372295 : Unit := ()
def PySem.W.Fast.tw16318176372076093287 : Unit := ()
def PySem.W.Fast.tw2396679262800286131 : Unit := ()
def PySem.W.Fast.tw2627118738458272803 : Unit := ()
def PySem.W.Fast.tw16811398171421984515 : Unit := ()
def PySem.W.Fast.tw1297919468384300696 : Unit := ()
def PySem.W.Fast.tw3160622272270269622 : Unit := ()
def PySem.W.Fast.tw7215272489462017915 : Unit := ()
def PySem.W.Fast.tw14001972751759737683 : Unit := ()
def PySem.W.Fast.tw1926984268864475029 : Unit := ()
def PySem.W.Fast.tw5297188778755573750 : Unit := ()
def PySem.W.Fast.tw13572627803517803783 : Unit := ()
def PySem.W.Fast.tw8918892178990210290 : Unit := ()
def PySem.W.Fast.tw6819331732716079036 : Unit := ()
def PySem.W.Fast.tw6361848000995176913 : Unit := ()
def PySem.W.Fast.tw10463741719359508578 : Unit := ()
def PySem.W.Fast.tw12937566888948044576 : Unit := ()
def PySem.W.Fast.tw6373504110401274146 : Unit := ()
def PySem.W.Fast.tw10802479943589912088 : Unit := ()
def PySem.W.Fast.tw2829454086094085276 : Unit := ()
def PySem.W.Fast.tw12979653408809738585 : Unit := ()
def PySem.W.Fast.tw361883766465530755 : Unit := ()
def PySem.W.Fast.tw11394543563033748944 : Unit := ()
def PySem.W.Fast.tw11375634297146183698 : Unit := ()
def PySem.W.Fast.tw5707742268054618919 : Unit := ()
def PySem.W.Fast.tw753843839496276942 : Unit := ()
def PySem.W.Fast.tw7644260802110052166 : Unit := ()
def PySem.W.Fast.tw17480437311075299881 : Unit := ()
def PySem.W.Fast.tw7205487354565436954 : Unit := ()
def PySem.W.Fast.tw13025978279409689643 : Unit := ()
def PySem.W.Fast.tw4361432064162194740 : Unit := ()
def PySem.W.Fast.tw15688350364111641113 : Unit := ()
def PySem.W.Fast.tw3240320882100992284 : Unit := ()
def PySem.W.Fast.tw17841635212194203787 : Unit := ()
def PySem.W.Fast.tw13901052671124951735 : Unit := ()
def PySem.W.Fast.tw6871511756922463912 : Unit := ()
def PySem.W.Fast.tw17579993913595704723 : Unit := ()
def PySem.W.Fast.tw4723512547240381299 : Unit := ()
def PySem.W.Fast.tw2143914224001444201 : Unit := ()
def PySem.W.Fast.tw2076337656822128772 : Unit := ()
def PySem.W.Fast.tw13843422847580760744 : Unit := ()
def PySem.W.Fast.tw9764578356929314699 : Unit := ()
def PySem.W.Fast.tw11264898382205306868 : Unit := ()
def PySem.W.Fast.tw11933772837632652687 : Unit := ()
def PySem.W.Fast.tw12374564423734728610 : Unit := ()
def PySem.W.Fast.tw15836726022092831846 : Unit := ()
def PySem.W.Fast.tw9643351996376246912 : Unit := ()
def PySem.W.Fast.tw3552065733799984711 : Unit := ()
def PySem.W.Fast.tw16347883748526482127 : Unit := ()
def PySem.W.Fast.tw18221555901166476396 : Unit := ()
def PySem.W.Fast.tw14445015138821892187 : Unit := ()
def PySem.W.Fast.tw5314483910548674284 : Unit := ()
def PySem.W.Fast.tw544445439053849040 : Unit := ()
def PySem.W.Fast.tw14868985672936717839 : Unit := ()
def PySem.W.Fast.tw9176131907071482326 : Unit := ()
def PySem.W.Fast.tw9382945732141674016 : Unit := ()
def PySem.W.Fast.tw11008042029935738341 : Unit := ()
def PySem.W.Fast.tw9528799960624071309 : Unit := ()
def PySem.W.Fast.tw14003418452923521583 : Unit := ()
def PySem.W.Fast.tw17102867837546607239 : Unit := ()
def PySem.W.Fast.tw12398716002704151236 : Unit := ()
def PySem.W.Fast.tw16480577458141872103 : Unit := ()
def PySem.W.Fast.tw16668322025632235425 : Unit := ()
def PySem.W.Fast.tw12587179117995286180 : Unit := ()
def PySem.W.Fast.tw11845517932695518957 : Unit := ()
def PySem.W.Fast.tw626377941825268550 : Unit := ()
def PySem.W.Fast.tw3432017376769889340 : Unit := ()
def PySem.W.Fast.tw15797428125355625407 : Unit := ()
def PySem.W.Fast.tw10541571973558801728 : Unit := ()
def PySem.W.Fast.tw9047025206656146739 : Unit := ()
def PySem.W.Fast.tw13703115123640695988 : Unit := ()
def PySem.W.Fast.tw6366576988039749250 : Unit := ()
def PySem.W.Fast.tw10500285723252350497 : Unit := ()
def PySem.W.Fast.tw9088881728072745322 : Unit := ()
def PySem.W.Fast.tw9631968745303636926 : Unit := ()
def PySem.W.Fast.tw8912149287587760317 : Unit := ()
def PySem.W.Fast.tw3580341513595049656 : Unit := ()
def PySem.W.Fast.tw5263061601439512133 : Unit := ()
def PySem.W.Fast.tw17431426891174712279 : Unit := ()
def PySem.W.Fast.tw17392794870451813690 : Unit := ()
def PySem.W.Fast.tw1454830050407718349 : Unit := ()
def PySem.W.Fast.tw13899003154989636599 : Unit := ()
def PySem.W.Fast.tw17313277145448399544 : Unit := ()
def PySem.W.Fast.tw8775316338550944052 : Unit := ()
def PySem.W.Fast.tw809751284026551859 : Unit := ()
def PySem.W.Fast.tw14916071910588705009 : Unit := ()
def PySem.W.Fast.tw9976303663860894154 : Unit := ()
def PySem.W.Fast.tw11482005198406818446 : Unit := ()
def PySem.W.Fast.tw4397896610448805442 : Unit := ()
def PySem.W.Fast.tw10982128007757396874 : Unit := ()
def PySem.W.Fast.tw4976395738941235806 : Unit := ()
def PySem.W.Fast.tw17014857131137919642 : Unit := ()
def PySem.W.Fast.tw3634430701829705141 : Unit := ()
def PySem.W.Fast.tw16886334820602765420 : Unit := ()
def PySem.W.Fast.tw13410849733921582999 : Unit := ()
def PySem.W.Fast.tw13602374559573770556 : Unit := ()
def PySem.W.Fast.tw17997953616638516562 : Unit := ()
def PySem.W.Fast.tw9865389794417216807 : Unit := ()
def PySem.W.Fast.tw1889261219562776886 : Unit := ()
def PySem.W.Fast.tw6792074292192382808 : Unit := ()
def PySem.W.Fast.tw8128278362188914116 : Unit := ()
def PySem.W.Fast.tw15350688730959665688 : Unit := ()
def PySem.W.Fast.tw11534426126855558368 : Unit := ()
def PySem.W.Fast.tw15326696542507112108 : Unit := ()
def PySem.W.Fast.tw16901153732430402056 : Unit := ()
def PySem.W.Fast.tw1078626251777618301 : Unit := ()
def PySem.W.Fast.tw16189119484363462162 : Unit := ()
def PySem.W.Fast.tw5915094656979865993 : Unit := ()
def PySem.W.Fast.tw7765907515636359802 : Unit := ()
def PySem.W.Fast.tw3437928901944329619 : Unit := ()
def PySem.W.Fast.tw13424994631470192246 : Unit := ()
def PySem.W.Fast.tw16951722316939134150 : Unit := ()
def PySem.W.Fast.tw13477713783351467836 : Unit := ()
def PySem.W.Fast.tw4544302635296971460 : Unit := ()
def PySem.W.Fast.tw7366331137611717884 : Unit := ()
def PySem.W.Fast.tw15412328744461009670 : Unit := ()
def PySem.W.Fast.tw13482583411808920863 : Unit := ()
def PySem.W.Fast.tw14850166737263624514 : Unit := ()
def PySem.W.Fast.tw1210184344210490177 : Unit := ()
def PySem.W.Fast.tw11073336287769612275 : Unit := ()
def PySem.W.Fast.tw12412395604092820507 : Unit := ()
def PySem.W.Fast.tw7087490593645133460 : Unit := ()
def PySem.W.Fast.tw10224020863374956378 : Unit := ()
def PySem.W.Fast.tw17145839154549933197 : Unit := ()
def PySem.W.Fast.tw6437522822396801215 : Unit := ()
def PySem.W.Fast.tw9427427495546569449 : Unit := ()
def PySem.W.Fast.tw13900310808203082864 : Unit := ()
def PySem.W.Fast.tw12184192467585138640 : Unit := ()
def PySem.W.Fast.tw14605585385111129466 : Unit := ()
def PySem.W.Fast.tw6483933249038192000 : Unit := ()
def PySem.W.Fast.tw2529028312888999984 : Unit := ()
def PySem.W.Fast.tw11217675871417861122 : Unit := ()
def PySem.W.Fast.tw11113415255725682398 : Unit := ()
def PySem.W.Fast.tw18269174513206679465 : Unit := ()
def PySem.W.Fast.tw1761228127197613406 : Unit := ()
def PySem.W.Fast.tw11442939098403549277 : Unit := ()
def PySem.W.Fast.tw12731175706257635038 : Unit := ()
def PySem.W.Fast.tw385542922592949258 : Unit := ()
def PySem.W.Fast.tw11763371718650165067 : Unit := ()
def PySem.W.Fast.tw4330888539809759609 : Unit := ()
def PySem.W.Fast.tw10140511819962246426 : Unit := ()
def PySem.W.Fast.tw5899896626754548428 : Unit := ()
def PySem.W.Fast.tw4309394043184807791 : Unit := ()
def PySem.W.Fast.tw15744172471040893507 : Unit := ()
def PySem.W.Fast.tw3743911583147956573 : Unit := ()
def PySem.W.Fast.tw16918059099712354477 : Unit := ()
def PySem.W.Fast.tw18374120368271965871 : Unit := ()
def PySem.W.Fast.tw12638254514753931963 : Unit := ()
def PySem.W.Fast.tw17910104731267709365 : Unit := ()
def PySem.W.Fast.tw1676371728660204936 : Unit := ()
def PySem.W.Fast.tw12251272441581737541 : Unit := ()
def PySem.W.Fast.tw12922169720946112208 : Unit := ()
def PySem.W.Fast.tw13872545761799856497 : Unit := ()
def PySem.W.Fast.tw11186112213582377741 : Unit := ()
def PySem.W.Fast.tw10604921594116199436 : Unit := ()
def PySem.W.Fast.tw464934601592892158 : Unit := ()
def PySem.W.Fast.tw181112629185581217 : Unit := ()
def PySem.W.Fast.tw15652886242610806169 : Unit := ()
def PySem.W.Fast.tw15636784010799451940 : Unit := ()
def PySem.W.Fast.tw5770697562130158258 : Unit := ()
def PySem.W.Fast.tw7049573883978078885 : Unit := ()
def PySem.W.Fast.tw15711725947309516887 : Unit := ()
def PySem.W.Fast.tw3166705029953054153 : Unit := ()
def PySem.W.Fast.tw9806337376625464227 : Unit := ()
def PySem.W.Fast.tw7407498270998658656 : Unit := ()
def PySem.W.Fast.tw13893138411404627346 : Unit := ()
def PySem.W.Fast.tw64154965338107750 : Unit := ()
def PySem.W.Fast.tw4869410851251074993 : Unit := ()
def PySem.W.Fast.tw9508578182626257597 : Unit := ()
def PySem.W.Fast.tw10917398201810281976 : Unit := ()
def PySem.W.Fast.tw18058987876982930049 : Unit := ()
def PySem.W.Fast.tw16322133004861197769 : Unit := ()
def PySem.W.Fast.tw4767232688457652679 : Unit := ()
def PySem.W.Fast.tw1759828510023953522 : Unit := ()
def PySem.W.Fast.tw450239788852729598 : Unit := ()
def PySem.W.Fast.tw12625742270725644690 : Unit := ()
def PySem.W.Fast.tw1571951578953855607 : Unit := ()
def PySem.W.Fast.tw6227529057007790952 : Unit := ()
def PySem.W.Fast.tw13849496903094501878 : Unit := ()
def PySem.W.Fast.tw14079700359697471758 : Unit := ()
def PySem.W.Fast.tw6756876488619645467 : Unit := ()
def PySem.W.Fast.tw10319846776692117568 : Unit := ()
def PySem.W.Fast.tw1448679258446341643 : Unit := ()
def PySem.W.Fast.tw880621798892825193 : Unit := ()
def PySem.W.Fast.tw2411746796970713177 : Unit := ()
def PySem.W.Fast.tw2963926864780185735 : Unit := ()
def PySem.W.Fast.tw15909556414485702113 : Unit := ()
def PySem.W.Fast.tw9069443704266308994 : Unit := ()
def PySem.W.Fast.tw18032935980230382036 : Unit := ()
def PySem.W.Fast.tw70554327525089974 : Unit := ()
def PySem.W.Fast.tw10830131103360923651 : Unit := ()
def PySem.W.Fast.tw11639733590503507202 : Unit := ()
def PySem.W.Fast.tw5773983612037190382 : Unit := ()
def PySem.W.Fast.tw11654247807090404916 : Unit := ()
def PySem.W.Fast.tw8425025682957079426 : Unit := ()
def PySem.W.Fast.tw599446642201803882 : Unit := ()
def PySem.W.Fast.tw9824533234411178874 : Unit := ()
def PySem.W.Fast.tw16186178645294886690 : Unit := ()
def PySem.W.Fast.tw11216735190228719297 : Unit := ()
def PySem.W.Fast.tw6569112979471800926 : Unit := ()
def PySem.W.Fast.tw12541276231904214848 : Unit := ()
def PySem.W.Fast.tw5280865375483126508 : Unit := ()
def PySem.W.Fast.tw11388780509846938547 : Unit := ()
def PySem.W.Fast.tw8548251190133059036 : Unit := ()
def PySem.W.Fast.tw17406617771309054236 : Unit := ()
def PySem.W.Fast.tw5379666888897468294 : Unit := ()
def PySem.W.Fast.tw4172324957415182977 : Unit := ()
def PySem.W.Fast.tw17061889395275749086 : Unit := ()
def PySem.W.Fast.tw12883580504736940738 : Unit := ()
def PySem.W.Fast.tw17576138895339532880 : Unit := ()
def PySem.W.Fast.tw12750512600586085551 : Unit := ()
def PySem.W.Fast.tw12404712760832941325 : Unit := ()
def PySem.W.Fast.tw7698306575583856468 : Unit := ()
def PySem.W.Fast.tw17421861003530218816 : Unit := ()
def PySem.W.Fast.tw9487223729741047891 : Unit := ()
def PySem.W.Fast.tw10340706262417758711 : Unit := ()
def PySem.W.Fast.tw7716786145351786660 : Unit := ()
def PySem.W.Fast.tw3799105291087372489 : Unit := ()
def PySem.W.Fast.tw11318584897773388085 : Unit := ()
def PySem.W.Fast.tw1806063294221413032 : Unit := ()
def PySem.W.Fast.tw8833939539053339816 : Unit := ()
def PySem.W.Fast.tw4116131945516891185 : Unit := ()
def PySem.W.Fast.tw13893896338977008864 : Unit := ()
def PySem.W.Fast.tw870301449256368405 : Unit := ()
def PySem.W.Fast.tw8580866559280676082 : Unit := ()
def PySem.W.Fast.tw1464810099248993163 : Unit := ()
def PySem.W.Fast.tw1592982372281104890 : Unit := ()
def PySem.W.Fast.tw8365131965739659447 : Unit := ()
def PySem.W.Fast.tw13540127012997467710 : Unit := ()
def PySem.W.Fast.tw14900687734459779831 : Unit := ()
def PySem.W.Fast.tw9101531495633681302 : Unit := ()
def PySem.W.Fast.tw9443028523178381976 : Unit := ()
def PySem.W.Fast.tw123824088929802381 : Unit := ()
def PySem.W.Fast.tw10785587588156840944 : Unit := ()
def PySem.W.Fast.tw2562444013992781806 : Unit := ()
def PySem.W.Fast.tw10726704815097994208 : Unit := ()
def PySem.W.Fast.tw13516630191451060935 : Unit := ()
def PySem.W.Fast.tw14982990292151761223 : Unit := ()
def PySem.W.Fast.tw1205060198514267126 : Unit := ()
def PySem.W.Fast.tw595689557668972470 : Unit := ()
def PySem.W.Fast.tw14174719524430750397 : Unit := ()
def PySem.W.Fast.tw16235019515225105689 : Unit := ()
def PySem.W.Fast.tw1176461814337367427 : Unit := ()
def PySem.W.Fast.tw387993799041934935 : Unit := ()
def PySem.W.Fast.tw14476873532134691974 : Unit := ()
def PySem.W.Fast.tw7021489301466891655 : Unit := ()
def PySem.W.Fast.tw3055524535903800003 : Unit := ()
def PySem.W.Fast.tw17087760096098701494 : Unit := ()
def PySem.W.Fast.tw7579382770084195776 : Unit := ()
def PySem.W.Fast.tw17475780587288903926 : Unit := ()
def PySem.W.Fast.tw1339022393875263885 : Unit := ()
def PySem.W.Fast.tw5984436601340328867 : Unit := ()
def PySem.W.Fast.tw5174958284268028724 : Unit := ()
def PySem.W.Fast.tw2117848332884784377 : Unit := ()
def PySem.W.Fast.tw16336645692672636700 : Unit := ()
def PySem.W.Fast.tw337916233427878423 : Unit := ()
def PySem.W.Fast.tw18102385706742342177 : Unit := ()
def PySem.W.Fast.tw14190635601235676107 : Unit := ()
def PySem.W.Fast.tw8171837805817917337 : Unit := ()
def PySem.W.Fast.tw1556274353443423466 : Unit := ()
def PySem.W.Fast.tw1554065509039331258 : Unit := ()
def PySem.W.Fast.tw3510495817914575670 : Unit := ()
def PySem.W.Fast.tw9029338275969923290 : Unit := ()
def PySem.W.Fast.tw14213234049115295458 : Unit := ()
def PySem.W.Fast.tw1594599993284574225 : Unit := ()
def PySem.W.Fast.tw7546756936668955545 : Unit := ()
def PySem.W.Fast.tw14366996375093212008 : Unit := ()
def PySem.W.Fast.tw5130990700893663111 : Unit := ()
def PySem.W.Fast.tw5514941238662435662 : Unit := ()
def PySem.W.Fast.tw10590514779075087361 : Unit := ()
def PySem.W.Fast.tw8831162623473733514 : Unit := ()
def PySem.W.Fast.tw9530133805890620580 : Unit := ()
def PySem.W.Fast.tw8094572924230778064 : Unit := ()
def PySem.W.Fast.tw3023373175353721915 : Unit := ()
def PySem.W.Fast.tw6944280044141231984 : Unit := ()
def PySem.W.Fast.tw5857406024307800675 : Unit := ()
def PySem.W.Fast.tw4551585843960922296 : Unit := ()
def PySem.W.Fast.tw15537732252096511839 : Unit := ()
def PySem.W.Fast.tw9540634961906023516 : Unit := ()
def PySem.W.Fast.tw374130712038960192 : Unit := ()
def PySem.W.Fast.tw13026259439269595389 : Unit := ()
def PySem.W.Fast.tw2235814506156813135 : Unit := ()
def PySem.W.Fast.tw13170145942545139610 : Unit := ()
def PySem.W.Fast.tw7349684696701396792 : Unit := ()
def PySem.W.Fast.tw15748338710909270194 : Unit := ()
def PySem.W.Fast.tw6731264720146522005 : Unit := ()
def PySem.W.Fast.tw11011814111138939123 : Unit := ()
def PySem.W.Fast.tw1207567397929980245 : Unit := ()
def PySem.W.Fast.tw6050356273093861184 : Unit := ()
def PySem.W.Fast.tw7957045521216052106 : Unit := ()
def PySem.W.Fast.tw16306425486069611251 : Unit := ()
def PySem.W.Fast.tw6710951143894215061 : Unit := ()
def PySem.W.Fast.tw16888313395309946289 : Unit := ()
def PySem.W.Fast.tw8634172976422535513 : Unit := ()
def PySem.W.Fast.tw1135358913521016160 : Unit := ()
def PySem.W.Fast.tw10754637280350771639 : Unit := ()
def PySem.W.Fast.tw8610303591192225457 : Unit := ()
def PySem.W.Fast.tw9558903888688737271 : Unit := ()
def PySem.W.Fast.tw7758201322028747807 : Unit := ()
def PySem.W.Fast.tw4526566433566434904 : Unit := ()
def PySem.W.Fast.tw218024814186279723 : Unit := ()
def PySem.W.Fast.tw3315512549876734248 : Unit := ()
def PySem.W.Fast.tw9297989298333771564 : Unit := ()
def PySem.W.Fast.tw9726226246117179008 : Unit := ()
def PySem.W.Fast.tw11644800614491091724 : Unit := ()
def PySem.W.Fast.tw96276816209824640 : Unit := ()
def PySem.W.Fast.tw13271922419655399770 : Unit := ()
def PySem.W.Fast.tw2417736410647158567 : Unit := ()
def PySem.W.Fast.tw1224882172334729862 : Unit := ()
def PySem.W.Fast.tw10706670550450855477 : Unit := ()
def PySem.W.Fast.tw6410571589934056459 : Unit := ()
def PySem.W.Fast.tw3185178330254294623 : Unit := ()
def PySem.W.Fast.tw16157724312320453675 : Unit := ()
def PySem.W.Fast.tw9220391181401204237 : Unit := ()
def PySem.W.Fast.tw1728098081903617109 : Unit := ()
def PySem.W.Fast.tw4237839895012950464 : Unit := ()
def PySem.W.Fast.tw14478243013457961275 : Unit := ()
def PySem.W.Fast.tw4889148195708421496 : Unit := ()
def PySem.W.Fast.tw7083220503053869835 : Unit := ()
def PySem.W.Fast.tw17922215236030592519 : Unit := ()
def PySem.W.Fast.tw7185809253312471596 : Unit := ()
def PySem.W.Fast.tw1786775690671814567 : Unit := ()
def PySem.W.Fast.tw13441819451302684266 : Unit := ()
def PySem.W.Fast.tw11725606058547401709 : Unit := ()
def PySem.W.Fast.tw17424767615060613507 : Unit := ()
def PySem.W.Fast.tw4847681136139766872 : Unit := ()
def PySem.W.Fast.tw11581693345161898893 : Unit := ()
def PySem.W.Fast.tw12401676290549864842 : Unit := ()
def PySem.W.Fast.tw4603898238397579537 : Unit := ()
def PySem.W.Fast.tw16189455653186493750 : Unit := ()
def PySem.W.Fast.tw7636435924004978694 : Unit := ()
def PySem.W.Fast.tw17155701507200664172 : Unit := ()
def PySem.W.Fast.tw16620462805350798399 : Unit := ()
def PySem.W.Fast.tw5209481296254981754 : Unit := ()
def PySem.W.Fast.tw15626816508506282477 : Unit := ()
def PySem.W.Fast.tw588880528524671627 : Unit := ()
def PySem.W.Fast.tw3967111461888262679 : Unit := ()
def PySem.W.Fast.tw7182650236347405455 : Unit := ()
def PySem.W.Fast.tw10520025896013382572 : Unit := ()
def PySem.W.Fast.tw4606646965543901597 : Unit := ()
def PySem.W.Fast.tw4444114820170896875 : Unit := ()
def PySem.W.Fast.tw14600535518782477294 : Unit := ()
def PySem.W.Fast.tw16003918353367338142 : Unit := ()
def PySem.W.Fast.tw14177796103816959291 : Unit := ()
def PySem.W.Fast.tw6989409632986037567 : Unit := ()
def PySem.W.Fast.tw14151227184718457938 : Unit := ()
def PySem.W.Fast.tw9870324744041725089 : Unit := ()
def PySem.W.Fast.tw15883437503924356628 : Unit := ()
def PySem.W.Fast.tw13371855265354730921 : Unit := ()
def PySem.W.Fast.tw6584229361505232280 : Unit := ()
def PySem.W.Fast.tw18345879849159902838 : Unit := ()
def PySem.W.Fast.tw8283070014465779689 : Unit := ()
def PySem.W.Fast.tw7740813134392762267 : Unit := ()
def PySem.W.Fast.tw7549466799075823312 : Unit := ()
def PySem.W.Fast.tw6646437554933847916 : Unit := ()
def PySem.W.Fast.tw17041441814578493200 : Unit := ()
def PySem.W.Fast.tw15849911870886536528 : Unit := ()
def PySem.W.Fast.tw2840963663974157059 : Unit := ()
def PySem.W.Fast.tw16966572579214911995 : Unit := ()
def PySem.W.Fast.tw8221812330397212408 : Unit := ()
def PySem.W.Fast.tw17588760200578564112 : Unit := ()
def PySem.W.Fast.tw6702907509811737225 : Unit := ()
def PySem.W.Fast.tw14651976198881749613 : Unit := ()
def PySem.W.Fast.tw8778547293726124770 : Unit := ()
def PySem.W.Fast.tw2031787380377548004 : Unit := ()
def PySem.W.Fast.tw1421519584214963489 : Unit := ()
def PySem.W.Fast.tw6233383466053276194 : Unit := ()
def PySem.W.Fast.tw2779148730027807186 : Unit := ()
def PySem.W.Fast.tw2419709421207432203 : Unit := ()
def PySem.W.Fast.tw9904472003364126729 : Unit := ()
def PySem.W.Fast.tw13740699644184720778 : Unit := ()
def PySem.W.Fast.tw12681501350982207950 : Unit := ()
def PySem.W.Fast.tw8235179461088435781 : Unit := ()
def PySem.W.Fast.tw15773777242818803793 : Unit := ()
def PySem.W.Fast.tw11756772657339939176 : Unit := ()
def PySem.W.Fast.tw12976243765657631091 : Unit := ()
def PySem.W.Fast.tw12055346960789347962 : Unit := ()
def PySem.W.Fast.tw4977855738123156390 : Unit := ()
def PySem.W.Fast.tw5194186929256901341 : Unit := ()
def PySem.W.Fast.tw15608200971807549205 : Unit := ()
def PySem.W.Fast.tw14491907861917749517 : Unit := ()
def PySem.W.Fast.tw11538906768887888306 : Unit := ()
def PySem.W.Fast.tw9978980889804480762 : Unit := ()
def PySem.W.Fast.tw8627420752567999227 : Unit := ()
def PySem.W.Fast.tw18402827724000190844 : Unit := ()
def PySem.W.Fast.tw5583031849567104972 : Unit := ()
def PySem.W.Fast.tw5594488186923993970 : Unit := ()
def PySem.W.Fast.tw16448881714842887260 : Unit := ()
def PySem.W.Fast.tw12747855178488166681 : Unit := ()
def PySem.W.Fast.tw5593503607911520659 : Unit := ()
def PySem.W.Fast.tw3527028324024675793 : Unit := ()
def PySem.W.Fast.tw12238961177025323152 : Unit := ()
def PySem.W.Fast.tw14588148744243123606 : Unit := ()
def PySem.W.Fast.tw3733147684682756694 : Unit := ()
def PySem.W.Fast.tw1751704489713132820 : Unit := ()
def PySem.W.Fast.tw15004849359293279548 : Unit := ()
def PySem.W.Fast.tw11397153453132611086 : Unit := ()
def PySem.W.Fast.tw17000921632064743192 : Unit := ()
def PySem.W.Fast.tw303408245444487376 : Unit := ()
def PySem.W.Fast.tw13362695180863042064 : Unit := ()
def PySem.W.Fast.tw16828967048653970452 : Unit := ()
def PySem.W.Fast.tw2036603165001616136 : Unit := ()
def PySem.W.Fast.tw4176090734033032678 : Unit := ()
def PySem.W.Fast.tw5981163827410553354 : Unit := ()
def PySem.W.Fast.tw17326063893962655119 : Unit := ()
def PySem.W.Fast.tw17062025994518184211 : Unit := ()
def PySem.W.Fast.tw12102429026034450658 : Unit := ()
def PySem.W.Fast.tw14425143952939350820 : Unit := ()
def PySem.W.Fast.tw833795592573944057 : Unit := ()
def PySem.W.Fast.tw12648481170291905852 : Unit := ()
def PySem.W.Fast.tw5988094727637320808 : Unit := ()
def PySem.W.Fast.tw11850953727930682009 : Unit := ()
def PySem.W.Fast.tw10489437554461351078 : Unit := ()
def PySem.W.Fast.tw5630412285211803063 : Unit := ()
def PySem.W.Fast.tw11189206219339575440 : Unit := ()
def PySem.W.Fast.tw1881968870149933136 : Unit := ()
def PySem.W.Fast.tw13655474631383210703 : Unit := ()
def PySem.W.Fast.tw1935488568878100840 : Unit := ()
def PySem.W.Fast.tw14722363947885046451 : Unit := ()
def PySem.W.Fast.tw12367484706556733629 : Unit := ()
def PySem.W.Fast.tw3844467584070267395 : Unit := ()
def PySem.W.Fast.tw4413582714254445925 : Unit := ()
def PySem.W.Fast.tw10239875662805624572 : Unit := ()
def PySem.W.Fast.tw10643874229266940503 : Unit := ()
def PySem.W.Fast.tw9462506132667642944 : Unit := ()
def PySem.W.Fast.tw3380456720896615416 : Unit := ()
def PySem.W.Fast.tw5098549172082017801 : Unit := ()
def PySem.W.Fast.tw6325597548665483014 : Unit := ()
def PySem.W.Fast.tw3117365574916812575 : Unit := ()
def PySem.W.Fast.tw4005883173611863699 : Unit := ()
def PySem.W.Fast.tw2210979640449832690 : Unit := ()
def PySem.W.Fast.tw11436352547828093712 : Unit := ()
def PySem.W.Fast.tw13452567669229097565 : Unit := ()
def PySem.W.Fast.tw324823809161304732 : Unit := ()
def PySem.W.Fast.tw7322217305860841737 : Unit := ()
def PySem.W.Fast.tw1745137064812777777 : Unit := ()
def PySem.W.Fast.tw841550700469412912 : Unit := ()
def PySem.W.Fast.tw376463782493001473 : Unit := ()
def PySem.W.Fast.tw294732952673817420 : Unit := ()
def PySem.W.Fast.tw7959258337325353125 : Unit := ()
def PySem.W.Fast.tw3027174827970263712 : Unit := ()
def PySem.W.Fast.tw6129457931139812699 : Unit := ()
def PySem.W.Fast.tw6192169261038988242 : Unit := ()
def PySem.W.Fast.tw6155523238201742493 : Unit := ()
def PySem.W.Fast.tw15957594722247026463 : Unit := ()
def PySem.W.Fast.tw11056297450940681360 : Unit := ()
def PySem.W.Fast.tw11014328399191393051 : Unit := ()
def PySem.W.Fast.tw6038960053668748063 : Unit := ()
def PySem.W.Fast.tw15554904347795592838 : Unit := ()
def PySem.W.Fast.tw17670861152410895176 : Unit := ()
def PySem.W.Fast.tw6523106237579970717 : Unit := ()
def PySem.W.Fast.tw8396793106923399097 : Unit := ()
def PySem.W.Fast.tw7631955281074844919 : Unit := ()
def PySem.W.Fast.tw14974198648887108629 : Unit := ()
def PySem.W.Fast.tw9399560397296173487 : Unit := ()
def PySem.W.Fast.tw17405237988094314676 : Unit := ()
def PySem.W.Fast.tw9956456689448717015 : Unit := ()
def PySem.W.Fast.tw12826709791902986061 : Unit := ()
def PySem.W.Fast.tw4616281356097285873 : Unit := ()
def PySem.W.Fast.tw5811973310641800664 : Unit := ()
def PySem.W.Fast.tw3361168129478527982 : Unit := ()
def PySem.W.Fast.tw4405726885675337738 : Unit := ()
def PySem.W.Fast.tw15973863048376149762 : Unit := ()
def PySem.W.Fast.tw4666672184335905226 : Unit := ()
def PySem.W.Fast.tw11251645694659741603 : Unit := ()
def PySem.W.Fast.tw15419843956647096921 : Unit := ()
def PySem.W.Fast.tw4286081121293670331 : Unit := ()
def PySem.W.Fast.tw6161385015324828540 : Unit := ()
def PySem.W.Fast.tw2202755563607416288 : Unit := ()
def PySem.W.Fast.tw9065342452775281235 : Unit := ()
def PySem.W.Fast.tw13838644791589095993 : Unit := ()
def PySem.W.Fast.tw14407288012619964811 : Unit := ()
def PySem.W.Fast.tw8181366073457081533 : Unit := ()
def PySem.W.Fast.tw8090914225526919639 : Unit := ()
def PySem.W.Fast.tw13262253080572008265 : Unit := ()
def PySem.W.Fast.tw8452546143156457053 : Unit := ()
def PySem.W.Fast.tw8844350346725218818 : Unit := ()
def PySem.W.Fast.tw6563878989816411683 : Unit := ()
def PySem.W.Fast.tw8688570102838767502 : Unit := ()
def PySem.W.Fast.tw17701897336065089312 : Unit := ()
def PySem.W.Fast.tw12838381608155385671 : Unit := ()
def PySem.W.Fast.tw13672301990499849729 : Unit := ()
def PySem.W.Fast.tw7281626759982895044 : Unit := ()
def PySem.W.Fast.tw15540186686129241430 : Unit := ()
def PySem.W.Fast.tw7530848164135449669 : Unit := ()
def PySem.W.Fast.tw14177588549373191491 : Unit := ()
def PySem.W.Fast.tw8273104245736993202 : Unit := ()
def PySem.W.Fast.tw12877700413996255654 : Unit := ()
def PySem.W.Fast.tw9492837037588835853 : Unit := ()
def PySem.W.Fast.tw736373423393262316 : Unit := ()
def PySem.W.Fast.tw4059325731273229840 : Unit := ()
def PySem.W.Fast.tw5755296346802946982 : Unit := ()
def PySem.W.Fast.tw9622564733217504864 : Unit := ()
def PySem.W.Fast.tw9990843312170110311 : Unit := ()
def PySem.W.Fast.tw6380776483723443440 : Unit := ()
def PySem.W.Fast.tw4620657646827334519 : Unit := ()
def PySem.W.Fast.tw18183934163014437935 : Unit := ()
def PySem.W.Fast.tw11836715151379496264 : Unit := ()
def PySem.W.Fast.tw13690831053251689950 : Unit := ()
def PySem.W.Fast.tw12478247399944224223 : Unit := ()
def PySem.W.Fast.tw8792560964766693245 : Unit := ()
def PySem.W.Fast.tw11377592447170797929 : Unit := ()
def PySem.W.Fast.tw1022831372758428927 : Unit := ()
def PySem.W.Fast.tw3495637242328670552 : Unit := ()
def PySem.W.Fast.tw17764867122194899038 : Unit := ()
def PySem.W.Fast.tw5543959886815349297 : Unit := ()
def PySem.W.Fast.tw9630628716412612473 : Unit := ()
def PySem.W.Fast.tw6807336217104867853 : Unit := ()
def PySem.W.Fast.tw2606314376532275932 : Unit := ()
def PySem.W.Fast.tw5886084750053650407 : Unit := ()
def PySem.W.Fast.tw10833456083102216591 : Unit := ()
def PySem.W.Fast.tw9704766258593783629 : Unit := ()
def PySem.W.Fast.tw13604053056577622469 : Unit := ()
def PySem.W.Fast.tw9938985327584155338 : Unit := ()
def PySem.W.Fast.tw9378804476491526749 : Unit := ()
def PySem.W.Fast.tw15308922865145109096 : Unit := ()
def PySem.W.Fast.tw9781103491766761941 : Unit := ()
def PySem.W.Fast.tw16997838845845263049 : Unit := ()
def PySem.W.Fast.tw15219064244685618463 : Unit := ()
def PySem.W.Fast.tw13583934841687232836 : Unit := ()
def PySem.W.Fast.tw2525729720704630030 : Unit := ()
def PySem.W.Fast.tw16574436037539168531 : Unit := ()
def PySem.W.Fast.tw1137908019433892580 : Unit := ()
def PySem.W.Fast.tw13987491996086540242 : Unit := ()
def PySem.W.Fast.tw17089984774499966178 : Unit := ()
def PySem.W.Fast.tw10654245829444285858 : Unit := ()
def PySem.W.Fast.tw10584700341429124360 : Unit := ()
def PySem.W.Fast.tw12908074492786119000 : Unit := ()
def PySem.W.Fast.tw5284666015980261469 : Unit := ()
def PySem.W.Fast.tw2198238639832709268 : Unit := ()
def PySem.W.Fast.tw11566045307509611544 : Unit := ()
def PySem.W.Fast.tw1646607671235728240 : Unit := ()
def PySem.W.Fast.tw5550963474604004573 : Unit := ()
def PySem.W.Fast.tw8996852208887776183 : Unit := ()
def PySem.W.Fast.tw8818945028210797337 : Unit := ()
def PySem.W.Fast.tw11302854973431990505 : Unit := ()
def PySem.W.Fast.tw6933168333281633203 : Unit := ()
def PySem.W.Fast.tw11167913584110715920 : Unit := ()
def PySem.W.Fast.tw7762381435168274604 : Unit := ()
def PySem.W.Fast.tw12327303610097591118 : Unit := ()
def PySem.W.Fast.tw7282952933531732375 : Unit := ()
def PySem.W.Fast.tw13923382868576599408 : Unit := ()
def PySem.W.Fast.tw9479701207673211432 : Unit := ()
def PySem.W.Fast.tw15843077708777893785 : Unit := ()
def PySem.W.Fast.tw14709516389798968915 : Unit := ()
def PySem.W.Fast.tw10864126862269766488 : Unit := ()
def PySem.W.Fast.tw8271774298500178972 : Unit := ()
def PySem.W.Fast.tw13169717264532478548 : Unit := ()
def PySem.W.Fast.tw5676500002375316125 : Unit := ()
def PySem.W.Fast.tw5621567636267883850 : Unit := ()
def PySem.W.Fast.tw14031671319965676838 : Unit := ()
def PySem.W.Fast.tw9177075999322747130 : Unit := ()
def PySem.W.Fast.tw3592466484804653999 : Unit := ()
def PySem.W.Fast.tw11265323601437444363 : Unit := ()
def PySem.W.Fast.tw1738407472862289675 : Unit := ()
def PySem.W.Fast.tw18388965079250053033 : Unit := ()
def PySem.W.Fast.tw17806157939777252398 : Unit := ()
def PySem.W.Fast.tw9685887456505962648 : Unit := ()
def PySem.W.Fast.tw12274989034877790717 : Unit := ()
def PySem.W.Fast.tw5656918911099536190 : Unit := ()
def PySem.W.Fast.tw4661026651825012212 : Unit := ()
def PySem.W.Fast.tw5827775455574098755 : Unit := ()
def PySem.W.Fast.tw7167170089102492559 : Unit := ()
def PySem.W.Fast.tw9576975036551172667 : Unit := ()
def PySem.W.Fast.tw2506727263139270332 : Unit := ()
def PySem.W.Fast.tw5698493933112804547 : Unit := ()
def PySem.W.Fast.tw9326289932779021116 : Unit := ()
def PySem.W.Fast.tw258169062887254389 : Unit := ()
def PySem.W.Fast.tw3086537533277066659 : Unit := ()
def PySem.W.Fast.tw13107196870655612994 : Unit := ()
def PySem.W.Fast.tw12752998405222469735 : Unit := ()
def PySem.W.Fast.tw5049996388806154607 : Unit := ()
def PySem.W.Fast.tw4937239738209805674 : Unit := ()
def PySem.W.Fast.tw1828106467411694613 : Unit := ()
def PySem.W.Fast.tw1119933420070521392 : Unit := ()
def PySem.W.Fast.tw2553845600697999182 : Unit := ()
def PySem.W.Fast.tw16175040608640063462 : Unit := ()
def PySem.W.Fast.tw15466939998137113180 : Unit := ()
def PySem.W.Fast.tw16020438979305689031 : Unit := ()
def PySem.W.Fast.tw15966941848509282989 : Unit := ()
def PySem.W.Fast.tw14471191254431062283 : Unit := ()
def PySem.W.Fast.tw952083223649613354 : Unit := ()
def PySem.W.Fast.tw2684403122011357155 : Unit := ()
def PySem.W.Fast.tw410800727958695069 : Unit := ()
def PySem.W.Fast.tw12836392852546911395 : Unit := ()
def PySem.W.Fast.tw3556297121695903515 : Unit := ()
def PySem.W.Fast.tw12592070002757704014 : Unit := ()
def PySem.W.Fast.tw3012268989612450560 : Unit := ()
def PySem.W.Fast.tw621747175881592795 : Unit := ()
def PySem.W.Fast.tw15199795677681300509 : Unit := ()
def PySem.W.Fast.tw9586381619306211109 : Unit := ()
def PySem.W.Fast.tw7153852559550941697 : Unit := ()
def PySem.W.Fast.tw14412466333170100396 : Unit := ()
def PySem.W.Fast.tw14351097517481488628 : Unit := ()
def PySem.W.Fast.tw6125110640590524733 : Unit := ()
def PySem.W.Fast.tw17698015028622767111 : Unit := ()
def PySem.W.Fast.tw8382498805306435169 : Unit := ()
def PySem.W.Fast.tw14649605336639952379 : Unit := ()
def PySem.W.Fast.tw8222614478875497979 : Unit := ()
def PySem.W.Fast.tw16318087527183603526 : Unit := ()
def PySem.W.Fast.tw1880095296118042834 : Unit := ()
def PySem.W.Fast.tw17236529699738124278 : Unit := ()
def PySem.W.Fast.tw37797279812610218 : Unit := ()
def PySem.W.Fast.tw5025887657381513377 : Unit := ()
def PySem.W.Fast.tw11840573055683480424 : Unit := ()
def PySem.W.Fast.tw13664715553023151115 : Unit := ()
def PySem.W.Fast.tw11258793796834771788 : Unit := ()
def PySem.W.Fast.tw16416698282560678782 : Unit := ()
def PySem.W.Fast.tw14748604780646395647 : Unit := ()
def PySem.W.Fast.tw2832732604995228933 : Unit := ()
def PySem.W.Fast.tw9818998812459339987 : Unit := ()
def PySem.W.Fast.tw8471542837500790743 : Unit := ()
def PySem.W.Fast.tw15331721481589096354 : Unit := ()
def PySem.W.Fast.tw9253792571873614943 : Unit := ()
def PySem.W.Fast.tw3902986760060263230 : Unit := ()
def PySem.W.Fast.tw15597388470693298256 : Unit := ()
def PySem.W.Fast.tw2173836478210603865 : Unit := ()
def PySem.W.Fast.tw16134907648462118819 : Unit := ()
def PySem.W.Fast.tw3359722603860557088 : Unit := ()
def PySem.W.Fast.tw2721672521316353361 : Unit := ()
def PySem.W.Fast.tw8812461927213630129 : Unit := ()
def PySem.W.Fast.tw12992537969307399343 : Unit := ()
def PySem.W.Fast.tw17075948238606174483 : Unit := ()
def PySem.W.Fast.tw7717048589295647462 : Unit := ()
def PySem.W.Fast.tw11668424516985363870 : Unit := ()
def PySem.W.Fast.tw14129542624759981569 : Unit := ()
def PySem.W.Fast.tw11973231278538277095 : Unit := ()
def PySem.W.Fast.tw3699102419085043990 : Unit := ()
def PySem.W.Fast.tw15507365684050426525 : Unit := ()
def PySem.W.Fast.tw15632664215151979986 : Unit := ()
def PySem.W.Fast.tw5308350158478794426 : Unit := ()
def PySem.W.Fast.tw18387588799653720126 : Unit := ()
def PySem.W.Fast.tw10622078095145412710 : Unit := ()
def PySem.W.Fast.tw986274886460106389 : Unit := ()
def PySem.W.Fast.tw16550184251951500721 : Unit := ()
def PySem.W.Fast.tw10107714184859262638 : Unit := ()
def PySem.W.Fast.tw13186011572276174388 : Unit := ()
def PySem.W.Fast.tw77360082080849263 : Unit := ()
def PySem.W.Fast.tw14773674660708998974 : Unit := ()
def PySem.W.Fast.tw2435121294154240999 : Unit := ()
def PySem.W.Fast.tw13851617388088768971 : Unit := ()
def PySem.W.Fast.tw9706275650023689684 : Unit := ()
def PySem.W.Fast.tw13390044440783969728 : Unit := ()
def PySem.W.Fast.tw2884504390987835649 : Unit := ()
def PySem.W.Fast.tw11893458902656555246 : Unit := ()
def PySem.W.Fast.tw10371167517924963125 : Unit := ()
def PySem.W.Fast.tw3564559514865104787 : Unit := ()
def PySem.W.Fast.tw15899830742811239785 : Unit := ()
def PySem.W.Fast.tw18187759981472133737 : Unit := ()
def PySem.W.Fast.tw4331365132454949999 : Unit := ()
def PySem.W.Fast.tw14098074486264974119 : Unit := ()
def PySem.W.Fast.tw8597074666614896189 : Unit := ()
def PySem.W.Fast.tw9425925478403060000 : Unit := ()
def PySem.W.Fast.tw15290369870667467421 : Unit := ()
def PySem.W.Fast.tw10731023083214489291 : Unit := ()
def PySem.W.Fast.tw9020670432153840472 : Unit := ()
def PySem.W.Fast.tw1442001265652215778 : Unit := ()
def PySem.W.Fast.tw11440182538377508756 : Unit := ()
def PySem.W.Fast.tw15941116942590651867 : Unit := ()
def PySem.W.Fast.tw10943775680498703349 : Unit := ()
def PySem.W.Fast.tw15543329640326022702 : Unit := ()
def PySem.W.Fast.tw1473019123391349123 : Unit := ()
def PySem.W.Fast.tw8542512459107686465 : Unit := ()
def PySem.W.Fast.tw2314715705532898884 : Unit := ()
def PySem.W.Fast.tw9144414572053383923 : Unit := ()
def PySem.W.Fast.tw18043142541764063853 : Unit := ()
def PySem.W.Fast.tw17511124980657700018 : Unit := ()
def PySem.W.Fast.tw1921465201198965415 : Unit := ()
def PySem.W.Fast.tw9699887917635379148 : Unit := ()
def PySem.W.Fast.tw16833088422663718814 : Unit := ()
def PySem.W.Fast.tw10871037713837027990 : Unit := ()
def PySem.W.Fast.tw1531472053618979313 : Unit := ()
def PySem.W.Fast.tw4589082096567450986 : Unit := ()
def PySem.W.Fast.tw14552807681955234863 : Unit := ()
def PySem.W.Fast.tw10262986749404058684 : Unit := ()
def PySem.W.Fast.tw3577733362876746435 : Unit := ()
def PySem.W.Fast.tw15827165390005022342 : Unit := ()
def PySem.W.Fast.tw6486237471726986286 : Unit := ()
def PySem.W.Fast.tw4607395384746744613 : Unit := ()
def PySem.W.Fast.tw11621810085977545399 : Unit := ()
def PySem.W.Fast.tw16962367781040465063 : Unit := ()
def PySem.W.Fast.tw5561296017437498248 : Unit := ()
def PySem.W.Fast.tw16513096337518033020 : Unit := ()
def PySem.W.Fast.tw4187102598672078169 : Unit := ()
def PySem.W.Fast.tw352161194739839154 : Unit := ()
def PySem.W.Fast.tw5766065107808640300 : Unit := ()
def PySem.W.Fast.tw14518963176145077622 : Unit := ()
def PySem.W.Fast.tw8657477446528204624 : Unit := ()
def PySem.W.Fast.tw8406007794774257669 : Unit := ()
def PySem.W.Fast.tw13848470681796106339 : Unit := ()
def PySem.W.Fast.tw10956218303446008646 : Unit := ()
def PySem.W.Fast.tw16235108181563079996 : Unit := ()
def PySem.W.Fast.tw9805797174975802734 : Unit := ()
def PySem.W.Fast.tw2249201460592237640 : Unit := ()
def PySem.W.Fast.tw2849497427524425409 : Unit := ()
def PySem.W.Fast.tw12694701022275013516 : Unit := ()
def PySem.W.Fast.tw14561033404162118172 : Unit := ()
def PySem.W.Fast.tw387331307578021125 : Unit := ()
def PySem.W.Fast.tw12266600669084387320 : Unit := ()
def PySem.W.Fast.tw13180555851585082183 : Unit := ()
def PySem.W.Fast.tw7702637934805259959 : Unit := ()
def PySem.W.Fast.tw7068873883728209898 : Unit := ()
def PySem.W.Fast.tw9429301182617191437 : Unit := ()
def PySem.W.Fast.tw7363383351231892934 : Unit := ()
def PySem.W.Fast.tw14808384844678582497 : Unit := ()
def PySem.W.Fast.tw3986561501711074469 : Unit := ()
def PySem.W.Fast.tw798049343628126207 : Unit := ()
def PySem.W.Fast.tw12825161780462476788 : Unit := ()
def PySem.W.Fast.tw874257011612339462 : Unit := ()
def PySem.W.Fast.tw217548844209668070 : Unit := ()
def PySem.W.Fast.tw2619731442180522311 : Unit := ()
def PySem.W.Fast.tw873323120646606953 : Unit := ()
def PySem.W.Fast.tw18231014066607716833 : Unit := ()
def PySem.W.Fast.tw3852052762889109422 : Unit := ()
def PySem.W.Fast.tw775691545408542003 : Unit := ()
def PySem.W.Fast.tw14695189003696539450 : Unit := ()
def PySem.W.Fast.tw17144033363927179234 : Unit := ()
def PySem.W.Fast.tw7761907834263393804 : Unit := ()
def PySem.W.Fast.tw753281961592202365 : Unit := ()
def PySem.W.Fast.tw3684685545508082501 : Unit := ()
def PySem.W.Fast.tw3192766967393559374 : Unit := ()
def PySem.W.Fast.tw16510250183409135938 : Unit := ()
def PySem.W.Fast.tw7202840394499935305 : Unit := ()
def PySem.W.Fast.tw5053734502726212406 : Unit := ()
def PySem.W.Fast.tw14389265477269187393 : Unit := ()
def PySem.W.Fast.tw2537866061584901859 : Unit := ()
def PySem.W.Fast.tw16567696695433831355 : Unit := ()
def PySem.W.Fast.tw1067541792038530680 : Unit := ()
def PySem.W.Fast.tw8761531334410983335 : Unit := ()
def PySem.W.Fast.tw15833426314270710472 : Unit := ()
def PySem.W.Fast.tw12249797525841559394 : Unit := ()
def PySem.W.Fast.tw17223646158373604513 : Unit := ()
def PySem.W.Fast.tw10367098358207726417 : Unit := ()
def PySem.W.Fast.tw8058713146558112976 : Unit := ()
def PySem.W.Fast.tw3965615409253782710 : Unit := ()
def PySem.W.Fast.tw1389103349327359858 : Unit := ()
def PySem.W.Fast.tw15656238947701859865 : Unit := ()
def PySem.W.Fast.tw1744252267795328571 : Unit := ()
def PySem.W.Fast.tw321461423266875465 : Unit := ()
def PySem.W.Fast.tw12803640493127447605 : Unit := ()
def PySem.W.Fast.tw17689103702585212912 : Unit := ()
def PySem.W.Fast.tw18186883543183909898 : Unit := ()
def PySem.W.Fast.tw8027822997328884958 : Unit := ()
def PySem.W.Fast.tw18435302625059132669 : Unit := ()
def PySem.W.Fast.tw1042840871863127264 : Unit := ()
def PySem.W.Fast.tw14304375036553062272 : Unit := ()
def PySem.W.Fast.tw14535989851838969505 : Unit := ()
def PySem.W.Fast.tw2079052465395298905 : Unit := ()
def PySem.W.Fast.tw14468877435778515110 : Unit := ()
def PySem.W.Fast.tw13150877943597999097 : Unit := ()
def PySem.W.Fast.tw14165086917619017063 : Unit := ()
def PySem.W.Fast.tw9019369844178780179 : Unit := ()
def PySem.W.Fast.tw2219323619087962108 : Unit := ()
def PySem.W.Fast.tw13382488680524578201 : Unit := ()
def PySem.W.Fast.tw14561212801866251652 : Unit := ()
def PySem.W.Fast.tw3580569634461292741 : Unit := ()
def PySem.W.Fast.tw11361204581010313895 : Unit := ()
def PySem.W.Fast.tw4130581110909856119 : Unit := ()
def PySem.W.Fast.tw16945874465835701676 : Unit := ()
def PySem.W.Fast.tw11651272958246177109 : Unit := ()
def PySem.W.Fast.tw15089716466772015384 : Unit := ()
def PySem.W.Fast.tw17145988495485608150 : Unit := ()
def PySem.W.Fast.tw6001713698586770214 : Unit := ()
def PySem.W.Fast.tw1705054693549763508 : Unit := ()
def PySem.W.Fast.tw17512181635034869670 : Unit := ()
def PySem.W.Fast.tw15622783865247154392 : Unit := ()
def PySem.W.Fast.tw17390040924377817294 : Unit := ()
def PySem.W.Fast.tw10040316720179958222 : Unit := ()
def PySem.W.Fast.tw3518624881995069752 : Unit := ()
def PySem.W.Fast.tw11229771564313702577 : Unit := ()
def PySem.W.Fast.tw717353260614104802 : Unit := ()
def PySem.W.Fast.tw2710531367600103122 : Unit := ()
def PySem.W.Fast.tw10589561268502295716 : Unit := ()
def PySem.W.Fast.tw317235000402271479 : Unit := ()
def PySem.W.Fast.tw11634507450203498018 : Unit := ()
def PySem.W.Fast.tw6867427913329940080 : Unit := ()
def PySem.W.Fast.tw1969068470548520521 : Unit := ()
def PySem.W.Fast.tw7944825503161833455 : Unit := ()
def PySem.W.Fast.tw14689470553068352472 : Unit := ()
def PySem.W.Fast.tw13392558202910249000 : Unit := ()
def PySem.W.Fast.tw5588767799709220106 : Unit := ()
def PySem.W.Fast.tw9950187001773368988 : Unit := ()
def PySem.W.Fast.tw11795920080095562083 : Unit := ()
def PySem.W.Fast.tw12930995213896853856 : Unit := ()
def PySem.W.Fast.tw10959961608835590601 : Unit := ()
def PySem.W.Fast.tw11589668168787253289 : Unit := ()
def PySem.W.Fast.tw302522956732875053 : Unit := ()
def PySem.W.Fast.tw17613242990876743587 : Unit := ()
def PySem.W.Fast.tw11648385105513881456 : Unit := ()
def PySem.W.Fast.tw11792768058585295285 : Unit := ()
def PySem.W.Fast.tw13771758985181268289 : Unit := ()
def PySem.W.Fast.tw6303153514888031684 : Unit := ()
def PySem.W.Fast.tw15112387394932298979 : Unit := ()
def PySem.W.Fast.tw9728776207236437622 : Unit := ()
def PySem.W.Fast.tw7555551679140653470 : Unit := ()
def PySem.W.Fast.tw3504747741446748268 : Unit := ()
def PySem.W.Fast.tw13645534724112328284 : Unit := ()
def PySem.W.Fast.tw91321201013272958 : Unit := ()
def PySem.W.Fast.tw15925419836640030845 : Unit := ()
def PySem.W.Fast.tw11644484680069819397 : Unit := ()
def PySem.W.Fast.tw3938886715399701494 : Unit := ()
def PySem.W.Fast.tw5477249740642082291 : Unit := ()
def PySem.W.Fast.tw12547329781023101901 : Unit := ()
def PySem.W.Fast.tw16455741591183510805 : Unit := ()
def PySem.W.Fast.tw2539126430434491009 : Unit := ()
def PySem.W.Fast.tw13742451961085138549 : Unit := ()
def PySem.W.Fast.tw17117610016667219606 : Unit := ()
def PySem.W.Fast.tw17158767308159542266 : Unit := ()
def PySem.W.Fast.tw10609066202412156172 : Unit := ()
def PySem.W.Fast.tw16662006581715727401 : Unit := ()
def PySem.W.Fast.tw17031911473330005145 : Unit := ()
def PySem.W.Fast.tw8883458330897387178 : Unit := ()
def PySem.W.Fast.tw17470515231917710125 : Unit := ()
def PySem.W.Fast.tw9402232319317035467 : Unit := ()
def PySem.W.Fast.tw16781187995609126209 : Unit := ()
def PySem.W.Fast.tw14283100733048061352 : Unit := ()
def PySem.W.Fast.tw7917314820710455746 : Unit := ()
def PySem.W.Fast.tw953324758919424832 : Unit := ()
def PySem.W.Fast.tw14678768141922083326 : Unit := ()
def PySem.W.Fast.tw15277683366550231596 : Unit := ()
def PySem.W.Fast.tw1397748512051717295 : Unit := ()
def PySem.W.Fast.tw12155076366477306686 : Unit := ()
def PySem.W.Fast.tw4937327038289110345 : Unit := ()
def PySem.W.Fast.tw4835074400036253290 : Unit := ()
def PySem.W.Fast.tw14749464370748015683 : Unit := ()
def PySem.W.Fast.tw5729268551742239490 : Unit := ()
def PySem.W.Fast.tw6932429563147545767 : Unit := ()
def PySem.W.Fast.tw7567877818357500377 : Unit := ()
def PySem.W.Fast.tw3426061454163180310 : Unit := ()
def PySem.W.Fast.tw13728232914510253820 : Unit := ()
def PySem.W.Fast.tw4228584631459508095 : Unit := ()
def PySem.W.Fast.tw2879722895991131788 : Unit := ()
def PySem.W.Fast.tw1349228133163101255 : Unit := ()
def PySem.W.Fast.tw5391885629180147678 : Unit := ()
def PySem.W.Fast.tw3217984457000933236 : Unit := ()
def PySem.W.Fast.tw5731929129595729902 : Unit := ()
def PySem.W.Fast.tw14738964273431923365 : Unit := ()
def PySem.W.Fast.tw8914384853543319502 : Unit := ()
def PySem.W.Fast.tw4486769749964039974 : Unit := ()
def PySem.W.Fast.tw10383390075688864931 : Unit := ()
def PySem.W.Fast.tw10719669662680838130 : Unit := ()
def PySem.W.Fast.tw6513459029155694541 : Unit := ()
def PySem.W.Fast.tw14528513707027086313 : Unit := ()
def PySem.W.Fast.tw6559317317235254798 : Unit := ()
def PySem.W.Fast.tw1839869352410822714 : Unit := ()
def PySem.W.Fast.tw13796955988723648802 : Unit := ()
def PySem.W.Fast.tw15569146061719057740 : Unit := ()
def PySem.W.Fast.tw13662315619594000341 : Unit := ()
def PySem.W.Fast.tw9224808656929002415 : Unit := ()
def PySem.W.Fast.tw7776042905895774177 : Unit := ()
def PySem.W.Fast.tw4017713224918234270 : Unit := ()
def PySem.W.Fast.tw11674100604389241348 : Unit := ()
def PySem.W.Fast.tw10582619594716110529 : Unit := ()
def PySem.W.Fast.tw12430527803004654721 : Unit := ()
def PySem.W.Fast.tw10310995516211907723 : Unit := ()
def PySem.W.Fast.tw3272095235988640379 : Unit := ()
def PySem.W.Fast.tw18421474288514630565 : Unit := ()
def PySem.W.Fast.tw11863709856169483138 : Unit := ()
def PySem.W.Fast.tw4752051379504947827 : Unit := ()
def PySem.W.Fast.tw16481471722876178447 : Unit := ()
def PySem.W.Fast.tw7884271655864906212 : Unit := ()
def PySem.W.Fast.tw7132879322203459612 : Unit := ()
def PySem.W.Fast.tw12653108758499943132 : Unit := ()
def PySem.W.Fast.tw3363534133992084781 : Unit := ()
def PySem.W.Fast.tw2260912791527347703 : Unit := ()
def PySem.W.Fast.tw12753131714283630366 : Unit := ()
def PySem.W.Fast.tw12623187401392262336 : Unit := ()
def PySem.W.Fast.tw8910061038891517501 : Unit := ()
def PySem.W.Fast.tw3841640032516157749 : Unit := ()
def PySem.W.Fast.tw14569508413537273701 : Unit := ()
def PySem.W.Fast.tw11467698952931215048 : Unit := ()
def PySem.W.Fast.tw13074225658400054384 : Unit := ()
def PySem.W.Fast.tw5932017972109140074 : Unit := ()
def PySem.W.Fast.tw17507565216387506762 : Unit := ()
def PySem.W.Fast.tw5795201122978620619 : Unit := ()
def PySem.W.Fast.tw8048532779441860227 : Unit := ()
def PySem.W.Fast.tw18178180657806145157 : Unit := ()
def PySem.W.Fast.tw18141634410413640320 : Unit := ()
def PySem.W.Fast.tw15931195484883800238 : Unit := ()
def PySem.W.Fast.tw11302038849413995548 : Unit := ()
def PySem.W.Fast.tw12773975310251829419 : Unit := ()
def PySem.W.Fast.tw18320561136006078131 : Unit := ()
def PySem.W.Fast.tw4918664689325152822 : Unit := ()
def PySem.W.Fast.tw17963421334200855510 : Unit := ()
def PySem.W.Fast.tw16410762996475976255 : Unit := ()
def PySem.W.Fast.tw15993520685341453242 : Unit := ()
def PySem.W.Fast.tw16890218324590681046 : Unit := ()
def PySem.W.Fast.tw9959308615452289890 : Unit := ()
def PySem.W.Fast.tw15315596894520911537 : Unit := ()
def PySem.W.Fast.tw16928364882458929293 : Unit := ()
def PySem.W.Fast.tw17037309231150017332 : Unit := ()
def PySem.W.Fast.tw5386111497500839939 : Unit := ()
def PySem.W.Fast.tw4615756007489221259 : Unit := ()
def PySem.W.Fast.tw6675405279272302808 : Unit := ()
def PySem.W.Fast.tw3460620739308594214 : Unit := ()
def PySem.W.Fast.tw12664513222036199809 : Unit := ()
def PySem.W.Fast.tw16155830453706728665 : Unit := ()
def PySem.W.Fast.tw4076892012607319695 : Unit := ()
def PySem.W.Fast.tw18245102419442567960 : Unit := ()
def PySem.W.Fast.tw14428519470944037420 : Unit := ()
def PySem.W.Fast.tw3149637434469300912 : Unit := ()
def PySem.W.Fast.tw17495124867184371623 : Unit := ()
def PySem.W.Fast.tw7812892677994278094 : Unit := ()
def PySem.W.Fast.tw13617143308228055183 : Unit := ()
def PySem.W.Fast.tw13421221619370762473 : Unit := ()
def PySem.W.Fast.tw7574153841271445807 : Unit := ()
def PySem.W.Fast.tw3050212776779781369 : Unit := ()
def PySem.W.Fast.tw15995170615086391862 : Unit := ()
def PySem.W.Fast.tw9849589182266879943 : Unit := ()
def PySem.W.Fast.tw4579819884720546322 : Unit := ()
def PySem.W.Fast.tw5466400376903297906 : Unit := ()
def PySem.W.Fast.tw10929240661985615700 : Unit := ()
def PySem.W.Fast.tw626531005024974258 : Unit := ()
def PySem.W.Fast.tw13950965387964559931 : Unit := ()
def PySem.W.Fast.tw1848336504592497781 : Unit := ()
def PySem.W.Fast.tw3806871193006076740 : Unit := ()
def PySem.W.Fast.tw5647235711612913216 : Unit := ()
def PySem.W.Fast.tw5479987117984983846 : Unit := ()
def PySem.W.Fast.tw15834438567162455048 : Unit := ()
def PySem.W.Fast.tw8153348847701597433 : Unit := ()
def PySem.W.Fast.tw4926374422921731993 : Unit := ()
def PySem.W.Fast.tw10610801002098738885 : Unit := ()
def PySem.W.Fast.tw3817791995770210346 : Unit := ()
def PySem.W.Fast.tw9662020126934963614 : Unit := ()
def PySem.W.Fast.tw4742979681485212623 : Unit := ()
def PySem.W.Fast.tw2729375996862088489 : Unit := ()
def PySem.W.Fast.tw581356723862713016 : Unit := ()
def PySem.W.Fast.tw10211241621692599430 : Unit := ()
def PySem.W.Fast.tw17561131779424127193 : Unit := ()
def PySem.W.Fast.tw238150207210910023 : Unit := ()
def PySem.W.Fast.tw11912921580552685858 : Unit := ()
def PySem.W.Fast.tw8110636424804389313 : Unit := ()
def PySem.W.Fast.tw13023879273086902641 : Unit := ()
def PySem.W.Fast.tw6317476524684836652 : Unit := ()
def PySem.W.Fast.tw11181284878312889032 : Unit := ()
def PySem.W.Fast.tw17943214016430936014 : Unit := ()
def PySem.W.Fast.tw1904238923025347882 : Unit := ()
def PySem.W.Fast.tw9175468458896227011 : Unit := ()
def PySem.W.Fast.tw18264936159667220802 : Unit := ()
def PySem.W.Fast.tw10622892467306194991 : Unit := ()
def PySem.W.Fast.tw6594936674396873433 : Unit := ()
def PySem.W.Fast.tw6630035386853352454 : Unit := ()
def PySem.W.Fast.tw3053615380887822203 : Unit := ()
def PySem.W.Fast.tw2783098831981323037 : Unit := ()
def PySem.W.Fast.tw873111338450211084 : Unit := ()
def PySem.W.Fast.tw121099917152307655 : Unit := ()
def PySem.W.Fast.tw7647033380510215325 : Unit := ()
def PySem.W.Fast.tw2734703994806617633 : Unit := ()
def PySem.W.Fast.tw8631544424467554206 : Unit := ()
def PySem.W.Fast.tw11978324124240935025 : Unit := ()
def PySem.W.Fast.tw11853203894163333724 : Unit := ()
def PySem.W.Fast.tw7553743849714763930 : Unit := ()
def PySem.W.Fast.tw15119608968218609816 : Unit := ()
def PySem.W.Fast.tw2959660503508752803 : Unit := ()
def PySem.W.Fast.tw983796080555618345 : Unit := ()
def PySem.W.Fast.tw12451163503401521275 : Unit := ()
def PySem.W.Fast.tw6651749853194020536 : Unit := ()
def PySem.W.Fast.tw15407336656280842402 : Unit := ()
def PySem.W.Fast.tw6550831895567841335 : Unit := ()
def PySem.W.Fast.tw4916456515159634906 : Unit := ()
def PySem.W.Fast.tw13541556140133857126 : Unit := ()
def PySem.W.Fast.tw10597134252774992871 : Unit := ()
def PySem.W.Fast.tw7293057420048259813 : Unit := ()
def PySem.W.Fast.tw728080385298307744 : Unit := ()
def PySem.W.Fast.tw3413361077308649701 : Unit := ()
def PySem.W.Fast.tw133905762475785466 : Unit := ()
def PySem.W.Fast.tw10581877870270968004 : Unit := ()
def PySem.W.Fast.tw17516297958732643220 : Unit := ()
def PySem.W.Fast.tw4775303104315364863 : Unit := ()
def PySem.W.Fast.tw7552572057067578136 : Unit := ()
def PySem.W.Fast.tw11582356579570694717 : Unit := ()
def PySem.W.Fast.tw12459731802506586689 : Unit := ()
def PySem.W.Fast.tw13415406205404290122 : Unit := ()
def PySem.W.Fast.tw17985221870707387125 : Unit := ()
def PySem.W.Fast.tw3470084839068050073 : Unit := ()
def PySem.W.Fast.tw13158168166816819984 : Unit := ()
def PySem.W.Fast.tw15687893564747849310 : Unit := ()
def PySem.W.Fast.tw7343442502725798792 : Unit := ()
def PySem.W.Fast.tw4866448541469644759 : Unit := ()
def PySem.W.Fast.tw6742214779387595945 : Unit := ()
def PySem.W.Fast.tw11255025372131105184 : Unit := ()
def PySem.W.Fast.tw10183167475156428327 : Unit := ()
def PySem.W.Fast.tw5493975849459652891 : Unit := ()
def PySem.W.Fast.tw15046392676998265119 : Unit := ()
def PySem.W.Fast.tw9735828282888164099 : Unit := ()
def PySem.W.Fast.tw17023405699929015266 : Unit := ()
def PySem.W.Fast.tw3512579316994412370 : Unit := ()
def PySem.W.Fast.tw12242865679364110672 : Unit := ()
def PySem.W.Fast.tw13735610114057713872 : Unit := ()
def PySem.W.Fast.tw1651410394553059973 : Unit := ()
def PySem.W.Fast.tw5673252699473645739 : Unit := ()
def PySem.W.Fast.tw74744767266394709 : Unit := ()
def PySem.W.Fast.tw15345310652472950763 : Unit := ()
def PySem.W.Fast.tw8924242767925500950 : Unit := ()
def PySem.W.Fast.tw12003639226138371881 : Unit := ()
def PySem.W.Fast.tw7521971457801907630 : Unit := ()
def PySem.W.Fast.tw10631507489308607234 : Unit := ()
def PySem.W.Fast.tw1658229324515427540 : Unit := ()
def PySem.W.Fast.tw4569661209900357220 : Unit := ()
def PySem.W.Fast.tw8314041611021819833 : Unit := ()
def PySem.W.Fast.tw5558298556089654339 : Unit := ()
def PySem.W.Fast.tw1777773506530242547 : Unit := ()
def PySem.W.Fast.tw4131604074380099306 : Unit := ()
def PySem.W.Fast.tw4561250414318966201 : Unit := ()
def PySem.W.Fast.tw12513047141857116728 : Unit := ()
def PySem.W.Fast.tw3954736003988860919 : Unit := ()
def PySem.W.Fast.tw3177446582475998486 : Unit := ()
def PySem.W.Fast.tw1579063379173447903 : Unit := ()
def PySem.W.Fast.tw16975616713644904810 : Unit := ()
def PySem.W.Fast.tw6127094071508013711 : Unit := ()
def PySem.W.Fast.tw12392731918645809641 : Unit := ()
def PySem.W.Fast.tw10057824951660448406 : Unit := ()
def PySem.W.Fast.tw14487655954526024183 : Unit := ()
def PySem.W.Fast.tw5761658391169785331 : Unit := ()
def PySem.W.Fast.tw5004237439196014793 : Unit := ()
def PySem.W.Fast.tw12453156854343912141 : Unit := ()
def PySem.W.Fast.tw15695386518637942362 : Unit := ()
def PySem.W.Fast.tw2796257029170079409 : Unit := ()
def PySem.W.Fast.tw6231588883289024036 : Unit := ()
def PySem.W.Fast.tw1893859496915933137 : Unit := ()
def PySem.W.Fast.tw15327763266129692257 : Unit := ()
def PySem.W.Fast.tw4822813422404876657 : Unit := ()
def PySem.W.Fast.tw3894706471734590206 : Unit := ()
def PySem.W.Fast.tw1292863638707208143 : Unit := ()
def PySem.W.Fast.tw18343039108354725624 : Unit := ()
def PySem.W.Fast.tw5420254568519741722 : Unit := ()
def PySem.W.Fast.tw9762878073968152797 : Unit := ()
def PySem.W.Fast.tw7087555487453567189 : Unit := ()
def PySem.W.Fast.tw17809561925357533666 : Unit := ()
def PySem.W.Fast.tw7161572899088041067 : Unit := ()
def PySem.W.Fast.tw1273366519020401331 : Unit := ()
def PySem.W.Fast.tw12368393183513466697 : Unit := ()
def PySem.W.Fast.tw2284098420278598239 : Unit := ()
def PySem.W.Fast.tw5757788173675646071 : Unit := ()
def PySem.W.Fast.tw11642218956927362189 : Unit := ()
def PySem.W.Fast.tw15897109788122689190 : Unit := ()
def PySem.W.Fast.tw6449148701860498381 : Unit := ()
def PySem.W.Fast.tw3120999936860761886 : Unit := ()
def PySem.W.Fast.tw3769009060714513678 : Unit := ()
def PySem.W.Fast.tw1850806187219207116 : Unit := ()
def PySem.W.Fast.tw15922684385509725908 : Unit := ()
def PySem.W.Fast.tw4837984003000105931 : Unit := ()
def PySem.W.Fast.tw11588048605604574409 : Unit := ()
def PySem.W.Fast.tw4392477556077084884 : Unit := ()
def PySem.W.Fast.tw4104861839779207004 : Unit := ()
def PySem.W.Fast.tw2439050083607677528 : Unit := ()
def PySem.W.Fast.tw14999112638812888113 : Unit := ()
def PySem.W.Fast.tw17449371828633605294 : Unit := ()
def PySem.W.Fast.tw10628041955460431089 : Unit := ()
def PySem.W.Fast.tw11692332004709240566 : Unit := ()
def PySem.W.Fast.tw8214939206932431946 : Unit := ()
open PySem PySem.W PyProof.Rows in
set_option maxRecDepth 100000 in
set_option maxHeartbeats 0 in
theorem PySem.Challenge.cw_replaylog_k22_stores_refused_holds : PySem.Challenge.rw_replaylog_k22_stores_refused.Holds := by
  w_on; o_law; k_head; (case hw => w_witness2)
  k_fill
  refine LamX.walk_ofTs (n := 63) (k := 25) (x := "_law_script") (CX := fun w => L2.CX PySem.Challenge.pw_replaylog_k22_stores_refused w) (l := PySem.Challenge.rw_replaylog_k22_stores_refused) rfl (by decide) rfl ⟨rfl, by decide, by decide⟩ (fun w h Y => PySem.W.km_in_of Y) ?F ?X
  case X => exact fun w H s e s' ⟨_, _, _, _, _, _, _, _, _, _, _, _, z⟩ => z
  case F =>
    intro w mg fa h Y KX G hmg
    refine' K22.all_mk KX G hmg (PySem.W.km_tabs_of Y _ ?mem) (PySem.W.km_tabs_of Y _ ?mem2) ?g_Store ?kg_Store ?kh_Store ?ko_Store ?ks_Store ?fn_Store_own_deeds ?fn_Store_table ?fns_Store ?fafa_Store___call__ ?fbfa_Store___call__ ?fafa_Store___getitem__ ?fbfa_Store___getitem__ ?ia_Store ?ib_Store ?ic_Store ?id_Store ?ma_Store_need_stand ?mf_Store_need_stand ?mk_Store_need_stand ?ma_Store_need_deed ?mf_Store_need_deed ?mk_Store_need_deed ?ma_Store_change ?mf_Store_change ?mk_Store_change ?ma_Store___setitem__ ?mf_Store___setitem__ ?mk_Store___setitem__ ?ma_Store___call__ ?mf_Store___call__ ?mk_Store___call__ ?ma_Store___getitem__ ?mf_Store___getitem__ ?mk_Store___getitem__ ?ma_Store_reached ?mf_Store_reached ?mk_Store_reached ?ma_Store_idle ?mb_Store_idle ?mg_Store_idle ?mr_Store_idle_ ?mf_Store_idle ?ma_Store_rows ?mf_Store_rows ?mk_Store_rows ?a_is_number ?l_is_number ?c_is_number_ ?k_is_number ?a_is_within ?l_is_within ?c_is_within_ ?k_is_within ?a_is_log ?l_is_log ?c_is_log_ ?k_is_log ?a_is_log_of ?l_is_log_of ?c_is_log_of_ ?k_is_log_of ?a_is_ascending ?l_is_ascending ?c_is_ascending_ ?k_is_ascending ?a_is_deeds ?l_is_deeds ?c_is_deeds_ ?k_is_deeds ?a_need_log_of ?l_need_log_of ?c_need_log_of_ ?k_need_log_of ?a_need_deeds ?l_need_deeds ?c_need_deeds_ ?k_need_deeds ?a_need_rows ?l_need_rows ?c_need_rows_ ?k_need_rows ?a_place_of ?l_place_of ?c_place_of_ ?k_place_of ?l_Store___init__ ?c_Store___init___ ?k_Store___init__ ?l_Store_idle ?c_Store_idle_ ?ld_Store_idle ?k_Store_idle ?l_Store_rows ?c_Store_rows_ ?l_Store_need_stand ?c_Store_need_stand_ ?l_Store_need_deed ?c_Store_need_deed_ ?l_Store___call__ ?c_Store___call___ ?l_Store___getitem__ ?c_Store___getitem___ ?l_Store_change ?c_Store_change_ ?l_Store___setitem__ ?c_Store___setitem___ ?l_Store_reached ?c_Store_reached_ ?a_law_pull ?l_law_pull ?c_law_pull_ ?k_law_pull ?a_law_pick ?l_law_pick ?c_law_pick_ ?k_law_pick ?a_law_letters ?l_law_letters ?c_law_letters_ ?k_law_letters ?a_law_alphabet ?l_law_alphabet ?c_law_alphabet_ ?k_law_alphabet ?a_law_rows ?l_law_rows ?c_law_rows_ ?k_law_rows ?a_law_bad_deeds ?l_law_bad_deeds ?c_law_bad_deeds_ ?k_law_bad_deeds ?a_law_same ?l_law_same ?c_law_same_ ?k_law_same ?a_law_ask ?l_law_ask ?c_law_ask_ ?k_law_ask ?a_law_laid ?l_law_laid ?c_law_laid_ ?k_law_laid ?a_law_calls_refused ?l_law_calls_refused ?c_law_calls_refused_ ?k_law_calls_refused ?a_law ?l_law ?c_law_ ?k_law ?a_law_start ?l_law_start ?c_law_start_ ?k_law_start ?lc_law_calls_refused ?lp_law_calls_refused ?hd_law_calls_refused ?nP_law_calls_refused ?lc_law ?lp_law ?hd_law ?nP_law ?dP ?z_all ?z_bool ?z_enumerate ?z_int ?z_isinstance ?z_len ?z_list ?z_min ?z_range ?z_str ?z_tuple ?q_LETTERS ?q_MOST_DEEDS ?q_MOST_STANDS ?g_LogError ?g_Missing ?g_InvalidDeed ?g_InvalidDeeds ?g_InvalidLog ?g_InvalidStep ?g_InvalidStore ?g_InvalidStand ?g_InvalidNumber ?g_InvalidCount ?g_TooMany ?g_NothingLeft ?xc_InvalidCount ?xm_InvalidCount ?xsa_InvalidCount ?xga_InvalidCount ?xgg_InvalidCount ?xnf_InvalidCount ?xnt_InvalidCount ?xk_InvalidCount ?xe_InvalidCount ?xv_InvalidCount ?xt_InvalidCount ?xd_InvalidCount ?xi_InvalidCount ?xit_InvalidCount ?xl_InvalidCount ?xco_InvalidCount ?xcd_InvalidCount ?xcf_InvalidCount ?xcg_InvalidCount ?xcc_InvalidCount ?xmr_InvalidCount ?xsu_InvalidCount ?xc_InvalidDeed ?xm_InvalidDeed ?xsa_InvalidDeed ?xga_InvalidDeed ?xgg_InvalidDeed ?xnf_InvalidDeed ?xnt_InvalidDeed ?xk_InvalidDeed ?xe_InvalidDeed ?xv_InvalidDeed ?xt_InvalidDeed ?xd_InvalidDeed ?xi_InvalidDeed ?xit_InvalidDeed ?xl_InvalidDeed ?xco_InvalidDeed ?xcd_InvalidDeed ?xcf_InvalidDeed ?xcg_InvalidDeed ?xcc_InvalidDeed ?xmr_InvalidDeed ?xsu_InvalidDeed ?xc_InvalidDeeds ?xm_InvalidDeeds ?xsa_InvalidDeeds ?xga_InvalidDeeds ?xgg_InvalidDeeds ?xnf_InvalidDeeds ?xnt_InvalidDeeds ?xk_InvalidDeeds ?xe_InvalidDeeds ?xv_InvalidDeeds ?xt_InvalidDeeds ?xd_InvalidDeeds ?xi_InvalidDeeds ?xit_InvalidDeeds ?xl_InvalidDeeds ?xco_InvalidDeeds ?xcd_InvalidDeeds ?xcf_InvalidDeeds ?xcg_InvalidDeeds ?xcc_InvalidDeeds ?xmr_InvalidDeeds ?xsu_InvalidDeeds ?xc_InvalidLog ?xm_InvalidLog ?xsa_InvalidLog ?xga_InvalidLog ?xgg_InvalidLog ?xnf_InvalidLog ?xnt_InvalidLog ?xk_InvalidLog ?xe_InvalidLog ?xv_InvalidLog ?xt_InvalidLog ?xd_InvalidLog ?xi_InvalidLog ?xit_InvalidLog ?xl_InvalidLog ?xco_InvalidLog ?xcd_InvalidLog ?xcf_InvalidLog ?xcg_InvalidLog ?xcc_InvalidLog ?xmr_InvalidLog ?xsu_InvalidLog ?xc_InvalidStand ?xm_InvalidStand ?xsa_InvalidStand ?xga_InvalidStand ?xgg_InvalidStand ?xnf_InvalidStand ?xnt_InvalidStand ?xk_InvalidStand ?xe_InvalidStand ?xv_InvalidStand ?xt_InvalidStand ?xd_InvalidStand ?xi_InvalidStand ?xit_InvalidStand ?xl_InvalidStand ?xco_InvalidStand ?xcd_InvalidStand ?xcf_InvalidStand ?xcg_InvalidStand ?xcc_InvalidStand ?xmr_InvalidStand ?xsu_InvalidStand ?xc_InvalidStore ?xm_InvalidStore ?xsa_InvalidStore ?xga_InvalidStore ?xgg_InvalidStore ?xnf_InvalidStore ?xnt_InvalidStore ?xk_InvalidStore ?xe_InvalidStore ?xv_InvalidStore ?xt_InvalidStore ?xd_InvalidStore ?xi_InvalidStore ?xit_InvalidStore ?xl_InvalidStore ?xco_InvalidStore ?xcd_InvalidStore ?xcf_InvalidStore ?xcg_InvalidStore ?xcc_InvalidStore ?xmr_InvalidStore ?xsu_InvalidStore ?xc_TooMany ?xm_TooMany ?xsa_TooMany ?xga_TooMany ?xgg_TooMany ?xnf_TooMany ?xnt_TooMany ?xk_TooMany ?xe_TooMany ?xv_TooMany ?xt_TooMany ?xd_TooMany ?xi_TooMany ?xit_TooMany ?xl_TooMany ?xco_TooMany ?xcd_TooMany ?xcf_TooMany ?xcg_TooMany ?xcc_TooMany ?xmr_TooMany ?xsu_TooMany ?xop ?xsup ?xtop ?e_InvalidCount_InvalidDeed ?e_InvalidCount_InvalidDeeds ?e_InvalidCount_InvalidLog ?e_InvalidCount_InvalidStand ?e_InvalidCount_InvalidNumber ?e_InvalidCount_InvalidCount ?e_InvalidCount_InvalidStep ?e_InvalidCount_InvalidStore ?e_InvalidCount_TooMany ?e_InvalidCount_LogError ?e_InvalidCount_Missing ?e_InvalidCount_NothingLeft ?e_InvalidDeed_InvalidDeed ?e_InvalidDeed_InvalidDeeds ?e_InvalidDeed_InvalidLog ?e_InvalidDeed_InvalidStand ?e_InvalidDeed_InvalidNumber ?e_InvalidDeed_InvalidCount ?e_InvalidDeed_InvalidStep ?e_InvalidDeed_InvalidStore ?e_InvalidDeed_TooMany ?e_InvalidDeed_LogError ?e_InvalidDeed_Missing ?e_InvalidDeed_NothingLeft ?e_InvalidDeeds_InvalidDeed ?e_InvalidDeeds_InvalidDeeds ?e_InvalidDeeds_InvalidLog ?e_InvalidDeeds_InvalidStand ?e_InvalidDeeds_InvalidNumber ?e_InvalidDeeds_InvalidCount ?e_InvalidDeeds_InvalidStep ?e_InvalidDeeds_InvalidStore ?e_InvalidDeeds_TooMany ?e_InvalidDeeds_LogError ?e_InvalidDeeds_Missing ?e_InvalidDeeds_NothingLeft ?e_InvalidLog_InvalidDeed ?e_InvalidLog_InvalidDeeds ?e_InvalidLog_InvalidLog ?e_InvalidLog_InvalidStand ?e_InvalidLog_InvalidNumber ?e_InvalidLog_InvalidCount ?e_InvalidLog_InvalidStep ?e_InvalidLog_InvalidStore ?e_InvalidLog_TooMany ?e_InvalidLog_LogError ?e_InvalidLog_Missing ?e_InvalidLog_NothingLeft ?e_InvalidStand_InvalidDeed ?e_InvalidStand_InvalidDeeds ?e_InvalidStand_InvalidLog ?e_InvalidStand_InvalidStand ?e_InvalidStand_InvalidNumber ?e_InvalidStand_InvalidCount ?e_InvalidStand_InvalidStep ?e_InvalidStand_InvalidStore ?e_InvalidStand_TooMany ?e_InvalidStand_LogError ?e_InvalidStand_Missing ?e_InvalidStand_NothingLeft ?e_InvalidStore_InvalidDeed ?e_InvalidStore_InvalidDeeds ?e_InvalidStore_InvalidLog ?e_InvalidStore_InvalidStand ?e_InvalidStore_InvalidNumber ?e_InvalidStore_InvalidCount ?e_InvalidStore_InvalidStep ?e_InvalidStore_InvalidStore ?e_InvalidStore_TooMany ?e_InvalidStore_LogError ?e_InvalidStore_Missing ?e_InvalidStore_NothingLeft ?e_TooMany_InvalidDeed ?e_TooMany_InvalidDeeds ?e_TooMany_InvalidLog ?e_TooMany_InvalidStand ?e_TooMany_InvalidNumber ?e_TooMany_InvalidCount ?e_TooMany_InvalidStep ?e_TooMany_InvalidStore ?e_TooMany_TooMany ?e_TooMany_LogError ?e_TooMany_Missing ?e_TooMany_NothingLeft
    (case g_Store => first | k_is | rfl | decide +kernel)
    (case kg_Store => first | k_is | rfl | decide +kernel)
    (case kh_Store => first | k_is | rfl | decide +kernel)
    (case ko_Store => first | k_is | rfl | decide +kernel)
    (case ks_Store => first | k_is | rfl | decide +kernel)
    (case fn_Store_own_deeds => first | k_is | rfl | decide +kernel)
    (case fn_Store_table => first | k_is | rfl | decide +kernel)
    (case fns_Store => first | k_is | rfl | decide +kernel)
    (case fafa_Store___call__ => first | k_is | rfl | decide +kernel)
    (case fbfa_Store___call__ => first | k_is | rfl | decide +kernel)
    (case fafa_Store___getitem__ => first | k_is | rfl | decide +kernel)
    (case fbfa_Store___getitem__ => first | k_is | rfl | decide +kernel)
    (case ia_Store => first | k_is | rfl | decide +kernel)
    (case ib_Store => first | k_is | rfl | decide +kernel)
    (case ic_Store => first | k_is | rfl | decide +kernel)
    (case id_Store => first | k_is | rfl | decide +kernel)
    (case ma_Store_need_stand => first | k_is | rfl | decide +kernel)
    (case mf_Store_need_stand => first | k_is | rfl | decide +kernel)
    (case mk_Store_need_stand => first | k_is | rfl | decide +kernel)
    (case ma_Store_need_deed => first | k_is | rfl | decide +kernel)
    (case mf_Store_need_deed => first | k_is | rfl | decide +kernel)
    (case mk_Store_need_deed => first | k_is | rfl | decide +kernel)
    (case ma_Store_change => first | k_is | rfl | decide +kernel)
    (case mf_Store_change => first | k_is | rfl | decide +kernel)
    (case mk_Store_change => first | k_is | rfl | decide +kernel)
    (case ma_Store___setitem__ => first | k_is | rfl | decide +kernel)
    (case mf_Store___setitem__ => first | k_is | rfl | decide +kernel)
    (case mk_Store___setitem__ => first | k_is | rfl | decide +kernel)
    (case ma_Store___call__ => first | k_is | rfl | decide +kernel)
    (case mf_Store___call__ => first | k_is | rfl | decide +kernel)
    (case mk_Store___call__ => first | k_is | rfl | decide +kernel)
    (case ma_Store___getitem__ => first | k_is | rfl | decide +kernel)
    (case mf_Store___getitem__ => first | k_is | rfl | decide +kernel)
    (case mk_Store___getitem__ => first | k_is | rfl | decide +kernel)
    (case ma_Store_reached => first | k_is | rfl | decide +kernel)
    (case mf_Store_reached => first | k_is | rfl | decide +kernel)
    (case mk_Store_reached => first | k_is | rfl | decide +kernel)
    (case ma_Store_idle => first | k_is | rfl | decide +kernel)
    (case mb_Store_idle => first | k_is | rfl | decide +kernel)
    (case mg_Store_idle => first | k_is | rfl | decide +kernel)
    (case mr_Store_idle_ => first | k_is | rfl | decide +kernel)
    (case mf_Store_idle => first | k_is | rfl | decide +kernel)
    (case ma_Store_rows => first | k_is | rfl | decide +kernel)
    (case mf_Store_rows => first | k_is | rfl | decide +kernel)
    (case mk_Store_rows => first | k_is | rfl | decide +kernel)
    (case a_is_number => first | k_is | rfl | decide +kernel)
    (case l_is_number => first | k_is | rfl | decide +kernel)
    (case c_is_number_ => first | k_is | rfl | decide +kernel)
    (case k_is_number => first | k_is | rfl | decide +kernel)
    (case a_is_within => first | k_is | rfl | decide +kernel)
    (case l_is_within => first | k_is | rfl | decide +kernel)
    (case c_is_within_ => first | k_is | rfl | decide +kernel)
    (case k_is_within => first | k_is | rfl | decide +kernel)
    (case a_is_log => first | k_is | rfl | decide +kernel)
    (case l_is_log => first | k_is | rfl | decide +kernel)
    (case c_is_log_ => first | k_is | rfl | decide +kernel)
    (case k_is_log => first | k_is | rfl | decide +kernel)
    (case a_is_log_of => first | k_is | rfl | decide +kernel)
    (case l_is_log_of => first | k_is | rfl | decide +kernel)
    (case c_is_log_of_ => first | k_is | rfl | decide +kernel)
    (case k_is_log_of => first | k_is | rfl | decide +kernel)
    (case a_is_ascending => first | k_is | rfl | decide +kernel)
    (case l_is_ascending => first | k_is | rfl | decide +kernel)
    (case c_is_ascending_ => first | k_is | rfl | decide +kernel)
    (case k_is_ascending => first | k_is | rfl | decide +kernel)
    (case a_is_deeds => first | k_is | rfl | decide +kernel)
    (case l_is_deeds => first | k_is | rfl | decide +kernel)
    (case c_is_deeds_ => first | k_is | rfl | decide +kernel)
    (case k_is_deeds => first | k_is | rfl | decide +kernel)
    (case a_need_log_of => first | k_is | rfl | decide +kernel)
    (case l_need_log_of => first | k_is | rfl | decide +kernel)
    (case c_need_log_of_ => first | k_is | rfl | decide +kernel)
    (case k_need_log_of => first | k_is | rfl | decide +kernel)
    (case a_need_deeds => first | k_is | rfl | decide +kernel)
    (case l_need_deeds => first | k_is | rfl | decide +kernel)
    (case c_need_deeds_ => first | k_is | rfl | decide +kernel)
    (case k_need_deeds => first | k_is | rfl | decide +kernel)
    (case a_need_rows => first | k_is | rfl | decide +kernel)
    (case l_need_rows => first | k_is | rfl | decide +kernel)
    (case c_need_rows_ => first | k_is | rfl | decide +kernel)
    (case k_need_rows => first | k_is | rfl | decide +kernel)
    (case a_place_of => first | k_is | rfl | decide +kernel)
    (case l_place_of => first | k_is | rfl | decide +kernel)
    (case c_place_of_ => first | k_is | rfl | decide +kernel)
    (case k_place_of => first | k_is | rfl | decide +kernel)
    (case l_Store___init__ => first | k_is | rfl | decide +kernel)
    (case c_Store___init___ => first | k_is | rfl | decide +kernel)
    (case k_Store___init__ => first | k_is | rfl | decide +kernel)
    (case l_Store_idle => first | k_is | rfl | decide +kernel)
    (case c_Store_idle_ => first | k_is | rfl | decide +kernel)
    (case ld_Store_idle => first | k_is | rfl | decide +kernel)
    (case k_Store_idle => first | k_is | rfl | decide +kernel)
    (case l_Store_rows => first | k_is | rfl | decide +kernel)
    (case c_Store_rows_ => first | k_is | rfl | decide +kernel)
    (case l_Store_need_stand => first | k_is | rfl | decide +kernel)
    (case c_Store_need_stand_ => first | k_is | rfl | decide +kernel)
    (case l_Store_need_deed => first | k_is | rfl | decide +kernel)
    (case c_Store_need_deed_ => first | k_is | rfl | decide +kernel)
    (case l_Store___call__ => first | k_is | rfl | decide +kernel)
    (case c_Store___call___ => first | k_is | rfl | decide +kernel)
    (case l_Store___getitem__ => first | k_is | rfl | decide +kernel)
    (case c_Store___getitem___ => first | k_is | rfl | decide +kernel)
    (case l_Store_change => first | k_is | rfl | decide +kernel)
    (case c_Store_change_ => first | k_is | rfl | decide +kernel)
    (case l_Store___setitem__ => first | k_is | rfl | decide +kernel)
    (case c_Store___setitem___ => first | k_is | rfl | decide +kernel)
    (case l_Store_reached => first | k_is | rfl | decide +kernel)
    (case c_Store_reached_ => first | k_is | rfl | decide +kernel)
    (case a_law_pull => first | k_is | rfl | decide +kernel)
    (case l_law_pull => first | k_is | rfl | decide +kernel)
    (case c_law_pull_ => first | k_is | rfl | decide +kernel)
    (case k_law_pull => first | k_is | rfl | decide +kernel)
    (case a_law_pick => first | k_is | rfl | decide +kernel)
    (case l_law_pick => first | k_is | rfl | decide +kernel)
    (case c_law_pick_ => first | k_is | rfl | decide +kernel)
    (case k_law_pick => first | k_is | rfl | decide +kernel)
    (case a_law_letters => first | k_is | rfl | decide +kernel)
    (case l_law_letters => first | k_is | rfl | decide +kernel)
    (case c_law_letters_ => first | k_is | rfl | decide +kernel)
    (case k_law_letters => first | k_is | rfl | decide +kernel)
    (case a_law_alphabet => first | k_is | rfl | decide +kernel)
    (case l_law_alphabet => first | k_is | rfl | decide +kernel)
    (case c_law_alphabet_ => first | k_is | rfl | decide +kernel)
    (case k_law_alphabet => first | k_is | rfl | decide +kernel)
    (case a_law_rows => first | k_is | rfl | decide +kernel)
    (case l_law_rows => first | k_is | rfl | decide +kernel)
    (case c_law_rows_ => first | k_is | rfl | decide +kernel)
    (case k_law_rows => first | k_is | rfl | decide +kernel)
    (case a_law_bad_deeds => first | k_is | rfl | decide +kernel)
    (case l_law_bad_deeds => first | k_is | rfl | decide +kernel)
    (case c_law_bad_deeds_ => first | k_is | rfl | decide +kernel)
    (case k_law_bad_deeds => first | k_is | rfl | decide +kernel)
    (case a_law_same => first | k_is | rfl | decide +kernel)
    (case l_law_same => first | k_is | rfl | decide +kernel)
    (case c_law_same_ => first | k_is | rfl | decide +kernel)
    (case k_law_same => first | k_is | rfl | decide +kernel)
    (case a_law_ask => first | k_is | rfl | decide +kernel)
    (case l_law_ask => first | k_is | rfl | decide +kernel)
    (case c_law_ask_ => first | k_is | rfl | decide +kernel)
    (case k_law_ask => first | k_is | rfl | decide +kernel)
    (case a_law_laid => first | k_is | rfl | decide +kernel)
    (case l_law_laid => first | k_is | rfl | decide +kernel)
    (case c_law_laid_ => first | k_is | rfl | decide +kernel)
    (case k_law_laid => first | k_is | rfl | decide +kernel)
    (case a_law_calls_refused => first | k_is | rfl | decide +kernel)
    (case l_law_calls_refused => first | k_is | rfl | decide +kernel)
    (case c_law_calls_refused_ => first | k_is | rfl | decide +kernel)
    (case k_law_calls_refused => first | k_is | rfl | decide +kernel)
    (case a_law => first | k_is | rfl | decide +kernel)
    (case l_law => first | k_is | rfl | decide +kernel)
    (case c_law_ => first | k_is | rfl | decide +kernel)
    (case k_law => first | k_is | rfl | decide +kernel)
    (case a_law_start => first | k_is | rfl | decide +kernel)
    (case l_law_start => first | k_is | rfl | decide +kernel)
    (case c_law_start_ => first | k_is | rfl | decide +kernel)
    (case k_law_start => first | k_is | rfl | decide +kernel)
    (case lc_law_calls_refused => first | k_is | rfl | decide +kernel)
    (case lp_law_calls_refused => first | rfl | decide +kernel)
    (case hd_law_calls_refused => first | k_is | rfl | decide +kernel)
    (case nP_law_calls_refused => first | k_is | rfl | decide +kernel)
    (case lc_law => first | k_is | rfl | decide +kernel)
    (case lp_law => first | rfl | decide +kernel)
    (case hd_law => first | k_is | rfl | decide +kernel)
    (case nP_law => first | k_is | rfl | decide +kernel)
    (case dP => decide)
    (case z_all => first | k_is | rfl | decide +kernel)
    (case z_bool => first | k_is | rfl | decide +kernel)
    (case z_enumerate => first | k_is | rfl | decide +kernel)
    (case z_int => first | k_is | rfl | decide +kernel)
    (case z_isinstance => first | k_is | rfl | decide +kernel)
    (case z_len => first | k_is | rfl | decide +kernel)
    (case z_list => first | k_is | rfl | decide +kernel)
    (case z_min => first | k_is | rfl | decide +kernel)
    (case z_range => first | k_is | rfl | decide +kernel)
    (case z_str => first | k_is | rfl | decide +kernel)
    (case z_tuple => first | k_is | rfl | decide +kernel)
    (case q_LETTERS => first | k_is | rfl | decide +kernel)
    (case q_MOST_DEEDS => first | k_is | rfl | decide +kernel)
    (case q_MOST_STANDS => first | k_is | rfl | decide +kernel)
    (case g_LogError => first | k_is | rfl | decide +kernel)
    (case g_Missing => first | k_is | rfl | decide +kernel)
    (case g_InvalidDeed => first | k_is | rfl | decide +kernel)
    (case g_InvalidDeeds => first | k_is | rfl | decide +kernel)
    (case g_InvalidLog => first | k_is | rfl | decide +kernel)
    (case g_InvalidStep => first | k_is | rfl | decide +kernel)
    (case g_InvalidStore => first | k_is | rfl | decide +kernel)
    (case g_InvalidStand => first | k_is | rfl | decide +kernel)
    (case g_InvalidNumber => first | k_is | rfl | decide +kernel)
    (case g_InvalidCount => first | k_is | rfl | decide +kernel)
    (case g_TooMany => first | k_is | rfl | decide +kernel)
    (case g_NothingLeft => first | k_is | rfl | decide +kernel)
    (case xc_InvalidCount => first | k_is | rfl | decide +kernel)
    (case xm_InvalidCount => first | rfl | decide +kernel)
    (case xsa_InvalidCount => first | k_is | rfl | decide +kernel)
    (case xga_InvalidCount => first | k_is | rfl | decide +kernel)
    (case xgg_InvalidCount => first | k_is | rfl | decide +kernel)
    (case xnf_InvalidCount => first | k_is | rfl | decide +kernel)
    (case xnt_InvalidCount => first | k_is | rfl | decide +kernel)
    (case xk_InvalidCount => first | k_is | rfl | decide +kernel)
    (case xe_InvalidCount => first | k_is | rfl | decide +kernel)
    (case xv_InvalidCount => first | k_is | rfl | decide +kernel)
    (case xt_InvalidCount => first | k_is | rfl | decide +kernel)
    (case xd_InvalidCount => first | k_is | rfl | decide +kernel)
    (case xi_InvalidCount => first | k_is | rfl | decide +kernel)
    (case xit_InvalidCount => first | k_is | rfl | decide +kernel)
    (case xl_InvalidCount => first | k_is | rfl | decide +kernel)
    (case xco_InvalidCount => first | k_is | rfl | decide +kernel)
    (case xcd_InvalidCount => first | k_is | rfl | decide +kernel)
    (case xcf_InvalidCount => first | rfl | decide +kernel)
    (case xcg_InvalidCount => first | rfl | decide +kernel)
    (case xcc_InvalidCount => first | k_is | rfl | decide +kernel)
    (case xmr_InvalidCount => first | k_is | rfl | decide +kernel)
    (case xsu_InvalidCount => first | k_is | rfl | decide +kernel)
    (case xc_InvalidDeed => first | k_is | rfl | decide +kernel)
    (case xm_InvalidDeed => first | rfl | decide +kernel)
    (case xsa_InvalidDeed => first | k_is | rfl | decide +kernel)
    (case xga_InvalidDeed => first | k_is | rfl | decide +kernel)
    (case xgg_InvalidDeed => first | k_is | rfl | decide +kernel)
    (case xnf_InvalidDeed => first | k_is | rfl | decide +kernel)
    (case xnt_InvalidDeed => first | k_is | rfl | decide +kernel)
    (case xk_InvalidDeed => first | k_is | rfl | decide +kernel)
    (case xe_InvalidDeed => first | k_is | rfl | decide +kernel)
    (case xv_InvalidDeed => first | k_is | rfl | decide +kernel)
    (case xt_InvalidDeed => first | k_is | rfl | decide +kernel)
    (case xd_InvalidDeed => first | k_is | rfl | decide +kernel)
    (case xi_InvalidDeed => first | k_is | rfl | decide +kernel)
    (case xit_InvalidDeed => first | k_is | rfl | decide +kernel)
    (case xl_InvalidDeed => first | k_is | rfl | decide +kernel)
    (case xco_InvalidDeed => first | k_is | rfl | decide +kernel)
    (case xcd_InvalidDeed => first | k_is | rfl | decide +kernel)
    (case xcf_InvalidDeed => first | rfl | decide +kernel)
    (case xcg_InvalidDeed => first | rfl | decide +kernel)
    (case xcc_InvalidDeed => first | k_is | rfl | decide +kernel)
    (case xmr_InvalidDeed => first | k_is | rfl | decide +kernel)
    (case xsu_InvalidDeed => first | k_is | rfl | decide +kernel)
    (case xc_InvalidDeeds => first | k_is | rfl | decide +kernel)
    (case xm_InvalidDeeds => first | rfl | decide +kernel)
    (case xsa_InvalidDeeds => first | k_is | rfl | decide +kernel)
    (case xga_InvalidDeeds => first | k_is | rfl | decide +kernel)
    (case xgg_InvalidDeeds => first | k_is | rfl | decide +kernel)
    (case xnf_InvalidDeeds => first | k_is | rfl | decide +kernel)
    (case xnt_InvalidDeeds => first | k_is | rfl | decide +kernel)
    (case xk_InvalidDeeds => first | k_is | rfl | decide +kernel)
    (case xe_InvalidDeeds => first | k_is | rfl | decide +kernel)
    (case xv_InvalidDeeds => first | k_is | rfl | decide +kernel)
    (case xt_InvalidDeeds => first | k_is | rfl | decide +kernel)
    (case xd_InvalidDeeds => first | k_is | rfl | decide +kernel)
    (case xi_InvalidDeeds => first | k_is | rfl | decide +kernel)
    (case xit_InvalidDeeds => first | k_is | rfl | decide +kernel)
    (case xl_InvalidDeeds => first | k_is | rfl | decide +kernel)
    (case xco_InvalidDeeds => first | k_is | rfl | decide +kernel)
    (case xcd_InvalidDeeds => first | k_is | rfl | decide +kernel)
    (case xcf_InvalidDeeds => first | rfl | decide +kernel)
    (case xcg_InvalidDeeds => first | rfl | decide +kernel)
    (case xcc_InvalidDeeds => first | k_is | rfl | decide +kernel)
    (case xmr_InvalidDeeds => first | k_is | rfl | decide +kernel)
    (case xsu_InvalidDeeds => first | k_is | rfl | decide +kernel)
    (case xc_InvalidLog => first | k_is | rfl | decide +kernel)
    (case xm_InvalidLog => first | rfl | decide +kernel)
    (case xsa_InvalidLog => first | k_is | rfl | decide +kernel)
    (case xga_InvalidLog => first | k_is | rfl | decide +kernel)
    (case xgg_InvalidLog => first | k_is | rfl | decide +kernel)
    (case xnf_InvalidLog => first | k_is | rfl | decide +kernel)
    (case xnt_InvalidLog => first | k_is | rfl | decide +kernel)
    (case xk_InvalidLog => first | k_is | rfl | decide +kernel)
    (case xe_InvalidLog => first | k_is | rfl | decide +kernel)
    (case xv_InvalidLog => first | k_is | rfl | decide +kernel)
    (case xt_InvalidLog => first | k_is | rfl | decide +kernel)
    (case xd_InvalidLog => first | k_is | rfl | decide +kernel)
    (case xi_InvalidLog => first | k_is | rfl | decide +kernel)
    (case xit_InvalidLog => first | k_is | rfl | decide +kernel)
    (case xl_InvalidLog => first | k_is | rfl | decide +kernel)
    (case xco_InvalidLog => first | k_is | rfl | decide +kernel)
    (case xcd_InvalidLog => first | k_is | rfl | decide +kernel)
    (case xcf_InvalidLog => first | rfl | decide +kernel)
    (case xcg_InvalidLog => first | rfl | decide +kernel)
    (case xcc_InvalidLog => first | k_is | rfl | decide +kernel)
    (case xmr_InvalidLog => first | k_is | rfl | decide +kernel)
    (case xsu_InvalidLog => first | k_is | rfl | decide +kernel)
    (case xc_InvalidStand => first | k_is | rfl | decide +kernel)
    (case xm_InvalidStand => first | rfl | decide +kernel)
    (case xsa_InvalidStand => first | k_is | rfl | decide +kernel)
    (case xga_InvalidStand => first | k_is | rfl | decide +kernel)
    (case xgg_InvalidStand => first | k_is | rfl | decide +kernel)
    (case xnf_InvalidStand => first | k_is | rfl | decide +kernel)
    (case xnt_InvalidStand => first | k_is | rfl | decide +kernel)
    (case xk_InvalidStand => first | k_is | rfl | decide +kernel)
    (case xe_InvalidStand => first | k_is | rfl | decide +kernel)
    (case xv_InvalidStand => first | k_is | rfl | decide +kernel)
    (case xt_InvalidStand => first | k_is | rfl | decide +kernel)
    (case xd_InvalidStand => first | k_is | rfl | decide +kernel)
    (case xi_InvalidStand => first | k_is | rfl | decide +kernel)
    (case xit_InvalidStand => first | k_is | rfl | decide +kernel)
    (case xl_InvalidStand => first | k_is | rfl | decide +kernel)
    (case xco_InvalidStand => first | k_is | rfl | decide +kernel)
    (case xcd_InvalidStand => first | k_is | rfl | decide +kernel)
    (case xcf_InvalidStand => first | rfl | decide +kernel)
    (case xcg_InvalidStand => first | rfl | decide +kernel)
    (case xcc_InvalidStand => first | k_is | rfl | decide +kernel)
    (case xmr_InvalidStand => first | k_is | rfl | decide +kernel)
    (case xsu_InvalidStand => first | k_is | rfl | decide +kernel)
    (case xc_InvalidStore => first | k_is | rfl | decide +kernel)
    (case xm_InvalidStore => first | rfl | decide +kernel)
    (case xsa_InvalidStore => first | k_is | rfl | decide +kernel)
    (case xga_InvalidStore => first | k_is | rfl | decide +kernel)
    (case xgg_InvalidStore => first | k_is | rfl | decide +kernel)
    (case xnf_InvalidStore => first | k_is | rfl | decide +kernel)
    (case xnt_InvalidStore => first | k_is | rfl | decide +kernel)
    (case xk_InvalidStore => first | k_is | rfl | decide +kernel)
    (case xe_InvalidStore => first | k_is | rfl | decide +kernel)
    (case xv_InvalidStore => first | k_is | rfl | decide +kernel)
    (case xt_InvalidStore => first | k_is | rfl | decide +kernel)
    (case xd_InvalidStore => first | k_is | rfl | decide +kernel)
    (case xi_InvalidStore => first | k_is | rfl | decide +kernel)
    (case xit_InvalidStore => first | k_is | rfl | decide +kernel)
    (case xl_InvalidStore => first | k_is | rfl | decide +kernel)
    (case xco_InvalidStore => first | k_is | rfl | decide +kernel)
    (case xcd_InvalidStore => first | k_is | rfl | decide +kernel)
    (case xcf_InvalidStore => first | rfl | decide +kernel)
    (case xcg_InvalidStore => first | rfl | decide +kernel)
    (case xcc_InvalidStore => first | k_is | rfl | decide +kernel)
    (case xmr_InvalidStore => first | k_is | rfl | decide +kernel)
    (case xsu_InvalidStore => first | k_is | rfl | decide +kernel)
    (case xc_TooMany => first | k_is | rfl | decide +kernel)
    (case xm_TooMany => first | rfl | decide +kernel)
    (case xsa_TooMany => first | k_is | rfl | decide +kernel)
    (case xga_TooMany => first | k_is | rfl | decide +kernel)
    (case xgg_TooMany => first | k_is | rfl | decide +kernel)
    (case xnf_TooMany => first | k_is | rfl | decide +kernel)
    (case xnt_TooMany => first | k_is | rfl | decide +kernel)
    (case xk_TooMany => first | k_is | rfl | decide +kernel)
    (case xe_TooMany => first | k_is | rfl | decide +kernel)
    (case xv_TooMany => first | k_is | rfl | decide +kernel)
    (case xt_TooMany => first | k_is | rfl | decide +kernel)
    (case xd_TooMany => first | k_is | rfl | decide +kernel)
    (case xi_TooMany => first | k_is | rfl | decide +kernel)
    (case xit_TooMany => first | k_is | rfl | decide +kernel)
    (case xl_TooMany => first | k_is | rfl | decide +kernel)
    (case xco_TooMany => first | k_is | rfl | decide +kernel)
    (case xcd_TooMany => first | k_is | rfl | decide +kernel)
    (case xcf_TooMany => first | rfl | decide +kernel)
    (case xcg_TooMany => first | rfl | decide +kernel)
    (case xcc_TooMany => first | k_is | rfl | decide +kernel)
    (case xmr_TooMany => first | k_is | rfl | decide +kernel)
    (case xsu_TooMany => first | k_is | rfl | decide +kernel)
    (case xop => first | k_is | rfl | decide +kernel)
    (case xsup => first | k_is | rfl | decide +kernel)
    (case xtop => first | rfl | decide +kernel)
    (case e_InvalidCount_InvalidDeed => first | k_is | rfl | decide +kernel)
    (case e_InvalidCount_InvalidDeeds => first | k_is | rfl | decide +kernel)
    (case e_InvalidCount_InvalidLog => first | k_is | rfl | decide +kernel)
    (case e_InvalidCount_InvalidStand => first | k_is | rfl | decide +kernel)
    (case e_InvalidCount_InvalidNumber => first | k_is | rfl | decide +kernel)
    (case e_InvalidCount_InvalidCount => first | k_is | rfl | decide +kernel)
    (case e_InvalidCount_InvalidStep => first | k_is | rfl | decide +kernel)
    (case e_InvalidCount_InvalidStore => first | k_is | rfl | decide +kernel)
    (case e_InvalidCount_TooMany => first | k_is | rfl | decide +kernel)
    (case e_InvalidCount_LogError => first | k_is | rfl | decide +kernel)
    (case e_InvalidCount_Missing => first | k_is | rfl | decide +kernel)
    (case e_InvalidCount_NothingLeft => first | k_is | rfl | decide +kernel)
    (case e_InvalidDeed_InvalidDeed => first | k_is | rfl | decide +kernel)
    (case e_InvalidDeed_InvalidDeeds => first | k_is | rfl | decide +kernel)
    (case e_InvalidDeed_InvalidLog => first | k_is | rfl | decide +kernel)
    (case e_InvalidDeed_InvalidStand => first | k_is | rfl | decide +kernel)
    (case e_InvalidDeed_InvalidNumber => first | k_is | rfl | decide +kernel)
    (case e_InvalidDeed_InvalidCount => first | k_is | rfl | decide +kernel)
    (case e_InvalidDeed_InvalidStep => first | k_is | rfl | decide +kernel)
    (case e_InvalidDeed_InvalidStore => first | k_is | rfl | decide +kernel)
    (case e_InvalidDeed_TooMany => first | k_is | rfl | decide +kernel)
    (case e_InvalidDeed_LogError => first | k_is | rfl | decide +kernel)
    (case e_InvalidDeed_Missing => first | k_is | rfl | decide +kernel)
    (case e_InvalidDeed_NothingLeft => first | k_is | rfl | decide +kernel)
    (case e_InvalidDeeds_InvalidDeed => first | k_is | rfl | decide +kernel)
    (case e_InvalidDeeds_InvalidDeeds => first | k_is | rfl | decide +kernel)
    (case e_InvalidDeeds_InvalidLog => first | k_is | rfl | decide +kernel)
    (case e_InvalidDeeds_InvalidStand => first | k_is | rfl | decide +kernel)
    (case e_InvalidDeeds_InvalidNumber => first | k_is | rfl | decide +kernel)
    (case e_InvalidDeeds_InvalidCount => first | k_is | rfl | decide +kernel)
    (case e_InvalidDeeds_InvalidStep => first | k_is | rfl | decide +kernel)
    (case e_InvalidDeeds_InvalidStore => first | k_is | rfl | decide +kernel)
    (case e_InvalidDeeds_TooMany => first | k_is | rfl | decide +kernel)
    (case e_InvalidDeeds_LogError => first | k_is | rfl | decide +kernel)
    (case e_InvalidDeeds_Missing => first | k_is | rfl | decide +kernel)
    (case e_InvalidDeeds_NothingLeft => first | k_is | rfl | decide +kernel)
    (case e_InvalidLog_InvalidDeed => first | k_is | rfl | decide +kernel)
    (case e_InvalidLog_InvalidDeeds => first | k_is | rfl | decide +kernel)
    (case e_InvalidLog_InvalidLog => first | k_is | rfl | decide +kernel)
    (case e_InvalidLog_InvalidStand => first | k_is | rfl | decide +kernel)
    (case e_InvalidLog_InvalidNumber => first | k_is | rfl | decide +kernel)
    (case e_InvalidLog_InvalidCount => first | k_is | rfl | decide +kernel)
    (case e_InvalidLog_InvalidStep => first | k_is | rfl | decide +kernel)
    (case e_InvalidLog_InvalidStore => first | k_is | rfl | decide +kernel)
    (case e_InvalidLog_TooMany => first | k_is | rfl | decide +kernel)
    (case e_InvalidLog_LogError => first | k_is | rfl | decide +kernel)
    (case e_InvalidLog_Missing => first | k_is | rfl | decide +kernel)
    (case e_InvalidLog_NothingLeft => first | k_is | rfl | decide +kernel)
    (case e_InvalidStand_InvalidDeed => first | k_is | rfl | decide +kernel)
    (case e_InvalidStand_InvalidDeeds => first | k_is | rfl | decide +kernel)
    (case e_InvalidStand_InvalidLog => first | k_is | rfl | decide +kernel)
    (case e_InvalidStand_InvalidStand => first | k_is | rfl | decide +kernel)
    (case e_InvalidStand_InvalidNumber => first | k_is | rfl | decide +kernel)
    (case e_InvalidStand_InvalidCount => first | k_is | rfl | decide +kernel)
    (case e_InvalidStand_InvalidStep => first | k_is | rfl | decide +kernel)
    (case e_InvalidStand_InvalidStore => first | k_is | rfl | decide +kernel)
    (case e_InvalidStand_TooMany => first | k_is | rfl | decide +kernel)
    (case e_InvalidStand_LogError => first | k_is | rfl | decide +kernel)
    (case e_InvalidStand_Missing => first | k_is | rfl | decide +kernel)
    (case e_InvalidStand_NothingLeft => first | k_is | rfl | decide +kernel)
    (case e_InvalidStore_InvalidDeed => first | k_is | rfl | decide +kernel)
    (case e_InvalidStore_InvalidDeeds => first | k_is | rfl | decide +kernel)
    (case e_InvalidStore_InvalidLog => first | k_is | rfl | decide +kernel)
    (case e_InvalidStore_InvalidStand => first | k_is | rfl | decide +kernel)
    (case e_InvalidStore_InvalidNumber => first | k_is | rfl | decide +kernel)
    (case e_InvalidStore_InvalidCount => first | k_is | rfl | decide +kernel)
    (case e_InvalidStore_InvalidStep => first | k_is | rfl | decide +kernel)
    (case e_InvalidStore_InvalidStore => first | k_is | rfl | decide +kernel)
    (case e_InvalidStore_TooMany => first | k_is | rfl | decide +kernel)
    (case e_InvalidStore_LogError => first | k_is | rfl | decide +kernel)
    (case e_InvalidStore_Missing => first | k_is | rfl | decide +kernel)
    (case e_InvalidStore_NothingLeft => first | k_is | rfl | decide +kernel)
    (case e_TooMany_InvalidDeed => first | k_is | rfl | decide +kernel)
    (case e_TooMany_InvalidDeeds => first | k_is | rfl | decide +kernel)
    (case e_TooMany_InvalidLog => first | k_is | rfl | decide +kernel)
    (case e_TooMany_InvalidStand => first | k_is | rfl | decide +kernel)
    (case e_TooMany_InvalidNumber => first | k_is | rfl | decide +kernel)
    (case e_TooMany_InvalidCount => first | k_is | rfl | decide +kernel)
    (case e_TooMany_InvalidStep => first | k_is | rfl | decide +kernel)
    (case e_TooMany_InvalidStore => first | k_is | rfl | decide +kernel)
    (case e_TooMany_TooMany => first | k_is | rfl | decide +kernel)
    (case e_TooMany_LogError => first | k_is | rfl | decide +kernel)
    (case e_TooMany_Missing => first | k_is | rfl | decide +kernel)
    (case e_TooMany_NothingLeft => first | k_is | rfl | decide +kernel)
    (case mem => first | exact List.mem_cons_self | decide)
    (case mem2 => first | exact List.mem_cons_of_mem _ List.mem_cons_self | decide)
    all_goals first | exact #[] | exact .none | exact 0
