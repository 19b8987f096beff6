import PyProof.Rows.All
import Wide.All
import OpenK.AllK
import Wide.FinOn
import HandS.ForMost
import HandS.ForExc
import HandS.Wide
import HandS.TupAny
import HandS.Style
import HandS.IsInst
import HandS.Deep
import HandS.TupMul
import KE.GoesNew
import KE.GoesMore
import HandS.WordsExc
import HandS.More
import PyProof.ReprRoads
import PyProof.ReprLen
import HandS.Lambda
import KE.KNestM
import HandS.EndBits
import KE.KDictZip
import PyProof.ListNew
import KE.KExcIs
import HandS.Exc
import HandS.ExcIs
import HandS.ExcOwn
import HandS.ExcInit
import PySem.Challenge.RW_everyprice_k47_whole_joint_books_and_net
set_option Elab.async false
set_option linter.all false
set_option maxRecDepth 100000
set_option exponentiation.threshold 500000
namespace DL
open PySem PySem.Spec PyProof.Rows L2
/-- the tables of code objects that are in use -/
class TabC where
  tabs : List (Addr × Str)

/-! data, mutable lists, outcomes -/
/-- an error that a suite holds: where it stands, and its own dict -/
structure ExA where
  pl : Addr
  dx : Option Addr
inductive D where
  | non | bl (b : Bool) | int (i : Int) | str (x : Str) | tup (xs : List D) | vl (xs : List D) | fz (xs : List D) | ref (p : Nat) | dct | exo (a : ExA) (c : Str)
structure Exn where
  cls : Str
  fs : List (Str × D)
inductive DO where
  | lst (xs : List D)
abbrev DS := List DO
abbrev DE := List (Option D)
inductive Ou (α : Type) where
  | ok (a : α) (S : DS) | ex (x : Exn) (S : DS) | no
def Ou.bind {α β : Type} (m : Ou α) (f : α → DS → Ou β) : Ou β := match m with
  | .ok a S => f a S
  | .ex x S => .ex x S
  | .no => .no
@[simp] theorem bind_ok {α β : Type} (a : α) (S : DS) (f : α → DS → Ou β) : (Ou.ok a S).bind f = f a S := (rfl)
@[simp] theorem bind_ex {α β : Type} (x : Exn) (S : DS) (f : α → DS → Ou β) : (Ou.ex x S).bind f = .ex x S := (rfl)
@[simp] theorem bind_no {α β : Type} (f : α → DS → Ou β) : (Ou.no : Ou α).bind f = .no := (rfl)

/-! how data lie in the heap. al: the addresses of the mutable lists, by number; xl: lists under construction -/
/-- the error's own dict lies there -/
def XdAt (al : List Addr) (H : Hp) (d : Option Addr) : Prop := ∀ x, d = some x → (∃ fs, H x = some (.xd fs)) ∧ x ∉ al
theorem XdAt.none {al : List Addr} {H : Hp} : XdAt al H none := fun _ z => nomatch z
mutual
inductive Rep (K : PySem.W.Frag) (xl al : List Addr) (H : Hp) : D → V → Prop where
  | non : Rep K xl al H .non .non
  | bl (b : Bool) : Rep K xl al H (.bl b) (.bl b)
  | int (i : Int) : Rep K xl al H (.int i) (.int i)
  | str (x : Str) : Rep K xl al H (.str x) (.str x)
  | tup {xs : List D} {vs : List V} {a : Addr} : SqT K H a vs → Reps K xl al H xs vs → Rep K xl al H (.tup xs) (.ref a)
  | vl {xs : List D} {vs : List V} {a : Addr} : H a = some (.lst vs) → a ∉ al → a ∉ xl → Reps K xl al H xs vs → Rep K xl al H (.vl xs) (.ref a)
  | fz {xs : List D} {vs : List V} {a : Addr} {o : Obj} : H a = some (.frz o (.lst vs)) → a ∉ al → Reps K xl al H xs vs → Rep K xl al H (.fz xs) (.ref a)
  | fzK {xs : List D} {vs : List V} {a : Addr} {o : Obj} : K.lookup a = some o → o.cls = .type "list" → (∀ H, SqL K H a vs) → Reps K xl al H xs vs → Rep K xl al H (.fz xs) (.ref a)
  | ref {p : Nat} {a : Addr} : al[p]? = some a → Rep K xl al H (.ref p) (.ref a)
  | dct {kvs : List (Key × V)} {a : Addr} : H a = some (.dK kvs) → a ∉ al → Rep K xl al H .dct (.ref a)
  | exo (a : ExA) (c : Str) : XdAt al H a.dx → Rep K xl al H (.exo a c) (.ref a.pl)
inductive Reps (K : PySem.W.Frag) (xl al : List Addr) (H : Hp) : List D → List V → Prop where
  | nil : Reps K xl al H [] []
  | cons {d : D} {v : V} {ds : List D} {vs : List V} : Rep K xl al H d v → Reps K xl al H ds vs → Reps K xl al H (d :: ds) (v :: vs)
end

structure Ext (al : List Addr) (H : Hp) (al' : List Addr) (H' : Hp) : Prop where
  pre : ∃ more, al' = al ++ more
  fr : ∀ a o, a ∉ al → (∀ ps, o ≠ .tbl ps) → H a = some o → H' a = some o
  tup : ∀ a vs, Rd H a (.tup vs) → Rd H' a (.tup vs)
  new : ∀ a o, a ∈ al' → a ∉ al → H a = some o → ∃ ps, o = .tbl ps
theorem Ext.refl (al : List Addr) (H : Hp) : Ext al H al H := ⟨⟨[], by simp⟩, fun _ _ _ _ h => h, fun _ _ h => h, fun _ _ h n _ => absurd h n⟩
theorem isTbl (o : HO) : (∃ ps, o = .tbl ps) ∨ ∀ ps, o ≠ .tbl ps := by
  cases o <;> first | exact .inl ⟨_, rfl⟩ | exact .inr fun _ z => nomatch z
theorem Ext.trans {al al1 al2 : List Addr} {H H1 H2 : Hp} (e : Ext al H al1 H1) (f : Ext al1 H1 al2 H2) : Ext al H al2 H2 := by
  have nin : ∀ a o, a ∉ al → (∀ ps, o ≠ .tbl ps) → H a = some o → a ∉ al1 := fun a o n t h h1 => by
    obtain ⟨ps, z⟩ := e.new a o h1 n h
    exact t ps z
  refine ⟨?_, fun a o n t h => f.fr a o (nin a o n t h) t (e.fr a o n t h), fun a vs h => f.tup a vs (e.tup a vs h), fun a o h n q => ?_⟩
  · obtain ⟨m1, e1⟩ := e.pre
    obtain ⟨m2, e2⟩ := f.pre
    exact ⟨m1 ++ m2, by rw [e2, e1, List.append_assoc]⟩
  · rcases isTbl o with t | t
    · exact t
    · exact f.new a o h (nin a o n t q) (e.fr a o n t q)
theorem nt_lst (vs : List V) : ∀ ps, HO.lst vs ≠ .tbl ps := fun _ z => nomatch z
theorem nt_frz (o : Obj) (u : HO) : ∀ ps, HO.frz o u ≠ .tbl ps := fun _ z => nomatch z
theorem nt_xd (fs : List (Str × V)) : ∀ ps, HO.xd fs ≠ .tbl ps := fun _ z => nomatch z
theorem nt_dK (kvs : List (Key × V)) : ∀ ps, HO.dK kvs ≠ .tbl ps := fun _ z => nomatch z
theorem Ext.frL {al al' : List Addr} {H H' : Hp} (e : Ext al H al' H') {a : Addr} {vs : List V} (n : a ∉ al) (h : H a = some (.lst vs)) : H' a = some (.lst vs) := e.fr _ _ n (nt_lst vs) h
theorem Ext.get {al al' : List Addr} {H H' : Hp} (e : Ext al H al' H') {p : Nat} {a : Addr} (h : al[p]? = some a) : al'[p]? = some a := by
  obtain ⟨m, rfl⟩ := e.pre
  have hl : p < al.length := by
    by_cases hl : p < al.length
    · exact hl
    · rw [List.getElem?_eq_none (by omega)] at h; cases h
  rw [List.getElem?_append_left hl]
  exact h
theorem rd_some {H : Hp} {a : Addr} {u : HO} (h : Rd H a u) : ∃ o, H a = some o := by
  rcases h with h | ⟨o, h⟩
  · exact ⟨_, h⟩
  · exact ⟨_, h⟩

section
variable {K : PySem.W.Frag} {xl xl' al al' : List Addr} {H H' : Hp}
theorem Ext.sqt (e : Ext al H al' H') {a : Addr} {vs : List V} (h : SqT K H a vs) : SqT K H' a vs := by
  rcases h with h | h
  · exact .inl (e.tup a vs h)
  · exact .inr h
theorem Ext.rd (e : Ext al H al' H') {a : Addr} {u : HO} (n : a ∉ al) (h : Rd H a u) (t : ∀ ps, u ≠ .tbl ps := by intro _ z; cases z) : Rd H' a u := by
  rcases h with h | ⟨o, h⟩
  · exact .inl (e.fr _ _ n t h)
  · exact .inr ⟨o, e.fr _ _ n (fun _ z => nomatch z) h⟩
theorem Ext.nin (e : Ext al H al' H') {a : Addr} {u : HO} (n : a ∉ al) (h : H a = some u) (t : ∀ ps, u ≠ .tbl ps := by intro _ z; cases z) : a ∉ al' := fun m => by
  obtain ⟨ps, z⟩ := e.new a u m n h
  exact t ps z
mutual
theorem Rep.mono (e : Ext al H al' H') : ∀ {d : D} {v : V}, Rep K xl al H d v → Rep K xl al' H' d v
  | _, _, .non => .non
  | _, _, .bl b => .bl b
  | _, _, .int i => .int i
  | _, _, .str x => .str x
  | _, _, .tup h r => .tup (e.sqt h) (r.mono e)
  | _, _, .vl h n n' r => .vl (e.frL n h) (e.nin n h (nt_lst _)) n' (r.mono e)
  | _, _, .fz h n r => .fz (e.fr _ _ n (nt_frz _ _) h) (e.nin n h (nt_frz _ _)) (r.mono e)
  | _, _, .fzK k c h r => .fzK k c h (r.mono e)
  | _, _, .ref h => .ref (e.get h)
  | _, _, .dct h n => .dct (e.fr _ _ n (nt_dK _) h) (e.nin n h (nt_dK _))
  | _, _, .exo a c h => .exo a c fun x z => ⟨(h x z).1.elim fun fs q => ⟨fs, e.fr _ _ (h x z).2 (nt_xd _) q⟩, (h x z).1.elim fun fs q => e.nin (h x z).2 q (nt_xd _)⟩
theorem Reps.mono (e : Ext al H al' H') : ∀ {ds : List D} {vs : List V}, Reps K xl al H ds vs → Reps K xl al' H' ds vs
  | _, _, .nil => .nil
  | _, _, .cons h r => .cons (h.mono e) (r.mono e)
end
mutual
/-- fewer lists under construction -/
theorem Rep.less (s : ∀ a, a ∈ xl' → a ∈ xl) : ∀ {d : D} {v : V}, Rep K xl al H d v → Rep K xl' al H d v
  | _, _, .non => .non
  | _, _, .bl b => .bl b
  | _, _, .int i => .int i
  | _, _, .str x => .str x
  | _, _, .tup h r => .tup h (r.less s)
  | _, _, .vl h n n' r => .vl h n (fun m => n' (s _ m)) (r.less s)
  | _, _, .fz h n r => .fz h n (r.less s)
  | _, _, .fzK k c h r => .fzK k c h (r.less s)
  | _, _, .ref h => .ref h
  | _, _, .dct h n => .dct h n
  | _, _, .exo a c h => .exo a c h
theorem Reps.less (s : ∀ a, a ∈ xl' → a ∈ xl) : ∀ {ds : List D} {vs : List V}, Reps K xl al H ds vs → Reps K xl' al H ds vs
  | _, _, .nil => .nil
  | _, _, .cons h r => .cons (h.less s) (r.less s)
end
mutual
/-- a new list under construction: no data speak of it -/
theorem Rep.more {q : Addr} (hq : H q = none) : ∀ {d : D} {v : V}, Rep K xl al H d v → Rep K (q :: xl) al H d v
  | _, _, .non => .non
  | _, _, .bl b => .bl b
  | _, _, .int i => .int i
  | _, _, .str x => .str x
  | _, _, .tup h r => .tup h (r.more hq)
  | _, _, .vl h n n' r => .vl h n (fun m => by
      rcases List.mem_cons.mp m with e | m
      · subst e
        rw [hq] at h; cases h
      · exact n' m) (r.more hq)
  | _, _, .fz h n r => .fz h n (r.more hq)
  | _, _, .fzK k c h r => .fzK k c h (r.more hq)
  | _, _, .ref h => .ref h
  | _, _, .dct h n => .dct h n
  | _, _, .exo a c h => .exo a c h
theorem Reps.more {q : Addr} (hq : H q = none) : ∀ {ds : List D} {vs : List V}, Reps K xl al H ds vs → Reps K (q :: xl) al H ds vs
  | _, _, .nil => .nil
  | _, _, .cons h r => .cons (h.more hq) (r.more hq)
end
mutual
/-- the list under construction at q has grown -/
theorem Rep.atx {q : Addr} {us us' : List V} (hq : H q = some (.lst us)) (hm : q ∈ xl) : ∀ {d : D} {v : V}, Rep K xl al H d v → Rep K xl al (upd H q (.lst us')) d v
  | _, _, .non => .non
  | _, _, .bl b => .bl b
  | _, _, .int i => .int i
  | _, _, .str x => .str x
  | _, _, .tup (a := a) (vs := vs) h r => .tup (by
      rcases h with h | h
      · refine .inl ?_
        rcases h with h | ⟨o, h⟩
        · exact .inl (by rw [upd_ne (ne_of h hq (by intro z; cases z))]; exact h)
        · exact .inr ⟨o, by rw [upd_ne (ne_of h hq (by intro z; cases z))]; exact h⟩
      · exact .inr h) (r.atx hq hm)
  | _, _, .vl (a := a) h n n' r => .vl (by
      have ne : a ≠ q := fun e => n' (e ▸ hm)
      rw [upd_ne ne]; exact h) n n' (r.atx hq hm)
  | _, _, .fz (a := a) h n r => .fz (by rw [upd_ne (ne_of h hq (by intro z; cases z))]; exact h) n (r.atx hq hm)
  | _, _, .fzK k c h r => .fzK k c h (r.atx hq hm)
  | _, _, .ref h => .ref h
  | _, _, .dct h n => .dct (by rw [upd_ne (ne_of h hq (by intro z; cases z))]; exact h) n
  | _, _, .exo a c h => .exo a c fun x z => ⟨(h x z).1.elim fun fs q => ⟨fs, by rw [upd_ne (ne_of q hq (by intro z; cases z))]; exact q⟩, (h x z).2⟩
theorem Reps.atx {q : Addr} {us us' : List V} (hq : H q = some (.lst us)) (hm : q ∈ xl) : ∀ {ds : List D} {vs : List V}, Reps K xl al H ds vs → Reps K xl al (upd H q (.lst us')) ds vs
  | _, _, .nil => .nil
  | _, _, .cons h r => .cons (h.atx hq hm) (r.atx hq hm)
end
theorem Reps.length : ∀ {ds : List D} {vs : List V}, Reps K xl al H ds vs → ds.length = vs.length
  | _, _, .nil => rfl
  | _, _, .cons _ r => by rw [List.length_cons, List.length_cons, r.length]
theorem Reps.get : ∀ {ds : List D} {vs : List V} {i : Nat} {d : D}, Reps K xl al H ds vs → ds[i]? = some d → ∃ v, vs[i]? = some v ∧ Rep K xl al H d v
  | _, _, _, _, .nil, e => by simp at e
  | _, _, 0, _, .cons h _, e => by
    simp at e; subst e
    exact ⟨_, rfl, h⟩
  | _, _, i + 1, _, .cons _ r, e => by
    obtain ⟨v, h1, h2⟩ := r.get (i := i) (by simpa using e)
    exact ⟨v, by simpa using h1, h2⟩
theorem Reps.getV : ∀ {ds : List D} {vs : List V} {i : Nat} {v : V}, Reps K xl al H ds vs → vs[i]? = some v → ∃ d, ds[i]? = some d ∧ Rep K xl al H d v
  | _, _, _, _, .nil, e => by simp at e
  | _, _, 0, _, .cons h _, e => by
    simp at e; subst e
    exact ⟨_, rfl, h⟩
  | _, _, i + 1, _, .cons _ r, e => by
    obtain ⟨v, h1, h2⟩ := r.getV (i := i) (by simpa using e)
    exact ⟨v, by simpa using h1, h2⟩
theorem Reps.append : ∀ {ds es : List D} {vs ws : List V}, Reps K xl al H ds vs → Reps K xl al H es ws → Reps K xl al H (ds ++ es) (vs ++ ws)
  | _, _, _, _, .nil, s => s
  | _, _, _, _, .cons h r, s => .cons h (r.append s)
theorem Reps.set {d : D} {v : V} (h : Rep K xl al H d v) : ∀ {ds : List D} {vs : List V} (i : Nat), Reps K xl al H ds vs → Reps K xl al H (ds.set i d) (vs.set i v)
  | _, _, _, .nil => .nil
  | _, _, 0, .cons _ r => .cons h r
  | _, _, i + 1, .cons q r => .cons q (r.set h i)
theorem Reps.take : ∀ {ds : List D} {vs : List V} (n : Nat), Reps K xl al H ds vs → Reps K xl al H (ds.take n) (vs.take n)
  | _, _, 0, _ => .nil
  | _, _, _ + 1, .nil => .nil
  | _, _, n + 1, .cons h r => .cons h (r.take n)
theorem Reps.drop : ∀ {ds : List D} {vs : List V} (n : Nat), Reps K xl al H ds vs → Reps K xl al H (ds.drop n) (vs.drop n)
  | _, _, 0, r => r
  | _, _, _ + 1, .nil => .nil
  | _, _, n + 1, .cons h r => r.drop n
theorem Reps.reverse : ∀ {ds : List D} {vs : List V}, Reps K xl al H ds vs → Reps K xl al H ds.reverse vs.reverse
  | _, _, .nil => .nil
  | _, _, .cons h r => by
    rw [List.reverse_cons, List.reverse_cons]
    exact r.reverse.append (.cons h .nil)

variable [TabC]
/-- the state lies in the heap -/
structure Wd (K : PySem.W.Frag) (xl : List Addr) (S : DS) (al : List Addr) (H : Hp) : Prop where
  nd : al.Nodup
  len : al.length = S.length
  ob : ∀ (p : Nat) (xs : List D), S[p]? = some (DO.lst xs) → ∃ a vs, al[p]? = some a ∧ H a = some (.lst vs) ∧ Reps K xl al H xs vs
  xs : ∀ a, a ∈ xl → a ∉ al ∧ ∃ vs, H a = some (.lst vs)
  tb : LamX.Tabs TabC.tabs H
theorem Wd.at {S : DS} (w : Wd K xl S al H) {a : Addr} (h : a ∈ al) : ∃ (p : Nat) (vs : List V), al[p]? = some a ∧ H a = some (.lst vs) := by
  obtain ⟨p, hp, e⟩ := List.mem_iff_getElem.mp h
  have hS : p < S.length := by rw [← w.len]; exact hp
  have e' : al[p]? = some a := by rw [List.getElem?_eq_getElem hp, e]
  obtain ⟨xs, ex⟩ : ∃ xs, S[p]? = some (DO.lst xs) := by
    rw [List.getElem?_eq_getElem hS]
    cases S[p] with
    | lst xs => exact ⟨xs, rfl⟩
  obtain ⟨a', vs, h1, h2, _⟩ := w.ob p xs ex
  rw [e'] at h1; cases h1
  exact ⟨p, vs, e', h2⟩
theorem Wd.new {S : DS} (w : Wd K xl S al H) {p : Addr} (hp : H p = none) : p ∉ al ∧ p ∉ xl := by
  refine ⟨fun h => ?_, fun h => ?_⟩
  · obtain ⟨_, _, _, e⟩ := w.at h
    rw [hp] at e; cases e
  · obtain ⟨_, vs, e⟩ := w.xs p h
    rw [hp] at e; cases e
theorem ext_new {p : Addr} {o : HO} (hp : H p = none) : Ext al H al (upd H p o) := by
  refine ⟨⟨[], by simp⟩, fun a o' _ _ h => ?_, fun a vs h => ?_, fun a _ h n _ => absurd h n⟩
  · rw [upd_ne (ne_of_none h hp)]; exact h
  · rcases h with h | ⟨o', h⟩
    · exact .inl (by rw [upd_ne (ne_of_none h hp)]; exact h)
    · exact .inr ⟨o', by rw [upd_ne (ne_of_none h hp)]; exact h⟩
theorem tabs_new {p : Addr} {o : HO} (t : LamX.Tabs TabC.tabs H) (hp : H p = none) : LamX.Tabs TabC.tabs (upd H p o) := t.ext fun b o e => by rw [upd_ne (ne_of_none e hp)]; exact e
theorem tabs_write {a : Addr} {vs ws : List V} (t : LamX.Tabs TabC.tabs H) (h : H a = some (.lst vs)) : LamX.Tabs TabC.tabs (upd H a (.lst ws)) := fun p hp => by
  obtain ⟨ps, h1, h2, h3⟩ := t p hp
  refine ⟨ps, by rw [upd_ne (ne_of h1 h (by intro z; cases z))]; exact h1, h2, fun pos cv hc => ?_⟩
  obtain ⟨c, e1, e2⟩ := h3 pos cv hc
  exact ⟨c, e1, by rw [upd_ne (ne_of e2 h (by intro z; unfold LamX.CodeO at z; cases z))]; exact e2⟩
/-- the lists as they stood -/
theorem Wd.keep {S : DS} (w : Wd K xl S al H) (e : Ext al H al H') (k : ∀ a, a ∈ al → H' a = H a) (t : LamX.Tabs TabC.tabs H') : Wd K xl S al H' := by
  refine ⟨w.nd, w.len, fun p xs h => ?_, fun a h => ⟨(w.xs a h).1, ?_⟩, t⟩
  · obtain ⟨a, vs, h1, h2, h3⟩ := w.ob p xs h
    exact ⟨a, vs, h1, by rw [k a (List.mem_of_getElem? h1)]; exact h2, h3.mono e⟩
  · obtain ⟨h1, vs, h2⟩ := w.xs a h
    exact ⟨vs, e.fr a _ h1 (fun _ z => nomatch z) h2⟩
theorem Wd.put {S : DS} {p : Addr} {o : HO} (w : Wd K xl S al H) (hp : H p = none) : Wd K xl S al (upd H p o) :=
  w.keep (ext_new hp) (fun a h => upd_ne fun e => (w.new hp).1 (e ▸ h)) (tabs_new w.tb hp)
theorem Rep.newTup {S : DS} {p : Addr} {xs : List D} {vs : List V} (hp : H p = none) (r : Reps K xl al H xs vs) : Rep K xl al (upd H p (.tup vs)) (.tup xs) (.ref p) :=
  .tup (.inl (.inl upd_same)) (r.mono (ext_new hp))
theorem Rep.newLst {S : DS} {p : Addr} {xs : List D} {vs : List V} (w : Wd K xl S al H) (hp : H p = none) (r : Reps K xl al H xs vs) : Rep K xl al (upd H p (.lst vs)) (.vl xs) (.ref p) :=
  .vl upd_same (w.new hp).1 (w.new hp).2 (r.mono (ext_new hp))
theorem ext_ref {S : DS} {p : Addr} {o : HO} (w : Wd K xl S al H) (hp : H p = none) : Ext al H (al ++ [p]) (upd H p o) := by
  refine ⟨⟨[p], rfl⟩, fun a o' _ _ h => ?_, fun a vs h => ?_, fun a o' h n q => ?_⟩
  · rw [upd_ne (ne_of_none h hp)]; exact h
  · rcases h with h | ⟨o', h⟩
    · exact .inl (by rw [upd_ne (ne_of_none h hp)]; exact h)
    · exact .inr ⟨o', by rw [upd_ne (ne_of_none h hp)]; exact h⟩
  · rcases List.mem_append.mp h with h | h
    · exact absurd h n
    · rw [List.mem_singleton.mp h, hp] at q; cases q
theorem Wd.addRef {S : DS} {p : Addr} {xs : List D} {vs : List V} (w : Wd K xl S al H) (hp : H p = none) (r : Reps K xl al H xs vs) : Wd K xl (S ++ [.lst xs]) (al ++ [p]) (upd H p (.lst vs)) := by
  have e := ext_ref (o := .lst vs) w hp
  obtain ⟨n1, n2⟩ := w.new hp
  refine ⟨?_, by simp [w.len], fun q ys h => ?_, fun a h => ?_, tabs_new w.tb hp⟩
  · rw [List.nodup_append]
    exact ⟨w.nd, by simp, fun a ha b hb z => by rw [List.mem_singleton.mp hb] at z; exact n1 (z ▸ ha)⟩
  · by_cases hq : q < S.length
    · rw [List.getElem?_append_left hq] at h
      obtain ⟨a, ws, h1, h2, h3⟩ := w.ob q ys h
      refine ⟨a, ws, e.get h1, ?_, h3.mono e⟩
      rw [upd_ne (ne_of_none h2 hp)]; exact h2
    · have hq2 : q = S.length := by
        by_cases z : q < (S ++ [DO.lst xs]).length
        · simp at z; omega
        · rw [List.getElem?_eq_none (by omega)] at h; cases h
      subst hq2
      rw [List.getElem?_append_right (Nat.le_refl _), Nat.sub_self] at h
      simp at h; subst h
      refine ⟨p, vs, ?_, upd_same, r.mono e⟩
      rw [← w.len, List.getElem?_append_right (Nat.le_refl _), Nat.sub_self]; rfl
  · obtain ⟨h1, h2⟩ := w.xs a h
    refine ⟨fun z => ?_, ?_⟩
    · rcases List.mem_append.mp z with z | z
      · exact h1 z
      · rw [List.mem_singleton.mp z] at h; exact n2 h
    · unfold upd
      split
      · exact ⟨_, rfl⟩
      · exact h2
theorem ext_write {a : Addr} {vs ws : List V} (ha : a ∈ al) (h : H a = some (.lst vs)) : Ext al H al (upd H a (.lst ws)) := by
  refine ⟨⟨[], by simp⟩, fun b o n _ q => ?_, fun b us q => ?_, fun b _ h n _ => absurd h n⟩
  · rw [upd_ne (show b ≠ a from fun e => n (e ▸ ha))]; exact q
  · rcases q with q | ⟨o, q⟩
    · exact .inl (by rw [upd_ne (ne_of q h (by intro z; cases z))]; exact q)
    · exact .inr ⟨o, by rw [upd_ne (ne_of q h (by intro z; cases z))]; exact q⟩
theorem Wd.write {S : DS} {p : Nat} {a : Addr} {xs ys : List D} {vs ws : List V} (w : Wd K xl S al H) (hS : S[p]? = some (DO.lst xs)) (ha : al[p]? = some a) (h : H a = some (.lst vs)) (r : Reps K xl al H ys ws) :
    Wd K xl (S.set p (.lst ys)) al (upd H a (.lst ws)) := by
  have e : Ext al H al (upd H a (.lst ws)) := ext_write (List.mem_of_getElem? ha) h
  refine ⟨w.nd, by simp [w.len], fun q zs hz => ?_, fun b hb => ?_, tabs_write w.tb h⟩
  · by_cases hq : q = p
    · subst hq
      have : q < S.length := by
        by_cases z : q < S.length
        · exact z
        · rw [List.getElem?_eq_none (by omega)] at hS; cases hS
      rw [List.getElem?_set_self this] at hz
      cases hz
      exact ⟨a, ws, ha, upd_same, r.mono e⟩
    · rw [List.getElem?_set_ne (Ne.symm hq)] at hz
      obtain ⟨b, us, h1, h2, h3⟩ := w.ob q zs hz
      refine ⟨b, us, h1, ?_, h3.mono e⟩
      rw [upd_ne (show b ≠ a from fun z => hq (nd_ix w.nd h1 (z ▸ ha)))]; exact h2
  · obtain ⟨h1, h2⟩ := w.xs b hb
    refine ⟨h1, ?_⟩
    unfold upd
    split
    · exact ⟨_, rfl⟩
    · exact h2
theorem Wd.list {S : DS} {p : Nat} {xs : List D} (w : Wd K xl S al H) (h : S[p]? = some (DO.lst xs)) : ∃ a vs, al[p]? = some a ∧ H a = some (.lst vs) ∧ Reps K xl al H xs vs := w.ob p xs h
end

/-! the slots -/
structure EnvR (K : PySem.W.Frag) (xl al : List Addr) (H : Hp) (env : DE) (σ : L2.St) : Prop where
  len : env.length = σ.length
  at' : ∀ (i : Nat) d, env[i]? = some (some d) → ∃ v, σ[i]? = some (some v) ∧ Rep K xl al H d v
section
variable {K : PySem.W.Frag} {xl xl' al al' : List Addr} {H H' : Hp} {env : DE} {σ : L2.St}
theorem EnvR.mono (r : EnvR K xl al H env σ) (e : Ext al H al' H') : EnvR K xl al' H' env σ := ⟨r.len, fun i d h => by
  obtain ⟨v, h1, h2⟩ := r.at' i d h
  exact ⟨v, h1, h2.mono e⟩⟩
theorem EnvR.less (r : EnvR K xl al H env σ) (s : ∀ a, a ∈ xl' → a ∈ xl) : EnvR K xl' al H env σ := ⟨r.len, fun i d h => by
  obtain ⟨v, h1, h2⟩ := r.at' i d h
  exact ⟨v, h1, h2.less s⟩⟩
theorem EnvR.more {q : Addr} (hq : H q = none) (r : EnvR K xl al H env σ) : EnvR K (q :: xl) al H env σ := ⟨r.len, fun i d h => by
  obtain ⟨v, h1, h2⟩ := r.at' i d h
  exact ⟨v, h1, h2.more hq⟩⟩
theorem EnvR.atx {q : Addr} {us us' : List V} (hq : H q = some (.lst us)) (hm : q ∈ xl) (r : EnvR K xl al H env σ) : EnvR K xl al (upd H q (.lst us')) env σ := ⟨r.len, fun i d h => by
  obtain ⟨v, h1, h2⟩ := r.at' i d h
  exact ⟨v, h1, h2.atx hq hm⟩⟩
theorem EnvR.set {d : D} {v : V} (r : EnvR K xl al H env σ) (h : Rep K xl al H d v) (i : Nat) : EnvR K xl al H (env.set i (some d)) (σ.set i (some v)) := by
  refine ⟨by rw [List.length_set, List.length_set, r.len], fun j e h1 => ?_⟩
  by_cases hj : j = i
  · subst hj
    by_cases hl : j < env.length
    · rw [List.getElem?_set_self hl] at h1
      cases h1
      exact ⟨v, by rw [List.getElem?_set_self (by rw [← r.len]; exact hl)], h⟩
    · rw [List.getElem?_eq_none (by rw [List.length_set]; omega)] at h1; cases h1
  · rw [List.getElem?_set_ne (Ne.symm hj)] at h1
    obtain ⟨w, h2, h3⟩ := r.at' j e h1
    exact ⟨w, by rw [List.getElem?_set_ne (Ne.symm hj)]; exact h2, h3⟩
theorem EnvR.wipe (r : EnvR K xl al H env σ) (i : Nat) : EnvR K xl al H (env.set i none) (σ.set i none) := by
  refine ⟨by rw [List.length_set, List.length_set, r.len], fun j e h1 => ?_⟩
  by_cases hj : j = i
  · subst hj
    by_cases hl : j < env.length
    · rw [List.getElem?_set_self hl] at h1
      cases h1
    · rw [List.getElem?_eq_none (by rw [List.length_set]; omega)] at h1; cases h1
  · rw [List.getElem?_set_ne (Ne.symm hj)] at h1
    obtain ⟨w, h2, h3⟩ := r.at' j e h1
    exact ⟨w, by rw [List.getElem?_set_ne (Ne.symm hj)]; exact h2, h3⟩
end
end DL

namespace DL
open PySem PySem.Spec PyProof.Rows L2
variable [TabC]

abbrev ME := DE → DS → Ou D
abbrev MT := DE → DS → Ou Bool
abbrev MA := DE → DS → Ou (List D)
inductive Fl where
  | nx | rt (d : D) | bk | ct | xc (x : Exn)
abbrev MS := DE → DS → Ou (Fl × DE)
abbrev MG := D → DE → DS → Ou DE
abbrev MI := DE → DS → Ou (List D)
abbrev CM := Str → Option Addr
abbrev WH := Value → Option Addr → Hp → Prop

def XRep (K : PySem.W.Frag) (cm : CM) (xl al : List Addr) (H : Hp) (x : Exn) (cls : Value) (dx : Option Addr) : Prop :=
  (∃ C, cm x.cls = some C ∧ cls = .ref C) ∧ XdAt al H dx

/-- what is wanted of an outcome -/
def Post (K : PySem.W.Frag) (cm : CM) (xl : List Addr) (W : WH) {α : Type} (R : α → DS → List Addr → Hp → Prop) (o : Ou α) (al : List Addr) (H : Hp) : Prop :=
  match o with
  | .ok a S' => ∀ al' H', Ext al H al' H' → Wd K xl S' al' H' → R a S' al' H'
  | .ex x S' => ∀ al' H' cls dx, Ext al H al' H' → Wd K xl S' al' H' → XRep K cm xl al' H' x cls dx → W cls dx H'
  | .no => False
section
variable {K : PySem.W.Frag} {cm : CM} {xl : List Addr} {W : WH} {α β : Type}
theorem Post.mono {R : α → DS → List Addr → Hp → Prop} {o : Ou α} {al al1 : List Addr} {H H1 : Hp} (e : Ext al H al1 H1) (h : Post K cm xl W R o al H) : Post K cm xl W R o al1 H1 := by
  cases o with
  | ok a S => exact fun al' H' e' w => h al' H' (e.trans e') w
  | ex x S => exact fun al' H' cls dx e' w z => h al' H' cls dx (e.trans e') w z
  | no => exact h
theorem Post.imp {R R' : α → DS → List Addr → Hp → Prop} {o : Ou α} {al : List Addr} {H : Hp} (h : Post K cm xl W R o al H)
    (i : ∀ a S' al' H', Ext al H al' H' → Wd K xl S' al' H' → R a S' al' H' → R' a S' al' H') : Post K cm xl W R' o al H := by
  cases o with
  | ok a S => exact fun al' H' e w => i a S al' H' e w (h al' H' e w)
  | ex x S => exact h
  | no => exact h
theorem Post.bind {R : β → DS → List Addr → Hp → Prop} {o : Ou α} {f : α → DS → Ou β} {al : List Addr} {H : Hp} (h : Post K cm xl W R (o.bind f) al H) :
    Post K cm xl W (fun a S1 al1 H1 => Post K cm xl W R (f a S1) al1 H1) o al H := by
  cases o with
  | ok a S => exact fun al' H' e _ => Post.mono e h
  | ex x S => exact h
  | no => exact h
theorem Post.here {R : α → DS → List Addr → Hp → Prop} {a : α} {S : DS} {al : List Addr} {H : Hp} (w : Wd K xl S al H) (h : Post K cm xl W R (.ok a S) al H) : R a S al H := h al H (Ext.refl _ _) w
end

abbrev RE (K : PySem.W.Frag) (xl : List Addr) (Q : VK) : D → DS → List Addr → Hp → Prop := fun d _ al' H' => ∀ v, Rep K xl al' H' d v → Q v H'
abbrev RT (Q : Bool → Hp → Prop) : Bool → DS → List Addr → Hp → Prop := fun b _ _ H' => Q b H'
abbrev RA (K : PySem.W.Frag) (xl : List Addr) (Q : List V → Hp → Prop) : List D → DS → List Addr → Hp → Prop := fun ds _ al' H' => ∀ vs, Reps K xl al' H' ds vs → Q vs H'
abbrev RG (K : PySem.W.Frag) (xl : List Addr) (Q : L2.St → Hp → Prop) : DE → DS → List Addr → Hp → Prop := fun env' _ al' H' => ∀ σ', EnvR K xl al' H' env' σ' → Q σ' H'
abbrev noW : WH := fun _ _ _ => False
def RS (K : PySem.W.Frag) (cm : CM) (xl : List Addr) (W : WX) (D0 : Ends) : Fl × DE → DS → List Addr → Hp → Prop := fun r _ al' H' => ∀ σ', EnvR K xl al' H' r.2 σ' → match r.1 with
  | .xc x => ∀ cls dx, XRep K cm xl al' H' x cls dx → W cls dx σ' H'
  | .nx => D0.nx σ' H'
  | .rt d => ∀ v, Rep K xl al' H' d v → D0.rt v H'
  | .bk => D0.bk σ' H'
  | .ct => D0.ct σ' H'

theorem Post.hereT {K : PySem.W.Frag} {cm : CM} {xl : List Addr} {W : WH} {Q : Bool → Hp → Prop} {b : Bool} {S : DS} {al : List Addr} {H : Hp} (w : Wd K xl S al H) (h : Post K cm xl W (RT Q) (.ok b S) al H) : Q b H := h al H (Ext.refl _ _) w
/-! a reading told by a function -/
def DenE (K : PySem.W.Frag) (cm : CM) (W : WX) (t : TE) (m : ME) : Prop := ∀ xl al σ H S env (Q : VK), Wd K xl S al H → EnvR K xl al H env σ → Post K cm xl (fun c d H' => W c d σ H') (RE K xl Q) (m env S) al H → t σ H Q
def DenT (K : PySem.W.Frag) (cm : CM) (W : WX) (t : TT) (m : MT) : Prop := ∀ xl al σ H S env (Q : Bool → Hp → Prop), Wd K xl S al H → EnvR K xl al H env σ → Post K cm xl (fun c d H' => W c d σ H') (RT Q) (m env S) al H → t σ H Q
def DenA (K : PySem.W.Frag) (cm : CM) (W : WX) (t : TA) (m : MA) : Prop := ∀ xl al σ H S env (Q : List V → Hp → Prop), Wd K xl S al H → EnvR K xl al H env σ → Post K cm xl (fun c d H' => W c d σ H') (RA K xl Q) (m env S) al H → t σ H Q
def DenG (K : PySem.W.Frag) (cm : CM) (t : TG) (m : MG) : Prop := ∀ xl al σ H S env d v (Q : L2.St → Hp → Prop), Wd K xl S al H → EnvR K xl al H env σ → Rep K xl al H d v → Post K cm xl noW (RG K xl Q) (m d env S) al H → t v σ H Q
def DenS (K : PySem.W.Frag) (cm : CM) (W : WX) (t : TS) (m : MS) : Prop := ∀ xl al σ H S env (D0 : Ends), Wd K xl S al H → EnvR K xl al H env σ →
  Post K cm xl noW (RS K cm xl W D0) (m env S) al H → t D0 σ H

def EOk (X : Cx) (cm : CM) (W : WX) (e : Expr) (m : ME) : Prop := ∃ t, PE X e t ∧ DenE X.K cm W t m
def TOk (X : Cx) (cm : CM) (W : WX) (e : Expr) (m : MT) : Prop := ∃ t, PT X e t ∧ DenT X.K cm W t m
def AOk (X : Cx) (cm : CM) (W : WX) (es : List Expr) (m : MA) : Prop := ∃ t, PA X es t ∧ DenA X.K cm W t m
def GOk (X : Cx) (cm : CM) (e : Expr) (m : MG) : Prop := ∃ t, PG X e t ∧ DenG X.K cm t m
def SOk (X : Cx) (cm : CM) (W : WX) (st : Stmt) (m : MS) : Prop := ∃ t, PS X st t ∧ DenS X.K cm W t m
def SsOk (X : Cx) (cm : CM) (W : WX) (sts : List Stmt) (m : MS) : Prop := ∃ t, PSs X sts t ∧ DenS X.K cm W t m
end DL

namespace DL
open PySem PySem.Spec PyProof.Rows L2
variable [TabC]

/-! combinators -/
def mC (d : D) : ME := fun _ S => .ok d S
def mV (i : Nat) : ME := fun env S => match env[i]? with
  | some (some d) => .ok d S
  | _ => .no
def m1 (f : D → DS → Ou D) (a : ME) : ME := fun env S => (a env S).bind f
def m2 (f : D → D → DS → Ou D) (a b : ME) : ME := fun env S => (a env S).bind fun x S1 => (b env S1).bind fun y S2 => f x y S2
def maN : MA := fun _ S => .ok [] S
def maC (a : ME) (r : MA) : MA := fun env S => (a env S).bind fun x S1 => (r env S1).bind fun xs S2 => .ok (x :: xs) S2
def mL (f : List D → DS → Ou D) (a : MA) : ME := fun env S => (a env S).bind f
def mT (a : ME) : MT := fun env S => (a env S).bind fun d S1 => match d with
  | .bl b => .ok b S1
  | _ => .no
def mAnd (a b : MT) : MT := fun env S => (a env S).bind fun c S1 => if c = true then b env S1 else .ok false S1
def mOr (a b : MT) : MT := fun env S => (a env S).bind fun c S1 => if c = true then .ok true S1 else b env S1
def mNot (a : MT) : MT := fun env S => (a env S).bind fun c S1 => .ok (!c) S1
def mAndV (a b : ME) : ME := fun env S => (a env S).bind fun d S1 => match d with
  | .bl c => if c = true then b env S1 else .ok (.bl false) S1
  | _ => .no
def mOrV (a b : ME) : ME := fun env S => (a env S).bind fun d S1 => match d with
  | .bl c => if c = true then .ok (.bl true) S1 else b env S1
  | _ => .no
def mNotV (a : ME) : ME := fun env S => (a env S).bind fun d S1 => match d with
  | .bl c => .ok (.bl (!c)) S1
  | _ => .no
def mIf (c : MT) (a b : ME) : ME := fun env S => (c env S).bind fun k S1 => if k = true then a env S1 else b env S1
def mChain (f g : D → D → DS → Ou D) (a b c : ME) : ME := fun env S => (a env S).bind fun x S1 => (b env S1).bind fun y S2 => (f x y S2).bind fun k S3 => match k with
  | .bl k => if k = true then (c env S3).bind fun z S4 => g y z S4 else .ok (.bl false) S3
  | _ => .no

section
variable {X : Cx} {cm : CM} {W : WX} {a b c e : Expr} {es : List Expr} {ma mb mc : ME} {pos : Pos}

/-! names, constants -/
theorem e_int {i : Int} {j : Nat} : EOk X cm W (.Constant (.int i) j pos) (mC (.int i)) := ⟨_, pe_int, fun xl al σ H S env Q w _ p => p.here w _ (.int i)⟩
theorem e_bl {i : Bool} {j : Nat} : EOk X cm W (.Constant (.bool i) j pos) (mC (.bl i)) := ⟨_, pe_bl, fun xl al σ H S env Q w _ p => p.here w _ (.bl i)⟩
theorem e_non {j : Nat} : EOk X cm W (.Constant .none j pos) (mC .non) := ⟨_, pe_non, fun xl al σ H S env Q w _ p => p.here w _ .non⟩
theorem e_str {x : Str} {j : Nat} : EOk X cm W (.Constant (.str x) j pos) (mC (.str x)) := ⟨_, pe_str, fun xl al σ H S env Q w _ p => p.here w _ (.str x)⟩
theorem e_var (i : Nat) {x : Str} (hN : X.N[i]? = some x := by rfl) (hv : Vis X.env.scope x := by first | exact Or.inl rfl | exact Or.inr (Or.inl rfl) | exact Or.inr (Or.inr rfl)) (hd : (x == ("__debug__" : Str)) = false := by decide)
    (hcd : (x == ("__classdict__" : Str)) = false := by decide) : EOk X cm W (.Name x pos) (mV i) := by
  refine ⟨_, pe_var hN hv hd hcd, fun xl al σ H S env Q w r p => ?_⟩
  unfold mV at p
  split at p
  · rename_i d e
    obtain ⟨v, h1, h2⟩ := r.at' i d e
    exact ⟨v, h1, p.here w v h2⟩
  · exact p.elim
/-- a constant of the module -/
theorem e_glob {x : Str} {d : D} {v : V} {u : Value} (hg : Gl X x) (hm : X.mg x = some u) (r : RelV v u) (h : ∀ xl al H, Rep X.K xl al H d v) (hd : (x == ("__debug__" : Str)) = false := by decide) : EOk X cm W (.Name x pos) (mC d) :=
  ⟨_, pe_glob hg hm r hd, fun xl al σ H S env Q w _ p => p.here w _ (h xl al H)⟩

/-! operators -/
def DenR2 (K : PySem.W.Frag) (cm : CM) (r : R2) (op : D → D → DS → Ou D) : Prop := ∀ xl al H S x y v u (Q : VK) (W0 : WH), Wd K xl S al H → Rep K xl al H x v → Rep K xl al H y u → Post K cm xl W0 (RE K xl Q) (op x y S) al H → r v u H Q
def DenR1 (K : PySem.W.Frag) (cm : CM) (r : V → Hp → VK → Prop) (op : D → DS → Ou D) : Prop := ∀ xl al H S x v (Q : VK) (W0 : WH), Wd K xl S al H → Rep K xl al H x v → Post K cm xl W0 (RE K xl Q) (op x S) al H → r v H Q
def DenRL (K : PySem.W.Frag) (cm : CM) (r : List V → Hp → VK → Prop) (op : List D → DS → Ou D) : Prop := ∀ xl al H S xs vs (Q : VK) (W0 : WH), Wd K xl S al H → Reps K xl al H xs vs → Post K cm xl W0 (RE K xl Q) (op xs S) al H → r vs H Q
def OOk (X : Cx) (cm : CM) (f : Value → Value → Sem Value) (op : D → D → DS → Ou D) : Prop := ∃ r, OpR X f r ∧ DenR2 X.K cm r op
def UOk (X : Cx) (cm : CM) (f : Value → Sem Value) (op : D → DS → Ou D) : Prop := ∃ r, UnR X f r ∧ DenR1 X.K cm r op
def IOk (X : Cx) (cm : CM) (op : D → D → DS → Ou D) : Prop := ∃ r, IxR X r ∧ DenR2 X.K cm r op
def COk (X : Cx) (cm : CM) (f : Value) (op : List D → DS → Ou D) : Prop := ∃ r, CallR X f r ∧ DenRL X.K cm r op

theorem den2 {r : R2} {op : D → D → DS → Ou D} {ta tb : TE} (dr : DenR2 X.K cm r op) (da : DenE X.K cm W ta ma) (db : DenE X.K cm W tb mb) : DenE X.K cm W (tOp r ta tb) (m2 op ma mb) := fun xl al σ H S env Q w e p => by
  refine da xl al σ H S env _ w e (p.bind.imp fun x S1 al1 H1 e1 w1 p1 v rv => ?_)
  refine db xl al1 σ H1 S1 env _ w1 (e.mono e1) (p1.bind.imp fun y S2 al2 H2 e2 w2 p2 u ru => ?_)
  exact dr xl al2 H2 S2 x y v u Q _ w2 (rv.mono e2) ru p2
theorem e_op {op : Operator} {f : D → D → DS → Ou D} (h : OOk X cm (binaryOp op) f) (ha : EOk X cm W a ma) (hb : EOk X cm W b mb) : EOk X cm W (.BinOp a op b pos) (m2 f ma mb) := by
  obtain ⟨r, hr, dr⟩ := h
  obtain ⟨ta, pa, da⟩ := ha
  obtain ⟨tb, pb, db⟩ := hb
  exact ⟨_, pe_op hr pa pb, den2 dr da db⟩
theorem e_un {op : UnaryOp} {f : D → DS → Ou D} (h : UOk X cm (unaryOp op) f) (ha : EOk X cm W a ma) : EOk X cm W (.UnaryOp op a pos) (m1 f ma) := by
  obtain ⟨r, hr, dr⟩ := h
  obtain ⟨ta, pa, da⟩ := ha
  refine ⟨_, pe_un hr pa, fun xl al σ H S env Q w e p => ?_⟩
  exact da xl al σ H S env _ w e (p.bind.imp fun x S1 al1 H1 e1 w1 p1 v rv => dr xl al1 H1 S1 x v Q _ w1 rv p1)
theorem e_cmp {op : CmpOp} {f : D → D → DS → Ou D} (h : OOk X cm (compareOp op) f) (ha : EOk X cm W a ma) (hb : EOk X cm W b mb) (hm : behindInMarks op b = false := by first | exact nomark _ | rfl) : EOk X cm W (.Compare a [op] [b] pos) (m2 f ma mb) := by
  obtain ⟨r, hr, dr⟩ := h
  obtain ⟨ta, pa, da⟩ := ha
  obtain ⟨tb, pb, db⟩ := hb
  exact ⟨_, pe_cmpR hr pa pb hm, den2 dr da db⟩
theorem e_chain {op op' : CmpOp} {f g : D → D → DS → Ou D} (h : OOk X cm (compareOp op) f) (h' : OOk X cm (compareOp op') g) (ha : EOk X cm W a ma) (hb : EOk X cm W b mb) (hc : EOk X cm W c mc)
    (hm : lastMarks [op, op'] [b, c] = false := by with_unfolding_all rfl) : EOk X cm W (.Compare a [op, op'] [b, c] pos) (mChain f g ma mb mc) := by
  obtain ⟨r, hr, dr⟩ := h
  obtain ⟨r', hr', dr'⟩ := h'
  obtain ⟨ta, pa, da⟩ := ha
  obtain ⟨tb, pb, db⟩ := hb
  obtain ⟨tc, pc, dc⟩ := hc
  refine ⟨_, pe_chain hr hr' pa pb pc hm, fun xl al σ H S env Q w e p => ?_⟩
  refine da xl al σ H S env _ w e (p.bind.imp fun x S1 al1 H1 e1 w1 p1 v rv => ?_)
  refine db xl al1 σ H1 S1 env _ w1 (e.mono e1) (p1.bind.imp fun y S2 al2 H2 e2 w2 p2 u ru => ?_)
  refine dr xl al2 H2 S2 x y v u _ _ w2 (rv.mono e2) ru (p2.bind.imp fun k S3 al3 H3 e3 w3 p3 kv rk => ?_)
  cases k with
  | bl k =>
    cases rk
    refine ⟨k, rfl, ?_⟩
    cases k with
    | true =>
      have p4 : Post X.K cm xl (fun c d H' => W c d σ H') (RE X.K xl Q) ((mc env S3).bind fun z S4 => g y z S4) al3 H3 := p3
      exact dc xl al3 σ H3 S3 env _ w3 (((e.mono e1).mono e2).mono e3) (p4.bind.imp fun z S4 al4 H4 e4 w4 p4 zv rz => dr' xl al4 H4 S4 y z u zv Q _ w4 ((ru.mono e3).mono e4) rz p4)
    | false => exact Post.here w3 p3 _ (.bl false)
  | _ => exact p3.elim

/-! tests -/
theorem t_val (h : EOk X cm W e ma) (he : ∀ whole, isTrue e X.env whole = (do let v ← whole; standAt e.pos; holding [v] (truthy v)) := by intro _; rfl) : TOk X cm W e (mT ma) := by
  obtain ⟨t, p, d⟩ := h
  refine ⟨_, pt_val p he, fun xl al σ H S env Q w r q => ?_⟩
  refine d xl al σ H S env _ w r (q.bind.imp fun x S1 al1 H1 e1 w1 p1 v rv => ?_)
  cases x with
  | bl k =>
    cases rv
    exact ⟨k, rfl, p1.here w1⟩
  | _ => exact p1.elim
theorem t_cmp {op : CmpOp} {f : D → D → DS → Ou D} (h : OOk X cm (compareOp op) f) (ha : EOk X cm W a ma) (hb : EOk X cm W b mb) (hm : behindInMarks op b = false := by first | exact nomark _ | rfl) : TOk X cm W (.Compare a [op] [b] pos) (mT (m2 f ma mb)) := by
  obtain ⟨r, hr, dr⟩ := h
  obtain ⟨ta, pa, da⟩ := ha
  obtain ⟨tb, pb, db⟩ := hb
  refine ⟨_, pt_cmpR hr pa pb hm, fun xl al σ H S env Q w r q => ?_⟩
  refine den2 dr da db xl al σ H S env _ w r (q.bind.imp fun x S1 al1 H1 e1 w1 p1 v rv => ?_)
  cases x with
  | bl k =>
    cases rv
    exact ⟨k, rfl, p1.here w1⟩
  | _ => exact p1.elim
theorem t_chain {op op' : CmpOp} {f g : D → D → DS → Ou D} (h : OOk X cm (compareOp op) f) (h' : OOk X cm (compareOp op') g) (ha : EOk X cm W a ma) (hb : EOk X cm W b mb) (hc : EOk X cm W c mc)
    (hm : lastMarks [op, op'] [b, c] = false := by with_unfolding_all rfl) : TOk X cm W (.Compare a [op, op'] [b, c] pos) (mT (mChain f g ma mb mc)) := by
  obtain ⟨r, hr, dr⟩ := h
  obtain ⟨r', hr', dr'⟩ := h'
  obtain ⟨ta, pa, da⟩ := ha
  obtain ⟨tb, pb, db⟩ := hb
  obtain ⟨tc, pc, dc⟩ := hc
  refine ⟨_, pt_chain hr hr' pa pb pc hm, fun xl al σ H S env Q w e p => ?_⟩
  replace p := p.bind
  refine da xl al σ H S env _ w e (p.bind.imp fun x S1 al1 H1 e1 w1 p1 v rv => ?_)
  refine db xl al1 σ H1 S1 env _ w1 (e.mono e1) (p1.bind.imp fun y S2 al2 H2 e2 w2 p2 u ru => ?_)
  refine dr xl al2 H2 S2 x y v u _ _ w2 (rv.mono e2) ru (p2.bind.imp fun k S3 al3 H3 e3 w3 p3 kv rk => ?_)
  cases k with
  | bl k =>
    cases rk
    refine ⟨k, rfl, ?_⟩
    cases k with
    | true =>
      have p4 : Post X.K cm xl (fun c d H' => W c d σ H') _ ((mc env S3).bind fun z S4 => g y z S4) al3 H3 := p3
      refine dc xl al3 σ H3 S3 env _ w3 (((e.mono e1).mono e2).mono e3) (p4.bind.imp fun z S4 al4 H4 e4 w4 p4 zv rz => dr' xl al4 H4 S4 y z u zv _ _ w4 ((ru.mono e3).mono e4) rz (p4.imp fun q S5 al5 H5 e5 w5 p5 qv rq => ?_))
      cases q with
      | bl q =>
        cases rq
        exact ⟨q, rfl, Post.here w5 p5⟩
      | _ => exact p5.elim
    | false => exact ⟨false, rfl, Post.here w3 (Post.here w3 p3)⟩
  | _ => exact p3.elim
theorem t_not {mt : MT} (h : TOk X cm W a mt) : TOk X cm W (.UnaryOp .Not a pos) (mNot mt) := by
  obtain ⟨t, p, d⟩ := h
  refine ⟨_, pt_not p, fun xl al σ H S env Q w r q => ?_⟩
  exact d xl al σ H S env _ w r (q.bind.imp fun x S1 al1 H1 e1 w1 p1 => Post.hereT w1 p1)
/-- whatever its 'whole' is -/
def WOk (X : Cx) (cm : CM) (W : WX) (e : Expr) (m : MT) : Prop := ∃ t, PW X e t ∧ DenT X.K cm W t m
theorem WOk.t {mt : MT} (h : WOk X cm W e mt) : TOk X cm W e mt := by
  obtain ⟨t, p, d⟩ := h
  exact ⟨t, p.pt, d⟩
theorem w_and1 {mt : MT} (h : TOk X cm W a mt) : WOk X cm W (.BoolOp .And [a] pos) mt := by
  obtain ⟨t, p, d⟩ := h
  exact ⟨t, pw_and1 p, d⟩
theorem w_or1 {mt : MT} (h : TOk X cm W a mt) : WOk X cm W (.BoolOp .Or [a] pos) mt := by
  obtain ⟨t, p, d⟩ := h
  exact ⟨t, pw_or1 p, d⟩
theorem w_and {mt mu : MT} (h : TOk X cm W a mt) (h' : WOk X cm W (.BoolOp .And (b :: es) pos) mu) : WOk X cm W (.BoolOp .And (a :: b :: es) pos) (mAnd mt mu) := by
  obtain ⟨t, p, d⟩ := h
  obtain ⟨t', p', d'⟩ := h'
  refine ⟨_, pw_and p p', fun xl al σ H S env Q w r q => ?_⟩
  refine d xl al σ H S env _ w r (q.bind.imp fun x S1 al1 H1 e1 w1 p1 => ?_)
  cases x with
  | true => exact d' xl al1 σ H1 S1 env Q w1 (r.mono e1) p1
  | false => exact Post.hereT w1 p1
theorem w_or {mt mu : MT} (h : TOk X cm W a mt) (h' : WOk X cm W (.BoolOp .Or (b :: es) pos) mu) : WOk X cm W (.BoolOp .Or (a :: b :: es) pos) (mOr mt mu) := by
  obtain ⟨t, p, d⟩ := h
  obtain ⟨t', p', d'⟩ := h'
  refine ⟨_, pw_or p p', fun xl al σ H S env Q w r q => ?_⟩
  refine d xl al σ H S env _ w r (q.bind.imp fun x S1 al1 H1 e1 w1 p1 => ?_)
  cases x with
  | false => exact d' xl al1 σ H1 S1 env Q w1 (r.mono e1) p1
  | true => exact Post.hereT w1 p1
/-! and, or, not as values -/
theorem e_one {op : BoolOp} (h : EOk X cm W a ma) : EOk X cm W (.BoolOp op [a] pos) ma := by
  obtain ⟨t, p, d⟩ := h
  exact ⟨t, pe_one p, d⟩
theorem e_and (h : EOk X cm W a ma) (h' : EOk X cm W (.BoolOp .And (b :: es) pos) mb) : EOk X cm W (.BoolOp .And (a :: b :: es) pos) (mAndV ma mb) := by
  obtain ⟨t, p, d⟩ := h
  obtain ⟨t', p', d'⟩ := h'
  refine ⟨_, pe_and p p', fun xl al σ H S env Q w r q => ?_⟩
  refine d xl al σ H S env _ w r (q.bind.imp fun x S1 al1 H1 e1 w1 p1 v rv => ?_)
  cases x with
  | bl c =>
    cases rv
    refine ⟨c, rfl, ?_⟩
    cases c with
    | true => exact d' xl al1 σ H1 S1 env Q w1 (r.mono e1) p1
    | false => exact Post.here w1 p1 _ (.bl false)
  | _ => exact p1.elim
theorem e_or (h : EOk X cm W a ma) (h' : EOk X cm W (.BoolOp .Or (b :: es) pos) mb) : EOk X cm W (.BoolOp .Or (a :: b :: es) pos) (mOrV ma mb) := by
  obtain ⟨t, p, d⟩ := h
  obtain ⟨t', p', d'⟩ := h'
  refine ⟨_, pe_or p p', fun xl al σ H S env Q w r q => ?_⟩
  refine d xl al σ H S env _ w r (q.bind.imp fun x S1 al1 H1 e1 w1 p1 v rv => ?_)
  cases x with
  | bl c =>
    cases rv
    refine ⟨c, rfl, ?_⟩
    cases c with
    | false => exact d' xl al1 σ H1 S1 env Q w1 (r.mono e1) p1
    | true => exact Post.here w1 p1 _ (.bl true)
  | _ => exact p1.elim
theorem e_not (h : EOk X cm W a ma) : EOk X cm W (.UnaryOp .Not a pos) (mNotV ma) := by
  obtain ⟨t, p, d⟩ := h
  refine ⟨_, pe_not p, fun xl al σ H S env Q w r q => ?_⟩
  refine d xl al σ H S env _ w r (q.bind.imp fun x S1 al1 H1 e1 w1 p1 v rv => ?_)
  cases x with
  | bl c =>
    cases rv
    exact ⟨c, rfl, p1.here w1 _ (.bl _)⟩
  | _ => exact p1.elim
theorem e_if {mt : MT} (hc : TOk X cm W c mt) (ha : EOk X cm W a ma) (hb : EOk X cm W b mb) : EOk X cm W (.IfExp c a b pos) (mIf mt ma mb) := by
  obtain ⟨tc, pc, dc⟩ := hc
  obtain ⟨ta, pa, da⟩ := ha
  obtain ⟨tb, pb, db⟩ := hb
  refine ⟨_, pe_ifExp pc pa pb, fun xl al σ H S env Q w r q => ?_⟩
  refine dc xl al σ H S env _ w r (q.bind.imp fun x S1 al1 H1 e1 w1 p1 => ?_)
  cases x with
  | true => exact da xl al1 σ H1 S1 env Q w1 (r.mono e1) p1
  | false => exact db xl al1 σ H1 S1 env Q w1 (r.mono e1) p1

/-! argument lists, displays, calls of built-ins -/
theorem a_nil : AOk X cm W [] maN := ⟨_, pa_nil, fun xl al σ H S env Q w r p => p.here w [] .nil⟩
theorem a_cons {mr : MA} (h : EOk X cm W e ma) (hr : AOk X cm W es mr) (hs : starEach (e :: es) X.env = (false, eval e X.env) :: starEach es X.env := by rfl) : AOk X cm W (e :: es) (maC ma mr) := by
  obtain ⟨t, p, d⟩ := h
  obtain ⟨t', p', d'⟩ := hr
  refine ⟨_, pa_cons p p' hs, fun xl al σ H S env Q w r q => ?_⟩
  refine d xl al σ H S env _ w r (q.bind.imp fun x S1 al1 H1 e1 w1 p1 v rv => ?_)
  refine d' xl al1 σ H1 S1 env _ w1 (r.mono e1) (p1.bind.imp fun xs S2 al2 H2 e2 w2 p2 vs rvs => ?_)
  exact p2.here w2 _ (.cons (rv.mono e2) rvs)
def tupO (xs : List D) (S : DS) : Ou D := if xs.length ≤ 1000 then .ok (.tup xs) S else .no
def lstO (xs : List D) (S : DS) : Ou D := if xs.length ≤ 1000 then .ok (.vl xs) S else .no
def refO (xs : List D) (S : DS) : Ou D := if xs.length ≤ 1000 then .ok (.ref S.length) (S ++ [.lst xs]) else .no
theorem le1000 {n : Nat} (h : n ≤ 1000) : n ≤ sizeLine := Nat.le_trans h (by decide)
theorem e_tup {mr : MA} {k : Nat} (h : AOk X cm W es mr) : EOk X cm W (.Tuple es k pos) (mL tupO mr) := by
  obtain ⟨t, p, d⟩ := h
  refine ⟨_, pe_tup p, fun xl al σ H S env Q w r q => ?_⟩
  refine d xl al σ H S env _ w r (q.bind.imp fun xs S1 al1 H1 e1 w1 p1 vs rvs => ?_)
  unfold tupO at p1
  split at p1
  · rename_i hl
    refine ⟨le1000 (rvs.length ▸ hl), fun a ha => ?_⟩
    exact p1 al1 _ (ext_new ha) (w1.put ha) _ (Rep.newTup (S := S1) ha rvs)
  · exact p1.elim
theorem e_lst {mr : MA} (h : AOk X cm W es mr) : EOk X cm W (.List es pos) (mL lstO mr) := by
  obtain ⟨t, p, d⟩ := h
  refine ⟨_, pe_lst p, fun xl al σ H S env Q w r q => ?_⟩
  refine d xl al σ H S env _ w r (q.bind.imp fun xs S1 al1 H1 e1 w1 p1 vs rvs => ?_)
  unfold lstO at p1
  split at p1
  · rename_i hl
    refine ⟨le1000 (rvs.length ▸ hl), fun a ha => ?_⟩
    exact p1 al1 _ (ext_new ha) (w1.put ha) _ (Rep.newLst w1 ha rvs)
  · exact p1.elim
theorem Rep.newRef {K : PySem.W.Frag} {xl al : List Addr} {S : DS} {H : Hp} {a : Addr} (w : Wd K xl S al H) : Rep K xl (al ++ [a]) H (.ref S.length) (.ref a) := by
  refine .ref ?_
  rw [← w.len, List.getElem?_append_right (Nat.le_refl _), Nat.sub_self]; rfl
theorem Rep.newRef' {K : PySem.W.Frag} {xl al : List Addr} {S : DS} {H H' : Hp} {a : Addr} (w : Wd K xl S al H) : Rep K xl (al ++ [a]) H' (.ref S.length) (.ref a) := by
  refine .ref ?_
  rw [← w.len, List.getElem?_append_right (Nat.le_refl _), Nat.sub_self]; rfl
/-- a list that will be changed -/
theorem e_ref {mr : MA} (h : AOk X cm W es mr) : EOk X cm W (.List es pos) (mL refO mr) := by
  obtain ⟨t, p, d⟩ := h
  refine ⟨_, pe_lst p, fun xl al σ H S env Q w r q => ?_⟩
  refine d xl al σ H S env _ w r (q.bind.imp fun xs S1 al1 H1 e1 w1 p1 vs rvs => ?_)
  unfold refO at p1
  split at p1
  · rename_i hl
    refine ⟨le1000 (rvs.length ▸ hl), fun a ha => ?_⟩
    exact p1 (al1 ++ [a]) _ (ext_ref w1 ha) (w1.addRef ha rvs) _ (Rep.newRef' w1)
  · exact p1.elim
theorem e_callB {x : Str} {id : String} {p : Pos} {f : List D → DS → Ou D} {mr : MA} (hc : COk X cm (.builtin id) f) (hg : Gl X x) (hm : X.mg x = none) (hv : bootBuiltins x = some (.builtin id)) (ha : AOk X cm W (e :: es) mr) (hn : x ≠ "__name__" := by decide) (hdb : (x == ("__debug__" : Str)) = false := by decide)
    (he : starEach (e :: es) X.env = (false, eval e X.env) :: starEach es X.env := by rfl) (hpl : (backTo pos (starEach es X.env)).any (·.1) = false := by rfl) : EOk X cm W (.Call (.Name x p) (e :: es) [] pos) (mL f mr) := by
  obtain ⟨r, hr, dr⟩ := hc
  obtain ⟨t, pt, d⟩ := ha
  refine ⟨_, pe_callB hr hg hm hv pt hn hdb he hpl, fun xl al σ H S env Q w e p => ?_⟩
  exact d xl al σ H S env _ w e (p.bind.imp fun xs S1 al1 H1 e1 w1 p1 vs rvs => dr xl al1 H1 S1 xs vs Q _ w1 rvs p1)
theorem e_callTy {x : Str} {T : String} {p : Pos} {f : List D → DS → Ou D} {mr : MA} (hc : COk X cm (.type T) f) (hg : Gl X x) (hm : X.mg x = none) (hv : bootBuiltins x = some (.type T)) (ha : AOk X cm W (e :: es) mr) (hn : x ≠ "__name__" := by decide) (hdb : (x == ("__debug__" : Str)) = false := by decide)
    (he : starEach (e :: es) X.env = (false, eval e X.env) :: starEach es X.env := by rfl) (hpl : (backTo pos (starEach es X.env)).any (·.1) = false := by rfl) : EOk X cm W (.Call (.Name x p) (e :: es) [] pos) (mL f mr) := by
  obtain ⟨r, hr, dr⟩ := hc
  obtain ⟨t, pt, d⟩ := ha
  refine ⟨_, pe_callTy hr hg hm hv pt hn hdb he hpl, fun xl al σ H S env Q w e p => ?_⟩
  exact d xl al σ H S env _ w e (p.bind.imp fun xs S1 al1 H1 e1 w1 p1 vs rvs => dr xl al1 H1 S1 xs vs Q _ w1 rvs p1)
/-! subscripts -/
theorem e_ix {f : D → D → DS → Ou D} (h : IOk X cm f) (ha : EOk X cm W a ma) (hb : EOk X cm W b mb) (hs : PlainIx b := by exact fun _ _ => rfl) : EOk X cm W (.Subscript a b pos) (m2 f ma mb) := by
  obtain ⟨r, hr, dr⟩ := h
  obtain ⟨ta, pa, da⟩ := ha
  obtain ⟨tb, pb, db⟩ := hb
  exact ⟨_, pe_ix hr pa pb hs, den2 dr da db⟩
/-- a part of a slice -/
abbrev MO := DE → DS → Ou (Option Int)
def moN : MO := fun _ S => .ok none S
def moS (a : ME) : MO := fun env S => (a env S).bind fun d S1 => match d with
  | .int i => .ok (some i) S1
  | _ => .no
def POk (X : Cx) (cm : CM) (W : WX) (e : Option Expr) (m : MO) : Prop := ∃ t, PO X e t ∧ ∀ xl al σ H S env (Q : Option Int → Hp → Prop), Wd X.K xl S al H → EnvR X.K xl al H env σ → Post X.K cm xl (fun c d H' => W c d σ H') (fun o _ _ H' => Q o H') (m env S) al H → t σ H Q
theorem p_none : POk X cm W none moN := ⟨_, po_none, fun xl al σ H S env Q w r p => p.here w⟩
theorem p_some (h : EOk X cm W e ma) : POk X cm W (some e) (moS ma) := by
  obtain ⟨t, p, d⟩ := h
  refine ⟨_, po_some p, fun xl al σ H S env Q w r q => ?_⟩
  refine d xl al σ H S env _ w r (q.bind.imp fun x S1 al1 H1 e1 w1 p1 v rv => ?_)
  cases x with
  | int i =>
    cases rv
    exact ⟨i, rfl, p1.here w1⟩
  | _ => exact p1.elim
def mSl (f : D → Option Int → Option Int → DS → Ou D) (a : ME) (lo hi : MO) : ME := fun env S => (a env S).bind fun x S1 => (lo env S1).bind fun l S2 => (hi env S2).bind fun u S3 => f x l u S3
def LOk (X : Cx) (cm : CM) (f : D → Option Int → Option Int → DS → Ou D) : Prop := ∃ r, SlR X r ∧ ∀ xl al H S x v lo hi (Q : VK) (W0 : WH), Wd X.K xl S al H → Rep X.K xl al H x v → Post X.K cm xl W0 (RE X.K xl Q) (f x lo hi S) al H → r v lo hi H Q
theorem e_slice {f : D → Option Int → Option Int → DS → Ou D} {lo hi : Option Expr} {ml mh : MO} {p2 : Pos} (h : LOk X cm f) (ha : EOk X cm W a ma) (hl : POk X cm W lo ml) (hu : POk X cm W hi mh) : EOk X cm W (.Subscript a (.Slice lo hi none p2) pos) (mSl f ma ml mh) := by
  obtain ⟨r, hr, dr⟩ := h
  obtain ⟨ta, pa, da⟩ := ha
  obtain ⟨tl, pl, dl⟩ := hl
  obtain ⟨th, ph, dh⟩ := hu
  refine ⟨_, pe_slice hr pa pl ph, fun xl al σ H S env Q w e p => ?_⟩
  refine da xl al σ H S env _ w e (p.bind.imp fun x S1 al1 H1 e1 w1 p1 v rv => ?_)
  refine dl xl al1 σ H1 S1 env _ w1 (e.mono e1) (p1.bind.imp fun l S2 al2 H2 e2 w2 p2 => ?_)
  refine dh xl al2 σ H2 S2 env _ w2 ((e.mono e1).mono e2) (p2.bind.imp fun u S3 al3 H3 e3 w3 p3 => ?_)
  exact dr xl al3 H3 S3 x v l u Q _ w3 ((rv.mono e2).mono e3) p3
end
end DL

namespace DL
open PySem PySem.Spec PyProof.Rows L2
variable [TabC]

/-! what the operators do with data -/
instance (i j : Int) : Decidable (CMul i j) := by unfold CMul; infer_instance
instance (i j : Int) : Decidable (CMulW i j) := by unfold CMulW; infer_instance
instance (i j : Int) : Decidable (CPow i j) := by unfold CPow; infer_instance
def CMulA (i j : Int) : Prop := CMul i j ∨ CMulW i j
instance (i j : Int) : Decidable (CMulA i j) := by unfold CMulA; infer_instance
def addO (x y : D) (S : DS) : Ou D := match x, y with
  | .int i, .int j => .ok (.int (i + j)) S
  | .str a, .str b => if a.length + b.length ≤ sizeLine then .ok (.str (a ++ b)) S else .no
  | .tup a, .tup b => if a.length + b.length ≤ sizeLine then .ok (.tup (a ++ b)) S else .no
  | .vl a, .vl b => if a.length + b.length ≤ sizeLine then .ok (.vl (a ++ b)) S else .no
  | .ref i, .vl b => match S[i]? with
    | some (DO.lst a) => if a.length + b.length ≤ sizeLine then .ok (.vl (a ++ b)) S else .no
    | none => .no
  | _, _ => .no
def subO (x y : D) (S : DS) : Ou D := match x, y with
  | .int i, .int j => .ok (.int (i - j)) S
  | _, _ => .no
def repL {α : Type} (xs : List α) (k : Nat) : List α := (List.replicate k xs).flatten
def mulO (x y : D) (S : DS) : Ou D := match x, y with
  | .int i, .int j => if CMulA i j then .ok (.int (i * j)) S else .no
  | .tup xs, .int k => if 0 ≤ k ∧ k ≤ 1000 ∧ xs.length ≤ 1000 ∧ (k = 0 → xs = []) then .ok (.tup (repL xs k.toNat)) S else .no
  | .vl xs, .int k => if -(2 ^ 63) ≤ k ∧ k < 2 ^ 63 ∧ xs.length * k.toNat ≤ sizeLine then .ok (.vl (repL xs k.toNat)) S else .no
  | _, _ => .no
/-- [..] * n that will be changed -/
def mulR (x y : D) (S : DS) : Ou D := match x, y with
  | .vl xs, .int k => if -(2 ^ 63) ≤ k ∧ k < 2 ^ 63 ∧ xs.length * k.toNat ≤ sizeLine then .ok (.ref S.length) (S ++ [.lst (repL xs k.toNat)]) else .no
  | _, _ => .no
def modO (x y : D) (S : DS) : Ou D := match x, y with
  | .int i, .int j => if j ≠ 0 then .ok (.int (i.fmod j)) S else .no
  | _, _ => .no
def fdivO (x y : D) (S : DS) : Ou D := match x, y with
  | .int i, .int j => if j ≠ 0 ∧ Builtin.divisionGoesByPylong i j = false then .ok (.int (i.fdiv j)) S else .no
  | _, _ => .no
def powO (x y : D) (S : DS) : Ou D := match x, y with
  | .int i, .int j => if CPow i j then .ok (.int (i ^ j.toNat)) S else .no
  | _, _ => .no
def shlO (x y : D) (S : DS) : Ou D := match x, y with
  | .int i, .int j => if CPow i j then .ok (.int (i * 2 ^ j.toNat)) S else .no
  | _, _ => .no
def negO (x : D) (S : DS) : Ou D := match x with
  | .int i => .ok (.int (-i)) S
  | _ => .no

section
variable {X : Cx} {cm : CM} {xl al : List Addr} {H : Hp} {S : DS}
theorem rep_ref_lst {K : PySem.W.Frag} {xs : List D} {v : V} (h : Rep K xl al H (.vl xs) v) : ∃ a vs, v = .ref a ∧ H a = some (.lst vs) ∧ a ∉ al ∧ a ∉ xl ∧ Reps K xl al H xs vs := by
  cases h with
  | vl h n n' r => exact ⟨_, _, rfl, h, n, n', r⟩
theorem rep_tup {K : PySem.W.Frag} {xs : List D} {v : V} (h : Rep K xl al H (.tup xs) v) : ∃ a vs, v = .ref a ∧ SqT K H a vs ∧ Reps K xl al H xs vs := by
  cases h with
  | tup h r => exact ⟨_, _, rfl, h, r⟩
theorem Reps.rep {K : PySem.W.Frag} {xs : List D} {vs : List V} (r : Reps K xl al H xs vs) : ∀ k : Nat, Reps K xl al H (repL xs k) (List.replicate k vs).flatten
  | 0 => .nil
  | k + 1 => by
    show Reps K xl al H (List.replicate (k + 1) xs).flatten _
    rw [List.replicate_succ, List.flatten_cons, List.replicate_succ, List.flatten_cons]
    exact r.append (Reps.rep r k)
theorem o_add : OOk X cm (binaryOp .Add) addO := by
  refine ⟨_, op_add.or (op_add_str.or (op_catA.or op_cat)), fun xl al H S x y v u Q W0 w rv ru p => ?_⟩
  unfold addO at p
  split at p
  · cases rv; cases ru
    exact .inl ⟨_, _, rfl, rfl, p.here w _ (.int _)⟩
  · cases rv; cases ru
    split at p
    · rename_i hl
      exact .inr (.inl ⟨_, _, rfl, rfl, hl, p.here w _ (.str _)⟩)
    · exact p.elim
  · obtain ⟨a, vs, rfl, ha, r1⟩ := rep_tup rv
    obtain ⟨b, us, rfl, hb, r2⟩ := rep_tup ru
    split at p
    · rename_i hl
      refine .inr (.inr (.inl ⟨a, b, vs, us, rfl, rfl, ha, hb, by rw [← r1.length, ← r2.length]; exact hl, fun e => ?_, fun e e2 => ?_, fun e e2 q hq => ?_⟩))
      · subst e
        cases r1
        exact p.here w _ (.tup hb r2)
      · subst e2
        cases r2
        rw [List.append_nil] at p
        exact p.here w _ (.tup ha r1)
      · exact p al _ (ext_new hq) (w.put hq) _ (Rep.newTup (S := S) hq (r1.append r2))
    · exact p.elim
  · obtain ⟨a, vs, rfl, ha, na, nxa, r1⟩ := rep_ref_lst rv
    obtain ⟨b, us, rfl, hb, nb, nxb, r2⟩ := rep_ref_lst ru
    split at p
    · rename_i hl
      refine .inr (.inr (.inr ⟨a, b, vs, us, rfl, rfl, ha, hb, by rw [← r1.length, ← r2.length]; exact hl, fun q hq => ?_⟩))
      exact p al _ (ext_new hq) (w.put hq) _ (Rep.newLst w hq (r1.append r2))
    · exact p.elim
  · obtain ⟨b, us, rfl, hb, nb, nxb, r2⟩ := rep_ref_lst ru
    split at p
    · rename_i ys e
      cases rv with
      | ref h =>
        obtain ⟨a, vs, h1, ha, r1⟩ := w.list e
        rw [h] at h1; cases h1
        split at p
        · rename_i hl
          refine .inr (.inr (.inr ⟨_, b, vs, us, rfl, rfl, ha, hb, by rw [← r1.length, ← r2.length]; exact hl, fun q hq => ?_⟩))
          exact p al _ (ext_new hq) (w.put hq) _ (Rep.newLst w hq (r1.append r2))
        · exact p.elim
    · exact p.elim
  · exact p.elim
theorem o_sub : OOk X cm (binaryOp .Sub) subO := by
  refine ⟨_, op_sub, fun xl al H S x y v u Q W0 w rv ru p => ?_⟩
  unfold subO at p
  split at p
  · cases rv; cases ru
    exact ⟨_, _, rfl, rfl, p.here w _ (.int _)⟩
  · exact p.elim
theorem op_mulA : OpR X (binaryOp .Mult) (rI CMulA fun i j => .int (i * j)) := opI fun _ _ _ _ _ _ _ hc q => mul_int q (hc.elim CMul.ok CMulW.ok)
theorem rep_len {α : Type} (xs : List α) (k : Nat) : (repL xs k).length = k * xs.length := by
  unfold repL
  induction k with
  | zero => simp
  | succ k ih => rw [List.replicate_succ, List.flatten_cons, List.length_append, ih, Nat.succ_mul, Nat.add_comm]
section
omit [TabC]
theorem tuple_mul1 (l : Addr) (items : Array Value) (n : Nat) (sl : Array (Option Value)) (dd : Option Addr) (x : Int) (u : Tok) (c0 : (decide (x < -(2 ^ 63)) || decide (x ≥ 2 ^ 63)) = false) (c1 : (items.isEmpty || x == 1) = true) :
    Meets (Builtin.«tuple.__mul__» ⟨[.ref l, .int x u], []⟩) (fun _ R s => s.heap.get? l = some { cls := .type "tuple", dict := dd, data := .seq items n, slots := sl } ∧ R (.ok (.ret (Value.ref l))) s) :=
  .of_wp fun prog w A R s h => by
    obtain ⟨hp, g, d, tk, os⟩ := s
    obtain ⟨hl, h⟩ := h
    have f1 := AutoSeq1.idx_int
    wp_walk using wpAny_loadPart' hl
    rw [if_neg (by rw [c0]; exact Bool.false_ne_true)]
    wp_walk using wpAny_loadPart' hl
    exact ⟨_, rfl, h⟩
def rRepT1 (K : PySem.W.Frag) : R2 := fun x y H Q => ∃ l k xs, x = .ref l ∧ y = .int k ∧ SqT K H l xs ∧ (xs = [] ∨ k = 1) ∧ 0 ≤ k ∧ k ≤ 1000 ∧ Q (.ref l) H
theorem op_repT1 {X : Cx} : OpR X (binaryOp .Mult) (rRepT1 X.K) := by
  intro pins s σ H x y v u Q I rx ry h
  obtain ⟨l, k, xs, rfl, rfl, hT, hk, k0, k1, q⟩ := h
  cases rx
  obtain ⟨t, rfl⟩ := ry
  obtain ⟨its, r, ⟨⟨cls, dd, data, sl⟩, ho, hc, n, hd⟩, hs⟩ := I.tuple hT
  simp only at hc hd
  subst hc hd
  have c0 : (decide (k < -(2 ^ 63)) || decide (k ≥ 2 ^ 63)) = false := by
    rw [decide_eq_false (by omega), decide_eq_false (by omega)] <;> rfl
  have c1 : (its.toArray.isEmpty || k == 1) = true := by
    rcases hk with rfl | rfl
    · cases r
      rfl
    · rw [Bool.or_eq_true]
      exact .inr rfl
  exact wpAny_binaryOp_repeat_ref (T := "tuple") (U := "int") (by decide) ⟨_, ho, rfl⟩ (fun s' => typeIs_int s' k t) noFill_tuple_mul F.fills_int_mul F.slot_int_rmul repeat_tuple F.slot_int_index.lookup
    (call_meets F.slot_int_rmul (typeIs_int s k t) F.entry_int_rmul (F.args_int_rmul_2 _ _) (int_rmul_tuple k t l its.toArray n dd sl)
      ⟨ho, rfl, ⟨_, ho, rfl⟩, call_meets F.slot_tuple_mul ⟨_, ho, rfl⟩ F.entry_tuple_mul (F.args_tuple_mul_2 _ _) (tuple_mul1 l its.toArray n sl dd k t c0 c1) ⟨ho, ⟨.ref l, H, I, rfl, q⟩⟩⟩)
end
theorem o_mul : OOk X cm (binaryOp .Mult) mulO := by
  refine ⟨_, op_mulA.or (op_repT.or (op_rep.or op_repT1)), fun xl al H S x y v u Q W0 w rv ru p => ?_⟩
  unfold mulO at p
  split at p
  · cases rv; cases ru
    split at p
    · rename_i hc
      exact .inl ⟨_, _, rfl, rfl, hc, p.here w _ (.int _)⟩
    · exact p.elim
  · obtain ⟨a, vs, rfl, ha, r1⟩ := rep_tup rv
    cases ru
    split at p
    · rename_i hc
      obtain ⟨h1, h3, h4, h5⟩ := hc
      rename_i xs k
      by_cases hk : xs = [] ∨ k = 1
      · have hv : vs = [] ∨ k = 1 := hk.imp (fun e => by subst e; cases r1; rfl) id
        have e : repL xs k.toNat = xs := by
          rcases hk with rfl | rfl
          · have : (repL ([] : List D) k.toNat).length = 0 := by rw [rep_len]; simp
            exact List.eq_nil_of_length_eq_zero this
          · simp [repL]
        rw [e] at p
        exact .inr (.inr (.inr ⟨a, _, vs, rfl, rfl, ha, hv, h1, h3, p.here w _ (.tup ha r1)⟩))
      · have h2 : 2 ≤ k := by
          have : k ≠ 0 := fun z => hk (.inl (h5 z))
          have : k ≠ 1 := fun z => hk (.inr z)
          omega
        refine .inr (.inl ⟨a, _, vs, rfl, rfl, ha, fun e => ?_, h2, h3, by rw [← r1.length]; exact h4, fun q hq => ?_⟩)
        · subst e
          cases r1
          exact hk (.inl rfl)
        · exact p al _ (ext_new hq) (w.put hq) _ (Rep.newTup (S := S) hq (r1.rep _))
    · exact p.elim
  · obtain ⟨a, vs, rfl, ha, na, nxa, r1⟩ := rep_ref_lst rv
    cases ru
    split at p
    · rename_i hc
      obtain ⟨h1, h2, h3⟩ := hc
      refine .inr (.inr (.inl ⟨a, _, vs, rfl, rfl, ha, h1, h2, by rw [← r1.length]; exact h3, fun q hq => ?_⟩))
      exact p al _ (ext_new hq) (w.put hq) _ (Rep.newLst w hq (r1.rep _))
    · exact p.elim
  · exact p.elim
theorem o_mulR : OOk X cm (binaryOp .Mult) mulR := by
  refine ⟨_, op_rep, fun xl al H S x y v u Q W0 w rv ru p => ?_⟩
  unfold mulR at p
  split at p
  · obtain ⟨a, vs, rfl, ha, na, nxa, r1⟩ := rep_ref_lst rv
    cases ru
    split at p
    · rename_i hc
      obtain ⟨h1, h2, h3⟩ := hc
      refine ⟨a, _, vs, rfl, rfl, ha, h1, h2, by rw [← r1.length]; exact h3, fun q hq => ?_⟩
      exact p (al ++ [q]) _ (ext_ref w hq) (w.addRef hq (r1.rep _)) _ (Rep.newRef' w)
    · exact p.elim
  · exact p.elim
theorem op_fdivP : OpR X (binaryOp .FloorDiv) (rI (fun i j => j ≠ 0 ∧ Builtin.divisionGoesByPylong i j = false) fun i j => .int (i.fdiv j)) := opI fun _ _ _ _ _ _ _ hc q => floordiv_int hc.1 q (.inl hc.2)
theorem o_mod : OOk X cm (binaryOp .Mod) modO := by
  refine ⟨_, op_modN, fun xl al H S x y v u Q W0 w rv ru p => ?_⟩
  unfold modO at p
  split at p
  · cases rv; cases ru
    split at p
    · rename_i hc
      exact ⟨_, _, rfl, rfl, hc, p.here w _ (.int _)⟩
    · exact p.elim
  · exact p.elim
theorem o_fdiv : OOk X cm (binaryOp .FloorDiv) fdivO := by
  refine ⟨_, op_fdivP, fun xl al H S x y v u Q W0 w rv ru p => ?_⟩
  unfold fdivO at p
  split at p
  · cases rv; cases ru
    split at p
    · rename_i hc
      exact ⟨_, _, rfl, rfl, hc, p.here w _ (.int _)⟩
    · exact p.elim
  · exact p.elim
theorem o_pow : OOk X cm (binaryOp .Pow) powO := by
  refine ⟨_, op_pow, fun xl al H S x y v u Q W0 w rv ru p => ?_⟩
  unfold powO at p
  split at p
  · cases rv; cases ru
    split at p
    · rename_i hc
      exact ⟨_, _, rfl, rfl, hc, p.here w _ (.int _)⟩
    · exact p.elim
  · exact p.elim
theorem o_shl : OOk X cm (binaryOp .LShift) shlO := by
  refine ⟨_, op_shl, fun xl al H S x y v u Q W0 w rv ru p => ?_⟩
  unfold shlO at p
  split at p
  · cases rv; cases ru
    split at p
    · rename_i hc
      exact ⟨_, _, rfl, rfl, hc, p.here w _ (.int _)⟩
    · exact p.elim
  · exact p.elim
theorem u_neg : UOk X cm (unaryOp .USub) negO := by
  refine ⟨_, un_neg, fun xl al H S x v Q W0 w rv p => ?_⟩
  unfold negO at p
  split at p
  · cases rv
    exact ⟨_, rfl, p.here w _ (.int _)⟩
  · exact p.elim
end

/-! comparisons -/
mutual
/-- as plain data -/
def toPy : D → Option PyData
  | .non => some .none
  | .bl b => some (.bool b)
  | .int i => some (.int i)
  | .str x => some (.str x)
  | .tup xs => (toPys xs).map .tuple
  | .vl xs => (toPys xs).map .list
  | .fz xs => (toPys xs).map .list
  | .ref _ => none
  | .dct => none
  | .exo _ _ => none
def toPys : List D → Option (List PyData)
  | [] => some []
  | x :: xs => match toPy x, toPys xs with
    | some d, some ds => some (d :: ds)
    | _, _ => none
end
section
variable {K : PySem.W.Frag} {xl al : List Addr} {H : Hp}
section
omit [TabC]
mutual
theorem Rep.dp : ∀ {d : D} {v : V} {q : PyData}, Rep K xl al H d v → toPy d = some q → Dp K H v q
  | _, _, _, .non, e => by simp only [toPy] at e; cases e; exact .non
  | _, _, _, .bl b, e => by simp only [toPy] at e; cases e; exact .bl b
  | _, _, _, .int i, e => by simp only [toPy] at e; cases e; exact .int i
  | _, _, _, .str x, e => by simp only [toPy] at e; cases e; exact .str x
  | _, _, _, .tup h r, e => by
    simp only [toPy, Option.map_eq_some_iff] at e
    obtain ⟨ds, e1, rfl⟩ := e
    exact .tup h (r.dps e1)
  | _, _, _, .vl h _ _ r, e => by
    simp only [toPy, Option.map_eq_some_iff] at e
    obtain ⟨ds, e1, rfl⟩ := e
    exact .lst (.inl (.inl h)) (r.dps e1)
  | _, _, _, .fz h _ r, e => by
    simp only [toPy, Option.map_eq_some_iff] at e
    obtain ⟨ds, e1, rfl⟩ := e
    exact .lst (.inl (.inr ⟨_, h⟩)) (r.dps e1)
  | _, _, _, .fzK _ _ h r, e => by
    simp only [toPy, Option.map_eq_some_iff] at e
    obtain ⟨ds, e1, rfl⟩ := e
    exact .lst (h H) (r.dps e1)
  | _, _, _, .ref h, e => by simp only [toPy] at e; cases e
  | _, _, _, .dct _ _, e => by simp only [toPy] at e; cases e
  | _, _, _, .exo _ _ _, e => by simp only [toPy] at e; cases e
theorem Reps.dps : ∀ {ds : List D} {vs : List V} {qs : List PyData}, Reps K xl al H ds vs → toPys ds = some qs → DpAll K H vs qs
  | _, _, _, .nil, e => by simp only [toPys] at e; cases e; exact .nil
  | _, _, _, .cons h r, e => by
    simp only [toPys] at e
    split at e
    · rename_i e1 e2
      cases e
      exact .cons (h.dp e1) (r.dps e2)
    · cases e
end
end
end
/-- .. a list that may be changed, as it stands -/
def toPyS (S : DS) (d : D) : Option PyData := match d with
  | .ref p => match S[p]? with
    | some (DO.lst xs) => (toPys xs).map .list
    | none => none
  | d => toPy d
theorem toPyS_dp {K : PySem.W.Frag} {xl al : List Addr} {H : Hp} {S : DS} {d : D} {v : V} {q : PyData} (w : Wd K xl S al H) (r : Rep K xl al H d v) (h : toPyS S d = some q) : Dp K H v q := by
  unfold toPyS at h
  split at h
  · rename_i p
    split at h
    · rename_i xs e
      cases r with
      | ref ha =>
        obtain ⟨a, us, h1, h2, h3⟩ := w.list e
        rw [ha] at h1; cases h1
        cases hq : toPys xs with
        | none => rw [hq] at h; cases h
        | some qs =>
          rw [hq] at h
          cases h
          exact .lst (SqL.of h2) (h3.dps hq)
    · cases h
  · exact r.dp h
def scalD (x y : D) : Option Bool := match x, y with
  | .int i, .int j => some (decide (i = j))
  | .str i, .str j => some (decide (i = j))
  | .bl i, .bl j => some (decide (i = j))
  | .non, .non => some true
  | .int _, .str _ => some false
  | .str _, .int _ => some false
  | .bl _, .str _ => some false
  | .str _, .bl _ => some false
  | .non, .int _ => some false
  | .int _, .non => some false
  | .non, .str _ => some false
  | .str _, .non => some false
  | .non, .bl _ => some false
  | .bl _, .non => some false
  | _, _ => none
def eqP (x y : D) : Option Bool := match toPy x, toPy y with
  | some a, some b => if SeqAt.shaped a = true ∧ SeqAt.shaped b = true then some (PyData.eqv a b) else none
  | _, _ => none
def eqB (x y : D) : Option Bool := match scalD x y with
  | some b => some b
  | none => eqP x y
/-- .. with lists that may be changed -/
def eqS (S : DS) (x y : D) : Option Bool := match toPyS S x, toPyS S y with
  | some a, some b => if SeqAt.shaped a = true ∧ SeqAt.shaped b = true then some (PyData.eqv a b) else none
  | _, _ => none
def eqO (x y : D) (S : DS) : Ou D := match eqB x y with
  | some b => .ok (.bl b) S
  | none => match eqS S x y with
    | some b => .ok (.bl b) S
    | none => .no
def neO (x y : D) (S : DS) : Ou D := match eqB x y with
  | some b => .ok (.bl (!b)) S
  | none => match eqS S x y with
    | some b => .ok (.bl (!b)) S
    | none => .no
def cmpO (f : Int → Int → Bool) (x y : D) (S : DS) : Ou D := match x, y with
  | .int i, .int j => .ok (.bl (f i j)) S
  | _, _ => .no
abbrev ltO := cmpO fun i j => decide (i < j)
abbrev leO := cmpO fun i j => decide (i ≤ j)
abbrev gtO := cmpO fun i j => decide (j < i)
abbrev geO := cmpO fun i j => decide (j ≤ i)
def isO (x y : D) (S : DS) : Ou D := match x, y with
  | .non, .non => .ok (.bl true) S
  | _, .non => .ok (.bl false) S
  | .bl a, .bl b => .ok (.bl (decide (a = b))) S
  | _, _ => .no
def isnO (x y : D) (S : DS) : Ou D := match x, y with
  | .non, .non => .ok (.bl false) S
  | _, .non => .ok (.bl true) S
  | .bl a, .bl b => .ok (.bl (!decide (a = b))) S
  | _, _ => .no
section
variable {X : Cx} {cm : CM}
theorem scalD_rep {K : PySem.W.Frag} {xl al : List Addr} {H : Hp} {x y : D} {v u : V} {b : Bool} (h : scalD x y = some b) (rv : Rep K xl al H x v) (ru : Rep K xl al H y u) : scal v u = true ∧ decide (v = u) = b := by
  unfold scalD at h
  split at h <;> first | (cases h; cases rv; cases ru; exact ⟨rfl, by simp⟩) | cases h
theorem eqP_rep {K : PySem.W.Frag} {xl al : List Addr} {H : Hp} {x y : D} {v u : V} {b : Bool} (h : eqP x y = some b) (rv : Rep K xl al H x v) (ru : Rep K xl al H y u) :
    ∃ p q, Dp K H v p ∧ Dp K H u q ∧ SeqAt.shaped p = true ∧ SeqAt.shaped q = true ∧ PyData.eqv p q = b := by
  unfold eqP at h
  split at h
  · rename_i a b e1 e2
    split at h
    · rename_i hs
      cases h
      exact ⟨a, b, rv.dp e1, ru.dp e2, hs.1, hs.2, rfl⟩
    · cases h
  · cases h
theorem eqS_rep {K : PySem.W.Frag} {xl al : List Addr} {H : Hp} {S : DS} {x y : D} {v u : V} {b : Bool} (w : Wd K xl S al H) (h : eqS S x y = some b) (rv : Rep K xl al H x v) (ru : Rep K xl al H y u) :
    ∃ p q, Dp K H v p ∧ Dp K H u q ∧ SeqAt.shaped p = true ∧ SeqAt.shaped q = true ∧ PyData.eqv p q = b := by
  unfold eqS at h
  split at h
  · rename_i a b e1 e2
    split at h
    · rename_i hs
      cases h
      exact ⟨a, b, toPyS_dp w rv e1, toPyS_dp w ru e2, hs.1, hs.2, rfl⟩
    · cases h
  · cases h
theorem o_eq (hu : X.A.units + 64 < cLine) : OOk X cm (compareOp .Eq) eqO := by
  refine ⟨_, op_eq.or (op_eqD hu), fun xl al H S x y v u Q W0 w rv ru p => ?_⟩
  unfold eqO at p
  split at p
  · rename_i b hb
    unfold eqB at hb
    split at hb
    · rename_i b' h
      cases hb
      obtain ⟨h1, rfl⟩ := scalD_rep h rv ru
      exact .inl ⟨h1, p.here w _ (.bl _)⟩
    · obtain ⟨a, c, h1, h2, h3, h4, rfl⟩ := eqP_rep hb rv ru
      exact .inr ⟨a, c, h1, h2, h3, h4, p.here w _ (.bl _)⟩
  · split at p
    · rename_i b hb
      obtain ⟨a, c, h1, h2, h3, h4, rfl⟩ := eqS_rep w hb rv ru
      exact .inr ⟨a, c, h1, h2, h3, h4, p.here w _ (.bl _)⟩
    · exact p.elim
theorem o_ne (hu : X.A.units + 64 < cLine) : OOk X cm (compareOp .NotEq) neO := by
  refine ⟨_, op_ne.or (op_neD hu), fun xl al H S x y v u Q W0 w rv ru p => ?_⟩
  unfold neO at p
  split at p
  · rename_i b hb
    unfold eqB at hb
    split at hb
    · rename_i b' h
      cases hb
      obtain ⟨h1, rfl⟩ := scalD_rep h rv ru
      exact .inl ⟨h1, p.here w _ (.bl _)⟩
    · obtain ⟨a, c, h1, h2, h3, h4, rfl⟩ := eqP_rep hb rv ru
      exact .inr ⟨a, c, h1, h2, h3, h4, p.here w _ (.bl _)⟩
  · split at p
    · rename_i b hb
      obtain ⟨a, c, h1, h2, h3, h4, rfl⟩ := eqS_rep w hb rv ru
      exact .inr ⟨a, c, h1, h2, h3, h4, p.here w _ (.bl _)⟩
    · exact p.elim
theorem o_cmp {op : CmpOp} {f : Int → Int → Bool} (h : OpR X (compareOp op) (rI0 fun i j => .bl (f i j))) : OOk X cm (compareOp op) (cmpO f) := by
  refine ⟨_, h, fun xl al H S x y v u Q W0 w rv ru p => ?_⟩
  unfold cmpO at p
  split at p
  · cases rv; cases ru
    exact ⟨_, _, rfl, rfl, p.here w _ (.bl _)⟩
  · exact p.elim
theorem o_lt : OOk X cm (compareOp .Lt) ltO := o_cmp op_lt
theorem o_le : OOk X cm (compareOp .LtE) leO := o_cmp op_le
theorem o_gt : OOk X cm (compareOp .Gt) gtO := o_cmp op_gt
theorem o_ge : OOk X cm (compareOp .GtE) geO := o_cmp op_ge
theorem o_is : OOk X cm (compareOp .Is) isO := by
  refine ⟨_, op_isN.or op_isBl, fun xl al H S x y v u Q W0 w rv ru p => ?_⟩
  unfold isO at p
  split at p
  · cases rv; cases ru
    exact .inl ⟨rfl, p.here w _ (.bl _)⟩
  · rename_i h
    cases ru
    refine .inl ⟨rfl, ?_⟩
    have hn : decide (v = V.non) = false := decide_eq_false fun e => by
      subst e
      cases rv
      exact h rfl
    rw [hn]
    exact p.here w _ (.bl _)
  · cases rv; cases ru
    exact .inr ⟨_, _, rfl, rfl, p.here w _ (.bl _)⟩
  · exact p.elim
theorem o_isn : OOk X cm (compareOp .IsNot) isnO := by
  refine ⟨_, op_notN.or op_notBl, fun xl al H S x y v u Q W0 w rv ru p => ?_⟩
  unfold isnO at p
  split at p
  · cases rv; cases ru
    exact .inl ⟨rfl, p.here w _ (.bl _)⟩
  · rename_i h
    cases ru
    refine .inl ⟨rfl, ?_⟩
    have hn : decide (v = V.non) = false := decide_eq_false fun e => by
      subst e
      cases rv
      exact h rfl
    rw [hn]
    exact p.here w _ (.bl _)
  · cases rv; cases ru
    exact .inr ⟨_, _, rfl, rfl, p.here w _ (.bl _)⟩
  · exact p.elim
end

/-! subscripts, slices -/
def getI (xs : List D) (i : Int) (S : DS) : Ou D := match atI xs i with
  | some d => .ok d S
  | none => .no
def ixO (x y : D) (S : DS) : Ou D := match x, y with
  | .tup xs, .int i => getI xs i S
  | .vl xs, .int i => getI xs i S
  | .fz xs, .int i => getI xs i S
  | .ref p, .int i => match S[p]? with
    | some (DO.lst xs) => getI xs i S
    | none => .no
  | _, _ => .no
theorem atI_rep {K : PySem.W.Frag} {xl al : List Addr} {H : Hp} {xs : List D} {vs : List V} (r : Reps K xl al H xs vs) {i : Int} {d : D} (h : atI xs i = some d) : ∃ v, atI vs i = some v ∧ Rep K xl al H d v := by
  unfold atI at h ⊢
  rw [r.length] at h
  cases e : ixN vs.length i with
  | none => rw [e] at h; cases h
  | some j =>
    rw [e] at h
    exact r.get h
section
variable {X : Cx} {cm : CM}
theorem getI_ok {K : PySem.W.Frag} {xl al : List Addr} {H : Hp} {S : DS} {Q : VK} {W0 : WH} {xs : List D} {vs : List V} {i : Int} (w : Wd K xl S al H) (r : Reps K xl al H xs vs) (p : Post K cm xl W0 (RE K xl Q) (getI xs i S) al H) :
    ∃ v, atI vs i = some v ∧ Q v H := by
  unfold getI at p
  split at p
  · rename_i d e
    obtain ⟨v, h1, h2⟩ := atI_rep r e
    exact ⟨v, h1, p.here w _ h2⟩
  · exact p.elim
theorem i_seq : IOk X cm ixO := by
  refine ⟨_, ix_list.or ix_tup, fun xl al H S x y v u Q W0 w rv ru p => ?_⟩
  unfold ixO at p
  split at p
  · obtain ⟨a, vs, rfl, ha, r1⟩ := rep_tup rv
    cases ru
    obtain ⟨z, h1, h2⟩ := getI_ok w r1 p
    exact .inr ⟨a, vs, _, z, rfl, rfl, ha, h1, h2⟩
  · obtain ⟨a, vs, rfl, ha, na, nxa, r1⟩ := rep_ref_lst rv
    cases ru
    obtain ⟨z, h1, h2⟩ := getI_ok w r1 p
    exact .inl ⟨a, vs, _, z, rfl, rfl, SqL.of ha, h1, h2⟩
  · cases ru
    cases rv with
    | fz h n r =>
      obtain ⟨z, h1, h2⟩ := getI_ok w r p
      exact .inl ⟨_, _, _, z, rfl, rfl, .inl (.inr ⟨_, h⟩), h1, h2⟩
    | fzK k c h r =>
      obtain ⟨z, h1, h2⟩ := getI_ok w r p
      exact .inl ⟨_, _, _, z, rfl, rfl, h H, h1, h2⟩
  · cases ru
    split at p
    · rename_i xs e
      cases rv with
      | ref h =>
        obtain ⟨a, vs, h1, h2, h3⟩ := w.list e
        rw [h] at h1; cases h1
        obtain ⟨z, h4, h5⟩ := getI_ok w h3 p
        exact .inl ⟨_, _, _, z, rfl, rfl, SqL.of h2, h4, h5⟩
    · exact p.elim
  · exact p.elim
end
def cutD (xs : List D) (lo hi : Option Int) : List D := (xs.drop (HT.sIx xs.length 0 lo)).take (HT.sIx xs.length xs.length hi - HT.sIx xs.length 0 lo)
theorem Reps.cut {K : PySem.W.Frag} {xl al : List Addr} {H : Hp} {xs : List D} {vs : List V} (r : Reps K xl al H xs vs) (lo hi : Option Int) : Reps K xl al H (cutD xs lo hi) (cutV vs lo hi) := by
  unfold cutD cutV
  rw [r.length]
  exact (r.drop _).take _
def slO (x : D) (lo hi : Option Int) (S : DS) : Ou D := match x with
  | .tup xs => .ok (.tup (cutD xs lo hi)) S
  | .vl xs => .ok (.vl (cutD xs lo hi)) S
  | .fz xs => .ok (.vl (cutD xs lo hi)) S
  | .ref p => match S[p]? with
    | some (DO.lst xs) => .ok (.vl (cutD xs lo hi)) S
    | none => .no
  | .str z => if z.length ≤ sizeLine then .ok (.str (cutS z lo hi)) S else .no
  | _ => .no
section
variable {X : Cx} {cm : CM}
theorem l_seq : LOk X cm slO := by
  refine ⟨_, sl_list.or (sl_tupA.or sl_str), fun xl al H S x v lo hi Q W0 w rv p => ?_⟩
  unfold slO at p
  split at p
  · obtain ⟨a, vs, rfl, ha, r1⟩ := rep_tup rv
    refine .inr (.inl ⟨a, vs, rfl, ha, fun hw => ?_, fun _ q hq => ?_⟩)
    · have r2 := r1.cut lo hi
      have e : cutV vs lo hi = vs := by
        unfold cutV
        rw [hw.1, hw.2]
        simp
      rw [e] at r2
      exact p.here w _ (.tup ha r2)
    · exact p al _ (ext_new hq) (w.put hq) _ (Rep.newTup (S := S) hq (r1.cut lo hi))
  · obtain ⟨a, vs, rfl, ha, na, nxa, r1⟩ := rep_ref_lst rv
    refine .inl ⟨a, vs, rfl, SqL.of ha, fun q hq => ?_⟩
    exact p al _ (ext_new hq) (w.put hq) _ (Rep.newLst w hq (r1.cut lo hi))
  · cases rv with
    | fz h n r =>
      refine .inl ⟨_, _, rfl, .inl (.inr ⟨_, h⟩), fun q hq => ?_⟩
      exact p al _ (ext_new hq) (w.put hq) _ (Rep.newLst w hq (r.cut lo hi))
    | fzK k c h r =>
      refine .inl ⟨_, _, rfl, h H, fun q hq => ?_⟩
      exact p al _ (ext_new hq) (w.put hq) _ (Rep.newLst w hq (r.cut lo hi))
  · split at p
    · rename_i xs e
      cases rv with
      | ref h =>
        obtain ⟨a, vs, h1, h2, h3⟩ := w.list e
        rw [h] at h1; cases h1
        refine .inl ⟨_, vs, rfl, SqL.of h2, fun q hq => ?_⟩
        exact p al _ (ext_new hq) (w.put hq) _ (Rep.newLst w hq (h3.cut lo hi))
    · exact p.elim
  · cases rv
    split at p
    · rename_i hl
      exact .inr (.inr ⟨_, rfl, hl, p.here w _ (.str _)⟩)
    · exact p.elim
  · exact p.elim
end

/-! built-in functions -/
def lenO (xs : List D) (S : DS) : Ou D := match xs with
  | [.tup ys] => .ok (.int ys.length) S
  | [.vl ys] => .ok (.int ys.length) S
  | [.fz ys] => .ok (.int ys.length) S
  | [.ref p] => match S[p]? with
    | some (DO.lst ys) => .ok (.int ys.length) S
    | none => .no
  | [.str z] => if z.length ≤ sizeLine then .ok (.int z.length) S else .no
  | _ => .no
def absO (xs : List D) (S : DS) : Ou D := match xs with
  | [.int i] => .ok (.int (if i < 0 then -i else i)) S
  | _ => .no
def intO (xs : List D) (S : DS) : Ou D := match xs with
  | [.int i] => .ok (.int i) S
  | [.bl k] => .ok (.int (if k then 1 else 0)) S
  | _ => .no
def tupleO (xs : List D) (S : DS) : Ou D := match xs with
  | [.tup ys] => .ok (.tup ys) S
  | [.vl ys] => .ok (.tup ys) S
  | [.fz ys] => .ok (.tup ys) S
  | [.ref p] => match S[p]? with
    | some (DO.lst ys) => .ok (.tup ys) S
    | none => .no
  | _ => .no
def listO (xs : List D) (S : DS) : Ou D := match xs with
  | [.tup ys] => .ok (.vl ys) S
  | [.vl ys] => .ok (.vl ys) S
  | [.fz ys] => .ok (.vl ys) S
  | [.ref p] => match S[p]? with
    | some (DO.lst ys) => .ok (.vl ys) S
    | none => .no
  | _ => .no
def asBls : List D → Option (List Bool)
  | [] => some []
  | .bl b :: r => (asBls r).map (b :: ·)
  | _ => none
def asInts : List D → Option (List Int)
  | [] => some []
  | .int i :: r => (asInts r).map (i :: ·)
  | _ => none
def blsO (f : List Bool → Bool) (xs : List D) (S : DS) : Ou D := match xs with
  | [.vl ys] => match asBls ys with
    | some bs => .ok (.bl (f bs)) S
    | none => .no
  | _ => .no
abbrev allO := blsO fun bs => bs.all id
abbrev anyO := blsO fun bs => bs.any id
def sumO (xs : List D) (S : DS) : Ou D := match xs with
  | [.vl ys] => match asInts ys with
    | some ns => .ok (.int ns.sum) S
    | none => .no
  | _ => .no
def min2O (xs : List D) (S : DS) : Ou D := match xs with
  | [.int i, .int j] => .ok (.int (if j < i then j else i)) S
  | _ => .no
def max2O (xs : List D) (S : DS) : Ou D := match xs with
  | [.int i, .int j] => .ok (.int (if j > i then j else i)) S
  | _ => .no
section
variable {X : Cx} {cm : CM} {K : PySem.W.Frag} {xl al : List Addr} {H : Hp}
theorem reps1 {d : D} {vs : List V} (r : Reps K xl al H [d] vs) : ∃ v, vs = [v] ∧ Rep K xl al H d v := by
  cases r with
  | cons h r => cases r; exact ⟨_, rfl, h⟩
theorem reps2 {d e : D} {vs : List V} (r : Reps K xl al H [d, e] vs) : ∃ v u, vs = [v, u] ∧ Rep K xl al H d v ∧ Rep K xl al H e u := by
  cases r with
  | cons h r =>
    obtain ⟨u, rfl, h2⟩ := reps1 r
    exact ⟨_, _, rfl, h, h2⟩
theorem asBls_rep : ∀ {ds : List D} {vs : List V} {bs : List Bool}, Reps K xl al H ds vs → asBls ds = some bs → vs = bs.map V.bl
  | _, _, _, .nil, e => by simp only [asBls] at e; cases e; rfl
  | _, _, _, .cons h r, e => by
    cases h <;> simp only [asBls] at e <;> try (cases e)
    rw [Option.map_eq_some_iff] at e
    obtain ⟨bs, e1, rfl⟩ := e
    rw [List.map_cons, asBls_rep r e1]
theorem asInts_rep : ∀ {ds : List D} {vs : List V} {ns : List Int}, Reps K xl al H ds vs → asInts ds = some ns → vs = ns.map V.int
  | _, _, _, .nil, e => by simp only [asInts] at e; cases e; rfl
  | _, _, _, .cons h r, e => by
    cases h <;> simp only [asInts] at e <;> try (cases e)
    rw [Option.map_eq_some_iff] at e
    obtain ⟨bs, e1, rfl⟩ := e
    rw [List.map_cons, asInts_rep r e1]
theorem c_len : COk X cm (.builtin "len") lenO := by
  refine ⟨_, call_len_seq.or call_len_str, fun xl al H S xs vs Q W0 w rs p => ?_⟩
  unfold lenO at p
  split at p
  · obtain ⟨v, rfl, rv⟩ := reps1 rs
    obtain ⟨a, us, rfl, ha, r1⟩ := rep_tup rv
    refine .inl ⟨a, us, rfl, .inr ha, ?_⟩
    rw [← r1.length]
    exact p.here w _ (.int _)
  · obtain ⟨v, rfl, rv⟩ := reps1 rs
    obtain ⟨a, us, rfl, ha, na, nxa, r1⟩ := rep_ref_lst rv
    refine .inl ⟨a, us, rfl, .inl (SqL.of ha), ?_⟩
    rw [← r1.length]
    exact p.here w _ (.int _)
  · obtain ⟨v, rfl, rv⟩ := reps1 rs
    cases rv with
    | fz h n r =>
      refine .inl ⟨_, _, rfl, .inl (.inl (.inr ⟨_, h⟩)), ?_⟩
      rw [← r.length]
      exact p.here w _ (.int _)
    | fzK k c h r =>
      refine .inl ⟨_, _, rfl, .inl (h H), ?_⟩
      rw [← r.length]
      exact p.here w _ (.int _)
  · obtain ⟨v, rfl, rv⟩ := reps1 rs
    split at p
    · rename_i ys e
      cases rv with
      | ref h =>
        obtain ⟨a, us, h1, h2, h3⟩ := w.list e
        rw [h] at h1; cases h1
        refine .inl ⟨_, _, rfl, .inl (SqL.of h2), ?_⟩
        rw [← h3.length]
        exact p.here w _ (.int _)
    · exact p.elim
  · obtain ⟨v, rfl, rv⟩ := reps1 rs
    cases rv
    split at p
    · rename_i hl
      exact .inr ⟨_, rfl, hl, p.here w _ (.int _)⟩
    · exact p.elim
  · exact p.elim
theorem c_abs : COk X cm (.builtin "abs") absO := by
  refine ⟨_, call_abs, fun xl al H S xs vs Q W0 w rs p => ?_⟩
  unfold absO at p
  split at p
  · obtain ⟨v, rfl, rv⟩ := reps1 rs
    cases rv
    exact ⟨_, rfl, p.here w _ (.int _)⟩
  · exact p.elim
theorem c_int : COk X cm (.type "int") intO := by
  refine ⟨_, call_int1, fun xl al H S xs vs Q W0 w rs p => ?_⟩
  unfold intO at p
  split at p
  · obtain ⟨v, rfl, rv⟩ := reps1 rs
    cases rv
    exact .inl ⟨_, rfl, p.here w _ (.int _)⟩
  · obtain ⟨v, rfl, rv⟩ := reps1 rs
    cases rv
    exact .inr ⟨_, rfl, p.here w _ (.int _)⟩
  · exact p.elim
theorem c_tuple : COk X cm (.type "tuple") tupleO := by
  refine ⟨_, call_tuple_of, fun xl al H S xs vs Q W0 w rs p => ?_⟩
  unfold tupleO at p
  split at p
  · obtain ⟨v, rfl, rv⟩ := reps1 rs
    obtain ⟨a, us, rfl, ha, r1⟩ := rep_tup rv
    exact ⟨a, us, rfl, .inr ⟨ha, p.here w _ (.tup ha r1)⟩⟩
  · obtain ⟨v, rfl, rv⟩ := reps1 rs
    obtain ⟨a, us, rfl, ha, na, nxa, r1⟩ := rep_ref_lst rv
    exact ⟨a, us, rfl, .inl ⟨SqL.of ha, fun q hq => p al _ (ext_new hq) (w.put hq) _ (Rep.newTup (S := S) hq r1)⟩⟩
  · obtain ⟨v, rfl, rv⟩ := reps1 rs
    cases rv with
    | fz h n r => exact ⟨_, _, rfl, .inl ⟨.inl (.inr ⟨_, h⟩), fun q hq => p al _ (ext_new hq) (w.put hq) _ (Rep.newTup (S := S) hq r)⟩⟩
    | fzK k c h r => exact ⟨_, _, rfl, .inl ⟨h H, fun q hq => p al _ (ext_new hq) (w.put hq) _ (Rep.newTup (S := S) hq r)⟩⟩
  · obtain ⟨v, rfl, rv⟩ := reps1 rs
    split at p
    · rename_i ys e
      cases rv with
      | ref h =>
        obtain ⟨a, us, h1, h2, h3⟩ := w.list e
        rw [h] at h1; cases h1
        exact ⟨_, _, rfl, .inl ⟨SqL.of h2, fun q hq => p al _ (ext_new hq) (w.put hq) _ (Rep.newTup (S := S) hq h3)⟩⟩
    · exact p.elim
  · exact p.elim
theorem c_list : COk X cm (.type "list") listO := by
  refine ⟨_, call_list_of, fun xl al H S xs vs Q W0 w rs p => ?_⟩
  unfold listO at p
  split at p
  · obtain ⟨v, rfl, rv⟩ := reps1 rs
    obtain ⟨a, us, rfl, ha, r1⟩ := rep_tup rv
    exact ⟨a, us, rfl, .inr ha, fun q hq => p al _ (ext_new hq) (w.put hq) _ (Rep.newLst w hq r1)⟩
  · obtain ⟨v, rfl, rv⟩ := reps1 rs
    obtain ⟨a, us, rfl, ha, na, nxa, r1⟩ := rep_ref_lst rv
    exact ⟨a, us, rfl, .inl (SqL.of ha), fun q hq => p al _ (ext_new hq) (w.put hq) _ (Rep.newLst w hq r1)⟩
  · obtain ⟨v, rfl, rv⟩ := reps1 rs
    cases rv with
    | fz h n r => exact ⟨_, _, rfl, .inl (.inl (.inr ⟨_, h⟩)), fun q hq => p al _ (ext_new hq) (w.put hq) _ (Rep.newLst w hq r)⟩
    | fzK k c h r => exact ⟨_, _, rfl, .inl (h H), fun q hq => p al _ (ext_new hq) (w.put hq) _ (Rep.newLst w hq r)⟩
  · obtain ⟨v, rfl, rv⟩ := reps1 rs
    split at p
    · rename_i ys e
      cases rv with
      | ref h =>
        obtain ⟨a, us, h1, h2, h3⟩ := w.list e
        rw [h] at h1; cases h1
        exact ⟨_, _, rfl, .inl (SqL.of h2), fun q hq => p al _ (ext_new hq) (w.put hq) _ (Rep.newLst w hq h3)⟩
    · exact p.elim
  · exact p.elim
theorem c_bls {id : String} {f : List Bool → Bool} (h : CallR X (.builtin id) (fun vs H Q => ∃ (a : Addr) (bs : List Bool), vs = [V.ref a] ∧ SqL X.K H a (bs.map V.bl) ∧ Q (.bl (f bs)) H)) : COk X cm (.builtin id) (blsO f) := by
  refine ⟨_, h, fun xl al H S xs vs Q W0 w rs p => ?_⟩
  unfold blsO at p
  split at p
  · obtain ⟨v, rfl, rv⟩ := reps1 rs
    obtain ⟨a, us, rfl, ha, na, nxa, r1⟩ := rep_ref_lst rv
    split at p
    · rename_i bs e
      rw [asBls_rep r1 e] at ha
      exact ⟨a, bs, rfl, SqL.of ha, p.here w _ (.bl _)⟩
    · exact p.elim
  · exact p.elim
theorem c_all (hc : X.calm = true) : COk X cm (.builtin "all") allO := c_bls (cr_all hc)
theorem c_any (hc : X.calm = true) : COk X cm (.builtin "any") anyO := c_bls (cr_any hc)
theorem c_sum (hc : X.calm = true) : COk X cm (.builtin "sum") sumO := by
  refine ⟨_, cr_sum hc, fun xl al H S xs vs Q W0 w rs p => ?_⟩
  unfold sumO at p
  split at p
  · obtain ⟨v, rfl, rv⟩ := reps1 rs
    obtain ⟨a, us, rfl, ha, na, nxa, r1⟩ := rep_ref_lst rv
    split at p
    · rename_i bs e
      rw [asInts_rep r1 e] at ha
      exact ⟨a, bs, rfl, SqL.of ha, p.here w _ (.int _)⟩
    · exact p.elim
  · exact p.elim
theorem c_min2 (hc : X.calm = true) : COk X cm (.builtin "min") min2O := by
  refine ⟨_, call_min2 hc, fun xl al H S xs vs Q W0 w rs p => ?_⟩
  unfold min2O at p
  split at p
  · obtain ⟨v, u, rfl, rv, ru⟩ := reps2 rs
    cases rv; cases ru
    exact ⟨_, _, rfl, p.here w _ (.int _)⟩
  · exact p.elim
theorem c_max2 (hc : X.calm = true) : COk X cm (.builtin "max") max2O := by
  refine ⟨_, call_max2 hc, fun xl al H S xs vs Q W0 w rs p => ?_⟩
  unfold max2O at p
  split at p
  · obtain ⟨v, u, rfl, rv, ru⟩ := reps2 rs
    cases rv; cases ru
    exact ⟨_, _, rfl, p.here w _ (.int _)⟩
  · exact p.elim
end
end DL

namespace DL
open PySem PySem.Spec PyProof.Rows L2
variable [TabC]

/-! from an expression's outcome to a statement's -/
def lift {α : Type} (o : Ou α) (env : DE) (f : α → DS → Ou (Fl × DE)) : Ou (Fl × DE) := match o with
  | .ok a S => f a S
  | .ex x S => .ok (.xc x, env) S
  | .no => .no
@[simp] theorem lift_ok {α : Type} (a : α) (S : DS) (env : DE) (f : α → DS → Ou (Fl × DE)) : lift (.ok a S) env f = f a S := (rfl)
@[simp] theorem lift_ex {α : Type} (x : Exn) (S : DS) (env : DE) (f : α → DS → Ou (Fl × DE)) : lift (.ex x S) env f = .ok (.xc x, env) S := (rfl)
@[simp] theorem lift_no {α : Type} (env : DE) (f : α → DS → Ou (Fl × DE)) : lift .no env f = .no := (rfl)
section
variable {K : PySem.W.Frag} {cm : CM} {xl al : List Addr} {H : Hp} {W : WX} {D0 : Ends} {env : DE} {σ : L2.St} {α : Type}
theorem Post.lift {o : Ou α} {f : α → DS → Ou (Fl × DE)} (h : Post K cm xl noW (RS K cm xl W D0) (DL.lift o env f) al H) (r : EnvR K xl al H env σ) :
    Post K cm xl (fun c d H' => W c d σ H') (fun a S1 al1 H1 => Post K cm xl noW (RS K cm xl W D0) (f a S1) al1 H1) o al H := by
  cases o with
  | ok a S => exact fun al' H' e _ => Post.mono e h
  | ex x S => exact fun al' H' cls dx e w z => h al' H' e w σ (r.mono e) cls dx z
  | no => exact h
theorem Post.wk {R : α → DS → List Addr → Hp → Prop} {o : Ou α} {W0 : WH} (h : Post K cm xl noW R o al H) : Post K cm xl W0 R o al H := by
  cases o with
  | ok a S => exact h
  | ex x S => exact fun al' H' cls dx e w z => (h al' H' cls dx e w z).elim
  | no => exact h
end

def mRet (a : ME) : MS := fun env S => lift (a env S) env fun d S1 => .ok (.rt d, env) S1
def mRetN : MS := fun env S => .ok (.rt .non, env) S
def mNx : MS := fun env S => .ok (.nx, env) S
def mBk : MS := fun env S => .ok (.bk, env) S
def mCt : MS := fun env S => .ok (.ct, env) S
def mNever : MS := fun _ _ => .no
def mDo (a : ME) : MS := fun env S => lift (a env S) env fun _ S1 => .ok (.nx, env) S1
def mSet (i : Nat) (a : ME) : MS := fun env S => lift (a env S) env fun d S1 => .ok (.nx, env.set i (some d)) S1
def mAsg (g : MG) (a : ME) : MS := fun env S => lift (a env S) env fun d S1 => (g d env S1).bind fun env' S2 => .ok (.nx, env') S2
def mPar (i j : Nat) (a : MA) : MS := fun env S => lift (a env S) env fun ds S1 => match ds with
  | [x, y] => .ok (.nx, (env.set i (some x)).set j (some y)) S1
  | _ => .no
def mAug (i : Nat) (f : D → D → DS → Ou D) (a : ME) : MS := fun env S => match env[i]? with
  | some (some x) => lift (a env S) env fun y S1 => lift (f x y S1) env fun z S2 => .ok (.nx, env.set i (some z)) S2
  | _ => .no
def mIfS (c : MT) (a b : MS) : MS := fun env S => lift (c env S) env fun k S1 => if k = true then a env S1 else b env S1
def mSeq (a b : MS) : MS := fun env S => (a env S).bind fun r S1 => match r.1 with
  | .nx => b r.2 S1
  | f => .ok (f, r.2) S1

section
variable {X : Cx} {cm : CM} {W : WX} {a b c e : Expr} {es : List Expr} {ma mb mc : ME} {pos : Pos} {st : Stmt} {sts : List Stmt} {ms mr : MS}
theorem s_ret (h : EOk X cm W e ma) : SOk X cm W (.Return (some e) pos) (mRet ma) := by
  obtain ⟨t, p, d⟩ := h
  refine ⟨_, ps_ret p, fun xl al σ H S env D0 w r q => ?_⟩
  refine d xl al σ H S env _ w r ((q.lift r).imp fun x S1 al1 H1 e1 w1 p1 v rv => ?_)
  exact p1.here w1 σ (r.mono e1) v rv
theorem s_retN : SOk X cm W (.Return none pos) mRetN := ⟨_, ps_retN, fun xl al σ H S env D0 w r q => q.here w σ r _ .non⟩
theorem s_pass : SOk X cm W (.Pass pos) mNx := ⟨_, ps_pass, fun xl al σ H S env D0 w r q => q.here w σ r⟩
theorem s_break : SOk X cm W (.Break pos) mBk := ⟨_, ps_break, fun xl al σ H S env D0 w r q => q.here w σ r⟩
theorem s_continue : SOk X cm W (.Continue pos) mCt := ⟨_, ps_continue, fun xl al σ H S env D0 w r q => q.here w σ r⟩
theorem s_never : SOk X cm W st mNever := ⟨_, ps_never, fun xl al σ H S env D0 w r q => q.elim⟩
theorem s_do (h : EOk X cm W e ma) (hs : swapsWith e none pos.line X.env = pure false := by rfl) : SOk X cm W (.Expr e pos) (mDo ma) := by
  obtain ⟨t, p, d⟩ := h
  refine ⟨_, ps_expr p hs, fun xl al σ H S env D0 w r q => ?_⟩
  refine d xl al σ H S env _ w r ((q.lift r).imp fun x S1 al1 H1 e1 w1 p1 v rv => ?_)
  exact p1.here w1 σ (r.mono e1)
theorem s_set {i : Nat} {x : Str} {pos' : Pos} (hN : X.N.Nodup) (h : EOk X cm W e ma) (hi : X.N[i]? = some x := by rfl) (hx : Loc X.env.scope x := by first | exact Or.inl rfl | exact Or.inr rfl) (hs : swapsWith e (some (.Name x pos')) pos.line X.env = pure false := by rfl)
    (hf : X.fn x = true ∨ X.env.scope.names.lookup x = some .local := by first | exact .inl rfl | exact .inr rfl | assumption) : SOk X cm W (.Assign [.Name x pos'] e pos) (mSet i ma) := by
  obtain ⟨t, p, d⟩ := h
  refine ⟨_, ps_set hN hi hx p hs hf, fun xl al σ H S env D0 w r q => ?_⟩
  refine d xl al σ H S env _ w r ((q.lift r).imp fun x S1 al1 H1 e1 w1 p1 v rv => ?_)
  exact p1.here w1 _ ((r.mono e1).set rv i)
theorem s_asg {tg : Expr} {mg : MG} (h : EOk X cm W e ma) (hg : GOk X cm tg mg) (hs : swapsWithSole [tg] e pos.line X.env = pure false := by rfl) (hw : swappedStores [tg] e X.env = pure none := by rfl)
    (h1 : (assignEach [tg] X.env).map (·.2) = [assign tg X.env] := by rfl) : SOk X cm W (.Assign [tg] e pos) (mAsg mg ma) := by
  obtain ⟨t, p, d⟩ := h
  obtain ⟨tg', pg, dg⟩ := hg
  refine ⟨_, ps_asg p pg hs hw h1, fun xl al σ H S env D0 w r q => ?_⟩
  refine d xl al σ H S env _ w r ((q.lift r).imp fun x S1 al1 H1 e1 w1 p1 v rv => ?_)
  refine dg xl al1 σ H1 S1 env x v _ w1 (r.mono e1) rv (p1.bind.imp fun env' S2 al2 H2 e2 w2 p2 σ' r' => ?_)
  exact p2.here w2 σ' r'
theorem s_par {i j : Nat} {x y : Str} {px py pt : Pos} {kt k2 pt2} {mp : MA} (hc : X.calm = true) (hN : X.N.Nodup) (ha : AOk X cm W [a, b] mp) (hw : swappedStores [.Tuple [.Name x px, .Name y py] kt pt] (.Tuple [a, b] k2 pt2) X.env = pure (some [x, y]))
    (hi : X.N[i]? = some x := by rfl) (hj : X.N[j]? = some y := by rfl) (hij : i ≠ j := by decide) (hx : X.env.scope.names.lookup x = some .local := by rfl) (hy : X.env.scope.names.lookup y = some .local := by rfl)
    (hs : swapsWithSole [.Tuple [.Name x px, .Name y py] kt pt] (.Tuple [a, b] k2 pt2) pos.line X.env = pure false := by rfl) :
    SOk X cm W (.Assign [.Tuple [.Name x px, .Name y py] kt pt] (.Tuple [a, b] k2 pt2) pos) (mPar i j mp) := by
  obtain ⟨t, p, d⟩ := ha
  refine ⟨_, ps_par hc hN hi hj hij hx hy p hw hs, fun xl al σ H S env D0 w r q => ?_⟩
  refine d xl al σ H S env _ w r ((q.lift r).imp fun xs S1 al1 H1 e1 w1 p1 vs rvs => ?_)
  split at p1
  · obtain ⟨v, u, rfl, rv, ru⟩ := reps2 rvs
    exact ⟨v, u, rfl, p1.here w1 _ (((r.mono e1).set rv i).set ru j)⟩
  · exact p1.elim
theorem s_aug {i : Nat} {x : Str} {op : Operator} {f : D → D → DS → Ou D} {pos' : Pos} (hN : X.N.Nodup) (ho : OOk X cm (inplaceOp op) f) (h : EOk X cm W e ma) (hi : X.N[i]? = some x := by rfl) (hx : Loc X.env.scope x := by first | exact Or.inl rfl | exact Or.inr rfl)
    (hf : X.fn x = true ∨ X.env.scope.names.lookup x = some .local := by first | exact .inl rfl | exact .inr rfl | assumption) : SOk X cm W (.AugAssign (.Name x pos') op e pos) (mAug i f ma) := by
  obtain ⟨t, p, d⟩ := h
  obtain ⟨r0, hr, dr⟩ := ho
  refine ⟨_, ps_aug hN hi hx p (show PIp X op r0 from hr) hf, fun xl al σ H S env D0 w r q => ?_⟩
  unfold mAug at q
  split at q
  · rename_i x0 e0
    obtain ⟨v0, h0, rv0⟩ := r.at' i x0 e0
    refine ⟨v0, h0, ?_⟩
    refine d xl al σ H S env _ w r ((q.lift r).imp fun y S1 al1 H1 e1 w1 p1 v rv => ?_)
    refine dr xl al1 H1 S1 x0 y v0 v _ _ w1 (rv0.mono e1) rv ((p1.lift (r.mono e1)).imp fun z S2 al2 H2 e2 w2 p2 u ru => ?_)
    exact p2.here w2 _ (((r.mono e1).mono e2).set ru i)
  · exact q.elim
theorem s_if {mt : MT} {ta tb : List Stmt} (hc : TOk X cm W c mt) (ha : SsOk X cm W ta ms) (hb : SsOk X cm W tb mr) : SOk X cm W (.If c ta tb pos) (mIfS mt ms mr) := by
  obtain ⟨tc, pc, dc⟩ := hc
  obtain ⟨t1, p1, d1⟩ := ha
  obtain ⟨t2, p2, d2⟩ := hb
  refine ⟨_, ps_if pc p1 p2, fun xl al σ H S env D0 w r q => ?_⟩
  refine dc xl al σ H S env _ w r ((q.lift r).imp fun k S1 al1 H1 e1 w1 q1 => ?_)
  cases k with
  | true => exact d1 xl al1 σ H1 S1 env D0 w1 (r.mono e1) q1
  | false => exact d2 xl al1 σ H1 S1 env D0 w1 (r.mono e1) q1
theorem ss_nil : SsOk X cm W [] mNx := ⟨_, pss_nil, fun xl al σ H S env D0 w r q => q.here w σ r⟩
theorem ss_one (h : SOk X cm W st ms) : SsOk X cm W [st] ms := by
  obtain ⟨t, p, d⟩ := h
  exact ⟨_, pss_one p, d⟩
theorem ss_cons (h : SOk X cm W st ms) (h' : SsOk X cm W sts mr) : SsOk X cm W (st :: sts) (mSeq ms mr) := by
  obtain ⟨t, p, d⟩ := h
  obtain ⟨t', p', d'⟩ := h'
  refine ⟨_, pss_cons p p', fun xl al σ H S env D0 w r q => ?_⟩
  refine d xl al σ H S env { D0 with nx := t' D0 } w r (q.bind.imp fun z S1 al1 H1 e1 w1 q1 σ' r' => ?_)
  obtain ⟨f, env1⟩ := z
  cases f with
  | nx => exact d' xl al1 σ' H1 S1 env1 D0 w1 r' q1
  | rt d => exact Post.here w1 q1 σ' r'
  | bk => exact Post.here w1 q1 σ' r'
  | ct => exact Post.here w1 q1 σ' r'
  | xc x => exact Post.here w1 q1 σ' r'
end

/-! targets; vs: the slots that they store -/
def Agr (vs : List Nat) (σ' σ : L2.St) : Prop := σ'.length = σ.length ∧ ∀ j : Nat, j ∉ vs → σ'[j]? = σ[j]?
def DenGA (K : PySem.W.Frag) (cm : CM) (t : TG) (m : MG) (vs : List Nat) : Prop := ∀ xl al σ H S env d v (Q : L2.St → Hp → Prop), Wd K xl S al H → EnvR K xl al H env σ → Rep K xl al H d v →
  Post K cm xl noW (fun env' _ al' H' => ∀ σ', EnvR K xl al' H' env' σ' → Agr vs σ' σ → Q σ' H') (m d env S) al H → t v σ H Q
def GAOk (X : Cx) (cm : CM) (e : Expr) (m : MG) (vs : List Nat) : Prop := ∃ t, PG X e t ∧ DenGA X.K cm t m vs
def DenGsA (K : PySem.W.Frag) (cm : CM) (t : TGs) (m : List D → DE → DS → Ou DE) (vs : List Nat) : Prop := ∀ xl al σ H S env ds us (Q : L2.St → Hp → Prop), Wd K xl S al H → EnvR K xl al H env σ → Reps K xl al H ds us →
  Post K cm xl noW (fun env' _ al' H' => ∀ σ', EnvR K xl al' H' env' σ' → Agr vs σ' σ → Q σ' H') (m ds env S) al H → t us σ H Q
def GsAOk (X : Cx) (cm : CM) (es : List Expr) (m : List D → DE → DS → Ou DE) (vs : List Nat) : Prop := ∃ t, PGs X es t ∧ DenGsA X.K cm t m vs
def gN (i : Nat) : MG := fun d env S => .ok (env.set i (some d)) S
def gsN : List D → DE → DS → Ou DE := fun ds env S => match ds with
  | [] => .ok env S
  | _ => .no
def gsC (g : MG) (r : List D → DE → DS → Ou DE) : List D → DE → DS → Ou DE := fun ds env S => match ds with
  | d :: ds => (g d env S).bind fun env1 S1 => r ds env1 S1
  | _ => .no
def gT (n : Nat) (r : List D → DE → DS → Ou DE) : MG := fun d env S => match d with
  | .tup ds => if ds.length = n then r ds env S else .no
  | _ => .no
section
variable {X : Cx} {cm : CM} {W : WX} {e : Expr} {es : List Expr} {pos : Pos} {mg : MG} {vs ws : List Nat}
theorem GAOk.g (h : GAOk X cm e mg vs) : GOk X cm e mg := by
  obtain ⟨t, p, d⟩ := h
  exact ⟨t, p, fun xl al σ H S env d0 v Q w r rv q => d xl al σ H S env d0 v Q w r rv (q.imp fun env' S' al' H' e1 w1 p1 σ' r' _ => p1 σ' r')⟩
theorem ga_name {i : Nat} {x : Str} (hN : X.N.Nodup) (hi : X.N[i]? = some x := by rfl) (hx : Loc X.env.scope x := by first | exact Or.inl rfl | exact Or.inr rfl) (hf : X.fn x = true ∨ X.env.scope.names.lookup x = some .local := by first | exact .inl rfl | exact .inr rfl | assumption) :
    GAOk X cm (.Name x pos) (gN i) [i] := by
  refine ⟨_, pg_name hN hi hx hf, fun xl al σ H S env d v Q w r rv q => ?_⟩
  refine q.here w _ (r.set rv i) ⟨List.length_set, fun j hj => ?_⟩
  rw [List.getElem?_set_ne]
  intro z
  exact hj (by simp [z])
theorem gas_nil : GsAOk X cm [] gsN [] := by
  refine ⟨_, pgs_nil, fun xl al σ H S env ds us Q w r rs q => ?_⟩
  unfold gsN at q
  split at q
  · cases rs
    exact ⟨rfl, q.here w _ r ⟨rfl, fun _ _ => rfl⟩⟩
  · exact q.elim
theorem gas_cons {mr : List D → DE → DS → Ou DE} (h : GAOk X cm e mg vs) (h' : GsAOk X cm es mr ws) (hs : (assignEach (e :: es) X.env).map (·.2) = assign e X.env :: (assignEach es X.env).map (·.2) := by rfl) : GsAOk X cm (e :: es) (gsC mg mr) (vs ++ ws) := by
  obtain ⟨t, p, d⟩ := h
  obtain ⟨t', p', d'⟩ := h'
  refine ⟨_, pgs_cons p p' hs, fun xl al σ H S env ds us Q w r rs q => ?_⟩
  unfold gsC at q
  split at q
  · cases rs with
    | cons rv rs =>
      refine ⟨_, _, rfl, ?_⟩
      refine d xl al σ H S env _ _ _ w r rv (q.bind.imp fun env1 S1 al1 H1 e1 w1 q1 σ1 r1 a1 => ?_)
      refine d' xl al1 σ1 H1 S1 env1 _ _ _ w1 r1 (rs.mono e1) (q1.imp fun env2 S2 al2 H2 e2 w2 q2 σ2 r2 a2 => ?_)
      refine q2 σ2 r2 ⟨a2.1.trans a1.1, fun j hj => ?_⟩
      rw [List.mem_append, not_or] at hj
      exact (a2.2 j hj.2).trans (a1.2 j hj.1)
  · exact q.elim
theorem ga_tup {mr : List D → DE → DS → Ou DE} {n k : Nat} (hc : X.calm = true) (h : GsAOk X cm es mr vs) (hn : (assignEach es X.env).length = n := by rfl) (hst : (assignEach es X.env).findIdx? (·.1) = none := by rfl) : GAOk X cm (.Tuple es k pos) (gT n mr) vs := by
  obtain ⟨t, p, d⟩ := h
  refine ⟨_, pg_tup hc p hn hst, fun xl al σ H S env d0 v Q w r rv q => ?_⟩
  unfold gT at q
  split at q
  · obtain ⟨a, us, rfl, ha, r1⟩ := rep_tup rv
    split at q
    · rename_i hl
      refine ⟨a, us, rfl, ha, r1.length ▸ hl, ?_⟩
      exact d xl al σ H S env _ us Q w r r1 q
    · exact q.elim
  · exact q.elim
end
/-! o[i] = v -/
def gSubM (o i : ME) (f : D → D → D → DS → Ou Unit) : MG := fun v env S => (o env S).bind fun x S1 => (i env S1).bind fun k S2 => (f x k v S2).bind fun _ S3 => .ok env S3
def setO (x k v : D) (S : DS) : Ou Unit := match x, k with
  | .ref p, .int i => match S[p]? with
    | some (DO.lst xs) => match ixN xs.length i with
      | some j => .ok () (S.set p (.lst (xs.set j v)))
      | none => .no
    | none => .no
  | _, _ => .no
section
variable {X : Cx} {cm : CM} {o i : Expr} {mo mi : ME} {pos : Pos}
theorem g_sub (ho : EOk X cm (fun _ _ _ _ => False) o mo) (hi : EOk X cm (fun _ _ _ _ => False) i mi)
    (ha : ∀ v, assign (.Subscript o i pos) X.env v = (do
      let ov ← holding [v] (eval o X.env)
      let iv ← holding [v, ov] (eval i X.env)
      standAt pos
      holding [v, ov, iv] (setItem ov iv v)
      release [v, ov, iv] []) := by intro _; rfl) : GOk X cm (.Subscript o i pos) (gSubM mo mi setO) := by
  obtain ⟨to, po, dn⟩ := ho
  obtain ⟨ti, pi, di⟩ := hi
  refine ⟨_, pg_sub po pi set_list ha, fun xl al σ H S env d v Q w r rv q => ?_⟩
  refine dn xl al σ H S env _ w r (q.bind.imp fun x S1 al1 H1 e1 w1 q1 xv rx => ?_)
  refine di xl al1 σ H1 S1 env _ w1 (r.mono e1) (q1.bind.imp fun k S2 al2 H2 e2 w2 q2 kv rk => ?_)
  unfold setO at q2
  split at q2
  · rename_i p n
    split at q2
    · rename_i xs hS
      split at q2
      · rename_i j hj
        cases rk
        have rx2 := rx.mono e2
        cases rx2 with
        | ref h =>
          obtain ⟨a, us, h1, h2, h3⟩ := w2.list hS
          rw [h] at h1; cases h1
          have rv2 := (rv.mono e1).mono e2
          refine ⟨_, us, _, j, rfl, rfl, h2, by rw [← h3.length]; exact hj, ?_⟩
          exact q2 al2 _ (ext_write (List.mem_of_getElem? h) h2) (w2.write hS h h2 (h3.set rv2 j)) _ (((r.mono e1).mono e2).mono (ext_write (List.mem_of_getElem? h) h2))
      · exact q2.elim
    · exact q2.elim
  · exact q2.elim
end
end DL

namespace DL
open PySem PySem.Spec PyProof.Rows L2
variable [TabC]

/-! what is walked: its items, as they stood; a list that may be changed must stand still -/
structure Itm where
  items : List D
  g : Option (Nat × List D)
def Itm.okB (it : Itm) (S : DS) : Prop := match it.g with
  | none => True
  | some p => S[p.1]? = some (DO.lst p.2)
open Classical in
noncomputable def Itm.gate {α : Type} (it : Itm) (S : DS) (k : Ou α) : Ou α := if it.okB S then k else .no
theorem gate_none {α : Type} (xs : List D) (S : DS) (k : Ou α) : (Itm.mk xs none).gate S k = k := if_pos True.intro
theorem gate_some {α : Type} (xs ys : List D) (p : Nat) (S : DS) (k : Ou α) (h : S[p]? = some (DO.lst ys)) : (Itm.mk xs (some (p, ys))).gate S k = k := if_pos (show (Itm.mk xs (some (p, ys))).okB S from h)
theorem Post.gate {K : PySem.W.Frag} {cm : CM} {xl al : List Addr} {H : Hp} {W0 : WH} {α : Type} {R : α → DS → List Addr → Hp → Prop} {it : Itm} {S : DS} {k : Ou α} (p : Post K cm xl W0 R (it.gate S k) al H) : it.okB S ∧ Post K cm xl W0 R k al H := by
  unfold Itm.gate at p
  split at p
  · rename_i h
    exact ⟨h, p⟩
  · exact p.elim
abbrev MIt := DE → DS → Ou Itm
def NewOnly (H H' : Hp) : Prop := ∀ a o, H a = some o → H' a = some o
theorem NewOnly.ext {al : List Addr} {H H' : Hp} (n : NewOnly H H') : Ext al H al H' := ⟨⟨[], by simp⟩, fun a o _ _ h => n a o h, fun a vs h => by
  rcases h with h | ⟨o, h⟩
  · exact .inl (n _ _ h)
  · exact .inr ⟨o, n _ _ h⟩, fun a _ h q _ => absurd h q⟩
theorem NewOnly.wd {K : PySem.W.Frag} {xl al : List Addr} {S : DS} {H H' : Hp} (n : NewOnly H H') (w : Wd K xl S al H) : Wd K xl S al H' := w.keep n.ext (fun a h => by
  obtain ⟨_, _, _, e⟩ := w.at h
  rw [e, n a _ e]) (w.tb.ext n)
/-- J gives the items, from (al1, H1) on -/
def Yields (K : PySem.W.Frag) (xl al1 : List Addr) (H1 : Hp) (it : Itm) (J : It) : Prop := ∀ xl' S' al' H', Ext al1 H1 al' H' → (∀ q, q ∈ xl' → q ∈ xl ∨ H1 q = none) → Wd K xl' S' al' H' → it.okB S' →
  (∀ (i : Nat) d, it.items[i]? = some d → J.go i H' ∧ ∀ x H'', J.yld i H' x H'' → NewOnly H' H'' ∧ Rep K xl' al' H'' d x) ∧ J.stop it.items.length H'
def IOk' (X : Cx) (cm : CM) (W : WX) (tg iter : Expr) (m : MIt) : Prop := ∃ wi, PI X tg iter wi ∧ ∀ xl al σ H S env (R : It → Hp → Prop), Wd X.K xl S al H → EnvR X.K xl al H env σ →
  Post X.K cm xl (fun c d H' => W c d σ H') (fun it S1 al1 H1 => ∀ J, Yields X.K xl al1 H1 it J → R J H1) (m env S) al H → wi σ H R

/-! for -/
noncomputable def forL (g : MG) (body : MS) (it : Itm) : List D → DE → DS → Ou (Fl × DE)
  | [], env, S => it.gate S (.ok (.nx, env) S)
  | d :: r, env, S => it.gate S ((g d env S).bind fun env1 S1 => (body env1 S1).bind fun q S2 => match q.1 with
    | .nx => forL g body it r q.2 S2
    | .ct => forL g body it r q.2 S2
    | .bk => .ok (.nx, q.2) S2
    | f => .ok (f, q.2) S2)
noncomputable def mFor (mi : MIt) (g : MG) (body : MS) : MS := fun env S => lift (mi env S) env fun it S1 => forL g body it it.items env S1
section
variable {X : Cx} {cm : CM} {W : WX} {pos : Pos}
theorem s_for {tg iter : Expr} {body : List Stmt} {mi : MIt} {mg : MG} {mb : MS} (hp : PassesOwn (model X.prog X.w) X.A X.env X.xe) (hc : X.calm = true) (hi : IOk' X cm W tg iter mi) (hg : GOk X cm tg mg) (hb : SsOk X cm W body mb)
    (hs : ∀ x, foldedSetIterable iter X.env x = pure x := by intro _; rfl) : SOk X cm W (.For tg iter body [] pos) (mFor mi mg mb) := by
  obtain ⟨wi, pi, di⟩ := hi
  obtain ⟨tgt, pg, dg⟩ := hg
  obtain ⟨tb, pb, db⟩ := hb
  refine ⟨_, ps_for hp hc pi pg pb hs, fun xl al σ H S env D0 w r q => ?_⟩
  refine di xl al σ H S env _ w r ((q.lift r).imp fun it S1 al1 H1 e1 w1 q1 J hJ => ?_)
  refine ⟨fun i m σ' H' => m = it.items.length - i ∧ i ≤ it.items.length ∧ ∃ al' S' env', Ext al1 H1 al' H' ∧ Wd X.K xl S' al' H' ∧ EnvR X.K xl al' H' env' σ' ∧ Post X.K cm xl noW (RS X.K cm xl W D0) (forL mg mb it (it.items.drop i) env' S') al' H',
    ⟨_, rfl, Nat.zero_le _, al1, S1, env, Ext.refl _ _, w1, r.mono e1, by rw [List.drop_zero]; exact q1⟩, ?_⟩
  rintro i m σ' H' ⟨rfl, hi, al', S', env', e', w', r', p'⟩
  by_cases hlt : i < it.items.length
  · refine .inr ?_
    rw [List.drop_eq_getElem_cons hlt] at p'
    unfold forL at p'
    obtain ⟨ok, p'⟩ := p'.gate
    obtain ⟨hy, _⟩ := hJ xl S' al' H' e' (fun q h => .inl h) w' ok
    obtain ⟨go, yld⟩ := hy i _ (List.getElem?_eq_getElem hlt)
    refine ⟨go, fun σ'' H'' => ∃ al'' S'' env'', Ext al1 H1 al'' H'' ∧ Wd X.K xl S'' al'' H'' ∧ EnvR X.K xl al'' H'' env'' σ'' ∧ Post X.K cm xl noW (RS X.K cm xl W D0) (forL mg mb it (it.items.drop (i + 1)) env'' S'') al'' H'',
      fun σ'' H'' hN => ⟨it.items.length - (i + 1), by omega, rfl, hlt, hN⟩, fun x H'' hyx => ?_⟩
    obtain ⟨no, rx⟩ := yld x H'' hyx
    have w2 := no.wd w'
    have e2 : Ext al1 H1 al' H'' := e'.trans no.ext
    refine dg xl al' σ' H'' S' env' _ x _ w2 (r'.mono no.ext) rx ((Post.mono no.ext p').bind.imp fun env1 S3 al3 H3 e3 w3 p3 σ3 r3 => ?_)
    refine db xl al3 σ3 H3 S3 env1 _ w3 r3 (p3.bind.imp fun z S4 al4 H4 e4 w4 p4 σ4 r4 => ?_)
    obtain ⟨f, env4⟩ := z
    have e5 : Ext al1 H1 al4 H4 := (e2.trans e3).trans e4
    cases f with
    | nx => exact ⟨al4, S4, env4, e5, w4, r4, p4⟩
    | ct => exact ⟨al4, S4, env4, e5, w4, r4, p4⟩
    | bk => exact Post.here w4 p4 σ4 r4
    | rt d => exact Post.here w4 p4 σ4 r4
    | xc x => exact Post.here w4 p4 σ4 r4
  · have ei : i = it.items.length := by omega
    subst ei
    rw [List.drop_length] at p'
    unfold forL at p'
    obtain ⟨ok, p'⟩ := p'.gate
    obtain ⟨_, hs⟩ := hJ xl S' al' H' e' (fun q h => .inl h) w' ok
    exact .inl ⟨hs, Post.here w' p' σ' r'⟩
end

/-! while -/
def whileL (c : MT) (body : MS) : Nat → DE → DS → Ou (Fl × DE)
  | 0, _, _ => .no
  | n + 1, env, S => lift (c env S) env fun k S1 => if k = true then (body env S1).bind fun q S2 => match q.1 with
    | .nx => whileL c body n q.2 S2
    | .ct => whileL c body n q.2 S2
    | .bk => .ok (.nx, q.2) S2
    | f => .ok (f, q.2) S2 else .ok (.nx, env) S1
theorem whileL_step {c : MT} {body : MS} : ∀ (n : Nat) (env : DE) (S : DS), whileL c body n env S ≠ .no → whileL c body (n + 1) env S = whileL c body n env S
  | 0, _, _, h => absurd rfl h
  | n + 1, env, S, h => by
    unfold whileL at h
    rw [whileL]
    conv => rhs; rw [whileL]
    cases hc : c env S with
    | no => rfl
    | ex x S1 => rfl
    | ok k S1 =>
      rw [hc] at h
      simp only [lift_ok] at h ⊢
      cases k with
      | false => rfl
      | true =>
        simp only [if_true] at h ⊢
        cases hb : body env S1 with
        | no => rfl
        | ex x S2 => rfl
        | ok q S2 =>
          obtain ⟨f, env2⟩ := q
          rw [hb] at h
          simp only [bind_ok] at h ⊢
          cases f with
          | nx => exact whileL_step n env2 S2 h
          | ct => exact whileL_step n env2 S2 h
          | bk => rfl
          | rt d => rfl
          | xc x => rfl
theorem whileL_mono {c : MT} {body : MS} {n m : Nat} {env : DE} {S : DS} (h : whileL c body n env S ≠ .no) (hm : n ≤ m) : whileL c body m env S = whileL c body n env S := by
  induction hm with
  | refl => rfl
  | step _ ih => rw [whileL_step _ _ _ (by rw [ih]; exact h), ih]
open Classical in
/-- the loop, run to its end -/
noncomputable def mWhile (c : MT) (body : MS) : MS := fun env S => if h : ∃ n, whileL c body n env S ≠ .no then whileL c body h.choose env S else .no
theorem mWhile_of {c : MT} {body : MS} {n : Nat} {env : DE} {S : DS} (h : whileL c body n env S ≠ .no) : mWhile c body env S = whileL c body n env S := by
  unfold mWhile
  have hx : ∃ n, whileL c body n env S ≠ .no := ⟨n, h⟩
  rw [dif_pos hx]
  rcases Nat.le_total n hx.choose with l | l
  · exact whileL_mono h l
  · exact (whileL_mono hx.choose_spec l).symm
theorem mWhile_no {c : MT} {body : MS} {env : DE} {S : DS} (h : ∀ n, whileL c body n env S = .no) : mWhile c body env S = .no := by
  unfold mWhile
  rw [dif_neg (fun ⟨n, q⟩ => q (h n))]
/-- one turn -/
theorem mWhile_eq (c : MT) (body : MS) (env : DE) (S : DS) : mWhile c body env S = lift (c env S) env fun k S1 => if k = true then (body env S1).bind fun q S2 => match q.1 with
    | .nx => mWhile c body q.2 S2
    | .ct => mWhile c body q.2 S2
    | .bk => .ok (.nx, q.2) S2
    | f => .ok (f, q.2) S2 else .ok (.nx, env) S1 := by
  have key : ∀ n, whileL c body (n + 1) env S = lift (c env S) env fun k S1 => if k = true then (body env S1).bind fun q S2 => match q.1 with
    | .nx => whileL c body n q.2 S2
    | .ct => whileL c body n q.2 S2
    | .bk => .ok (.nx, q.2) S2
    | f => .ok (f, q.2) S2 else .ok (.nx, env) S1 := fun n => rfl
  cases hc : c env S with
  | no => exact mWhile_no fun n => by cases n with
    | zero => rfl
    | succ n => rw [key, hc]; rfl
  | ex x S1 =>
    have e : whileL c body 1 env S = .ok (.xc x, env) S1 := by rw [key, hc]; rfl
    rw [mWhile_of (n := 1) (by rw [e]; exact fun z => nomatch z), e]; rfl
  | ok k S1 =>
    simp only [lift_ok]
    cases k with
    | false =>
      have e : whileL c body 1 env S = .ok (.nx, env) S1 := by rw [key, hc]; rfl
      rw [mWhile_of (n := 1) (by rw [e]; exact fun z => nomatch z), e]; rfl
    | true =>
      simp only [if_true]
      cases hb : body env S1 with
      | no => exact mWhile_no fun n => by cases n with
        | zero => rfl
        | succ n => rw [key, hc]; simp only [lift_ok, if_true, hb]; rfl
      | ex x S2 =>
        have e : whileL c body 1 env S = .ex x S2 := by rw [key, hc]; simp only [lift_ok, if_true, hb]; rfl
        rw [mWhile_of (n := 1) (by rw [e]; exact fun z => nomatch z), e]; rfl
      | ok q S2 =>
        obtain ⟨f, env2⟩ := q
        simp only [bind_ok]
        have key2 : ∀ n, whileL c body (n + 1) env S = match f with
            | .nx => whileL c body n env2 S2
            | .ct => whileL c body n env2 S2
            | .bk => .ok (.nx, env2) S2
            | f => .ok (f, env2) S2 := fun n => by rw [key, hc]; simp only [lift_ok, if_true, hb]; cases f <;> rfl
        have rec' : (∀ n, whileL c body (n + 1) env S = whileL c body n env2 S2) → mWhile c body env S = mWhile c body env2 S2 := fun hr => by
          by_cases hx : ∃ n, whileL c body n env2 S2 ≠ .no
          · obtain ⟨n, hn⟩ := hx
            rw [mWhile_of (n := n + 1) (by rw [hr]; exact hn), hr, mWhile_of hn]
          · have hx' : ∀ n, whileL c body n env2 S2 = .no := fun n => Classical.byContradiction fun z => hx ⟨n, z⟩
            rw [mWhile_no hx']
            exact mWhile_no fun n => by cases n with
              | zero => rfl
              | succ n => rw [hr, hx']
        cases f with
        | nx => exact rec' key2
        | ct => exact rec' key2
        | bk => rw [mWhile_of (n := 1) (by rw [key2]; exact fun z => nomatch z), key2]
        | rt d => rw [mWhile_of (n := 1) (by rw [key2]; exact fun z => nomatch z), key2]
        | xc x => rw [mWhile_of (n := 1) (by rw [key2]; exact fun z => nomatch z), key2]
section
variable {X : Cx} {cm : CM} {W : WX} {pos : Pos}
theorem s_while {c : Expr} {body : List Stmt} {mc : MT} {mb : MS} (hp : PassesOwn (model X.prog X.w) X.A X.env X.xe) (hc : TOk X cm W c mc) (hb : SsOk X cm W body mb) : SOk X cm W (.While c body [] pos) (mWhile mc mb) := by
  obtain ⟨tc, pc, dc⟩ := hc
  obtain ⟨tb, pb, db⟩ := hb
  refine ⟨_, ps_while hp pc pb, fun xl al σ H S env D0 w r q => ?_⟩
  by_cases hx : ∃ n, whileL mc mb n env S ≠ .no
  · obtain ⟨n, hn⟩ := hx
    rw [mWhile_of hn] at q
    refine ⟨fun m σ' H' => ∃ al' S' env', Wd X.K xl S' al' H' ∧ EnvR X.K xl al' H' env' σ' ∧ Post X.K cm xl noW (RS X.K cm xl W D0) (whileL mc mb m env' S') al' H', ⟨n, al, S, env, w, r, q⟩, ?_⟩
    rintro m σ' H' ⟨al', S', env', w', r', p'⟩
    cases m with
    | zero => exact p'.elim
    | succ m =>
      unfold whileL at p'
      refine dc xl al' σ' H' S' env' _ w' r' ((p'.lift r').imp fun k S1 al1 H1 e1 w1 q1 => ?_)
      cases k with
      | false => exact Post.here w1 q1 σ' (r'.mono e1)
      | true =>
        refine ⟨fun σ'' H'' => ∃ al'' S'' env'', Wd X.K xl S'' al'' H'' ∧ EnvR X.K xl al'' H'' env'' σ'' ∧ Post X.K cm xl noW (RS X.K cm xl W D0) (whileL mc mb m env'' S'') al'' H'', fun σ'' H'' hN => ⟨m, Nat.lt_succ_self _, hN⟩, ?_⟩
        have q2 : Post X.K cm xl noW (RS X.K cm xl W D0) ((mb env' S1).bind _) al1 H1 := q1
        refine db xl al1 σ' H1 S1 env' _ w1 (r'.mono e1) (q2.bind.imp fun z S4 al4 H4 e4 w4 p4 σ4 r4 => ?_)
        obtain ⟨f, env4⟩ := z
        cases f with
        | nx => exact ⟨al4, S4, env4, w4, r4, p4⟩
        | ct => exact ⟨al4, S4, env4, w4, r4, p4⟩
        | bk => exact Post.here w4 p4 σ4 r4
        | rt d => exact Post.here w4 p4 σ4 r4
        | xc x => exact Post.here w4 p4 σ4 r4
  · rw [mWhile_no fun n => Classical.byContradiction fun z => hx ⟨n, z⟩] at q
    exact q.elim
end

/-! comprehensions -/
abbrev noX : WX := fun _ _ _ _ => False
/-- an exception on the way: not told -/
def Ou.bindN {α β : Type} (m : Ou α) (f : α → DS → Ou β) : Ou β := match m with
  | .ok a S => f a S
  | _ => .no
@[simp] theorem bindN_ok {α β : Type} (a : α) (S : DS) (f : α → DS → Ou β) : (Ou.ok a S).bindN f = f a S := (rfl)
theorem bindN_bind {α β γ : Type} (o : Ou α) (f : α → DS → Ou β) (g : β → DS → Ou γ) : ((o.bindN f).bind g) = o.bindN fun a S => (f a S).bind g := by cases o <;> rfl
theorem Post.bindN {K : PySem.W.Frag} {cm : CM} {xl xl' al al0 : List Addr} {H H0 : Hp} {W0 : WH} {α β : Type} {R : β → DS → List Addr → Hp → Prop} {R' : α → DS → List Addr → Hp → Prop} {o : Ou α} {f : α → DS → Ou β}
    (p : Post K cm xl W0 R (o.bindN f) al0 H0) (k : ∀ a S1 al1 H1, Ext al H al1 H1 → Wd K xl' S1 al1 H1 → Post K cm xl W0 R (f a S1) al0 H0 → R' a S1 al1 H1) : Post K cm xl' noW R' o al H := by
  cases o with
  | ok a S => exact fun al1 H1 e w => k a S al1 H1 e w p
  | ex x S => exact p.elim
  | no => exact p.elim
def wipeE (env : DE) : List Nat → DE
  | [] => env
  | i :: vs => (wipeE env vs).set i none
noncomputable def lcL (g : MG) (tt : MT) (el : ME) (env : DE) (it : Itm) : List D → List D → DS → Ou (List D)
  | [], acc, S => it.gate S (.ok acc S)
  | d :: r, acc, S => it.gate S ((g d env S).bindN fun env1 S1 => (tt env1 S1).bindN fun b S2 => if b = true then (el env1 S2).bindN fun y S3 => lcL g tt el env it r (acc ++ [y]) S3 else lcL g tt el env it r acc S2)
noncomputable def lcM (mi : MIt) (g : MG) (tt : MT) (el : ME) (vs : List Nat) (fin : List D → DS → Ou D) : ME := fun env S => (mi env S).bind fun it S1 => if it.items.length ≤ sizeLine then (lcL g tt el (wipeE env vs) it it.items [] S1).bind fin else .no
def finV (xs : List D) (S : DS) : Ou D := .ok (.vl xs) S
def finR (xs : List D) (S : DS) : Ou D := .ok (.ref S.length) (S ++ [.lst xs])
def mYes : MT := fun _ S => .ok true S
def TsOk (X : Cx) (cm : CM) (W : WX) (es : List Expr) (m : MT) : Prop := ∃ t, PTs X es t ∧ DenT X.K cm W t m
theorem ts_nil {X : Cx} {cm : CM} {W : WX} : TsOk X cm W [] mYes := ⟨_, pts_nil, fun xl al σ H S env Q w r p => Post.hereT w p⟩
theorem ts_one {X : Cx} {cm : CM} {W : WX} {c : Expr} {m : MT} (h : TOk X cm W c m) : TsOk X cm W [c] m := by
  obtain ⟨t, p, d⟩ := h
  exact ⟨_, pts_one p, d⟩
theorem EnvR.wipes {K : PySem.W.Frag} {xl al : List Addr} {H : Hp} {env : DE} {σ : L2.St} (r : EnvR K xl al H env σ) : ∀ (vs : List Nat), EnvR K xl al H (wipeE env vs) (L2.wipe σ vs)
  | [] => r
  | i :: vs => (EnvR.wipes r vs).wipe i
theorem set_agr {σ' σ : L2.St} (i : Nat) (hl : σ'.length = σ.length) (h : ∀ j : Nat, j ≠ i → σ'[j]? = σ[j]?) : σ'.set i none = σ.set i none := by
  refine List.ext_getElem? fun j => ?_
  by_cases e : j = i
  · subst e
    by_cases hj : j < σ.length
    · rw [List.getElem?_set_self hj, List.getElem?_set_self (by rw [hl]; exact hj)]
    · rw [List.getElem?_eq_none (by rw [List.length_set]; omega), List.getElem?_eq_none (by rw [List.length_set]; omega)]
  · rw [List.getElem?_set_ne (Ne.symm e), List.getElem?_set_ne (Ne.symm e)]
    exact h j e
theorem wipe_get {σ : L2.St} {j : Nat} : ∀ {vs : List Nat}, j ∉ vs → (L2.wipe σ vs)[j]? = σ[j]? := fun h => wipe_out h
theorem wipe_get2 {σ' σ : L2.St} (hl : σ'.length = σ.length) {j : Nat} : ∀ {vs : List Nat}, j ∈ vs → (L2.wipe σ' vs)[j]? = (L2.wipe σ vs)[j]?
  | i :: vs, h => by
    show ((L2.wipe σ' vs).set i none)[j]? = ((L2.wipe σ vs).set i none)[j]?
    have hw : (L2.wipe σ' vs).length = (L2.wipe σ vs).length := by rw [wipe_length, wipe_length, hl]
    by_cases e : j = i
    · subst e
      by_cases hj : j < (L2.wipe σ vs).length
      · rw [List.getElem?_set_self hj, List.getElem?_set_self (by omega)]
      · rw [List.getElem?_eq_none (by rw [List.length_set]; omega), List.getElem?_eq_none (by rw [List.length_set]; omega)]
    · rw [List.getElem?_set_ne (Ne.symm e), List.getElem?_set_ne (Ne.symm e)]
      exact wipe_get2 hl ((List.mem_cons.mp h).resolve_left e)
theorem wipe_agr {vs : List Nat} {σ' σ : L2.St} (a : Agr vs σ' σ) : L2.wipe σ' vs = L2.wipe σ vs := by
  refine List.ext_getElem? fun j => ?_
  by_cases h : j ∈ vs
  · exact wipe_get2 a.1 h
  · rw [wipe_get h, wipe_get h]
    exact a.2 j h
theorem wipe_wipe (vs : List Nat) (σ : L2.St) : L2.wipe (L2.wipe σ vs) vs = L2.wipe σ vs := wipe_agr ⟨wipe_length σ vs, fun j hj => wipe_out hj⟩

/-- the made list, handed on -/
def FinOk (K : PySem.W.Frag) (cm : CM) (fin : List D → DS → Ou D) : Prop := ∀ xl al1 H1 al H S acc us (D0 : Addr) (Q : VK) (W0 : WH), Ext al1 H1 al H → H1 D0 = none → Wd K xl S al H → H D0 = some (.lst us) → D0 ∉ al → D0 ∉ xl → Reps K (D0 :: xl) al H acc us → Wd K (D0 :: xl) S al H →
  Post K cm xl W0 (RE K xl Q) (fin acc S) al1 H1 → Q (.ref D0) H
/-- the reading of a comprehension -/
theorem den_lcAt {X : Cx} {cm : CM} {W : WX} {wi : TI} {g : TG} {tt : TT} {te : TE} {vs : List Nat} {mi : MIt} {mg : MG} {mt : MT} {me : ME} {fin : List D → DS → Ou D}
    {xl al : List Addr} {σ : L2.St} {H : Hp} {S : DS} {env : DE} (w : Wd X.K xl S al H) (r : EnvR X.K xl al H env σ)
    (di : ∀ (R : It → Hp → Prop), Post X.K cm xl (fun c d H' => W c d σ H') (fun it S1 al1 H1 => ∀ J, Yields X.K xl al1 H1 it J → R J H1) (mi env S) al H → wi σ H R)
    (dg : DenGA X.K cm g mg vs) (dt : DenT X.K cm noX tt mt) (de : DenE X.K cm noX te me)
    (hfin : FinOk X.K cm fin) (Q : VK) (q : Post X.K cm xl (fun c d H' => W c d σ H') (RE X.K xl Q) (lcM mi mg mt me vs fin env S) al H) : tLc wi g tt te vs σ H Q := by
  refine di _ (q.bind.imp fun it S1 al1 H1 e1 w1 q1 J hJ => ?_)
  split at q1
  case isFalse => exact q1.elim
  rename_i hlen
  intro D0 hD0
  obtain ⟨nD1, nD2⟩ := w1.new hD0
  have r1 := r.mono e1
  let WW : WH := fun c d H' => W c d σ H'
  let I : List D → List Addr → DS → Hp → Prop := fun acc al' S' H' => Ext al1 H1 al' H' ∧ Wd X.K (D0 :: xl) S' al' H' ∧ ∃ us, H' D0 = some (.lst us) ∧ Reps X.K (D0 :: xl) al' H' acc us
  have keyEnv : ∀ {al' H'}, Ext al1 H1 al' H' → EnvR X.K (D0 :: xl) al' H' (wipeE env vs) (L2.wipe σ vs) := fun e => ((r1.more hD0).mono e).wipes vs
  have start : I [] al1 S1 (upd H1 D0 (.lst [])) := by
    refine ⟨ext_new hD0, ?_, [], upd_same, .nil⟩
    have w2 := w1.put (o := .lst []) hD0
    refine ⟨w2.nd, w2.len, fun p xs h => ?_, fun a h => ?_, w2.tb⟩
    · obtain ⟨a, us, h1, h2, h3⟩ := w1.ob p xs h
      refine ⟨a, us, h1, ?_, (h3.more hD0).mono (ext_new hD0)⟩
      rw [upd_ne (ne_of_none h2 hD0)]; exact h2
    · rcases List.mem_cons.mp h with e | h
      · subst e
        exact ⟨nD1, _, upd_same⟩
      · exact w2.xs a h
  have weak : ∀ {al' S' H'}, Wd X.K (D0 :: xl) S' al' H' → Wd X.K xl S' al' H' := fun w => ⟨w.nd, w.len, fun p xs h => by
    obtain ⟨a, us, h1, h2, h3⟩ := w.ob p xs h
    exact ⟨a, us, h1, h2, h3.less fun a h => List.mem_cons_of_mem _ h⟩, fun a h => w.xs a (List.mem_cons_of_mem _ h), w.tb⟩
  refine ⟨fun i m H' => m = it.items.length - i ∧ i ≤ it.items.length ∧ ∃ acc al' S', acc.length ≤ i ∧ I acc al' S' H' ∧ Post X.K cm xl WW (RE X.K xl Q) ((lcL mg mt me (wipeE env vs) it (it.items.drop i) acc S').bind fin) al1 H1,
    ⟨_, rfl, Nat.zero_le _, [], al1, S1, Nat.le_refl _, start, by rw [List.drop_zero]; exact q1⟩, ?_⟩
  rintro i m H' ⟨rfl, hi, acc, al', S', hacc, ⟨e', w', us, hD', hus⟩, p'⟩
  have hxl : ∀ q, q ∈ D0 :: xl → q ∈ xl ∨ H1 q = none := fun q h => (List.mem_cons.mp h).elim (fun e => .inr (e ▸ hD0)) .inl
  by_cases hlt : i < it.items.length
  · refine .inr ?_
    rw [List.drop_eq_getElem_cons hlt] at p'
    unfold lcL at p'
    have p2 : it.okB S' ∧ Post X.K cm xl WW (RE X.K xl Q) (((mg it.items[i] (wipeE env vs) S').bindN fun env1 S1 => (mt env1 S1).bindN fun b S2 => if b = true then (me env1 S2).bindN fun y S3 => lcL mg mt me (wipeE env vs) it (it.items.drop (i + 1)) (acc ++ [y]) S3 else lcL mg mt me (wipeE env vs) it (it.items.drop (i + 1)) acc S2).bind fin) al1 H1 := by
      unfold Itm.gate at p'
      split at p'
      · rename_i h
        exact ⟨h, p'⟩
      · exact p'.elim
    obtain ⟨ok, p2⟩ := p2
    obtain ⟨hy, _⟩ := hJ (D0 :: xl) S' al' H' e' hxl w' ok
    obtain ⟨go, yld⟩ := hy i _ (List.getElem?_eq_getElem hlt)
    refine ⟨go, fun H'' => ∃ acc al'' S'', acc.length ≤ i + 1 ∧ I acc al'' S'' H'' ∧ Post X.K cm xl WW (RE X.K xl Q) ((lcL mg mt me (wipeE env vs) it (it.items.drop (i + 1)) acc S'').bind fin) al1 H1,
      fun H'' hN => ⟨it.items.length - (i + 1), by omega, rfl, hlt, hN⟩, fun x H'' hyx => ?_⟩
    obtain ⟨no, rx⟩ := yld x H'' hyx
    have w2 := no.wd w'
    have e2 : Ext al1 H1 al' H'' := e'.trans no.ext
    have hD2 : H'' D0 = some (.lst us) := no _ _ hD'
    rw [bindN_bind] at p2
    refine dg (D0 :: xl) al' (L2.wipe σ vs) H'' S' (wipeE env vs) _ x _ w2 (keyEnv e2) rx (p2.bindN fun env1 S3 al3 H3 e3 w3 p3 σ3 r3 a3 => ?_)
    refine ⟨(wipe_agr a3).trans (wipe_wipe vs σ), ?_⟩
    rw [bindN_bind] at p3
    refine dt (D0 :: xl) al3 σ3 H3 S3 env1 _ w3 r3 (p3.bindN fun b S4 al4 H4 e4 w4 p4 => ?_)
    have eA : Ext al' H'' al4 H4 := e3.trans e4
    have nD3 : ∀ {al5 H5 S5}, Wd X.K (D0 :: xl) S5 al5 H5 → D0 ∉ al5 := fun w => (w.xs D0 (by simp)).1
    cases b with
    | true =>
      rw [if_pos rfl, bindN_bind] at p4
      show te σ3 H4 _
      refine de (D0 :: xl) al4 σ3 H4 S4 env1 _ w4 (r3.mono e4) (p4.bindN fun y S5 al5 H5 e5 w5 p5 v rv => ?_)
      have eB : Ext al' H'' al5 H5 := eA.trans e5
      have hD5 : H5 D0 = some (.lst us) := eB.frL (nD3 w2) hD2
      have hus5 : Reps X.K (D0 :: xl) al5 H5 acc us := (hus.mono no.ext).mono eB
      refine ⟨us, hD5, ?_, acc ++ [y], al5, S5, ?_, ⟨?_, ?_, us ++ [v], upd_same, ?_⟩, ?_⟩
      · rw [← hus.length]; omega
      · rw [List.length_append, List.length_singleton]; omega
      · refine ⟨(e2.trans eB).pre, fun a o n t h => ?_, fun a ws h => ?_, (e2.trans eB).new⟩
        · rw [upd_ne (ne_of_none h hD0)]; exact (e2.trans eB).fr a o n t h
        · obtain ⟨o, ho⟩ := rd_some h
          have := (e2.trans eB).tup a ws h
          rcases this with z | ⟨o', z⟩
          · exact .inl (by rw [upd_ne (ne_of_none ho hD0)]; exact z)
          · exact .inr ⟨o', by rw [upd_ne (ne_of_none ho hD0)]; exact z⟩
      · refine ⟨w5.nd, w5.len, fun p xs h => ?_, fun a h => ⟨(w5.xs a h).1, ?_⟩, tabs_write w5.tb hD5⟩
        · obtain ⟨a, ws, h1, h2, h3⟩ := w5.ob p xs h
          refine ⟨a, ws, h1, ?_, h3.atx hD5 (by simp)⟩
          have ne : a ≠ D0 := fun z => nD3 w5 (z ▸ List.mem_of_getElem? h1)
          rw [upd_ne ne]; exact h2
        · unfold upd
          split
          · exact ⟨_, rfl⟩
          · exact (w5.xs a h).2
      · exact (hus5.append (.cons rv .nil)).atx hD5 (by simp)
      · exact p5
    | false =>
      rw [if_neg Bool.false_ne_true] at p4
      exact ⟨acc, al4, S4, by omega, ⟨e2.trans eA, w4, us, eA.frL (nD3 w2) hD2, (hus.mono no.ext).mono eA⟩, p4⟩
  · have ei : i = it.items.length := by omega
    subst ei
    rw [List.drop_length] at p'
    unfold lcL at p'
    have p2 : it.okB S' ∧ Post X.K cm xl WW (RE X.K xl Q) (fin acc S') al1 H1 := by
      unfold Itm.gate at p'
      split at p'
      · rename_i h
        exact ⟨h, p'⟩
      · exact p'.elim
    obtain ⟨ok, p2⟩ := p2
    obtain ⟨_, hs⟩ := hJ (D0 :: xl) S' al' H' e' hxl w' ok
    have nD3 : D0 ∉ al' := fun h => (w'.xs D0 (by simp)).1 h
    exact .inl ⟨hs, hfin xl al1 H1 al' H' S' acc us D0 Q _ e' hD0 (weak w') hD' nD3 nD2 hus w' p2⟩
theorem den_lc {X : Cx} {cm : CM} {W : WX} {wi : TI} {g : TG} {tt : TT} {te : TE} {vs : List Nat} {mi : MIt} {mg : MG} {mt : MT} {me : ME} {fin : List D → DS → Ou D}
    (di : ∀ xl al σ H S env (R : It → Hp → Prop), Wd X.K xl S al H → EnvR X.K xl al H env σ → Post X.K cm xl (fun c d H' => W c d σ H') (fun it S1 al1 H1 => ∀ J, Yields X.K xl al1 H1 it J → R J H1) (mi env S) al H → wi σ H R)
    (dg : DenGA X.K cm g mg vs) (dt : DenT X.K cm noX tt mt) (de : DenE X.K cm noX te me)
    (hfin : FinOk X.K cm fin) :
    DenE X.K cm W (tLc wi g tt te vs) (lcM mi mg mt me vs fin) := fun xl al σ H S env Q w r q => den_lcAt w r (fun R => di xl al σ H S env R w r) dg dt de hfin Q q
end DL

namespace DL
open PySem PySem.Spec PyProof.Rows L2
variable [TabC]

/-! a list or a tuple, by a flag -/
def SqV (K : PySem.W.Frag) (k : Bool) (H : Hp) (a : Addr) (vs : List V) : Prop := match k with
  | true => SqL K H a vs
  | false => SqT K H a vs
def IsS (k : Bool) (h : Heap) (a : Addr) (items : Array Value) : Prop := match k with
  | true => h.IsList a items
  | false => h.IsTuple a items
def ItAt (k : Bool) (h : Heap) (it a : Addr) (i : Nat) : Prop := match k with
  | true => h.IsListIter it a i
  | false => h.IsTupleIter it a i
def itO (k : Bool) (a : Addr) : Obj := match k with
  | true => { cls := .type "list_iterator", data := .fields #[.ref a, .int 0 0] }
  | false => { cls := .type "tuple_iterator", data := .fields #[.ref a, .int 0 0] }
theorem src {X : Cx} {pins : List (Addr × Obj)} {σ : L2.St} {H : Hp} {s : Shared} {k : Bool} {a : Addr} {vs : List V} (I : Inv X pins σ H s) (h : SqV X.K k H a vs) :
    ∃ its : List Value, Vals vs its ∧ IsS k s.heap a its.toArray := by
  cases k with
  | true =>
    obtain ⟨its, r, p, _⟩ := I.list h
    exact ⟨its, r, p.isList⟩
  | false =>
    obtain ⟨its, r, p, _⟩ := I.tuple h
    exact ⟨its, r, p⟩
theorem src_inj {X : Cx} {pins : List (Addr × Obj)} {σ : L2.St} {H : Hp} {s : Shared} {k : Bool} {a : Addr} {vs us : List V} (I : Inv X pins σ H s) (h : SqV X.K k H a vs) (h' : SqV X.K k H a us) : vs = us := by
  cases k with
  | true => exact I.list_inj h h'
  | false => exact I.tuple_inj h h'
theorem IsS.lt {k : Bool} {h : Heap} {a : Addr} {items : Array Value} (x : IsS k h a items) : a < h.objs.size := by
  cases k with
  | true => obtain ⟨o, e, _⟩ := (show h.IsList a items from x); exact Heap.lt_size e
  | false => obtain ⟨o, e, _⟩ := (show h.IsTuple a items from x); exact Heap.lt_size e
theorem drawsK {prog : Program} {w : World} {A : Around} (k : Bool) (hh : A.handled = none) (it a : Addr) (hne : a ≠ it) (items : Array Value) :
    Draws prog w A it [it, a] items.size (fun i v => items[i]? = some v) (fun i h => ItAt k h it a i ∧ IsS k h a items) := by
  cases k with
  | true => exact Draws.list hh it a hne items
  | false => exact Draws.tuple hh it a hne items
theorem beginsK (k : Bool) (a : Addr) (items : Array Value) : Begins (.ref a) (itO k a) (fun h => IsS k h a items) := by
  cases k with
  | true => exact begins_list a items
  | false => exact begins_tuple a items
theorem ItAt.live {k : Bool} {h : Heap} {it a : Addr} {i : Nat} (x : ItAt k h it a i) : ∃ o, h.get? it = some o ∧ ∀ v, o.data ≠ .cell v := by
  cases k with
  | true => obtain ⟨o, e, c, d⟩ := (show h.IsListIter it a i from x); exact ⟨o, e, fun v z => by rw [d] at z; cases z⟩
  | false => obtain ⟨o, e, c, d⟩ := (show h.IsTupleIter it a i from x); exact ⟨o, e, fun v z => by rw [d] at z; cases z⟩
theorem ItAt.keep {k : Bool} {h h' : Heap} {it a : Addr} {i : Nat} (x : ItAt k h it a i) (e : ∀ o, h.get? it = some o → h'.get? it = some o) : ItAt k h' it a i := by
  cases k with
  | true => exact Heap.IsListIter.at (show h.IsListIter it a i from x) e
  | false => exact Heap.IsTupleIter.at (show h.IsTupleIter it a i from x) e
theorem itO_at {k : Bool} {h : Heap} {it a : Addr} (e : h.get? it = some (itO k a)) : ItAt k h it a 0 := by
  cases k with
  | true => exact ⟨_, e, rfl, rfl⟩
  | false => exact ⟨_, e, rfl, rfl⟩

/-! x in s -/
def SeqIt (K : PySem.W.Frag) (k : Bool) (a : Addr) : It := match k with
  | true => Itl K a
  | false => Itt K a
def iSeqD (K : PySem.W.Frag) (tl : TE) : TI := fun σ H R => tl σ H fun x H1 => ∃ a k, x = .ref a ∧ (∃ vs, SqV K k H1 a vs) ∧ R (SeqIt K k a) H1
theorem pi_seqD {X : Cx} {tg l : Expr} {tl : TE} (hl : PE X l tl) : PI X tg l (iSeqD X.K tl) := by
  refine ⟨fun pins s σ H R I h => thn (hl.run pins s σ H _ I h) fun v s1 ⟨x, H1, I1, r1, a, k, e, ⟨xs, hq⟩, q⟩ => ?_⟩
  subst e
  cases r1
  have new : ∀ o, Inv X pins σ H1 { s1 with heap := s1.heap.push o } := fun o => I1.kept (t' := s1.toks) fun _ _ e => Heap.get?_push_of_some _ e
  have fp : ∀ b, b ∈ [s1.heap.objs.size] → FpOk X pins H1 b := fun b hb => by
    rw [List.mem_singleton.mp hb]
    exact I1.fpOk (Nat.le_refl _) (I1.hok.fresh (Nat.le_refl _))
  cases k with
  | true =>
    obtain ⟨its, rv, p, _⟩ := I1.list hq
    exact wpAny_pyIter_list p.isList ⟨_, _, _, _, H1, rfl, new _, turn_list a _, ⟨_, Heap.get?_push_size _ rfl, rfl, rfl⟩, fp, q⟩
  | false =>
    obtain ⟨its, rv, p, _⟩ := I1.tuple hq
    exact wpAny_pyIter_tuple (show s1.heap.IsTuple a its.toArray from p) ⟨_, _, _, _, H1, rfl, new _, turn_tuple a _, ⟨_, Heap.get?_push_size _ rfl, rfl, rfl⟩, fp, q⟩

/-! enumerate -/
def ItE (K : PySem.W.Frag) (k : Bool) (a : Addr) (n0 : Int) : It :=
  ⟨fun i H => ∃ vs x, SqV K k H a vs ∧ vs[i]? = some x,
   fun i H v H' => ∃ T x, v = .ref T ∧ H T = none ∧ H' = upd H T (.tup [.int (n0 + (i : Int)), x]) ∧ ∀ vs, SqV K k H a vs → vs[i]? = some x,
   fun i H => ∃ vs, SqV K k H a vs ∧ i = vs.length⟩
theorem turn_enumK {P : Program} {w : World} {K : PySem.W.Frag} {elts : List Expr} {kk : Nat} {tpos : Pos} {k : Bool} {a e it : Addr} {n0 : Int} (h1 : e ≠ it) (h2 : e ∉ [it, a]) (h3 : a ≠ it) :
    Turn P w K (.Tuple elts kk tpos) (ItE K k a n0) [e, it] e (fun i h => (∃ old, IsEnum h e it (n0 + (i : Int)) old) ∧ ItAt k h it a i) where
  mem := by simp
  obj := fun i h st b hb => by
    obtain ⟨⟨old, he⟩, hi⟩ := st
    rcases (show b = e ∨ b = it by simpa using hb) with rfl | rfl
    · exact ⟨_, he, fun v z => nomatch z⟩
    · exact hi.live
  keep := fun i h h' st q => by
    obtain ⟨⟨old, he⟩, hi⟩ := st
    exact ⟨⟨old, q e (by simp) _ he⟩, hi.keep fun o z => q it (by simp) o z⟩
  item := by
    intro X hP hw hK hc i pins s σ H E I hf st hg
    subst hP hw hK
    obtain ⟨vs, x, hq, hx⟩ := hg
    obtain ⟨its, rv, hs⟩ := src I hq
    obtain ⟨u, hu, ru⟩ := rv.get hx
    have hi : i < its.toArray.size := by
      have := (List.getElem?_eq_some_iff.mp hu).1
      simpa using this
    refine (GoesN.enumFrom n0 (drawsK k (by exact I.ok.hd hc) it a h3 its.toArray) e h1 h2 (by simp)).goes i s _ E hi ⟨st.1, st.2, hs⟩ fun v h' tk hY st' hk htk => ?_
    obtain ⟨T, t, x0, rfl, hT, hx0, hTup⟩ := hY
    have ex : x0 = u := by
      rw [List.getElem?_toArray, hu] at hx0
      exact (Option.some.inj hx0).symm
    subst ex
    have new : ObjOk X.prog X.w (upd H T (.tup [.int (n0 + (i : Int)), x])) h' T (.tup [.int (n0 + (i : Int)), x]) :=
      ⟨by show 2 ≤ sizeLine; decide, [.int (n0 + (i : Int)) t, x0], .cons ⟨_, rfl⟩ (.cons ru .nil), hTup⟩
    refine ⟨.ref T, _, I.turnedNew (t' := tk) (ch := [e, it]) hk hf hT new, rfl, ⟨T, x, rfl, I.hok.fresh hT, rfl, fun us hus => by rw [src_inj I hus hq]; exact hx⟩, ⟨st'.1, st'.2.1⟩, fun b hb => ?_⟩
    have hbl : b < s.heap.objs.size := by
      rcases (show b = e ∨ b = it by simpa using hb) with rfl | rfl
      · obtain ⟨⟨_, he⟩, _⟩ := st; exact Heap.lt_size he
      · obtain ⟨_, z, _⟩ := st.2.live; exact Heap.lt_size z
    rw [upd_ne (Nat.ne_of_lt (Nat.lt_of_lt_of_le hbl hT))]
    exact (hf b hb).1
  done := by
    intro X hP hw hK hc i pins s σ H E I hf st hg
    subst hP hw hK
    obtain ⟨vs, hq, hn⟩ := hg
    obtain ⟨its, rv, hs⟩ := src I hq
    have hi : i = its.toArray.size := by rw [hn, rv.length, List.size_toArray]
    subst hi
    exact (GoesN.enumFrom n0 (drawsK k (by exact I.ok.hd hc) it a h3 its.toArray) e h1 h2 (by simp) (elts := elts) (x1 := kk) (pos := tpos)).stops s _ E ⟨st.1, st.2, hs⟩ fun h' tk hk htk => I.turnedL (t' := tk) (ch := [e, it]) (fun c o hb q => hk c o hb q) hf
  self := fun A i s Q E st h => by
    obtain ⟨⟨_, he⟩, _⟩ := st
    exact wpAny_pyIter_enum he h
theorem enum_new1 {v : Value} {ob : Obj} {G : Heap → Prop} (B : Begins v ob G) :
    Meets (Builtin.«enumerate.__new__» ⟨[.type "enumerate", v], []⟩) (fun _ R s => G s.heap ∧
      R (.ok (.ret (.ref (s.heap.push ob).objs.size))) { s with heap := (s.heap.push ob).push { cls := .type "enumerate", data := .fields #[.none, .bool false, .ref s.heap.objs.size, rawInt 0, .none, .none] } }) := by
  refine .of_wp fun prog w A R s h => ?_
  obtain ⟨hp, g, d, tk, os⟩ := s
  obtain ⟨hG, h⟩ := h
  have hsub := sub_enumerate
  have begin_ : ∀ {A' : Around} {E : Value → Shared → Prop} {Q : Value → Shared → Prop}, Q (.ref hp.objs.size) ⟨hp.push ob, g, d, tk, os⟩ → wpAny (model prog w) A' (pyIter v) Q E ⟨hp, g, d, tk, os⟩ := fun q => B.iter _ _ _ _ ⟨hp, g, d, tk, os⟩ _ hG q
  wp_walk using begin_
  refine wpAny_stack_any fun st => wpAny_pure ?_
  split
  · rename_i c _ _ _ _ _
    cases (c == Value.type "enumerate") <;> (wp_walk using begin_; exact ⟨_, rfl, h⟩)
  · wp_walk using begin_
    exact ⟨_, rfl, h⟩
def iEnumD (K : PySem.W.Frag) (ta : TA) : TI := fun σ H R => ta σ H fun vs H1 => ∃ a k, vs = [.ref a] ∧ (∃ us, SqV K k H1 a us) ∧ R (ItE K k a 0) H1
theorem pi_enumD {X : Cx} {e : Expr} {ta : TA} {p pos tpos : Pos} {elts : List Expr} {kk : Nat} (hg : Gl X "enumerate") (hm : X.mg "enumerate" = none) (ha : PA X [e] ta) (hs : starEach [e] X.env = [(false, eval e X.env)] := by rfl) :
    PI X (.Tuple elts kk tpos) (.Call (.Name "enumerate" p) [e] [] pos) (iEnumD X.K ta) := by
  refine ⟨fun pins s σ H R I h => Call_ (ld_blt I hg hm boot_enumerate (PyProof.Rows.callWith_type1 (thn (ha.run pos pins s σ H _ I h) fun us s1 ⟨vs, H1, I1, r1, a, k, ex, ⟨xs, hq⟩, q⟩ => ?_) hs rfl))⟩
  subst ex
  cases r1 with
  | cons r rr =>
    cases rr
    cases r
    obtain ⟨its, rv, hS⟩ := src I1 hq
    refine callType_new F.called_enumerate (by decide) (F.typeCall_enumerate_1 _) (F.newCall_enumerate_1 _) (fun obj => F.args_object_init_2 obj _) F.entry_enumerate_new (enum_new1 (beginsK k a its.toArray)) ⟨hS, ?_⟩
    have z1 : (s1.heap.push (itO k a)).objs.size = s1.heap.objs.size + 1 := Heap.size_push ..
    show _ ∧ _
    rw [z1]
    have he := Heap.get?_push_size (s1.heap.push (itO k a)) (o := { cls := .type "enumerate", data := .fields #[.none, .bool false, .ref s1.heap.objs.size, rawInt 0, .none, .none] }) rfl
    rw [z1] at he
    have hit : ItAt k ((s1.heap.push (itO k a)).push { cls := .type "enumerate", data := .fields #[.none, .bool false, .ref s1.heap.objs.size, rawInt 0, .none, .none] }) s1.heap.objs.size a 0 :=
      itO_at (Heap.get?_push_of_some _ (Heap.get?_push_size _ (by cases k <;> rfl)))
    refine ⟨⟨_, he, rfl⟩, wpAny_pyIter_enum he ?_⟩
    have hne : a ≠ s1.heap.objs.size := Nat.ne_of_lt hS.lt
    refine ⟨s1.heap.objs.size + 1, [s1.heap.objs.size + 1, s1.heap.objs.size], _, _, H1, rfl, I1.kept (t' := s1.toks) (fun b o z => Heap.get?_push_of_some _ (Heap.get?_push_of_some _ z)),
      turn_enumK (Nat.succ_ne_self _) ?_ hne, ⟨⟨.none, he⟩, hit⟩, fun b hb => ?_, q⟩
    · intro z
      rcases (show s1.heap.objs.size + 1 = s1.heap.objs.size ∨ s1.heap.objs.size + 1 = a by simpa using z) with z | z
      · exact Nat.succ_ne_self _ z
      · exact absurd hS.lt (by rw [← z]; exact Nat.not_lt.mpr (Nat.le_succ _))
    · have hle : s1.heap.objs.size ≤ b := by
        rcases (show b = s1.heap.objs.size + 1 ∨ b = s1.heap.objs.size by simpa using hb) with z | z
        · rw [z]; exact Nat.le_succ _
        · rw [z]; exact Nat.le_refl _
      exact I1.fpOk hle (I1.hok.fresh hle)

/-! zip of two -/
def ItZ (K : PySem.W.Frag) (k1 k2 : Bool) (a b : Addr) : It :=
  ⟨fun i H => ∃ vs us x y, SqV K k1 H a vs ∧ SqV K k2 H b us ∧ vs[i]? = some x ∧ us[i]? = some y,
   fun i H v H' => ∃ T x y, v = .ref T ∧ H T = none ∧ H' = upd H T (.tup [x, y]) ∧ (∀ vs, SqV K k1 H a vs → vs[i]? = some x) ∧ ∀ us, SqV K k2 H b us → us[i]? = some y,
   fun i H => ∃ vs us, SqV K k1 H a vs ∧ SqV K k2 H b us ∧ i = min vs.length us.length⟩
theorem turn_zipK {P : Program} {w : World} {K : PySem.W.Frag} {elts : List Expr} {kk : Nat} {tpos : Pos} {k1 k2 : Bool} {a b z TI TO i1 i2 : Addr} (S : ZipSep2 z TI TO i1 i2 [i1, a] [i2, b]) (h1 : a ≠ i1) (h2 : b ≠ i2) :
    Turn P w K (.Tuple elts kk tpos) (ItZ K k1 k2 a b) [z, TI, TO, i1, i2] z (fun i h => IsZip h z TI TO .none ∧ IsTupOf2 h TI (.ref i1) (.ref i2) ∧ (∃ a1 a2, IsTupOf2 h TO a1 a2) ∧ ItAt k1 h i1 a i ∧ ItAt k2 h i2 b i) where
  mem := by simp
  obj := fun i h st c hcm => by
    obtain ⟨hz, hTI, ⟨x, y, hTO⟩, g1, g2⟩ := st
    rcases (show c = z ∨ c = TI ∨ c = TO ∨ c = i1 ∨ c = i2 by simpa using hcm) with rfl | rfl | rfl | rfl | rfl
    · exact ⟨_, hz, fun v q => nomatch q⟩
    · exact ⟨_, hTI, fun v q => nomatch q⟩
    · exact ⟨_, hTO, fun v q => nomatch q⟩
    · exact g1.live
    · exact g2.live
  keep := fun i h h' st q => by
    obtain ⟨hz, hTI, ⟨x, y, hTO⟩, g1, g2⟩ := st
    exact ⟨q z (by simp) _ hz, q TI (by simp) _ hTI, ⟨x, y, q TO (by simp) _ hTO⟩, g1.keep fun o e => q i1 (by simp) o e, g2.keep fun o e => q i2 (by simp) o e⟩
  item := by
    intro X hP hw hK hc i pins s σ H E I hf st hg
    subst hP hw hK
    obtain ⟨vs, us, x, y, hqx, hqy, hx, hy⟩ := hg
    obtain ⟨its, rv, hs1⟩ := src I hqx
    obtain ⟨its2, rv2, hs2⟩ := src I hqy
    obtain ⟨u, hu, ru⟩ := rv.get hx
    obtain ⟨u2, hu2, ru2⟩ := rv2.get hy
    have hi : i < min its.toArray.size its2.toArray.size := by
      have := (List.getElem?_eq_some_iff.mp hu).1
      have := (List.getElem?_eq_some_iff.mp hu2).1
      simp only [List.size_toArray]
      omega
    obtain ⟨hz, hTI, hTO, g1, g2⟩ := st
    refine (GoesN.zip2 S (drawsK k1 (by exact I.ok.hd hc) i1 a h1 its.toArray) (drawsK k2 (by exact I.ok.hd hc) i2 b h2 its2.toArray)).goes i s _ E hi ⟨hz, hTI, hTO, ⟨g1, hs1⟩, g2, hs2⟩ fun v h' tk hY st' hk htk => ?_
    obtain ⟨T, x0, y0, rfl, hT, hx0, hy0, hTup⟩ := hY
    have ex : x0 = u := by
      rw [List.getElem?_toArray, hu] at hx0
      exact (Option.some.inj hx0).symm
    have ey : y0 = u2 := by
      rw [List.getElem?_toArray, hu2] at hy0
      exact (Option.some.inj hy0).symm
    subst ex ey
    have new : ObjOk X.prog X.w (upd H T (.tup [x, y])) h' T (.tup [x, y]) := ⟨by show 2 ≤ sizeLine; decide, [x0, y0], .cons ru (.cons ru2 .nil), hTup⟩
    refine ⟨.ref T, _, I.turnedNew (t' := tk) (ch := [z, TI, TO, i1, i2]) (fun c o hb q => hk c o (fun m => hb ?_) q) hf hT new, rfl,
      ⟨T, x, y, rfl, I.hok.fresh hT, rfl, fun l hl => by rw [src_inj I hl hqx]; exact hx, fun l hl => by rw [src_inj I hl hqy]; exact hy⟩, ⟨st'.1, st'.2.1, st'.2.2.1, st'.2.2.2.1.1, st'.2.2.2.2.1⟩, fun c hcm => ?_⟩
    · rcases (show c = z ∨ c = TO ∨ c = i1 ∨ c = i2 by simpa using m) with e | e | e | e <;> simp [e]
    · have hbl : c < s.heap.objs.size := by
        rcases (show c = z ∨ c = TI ∨ c = TO ∨ c = i1 ∨ c = i2 by simpa using hcm) with e | e | e | e | e
        · rw [e]; exact Heap.lt_size hz
        · rw [e]; exact Heap.lt_size hTI
        · obtain ⟨_, _, q⟩ := hTO; rw [e]; exact Heap.lt_size q
        · obtain ⟨_, q, _⟩ := g1.live; rw [e]; exact Heap.lt_size q
        · obtain ⟨_, q, _⟩ := g2.live; rw [e]; exact Heap.lt_size q
      rw [upd_ne (Nat.ne_of_lt (Nat.lt_of_lt_of_le hbl hT))]
      exact (hf c hcm).1
  done := by
    intro X hP hw hK hc i pins s σ H E I hf st hg
    subst hP hw hK
    obtain ⟨vs, us, hqx, hqy, hn⟩ := hg
    obtain ⟨its, rv, hs1⟩ := src I hqx
    obtain ⟨its2, rv2, hs2⟩ := src I hqy
    have hi : i = min its.toArray.size its2.toArray.size := by rw [hn, rv.length, rv2.length, List.size_toArray, List.size_toArray]
    subst hi
    obtain ⟨hz, hTI, hTO, g1, g2⟩ := st
    refine (GoesN.zip2 S (drawsK k1 (by exact I.ok.hd hc) i1 a h1 its.toArray) (drawsK k2 (by exact I.ok.hd hc) i2 b h2 its2.toArray) (elts := elts) (x1 := kk) (pos := tpos)).stops s _ E ⟨hz, hTI, hTO, ⟨g1, hs1⟩, g2, hs2⟩ fun h' tk hk htk =>
      I.turnedL (t' := tk) (ch := [z, TI, TO, i1, i2]) (fun c o hb q => hk c o (fun m => hb ?_) q) hf
    rcases (show c = z ∨ c = TO ∨ c = i1 ∨ c = i2 by simpa using m) with e | e | e | e <;> simp [e]
  self := fun A i s Q E st h => wpAny_pyIter_zip st.1 h
def iZipD (K : PySem.W.Frag) (ta : TA) : TI := fun σ H R => ta σ H fun vs H1 => ∃ a b k1 k2, vs = [.ref a, .ref b] ∧ (∃ us, SqV K k1 H1 a us) ∧ (∃ us, SqV K k2 H1 b us) ∧ R (ItZ K k1 k2 a b) H1
theorem pi_zipD {X : Cx} {e e2 : Expr} {ta : TA} {p pos tpos : Pos} {elts : List Expr} {kk : Nat} (hg : Gl X "zip") (hm : X.mg "zip" = none) (ha : PA X [e, e2] ta)
    (hs : starEach [e, e2] X.env = (false, eval e X.env) :: starEach [e2] X.env := by rfl) (hpl : (backTo pos (starEach [e2] X.env)).any (·.1) = false := by rfl) :
    PI X (.Tuple elts kk tpos) (.Call (.Name "zip" p) [e, e2] [] pos) (iZipD X.K ta) := by
  refine ⟨fun pins s σ H R I h => Call_ (ld_blt I hg hm PyProof.Rows.boot_zip (PyProof.Rows.callWith_type1 (thn (ha.run pos pins s σ H _ I h) fun us s1 ⟨vs, H1, I1, r1, a, b, k1, k2, ex, ⟨xs, hqx⟩, ⟨ys, hqy⟩, q⟩ => ?_) hs hpl))⟩
  subst ex
  cases r1 with
  | cons r rr =>
    cases rr with
    | cons r' rr =>
      cases rr
      cases r
      cases r'
      obtain ⟨its, rv, hS1⟩ := src I1 hqx
      obtain ⟨its2, rv2, hS2⟩ := src I1 hqy
      refine zip_begins2 (beginsK k1 a its.toArray) (beginsK k2 b its2.toArray) hS1 hS2 fun h' hz hTI hTO g1 g2 hsz hk => wpAny_pyIter_zip hz ?_
      refine ⟨s1.heap.objs.size + 4, [s1.heap.objs.size + 4, s1.heap.objs.size + 2, s1.heap.objs.size + 3, s1.heap.objs.size, s1.heap.objs.size + 1], _, _, H1, rfl, I1.kept (t' := s1.toks) hk,
        turn_zipK (zip_sep2 (fp1 := [a]) (fp2 := [b]) (fun c hcm => by rw [List.mem_singleton.mp hcm]; exact hS1.lt) (fun c hcm => by rw [List.mem_singleton.mp hcm]; exact hS2.lt)) (Nat.ne_of_lt hS1.lt) (Nat.ne_of_lt (Nat.lt_succ_of_lt hS2.lt)),
        ⟨hz, hTI, ⟨_, _, hTO⟩, itO_at g1, itO_at g2⟩, fun c hcm => ?_, q⟩
      have hle : s1.heap.objs.size ≤ c := by
        rcases (show c = s1.heap.objs.size + 4 ∨ c = s1.heap.objs.size + 2 ∨ c = s1.heap.objs.size + 3 ∨ c = s1.heap.objs.size ∨ c = s1.heap.objs.size + 1 by simpa using hcm) with e | e | e | e | e <;> rw [e] <;> first | exact Nat.le_refl _ | exact Nat.le_add_right _ _
      exact I1.fpOk hle (I1.hok.fresh hle)
end DL

namespace DL
open PySem PySem.Spec PyProof.Rows L2
variable [TabC]

section
variable {K : PySem.W.Frag} {xl xl' al al' : List Addr} {H : Hp}
section
omit [TabC]
mutual
theorem Rep.chg (s : ∀ q, q ∈ xl' → q ∈ xl ∨ H q = none) : ∀ {d : D} {v : V}, Rep K xl al H d v → Rep K xl' al H d v
  | _, _, .non => .non
  | _, _, .bl b => .bl b
  | _, _, .int i => .int i
  | _, _, .str x => .str x
  | _, _, .tup h r => .tup h (r.chg s)
  | _, _, .vl h n n' r => .vl h n (fun m => (s _ m).elim n' fun z => by rw [z] at h; cases h) (r.chg s)
  | _, _, .fz h n r => .fz h n (r.chg s)
  | _, _, .fzK k c h r => .fzK k c h (r.chg s)
  | _, _, .ref h => .ref h
  | _, _, .dct h n => .dct h n
  | _, _, .exo a c h => .exo a c h
theorem Reps.chg (s : ∀ q, q ∈ xl' → q ∈ xl ∨ H q = none) : ∀ {ds : List D} {vs : List V}, Reps K xl al H ds vs → Reps K xl' al H ds vs
  | _, _, .nil => .nil
  | _, _, .cons h r => .cons (h.chg s) (r.chg s)
end
end
end

/-! what is walked -/
def refItm (p : Nat) (S : DS) : Ou Itm := match S[p]? with
  | some (DO.lst xs) => .ok ⟨xs, some (p, xs)⟩ S
  | none => .no
def asItm (d : D) (S : DS) : Ou Itm := match d with
  | .tup xs => .ok ⟨xs, none⟩ S
  | .vl xs => .ok ⟨xs, none⟩ S
  | .fz xs => .ok ⟨xs, none⟩ S
  | .ref p => refItm p S
  | _ => .no
def mSeqI (a : ME) : MIt := fun env S => (a env S).bind asItm
def rangeD (lo : Int) (n : Nat) : List D := (List.range n).map fun (i : Nat) => D.int (lo + (i : Int))
def rng1O (xs : List D) (S : DS) : Ou Itm := match xs with
  | [.int j] => if -(2 ^ 62) ≤ j ∧ j < 2 ^ 62 then .ok ⟨rangeD 0 j.toNat, none⟩ S else .no
  | _ => .no
def rng2O (xs : List D) (S : DS) : Ou Itm := match xs with
  | [.int i, .int j] => if -(2 ^ 62) ≤ i ∧ i < 2 ^ 62 ∧ -(2 ^ 62) ≤ j ∧ j < 2 ^ 62 then .ok ⟨rangeD i (j - i).toNat, none⟩ S else .no
  | _ => .no
def enumD : Nat → List D → List D
  | _, [] => []
  | n, x :: xs => .tup [.int (n : Int), x] :: enumD (n + 1) xs
def zipD : List D → List D → List D
  | x :: xs, y :: ys => .tup [x, y] :: zipD xs ys
  | _, _ => []
def asSeq (d : D) : Option (List D) := match d with
  | .tup xs => some xs
  | .vl xs => some xs
  | _ => none
def enumR (p : Nat) (S : DS) : Ou Itm := match S[p]? with
  | some (DO.lst xs) => .ok ⟨enumD 0 xs, some (p, xs)⟩ S
  | none => .no
def enumO (xs : List D) (S : DS) : Ou Itm := match xs with
  | [.tup ys] => .ok ⟨enumD 0 ys, none⟩ S
  | [.vl ys] => .ok ⟨enumD 0 ys, none⟩ S
  | [.ref p] => enumR p S
  | _ => .no
def zipO (xs : List D) (S : DS) : Ou Itm := match xs with
  | [d, e] => match asSeq d, asSeq e with
    | some ys, some zs => .ok ⟨zipD ys zs, none⟩ S
    | _, _ => .no
  | _ => .no
def mArgI (f : List D → DS → Ou Itm) (a : MA) : MIt := fun env S => (a env S).bind f

theorem enumD_get : ∀ (n : Nat) (xs : List D) (i : Nat), (enumD n xs)[i]? = (xs[i]?).map fun x => .tup [.int ((n + i : Nat) : Int), x]
  | _, [], i => by simp [enumD]
  | n, x :: xs, 0 => by simp [enumD]
  | n, x :: xs, i + 1 => by
    rw [enumD, List.getElem?_cons_succ, List.getElem?_cons_succ, enumD_get (n + 1) xs i]
    rw [show n + 1 + i = n + (i + 1) by omega]
theorem enumD_len : ∀ (n : Nat) (xs : List D), (enumD n xs).length = xs.length
  | _, [] => rfl
  | n, x :: xs => by rw [enumD, List.length_cons, List.length_cons, enumD_len]
theorem zipD_get : ∀ (xs ys : List D) (i : Nat) (d : D), (zipD xs ys)[i]? = some d → ∃ x y, xs[i]? = some x ∧ ys[i]? = some y ∧ d = .tup [x, y]
  | [], _, _, _, h => by simp [zipD] at h
  | _ :: _, [], _, _, h => by simp [zipD] at h
  | x :: xs, y :: ys, 0, d, h => by
    simp [zipD] at h
    exact ⟨x, y, rfl, rfl, h.symm⟩
  | x :: xs, y :: ys, i + 1, d, h => by
    rw [zipD, List.getElem?_cons_succ] at h
    obtain ⟨x', y', h1, h2, h3⟩ := zipD_get xs ys i d h
    exact ⟨x', y', by simpa using h1, by simpa using h2, h3⟩
theorem zipD_len : ∀ (xs ys : List D), (zipD xs ys).length = min xs.length ys.length
  | [], ys => by simp [zipD]
  | _ :: _, [] => by simp [zipD]
  | x :: xs, y :: ys => by rw [zipD, List.length_cons, List.length_cons, List.length_cons, zipD_len]; omega

section
variable {X : Cx} {cm : CM} {W : WX} {tg e e2 : Expr} {ma : ME} {mm : MA}
/-- a sequence's place, told for later -/
theorem seq_later {K : PySem.W.Frag} {xl al1 : List Addr} {H1 : Hp} {d : D} {v : V} {ys : List D} (h : asSeq d = some ys) (r : Rep K xl al1 H1 d v) :
    ∃ a k us, v = .ref a ∧ SqV K k H1 a us ∧ Reps K xl al1 H1 ys us ∧ ∀ al' H', Ext al1 H1 al' H' → SqV K k H' a us := by
  cases r with
  | tup h0 r =>
    simp only [asSeq, Option.some.injEq] at h
    subst h
    exact ⟨_, false, _, rfl, h0, r, fun al' H' e => e.sqt h0⟩
  | vl h0 n n' r =>
    simp only [asSeq, Option.some.injEq] at h
    subst h
    exact ⟨_, true, _, rfl, SqL.of h0, r, fun al' H' e => SqL.of (e.frL n h0)⟩
  | _ => simp [asSeq] at h
theorem sqv_at {K : PySem.W.Frag} {k : Bool} {a : Addr} {H : Hp} {us : List V} (h : SqV K k H a us) (J : It) (hJ : J = SeqIt K k a) {i : Nat} {v : V} (hv : us[i]? = some v) : J.go i H ∧ ∀ x H'', J.yld i H x H'' → H'' = H ∧ x = v := by
  subst hJ
  cases k with
  | true =>
    refine ⟨⟨us, v, h, hv⟩, fun x H'' y => ?_⟩
    obtain ⟨e, y⟩ := y
    have := y us h
    rw [hv] at this
    exact ⟨e, (Option.some.inj this).symm⟩
  | false =>
    refine ⟨⟨us, v, h, hv⟩, fun x H'' y => ?_⟩
    obtain ⟨e, y⟩ := y
    have := y us h
    rw [hv] at this
    exact ⟨e, (Option.some.inj this).symm⟩
theorem sqv_end {K : PySem.W.Frag} {k : Bool} {a : Addr} {H : Hp} {us : List V} (h : SqV K k H a us) : (SeqIt K k a).stop us.length H := by
  cases k with
  | true => exact ⟨us, h, Nat.le_refl _⟩
  | false => exact ⟨us, h, Nat.le_refl _⟩
theorem yields_static {K : PySem.W.Frag} {xl al1 : List Addr} {H1 : Hp} {k : Bool} {a : Addr} {us : List V} {ys : List D} (r : Reps K xl al1 H1 ys us) (l : ∀ al' H', Ext al1 H1 al' H' → SqV K k H' a us) : Yields K xl al1 H1 ⟨ys, none⟩ (SeqIt K k a) := by
  intro xl' S' al' H' e hx w _
  have hS := l al' H' e
  refine ⟨fun i d hd => ?_, ?_⟩
  · obtain ⟨v, hv, rv⟩ := r.get hd
    obtain ⟨g, y⟩ := sqv_at hS _ rfl hv
    refine ⟨g, fun x H'' hy => ?_⟩
    obtain ⟨e1, e2⟩ := y x H'' hy
    subst e1 e2
    exact ⟨fun _ _ h => h, (rv.chg hx).mono e⟩
  · have := sqv_end hS
    rw [← r.length] at this
    exact this
theorem it_seq (h : EOk X cm W e ma) : IOk' X cm W tg e (mSeqI ma) := by
  obtain ⟨t, p, d⟩ := h
  refine ⟨_, pi_seqD p, fun xl al σ H S env R w r q => ?_⟩
  refine d xl al σ H S env _ w r (q.bind.imp fun x S1 al1 H1 e1 w1 p1 v rv => ?_)
  cases x with
  | tup xs =>
    obtain ⟨a, k, us, rfl, hS, r1, l⟩ := seq_later (d := .tup xs) rfl rv
    exact ⟨a, k, rfl, ⟨us, hS⟩, p1.here w1 _ (yields_static r1 l)⟩
  | vl xs =>
    obtain ⟨a, k, us, rfl, hS, r1, l⟩ := seq_later (d := .vl xs) rfl rv
    exact ⟨a, k, rfl, ⟨us, hS⟩, p1.here w1 _ (yields_static r1 l)⟩
  | fz xs =>
    cases rv with
    | fz h n r1 => exact ⟨_, true, rfl, ⟨_, show SqL X.K H1 _ _ from .inl (.inr ⟨_, h⟩)⟩, p1.here w1 _ (yields_static (k := true) r1 fun al' H' e => show SqL X.K H' _ _ from .inl (.inr ⟨_, e.fr _ _ n (nt_frz _ _) h⟩))⟩
    | fzK k c h r1 => exact ⟨_, true, rfl, ⟨_, show SqL X.K H1 _ _ from h H1⟩, p1.here w1 _ (yields_static (k := true) r1 fun al' H' e => show SqL X.K H' _ _ from h H')⟩
  | ref n =>
    replace p1 : Post X.K cm xl (fun c d H' => W c d σ H') (fun it S1 al1 H1 => ∀ (J : It), Yields X.K xl al1 H1 it J → R J H1) (refItm n S1) al1 H1 := p1
    unfold refItm at p1
    split at p1
    · rename_i xs hS
      cases rv with
      | ref ha =>
        rename_i a
        obtain ⟨a', us, h1, h2, h3⟩ := w1.list hS
        rw [ha] at h1; cases h1
        refine ⟨a, true, rfl, ⟨us, show SqL X.K H1 a us from SqL.of h2⟩, p1.here w1 _ ?_⟩
        intro xl' S' al' H' e hx w' ok
        obtain ⟨b, us', g1, g2, g3⟩ := w'.list (show S'[n]? = some (DO.lst xs) from ok)
        rw [e.get ha] at g1; cases g1
        have hS' : SqV X.K true H' a us' := SqL.of g2
        refine ⟨fun i d hd => ?_, ?_⟩
        · obtain ⟨v, hv, rv⟩ := g3.get hd
          obtain ⟨g, y⟩ := sqv_at hS' _ rfl hv
          refine ⟨g, fun x H'' hy => ?_⟩
          obtain ⟨e1, e2⟩ := y x H'' hy
          subst e1 e2
          exact ⟨fun _ _ h => h, rv⟩
        · have := sqv_end hS'
          rw [← g3.length] at this
          exact this
    · exact p1.elim
  | _ => exact p1.elim
theorem range_yields {K : PySem.W.Frag} {xl al1 : List Addr} {H1 : Hp} {lo : Int} {n : Nat} : Yields K xl al1 H1 ⟨rangeD lo n, none⟩ (Itr lo n) := by
  intro xl' S' al' H' e hx w _
  refine ⟨fun i d hd => ?_, ?_⟩
  · have hl : i < n := by
      have := (List.getElem?_eq_some_iff.mp hd).1
      simpa [rangeD] using this
    refine ⟨hl, fun x H'' hy => ?_⟩
    obtain ⟨e1, e2⟩ := hy
    subst e1 e2
    have ed : d = .int (lo + (i : Int)) := by
      have : (rangeD lo n)[i]? = some d := hd
      unfold rangeD at this
      rw [List.getElem?_map, List.getElem?_range hl] at this
      exact (Option.some.inj this).symm
    subst ed
    exact ⟨fun _ _ h => h, .int _⟩
  · show n ≤ (rangeD lo n).length
    simp [rangeD]
theorem it_range1 {p pos : Pos} (hg : Gl X "range") (hm : X.mg "range" = none) (ha : AOk X cm W [e] mm) (hs : starEach [e] X.env = [(false, eval e X.env)] := by rfl) : IOk' X cm W tg (.Call (.Name "range" p) [e] [] pos) (mArgI rng1O mm) := by
  obtain ⟨t, pt, d⟩ := ha
  refine ⟨_, pi_range1 hg hm pt hs, fun xl al σ H S env R w r q => ?_⟩
  refine d xl al σ H S env _ w r (q.bind.imp fun xs S1 al1 H1 e1 w1 p1 vs rs => ?_)
  unfold rng1O at p1
  split at p1
  · obtain ⟨v, rfl, rv⟩ := reps1 rs
    cases rv
    split at p1
    · rename_i hc
      exact ⟨_, rfl, hc.1, hc.2, p1.here w1 _ range_yields⟩
    · exact p1.elim
  · exact p1.elim
theorem it_range2 {p pos : Pos} (hg : Gl X "range") (hm : X.mg "range" = none) (ha : AOk X cm W [e, e2] mm) (hs : starEach [e, e2] X.env = [(false, eval e X.env), (false, eval e2 X.env)] := by rfl) (hs2 : starEach [e2] X.env = [(false, eval e2 X.env)] := by rfl) : IOk' X cm W tg (.Call (.Name "range" p) [e, e2] [] pos) (mArgI rng2O mm) := by
  obtain ⟨t, pt, d⟩ := ha
  refine ⟨_, pi_range2 hg hm pt hs hs2, fun xl al σ H S env R w r q => ?_⟩
  refine d xl al σ H S env _ w r (q.bind.imp fun xs S1 al1 H1 e1 w1 p1 vs rs => ?_)
  unfold rng2O at p1
  split at p1
  · obtain ⟨v, u, rfl, rv, ru⟩ := reps2 rs
    cases rv; cases ru
    split at p1
    · rename_i hc
      exact ⟨_, _, rfl, hc, p1.here w1 _ range_yields⟩
    · exact p1.elim
  · exact p1.elim
theorem enum_yields {K : PySem.W.Frag} {xl al1 : List Addr} {H1 : Hp} {k : Bool} {a : Addr} {us : List V} {ys : List D} (r : Reps K xl al1 H1 ys us) (l : ∀ al' H', Ext al1 H1 al' H' → SqV K k H' a us) : Yields K xl al1 H1 ⟨enumD 0 ys, none⟩ (ItE K k a 0) := by
  intro xl' S' al' H' e hx w _
  have hS := l al' H' e
  refine ⟨fun i d hd => ?_, ?_⟩
  · have hd' : (enumD 0 ys)[i]? = some d := hd
    rw [enumD_get, Option.map_eq_some_iff] at hd'
    obtain ⟨y, hy, rfl⟩ := hd'
    obtain ⟨v, hv, rv⟩ := r.get hy
    refine ⟨⟨us, v, hS, hv⟩, fun x H'' hyx => ?_⟩
    obtain ⟨T, x0, rfl, nT, rfl, hx0⟩ := hyx
    have ex : x0 = v := by
      have := hx0 us hS
      rw [hv] at this
      exact (Option.some.inj this).symm
    subst ex
    refine ⟨fun b o h => by rw [upd_ne (ne_of_none h nT)]; exact h, ?_⟩
    have : Reps K xl' al' H' [.int ((0 + i : Nat) : Int), y] [.int (0 + (i : Int)), x0] := .cons (by rw [Nat.zero_add, Int.zero_add]; exact .int _) (.cons ((rv.chg hx).mono e) .nil)
    exact Rep.newTup (S := S') nT this
  · show (ItE K k a 0).stop (enumD 0 ys).length H'
    rw [enumD_len]
    exact ⟨us, hS, r.length⟩
theorem enum_at {K : PySem.W.Frag} {xl' al' : List Addr} {H' : Hp} {S' : DS} {k : Bool} {a : Addr} {us : List V} {ys : List D} (hS : SqV K k H' a us) (r : Reps K xl' al' H' ys us) :
    (∀ (i : Nat) d, (enumD 0 ys)[i]? = some d → (ItE K k a 0).go i H' ∧ ∀ x H'', (ItE K k a 0).yld i H' x H'' → NewOnly H' H'' ∧ Rep K xl' al' H'' d x) ∧ (ItE K k a 0).stop (enumD 0 ys).length H' := by
  refine ⟨fun i d hd' => ?_, ?_⟩
  · rw [enumD_get, Option.map_eq_some_iff] at hd'
    obtain ⟨y, hy, rfl⟩ := hd'
    obtain ⟨v, hv, rv⟩ := r.get hy
    refine ⟨⟨us, v, hS, hv⟩, fun x H'' hyx => ?_⟩
    obtain ⟨T, x0, rfl, nT, rfl, hx0⟩ := hyx
    have ex : x0 = v := by
      have := hx0 us hS
      rw [hv] at this
      exact (Option.some.inj this).symm
    subst ex
    refine ⟨fun b o h => by rw [upd_ne (ne_of_none h nT)]; exact h, ?_⟩
    have : Reps K xl' al' H' [.int ((0 + i : Nat) : Int), y] [.int (0 + (i : Int)), x0] := .cons (by rw [Nat.zero_add, Int.zero_add]; exact .int _) (.cons rv .nil)
    exact Rep.newTup (S := S') nT this
  · rw [enumD_len]
    exact ⟨us, hS, r.length⟩
theorem it_enum {p pos tpos : Pos} {elts : List Expr} {kk : Nat} (hg : Gl X "enumerate") (hm : X.mg "enumerate" = none) (ha : AOk X cm W [e] mm) (hs : starEach [e] X.env = [(false, eval e X.env)] := by rfl) : IOk' X cm W (.Tuple elts kk tpos) (.Call (.Name "enumerate" p) [e] [] pos) (mArgI enumO mm) := by
  obtain ⟨t, pt, d⟩ := ha
  refine ⟨_, pi_enumD hg hm pt hs, fun xl al σ H S env R w r q => ?_⟩
  refine d xl al σ H S env _ w r (q.bind.imp fun xs S1 al1 H1 e1 w1 p1 vs rs => ?_)
  unfold enumO at p1
  split at p1
  · obtain ⟨v, rfl, rv⟩ := reps1 rs
    obtain ⟨a, k, us, rfl, hS, r1, l⟩ := seq_later (d := .tup _) rfl rv
    exact ⟨a, k, rfl, ⟨us, hS⟩, p1.here w1 _ (enum_yields r1 l)⟩
  · obtain ⟨v, rfl, rv⟩ := reps1 rs
    obtain ⟨a, k, us, rfl, hS, r1, l⟩ := seq_later (d := .vl _) rfl rv
    exact ⟨a, k, rfl, ⟨us, hS⟩, p1.here w1 _ (enum_yields r1 l)⟩
  · obtain ⟨v, rfl, rv⟩ := reps1 rs
    unfold enumR at p1
    split at p1
    · rename_i n _ xs hS
      cases rv with
      | ref ha =>
        rename_i a
        obtain ⟨a', us, h1, h2, h3⟩ := w1.list hS
        rw [ha] at h1; cases h1
        refine ⟨a, true, rfl, ⟨us, show SqL X.K H1 a us from SqL.of h2⟩, p1.here w1 _ ?_⟩
        intro xl' S' al' H' e hx w' ok
        obtain ⟨b, us', g1, g2, g3⟩ := w'.list (show S'[n]? = some (DO.lst xs) from ok)
        rw [e.get ha] at g1; cases g1
        exact enum_at (S' := S') (show SqV X.K true H' a us' from SqL.of g2) g3
    · exact p1.elim
  · exact p1.elim
theorem zip_yields {K : PySem.W.Frag} {xl al1 : List Addr} {H1 : Hp} {k1 k2 : Bool} {a b : Addr} {us vs : List V} {ys zs : List D} (r : Reps K xl al1 H1 ys us) (l : ∀ al' H', Ext al1 H1 al' H' → SqV K k1 H' a us) (r2 : Reps K xl al1 H1 zs vs) (l2 : ∀ al' H', Ext al1 H1 al' H' → SqV K k2 H' b vs) :
    Yields K xl al1 H1 ⟨zipD ys zs, none⟩ (ItZ K k1 k2 a b) := by
  intro xl' S' al' H' e hx w _
  have hS := l al' H' e
  have hS2 := l2 al' H' e
  refine ⟨fun i d hd => ?_, ?_⟩
  · obtain ⟨y, z, hy, hz, rfl⟩ := zipD_get ys zs i d hd
    obtain ⟨v, hv, rv⟩ := r.get hy
    obtain ⟨u, hu, ru⟩ := r2.get hz
    refine ⟨⟨us, vs, v, u, hS, hS2, hv, hu⟩, fun x H'' hyx => ?_⟩
    obtain ⟨T, x0, y0, rfl, nT, rfl, hx0, hy0⟩ := hyx
    have ex : x0 = v := by
      have := hx0 us hS
      rw [hv] at this
      exact (Option.some.inj this).symm
    have ey : y0 = u := by
      have := hy0 vs hS2
      rw [hu] at this
      exact (Option.some.inj this).symm
    subst ex ey
    refine ⟨fun b o h => by rw [upd_ne (ne_of_none h nT)]; exact h, ?_⟩
    exact Rep.newTup (S := S') nT (.cons ((rv.chg hx).mono e) (.cons ((ru.chg hx).mono e) .nil))
  · show (ItZ K k1 k2 a b).stop (zipD ys zs).length H'
    rw [zipD_len]
    exact ⟨us, vs, hS, hS2, by rw [r.length, r2.length]⟩
theorem it_zip {p pos tpos : Pos} {elts : List Expr} {kk : Nat} (hg : Gl X "zip") (hm : X.mg "zip" = none) (ha : AOk X cm W [e, e2] mm)
    (hs : starEach [e, e2] X.env = (false, eval e X.env) :: starEach [e2] X.env := by rfl) (hpl : (backTo pos (starEach [e2] X.env)).any (·.1) = false := by rfl) : IOk' X cm W (.Tuple elts kk tpos) (.Call (.Name "zip" p) [e, e2] [] pos) (mArgI zipO mm) := by
  obtain ⟨t, pt, d⟩ := ha
  refine ⟨_, pi_zipD hg hm pt hs hpl, fun xl al σ H S env R w r q => ?_⟩
  refine d xl al σ H S env _ w r (q.bind.imp fun xs S1 al1 H1 e1 w1 p1 vs rs => ?_)
  unfold zipO at p1
  split at p1
  · obtain ⟨v, u, rfl, rv, ru⟩ := reps2 rs
    split at p1
    · rename_i ys zs hd he
      obtain ⟨a, k, us, rfl, hS, r1, l⟩ := seq_later hd rv
      obtain ⟨b, k2, us2, rfl, hS2, r2, l2⟩ := seq_later he ru
      exact ⟨a, b, k, k2, rfl, ⟨us, hS⟩, ⟨us2, hS2⟩, p1.here w1 _ (zip_yields r1 l r2 l2)⟩
    · exact p1.elim
  · exact p1.elim
end

/-! comprehensions as expressions -/
section
variable {X : Cx} {cm : CM} {W : WX}
theorem finV_ok {K : PySem.W.Frag} : FinOk K cm finV := fun xl al1 H1 al H S acc us D0 Q W0 e _ w h n1 n2 r _ p =>
  p al H e w _ (.vl h n1 n2 (r.less fun a h => List.mem_cons_of_mem _ h))
section
omit [TabC]
mutual
theorem Rep.join {K : PySem.W.Frag} {xl al : List Addr} {H : Hp} {q : Addr} {us : List V} (hq : H q = some (.lst us)) : ∀ {d : D} {v : V}, Rep K (q :: xl) al H d v → Rep K xl (al ++ [q]) H d v
  | _, _, .non => .non
  | _, _, .bl b => .bl b
  | _, _, .int i => .int i
  | _, _, .str x => .str x
  | _, _, .tup h r => .tup h (r.join hq)
  | _, _, .vl h n n' r => .vl h (fun m => (List.mem_append.mp m).elim n fun z => n' (by rw [List.mem_singleton.mp z]; exact List.mem_cons_self)) (fun m => n' (List.mem_cons_of_mem _ m)) (r.join hq)
  | _, _, .fz h n r => .fz h (fun m => (List.mem_append.mp m).elim n fun z => by rw [List.mem_singleton.mp z, hq] at h; cases h) (r.join hq)
  | _, _, .fzK k c h r => .fzK k c h (r.join hq)
  | _, _, .ref (p := p) h => .ref (by
      have hl : p < al.length := by
        by_cases z : p < al.length
        · exact z
        · rw [List.getElem?_eq_none (by omega)] at h; cases h
      rw [List.getElem?_append_left hl]; exact h)
  | _, _, .dct h n => .dct h fun m => (List.mem_append.mp m).elim n fun z => by rw [List.mem_singleton.mp z, hq] at h; cases h
  | _, _, .exo a c h => .exo a c fun x z => ⟨(h x z).1, fun m => (List.mem_append.mp m).elim (h x z).2 fun y => (h x z).1.elim fun fs g => by rw [List.mem_singleton.mp y, hq] at g; cases g⟩
theorem Reps.join {K : PySem.W.Frag} {xl al : List Addr} {H : Hp} {q : Addr} {us : List V} (hq : H q = some (.lst us)) : ∀ {ds : List D} {vs : List V}, Reps K (q :: xl) al H ds vs → Reps K xl (al ++ [q]) H ds vs
  | _, _, .nil => .nil
  | _, _, .cons h r => .cons (h.join hq) (r.join hq)
end
end
theorem finR_ok {K : PySem.W.Frag} : FinOk K cm finR := by
  intro xl al1 H1 al H S acc us D0 Q W0 e h1 w h n1 n2 r w' p
  refine p (al ++ [D0]) H ⟨?_, e.fr, e.tup, fun a o ha na ho => ?_⟩ ⟨?_, by simp [w.len], fun q xs hx => ?_, fun a ha => ⟨fun m => ?_, (w.xs a ha).2⟩, w.tb⟩ _ (Rep.newRef' w)
  · obtain ⟨m, em⟩ := e.pre
    exact ⟨m ++ [D0], by rw [em, List.append_assoc]⟩
  · rcases List.mem_append.mp ha with z | z
    · exact e.new a o z na ho
    · rw [List.mem_singleton.mp z, h1] at ho; cases ho
  · rw [List.nodup_append]
    exact ⟨w.nd, by simp, fun a ha b hb z => by rw [List.mem_singleton.mp hb] at z; exact n1 (z ▸ ha)⟩
  · by_cases hq : q < S.length
    · rw [List.getElem?_append_left hq] at hx
      obtain ⟨a, ws, g1, g2, g3⟩ := w'.ob q xs hx
      exact ⟨a, ws, by rw [List.getElem?_append_left (by rw [w.len]; exact hq)]; exact g1, g2, g3.join h⟩
    · have hq2 : q = S.length := by
        by_cases z : q < (S ++ [DO.lst acc]).length
        · simp at z; omega
        · rw [List.getElem?_eq_none (by omega)] at hx; cases hx
      subst hq2
      rw [List.getElem?_append_right (Nat.le_refl _), Nat.sub_self] at hx
      simp at hx; subst hx
      refine ⟨D0, us, ?_, h, r.join h⟩
      rw [← w.len, List.getElem?_append_right (Nat.le_refl _), Nat.sub_self]; rfl
  · rcases List.mem_append.mp m with z | z
    · exact (w.xs a ha).1 z
    · rw [List.mem_singleton.mp z] at ha; exact n2 ha
theorem lc_den {elt tg : Expr} {ifs : List Expr} {scope : Scope} {own : List (Str × Nat)} {wi : TI} {mi : MIt} {mg : MG} {mt : MT} {me : ME} {fin : List D → DS → Ou D}
    (di : ∀ xl al σ H S env (R : It → Hp → Prop), Wd X.K xl S al H → EnvR X.K xl al H env σ → Post X.K cm xl (fun c d H' => W c d σ H') (fun it S1 al1 H1 => ∀ J, Yields X.K xl al1 H1 it J → R J H1) (mi env S) al H → wi σ H R)
    (hfin : FinOk X.K cm fin)
    (hg : ∀ (s : Shared) (H : Hp) (C : Addr) (cl : List (Str × Addr)) (fp : List Addr), GAOk (X.blk s H scope (compEnvC scope cl C X.env) fp) cm tg mg (own.map (·.2)))
    (ht : ∀ (s : Shared) (H : Hp) (C : Addr) (cl : List (Str × Addr)) (fp : List Addr), TsOk (X.blk s H scope (compEnvC scope cl C X.env) fp) cm noX ifs mt)
    (he : ∀ (s : Shared) (H : Hp) (C : Addr) (cl : List (Str × Addr)) (fp : List Addr), EOk (X.blk s H scope (compEnvC scope cl C X.env) fp) cm noX elt me) :
    ∃ g tt te, (∀ (s : Shared) (H : Hp) (C : Addr) (cl : List (Str × Addr)) (fp : List Addr), PG (X.blk s H scope (compEnvC scope cl C X.env) fp) tg g) ∧
      (∀ (s : Shared) (H : Hp) (C : Addr) (cl : List (Str × Addr)) (fp : List Addr), PTs (X.blk s H scope (compEnvC scope cl C X.env) fp) ifs tt) ∧
      (∀ (s : Shared) (H : Hp) (C : Addr) (cl : List (Str × Addr)) (fp : List Addr), PE (X.blk s H scope (compEnvC scope cl C X.env) fp) elt te) ∧
      DenE X.K cm W (tLc wi g tt te (own.map (·.2))) (lcM mi mg mt me (own.map (·.2)) fin) := by
  let G := fun (s : Shared) (H : Hp) (C : Addr) (cl : List (Str × Addr)) (fp : List Addr) => (hg s H C cl fp).choose
  let T := fun (s : Shared) (H : Hp) (C : Addr) (cl : List (Str × Addr)) (fp : List Addr) => (ht s H C cl fp).choose
  let E := fun (s : Shared) (H : Hp) (C : Addr) (cl : List (Str × Addr)) (fp : List Addr) => (he s H C cl fp).choose
  refine ⟨fun v σ H' Q => ∀ s H C cl fp, G s H C cl fp v σ H' Q, fun σ H' Q => ∀ s H C cl fp, T s H C cl fp σ H' Q, fun σ H' Q => ∀ s H C cl fp, E s H C cl fp σ H' Q, fun s H C cl fp => ⟨fun pins s' σ H' v u Q I r h => ?_⟩,
    fun s H C cl fp => ⟨fun pins s' σ H' Q I h => ?_⟩, fun s H C cl fp => ⟨fun pins s' σ H' Q I h => ?_⟩, ?_⟩
  · exact (hg s H C cl fp).choose_spec.1.run pins s' σ H' v u Q I r (h s H C cl fp)
  · exact (ht s H C cl fp).choose_spec.1.run pins s' σ H' Q I (h s H C cl fp)
  · exact (he s H C cl fp).choose_spec.1.run pins s' σ H' Q I (h s H C cl fp)
  · refine den_lc di (fun xl al σ H S env d v Q w r rv p s H0 C cl fp => ?_) (fun xl al σ H S env Q w r p s H0 C cl fp => ?_) (fun xl al σ H S env Q w r p s H0 C cl fp => ?_) hfin
    · exact (hg s H0 C cl fp).choose_spec.2 xl al σ H S env d v Q w r rv p
    · exact (ht s H0 C cl fp).choose_spec.2 xl al σ H S env Q w r p
    · exact (he s H0 C cl fp).choose_spec.2 xl al σ H S env Q w r p
theorem e_lc {elt tg iter : Expr} {ifs : List Expr} {scope : Scope} {own : List (Str × Nat)} {pos : Pos} {mi : MIt} {mg : MG} {mt : MT} {me : ME} {fin : List D → DS → Ou D} (hc : X.calm = true) (hN : X.N.Nodup) (hi : IOk' X cm W tg iter mi) (ok : BlkOk X.N X.env.scope scope own) (hfin : FinOk X.K cm fin)
    (hg : ∀ (s : Shared) (H : Hp) (C : Addr) (cl : List (Str × Addr)) (fp : List Addr), GAOk (X.blk s H scope (compEnvC scope cl C X.env) fp) cm tg mg (own.map (·.2)))
    (ht : ∀ (s : Shared) (H : Hp) (C : Addr) (cl : List (Str × Addr)) (fp : List Addr), TsOk (X.blk s H scope (compEnvC scope cl C X.env) fp) cm noX ifs mt)
    (he : ∀ (s : Shared) (H : Hp) (C : Addr) (cl : List (Str × Addr)) (fp : List Addr), EOk (X.blk s H scope (compEnvC scope cl C X.env) fp) cm noX elt me) (hs : ∀ x, foldedSetIterable iter X.env x = pure x := by intro _; rfl) :
    EOk X cm W (.ListComp elt [⟨tg, iter, ifs, 0⟩] scope pos) (lcM mi mg mt me (own.map (·.2)) fin) := by
  obtain ⟨wi, pi, di⟩ := hi
  obtain ⟨g, tt, te, h1, h2, h3, h4⟩ := lc_den di hfin hg ht he
  exact ⟨_, pe_lc hc hN pi ok h1 h2 h3 hs, h4⟩
/-- y = [..] on one line, y a plain local -/
theorem s_setLc {i : Nat} {y : Str} {py spos : Pos} {elt tg iter : Expr} {ifs : List Expr} {scope : Scope} {own : List (Str × Nat)} {pos : Pos} {mi : MIt} {mg : MG} {mt : MT} {me : ME} {fin : List D → DS → Ou D} (hc : X.calm = true) (hN : X.N.Nodup)
    (hsw : swapsWith (.ListComp elt [⟨tg, iter, ifs, 0⟩] scope pos) (some (.Name y py)) spos.line X.env = pure true) (hi : IOk' X cm W tg iter mi) (ok : BlkOk X.N X.env.scope scope own) (hfin : FinOk X.K cm fin)
    (hg : ∀ (s : Shared) (H : Hp) (C : Addr) (cl : List (Str × Addr)) (fp : List Addr), GAOk (X.blk s H scope (compEnvC scope cl C X.env) fp) cm tg mg (own.map (·.2)))
    (ht : ∀ (s : Shared) (H : Hp) (C : Addr) (cl : List (Str × Addr)) (fp : List Addr), TsOk (X.blk s H scope (compEnvC scope cl C X.env) fp) cm noX ifs mt)
    (he : ∀ (s : Shared) (H : Hp) (C : Addr) (cl : List (Str × Addr)) (fp : List Addr), EOk (X.blk s H scope (compEnvC scope cl C X.env) fp) cm noX elt me)
    (hy : X.N[i]? = some y := by rfl) (hyl : X.env.scope.names.lookup y = some .local := by rfl) (hs : ∀ x, foldedSetIterable iter X.env x = pure x := by intro _; rfl) :
    SOk X cm W (.Assign [.Name y py] (.ListComp elt [⟨tg, iter, ifs, 0⟩] scope pos) spos) (mSet i (lcM mi mg mt me (own.map (·.2)) fin)) := by
  obtain ⟨wi, pi, di⟩ := hi
  obtain ⟨g, tt, te, h1, h2, h3, h4⟩ := lc_den di hfin hg ht he
  refine ⟨_, ps_setLc hc hN hy hyl hsw pi ok h1 h2 h3 hs, fun xl al σ H S env D0 w r q => ?_⟩
  refine h4 xl al σ H S env _ w r ((q.lift r).imp fun x S1 al1 H1 e1 w1 p1 v rv => ?_)
  exact p1.here w1 _ ((r.mono e1).set rv i)
end
end DL

namespace DL
open PySem PySem.Spec PyProof.Rows L2
variable [TabC]

/-! methods of built-in types -/
inductive RcT where
  | lst | str
def RcT.name : RcT → String
  | .lst => "list"
  | .str => "str"
def RcT.ok : RcT → D → Bool
  | .lst, .ref _ => true
  | .lst, .vl _ => true
  | .lst, .fz _ => true
  | .str, .str _ => true
  | _, _ => false
def mMeth (T : RcT) (f : D → List D → DS → Ou D) (o : ME) (a : MA) : ME := fun env S => (o env S).bind fun x S1 => if T.ok x = true then (a env S1).bind fun xs S2 => f x xs S2 else .no
def mMeth0 (T : RcT) (f : D → List D → DS → Ou D) (o : ME) : ME := fun env S => (o env S).bind fun x S1 => if T.ok x = true then f x [] S1 else .no
def MtOk (X : Cx) (cm : CM) (id : String) (op : D → List D → DS → Ou D) : Prop := ∃ r, MtR X id r ∧ ∀ xl al H S x v xs vs (Q : VK) (W0 : WH), Wd X.K xl S al H → Rep X.K xl al H x v → Reps X.K xl al H xs vs → Post X.K cm xl W0 (RE X.K xl Q) (op x xs S) al H → r v vs H Q
section
variable {X : Cx} {cm : CM} {W : WX} {o e : Expr} {es : List Expr} {mo : ME} {mm : MA} {name : Str} {apos cpos : Pos} {id : String} {f : D → List D → DS → Ou D}
theorem recv {K : PySem.W.Frag} {xl al : List Addr} {H : Hp} {S : DS} {x : D} {v : V} {T : RcT} (w : Wd K xl S al H) (r : Rep K xl al H x v) (h : T.ok x = true) : tyV K T.name v H := by
  cases T with
  | lst =>
    cases r with
    | vl h0 _ _ _ => exact .inl ⟨rfl, _, SqL.of h0⟩
    | fz h0 _ _ => exact .inl ⟨rfl, _, .inl (.inr ⟨_, h0⟩)⟩
    | fzK _ _ h0 _ => exact .inl ⟨rfl, _, h0 H⟩
    | ref h0 =>
      obtain ⟨_, us, _, hu⟩ := w.at (List.mem_of_getElem? h0)
      exact .inl ⟨rfl, us, SqL.of hu⟩
    | _ => simp [RcT.ok] at h
  | str =>
    cases r with
    | str x => rfl
    | _ => simp [RcT.ok] at h
theorem e_meth (T : RcT) (pa : PlainAttrs T.name) (slot : Slot T.name name id) (hty : typeOf (.builtin id) = pure (.type "method_descriptor")) (hm : MtOk X cm id f) (ho : EOk X cm W o mo) (ha : AOk X cm W (e :: es) mm)
    (hbase : attributeBase o name X.env (eval o X.env) = eval o X.env := by rfl)
    (hfew : ((backTo cpos (starEach (e :: es) X.env)).all (fun x => !x.1) && (backToKw cpos (keywordEach [] X.env)).all (fun x => x.1.isSome)
      && decide ((e :: es).length + ([] : List Keyword).length + (if ([] : List Keyword).isEmpty then 0 else 1) < 30)) = true := by rfl)
    (hline : (apos.endLine == cpos.line) = true := by rfl) (hs : starEach (e :: es) X.env = (false, eval e X.env) :: starEach es X.env := by rfl) (hplain : (backTo cpos (starEach es X.env)).any (·.1) = false := by rfl) :
    EOk X cm W (.Call (.Attribute o name apos) (e :: es) [] cpos) (mMeth T f mo mm) := by
  obtain ⟨r, hr, dr⟩ := hm
  obtain ⟨t, p, d⟩ := ho
  obtain ⟨t', p', d'⟩ := ha
  refine ⟨_, pe_bm pa slot hty hr p p' hbase hfew hline hs hplain, fun xl al σ H S env Q w r q => ?_⟩
  refine d xl al σ H S env _ w r (q.bind.imp fun x S1 al1 H1 e1 w1 p1 v rv => ?_)
  split at p1
  · rename_i hT
    refine ⟨recv w1 rv hT, ?_⟩
    exact d' xl al1 σ H1 S1 env _ w1 (r.mono e1) (p1.bind.imp fun xs S2 al2 H2 e2 w2 p2 vs rs => dr xl al2 H2 S2 x v xs vs Q _ w2 (rv.mono e2) rs p2)
  · exact p1.elim
theorem e_meth0 (T : RcT) (pa : PlainAttrs T.name) (slot : Slot T.name name id) (hty : typeOf (.builtin id) = pure (.type "method_descriptor")) (hm : MtOk X cm id f) (ho : EOk X cm W o mo)
    (hbase : attributeBase o name X.env (eval o X.env) = eval o X.env := by rfl) (hline : (apos.endLine == cpos.line) = true := by rfl) : EOk X cm W (.Call (.Attribute o name apos) [] [] cpos) (mMeth0 T f mo) := by
  obtain ⟨r, hr, dr⟩ := hm
  obtain ⟨t, p, d⟩ := ho
  refine ⟨_, pe_bm0 pa slot hty hr p hbase hline, fun xl al σ H S env Q w r q => ?_⟩
  refine d xl al σ H S env _ w r (q.bind.imp fun x S1 al1 H1 e1 w1 p1 v rv => ?_)
  split at p1
  · rename_i hT
    exact ⟨recv w1 rv hT, dr xl al1 H1 S1 x v [] [] Q _ w1 rv .nil p1⟩
  · exact p1.elim
end
def appendO (x : D) (xs : List D) (S : DS) : Ou D := match x, xs with
  | .ref p, [y] => match S[p]? with
    | some (DO.lst ys) => if ys.length < sizeLine then .ok .non (S.set p (.lst (ys ++ [y]))) else .no
    | none => .no
  | _, _ => .no
def insertO (x : D) (xs : List D) (S : DS) : Ou D := match x, xs with
  | .ref p, [.int i, y] => match S[p]? with
    | some (DO.lst ys) => if ys.length < sizeLine ∧ 0 ≤ i ∧ i < 2 ^ 63 then .ok .non (S.set p (.lst (ys.take i.toNat ++ [y] ++ ys.drop i.toNat))) else .no
    | none => .no
  | _, _ => .no
def extendO (x : D) (xs : List D) (S : DS) : Ou D := match x, xs with
  | .ref p, [.vl zs] => match S[p]? with
    | some (DO.lst ys) => if ys.length + zs.length ≤ sizeLine then .ok .non (S.set p (.lst (ys ++ zs))) else .no
    | none => .no
  | _, _ => .no
section
variable {X : Cx} {cm : CM}
theorem mm_append : MtOk X cm "list.append" appendO := by
  refine ⟨_, mt_append, fun xl al H S x v xs vs Q W0 w rv rs p => ?_⟩
  unfold appendO at p
  split at p
  · obtain ⟨u, rfl, ru⟩ := reps1 rs
    split at p
    · rename_i ys hS
      split at p
      · rename_i hl
        cases rv with
        | ref ha =>
          obtain ⟨a, us, h1, h2, h3⟩ := w.list hS
          rw [ha] at h1; cases h1
          refine ⟨_, us, u, rfl, rfl, h2, by rw [← h3.length]; exact hl, ?_⟩
          exact p al _ (ext_write (List.mem_of_getElem? ha) h2) (w.write hS ha h2 (h3.append (.cons ru .nil))) _ .non
      · exact p.elim
    · exact p.elim
  · exact p.elim
theorem mm_insert : MtOk X cm "list.insert" insertO := by
  refine ⟨_, mt_insert, fun xl al H S x v xs vs Q W0 w rv rs p => ?_⟩
  unfold insertO at p
  split at p
  · obtain ⟨z, u, rfl, rz, ru⟩ := reps2 rs
    cases rz
    split at p
    · rename_i ys hS
      split at p
      · rename_i hl
        cases rv with
        | ref ha =>
          obtain ⟨a, us, h1, h2, h3⟩ := w.list hS
          rw [ha] at h1; cases h1
          refine ⟨_, us, _, u, rfl, rfl, h2, by rw [← h3.length]; exact hl.1, hl.2.1, hl.2.2, ?_⟩
          exact p al _ (ext_write (List.mem_of_getElem? ha) h2) (w.write hS ha h2 (((h3.take _).append (.cons ru .nil)).append (h3.drop _))) _ .non
      · exact p.elim
    · exact p.elim
  · exact p.elim
theorem mm_extend : MtOk X cm "list.extend" extendO := by
  refine ⟨_, mt_extend, fun xl al H S x v xs vs Q W0 w rv rs p => ?_⟩
  unfold extendO at p
  split at p
  · obtain ⟨u, rfl, ru⟩ := reps1 rs
    obtain ⟨b, zs, rfl, hb, nb, nxb, r2⟩ := rep_ref_lst ru
    split at p
    · rename_i ys hS
      split at p
      · rename_i hl
        cases rv with
        | ref ha =>
          obtain ⟨a, us, h1, h2, h3⟩ := w.list hS
          rw [ha] at h1; cases h1
          refine ⟨_, b, us, zs, rfl, rfl, h2, hb, by rw [← h3.length, ← r2.length]; exact hl, ?_⟩
          exact p al _ (ext_write (List.mem_of_getElem? ha) h2) (w.write hS ha h2 (h3.append r2)) _ .non
      · exact p.elim
    · exact p.elim
  · exact p.elim
end

/-! isinstance -/
def tyName : D → String
  | .non => "NoneType"
  | .bl _ => "bool"
  | .int _ => "int"
  | .str _ => "str"
  | .tup _ => "tuple"
  | .vl _ => "list"
  | .fz _ => "list"
  | .ref _ => "list"
  | .dct => "dict"
  | .exo _ _ => "object"
def isTy (T : String) (d : D) : Option Bool := match T, d with
  | _, .exo _ _ => none
  | "int", .int _ => some true
  | "int", .bl _ => some true
  | "int", _ => some false
  | "bool", .bl _ => some true
  | "bool", _ => some false
  | "str", .str _ => some true
  | "str", _ => some false
  | "tuple", .tup _ => some true
  | "tuple", _ => some false
  | "list", .vl _ => some true
  | "list", .fz _ => some true
  | "list", .ref _ => some true
  | "list", _ => some false
  | "dict", .dct => some true
  | "dict", _ => some false
  | _, _ => none
def isiM (T : String) (a : ME) : ME := fun env S => (a env S).bind fun d S1 => match isTy T d with
  | some b => .ok (.bl b) S1
  | none => .no
def isiM2 (T U : String) (a : ME) : ME := fun env S => (a env S).bind fun d S1 => match isTy T d, isTy U d with
  | some b, some c => .ok (.bl (b || c)) S1
  | _, _ => .no
theorem isTy_kit {K : PySem.W.Frag} {T : String} {d : D} {b : Bool} (h : isTy T d = some b) : PySem.W.kitOne K (.type (tyName d)) (.type T) = some b := by
  refine kit_ty ?_
  unfold isTy at h
  split at h <;> first
    | (cases h; simp only [tyName]; decide +kernel)
    | (cases h; cases d <;> first | (simp only [tyName]; decide +kernel) | simp_all)
    | cases h
theorem isTy_ne {T : String} {d : D} {b : Bool} (h : isTy T d = some b) : ∀ a c, d ≠ .exo a c := fun a c e => by
  subst e
  unfold isTy at h
  simp at h
theorem rep_ty {K : PySem.W.Frag} {xl al : List Addr} {H : Hp} {S : DS} {d : D} {v : V} (w : Wd K xl S al H) (r : Rep K xl al H d v) (ne : ∀ a c, d ≠ .exo a c) : TyX K H v (.type (tyName d)) := by
  cases r with
  | non => exact .base .non
  | bl b => exact .base (.bl b)
  | int i => exact .base (.int i)
  | str x => exact .base (.str x)
  | tup h r =>
    rcases h with (h | ⟨o, h⟩) | ⟨o, its, n, hk, hc, hd, hz, hv⟩
    · exact .base (.tup h)
    · exact .fTuple h
    · exact .kTuple hk hc
  | vl h _ _ _ => exact .base (.lst h)
  | fz h _ _ => exact .base (.frz h)
  | fzK k c _ _ => exact .kList k c
  | ref h =>
    obtain ⟨_, us, _, hu⟩ := w.at (List.mem_of_getElem? h)
    exact .base (.lst hu)
  | dct h n => exact .base (.dK h)
  | exo a c _ => exact absurd rfl (ne a c)
section
variable {X : Cx} {cm : CM} {W : WX} {e : Expr} {me : ME} {p p2 p3 pos tp : Pos} {T U : String} {xT xU : Str}
theorem e_isi (hg : Gl X "isinstance") (hm : X.mg "isinstance" = none) (hgT : Gl X xT) (hmT : X.mg xT = none) (hvT : bootBuiltins xT = some (.type T)) (he : EOk X cm W e me) (hnT : xT ≠ "__name__" := by decide) (hdT : (xT == ("__debug__" : Str)) = false := by decide)
    (hs1 : starEach [e, .Name xT p2] X.env = (false, eval e X.env) :: starEach [.Name xT p2] X.env := by rfl) (hs2 : starEach [.Name xT p2] X.env = (false, eval (.Name xT p2) X.env) :: starEach [] X.env := by rfl)
    (hpl : (backTo pos (starEach [.Name xT p2] X.env)).any (·.1) = false := by rfl) : EOk X cm W (.Call (.Name "isinstance" p) [e, .Name xT p2] [] pos) (isiM T me) := by
  obtain ⟨t, pt, d⟩ := he
  refine ⟨_, pe_callB call_isi hg hm PyProof.Rows.boot_isinstance (pa_cons pt (pa_cons (pe_bltn (v := .ty T) hgT hmT hvT rfl hnT hdT) pa_nil hs2) hs1) (by decide) (by decide) hs1 hpl, fun xl al σ H S env Q w r q => ?_⟩
  refine d xl al σ H S env _ w r (q.bind.imp fun x S1 al1 H1 e1 w1 p1 v rv => ?_)
  split at p1
  · rename_i b hb
    exact ⟨v, .ty T, _, _, b, rfl, .ty T, rep_ty w1 rv (isTy_ne hb), isTy_kit hb, p1.here w1 _ (.bl b)⟩
  · exact p1.elim
theorem e_isi2 {k : Nat} (hg : Gl X "isinstance") (hm : X.mg "isinstance" = none) (hgT : Gl X xT) (hmT : X.mg xT = none) (hvT : bootBuiltins xT = some (.type T)) (hgU : Gl X xU) (hmU : X.mg xU = none) (hvU : bootBuiltins xU = some (.type U)) (he : EOk X cm W e me)
    (hnT : xT ≠ "__name__" := by decide) (hdT : (xT == ("__debug__" : Str)) = false := by decide) (hnU : xU ≠ "__name__" := by decide) (hdU : (xU == ("__debug__" : Str)) = false := by decide)
    (hsa : starEach [.Name xT p2, .Name xU p3] X.env = (false, eval (.Name xT p2) X.env) :: starEach [.Name xU p3] X.env := by rfl) (hsb : starEach [.Name xU p3] X.env = (false, eval (.Name xU p3) X.env) :: starEach [] X.env := by rfl)
    (hs1 : starEach [e, .Tuple [.Name xT p2, .Name xU p3] k tp] X.env = (false, eval e X.env) :: starEach [.Tuple [.Name xT p2, .Name xU p3] k tp] X.env := by rfl) (hs2 : starEach [.Tuple [.Name xT p2, .Name xU p3] k tp] X.env = (false, eval (.Tuple [.Name xT p2, .Name xU p3] k tp) X.env) :: starEach [] X.env := by rfl)
    (hpl : (backTo pos (starEach [.Tuple [.Name xT p2, .Name xU p3] k tp] X.env)).any (·.1) = false := by rfl) : EOk X cm W (.Call (.Name "isinstance" p) [e, .Tuple [.Name xT p2, .Name xU p3] k tp] [] pos) (isiM2 T U me) := by
  obtain ⟨t, pt, d⟩ := he
  refine ⟨_, pe_callB call_isiT hg hm PyProof.Rows.boot_isinstance (pa_cons pt (pa_cons (pe_tup (pa_cons (pe_bltn (v := .ty T) hgT hmT hvT rfl hnT hdT) (pa_cons (pe_bltn (v := .ty U) hgU hmU hvU rfl hnU hdU) pa_nil hsb) hsa)) pa_nil hs2) hs1) (by decide) (by decide) hs1 hpl,
    fun xl al σ H S env Q w r q => ?_⟩
  refine d xl al σ H S env _ w r (q.bind.imp fun x S1 al1 H1 e1 w1 p1 v rv => ?_)
  refine ⟨by show 2 ≤ sizeLine; decide, fun a ha => ?_⟩
  split at p1
  · rename_i b c hb hc
    refine ⟨v, a, [.ty T, .ty U], _, [.type T, .type U], b || c, rfl, upd_same, .cons (.ty T) (.cons (.ty U) .nil), rep_ty (w1.put (o := .tup [.ty T, .ty U]) ha) (rv.mono (ext_new ha)) (isTy_ne hb), ?_, ?_⟩
    · refine kitAny_cons (isTy_kit hb) (fun e => kitAny_cons (isTy_kit hc) (fun e2 => ?_) fun e2 => ?_) fun e => ?_
      · rw [e, e2]; exact kitAny_nil
      · rw [e2, Bool.or_true]
      · rw [e, Bool.true_or]
    · exact p1 al1 _ (ext_new ha) (w1.put ha) _ (.bl _)
  · exact p1.elim
end

/-! repr, str -/
def reprO (xs : List D) (S : DS) : Ou D := match xs with
  | [d] => match toPyS S d with
    | some q => if q.showable = true ∧ SeqAt.shaped q = true ∧ q.shown.length ≤ sizeLine then .ok (.str q.shown) S else .no
    | none => .no
  | _ => .no
def strO (xs : List D) (S : DS) : Ou D := match xs with
  | [.int i] => if i.natAbs.log2 < 1920 then .ok (.str (toString i)) S else .no
  | _ => .no
def rRepr (K : PySem.W.Frag) : List V → Hp → VK → Prop := fun xs H Q => ∃ v q, xs = [v] ∧ Dp K H v q ∧ q.showable = true ∧ SeqAt.shaped q = true ∧ q.shown.length ≤ sizeLine ∧ Q (.str q.shown) H
section
variable {X : Cx} {cm : CM}
theorem call_reprD (hg : X.A.guards = some []) (hu : X.A.units + 65 < cLine) : CallR X (.builtin "repr") (rRepr X.K) := by
  intro pins s σ H xs us Q I r h
  obtain ⟨v, q, rfl, hd, h1, h2, h3, hq⟩ := h
  obtain ⟨u, rfl, ru⟩ := vals1 r
  have fin : ∀ (h' : Heap) (t : Tok) (tk : Nat), (∀ b o, s.heap.get? b = some o → h'.get? b = some o) → EP X pins σ Q (.str q.shown t) { s with heap := h', toks := tk } := fun h' t tk hk => ⟨.str q.shown, H, I.kept hk, ⟨t, rfl⟩, hq⟩
  have one : ∀ {t : Tok}, EP X pins σ Q (.str q.shown t) { s with toks := s.toks + 1 } := fun {t} => ⟨.str q.shown, H, I.tok _, ⟨t, rfl⟩, hq⟩
  have isRef : ∀ a, u = .ref a → wpAny (model X.prog X.w) X.A (call (.builtin "repr") [.ref a]) (EP X pins σ Q) X.xe s := fun a e => by
    subst e
    obtain ⟨as, R⟩ := Dp.reads I q v _ hd ru
    refine repr_of_reads' R h1 (PyData.noDict_hsm (PyData.hasDict_of_canLay q (SeqAt.canLay_of_shaped h2))) hg ?_ (fun _ _ e => e) (fun h' t tk hk => fin h' t tk hk) h3
    have := SeqAt.depth_of_shaped h2
    omega
  cases hd with
  | non => cases ru; exact PySem.P.repr_of_none one
  | bl b => cases ru; exact PySem.P.repr_of_bool one
  | int i =>
    obtain ⟨t, rfl⟩ := ru
    exact PySem.P.repr_of_int (by simpa [PyData.showable] using h1) one
  | str x =>
    obtain ⟨t, rfl⟩ := ru
    exact PySem.P.repr_of_str one h3
  | lst ha _ => cases ru; exact isRef _ rfl
  | tup ha _ => cases ru; exact isRef _ rfl
theorem c_repr (hg : X.A.guards = some []) (hu : X.A.units + 65 < cLine) : COk X cm (.builtin "repr") reprO := by
  refine ⟨_, call_reprD hg hu, fun xl al H S xs vs Q W0 w rs p => ?_⟩
  unfold reprO at p
  split at p
  · obtain ⟨v, rfl, rv⟩ := reps1 rs
    split at p
    · rename_i q hq
      split at p
      · rename_i hc
        exact ⟨v, q, rfl, toPyS_dp w rv hq, hc.1, hc.2.1, hc.2.2, p.here w _ (.str _)⟩
      · exact p.elim
    · exact p.elim
  · exact p.elim
theorem c_str : COk X cm (.type "str") strO := by
  refine ⟨_, call_str_int, fun xl al H S xs vs Q W0 w rs p => ?_⟩
  unfold strO at p
  split at p
  · obtain ⟨v, rfl, rv⟩ := reps1 rs
    cases rv
    split at p
    · rename_i hc
      exact ⟨_, rfl, hc, p.here w _ (.str _)⟩
    · exact p.elim
  · exact p.elim
end
end DL

namespace DL
open PySem PySem.Spec PyProof.Rows L2
variable [TabC]

/-! a def's promise -/
structure FnG (P : Program) (w : World) (K : PySem.W.Frag) (mg : Str → Option Value) (base : Heap) (cm : CM) (k : Nat) (f : Addr) (fd : FuncData) (ps : List Str) (mf : List D → DS → Ou D) : Prop where
  len : ∀ ds S, mf ds S ≠ .no → ds.length = ps.length
  run : ∀ (A : Around) (outer : List Env) (s : Shared) (H : Hp) (args : Args) (us : List Value) (vs : List V) (Q : VK) (E : XK) (xl al : List Addr) (S : DS) (ds : List D), Room k A → A.guards = some [] → Env0 P w K mg base A outer s H →
    BindsTo s fd args (ps.zip us) → Vals vs us → Wd K xl S al H → Reps K xl al H ds vs → Post K cm xl E (RE K xl Q) (mf ds S) al H → codeAny (model P w) A (.call (.ref f) args) (CR (L2.CX P w) outer P w H s Q E) s
theorem FnG.mono {P : Program} {w : World} {K : PySem.W.Frag} {mg : Str → Option Value} {base : Heap} {cm : CM} {j k : Nat} {f : Addr} {fd : FuncData} {ps : List Str} {mf : List D → DS → Ou D} (F : FnG P w K mg base cm j f fd ps mf) (h : j ≤ k) : FnG P w K mg base cm k f fd ps mf :=
  ⟨F.len, fun A outer s H args us vs Q E xl al S ds hr => F.run A outer s H args us vs Q E xl al S ds (hr.mono h)⟩
/-- a def that stands at a name -/
structure FnC (P : Program) (w : World) (K : PySem.W.Frag) (mg : Str → Option Value) (base : Heap) (cm : CM) (k : Nat) (x : Str) (mf : List D → DS → Ou D) : Prop where
  ex : ∃ f fd ps, mg x = some (.ref f) ∧ PySem.W.keepIn K (.ref f) = true ∧ Binds K fd ps [] ∧ FnG P w K mg base cm k f fd ps mf ∧ ∃ oc od sl, K.lookup f = some ⟨oc, od, .func fd, sl⟩
theorem FnC.mono {P : Program} {w : World} {K : PySem.W.Frag} {mg : Str → Option Value} {base : Heap} {cm : CM} {j k : Nat} {x : Str} {mf : List D → DS → Ou D} (F : FnC P w K mg base cm j x mf) (h : j ≤ k) : FnC P w K mg base cm k x mf := by
  obtain ⟨f, fd, ps, h1, h2, h3, h4, h5⟩ := F.ex
  exact ⟨f, fd, ps, h1, h2, h3, h4.mono h, h5⟩
/-- what stands around a body -/
structure Ctx (X : Cx) (W : WX) (k : Nat) : Prop where
  tk : Takes X W
  gd : X.A.guards = some []
  rm : Room k X.A
  calm : X.calm = true
  nd : X.N.Nodup
  po : PassesOwn (model X.prog X.w) X.A X.env X.xe
section
variable {X : Cx} {cm : CM} {W : WX} {j k : Nat}
theorem Ctx.un (C : Ctx X W k) : X.A.units + 64 < cLine := C.rm.units
theorem Ctx.un1 (C : Ctx X W k) : X.A.units + 65 < cLine := by have := C.rm.un; omega
theorem Ctx.blk (C : Ctx X W k) (s : Shared) (H : Hp) (scope : Scope) (cenv : Env) (fp : List Addr) : Ctx (X.blk s H scope cenv fp) noX k :=
  ⟨takes0, C.gd, C.rm, C.calm, C.nd, PassesOwn.never⟩
theorem run_G {x : Str} {f : Addr} {fd : FuncData} {ps : List Str} {mf : List D → DS → Ou D} (C : Ctx X W k) (F : FnG X.prog X.w X.K X.mg X.base cm j f fd ps mf) (hj : j ≤ k) (hb : Binds X.K fd ps []) {pins : List (Addr × Obj)} {σ : L2.St} {H : Hp} {s : Shared} {Q : VK} {us : List Value} {vs : List V}
    {xl al : List Addr} {S : DS} {ds : List D} (I : Inv X pins σ H s) (r : Vals vs us) (w : Wd X.K xl S al H) (rd : Reps X.K xl al H ds vs) (p : Post X.K cm xl (fun c d H' => W c d σ H') (RE X.K xl Q) (mf ds S) al H) :
    wpAny (model X.prog X.w) X.A (call (.ref f) us) (EP X pins σ Q) X.xe s := by
  have hne : mf ds S ≠ .no := fun z => by rw [z] at p; exact p
  have hl : us.length = ps.length := by rw [← r.length, ← rd.length]; exact F.len ds S hne
  have b := hb s us I.kIn (by rw [List.append_nil]; exact hl)
  rw [List.append_nil] at b
  refine wpAny_call (codeAny_mono (F.run X.A X.stack s H ⟨us, []⟩ us vs Q (fun c d H' => W c d σ H') xl al S ds (C.rm.mono hj) C.gd I.env0 b r w rd p) fun fl s' hq => ?_)
  cases fl with
  | error e => exact C.tk e s' (XE.of_call I (fun _ _ _ h => h) hq)
  | ok fl =>
    cases fl with
    | ret u => exact I.after hq
    | next => exact False.elim hq
    | brk => exact False.elim hq
    | cont => exact False.elim hq
/-- a call, as data -/
def tG (K : PySem.W.Frag) (cm : CM) (W : WX) (mf : List D → DS → Ou D) (t : TA) : TE := fun σ H Q => t σ H fun vs H1 => ∃ xl al S ds, Wd K xl S al H1 ∧ Reps K xl al H1 ds vs ∧ Post K cm xl (fun c d H' => W c d σ H') (RE K xl Q) (mf ds S) al H1
theorem e_call {x : Str} {mf : List D → DS → Ou D} {p pos : Pos} {e : Expr} {es : List Expr} {ma : MA} (C : Ctx X W k) (F : FnC X.prog X.w X.K X.mg X.base cm j x mf) (hj : j ≤ k) (hg : Gl X x) (ha : AOk X cm W (e :: es) ma) (hdb : (x == ("__debug__" : Str)) = false := by decide)
    (he : starEach (e :: es) X.env = (false, eval e X.env) :: starEach es X.env := by rfl) (hpl : (backTo pos (starEach es X.env)).any (·.1) = false := by rfl) : EOk X cm W (.Call (.Name x p) (e :: es) [] pos) (mL mf ma) := by
  obtain ⟨f, fd, ps, hm, hk, hb, G, _⟩ := F.ex
  obtain ⟨t, pt, d⟩ := ha
  refine ⟨tG X.K cm W mf t, ⟨fun pins s σ H Q I h => wpAny_Call_Name_kw (ld_glob I hg hm ?_ hdb)⟩, fun xl al σ H S env Q w r q => ?_⟩
  · refine PySem.W.callWith_K (h₀ := X.base) I.ok.mod.kin hk (thn (pt.run pos pins s σ H _ I h) fun us s1 ⟨vs, H1, I1, r, q⟩ => ⟨I1.kIn, ?_⟩) he hpl
    obtain ⟨xl, al, S, ds, w, rd, p⟩ := q
    exact run_G (x := x) C G hj hb I1 r w rd p
  · exact d xl al σ H S env _ w r (q.bind.imp fun xs S1 al1 H1 e1 w1 p1 vs rs => ⟨xl, al1, S1, xs, w1, rs, p1⟩)
theorem e_call0 {x : Str} {mf : List D → DS → Ou D} {p pos : Pos} (C : Ctx X W k) (F : FnC X.prog X.w X.K X.mg X.base cm j x mf) (hj : j ≤ k) (hg : Gl X x) (hdb : (x == ("__debug__" : Str)) = false := by decide) : EOk X cm W (.Call (.Name x p) [] [] pos) (mL mf maN) := by
  obtain ⟨f, fd, ps, hm, hk, hb, G, _⟩ := F.ex
  refine ⟨tG X.K cm W mf tNil, ⟨fun pins s σ H Q I h => wpAny_Call_Name_kw (ld_glob I hg hm ?_ hdb)⟩, fun xl al σ H S env Q w r q => ?_⟩
  · refine PySem.W.callWith_K0 I.kIn hk ?_
    obtain ⟨xl, al, S, ds, w, rd, p⟩ := h
    exact run_G (x := x) C G hj hb I .nil w rd p
  · exact ⟨xl, al, S, [], w, .nil, q⟩
end

/-! a def's body -/
mutual
/-- speaks of none of the lists from n on -/
def under (n : Nat) : D → Bool
  | .tup xs => unders n xs
  | .vl xs => unders n xs
  | .fz xs => unders n xs
  | .ref p => decide (p < n)
  | _ => true
def unders (n : Nat) : List D → Bool
  | [] => true
  | x :: xs => under n x && unders n xs
end
def underO (n : Nat) : DO → Bool
  | .lst xs => unders n xs
def dropO (n : Nat) (o : Ou D) : Ou D := match o with
  | .ok d S => if under n d = true ∧ (S.take n).all (underO n) = true then .ok d (S.take n) else .no
  | o => o
def retO (o : Ou (Fl × DE)) : Ou D := match o with
  | .ok (.rt d, _) S => .ok d S
  | .ok (.nx, _) S => .ok .non S
  | .ok (.xc x, _) S => .ex x S
  | _ => .no
def startE (N : Nat) (ds : List D) : DE := ds.map some ++ List.replicate (N - ds.length) none
def defM (n N : Nat) (body : MS) : List D → DS → Ou D := fun ds S => if ds.length = n then retO (body (startE N ds) S) else .no
/-- its own lists forgotten at the end -/
def defD (n N : Nat) (body : MS) : List D → DS → Ou D := fun ds S => if ds.length = n then dropO S.length (retO (body (startE N ds) S)) else .no
section
variable {K : PySem.W.Frag} {cm : CM} {xl al al' : List Addr} {H H' : Hp} {S : DS}
section
omit [TabC]
mutual
theorem Rep.cut (e : Ext al H al' H') : ∀ {d : D} {v : V}, Rep K xl al' H' d v → under al.length d = true → Rep K xl al H' d v
  | _, _, .non, _ => .non
  | _, _, .bl b, _ => .bl b
  | _, _, .int i, _ => .int i
  | _, _, .str x, _ => .str x
  | _, _, .tup h r, u => .tup h (r.cutd e (by simpa [under] using u))
  | _, _, .vl h n n' r, u => .vl h (fun m => n (by obtain ⟨more, q⟩ := e.pre; rw [q]; exact List.mem_append_left _ m)) n' (r.cutd e (by simpa [under] using u))
  | _, _, .fz h n r, u => .fz h (fun m => n (by obtain ⟨more, q⟩ := e.pre; rw [q]; exact List.mem_append_left _ m)) (r.cutd e (by simpa [under] using u))
  | _, _, .fzK k c h r, u => .fzK k c h (r.cutd e (by simpa [under] using u))
  | _, _, .ref (p := p) h, u => .ref (by
      obtain ⟨more, q⟩ := e.pre
      have hl : p < al.length := by simpa [under] using u
      rw [q, List.getElem?_append_left hl] at h
      exact h)
  | _, _, .dct h n, _ => .dct h fun m => n (by obtain ⟨more, q⟩ := e.pre; rw [q]; exact List.mem_append_left _ m)
  | _, _, .exo a c h, _ => .exo a c fun x z => ⟨(h x z).1, fun m => (h x z).2 (by obtain ⟨more, q⟩ := e.pre; rw [q]; exact List.mem_append_left _ m)⟩
theorem Reps.cutd (e : Ext al H al' H') : ∀ {ds : List D} {vs : List V}, Reps K xl al' H' ds vs → unders al.length ds = true → Reps K xl al H' ds vs
  | _, _, .nil, _ => .nil
  | _, _, .cons h r, u => by
    rw [unders, Bool.and_eq_true] at u
    exact .cons (h.cut e u.1) (r.cutd e u.2)
end
end
theorem Ext.cut (e : Ext al H al' H') : Ext al H al H' := ⟨⟨[], by simp⟩, e.fr, e.tup, fun a _ h n _ => absurd h n⟩
theorem Wd.cut {S' : DS} (w0 : Wd K xl S al H) (e : Ext al H al' H') (w : Wd K xl S' al' H') (u : (S'.take S.length).all (underO S.length) = true) : Wd K xl (S'.take S.length) al H' := by
  obtain ⟨more, q⟩ := e.pre
  have hl : S.length ≤ S'.length := by
    have := w.len
    rw [q, List.length_append, w0.len] at this
    omega
  refine ⟨w0.nd, by rw [List.length_take, w0.len]; omega, fun p xs h => ?_, fun a h => ⟨(w0.xs a h).1, (w.xs a h).2⟩, w.tb⟩
  have hp : p < S.length := by
    by_cases z : p < S.length
    · exact z
    · rw [List.getElem?_eq_none (by rw [List.length_take]; omega)] at h; cases h
  have hu := List.all_eq_true.mp u _ (List.mem_of_getElem? h)
  rw [List.getElem?_take_of_lt hp] at h
  obtain ⟨a, vs, h1, h2, h3⟩ := w.ob p xs h
  rw [q, List.getElem?_append_left (by rw [w0.len]; exact hp)] at h1
  refine ⟨a, vs, h1, h2, h3.cutd e ?_⟩
  rw [w0.len]
  exact hu
theorem Post.drop {E : WH} {Q : VK} {o : Ou D} (w : Wd K xl S al H) (p : Post K cm xl E (RE K xl Q) (dropO S.length o) al H) : Post K cm xl E (RE K xl Q) o al H := by
  cases o with
  | ok d S' =>
    unfold dropO at p
    intro al' H' e w' v rv
    simp only at p
    split at p
    · rename_i hu
      exact p al H' e.cut (w.cut e w' hu.2) v (rv.cut e (by rw [w.len]; exact hu.1))
    · exact p.elim
  | ex x S' => exact p
  | no => exact p
theorem start_env {N : List Str} {ds : List D} {vs : List V} (r : Reps K xl al H ds vs) : EnvR K xl al H (startE N.length ds) (L2.start N vs) := by
  unfold startE L2.start
  refine ⟨by simp [r.length], fun i d h => ?_⟩
  by_cases hi : i < ds.length
  · rw [List.getElem?_append_left (by simpa using hi), List.getElem?_map] at h
    cases e : ds[i]? with
    | none => rw [e] at h; cases h
    | some d' =>
      rw [e] at h; cases h
      obtain ⟨v, hv, rv⟩ := r.get e
      refine ⟨v, ?_, rv⟩
      rw [List.getElem?_append_left (by rw [List.length_map, ← r.length]; exact hi), List.getElem?_map, hv]
      rfl
  · rw [List.getElem?_append_right (by simpa using Nat.le_of_not_lt hi), List.getElem?_replicate] at h
    split at h <;> cases h
theorem Post.ret {E : XK} {Q : VK} {o : Ou (Fl × DE)} (p : Post K cm xl E (RE K xl Q) (retO o) al H) : Post K cm xl noW (RS K cm xl (fun c d _ H' => E c d H') { nx := fun _ H' => Q .non H', rt := Q }) o al H := by
  cases o with
  | ok z S' =>
    obtain ⟨f, env'⟩ := z
    cases f with
    | nx => exact fun al' H' e w σ' r => p al' H' e w _ .non
    | rt d => exact fun al' H' e w σ' r v rv => p al' H' e w v rv
    | bk => exact p.elim
    | ct => exact p.elim
    | xc x => exact fun al' H' e w σ' r cls dx z => p al' H' cls dx e w z
  | ex x S' => exact p.elim
  | no => exact p.elim
end

section
variable {P : Program} {w : World} {K : PySem.W.Frag} {mg : Str → Option Value} {base : Heap} {cm : CM}
/-- a def of the text, by its body -/
theorem fnG_of {x qual : Str} {st : Stmt} {f : Addr} {fd : FuncData} {N ps : List Str} {k : Nat} {mb : MS} {mf : List D → DS → Ou D} (F : Fun K x qual st f fd) (Sc : FnScope N ps (defScope st)) (hlen : ∀ ds S, mf ds S ≠ .no → ds.length = ps.length)
    (hmf : ∀ xl al H S ds (Q : VK) (E : XK), Wd K xl S al H → Post K cm xl E (RE K xl Q) (mf ds S) al H → Post K cm xl E (RE K xl Q) (retO (mb (startE N.length ds) S)) al H)
    (body : ∀ (cdv : Value) (A : Around) (outer : List Env) (s : Shared) (H : Hp) (E : XK), Ctx (cxOf (L2.CX P w) P w K mg base N qual (defScope st) f cdv A outer s H E) (fun c d _ H => E c d H) k →
      SsOk (cxOf (L2.CX P w) P w K mg base N qual (defScope st) f cdv A outer s H E) cm (fun c d _ H => E c d H) (defBody st) mb) :
    FnG P w K mg base cm (k + 1) f fd ps mf := by
  obtain ⟨oc, od, kV, doc, pm, an, cdv, ct, osl, rfl, lk, hcd⟩ := F.ex
  refine ⟨hlen, fun A outer s H args us vs Q E xl al S ds hr hgd e0 hb rv wd rd p => ?_⟩
  have hne : mf ds S ≠ .no := fun z => by rw [z] at p; exact p
  have hl : vs.length = ps.length := by rw [← rd.length]; exact hlen ds S hne
  have stays : ∀ b o, base.get? b = some o → s.heap.get? b = some o := fun b o e => (e0.bs b o e).1
  have KX : K.In s.heap := e0.mod.kin.keeps stays
  have hkind : ∀ y ∈ ps.zip us, (defScope st).names.lookup y.1 = some .local ∨ ((defScope st).names.lookup y.1 = some .cell ∧ ((cellsFrom (s.heap.objs.size + 1) (defScope st).names []).lookup y.1).isSome = true) := by
    rintro ⟨n, v⟩ hy
    exact (Sc.par n (List.of_mem_zip hy).1).imp id fun q => ⟨q, PySem.W.cellsFrom_some _ _ _ (.inl q)⟩
  refine codeAny_call_function hr.depth (KX _ _ lk) rfl Sc.co Sc.gen rfl (PySem.W.codeRec_of KX hcd) (hb _ _ _ _ (wpAny_newFunctionEnv_cells Sc.kind hkind fun env he s1 x => ?_))
  subst he
  refine ⟨(e0.mod.nolimit.keeps stays).keeps x.toInCall.keep, codeAny_func ?_⟩
  let X : Cx := cxOf (L2.CX P w) P w K mg base N qual (defScope st) f cdv A outer s H E
  have C : Ctx X (fun c d _ H => E c d H) k := ⟨takes_of (E := E) rfl rfl rfl rfl, hgd, hr.deeper _, rfl, Sc.nd, passes_of rfl⟩
  obtain ⟨t, ht, hd⟩ := body cdv A outer s H E C
  have I : Inv X [] (L2.start N vs) H s1 := inv_start Sc hr.hd e0 hl rv x
  have q : t { nx := fun _ H' => Q .non H', rt := Q } (L2.start N vs) H := hd xl al _ H S (startE N.length ds) _ wd (start_env rd) (Post.ret (hmf xl al H S ds Q E wd p))
  refine wpAny_mono (ht.run [] s1 _ H _ I q) (fun fl s' hs => ?_) fun _ _ z => z
  have fin : ∀ {σ' : L2.St} {H' : Hp} {v : V} {u : Value}, Inv X [] σ' H' s' → RelV v u → Q v H' → CE outer P w H s Q u s' := fun J rv q => ⟨_, _, J.os, J.bare, J.base, J.hok, rv, q⟩
  cases fl with
  | ret u => obtain ⟨v, σ', H', J, rv, q⟩ := hs; exact fin J rv q
  | next => obtain ⟨σ', H', J, q⟩ := hs; exact fin (v := V.non) (u := Value.none) J rfl q
  | brk => obtain ⟨_, _, _, q⟩ := hs; exact False.elim q
  | cont => obtain ⟨_, _, _, q⟩ := hs; exact False.elim q
theorem defM_len {n N : Nat} {body : MS} : ∀ ds S, defM n N body ds S ≠ .no → ds.length = n := fun ds S h => Classical.byContradiction fun z => h (if_neg z)
theorem defD_len {n N : Nat} {body : MS} : ∀ ds S, defD n N body ds S ≠ .no → ds.length = n := fun ds S h => Classical.byContradiction fun z => h (if_neg z)
theorem defM_post {n N : Nat} {mb : MS} : ∀ xl al H S ds (Q : VK) (E : XK), Wd K xl S al H → Post K cm xl E (RE K xl Q) (defM n N mb ds S) al H → Post K cm xl E (RE K xl Q) (retO (mb (startE N ds) S)) al H := fun xl al H S ds Q E _ p => by
  unfold defM at p
  split at p
  · exact p
  · exact p.elim
theorem defD_post {n N : Nat} {mb : MS} : ∀ xl al H S ds (Q : VK) (E : XK), Wd K xl S al H → Post K cm xl E (RE K xl Q) (defD n N mb ds S) al H → Post K cm xl E (RE K xl Q) (retO (mb (startE N ds) S)) al H := fun xl al H S ds Q E wd p => by
  unfold defD at p
  split at p
  · exact Post.drop wd p
  · exact p.elim
end
end DL

namespace DL
open PySem PySem.Spec PyProof.Rows L2

theorem reps_ints {K : PySem.W.Frag} {xl al : List Addr} {H : Hp} : ∀ ns : List Int, Reps K xl al H (ns.map D.int) (ns.map V.int)
  | [] => .nil
  | n :: r => .cons (.int n) (reps_ints r)
theorem wd_nil [TabC] {K : PySem.W.Frag} {H : Hp} (t : LamX.Tabs TabC.tabs H) : Wd K [] [] [] H := ⟨List.nodup_nil, rfl, fun p xs h => by simp at h, (fun a h => by simp at h), t⟩

/-- what is known at the head of the code objects and tables cs -/
structure TbHead (K : PySem.W.Frag) (h : Heap) (cs : List (Addr × Addr)) : Prop where
  obj : ∀ p, p ∈ cs → h.get? p.2 = some (PySem.W.tabObj #[])
  out : ∀ p, p ∈ cs → K.lookup p.2 = none
  hd : ∀ p, p ∈ cs → PySem.W.CodeHd h p.1 p.2
theorem TbHead.nil {K : PySem.W.Frag} {h : Heap} : TbHead K h [] := ⟨fun p z => by simp at z, fun p z => by simp at z, fun p z => by simp at z⟩
/-- the law's call, behind the top -/
theorem law_callD [TabC] {P : Program} {w : World} {K : PySem.W.Frag} {mg mb : Str → Option Value} {cm : CM} {k : Nat} {fa a : Addr} {cs : List (Addr × Addr)} {fd : FuncData} {x : Str} {mf : List D → DS → Ou D} {s1 : Shared} {vs : List Value} {ns : List Int}
    (KX : K.In s1.heap) (hns : s1.heap.Ns mainGlobals mg) (hb : s1.heap.Ns builtinsNs mb) (hbb : ∀ x : Str, x ≠ "__name__" → mb x = bootBuiltins x) (hlim : s1.heap.NoLimit) (hg : s1.gens = #[])
    (TH : TbHead K s1.heap cs) (hcs : ∀ q ∈ TabC.tabs, ∃ c, (c, q.1) ∈ cs) (hbm : cs ≠ [] → ∃ bm o, mg "__builtins__" = some (.ref bm) ∧ bm ≠ builtinsNs ∧ s1.heap.get? bm = some o ∧ o.cls = .type "module" ∧ o.dict = some builtinsNs ∧ o.data = .plain)
    (ha : s1.heap.get? a = some { cls := .type "list", data := .seq vs.toArray }) (hi : IntsAre vs ns) (hl : ns.length ≤ sizeLine) (hr : Room k callerA)
    (F : ∀ base : Heap, K.In base → base.Ns mainGlobals mg → (∀ p ∈ cs, LamX.TabB base mg p.1 p.2) → FnG P w K mg base cm k fa fd [x] mf) (hbind : ∀ (s : Shared) (u : Value), BindsTo s fd ⟨[u], []⟩ [(x, u)])
    (hp : ∃ S', mf [.fz (ns.map D.int)] [] = .ok (.bl true) S') :
    codeAny (model P w) callerA (.call (.ref fa) ⟨[.ref a], []⟩) (fun r s' => r = .ok (.ret (.bool true)) ∧ OldK s1.heap s'.heap ∧ s'.os = s1.os ∧ AllBare s'.gens) s1 := by
  have rv := vals_ints hi
  have lenV := hi.length
  have tob : ∀ b, b ∈ cs.map Prod.snd → s1.heap.get? b = some (PySem.W.tabObj #[]) ∧ K.lookup b = none := fun b hb => by
    obtain ⟨q, hq, rfl⟩ := List.mem_map.mp hb
    exact ⟨TH.obj q hq, TH.out q hq⟩
  have aT : a ∉ cs.map Prod.snd := fun z => by
    have q := (tob a z).1
    rw [ha] at q
    exact nomatch (congrArg Obj.data (Option.some.inj q) : Data.seq vs.toArray _ = Data.fields #[])
  -- one heap: the script frozen, or of the module; the tables
  have main : ∀ H : Hp, (∀ b o, H b = some o → (b = a ∧ o = .frz { cls := .type "list", data := .seq vs.toArray } (.lst (ns.map V.int))) ∨ (b ∈ cs.map Prod.snd ∧ o = .tbl #[])) → (∀ b, b ∈ cs.map Prod.snd → H b = some (.tbl #[])) → (∀ o, H a = some o → K.lookup a = none) →
      Rep K [] [] H (.fz (ns.map D.int)) (.ref a) →
      codeAny (model P w) callerA (.call (.ref fa) ⟨[.ref a], []⟩) (fun r s' => r = .ok (.ret (.bool true)) ∧ OldK s1.heap s'.heap ∧ s'.os = s1.os ∧ AllBare s'.gens) s1 := by
    intro H hH hT hK hrep
    have hok : HOk P w H s1.heap := fun b o e => by
      rcases hH b o e with ⟨rfl, rfl⟩ | ⟨hb, rfl⟩
      · exact ⟨ha, by rw [List.length_map]; exact hl, vs, _, rv, ha⟩
      · exact (tob b hb).1
    have freeOf : ∀ {b : Addr} {o : Obj}, s1.heap.get? b = some o → (∀ xs n, o.data ≠ .seq xs n) → o.data ≠ .fields #[] → H b = none := fun {b o} e n1 n2 => by
      cases q : H b with
      | none => rfl
      | some u =>
        rcases hH b u q with ⟨rfl, _⟩ | ⟨hb, _⟩
        · rw [ha] at e
          cases e
          exact absurd rfl (n1 _ _)
        · rw [(tob b hb).1] at e
          cases e
          exact absurd rfl n2
    have notD : ∀ {b : Addr} {o : Obj} {es : Array DictEntry} {ep : Nat}, s1.heap.get? b = some o → o.data = .dict es ep → H b = none := fun {b o es ep} e d => freeOf e (fun xs n z => by rw [d] at z; cases z) (fun z => by rw [d] at z; cases z)
    have nsK : ∀ {b : Addr} {m : Str → Option Value}, s1.heap.Ns b m → (hidT s1.heap H).Ns b m := by
      rintro b m ⟨o, es, ep, e, d, r⟩
      exact ⟨o, es, ep, hidT_get e (notD e d), d, r⟩
    have hKb : K.In (hidT s1.heap H) := fun b o e => hidT_get (KX b o e) (by
      cases q : H b with
      | none => rfl
      | some u =>
        rcases hH b u q with ⟨rfl, _⟩ | ⟨hb, _⟩
        · rw [hK u q] at e
          cases e
        · rw [(tob b hb).2] at e
          cases e)
    have TB : ∀ p ∈ cs, LamX.TabB (hidT s1.heap H) mg p.1 p.2 := fun p hp => by
      refine ⟨?_, ?_, fun z => ?_⟩
      · obtain ⟨oc, us, fi, tf, fl, tg, nF, tx, tt, g1, g2, g3, g4, g5⟩ := TH.hd p hp
        exact ⟨oc, us, fi, tf, fl, tg, nF, tx, tt, hidT_get g1 (freeOf g1 (fun xs n z => by rw [g3] at z; cases z) (fun z => by
          rw [g3] at z
          cases z
          simp at g4)), g2, g3, g4, g5⟩
      · obtain ⟨bm, ob, b1, b2, b3, b4, b5, b6⟩ := hbm (List.ne_nil_of_mem hp)
        refine ⟨bm, ob, b1, b2, fun z => ?_, fun z => ?_, hidT_get b3 (freeOf b3 (fun xs n z => by rw [b6] at z; cases z) (fun z => by rw [b6] at z; cases z)), b4, b5, b6⟩
        · obtain ⟨o2, es, ep, e2, d2, _⟩ := hns
          rw [z, e2] at b3
          cases b3
          rw [d2] at b6
          cases b6
        · rw [z, TH.obj p hp] at b3
          cases b3
          cases b6
      · obtain ⟨o2, es, ep, e2, d2, _⟩ := hns
        rw [z, TH.obj p hp] at e2
        cases e2
        cases d2
    obtain ⟨mc, l1, l2⟩ := hlim
    have e0 : Env0 P w K mg (hidT s1.heap H) callerA [] s1 H := ⟨rfl, ⟨hKb, nsK hns, ⟨mb, nsK hb, hbb⟩, mc, nsK l1, l2⟩, fun b o e => of_hidT e, Nat.le_of_eq (hidT_size _ _), trivial, fun b z => absurd (show b ∈ ([] : List Addr) from z) (by simp), hok, .of_eq hg⟩
    obtain ⟨S', hS'⟩ := hp
    have tb0 : LamX.Tabs TabC.tabs H := fun q hq => by
      obtain ⟨c, hc⟩ := hcs q hq
      exact LamX.TabS.nil (hT q.1 (List.mem_map.mpr ⟨(c, q.1), hc, rfl⟩))
    have post : Post K cm [] (fun _ _ _ => False) (RE K [] fun v _ => v = .bl true) (mf [.fz (ns.map D.int)] []) [] H := by
      rw [hS']
      intro al' H' e w' v rv
      cases rv
      rfl
    refine codeAny_mono ((F _ hKb (nsK hns) TB).run callerA [] s1 H ⟨[.ref a], []⟩ [.ref a] [.ref a] _ _ [] [] [] [.fz (ns.map D.int)] hr rfl e0 (hbind s1 (.ref a)) (.cons rfl .nil) (wd_nil tb0) (.cons hrep .nil) post) fun r s' h => ?_
    cases r with
    | error e =>
      obtain ⟨_, _, _, _, _, _, _, _, _, _, _, _, z⟩ := h
      exact z.elim
    | ok fl =>
      cases fl with
      | next => exact False.elim h
      | brk => exact False.elim h
      | cont => exact False.elim h
      | ret u =>
        obtain ⟨v, H', os, bare, un, hok', r', rfl⟩ := h
        obtain rfl : u = Value.bool true := r'
        have same : ∀ b o, b ∉ cs.map Prod.snd → s1.heap.get? b = some o → s'.heap.get? b = some o := fun b o nb e => by
          cases q : H b with
          | none => exact un.keep b o e q (fun z => absurd (show b ∈ ([] : List Addr) from z) (by simp)) (by simp)
          | some u =>
            rcases hH b u q with ⟨rfl, rfl⟩ | ⟨hb, _⟩
            · obtain ⟨e2, _⟩ := hok' b _ (un.frzs b _ _ q)
              rw [ha] at e
              cases e
              exact e2
            · exact absurd hb nb
        refine ⟨rfl, ⟨fun b o e => ?_, fun b o e => ?_⟩, os, bare⟩
        · by_cases hb : b ∈ cs.map Prod.snd
          · obtain ⟨q, hq, rfl⟩ := List.mem_map.mp hb
            obtain ⟨more, hm⟩ := un.tbls q.2 #[] (hT q.2 hb)
            have g := hok' q.2 _ hm
            have eo : o = PySem.W.tabObj #[] := Option.some.inj (e.symm.trans (TH.obj q hq))
            subst eo
            exact .inr (.inl ⟨((TH.hd q hq).tab (TH.obj q hq)).isCodeTable, rfl, _, more, rfl, g⟩)
          · exact .inl (same b o hb e)
        · by_cases hb : b ∈ cs.map Prod.snd
          · obtain ⟨more, hm⟩ := un.tbls b #[] (hT b hb)
            exact ⟨_, hok' b _ hm⟩
          · exact ⟨o, same b o hb e⟩
  cases hk : K.lookup a with
  | some o =>
    have e := KX a o hk
    rw [ha] at e
    cases e
    have hS : ∀ H, SqL K H a (ns.map V.int) := fun H => .inr ⟨_, vs.toArray, _, hk, rfl, rfl, rfl, by rw [List.size_toArray, lenV]; exact hl, by simpa using rv⟩
    refine main (fun b => if b ∈ cs.map Prod.snd then some (.tbl #[]) else none) (fun b u z => ?_) (fun b hb => if_pos hb) (fun o z => ?_) (.fzK hk rfl hS (reps_ints ns))
    · by_cases hb : b ∈ cs.map Prod.snd
      · exact .inr ⟨hb, (Option.some.inj ((if_pos hb).symm.trans z)).symm⟩
      · exact nomatch ((if_neg hb).symm.trans z)
    · exact nomatch ((if_neg aT).symm.trans z)
  | none =>
    refine main (fun b => if b = a then some (.frz { cls := .type "list", data := .seq vs.toArray } (.lst (ns.map V.int))) else if b ∈ cs.map Prod.snd then some (.tbl #[]) else none) (fun b u z => ?_) (fun b hb => ?_) (fun _ _ => hk) (.fz (if_pos rfl) (by simp) (reps_ints ns))
    · by_cases hb : b = a
      · subst hb
        exact .inl ⟨rfl, (Option.some.inj ((if_pos rfl).symm.trans z)).symm⟩
      · have z2 := (if_neg hb).symm.trans z
        by_cases hc : b ∈ cs.map Prod.snd
        · exact .inr ⟨hc, (Option.some.inj ((if_pos hc).symm.trans z2)).symm⟩
        · exact nomatch ((if_neg hc).symm.trans z2)
    · have ne : b ≠ a := fun e => aT (e ▸ hb)
      exact (if_neg ne).trans (if_pos hb)

/-- the goal that the head leaves, from the law's function -/
theorem walk_ofD {l : PySem.W.OpenLaw} {n k : Nat} {q : Program} {loose : List Str} {XP : (Str → Option Value) → Heap → Prop} {YP : World → Heap → Prop} {d : DefRec} {K : Params → PySem.W.Frag} {cm : World → (Str → Option Value) → CM} {mf : World → (Str → Option Value) → List D → DS → Ou D} {x : Str}
    (hn : l.most = some n) (hn2 : n ≤ sizeLine) (hdf : d.params.defaults = []) (hr : Room k callerA)
    (hY : ∀ (w : World) (h : Heap), YP w h → (K w.params).In h)
    (F : ∀ (w : World) (mg : Str → Option Value) (fa : Addr) (h : Heap), YP w h → (K w.params).In h → h.Ns mainGlobals mg → mg d.name = some (.ref fa) →
      ∃ (_ : TabC) (cs : List (Addr × Addr)) (fd : FuncData), TbHead (K w.params) h cs ∧ (∀ q ∈ TabC.tabs, ∃ c, (c, q.1) ∈ cs) ∧ (∀ (s : Shared) (u : Value), BindsTo s fd ⟨[u], []⟩ [(x, u)]) ∧
        ∀ base : Heap, (K w.params).In base → base.Ns mainGlobals mg → (∀ p ∈ cs, LamX.TabB base mg p.1 p.2) → FnG l.prog w (K w.params) mg base (cm w mg) k fa fd [x] (mf w mg))
    (hlaw : ∀ (w : World) (mg : Str → Option Value) (ns : List Int), ns.length ≤ n → ∃ S', mf w mg [.fz (ns.map D.int)] [] = .ok (.bl true) S') :
    PySem.W.WalkO q loose XP YP l.row.toRowW d [] (fun f vs => PySem.call f vs) := by
  refine Att.attach_callB hn hdf fun w s₀ s1 mg mb fa o pm cd doc a vs ns G Y ho hd hcd hmg hobj hints hlen hbits hg => ?_
  have KX := hY w _ Y
  obtain ⟨inst, cs, fd, TH, hcs, hb, hF⟩ := F w mg fa _ Y KX G.T.g hmg
  exact law_callD KX G.T.g G.T.b G.T.builtins G.T.nolimit hg TH hcs (fun _ => G.T.bmain) hobj hints (Nat.le_trans hlen hn2) hr hF hb (hlaw w mg ns hlen)
end DL

namespace DL
open PySem PySem.Spec PyProof.Rows L2
variable [TabC]

theorem Ctx.nox {X : Cx} {W : WX} {k : Nat} (C : Ctx X W k) : Ctx X noX k := ⟨takes0, C.gd, C.rm, C.calm, C.nd, C.po⟩

/-! constants and defs of the module -/
structure CAt (K : PySem.W.Frag) (mg : Str → Option Value) (x : Str) (d : D) : Prop where
  ex : ∃ v u, mg x = some u ∧ RelV v u ∧ ∀ xl al H, Rep K xl al H d v
theorem CAt.int {K : PySem.W.Frag} {mg : Str → Option Value} {x : Str} {i : Int} {t : Tok} (h : mg x = some (.int i t)) : CAt K mg x (.int i) := ⟨.int i, _, h, ⟨_, rfl⟩, fun _ _ _ => .int i⟩
theorem CAt.str {K : PySem.W.Frag} {mg : Str → Option Value} {x : Str} {i : Str} {t : Tok} (h : mg x = some (.str i t)) : CAt K mg x (.str i) := ⟨.str i, _, h, ⟨_, rfl⟩, fun _ _ _ => .str i⟩
theorem CAt.tup {K : PySem.W.Frag} {mg : Str → Option Value} {x : Str} {a : Addr} {co : Option Addr} {ci : List Value} {cn : Nat} {cs : Array (Option Value)} {vs : List V} {ds : List D} (h : mg x = some (.ref a))
    (kl : K.lookup a = some ⟨.type "tuple", co, .seq ci.toArray cn, cs⟩) (kv : Vals vs ci) (r : ∀ {xl al H}, Reps K xl al H ds vs) (hl : vs.length ≤ sizeLine := by decide) : CAt K mg x (.tup ds) :=
  ⟨.ref a, _, h, rfl, fun xl al H => .tup (.inr ⟨_, ci.toArray, cn, kl, rfl, rfl, by rw [List.size_toArray, ← kv.length]; exact hl, by simpa using kv⟩) r⟩
theorem e_const {X : Cx} {cm : CM} {W : WX} {x : Str} {d : D} {pos : Pos} (hg : Gl X x) (h : CAt X.K X.mg x d) (hd : (x == ("__debug__" : Str)) = false := by decide) : EOk X cm W (.Name x pos) (mC d) := by
  obtain ⟨v, u, h1, h2, h3⟩ := h.ex
  exact e_glob hg h1 h2 h3 hd
structure DAt (K : PySem.W.Frag) (mg : Str → Option Value) (x name : Str) (st : Stmt) (ps : List Str) : Prop where of ::
  ex : ∃ f fd, mg x = some (.ref f) ∧ PySem.W.keepIn K (.ref f) = true ∧ Fun K name name st f fd ∧ ∀ us : List Value, us.length = ps.length → bindArgs fd ⟨us, []⟩ = pure (ps.zip us)
theorem DAt.mk {K : PySem.W.Frag} {mg : Str → Option Value} {x name : Str} {st : Stmt} {ps : List Str} {f : Addr} {fd : FuncData} (h : mg x = some (.ref f)) (k : PySem.W.keepIn K (.ref f) = true) (F : Fun K name name st f fd)
    (hb : ∀ (kV doc pm : Value) (an : Option Addr) (cdv ct : Value) (us : List Value), us.length = ps.length → bindArgs (PySem.W.fnOf name name (defArgs st) (defBody st) (defScope st) .none kV doc pm an cdv ct) ⟨us, []⟩ = pure (ps.zip us)) : DAt K mg x name st ps := by
  refine ⟨f, fd, h, k, F, ?_⟩
  obtain ⟨oc, od, kV, doc, pm, an, cdv, ct, osl, rfl, lk, hcd⟩ := F.ex
  exact hb kV doc pm an cdv ct
section
variable {P : Program} {w : World} {K : PySem.W.Frag} {mg : Str → Option Value} {base : Heap} {cm : CM} {x name : Str} {st : Stmt} {ps N : List Str} {k : Nat} {mb : MS}
theorem DAt.okM (G : DAt K mg x name st ps) (Sc : FnScope N ps (defScope st))
    (body : ∀ (f : Addr) (cdv : Value) (A : Around) (outer : List Env) (s : Shared) (H : Hp) (E : XK), Ctx (cxOf (L2.CX P w) P w K mg base N name (defScope st) f cdv A outer s H E) (fun c d _ H => E c d H) k →
      SsOk (cxOf (L2.CX P w) P w K mg base N name (defScope st) f cdv A outer s H E) cm (fun c d _ H => E c d H) (defBody st) mb) : FnC P w K mg base cm (k + 1) x (defM ps.length N.length mb) := by
  obtain ⟨f, fd, h1, h2, F, hb⟩ := G.ex
  obtain ⟨oc, od, kV, doc, pm, an, cdv, ct, osl, rfl, lk, hcd⟩ := F.ex
  exact ⟨f, _, ps, h1, h2, .all hb, fnG_of F Sc defM_len defM_post (body f), ⟨_, _, _, lk⟩⟩
theorem DAt.okD (G : DAt K mg x name st ps) (Sc : FnScope N ps (defScope st))
    (body : ∀ (f : Addr) (cdv : Value) (A : Around) (outer : List Env) (s : Shared) (H : Hp) (E : XK), Ctx (cxOf (L2.CX P w) P w K mg base N name (defScope st) f cdv A outer s H E) (fun c d _ H => E c d H) k →
      SsOk (cxOf (L2.CX P w) P w K mg base N name (defScope st) f cdv A outer s H E) cm (fun c d _ H => E c d H) (defBody st) mb) : FnC P w K mg base cm (k + 1) x (defD ps.length N.length mb) := by
  obtain ⟨f, fd, h1, h2, F, hb⟩ := G.ex
  obtain ⟨oc, od, kV, doc, pm, an, cdv, ct, osl, rfl, lk, hcd⟩ := F.ex
  exact ⟨f, _, ps, h1, h2, .all hb, fnG_of F Sc defD_len defD_post (body f), ⟨_, _, _, lk⟩⟩
/-- the law's own function, for walk_ofD -/
def LawF (P : Program) (w : World) (K : PySem.W.Frag) (mg : Str → Option Value) (cm : CM) (k : Nat) (fa : Addr) (y : Str) (cs : List (Addr × Addr)) (mf : List D → DS → Ou D) : Prop :=
  ∃ fd : FuncData, (∀ (s : Shared) (u : Value), BindsTo s fd ⟨[u], []⟩ [(y, u)]) ∧ ∀ base : Heap, K.In base → base.Ns mainGlobals mg → (∀ p ∈ cs, LamX.TabB base mg p.1 p.2) → FnG P w K mg base cm k fa fd [y] mf
theorem DAt.lawM {y : Str} {fa : Addr} {cs : List (Addr × Addr)} (G : DAt K mg x name st [y]) (Sc : FnScope N [y] (defScope st))
    (body : ∀ (base : Heap) (HB : ∀ p ∈ cs, LamX.TabB base mg p.1 p.2) (f : Addr) (cdv : Value) (A : Around) (outer : List Env) (s : Shared) (H : Hp) (E : XK), Ctx (cxOf (L2.CX P w) P w K mg base N name (defScope st) f cdv A outer s H E) (fun c d _ H => E c d H) k →
      SsOk (cxOf (L2.CX P w) P w K mg base N name (defScope st) f cdv A outer s H E) cm (fun c d _ H => E c d H) (defBody st) mb) (hm : mg x = some (.ref fa)) : LawF P w K mg cm (k + 1) fa y cs (defM [y].length N.length mb) := by
  obtain ⟨f, fd, h1, h2, F, hb⟩ := G.ex
  rw [hm] at h1; cases h1
  obtain ⟨oc, od, kV, doc, pm, an, cdv, ct, osl, rfl, lk, hcd⟩ := F.ex
  exact ⟨_, fun s u => .of_eq (hb [u] rfl), fun base hK hN HB => fnG_of F Sc defM_len defM_post (body base HB fa)⟩
theorem DAt.lawD {y : Str} {fa : Addr} {cs : List (Addr × Addr)} (G : DAt K mg x name st [y]) (Sc : FnScope N [y] (defScope st))
    (body : ∀ (base : Heap) (HB : ∀ p ∈ cs, LamX.TabB base mg p.1 p.2) (f : Addr) (cdv : Value) (A : Around) (outer : List Env) (s : Shared) (H : Hp) (E : XK), Ctx (cxOf (L2.CX P w) P w K mg base N name (defScope st) f cdv A outer s H E) (fun c d _ H => E c d H) k →
      SsOk (cxOf (L2.CX P w) P w K mg base N name (defScope st) f cdv A outer s H E) cm (fun c d _ H => E c d H) (defBody st) mb) (hm : mg x = some (.ref fa)) : LawF P w K mg cm (k + 1) fa y cs (defD [y].length N.length mb) := by
  obtain ⟨f, fd, h1, h2, F, hb⟩ := G.ex
  rw [hm] at h1; cases h1
  obtain ⟨oc, od, kV, doc, pm, an, cdv, ct, osl, rfl, lk, hcd⟩ := F.ex
  exact ⟨_, fun s u => .of_eq (hb [u] rfl), fun base hK hN HB => fnG_of F Sc defD_len defD_post (body base HB fa)⟩
theorem LawF.head {h : Heap} {y : Str} {fa : Addr} {cs : List (Addr × Addr)} {mf : List D → DS → Ou D} (L : LawF P w K mg cm k fa y cs mf) (T : TbHead K h cs) (hc : ∀ q ∈ TabC.tabs, ∃ c, (c, q.1) ∈ cs) :
    ∃ (_ : TabC) (cs : List (Addr × Addr)) (fd : FuncData), TbHead K h cs ∧ (∀ q ∈ TabC.tabs, ∃ c, (c, q.1) ∈ cs) ∧ (∀ (s : Shared) (u : Value), BindsTo s fd ⟨[u], []⟩ [(y, u)]) ∧
      ∀ base : Heap, K.In base → base.Ns mainGlobals mg → (∀ p ∈ cs, LamX.TabB base mg p.1 p.2) → FnG P w K mg base cm k fa fd [y] mf := by
  obtain ⟨fd, h1, h2⟩ := L
  exact ⟨_, cs, fd, T, hc, h1, h2⟩
end

/-! in, not in -/
def inD (x y : D) : Option Bool := match toPy x, toPy y with
  | some d, some (.list ds) => if SeqAt.shaped d = true ∧ SeqAt.shaped (.list ds) = true then some (ds.any fun z => PyData.eqv z d) else none
  | some d, some (.tuple ds) => if SeqAt.shaped d = true ∧ SeqAt.shaped (.list ds) = true then some (ds.any fun z => PyData.eqv z d) else none
  | _, _ => none
def inO (x y : D) (S : DS) : Ou D := match inD x y with
  | some b => .ok (.bl b) S
  | none => .no
def ninO (x y : D) (S : DS) : Ou D := match inD x y with
  | some b => .ok (.bl (!b)) S
  | none => .no
section
variable {X : Cx} {cm : CM}
theorem room_in1 {d : PyData} {ds : List PyData} (sd : SeqAt.shaped d = true) (hu : X.A.units + 65 < cLine) : X.A.units + 1 + min (PyData.depthAll ds) d.depth < cLine := room_in_shaped sd hu
theorem op_inT (neg : Bool) (hu : X.A.units + 65 < cLine) : OpR X (compareOp (if neg then .NotIn else .In)) (fun x y H Q => ∃ d ds, Dp X.K H x d ∧ (Dp X.K H y (.list ds) ∨ Dp X.K H y (.tuple ds)) ∧ SeqAt.shaped d = true ∧ SeqAt.shaped (.list ds) = true ∧ Q (.bl (if neg then !(ds.any fun z => PyData.eqv z d) else ds.any fun z => PyData.eqv z d)) H) := by
  intro pins s σ H x y v u Q I rx ry h
  obtain ⟨d, ds, hd, he, sd, se, q⟩ := h
  obtain ⟨as, r1⟩ := Dp.reads I d x v hd rx
  rcases he with he | he
  · obtain ⟨bs, r2⟩ := Dp.reads I (.list ds) y u he ry
    cases neg with
    | false => exact SeqAt.in_list_reads r2 r1 (SeqAt.canLay_of_shaped se) (SeqAt.canLay_of_shaped sd) (room_in_shaped sd hu) ⟨.bl _, H, I, rfl, q⟩
    | true => exact SeqAt.notIn_list_reads r2 r1 (SeqAt.canLay_of_shaped se) (SeqAt.canLay_of_shaped sd) (room_in_shaped sd hu) ⟨.bl _, H, I, rfl, q⟩
  · obtain ⟨bs, r2⟩ := Dp.reads I (.tuple ds) y u he ry
    cases neg with
    | false => exact SeqAt.in_tuple_reads r2 r1 (SeqAt.canLay_of_shaped se) (SeqAt.canLay_of_shaped sd) (room_in_shaped sd hu) ⟨.bl _, H, I, rfl, q⟩
    | true => exact SeqAt.notIn_tuple_reads r2 r1 (SeqAt.canLay_of_shaped se) (SeqAt.canLay_of_shaped sd) (room_in_shaped sd hu) ⟨.bl _, H, I, rfl, q⟩
theorem inD_rep {K : PySem.W.Frag} {xl al : List Addr} {H : Hp} {x y : D} {v u : V} {b : Bool} (h : inD x y = some b) (rv : Rep K xl al H x v) (ru : Rep K xl al H y u) :
    ∃ d ds, Dp K H v d ∧ (Dp K H u (.list ds) ∨ Dp K H u (.tuple ds)) ∧ SeqAt.shaped d = true ∧ SeqAt.shaped (.list ds) = true ∧ b = ds.any fun z => PyData.eqv z d := by
  unfold inD at h
  split at h
  · rename_i d ds e1 e2
    split at h
    · rename_i hs
      cases h
      exact ⟨d, ds, rv.dp e1, .inl (ru.dp e2), hs.1, hs.2, rfl⟩
    · cases h
  · rename_i d ds e1 e2
    split at h
    · rename_i hs
      cases h
      exact ⟨d, ds, rv.dp e1, .inr (ru.dp e2), hs.1, hs.2, rfl⟩
    · cases h
  · cases h
theorem o_in (hu : X.A.units + 65 < cLine) : OOk X cm (compareOp .In) inO := by
  refine ⟨_, op_inT false hu, fun xl al H S x y v u Q W0 w rv ru p => ?_⟩
  unfold inO at p
  split at p
  · rename_i b e
    obtain ⟨d, ds, h1, h2, h3, h4, rfl⟩ := inD_rep e rv ru
    exact ⟨d, ds, h1, h2, h3, h4, p.here w _ (.bl _)⟩
  · exact p.elim
theorem o_nin (hu : X.A.units + 65 < cLine) : OOk X cm (compareOp .NotIn) ninO := by
  refine ⟨_, op_inT true hu, fun xl al H S x y v u Q W0 w rv ru p => ?_⟩
  unfold ninO at p
  split at p
  · rename_i b e
    obtain ⟨d, ds, h1, h2, h3, h4, rfl⟩ := inD_rep e rv ru
    exact ⟨d, ds, h1, h2, h3, h4, p.here w _ (.bl _)⟩
  · exact p.elim
end

/-! a list made to be changed, from another -/
def listR (xs : List D) (S : DS) : Ou D := match xs with
  | [.tup ys] => .ok (.ref S.length) (S ++ [.lst ys])
  | [.vl ys] => .ok (.ref S.length) (S ++ [.lst ys])
  | [.fz ys] => .ok (.ref S.length) (S ++ [.lst ys])
  | [.ref p] => match S[p]? with
    | some (DO.lst ys) => .ok (.ref S.length) (S ++ [.lst ys])
    | none => .no
  | _ => .no
theorem c_listR {X : Cx} {cm : CM} : COk X cm (.type "list") listR := by
  refine ⟨_, call_list_of, fun xl al H S xs vs Q W0 w rs p => ?_⟩
  unfold listR at p
  split at p
  · obtain ⟨v, rfl, rv⟩ := reps1 rs
    obtain ⟨a, us, rfl, ha, r1⟩ := rep_tup rv
    exact ⟨a, us, rfl, .inr ha, fun q hq => p _ _ (ext_ref w hq) (w.addRef hq r1) _ (Rep.newRef' w)⟩
  · obtain ⟨v, rfl, rv⟩ := reps1 rs
    obtain ⟨a, us, rfl, ha, na, nxa, r1⟩ := rep_ref_lst rv
    exact ⟨a, us, rfl, .inl (SqL.of ha), fun q hq => p _ _ (ext_ref w hq) (w.addRef hq r1) _ (Rep.newRef' w)⟩
  · obtain ⟨v, rfl, rv⟩ := reps1 rs
    cases rv with
    | fz h n r => exact ⟨_, _, rfl, .inl (.inl (.inr ⟨_, h⟩)), fun q hq => p _ _ (ext_ref w hq) (w.addRef hq r) _ (Rep.newRef' w)⟩
    | fzK k c h r => exact ⟨_, _, rfl, .inl (h H), fun q hq => p _ _ (ext_ref w hq) (w.addRef hq r) _ (Rep.newRef' w)⟩
  · obtain ⟨v, rfl, rv⟩ := reps1 rs
    split at p
    · rename_i ys e
      cases rv with
      | ref h =>
        obtain ⟨a, us, h1, h2, h3⟩ := w.list e
        rw [h] at h1; cases h1
        exact ⟨_, _, rfl, .inl (SqL.of h2), fun q hq => p _ _ (ext_ref w hq) (w.addRef hq h3) _ (Rep.newRef' w)⟩
    · exact p.elim
  · exact p.elim

/-! x += y, x -= y -/
def iaddO (x y : D) (S : DS) : Ou D := match x, y with
  | .int i, .int j => .ok (.int (i + j)) S
  | .str a, .str b => if a.length + b.length ≤ sizeLine then .ok (.str (a ++ b)) S else .no
  | _, _ => .no
section
variable {X : Cx} {cm : CM}
theorem o_iadd : OOk X cm (inplaceOp .Add) iaddO := by
  refine ⟨_, iop_add.or iop_add_str, fun xl al H S x y v u Q W0 w rv ru p => ?_⟩
  unfold iaddO at p
  split at p
  · cases rv; cases ru
    exact .inl ⟨_, _, rfl, rfl, p.here w _ (.int _)⟩
  · split at p
    · rename_i hl
      cases rv; cases ru
      exact .inr ⟨_, _, rfl, rfl, hl, p.here w _ (.str _)⟩
    · exact p.elim
  · exact p.elim
theorem o_isub : OOk X cm (inplaceOp .Sub) subO := by
  refine ⟨_, iop_sub, fun xl al H S x y v u Q W0 w rv ru p => ?_⟩
  unfold subO at p
  split at p
  · cases rv; cases ru
    exact ⟨_, _, rfl, rfl, p.here w _ (.int _)⟩
  · exact p.elim
end

/-! truth -/
def truD (S : DS) : D → Option Bool
  | .non => some false
  | .bl b => some b
  | .int i => some (i != 0)
  | .str y => if y.length ≤ sizeLine then some ((y.length : Int) != 0) else none
  | .tup xs => some (!xs.isEmpty)
  | .vl xs => some (!xs.isEmpty)
  | .fz xs => some (!xs.isEmpty)
  | .ref p => match S[p]? with
    | some (DO.lst xs) => some (!xs.isEmpty)
    | none => none
  | .dct => none
  | .exo _ _ => none
def mTr (a : ME) : MT := fun env S => (a env S).bind fun d S1 => match truD S1 d with
  | some b => .ok b S1
  | none => .no
theorem Reps.isE {K : PySem.W.Frag} {xl al : List Addr} {H : Hp} {ds : List D} {vs : List V} (r : Reps K xl al H ds vs) : (!vs.isEmpty) = !ds.isEmpty := by cases r <;> rfl
theorem t_tru {X : Cx} {cm : CM} {W : WX} {e : Expr} {ma : ME} (h : EOk X cm W e ma) (he : ∀ whole, isTrue e X.env whole = (do let v ← whole; standAt e.pos; holding [v] (truthy v)) := by intro _; rfl) : TOk X cm W e (mTr ma) := by
  obtain ⟨t, p, d⟩ := h
  refine ⟨_, pt_truth p he, fun xl al σ H S env Q w r q => ?_⟩
  refine d xl al σ H S env _ w r (q.bind.imp fun x S1 al1 H1 e1 w1 p1 v rv => ?_)
  split at p1
  · rename_i b hb
    refine ⟨b, ?_, p1.here w1⟩
    unfold truD at hb
    split at hb
    · cases rv; cases hb; rfl
    · cases rv; cases hb; rfl
    · cases rv; cases hb; rfl
    · split at hb
      · rename_i hl
        cases rv; cases hb
        exact ⟨hl, rfl⟩
      · cases hb
    · obtain ⟨a, us, rfl, ha, r1⟩ := rep_tup rv
      cases hb
      exact .inr (.inl ⟨us, ha, r1.isE.symm⟩)
    · obtain ⟨a, us, rfl, ha, na, nxa, r1⟩ := rep_ref_lst rv
      cases hb
      exact .inl ⟨us, SqL.of ha, r1.isE.symm⟩
    · cases rv with
      | fz h n r => cases hb; exact .inl ⟨_, .inl (.inr ⟨_, h⟩), r.isE.symm⟩
      | fzK k c h r => cases hb; exact .inl ⟨_, h H1, r.isE.symm⟩
    · split at hb
      · rename_i xs e
        cases hb
        cases rv with
        | ref h =>
          obtain ⟨a, us, h1, h2, h3⟩ := w1.list e
          rw [h] at h1; cases h1
          exact .inl ⟨us, SqL.of h2, h3.isE.symm⟩
      · cases hb
    · cases hb
    · cases hb
  · exact p1.elim

/-! a, b, c = x, y, z -/
def mPar3 (i j l : Nat) (a : MA) : MS := fun env S => lift (a env S) env fun ds S1 => match ds with
  | [x, y, z] => .ok (.nx, ((env.set i (some x)).set j (some y)).set l (some z)) S1
  | _ => .no
theorem reps3 {K : PySem.W.Frag} {xl al : List Addr} {H : Hp} {d e f : D} {vs : List V} (r : Reps K xl al H [d, e, f] vs) : ∃ v u t, vs = [v, u, t] ∧ Rep K xl al H d v ∧ Rep K xl al H e u ∧ Rep K xl al H f t := by
  cases r with
  | cons h r =>
    obtain ⟨u, t, rfl, h2, h3⟩ := reps2 r
    exact ⟨_, _, _, rfl, h, h2, h3⟩
theorem s_par3 {X : Cx} {cm : CM} {W : WX} {i j l : Nat} {x y z : Str} {a b c : Expr} {px py pz pt pos : Pos} {kt k2 pt2} {mp : MA} (hc : X.calm = true) (hN : X.N.Nodup) (ha : AOk X cm W [a, b, c] mp)
    (hw : swappedStores [.Tuple [.Name x px, .Name y py, .Name z pz] kt pt] (.Tuple [a, b, c] k2 pt2) X.env = pure (some [x, y, z]))
    (hi : X.N[i]? = some x := by rfl) (hj : X.N[j]? = some y := by rfl) (hl : X.N[l]? = some z := by rfl) (hij : i ≠ j := by decide) (hil : i ≠ l := by decide) (hjl : j ≠ l := by decide)
    (hx : X.env.scope.names.lookup x = some .local := by rfl) (hy : X.env.scope.names.lookup y = some .local := by rfl) (hz : X.env.scope.names.lookup z = some .local := by rfl)
    (hs : swapsWithSole [.Tuple [.Name x px, .Name y py, .Name z pz] kt pt] (.Tuple [a, b, c] k2 pt2) pos.line X.env = pure false := by rfl) :
    SOk X cm W (.Assign [.Tuple [.Name x px, .Name y py, .Name z pz] kt pt] (.Tuple [a, b, c] k2 pt2) pos) (mPar3 i j l mp) := by
  obtain ⟨t, p, d⟩ := ha
  refine ⟨_, ps_par3 hc hN hi hj hl hij hil hjl hx hy hz p hw hs, fun xl al σ H S env D0 w r q => ?_⟩
  refine d xl al σ H S env _ w r ((q.lift r).imp fun xs S1 al1 H1 e1 w1 p1 vs rvs => ?_)
  split at p1
  · obtain ⟨v, u, s, rfl, rv, ru, rs⟩ := reps3 rvs
    exact ⟨v, u, s, rfl, p1.here w1 _ ((((r.mono e1).set rv i).set ru j).set rs l)⟩
  · exact p1.elim
end DL

namespace DL
open PySem PySem.Spec PyProof.Rows L2
variable [TabC]

/-! ### a zip as a value: its five objects, tracked until it is walked -/
def zH (H : Hp) (k1 k2 : Bool) (a b m : Nat) : Hp := fun (c : Nat) =>
  if c = m then some (.ext fun h => ItAt k1 h m a 0)
  else if c = m + 1 then some (.ext fun h => ItAt k2 h (m + 1) b 0)
  else if c = m + 2 then some (.ext fun h => IsTupOf2 h (m + 2) (.ref m) (.ref (m + 1)))
  else if c = m + 3 then some (.ext fun h => ∃ x y, IsTupOf2 h (m + 3) x y)
  else if c = m + 4 then some (.ext fun h => IsZip h (m + 4) (m + 2) (m + 3) .none)
  else H c
def zD (H : Hp) (m : Nat) : Hp := fun (c : Nat) => if m ≤ c ∧ c < m + 5 then none else H c
theorem zH_out {H : Hp} {k1 k2 : Bool} {a b m c : Nat} (h : ¬ (m ≤ c ∧ c < m + 5)) : zH H k1 k2 a b m c = H c := by
  unfold zH
  rw [if_neg (by omega), if_neg (by omega), if_neg (by omega), if_neg (by omega), if_neg (by omega)]
theorem zH_in {H : Hp} {k1 k2 : Bool} {a b m c : Nat} (h : m ≤ c ∧ c < m + 5) : ∃ φ, zH H k1 k2 a b m c = some (.ext φ) := by
  unfold zH
  split
  · exact ⟨_, rfl⟩
  split
  · exact ⟨_, rfl⟩
  split
  · exact ⟨_, rfl⟩
  split
  · exact ⟨_, rfl⟩
  split
  · exact ⟨_, rfl⟩
  · omega
theorem zD_out {H : Hp} {m c : Nat} (h : ¬ (m ≤ c ∧ c < m + 5)) : zD H m c = H c := if_neg h
theorem zD_in {H : Hp} {m c : Nat} (h : m ≤ c ∧ c < m + 5) : zD H m c = none := if_pos h
theorem zD_zH {H : Hp} {k1 k2 : Bool} {a b m : Nat} (h : ∀ c : Nat, m ≤ c ∧ c < m + 5 → H c = none) : zD (zH H k1 k2 a b m) m = H := by
  funext c
  by_cases hc : m ≤ c ∧ c < m + 5
  · rw [zD_in hc, h c hc]
  · rw [zD_out hc, zH_out hc]
theorem in_five {m c : Nat} (h : c = m + 4 ∨ c = m + 2 ∨ c = m + 3 ∨ c = m ∨ c = m + 1) : m ≤ c ∧ c < m + 5 := by omega
section
variable {X : Cx} {pins : List (Addr × Obj)} {σ : L2.St} {H : Hp} {s : Shared}
theorem zH_at {k1 k2 : Bool} {a b m : Nat} : zH H k1 k2 a b m m = some (.ext fun h => ItAt k1 h m a 0) ∧ zH H k1 k2 a b m (m + 1) = some (.ext fun h => ItAt k2 h (m + 1) b 0) ∧
    zH H k1 k2 a b m (m + 2) = some (.ext fun h => IsTupOf2 h (m + 2) (.ref m) (.ref (m + 1))) ∧ zH H k1 k2 a b m (m + 3) = some (.ext fun h => ∃ x y, IsTupOf2 h (m + 3) x y) ∧
    zH H k1 k2 a b m (m + 4) = some (.ext fun h => IsZip h (m + 4) (m + 2) (m + 3) .none) := by
  refine ⟨?_, ?_, ?_, ?_, ?_⟩ <;> unfold zH
  · rw [if_pos rfl]
  · rw [if_neg (by omega), if_pos rfl]
  · rw [if_neg (by omega), if_neg (by omega), if_pos rfl]
  · rw [if_neg (by omega), if_neg (by omega), if_neg (by omega), if_pos rfl]
  · rw [if_neg (by omega), if_neg (by omega), if_neg (by omega), if_neg (by omega), if_pos rfl]
theorem tupOf2_keep {h1 h2 : Heap} {T : Addr} {x y : Value} (q : IsTupOf2 h1 T x y) (k : ∀ o, h1.get? T = some o → h2.get? T = some o) : IsTupOf2 h2 T x y := k _ q
theorem inv_zlay {h' : Heap} {t' : Nat} {k1 k2 : Bool} {a b m : Nat} (I : Inv X pins σ H s) (k : ∀ c u, s.heap.get? c = some u → h'.get? c = some u) (hm : s.heap.objs.size ≤ m)
    (h1 : ItAt k1 h' m a 0) (h2 : ItAt k2 h' (m + 1) b 0) (h3 : IsTupOf2 h' (m + 2) (.ref m) (.ref (m + 1))) (h4 : ∃ x y, IsTupOf2 h' (m + 3) x y) (h5 : IsZip h' (m + 4) (m + 2) (m + 3) .none) :
    Inv X pins σ (zH H k1 k2 a b m) { s with heap := h', toks := t' } := by
  have old : ∀ (c : Nat) u, H c = some u → ¬ (m ≤ c ∧ c < m + 5) := fun c u e z => by
    have : (c : Nat) < s.heap.objs.size := (I.hok c u e).lt
    omega
  have oldh : ∀ (c : Nat) o, s.heap.get? c = some o → ¬ (m ≤ c ∧ c < m + 5) := fun c o e z => by
    have : (c : Nat) < s.heap.objs.size := Heap.lt_size e
    omega
  refine I.un ⟨fun c o e _ _ _ => k c o e, fun c o e _ _ _ => ⟨o.slots, k c o e⟩, fun c o e n _ => by rw [zH_out (oldh c o e)]; exact n, fun c o e _ => ⟨o, k c o e⟩, fun c xs e => by rw [zH_out (old c _ e)]; exact e,
    fun c o u e => by rw [zH_out (old c _ e)]; exact e, fun c ps e => ⟨#[], by rw [zH_out (old c _ e), e]; simp⟩⟩ ?_
  intro (c : Nat) u e
  by_cases hc : m ≤ c ∧ c < m + 5
  · obtain ⟨z0, z1, z2, z3, z4⟩ := zH_at (H := H) (k1 := k1) (k2 := k2) (a := a) (b := b) (m := m)
    rcases (show c = m ∨ c = m + 1 ∨ c = m + 2 ∨ c = m + 3 ∨ c = m + 4 by omega) with rfl | rfl | rfl | rfl | rfl
    · rw [z0] at e; cases e
      obtain ⟨o, q, _⟩ := h1.live
      exact ⟨h1, ⟨o, q⟩, fun g g' x e => x.keep e⟩
    · rw [z1] at e; cases e
      obtain ⟨o, q, _⟩ := h2.live
      exact ⟨h2, ⟨o, q⟩, fun g g' x e => x.keep e⟩
    · rw [z2] at e; cases e
      exact ⟨h3, ⟨_, h3⟩, fun g g' x e => tupOf2_keep x e⟩
    · rw [z3] at e; cases e
      obtain ⟨x, y, q⟩ := h4
      exact ⟨⟨x, y, q⟩, ⟨_, q⟩, fun g g' ⟨x, y, q⟩ e => ⟨x, y, tupOf2_keep q e⟩⟩
    · rw [z4] at e; cases e
      exact ⟨h5, ⟨_, h5⟩, fun g g' x e => e _ x⟩
  · rw [zH_out hc] at e
    refine (I.hok c u e).stay (fun b v _ q => k b v q) (fun b q => ?_) fun b xs q => ?_
    · rw [zH_out (old b _ q)]; exact q
    · rw [zH_out (old b _ q)]; exact q
theorem inv_zdrop {m : Nat} (I : Inv X pins σ H s) (h : ∀ c : Nat, m ≤ c ∧ c < m + 5 → ∃ φ, H c = some (.ext φ)) : Inv X pins σ (zD H m) s := by
  have other : ∀ (b : Nat) u, H b = some u → (∀ ψ, u ≠ .ext ψ) → zD H m b = some u := fun b u e n => by
    rw [zD_out fun z => by
      obtain ⟨φ, q⟩ := h b z
      rw [q] at e
      exact n φ (Option.some.inj e).symm]
    exact e
  have non : ∀ (b : Nat), H b = Option.none → zD H m b = Option.none := fun b e => by
    by_cases hb : m ≤ b ∧ b < m + 5
    · exact zD_in hb
    · rw [zD_out hb]; exact e
  have hok : HOk X.prog X.w (zD H m) s.heap := fun b u e => by
    have hb : ¬ (m ≤ (b : Nat) ∧ (b : Nat) < m + 5) := fun z => by
      rw [zD_in z] at e
      cases e
    rw [zD_out hb] at e
    exact (I.hok b u e).stay (fun _ _ _ z => z) (fun c z => other c _ z fun _ w => (nomatch w)) fun c xs z => other c _ z fun _ w => (nomatch w)
  have u : Un X.fs [] H (zD H m) s.heap s.heap := ⟨fun _ _ e _ _ _ => e, fun _ o e _ _ _ => ⟨o.slots, e⟩, fun b _ _ z _ => non b z, fun _ o e _ => ⟨o, e⟩, fun b xs z => other b _ z fun _ w => (nomatch w),
    fun b o x z => other b _ z fun _ w => (nomatch w), fun b ps z => ⟨#[], by rw [other b _ z fun _ w => (nomatch w)]; simp⟩⟩
  exact I.un (t' := s.toks) u hok
theorem inv_zfp {m c : Nat} (I : Inv X pins σ H s) (hc : m ≤ c ∧ c < m + 5) {u : HO} (h : H c = some u) (hn : X.s_0.heap.objs.size ≤ m) : FpOk X pins (zD H m) c := by
  refine ⟨zD_in hc, fun z => ?_, fun z => ?_, .inr (Nat.le_trans hn hc.1), fun x q e z => ?_, fun p hp z => ?_⟩
  · rw [z, I.free] at h
    cases h
  · obtain ⟨_, o, ho, _⟩ := I.ok.funs.mem z
    exact absurd (Nat.lt_of_lt_of_le (Heap.lt_size ho) (Nat.le_trans hn hc.1)) (Nat.lt_irrefl _)
  · have q := I.freeC x q e
    rw [z, h] at q
    cases q
  · have q := (I.pin p hp).2.1
    rw [z, h] at q
    cases q
end
/-- zip(e, e2), told as a value -/
def tZipV (K : PySem.W.Frag) (n : Nat) (ta : TA) : TE := fun σ H Q => ta σ H fun vs H1 => ∃ a b k1 k2, vs = [.ref a, .ref b] ∧ (∃ us, SqV K k1 H1 a us) ∧ (∃ us, SqV K k2 H1 b us) ∧
  ∀ m : Nat, (∀ c : Nat, m ≤ c ∧ c < m + 5 → H1 c = none) → n ≤ m → a < m → b < m → Q (.ref (m + 4)) (zH H1 k1 k2 a b m)
theorem pe_zipV {X : Cx} {e e2 : Expr} {ta : TA} {p pos : Pos} (hg : Gl X "zip") (hm : X.mg "zip" = none) (ha : PA X [e, e2] ta)
    (hs : starEach [e, e2] X.env = (false, eval e X.env) :: starEach [e2] X.env := by rfl) (hpl : (backTo pos (starEach [e2] X.env)).any (·.1) = false := by rfl) :
    PE X (.Call (.Name "zip" p) [e, e2] [] pos) (tZipV X.K X.s_0.heap.objs.size ta) := by
  refine ⟨fun pins s σ H Q I h => wpAny_Call_Name_kw (ld_blt I hg hm PyProof.Rows.boot_zip (PyProof.Rows.callWith_type1 (thn (ha.run pos pins s σ H _ I h) fun us s1 ⟨vs, H1, I1, r1, a, b, k1, k2, ex, ⟨xs, hqx⟩, ⟨ys, hqy⟩, q⟩ => ?_) hs hpl))⟩
  subst ex
  cases r1 with
  | cons r rr =>
    cases rr with
    | cons r' rr =>
      cases rr
      cases r
      cases r'
      obtain ⟨its, rv, hS1⟩ := src I1 hqx
      obtain ⟨its2, rv2, hS2⟩ := src I1 hqy
      refine zip_begins2 (beginsK k1 a its.toArray) (beginsK k2 b its2.toArray) hS1 hS2 fun h' hz hTI hTO g1 g2 hsz hk => ?_
      refine ⟨.ref (s1.heap.objs.size + 4), zH H1 k1 k2 a b s1.heap.objs.size, inv_zlay (t' := s1.toks) I1 hk (Nat.le_refl _) (itO_at g1) (itO_at g2) hTI ⟨_, _, hTO⟩ hz, rfl, q _ (fun c hc => I1.hok.fresh hc.1) I1.sz hS1.lt hS2.lt⟩
/-- a name that holds such a zip, walked -/
def iZipV (K : PySem.W.Frag) (n : Nat) (k : Nat) : TI := fun σ H R => ∃ (a b : Nat) (k1 k2 : Bool) (m : Nat) (H0 : Hp), σ[k]? = some (some (.ref (m + 4))) ∧ H = zH H0 k1 k2 a b m ∧ (∀ c : Nat, m ≤ c ∧ c < m + 5 → H0 c = none) ∧ n ≤ m ∧ a < m ∧ b < m ∧ R (ItZ K k1 k2 a b) H0
theorem pi_zipV {X : Cx} {k : Nat} {x : Str} {p tpos : Pos} {elts : List Expr} {kk : Nat} (hN : X.N[k]? = some x) (hv : Vis X.env.scope x) (hd : (x == ("__debug__" : Str)) = false := by decide) (hcd : (x == ("__classdict__" : Str)) = false := by decide) :
    PI X (.Tuple elts kk tpos) (.Name x p) (iZipV X.K X.s_0.heap.objs.size k) := by
  refine ⟨fun pins s σ H R I h => ?_⟩
  obtain ⟨a, b, k1, k2, m, H0, hs, hH, hn, hm, ham, hbm, q⟩ := h
  refine thn ((pe_var (pos := p) (i := k) hN hv hd hcd).run pins s σ H (fun v H1 => v = .ref (m + 4) ∧ H1 = H) I ⟨.ref (m + 4), hs, rfl, rfl⟩) fun u s1 ⟨v, H1, I1, r1, ev, eH⟩ => ?_
  subst ev
  subst eH
  subst hH
  cases r1
  obtain ⟨z0, z1, z2, z3, z4⟩ := zH_at (H := H0) (k1 := k1) (k2 := k2) (a := a) (b := b) (m := m)
  have g0 := (I1.hok _ _ z0).1
  have g1 := (I1.hok _ _ z1).1
  have g2 := (I1.hok _ _ z2).1
  have g3 := (I1.hok _ _ z3).1
  have g4 := (I1.hok _ _ z4).1
  have I2 := inv_zdrop I1 fun c hc => zH_in hc
  rw [zD_zH hn] at I2
  refine wpAny_pyIter_zip g4 ?_
  refine ⟨m + 4, [m + 4, m + 2, m + 3, m, m + 1], _, _, H0, rfl, I2,
    turn_zipK (zip_sep2 (fp1 := [a]) (fp2 := [b]) (fun c hcm => by rw [List.mem_singleton.mp hcm]; exact ham) (fun c hcm => by rw [List.mem_singleton.mp hcm]; exact hbm)) (Nat.ne_of_lt ham) (Nat.ne_of_lt (Nat.lt_succ_of_lt hbm)),
    ⟨g4, g2, g3, g0, g1⟩, fun c hcm => ?_, q⟩
  have hc : m ≤ (c : Nat) ∧ (c : Nat) < m + 5 := in_five (by simpa using hcm)
  obtain ⟨φ, hφ⟩ := zH_in (H := H0) (k1 := k1) (k2 := k2) (a := a) (b := b) hc
  have := inv_zfp I1 hc hφ hm
  rw [zD_zH hn] at this
  exact this

/-! y = zip(e, e2); return tuple([elt for .. in y]) -/
noncomputable def mZipRet (i : Nat) (ma : MA) (mg : MG) (me : ME) (vs : List Nat) : MS := fun env S => lift (ma env S) env fun xs S1 => mRet (mL tupleO (maC (lcM (fun _ S => zipO xs S) mg mYes me vs finV) maN)) (env.set i none) S1
theorem EnvR.blur {K : PySem.W.Frag} {xl al : List Addr} {H : Hp} {env : DE} {σ : L2.St} (r : EnvR K xl al H env σ) (i : Nat) (v : Option V) : EnvR K xl al H (env.set i none) (σ.set i v) := by
  refine ⟨by rw [List.length_set, List.length_set, r.len], fun j d h => ?_⟩
  by_cases e : j = i
  · subst e
    by_cases hj : j < env.length
    · rw [List.getElem?_set_self hj] at h; cases h
    · rw [List.getElem?_eq_none (by rw [List.length_set]; omega)] at h; cases h
  · rw [List.getElem?_set_ne (Ne.symm e)] at h ⊢
    exact r.at' j d h
theorem zipO_ok {xs : List D} {S S' : DS} {it : Itm} (h : zipO xs S = .ok it S') : ∃ d e ys zs, xs = [d, e] ∧ asSeq d = some ys ∧ asSeq e = some zs ∧ it = ⟨zipD ys zs, none⟩ ∧ S' = S := by
  unfold zipO at h
  split at h
  · rename_i d e
    split at h
    · rename_i ys zs h1 h2
      cases h
      exact ⟨d, e, ys, zs, rfl, h1, h2, rfl, rfl⟩
    · cases h
  · cases h
theorem zipO_ex {xs : List D} {S S' : DS} {x : Exn} (h : zipO xs S = .ex x S') : False := by
  unfold zipO at h
  split at h
  · split at h <;> cases h
  · cases h
theorem ps_setL {X : Cx} {i : Nat} {x : Str} {e : Expr} {te : TE} {pos' pos : Pos} (hN : X.N.Nodup) (hi : X.N[i]? = some x) (hx : Loc X.env.scope x) (he : PE X e te) (hs : swapsWith e (some (.Name x pos')) pos.line X.env = pure false)
    (hf : X.fn x = true ∨ X.env.scope.names.lookup x = some .local) : PS X (.Assign [.Name x pos'] e pos) (fun D σ H => te σ H fun v H1 => i < σ.length → D.nx (σ.set i (some v)) H1) := by
  refine ⟨fun pins s σ H D I h => ?_⟩
  refine wpAny_Assign_Name (thn (he.run pins s σ H _ I h) fun v s1 ⟨y, H1, I1, r1, q1⟩ => ?_) hs
  exact store_ok I1 hN hi hx r1 (fun s2 I2 => ⟨_, H1, I2, q1 (by rw [I1.len]; exact (List.getElem?_eq_some_iff.mp hi).1)⟩) hf
theorem ss_zipRet {X : Cx} {cm : CM} {W : WX} {i : Nat} {y : Str} {py p pos spos p2 tp cpos rpos lpos tpos : Pos} {kk : Nat} {e e2 elt : Expr} {elts : List Expr} {scope : Scope} {own : List (Str × Nat)} {ma : MA} {mg : MG} {me : ME}
    (hc : X.calm = true) (hN : X.N.Nodup) (hz : Gl X "zip") (hzm : X.mg "zip" = none) (ht : Gl X "tuple") (htm : X.mg "tuple" = none) (ha : AOk X cm W [e, e2] ma) (ok : BlkOk X.N X.env.scope scope own)
    (hg : ∀ (s : Shared) (H : Hp) (C : Addr) (cl : List (Str × Addr)) (fp : List Addr), GAOk (X.blk s H scope (compEnvC scope cl C X.env) fp) cm (.Tuple elts kk tpos) mg (own.map (·.2)))
    (he : ∀ (s : Shared) (H : Hp) (C : Addr) (cl : List (Str × Addr)) (fp : List Addr), EOk (X.blk s H scope (compEnvC scope cl C X.env) fp) cm noX elt me)
    (hi : X.N[i]? = some y := by rfl) (hx : Loc X.env.scope y := by first | exact Or.inl rfl | exact Or.inr rfl) (hv : Vis X.env.scope y := by first | exact Or.inl rfl | exact Or.inr (Or.inl rfl) | exact Or.inr (Or.inr rfl))
    (hd : (y == ("__debug__" : Str)) = false := by decide) (hcd : (y == ("__classdict__" : Str)) = false := by decide)
    (hs : starEach [e, e2] X.env = (false, eval e X.env) :: starEach [e2] X.env := by rfl) (hpl : (backTo pos (starEach [e2] X.env)).any (·.1) = false := by rfl)
    (hsw : swapsWith (.Call (.Name "zip" p) [e, e2] [] pos) (some (.Name y py)) spos.line X.env = pure false := by rfl) (hf : X.fn y = true ∨ X.env.scope.names.lookup y = some .local := by first | exact .inl rfl | exact .inr rfl | assumption)
    (hfs : ∀ x, foldedSetIterable (.Name y p2) X.env x = pure x := by intro _; rfl) :
    SsOk X cm W [.Assign [.Name y py] (.Call (.Name "zip" p) [e, e2] [] pos) spos, .Return (some (.Call (.Name "tuple" tp) [.ListComp elt [⟨.Tuple elts kk tpos, .Name y p2, [], 0⟩] scope lpos] [] cpos)) rpos]
      (mZipRet i ma mg me (own.map (·.2))) := by
  obtain ⟨ta, pa, da⟩ := ha
  obtain ⟨rt, ct, dt⟩ := c_tuple (X := X) (cm := cm)
  let G := fun (s : Shared) (H : Hp) (C : Addr) (cl : List (Str × Addr)) (fp : List Addr) => (hg s H C cl fp).choose
  let E := fun (s : Shared) (H : Hp) (C : Addr) (cl : List (Str × Addr)) (fp : List Addr) => (he s H C cl fp).choose
  obtain ⟨tt, ptt, dtt⟩ : ∃ tt : TT, (∀ X : Cx, PTs X [] tt) ∧ DenT X.K cm noX tt mYes := ⟨_, fun X => pts_nil, fun xl al σ H S env Q w r p => Post.hereT w p⟩
  obtain ⟨gg, pg, dg⟩ : ∃ gg : TG, (∀ (s : Shared) (H : Hp) (C : Addr) (cl : List (Str × Addr)) (fp : List Addr), PG (X.blk s H scope (compEnvC scope cl C X.env) fp) (.Tuple elts kk tpos) gg) ∧ DenGA X.K cm gg mg (own.map (·.2)) :=
    ⟨fun v σ H' Q => ∀ s H C cl fp, G s H C cl fp v σ H' Q, fun s H C cl fp => ⟨fun pins s' σ H' v u Q I r h => (hg s H C cl fp).choose_spec.1.run pins s' σ H' v u Q I r (h s H C cl fp)⟩,
      fun xl al σ H S env d v Q w r rv p s H0 C cl fp => (hg s H0 C cl fp).choose_spec.2 xl al σ H S env d v Q w r rv p⟩
  obtain ⟨ee, pee, de⟩ : ∃ ee : TE, (∀ (s : Shared) (H : Hp) (C : Addr) (cl : List (Str × Addr)) (fp : List Addr), PE (X.blk s H scope (compEnvC scope cl C X.env) fp) elt ee) ∧ DenE X.K cm noX ee me :=
    ⟨fun σ H' Q => ∀ s H C cl fp, E s H C cl fp σ H' Q, fun s H C cl fp => ⟨fun pins s' σ H' Q I h => (he s H C cl fp).choose_spec.1.run pins s' σ H' Q I (h s H C cl fp)⟩,
      fun xl al σ H S env Q w r p s H0 C cl fp => (he s H0 C cl fp).choose_spec.2 xl al σ H S env Q w r p⟩
  refine ⟨_, pss_cons (ps_setL hN hi hx (pe_zipV hz hzm pa hs hpl) hsw hf) (pss_one (ps_ret (pe_callTy ct ht htm (by decide +kernel) (pa_cons (pe_lc hc hN (pi_zipV hi hv hd hcd) ok pg (fun _ _ _ _ _ => ptt _) pee hfs) pa_nil)))), fun xl al σ H S env D0 w r q => ?_⟩
  refine da xl al σ H S env _ w r ((q.lift r).imp fun xs S1 al1 H1 e1 w1 p1 vs rvs => ?_)
  have fact : ∃ d1 d2 ys zs, xs = [d1, d2] ∧ asSeq d1 = some ys ∧ asSeq d2 = some zs ∧ zipO xs S1 = .ok ⟨zipD ys zs, none⟩ S1 := by
    cases hzo : zipO xs S1 with
    | ok it S2 =>
      obtain ⟨d1, d2, ys, zs, rfl, h1, h2, rfl, rfl⟩ := zipO_ok hzo
      exact ⟨d1, d2, ys, zs, rfl, h1, h2, rfl⟩
    | ex x S2 => exact (zipO_ex hzo).elim
    | no =>
      exfalso
      unfold mRet mL maC lcM at p1
      simp only [hzo] at p1
      exact p1
  obtain ⟨d1, d2, ys, zs, rfl, h1, h2, hzo⟩ := fact
  obtain ⟨u1, u2, rfl, ru1, ru2⟩ := reps2 rvs
  obtain ⟨a, k1, us1, rfl, hS1, r1, l1⟩ := seq_later h1 ru1
  obtain ⟨b, k2, us2, rfl, hS2, r2, l2⟩ := seq_later h2 ru2
  refine ⟨a, b, k1, k2, rfl, ⟨us1, hS1⟩, ⟨us2, hS2⟩, fun m hn hm ham hbm hil => ?_⟩
  have r' : EnvR X.K xl al1 H1 (env.set i none) (σ.set i (some (.ref (m + 4)))) := (r.mono e1).blur i _
  refine ⟨a, b, k1, k2, m, H1, List.getElem?_set_self hil, rfl, hn, hm, ham, hbm, ?_⟩
  have p2 := (p1.lift (W := W) r').bind.bind
  show tLc (fun _ H R => R (ItZ X.K k1 k2 a b) H) gg tt ee (own.map (·.2)) (σ.set i (some (.ref (m + 4)))) H1 (fun x H1 => tNil (σ.set i (some (.ref (m + 4)))) H1 fun xs H2 => rt (x :: xs) H2 D0.rt)
  refine den_lcAt (W := W) (mi := fun _ S => zipO [d1, d2] S) w1 r' (fun R pR => ?_) dg dtt de finV_ok _ (p2.imp fun x S3 al3 H3 e3 w3 p3 v rv => ?_)
  · rw [hzo] at pR
    exact pR.here w1 _ (zip_yields r1 l1 r2 l2)
  · have p4 : Post X.K cm xl (fun c d H' => W c d (σ.set i (some (.ref (m + 4)))) H') (fun d S4 al4 H4 => Post X.K cm xl noW (RS X.K cm xl W D0) (.ok (.rt d, env.set i none) S4) al4 H4) (tupleO [x] S3) al3 H3 := (p3.bind.here w3).here w3
    refine dt xl al3 H3 S3 [x] [v] _ _ w3 (.cons rv .nil) (p4.imp fun z S5 al5 H5 e5 w5 p5 zv rz => ?_)
    exact p5.here w5 _ ((r'.mono e3).mono e5) zv rz
end DL

namespace DL
open PySem PySem.Spec PyProof.Rows L2
variable [TabC]

/-! ### list(zip(..)): the model's own loop -/
section
variable {prog : Program} {w : World} {A : Around} {E : Value → Shared → Prop} {s : Shared} {z TI TO T i1 i2 : Addr} {fp1 fp2 : List Addr} {n1 n2 i : Nat} {P1 P2 : Nat → Value → Prop} {St1 St2 : Nat → Heap → Prop} {f : Bool} {oT : Obj}
theorem zh_item {Q : Value → Shared → Prop} (S : ZipSep2 z TI TO i1 i2 fp1 fp2) (D1 : Draws prog w A i1 fp1 n1 P1 St1) (D2 : Draws prog w A i2 fp2 n2 P2 St2)
    (hz : IsZipHeld s.heap z TI TO T f) (hT : s.heap.get? T = some oT) (hTI : IsTupOf2 s.heap TI (.ref i1) (.ref i2)) (st1 : St1 i s.heap) (st2 : St2 i s.heap) (hlt1 : i < n1) (hlt2 : i < n2)
    (hQ : ∀ x1 x2 h' tk, P1 i x1 → P2 i x2 → IsZipHeld h' z TI TO T true → St1 (i + 1) h' → St2 (i + 1) h' → IsTupOf2 h' s.heap.objs.size x1 x2 → h'.objs.size = s.heap.objs.size + 1 →
      (∀ c o, c ≠ z → c ≠ i1 → c ≠ i2 → s.heap.get? c = some o → h'.get? c = some o) → Q (.ref s.heap.objs.size) { s with heap := h', toks := tk }) :
    wpAny (model prog w) A (Builtin.«zip.__next__» ⟨[.ref z], []⟩) (fun fin s' => ∃ v, fin = .done (.ret v) ∧ Q v s') E s := by
  obtain ⟨hp, g, d, tk0, os⟩ := s
  show wpAny _ _ (field (.ref z) 2 >>= _) _ _ _
  refine wpAny_bind (wpAny_field hz rfl (x := .bool false) rfl ?_)
  show wpAny _ _ (field (.ref z) 3 >>= _) _ _ _
  refine wpAny_bind (wpAny_field hz rfl (x := .ref TI) rfl ?_)
  refine wpAny_bind (wpAny_seqItems hTI rfl ?_)
  show wpAny _ _ (Builtin.SmallTypes.ownedTupleIsFree (.ref z) >>= _) _ _ _
  refine wpAny_bind (wpAny_tupleHeld_zip hz hT fun h₁ hz₁ hs₁ => ?_)
  replace hs₁ : Heap.SameBut z hp h₁ := hs₁
  simp only [Bool.false_eq_true, if_false]
  refine wpAny_bind ?_
  rw [← Array.forIn_toList]
  simp only [List.forIn_cons, List.forIn_nil]
  refine wpAny_bind (wpAny_bind (wpAny_holding ?_))
  show wpAny _ _ (Builtin.SmallTypes.nextOf (.ref i1) >>= _) _ _ ⟨h₁, g, d, tk0, os⟩
  refine wpAny_bind (D1.item i _ _ _ hlt1 (D1.over st1 hs₁ S.zf1) fun x1 h₂ tk1 hx1 sn1 hs₂ => wpAny_pure ?_)
  replace hs₂ : Heap.SameBut i1 h₁ h₂ := hs₂
  refine wpAny_pure ?_
  refine wpAny_bind (wpAny_bind (wpAny_holding ?_))
  show wpAny _ _ (Builtin.SmallTypes.nextOf (.ref i2) >>= _) _ _ ⟨h₂, g, d, tk1, os⟩
  refine wpAny_bind (D2.item i _ _ _ hlt2 (D2.over (D2.over st2 hs₁ S.zf2) hs₂ S.sep1_2) fun x2 h₃ tk2 hx2 sn2 hs₃ => wpAny_pure ?_)
  replace hs₃ : Heap.SameBut i2 h₂ h₃ := hs₃
  refine wpAny_pure (wpAny_pure ?_)
  show wpAny _ _ (newTuple [x1, x2] >>= _) _ _ _
  refine wpAny_bind (wpAny_newTuple ?_)
  have hsz : h₃.objs.size = hp.objs.size := by rw [hs₃.1, hs₂.1, hs₁.1]
  have hz₃ : IsZipHeld h₃ z TI TO T true := hs₃.extBut _ _ S.zi2 (hs₂.extBut _ _ S.zi1 hz₁)
  have hk : ∀ c o, c ≠ z → c ≠ i1 → c ≠ i2 → hp.get? c = some o → h₃.get? c = some o := fun c o c1 c2 c3 e => hs₃.extBut _ _ c3 (hs₂.extBut _ _ c2 (hs₁.extBut _ _ c1 e))
  refine wpAny_pure ⟨_, rfl, ?_⟩
  show Q (.ref h₃.objs.size) _
  have hp4 : IsTupOf2 (h₃.push { cls := .type "tuple", data := .seq #[x1, x2] }) h₃.objs.size x1 x2 := Heap.get?_push_size _ rfl
  have hz4 : (h₃.push { cls := .type "tuple", data := .seq #[x1, x2] }).objs.size = h₃.objs.size + 1 := Heap.size_push ..
  have s1' : St1 (i + 1) (h₃.push { cls := .type "tuple", data := .seq #[x1, x2] }) := D1.frame _ _ _ (D1.over sn1 hs₃ S.sep2_1) fun b _ o e => Heap.get?_push_of_some _ e
  have s2' : St2 (i + 1) (h₃.push { cls := .type "tuple", data := .seq #[x1, x2] }) := D2.frame _ _ _ sn2 fun b _ o e => Heap.get?_push_of_some _ e
  rw [hsz] at hp4 hz4 ⊢
  exact hQ x1 x2 _ tk2 hx1 hx2 (Heap.get?_push_of_some _ hz₃) s1' s2' hp4 hz4 fun c o c1 c2 c3 e => Heap.get?_push_of_some _ (hk c o c1 c2 c3 e)
theorem zh_end {Q : Fin → Shared → Prop} (S : ZipSep2 z TI TO i1 i2 fp1 fp2) (D1 : Draws prog w A i1 fp1 n1 P1 St1) (D2 : Draws prog w A i2 fp2 n2 P2 St2)
    (hz : IsZipHeld s.heap z TI TO T f) (hT : s.heap.get? T = some oT) (hTI : IsTupOf2 s.heap TI (.ref i1) (.ref i2)) (st1 : St1 i s.heap) (st2 : St2 i s.heap) (hle1 : i ≤ n1) (hle2 : i ≤ n2) (hend : i = n1 ∨ i = n2)
    (hE : ∀ h' tk e, (∀ c o, c ≠ z → c ≠ i1 → c ≠ i2 → s.heap.get? c = some o → h'.get? c = some o) → (∃ o, h'.get? e = some o ∧ o.cls = .type "StopIteration") → E (.ref e) { s with heap := h', toks := tk }) :
    wpAny (model prog w) A (Builtin.«zip.__next__» ⟨[.ref z], []⟩) Q E s := by
  obtain ⟨hp, g, d, tk0, os⟩ := s
  show wpAny _ _ (field (.ref z) 2 >>= _) _ _ _
  refine wpAny_bind (wpAny_field hz rfl (x := .bool false) rfl ?_)
  show wpAny _ _ (field (.ref z) 3 >>= _) _ _ _
  refine wpAny_bind (wpAny_field hz rfl (x := .ref TI) rfl ?_)
  refine wpAny_bind (wpAny_seqItems hTI rfl ?_)
  show wpAny _ _ (Builtin.SmallTypes.ownedTupleIsFree (.ref z) >>= _) _ _ _
  refine wpAny_bind (wpAny_tupleHeld_zip hz hT fun h₁ hz₁ hs₁ => ?_)
  replace hs₁ : Heap.SameBut z hp h₁ := hs₁
  simp only [Bool.false_eq_true, if_false]
  refine wpAny_bind ?_
  rw [← Array.forIn_toList]
  simp only [List.forIn_cons, List.forIn_nil]
  refine wpAny_bind (wpAny_bind (wpAny_holding ?_))
  show wpAny _ _ (Builtin.SmallTypes.nextOf (.ref i1) >>= _) _ _ ⟨h₁, g, d, tk0, os⟩
  by_cases hlt1 : i < n1
  · refine wpAny_bind (D1.item i _ _ _ hlt1 (D1.over st1 hs₁ S.zf1) fun x1 h₂ tk1 hx1 sn1 hs₂ => wpAny_pure ?_)
    replace hs₂ : Heap.SameBut i1 h₁ h₂ := hs₂
    refine wpAny_pure ?_
    refine wpAny_bind (wpAny_bind (wpAny_holding ?_))
    show wpAny _ _ (Builtin.SmallTypes.nextOf (.ref i2) >>= _) _ _ ⟨h₂, g, d, tk1, os⟩
    have hi2 : i = n2 := by omega
    refine wpAny_bind (D2.done ⟨h₂, g, d, tk1, os⟩ _ _ (by rw [← hi2]; exact (D2.over (D2.over st2 hs₁ S.zf2) hs₂ S.sep1_2)) fun q e hq he => ?_)
    replace hq : Heap.ExtBut i2 h₂ q := hq
    exact hE q tk1 e (fun c o c1 c2 c3 x => hq _ _ c3 (hs₂.extBut _ _ c2 (hs₁.extBut _ _ c1 x))) he
  · have hi1 : i = n1 := by omega
    refine wpAny_bind (D1.done ⟨h₁, g, d, tk0, os⟩ _ _ (by rw [← hi1]; exact (D1.over st1 hs₁ S.zf1)) fun q e hq he => ?_)
    replace hq : Heap.ExtBut i1 h₁ q := hq
    exact hE q tk0 e (fun c o c1 c2 c3 x => hq _ _ c2 (hs₁.extBut _ _ c1 x)) he
theorem zh_next_item {Q : Option Value → Shared → Prop} (S : ZipSep2 z TI TO i1 i2 fp1 fp2) (D1 : Draws prog w A.in1 i1 fp1 n1 P1 St1) (D2 : Draws prog w A.in1 i2 fp2 n2 P2 St2)
    (hz : IsZipHeld s.heap z TI TO T f) (hT : s.heap.get? T = some oT) (hTI : IsTupOf2 s.heap TI (.ref i1) (.ref i2)) (st1 : St1 i s.heap) (st2 : St2 i s.heap) (hlt1 : i < n1) (hlt2 : i < n2)
    (hQ : ∀ x1 x2 h' tk, P1 i x1 → P2 i x2 → IsZipHeld h' z TI TO T true → St1 (i + 1) h' → St2 (i + 1) h' → IsTupOf2 h' s.heap.objs.size x1 x2 → h'.objs.size = s.heap.objs.size + 1 →
      (∀ c o, c ≠ z → c ≠ i1 → c ≠ i2 → s.heap.get? c = some o → h'.get? c = some o) → Q (some (.ref s.heap.objs.size)) { s with heap := h', toks := tk }) :
    wpAny (model prog w) A (pyNext (.ref z)) Q E s := by
  have hTy : s.TypeIs (.ref z) "zip" := ⟨_, hz, rfl⟩
  unfold pyNext
  exact wpAny_bind (wpAny_attempt (wpAny_callSpecial?_slot (name := Str.ofString "__next__") hTy F.slot_zip_next
    (wpAny_call_entry F.slot_zip_next hTy F.entry_zip_next
      (zh_item S D1 D2 hz hT hTI st1 st2 hlt1 hlt2 fun x1 x2 h' tk y1 y2 b1 d1 d2 b5 b6 b7 => wpAny_pure (hQ x1 x2 h' tk y1 y2 b1 d1 d2 b5 b6 b7)) (F.args_zip_next_1 _))))
theorem zh_next_end {Q : Option Value → Shared → Prop} (S : ZipSep2 z TI TO i1 i2 fp1 fp2) (D1 : Draws prog w A.in1 i1 fp1 n1 P1 St1) (D2 : Draws prog w A.in1 i2 fp2 n2 P2 St2)
    (hz : IsZipHeld s.heap z TI TO T f) (hT : s.heap.get? T = some oT) (hTI : IsTupOf2 s.heap TI (.ref i1) (.ref i2)) (st1 : St1 i s.heap) (st2 : St2 i s.heap) (hle1 : i ≤ n1) (hle2 : i ≤ n2) (hend : i = n1 ∨ i = n2)
    (hQ : ∀ h' tk, (∀ c o, c ≠ z → c ≠ i1 → c ≠ i2 → s.heap.get? c = some o → h'.get? c = some o) → Q none { s with heap := h', toks := tk }) : wpAny (model prog w) A (pyNext (.ref z)) Q E s := by
  have hTy : s.TypeIs (.ref z) "zip" := ⟨_, hz, rfl⟩
  unfold pyNext
  refine wpAny_bind (wpAny_attempt (wpAny_callSpecial?_slot (name := Str.ofString "__next__") hTy F.slot_zip_next
    (wpAny_call_entry F.slot_zip_next hTy F.entry_zip_next (zh_end S D1 D2 hz hT hTI st1 st2 hle1 hle2 hend fun h' tk e hk he => ?_) (F.args_zip_next_1 _))))
  obtain ⟨o, ho, hc⟩ := he
  refine wpAny_bind (wpAny_isInstance (T := "StopIteration") (b := true) ⟨o, ho, hc⟩ isSubtype_stop ?_)
  exact wpAny_pure (hQ _ _ hk)
end

/-- the tuples made so far lie behind the list at N -/
structure LZ (xs ys : Array Value) (N i : Nat) (acc : Array Value) (h : Heap) : Prop where
  acc : acc = ((List.range i).map fun j => Value.ref (N + 1 + j)).toArray
  tup : ∀ j, j < i → ∃ x y, xs[j]? = some x ∧ ys[j]? = some y ∧ IsTupOf2 h (N + 1 + j) x y
def ZSt (z TI TO N : Nat) (i : Nat) (h : Heap) : Prop := (i = 0 ∧ IsZip h z TI TO .none ∧ ∃ a1 a2, IsTupOf2 h TO a1 a2) ∨ (0 < i ∧ ∃ f, IsZipHeld h z TI TO (N + 1) f)
section
variable {prog : Program} {w : World} {A : Around} {R : Result → Shared → Prop} {k1 k2 : Bool} {a b z TI TO i1 i2 N : Nat} {xs ys : Array Value}
theorem lz_loop (hh : A.handled = none) (ZS : ZipSep2 z TI TO i1 i2 [i1, a] [i2, b]) (h1 : a ≠ i1) (h2 : b ≠ i2) (lz : z < N) (lI : TI < N) (lO : TO < N) (l1 : i1 < N) (l2 : i2 < N) (la : a < N) (lb : b < N) (hn : min xs.size ys.size ≤ sizeLine) :
    ∀ (k i : Nat) (s : Shared) (acc : Array Value) (c : Nat), min xs.size ys.size - i = k → i ≤ min xs.size ys.size → ZSt z TI TO N i s.heap → IsTupOf2 s.heap TI (.ref i1) (.ref i2) → ItAt k1 s.heap i1 a i → IsS k1 s.heap a xs → ItAt k2 s.heap i2 b i → IsS k2 s.heap b ys →
      s.heap.get? N = some { cls := .type "list", dict := none, data := .seq acc c, slots := #[] } → LZ xs ys N i acc s.heap → s.heap.objs.size = N + 1 + i →
      (∀ h' tk acc' c', (∀ (b : Nat) o, b < N → b ≠ z → b ≠ TO → b ≠ i1 → b ≠ i2 → s.heap.get? b = some o → h'.get? b = some o) → h'.get? N = some { cls := .type "list", dict := none, data := .seq acc' c', slots := #[] } →
        LZ xs ys N (min xs.size ys.size) acc' h' → R (.ok (.ret .none)) { s with heap := h', toks := tk }) →
      codeAny (model prog w) A (.builtin "list.extend.loop" ⟨[.ref N, .ref z, .none], []⟩) R s := by
  have D1 := drawsK (prog := prog) (w := w) (A := A.in1.in1) k1 (by exact hh) i1 a h1 xs
  have D2 := drawsK (prog := prog) (w := w) (A := A.in1.in1) k2 (by exact hh) i2 b h2 ys
  intro k
  induction k with
  | zero =>
    intro i s acc c hk hi hz hTI g1 s1 g2 s2 hS hL hsz hR
    have hend : i = xs.size ∨ i = ys.size := by omega
    refine codeAny_builtin F.entry_extend_loop ?_
    rw [Around.under_plainId F.plain_extend_loop _]
    show wpAny _ A.in1 (pyNext (.ref z) >>= _) _ _ s
    have ei : i = min xs.size ys.size := by omega
    rcases hz with ⟨h0, hz, a1, a2, hTO⟩ | ⟨h0, f, hz⟩
    · refine wpAny_bind (wpAny_pyNext_zipD2_end ZS D1 D2 hz hTI hTO ⟨g1, s1⟩ ⟨g2, s2⟩ (by omega) (by omega) hend fun h' tk hkk0 => ?_)
      have hkk : ∀ (c : Nat) (o : Obj), c ≠ z → c ≠ TO → c ≠ i1 → c ≠ i2 → s.heap.get? c = some o → h'.get? c = some o := hkk0
      refine wpAny_pure (hR h' tk acc c (fun b o _ n1 n2 n3 n4 e => hkk b o n1 n2 n3 n4 e) (hkk N _ (by omega) (by omega) (by omega) (by omega) hS) ?_)
      rw [← ei]
      refine ⟨hL.acc, fun j hj => absurd hj (by omega)⟩
    · obtain ⟨x0, y0, _, _, hT⟩ := hL.tup 0 h0
      refine wpAny_bind (zh_next_end ZS D1 D2 hz hT hTI ⟨g1, s1⟩ ⟨g2, s2⟩ (by omega) (by omega) hend fun h' tk hkk0 => ?_)
      have hkk : ∀ (c : Nat) (o : Obj), c ≠ z → c ≠ i1 → c ≠ i2 → s.heap.get? c = some o → h'.get? c = some o := hkk0
      refine wpAny_pure (hR h' tk acc c (fun b o _ n1 n2 n3 n4 e => hkk b o n1 n3 n4 e) (hkk N _ (by omega) (by omega) (by omega) hS) ?_)
      rw [← ei]
      refine ⟨hL.acc, fun j hj => ?_⟩
      obtain ⟨x, y, e1, e2, e3⟩ := hL.tup j hj
      exact ⟨x, y, e1, e2, hkk _ _ (by omega) (by omega) (by omega) e3⟩
  | succ k ih =>
    intro i s acc c hk hi hz hTI g1 s1 g2 s2 hS hL hsz hR
    have lt1 : i < xs.size := by omega
    have lt2 : i < ys.size := by omega
    refine codeAny_builtin F.entry_extend_loop ?_
    rw [Around.under_plainId F.plain_extend_loop _]
    show wpAny _ A.in1 (pyNext (.ref z) >>= _) _ _ s
    have key : ∀ x1 x2 h' tk, xs[i]? = some x1 → ys[i]? = some x2 → (∃ f, IsZipHeld h' z TI TO (N + 1) f) → ItAt k1 h' i1 a (i + 1) → IsS k1 h' a xs → ItAt k2 h' i2 b (i + 1) → IsS k2 h' b ys → IsTupOf2 h' s.heap.objs.size x1 x2 → h'.objs.size = s.heap.objs.size + 1 →
        (∀ (c : Nat) o, c ≠ z → c ≠ TO → c ≠ i1 → c ≠ i2 → s.heap.get? c = some o → h'.get? c = some o) →
        wpAny (model prog w) A.in1 (updateSeq N (·.push (.ref s.heap.objs.size)) >>= fun _ => again (.builtin "list.extend.loop" ⟨[.ref N, .ref z, .none], []⟩))
          (fun fin s' => match fin with | .done f => R (.ok f) s' | .again c' => c'.quiet = true ∧ codeAny (model prog w) A c' R s') (fun e s' => R (.error e) s') { s with heap := h', toks := tk } := by
      intro x1 x2 h' tk e1 e2 ⟨f, hz'⟩ g1' s1' g2' s2' hT' hsz' hkk
      have hS' := hkk N _ (by omega) (by omega) (by omega) (by omega) hS
      have accsz : acc.size = i := by rw [hL.acc]; simp
      refine wpAny_bind ?_
      refine wpAny_updateSeq (s := { s with heap := h', toks := tk }) hS' rfl (wpAny_pure ⟨plainId_quiet F.plain_extend_loop _, ?_⟩) (by rw [accsz]; omega) (by show (acc.push _).size ≤ sizeLine + 1; rw [Array.size_push, accsz]; omega)
      have sb := Heap.SameBut.update h' N (Obj.mapSeq (·.push (Value.ref s.heap.objs.size)))
      have oth : ∀ (b : Nat) o, b ≠ N → h'.get? b = some o → (h'.update N (Obj.mapSeq (·.push (Value.ref s.heap.objs.size)))).get? b = some o := fun b o hb e => (Heap.get?_update_other _ _ (Ne.symm hb)).trans e
      refine ih (i + 1) { s with heap := h'.update N (Obj.mapSeq (·.push (Value.ref s.heap.objs.size))), toks := tk } (acc.push (.ref s.heap.objs.size)) _ (by omega) (by omega) (.inr ⟨by omega, f, oth z _ (by omega) hz'⟩) (oth TI _ (by omega) (hkk TI _ ZS.TIz ZS.TITO ZS.TIi1 ZS.TIi2 hTI))
        (g1'.keep fun o e => oth i1 o (by omega) e) ?_ (g2'.keep fun o e => oth i2 o (by omega) e) ?_ (Heap.get?_update_self _ hS' rfl) ?_ (by show (h'.update N _).objs.size = _; rw [sb.1, hsz', hsz]; omega) fun h2 tk2 acc' c' hk2 hS2 hL2 => ?_
      · exact (D1.frame (i + 1) _ _ ⟨g1', s1'⟩ fun b hb o e => oth b o (by
          rcases (show b = i1 ∨ b = a by simpa using hb) with z | z <;> rw [z] <;> omega) e).2
      · exact (D2.frame (i + 1) _ _ ⟨g2', s2'⟩ fun c hb o e => oth c o (by
          rcases (show c = i2 ∨ c = b by simpa using hb) with z | z <;> rw [z] <;> omega) e).2
      · refine ⟨?_, fun j hj => ?_⟩
        · rw [hL.acc, List.range_succ, List.map_append, hsz]
          simp
        · by_cases hj2 : j < i
          · obtain ⟨x, y, q1, q2, q3⟩ := hL.tup j hj2
            exact ⟨x, y, q1, q2, oth _ _ (by omega) (hkk _ _ (by omega) (by omega) (by omega) (by omega) q3)⟩
          · have ej : j = i := by omega
            subst ej
            refine ⟨x1, x2, e1, e2, oth _ _ (by omega) ?_⟩
            rw [← hsz]
            exact hT'
      · exact hR h2 tk2 acc' c' (fun b o hb n1 n2 n3 n4 e => hk2 b o hb n1 n2 n3 n4 (oth b o (by omega) (hkk b o n1 n2 n3 n4 e))) hS2 hL2
    rcases hz with ⟨h0, hz, a1, a2, hTO⟩ | ⟨h0, f, hz⟩
    · subst h0
      refine wpAny_bind (wpAny_pyNext_zipD2_item ZS D1 D2 hz hTI hTO ⟨g1, s1⟩ ⟨g2, s2⟩ lt1 lt2 fun x1 x2 h' tk p1 p2 b1 b2 d1 d2 b5 b6 b7 => ?_)
      refine key x1 x2 h' tk p1 p2 ⟨false, ?_⟩ d1.1 d1.2 d2.1 d2.2 b5 b6 b7
      rw [hsz] at b1
      exact b1
    · obtain ⟨x0, y0, _, _, hT⟩ := hL.tup 0 h0
      refine wpAny_bind (zh_next_item ZS D1 D2 hz hT hTI ⟨g1, s1⟩ ⟨g2, s2⟩ lt1 lt2 fun x1 x2 h' tk p1 p2 b1 d1 d2 b5 b6 b7 => ?_)
      exact key x1 x2 h' tk p1 p2 ⟨true, b1⟩ d1.1 d1.2 d2.1 d2.2 b5 b6 fun c o n1 _ n3 n4 e => b7 c o n1 n3 n4 e
end

theorem zip_no_len : typeLookup (.type "zip") "__len__" = pure none := am_miss_of_fast (by decide +kernel)
theorem zip_no_hint : typeLookup (.type "zip") "__length_hint__" = pure none := am_miss_of_fast (by decide +kernel)
section
variable {prog : Program} {w : World} {A : Around} {R : Result → Shared → Prop} {k1 k2 : Bool} {a b z TI TO i1 i2 N : Nat} {xs ys : Array Value} {s : Shared}
/-- what is wanted behind the loop -/
abbrev LzEnd (xs ys : Array Value) (z TO i1 i2 N : Nat) (h : Heap) (P : Heap → Nat → Array Value → Nat → Prop) : Prop :=
  ∀ (h' : Heap) (tk : Nat) (acc' : Array Value) (c' : Nat), (∀ (b : Nat) o, b < N → b ≠ z → b ≠ TO → b ≠ i1 → b ≠ i2 → h.get? b = some o → h'.get? b = some o) → h'.get? N = some { cls := .type "list", dict := none, data := .seq acc' c', slots := #[] } →
    LZ xs ys N (min xs.size ys.size) acc' h' → P h' tk acc' c'
theorem lz_extend (hh : A.handled = none) (ZS : ZipSep2 z TI TO i1 i2 [i1, a] [i2, b]) (h1 : a ≠ i1) (h2 : b ≠ i2) (lz : z < N) (lI : TI < N) (lO : TO < N) (l1 : i1 < N) (l2 : i2 < N) (la : a < N) (lb : b < N) (hn : min xs.size ys.size ≤ sizeLine)
    (hz : IsZip s.heap z TI TO .none) (hTO : ∃ a1 a2, IsTupOf2 s.heap TO a1 a2) (hTI : IsTupOf2 s.heap TI (.ref i1) (.ref i2)) (g1 : ItAt k1 s.heap i1 a 0) (s1 : IsS k1 s.heap a xs) (g2 : ItAt k2 s.heap i2 b 0) (s2 : IsS k2 s.heap b ys)
    (hS : s.heap.get? N = some { cls := .type "list", data := .seq #[] }) (hsz : s.heap.objs.size = N + 1)
    (hR : LzEnd xs ys z TO i1 i2 N s.heap fun h' tk _ _ => R (.ok (.ret .none)) { s with heap := h', toks := tk }) :
    wpAny (model prog w) A.in1 (Builtin.List.listExtendWith (.ref N) (.ref z) .none)
      (fun fin s' => match fin with | .done f => R (.ok f) s' | .again c' => c'.quiet = true ∧ codeAny (model prog w) A c' R s') (fun e s' => R (.error e) s') s := by
  have hTy : s.TypeIs (.ref z) "zip" := ⟨_, hz, rfl⟩
  have hNz : N ≠ z := Nat.ne_of_gt lz
  unfold Builtin.List.listExtendWith
  refine wpAny_bind (wpAny_typeOf hTy ?_)
  have q1 : Builtin.List.listSameRef (.ref N) (.ref z) = false := by simp [Builtin.List.listSameRef, hNz]
  have q2 : (Value.type "zip" == Value.type "list") = false := by decide
  have q3 : (Value.type "zip" == Value.type "tuple") = false := by decide
  simp only [q1, q2, q3, Bool.or_false, Bool.false_eq_true, if_false]
  refine wpAny_bind (wpAny_pyIter_zip hz ?_)
  refine wpAny_bind (wpAny_holding ?_)
  unfold Builtin.List.listLengthHint
  refine wpAny_bind (wpAny_specialOf hTy zip_no_len ?_)
  show wpAny _ A.in1 (specialOf (Value.ref z) (Str.ofString "__length_hint__") >>= _) _ _ _
  refine wpAny_bind (wpAny_specialOf hTy zip_no_hint ?_)
  refine wpAny_pure ?_
  have end1 : ∀ h2 : Heap, (∀ (c : Nat) (o : Obj), c ≠ N → s.heap.get? c = some o → h2.get? c = some o) → h2.objs.size = N + 1 → (∃ c, h2.get? N = some { cls := .type "list", dict := none, data := .seq #[] c, slots := #[] }) →
      codeAny (model prog w) A (.builtin "list.extend.loop" ⟨[.ref N, .ref z, .none], []⟩) R { s with heap := h2 } := by
    intro h2' oth hsz2 ⟨c, hN⟩
    have o2 : ∀ {cx : Nat} {o : Obj}, cx < N → s.heap.get? cx = some o → h2'.get? cx = some o := fun {cx o} l e => oth cx o (by omega) e
    refine lz_loop hh ZS h1 h2 lz lI lO l1 l2 la lb hn (min xs.size ys.size - 0) 0 _ #[] c rfl (Nat.zero_le _) (.inl ⟨rfl, o2 lz hz, ?_⟩) (o2 lI hTI) (g1.keep fun o e => o2 l1 e) ?_ (g2.keep fun o e => o2 l2 e) ?_ hN ⟨rfl, fun j hj => absurd hj (by omega)⟩ hsz2 fun h' tk acc' c' k e L => ?_
    · obtain ⟨x, y, e⟩ := hTO
      exact ⟨x, y, o2 lO e⟩
    · exact ((drawsK (prog := prog) (w := w) (A := A) k1 hh i1 a h1 xs).frame 0 _ _ ⟨g1, s1⟩ fun c hb o e => o2 (by
        rcases (show c = i1 ∨ c = a by simpa using hb) with z | z <;> rw [z] <;> assumption) e).2
    · exact ((drawsK (prog := prog) (w := w) (A := A) k2 hh i2 b h2 ys).frame 0 _ _ ⟨g2, s2⟩ fun c hb o e => o2 (by
        rcases (show c = i2 ∨ c = b by simpa using hb) with z | z <;> rw [z] <;> assumption) e).2
    · exact hR h' tk acc' c' (fun b o l n1 n2 n3 n4 e => k b o l n1 n2 n3 n4 (o2 l e)) e L
  show wpAny _ A.in1 (rule "list.extend.makes-room" >>= fun _ => Builtin.List.listTouch (.ref N) >>= fun _ =>
    again (.builtin "list.extend.loop" ⟨[.ref N, .ref z, .none], []⟩)) _ _ _
  refine wpAny_bind (wpAny_rule ?_)
  refine wpAny_bind ?_
  show wpAny _ A.in1 (updateSeq N (·.push .none) >>= fun _ => updateSeq N (·.pop)) _ _ _
  refine wpAny_bind (wpAny_updateSeq hS rfl ?_)
  have hS₂ := Heap.get?_update_self (Obj.mapSeq (·.push Value.none)) hS rfl
  refine wpAny_updateSeq (hz := by seq_fits) hS₂ rfl ?_
  have hS₃ := Heap.get?_update_self (Obj.mapSeq (·.pop)) hS₂ rfl
  have sb1 := Heap.SameBut.update s.heap N (Obj.mapSeq (·.push Value.none))
  have sb2 := Heap.SameBut.update (s.heap.update N (Obj.mapSeq (·.push Value.none))) N (Obj.mapSeq (·.pop))
  exact wpAny_pure ⟨plainId_quiet F.plain_extend_loop _, end1 _ (fun c o hc e => (Heap.get?_update_other _ _ (Ne.symm hc)).trans ((Heap.get?_update_other _ _ (Ne.symm hc)).trans e)) (by rw [sb2.1, sb1.1]; exact hsz) ⟨_, hS₃⟩⟩
theorem lz_init (hh : A.handled = none) (ZS : ZipSep2 z TI TO i1 i2 [i1, a] [i2, b]) (h1 : a ≠ i1) (h2 : b ≠ i2) (lz : z < N) (lI : TI < N) (lO : TO < N) (l1 : i1 < N) (l2 : i2 < N) (la : a < N) (lb : b < N) (hn : min xs.size ys.size ≤ sizeLine)
    (hz : IsZip s.heap z TI TO .none) (hTO : ∃ a1 a2, IsTupOf2 s.heap TO a1 a2) (hTI : IsTupOf2 s.heap TI (.ref i1) (.ref i2)) (g1 : ItAt k1 s.heap i1 a 0) (s1 : IsS k1 s.heap a xs) (g2 : ItAt k2 s.heap i2 b 0) (s2 : IsS k2 s.heap b ys)
    (hS : s.heap.get? N = some { cls := .type "list", data := .seq #[] }) (hsz : s.heap.objs.size = N + 1)
    (hR : LzEnd xs ys z TO i1 i2 N s.heap fun h' tk _ _ => R (.ok (.ret .none)) { s with heap := h', toks := tk }) :
    wpAny (model prog w) A.in1 (Builtin.«list.__init__» ⟨[.ref N, .ref z], []⟩)
      (fun fin s' => match fin with | .done f => R (.ok f) s' | .again c' => c'.quiet = true ∧ codeAny (model prog w) A c' R s') (fun e s' => R (.error e) s') s := by
  show wpAny _ A.in1 (do let old ← Builtin.List.listItems (.ref N); Builtin.List.listUpdate (.ref N) (fun _ => #[]); letGo old.toList.reverse; Builtin.List.listExtendWith (.ref N) (.ref z) .none) _ _ s
  refine wpAny_bind ?_
  unfold Builtin.List.listItems
  refine wpAny_bind (wpAny_seqItems hS rfl (wpAny_pure ?_))
  show wpAny _ A.in1 (updateSeq N (fun _ => #[]) >>= fun _ => letGo (#[] : Array Value).toList.reverse >>= fun _ => Builtin.List.listExtendWith (.ref N) (.ref z) .none) _ _ s
  refine wpAny_bind (wpAny_updateSeq hS rfl ?_)
  have hS₂ := Heap.get?_update_self (Obj.mapSeq (fun _ => (#[] : Array Value))) hS rfl
  have o2 : ∀ {c : Nat} {o : Obj}, c < N → s.heap.get? c = some o → (s.heap.update N (Obj.mapSeq (fun _ => (#[] : Array Value)))).get? c = some o :=
    fun {c o} hb e => (Heap.get?_update_other _ _ (Nat.ne_of_gt hb)).trans e
  have sb := Heap.SameBut.update s.heap N (Obj.mapSeq (fun _ => (#[] : Array Value)))
  refine wpAny_bind (wpAny_letGo ?_)
  refine lz_extend (s := { s with heap := s.heap.update N (Obj.mapSeq (fun _ => (#[] : Array Value))) }) hh ZS h1 h2 lz lI lO l1 l2 la lb hn (o2 lz hz) ?_ (o2 lI hTI) (g1.keep fun o e => o2 l1 e) ?_ (g2.keep fun o e => o2 l2 e) ?_ hS₂ (by show (s.heap.update N _).objs.size = _; rw [sb.1]; exact hsz) fun h' tk acc' c' k e L => hR h' tk acc' c' (fun b o l n1 n2 n3 n4 e => k b o l n1 n2 n3 n4 (o2 l e)) e L
  · obtain ⟨x, y, e⟩ := hTO
    exact ⟨x, y, o2 lO e⟩
  · exact ((drawsK (prog := prog) (w := w) (A := A) k1 hh i1 a h1 xs).frame 0 _ _ ⟨g1, s1⟩ fun c hb o e => o2 (by
      rcases (show c = i1 ∨ c = a by simpa using hb) with z | z <;> rw [z] <;> assumption) e).2
  · exact ((drawsK (prog := prog) (w := w) (A := A) k2 hh i2 b h2 ys).frame 0 _ _ ⟨g2, s2⟩ fun c hb o e => o2 (by
      rcases (show c = i2 ∨ c = b by simpa using hb) with z | z <;> rw [z] <;> assumption) e).2
end
section
variable {prog : Program} {w : World} {A : Around} {E : Value → Shared → Prop} {k1 k2 : Bool} {a b z TI TO i1 i2 : Nat} {xs ys : Array Value} {s : Shared}
theorem call_list_zip {Q : Value → Shared → Prop} (hh : A.handled = none) (ZS : ZipSep2 z TI TO i1 i2 [i1, a] [i2, b]) (h1 : a ≠ i1) (h2 : b ≠ i2) (hn : min xs.size ys.size ≤ sizeLine)
    (hz : IsZip s.heap z TI TO .none) (hTO : ∃ a1 a2, IsTupOf2 s.heap TO a1 a2) (hTI : IsTupOf2 s.heap TI (.ref i1) (.ref i2)) (g1 : ItAt k1 s.heap i1 a 0) (s1 : IsS k1 s.heap a xs) (g2 : ItAt k2 s.heap i2 b 0) (s2 : IsS k2 s.heap b ys)
    (hQ : LzEnd xs ys z TO i1 i2 s.heap.objs.size s.heap fun h' tk _ _ => Q (.ref s.heap.objs.size) { s with heap := h', toks := tk }) :
    wpAny (model prog w) A (call (.type "list") [.ref z]) Q E s := by
  obtain ⟨x0, y0, eTO⟩ := id hTO
  have lz : z < s.heap.objs.size := Heap.lt_size hz
  have lI : TI < s.heap.objs.size := Heap.lt_size hTI
  have lO : TO < s.heap.objs.size := Heap.lt_size eTO
  have l1 : i1 < s.heap.objs.size := by obtain ⟨o, e, _⟩ := g1.live; exact Heap.lt_size e
  have l2 : i2 < s.heap.objs.size := by obtain ⟨o, e, _⟩ := g2.live; exact Heap.lt_size e
  refine callType_codes (Q₁ := fun obj s₁ => obj = .ref s.heap.objs.size ∧ s₁ = { s with heap := s.heap.push { cls := .type "list", data := .seq #[] } }) F.called_list (F.typeCall_list_1 _) F.entry_list_init
    (code_list_new _ ⟨rfl, rfl⟩) fun obj s₁ h₁ => ?_
  obtain ⟨rfl, rfl⟩ := h₁
  have hS : (s.heap.push { cls := .type "list", data := .seq #[] }).get? s.heap.objs.size = some { cls := .type "list", data := .seq #[] } := Heap.get?_push_size _ rfl
  have o2 : ∀ {c : Nat} {o : Obj}, s.heap.get? c = some o → (s.heap.push { cls := .type "list", data := .seq #[] }).get? c = some o := fun e => Heap.get?_push_of_some _ e
  refine ⟨⟨_, hS, rfl⟩, F.args_list_init_2 _ _, lz_init (A := A.in1) hh ZS h1 h2 lz lI lO l1 l2 s1.lt s2.lt hn (o2 hz) ⟨x0, y0, o2 eTO⟩ (o2 hTI) (g1.keep fun o e => o2 e) ?_ (g2.keep fun o e => o2 e) ?_ hS (Heap.size_push ..) fun h' tk acc' c' k e L => ⟨rfl, hQ h' tk acc' c' (fun b o l n1 n2 n3 n4 e => k b o l n1 n2 n3 n4 (o2 e)) e L⟩⟩
  · exact ((drawsK (prog := prog) (w := w) (A := A) k1 hh i1 a h1 xs).frame 0 _ _ ⟨g1, s1⟩ fun c hb o e => o2 e).2
  · exact ((drawsK (prog := prog) (w := w) (A := A) k2 hh i2 b h2 ys).frame 0 _ _ ⟨g2, s2⟩ fun c hb o e => o2 e).2
end
end DL

namespace DL
open PySem PySem.Spec PyProof.Rows L2
variable [TabC]
section
variable {X : Cx} {pins : List (Addr × Obj)} {σ : L2.St} {H H' : Hp} {s : Shared} {h' : Heap}
/-- records of ours have turned, and new objects are laid -/
theorem inv_news {t' : Nat} {ch : List Addr} (I : Inv X pins σ H s) (k : ∀ b o, b ∉ ch → s.heap.get? b = some o → h'.get? b = some o) (hf : ∀ b ∈ ch, FpOk X pins H b)
    (old : ∀ c : Nat, c < s.heap.objs.size → H' c = H c) (new : ∀ (c : Nat) u, s.heap.objs.size ≤ c → H' c = some u → ObjOk X.prog X.w H' h' c u) : Inv X pins σ H' { s with heap := h', toks := t' } := by
  have nit : ∀ b u, H b = some u → b ∉ ch := fun b u e z => by
    have q := (hf b z).1
    rw [q] at e; cases e
  have ol : ∀ b u, H b = some u → H' b = some u := fun b u e => (old b (I.hok b u e).lt).trans e
  refine I.step (g' := s.gens) (d' := s.drawn) (ch := ch) (fun b hb => ⟨(hf b hb).2.2.2.1, (hf b hb).2.1, (hf b hb).2.2.2.2.1, (hf b hb).2.2.2.2.2⟩) (fun b o _ _ hc e _ => k b o hc e) (fun b o _ _ hc e _ => ⟨o.slots, k b o hc e⟩)
    (fun b o _ e n => (old b (Heap.lt_size e)).trans n) (fun b o hc e => ⟨o, k b o hc e⟩) (fun b xs e => ol b _ e) (fun b o u e => ol b _ e) (fun b ps e => ⟨#[], by rw [ol b _ e]; simp⟩) (fun m hm => ?_) (fun b u e => ?_) I.bare
  · obtain ⟨o, es, ep, ho, r⟩ := hm
    exact ⟨o, es, ep, k _ o (fun z => (hf _ z).2.1 rfl) ho, r⟩
  · by_cases hb : (b : Nat) < s.heap.objs.size
    · rw [old b hb] at e
      refine (I.hok b u e).stay (fun c v hc q => k c v ?_ q) (fun c q => ol c _ q) fun c xs q => ol c _ q
      rcases hc with z | z
      · rw [z]; exact nit b u e
      · exact nit c _ z
    · exact new b u (Nat.le_of_not_lt hb) e
end
/-- the list of the pairs at N, its tuples behind it -/
def zlH (H : Hp) (us vs : List V) (N : Nat) : Hp := fun (c : Nat) =>
  if c = N then some (.lst ((List.range (min us.length vs.length)).map fun j => V.ref (N + 1 + j)))
  else if N < c ∧ c ≤ N + min us.length vs.length then (match us[c - N - 1]?, vs[c - N - 1]? with
    | some x, some y => some (.tup [x, y])
    | _, _ => none)
  else H c
theorem zlH_at {H : Hp} {us vs : List V} {N : Nat} : zlH H us vs N N = some (.lst ((List.range (min us.length vs.length)).map fun j => V.ref (N + 1 + j))) := if_pos rfl
theorem zlH_tup {H : Hp} {us vs : List V} {N j : Nat} {x y : V} (hx : us[j]? = some x) (hy : vs[j]? = some y) : zlH H us vs N (N + 1 + j) = some (.tup [x, y]) := by
  have h1 := (List.getElem?_eq_some_iff.mp hx).1
  have h2 := (List.getElem?_eq_some_iff.mp hy).1
  unfold zlH
  rw [if_neg (by omega), if_pos (by omega), show N + 1 + j - N - 1 = j by omega, hx, hy]
theorem zlH_lo {H : Hp} {us vs : List V} {N c : Nat} (h : c < N) : zlH H us vs N c = H c := by
  unfold zlH
  rw [if_neg (by omega), if_neg (by omega)]
def rListZip (K : PySem.W.Frag) (n : Nat) : List V → Hp → VK → Prop := fun xs H Q => ∃ (a b : Nat) (k1 k2 : Bool) (m : Nat) (H0 : Hp) (us vs : List V), xs = [.ref (m + 4)] ∧ H = zH H0 k1 k2 a b m ∧ (∀ c : Nat, m ≤ c ∧ c < m + 5 → H0 c = none) ∧ n ≤ m ∧ a < m ∧ b < m ∧
  SqV K k1 H0 a us ∧ SqV K k2 H0 b vs ∧ min us.length vs.length ≤ sizeLine ∧ ∀ N : Nat, (∀ c : Nat, N ≤ c → H0 c = none) → Q (.ref N) (zlH H0 us vs N)
theorem vals_refs (f : Nat → Nat) : ∀ l : List Nat, Vals (l.map fun j => V.ref (f j)) (l.map fun j => Value.ref (f j))
  | [] => .nil
  | j :: l => .cons rfl (vals_refs f l)
theorem call_listZip {X : Cx} (hc : X.calm = true) : CallR X (.type "list") (rListZip X.K X.s_0.heap.objs.size) := by
  intro pins s σ H xs us Q I r h
  obtain ⟨a, b, k1, k2, m, H0, xu, xv, rfl, rfl, hn, hm, ham, hbm, hS1, hS2, hmin, q⟩ := h
  obtain ⟨u, rfl, ru⟩ := vals1 r
  cases ru
  obtain ⟨z0, z1, z2, z3, z4⟩ := zH_at (H := H0) (k1 := k1) (k2 := k2) (a := a) (b := b) (m := m)
  have g0 := (I.hok _ _ z0).1
  have g1 := (I.hok _ _ z1).1
  have g2 := (I.hok _ _ z2).1
  have g3 := (I.hok _ _ z3).1
  have g4 := (I.hok _ _ z4).1
  have I2 := inv_zdrop I fun c hc => zH_in hc
  rw [zD_zH hn] at I2
  have fp : ∀ c : Nat, m ≤ c ∧ c < m + 5 → FpOk X pins H0 c := fun c hc => by
    obtain ⟨φ, hφ⟩ := zH_in (H := H0) (k1 := k1) (k2 := k2) (a := a) (b := b) hc
    have := inv_zfp I hc hφ hm
    rw [zD_zH hn] at this
    exact this
  obtain ⟨its, rv, hs1⟩ := src I2 hS1
  obtain ⟨its2, rv2, hs2⟩ := src I2 hS2
  have e1 : its.toArray.size = xu.length := by rw [List.size_toArray]; exact rv.length.symm
  have e2 : its2.toArray.size = xv.length := by rw [List.size_toArray]; exact rv2.length.symm
  refine call_list_zip (k1 := k1) (k2 := k2) (I.ok.hd hc) (zip_sep2 (fp1 := [a]) (fp2 := [b]) (fun c hcm => by rw [List.mem_singleton.mp hcm]; exact ham) (fun c hcm => by rw [List.mem_singleton.mp hcm]; exact hbm)) (Nat.ne_of_lt ham) (Nat.ne_of_lt (Nat.lt_succ_of_lt hbm))
    (by rw [e1, e2]; exact hmin) g4 g3 g2 g0 hs1 g1 hs2 fun h' tk acc' c' kk eN L => ?_
  rw [e1, e2] at L
  refine ⟨.ref s.heap.objs.size, zlH H0 xu xv s.heap.objs.size, inv_news (t' := tk) (ch := [m + 4, m + 3, m, m + 1]) I2 (fun c o hc e => ?_) (fun c hc => fp c (in_five (by
    rcases (show (c : Nat) = m + 4 ∨ (c : Nat) = m + 3 ∨ (c : Nat) = m ∨ (c : Nat) = m + 1 by simpa using hc) with z | z | z | z <;> simp [z]))) (fun c hc => zlH_lo hc) (fun c u hc e => ?_), rfl, q _ fun c hc => I2.hok.fresh hc⟩
  · exact kk c o (Heap.lt_size e) (fun z => hc (by simp [z])) (fun z => hc (by simp [z])) (fun z => hc (by simp [z])) (fun z => hc (by simp [z])) e
  · by_cases h1 : c = s.heap.objs.size
    · subst h1
      rw [zlH_at] at e
      cases e
      refine ⟨by simpa using hmin, _, c', vals_refs (fun j => s.heap.objs.size + 1 + j) _, ?_⟩
      rw [eN, L.acc]
    · by_cases h2 : c ≤ s.heap.objs.size + min xu.length xv.length
      · obtain ⟨j, rfl⟩ : ∃ j, c = s.heap.objs.size + 1 + j := ⟨c - s.heap.objs.size - 1, by omega⟩
        have lx : j < xu.length := by omega
        have ly : j < xv.length := by omega
        rw [zlH_tup (List.getElem?_eq_getElem lx) (List.getElem?_eq_getElem ly)] at e
        cases e
        obtain ⟨x', y', q1, q2, q3⟩ := L.tup j (by omega)
        obtain ⟨v1, w1, r1⟩ := rv.get (List.getElem?_eq_getElem lx)
        obtain ⟨v2, w2, r2⟩ := rv2.get (List.getElem?_eq_getElem ly)
        rw [List.getElem?_toArray, w1] at q1
        rw [List.getElem?_toArray, w2] at q2
        have q1' := Option.some.inj q1
        have q2' := Option.some.inj q2
        subst q1' q2'
        exact ⟨by show 2 ≤ sizeLine; decide, [v1, v2], .cons r1 (.cons r2 .nil), ⟨_, q3, rfl, _, rfl⟩⟩
      · exfalso
        unfold zlH at e
        rw [if_neg h1, if_neg (by omega)] at e
        rw [I2.hok.fresh hc] at e
        cases e
theorem Reps.of_get {K : PySem.W.Frag} {xl al : List Addr} {H : Hp} : ∀ {ds : List D} {vs : List V}, ds.length = vs.length → (∀ (i : Nat) (d : D), ds[i]? = some d → ∃ v, vs[i]? = some v ∧ Rep K xl al H d v) → Reps K xl al H ds vs
  | [], [], _, _ => .nil
  | d :: ds, v :: vs, hl, h => by
    obtain ⟨u, e, r⟩ := h 0 d rfl
    simp at e; subst e
    exact .cons r (Reps.of_get (by simpa using hl) fun i d hd => by
      obtain ⟨u, e, r⟩ := h (i + 1) d (by simpa using hd)
      exact ⟨u, by simpa using e, r⟩)
def listZipO (xs : List D) (S : DS) : Ou D := match xs with
  | [d, e] => match asSeq d, asSeq e with
    | some ys, some zs => if min ys.length zs.length ≤ 9000 then .ok (.vl (zipD ys zs)) S else .no
    | _, _ => .no
  | _ => .no
theorem e_listZip {X : Cx} {cm : CM} {W : WX} {p p2 pos pos2 : Pos} {e e2 : Expr} {mm : MA} (hc : X.calm = true) (hl : Gl X "list") (hlm : X.mg "list" = none) (hg : Gl X "zip") (hm : X.mg "zip" = none) (ha : AOk X cm W [e, e2] mm)
    (hs : starEach [e, e2] X.env = (false, eval e X.env) :: starEach [e2] X.env := by rfl) (hpl : (backTo pos2 (starEach [e2] X.env)).any (·.1) = false := by rfl) :
    EOk X cm W (.Call (.Name "list" p) [.Call (.Name "zip" p2) [e, e2] [] pos2] [] pos) (mL listZipO mm) := by
  obtain ⟨t, pt, d⟩ := ha
  refine ⟨_, pe_callTy (call_listZip hc) hl hlm (by decide +kernel) (pa_cons (pe_zipV hg hm pt hs hpl) pa_nil), fun xl al σ H S env Q w r q => ?_⟩
  refine d xl al σ H S env _ w r (q.bind.imp fun xs S1 al1 H1 e1 w1 p1 vs rvs => ?_)
  unfold listZipO at p1
  split at p1
  · rename_i d1 d2
    split at p1
    · rename_i ys zs h1 h2
      split at p1
      · rename_i hmin
        obtain ⟨u1, u2, rfl, ru1, ru2⟩ := reps2 rvs
        obtain ⟨a, k1, us1, rfl, hS1, r1, l1⟩ := seq_later h1 ru1
        obtain ⟨b, k2, us2, rfl, hS2, r2, l2⟩ := seq_later h2 ru2
        refine ⟨a, b, k1, k2, rfl, ⟨us1, hS1⟩, ⟨us2, hS2⟩, fun m hn hm ham hbm => ?_⟩
        refine ⟨a, b, k1, k2, m, H1, us1, us2, rfl, rfl, hn, hm, ham, hbm, hS1, hS2, by rw [← r1.length, ← r2.length]; exact Nat.le_trans hmin (by decide), fun N hN => ?_⟩
        have lo : ∀ (c : Nat) u, H1 c = some u → c < N := fun c u e => Nat.lt_of_not_le fun z => by rw [hN c z] at e; cases e
        have keep : ∀ (c : Nat) u, H1 c = some u → zlH H1 us1 us2 N c = some u := fun c u e => (zlH_lo (lo c u e)).trans e
        have ex : Ext al1 H1 al1 (zlH H1 us1 us2 N) := ⟨⟨[], by simp⟩, fun c o _ _ e => keep c o e, fun c ws e => by
          rcases e with e | ⟨o, e⟩
          · exact .inl (keep c _ e)
          · exact .inr ⟨o, keep c _ e⟩, fun c o h n _ => absurd h n⟩
        have w2 : Wd X.K xl S1 al1 (zlH H1 us1 us2 N) := w1.keep ex (fun c hc => by
          obtain ⟨_, _, _, e⟩ := w1.at hc
          rw [keep c _ e, e]) (w1.tb.ext keep)
        have nN := w1.new (hN N (Nat.le_refl _))
        refine p1 al1 _ ex w2 _ (.vl zlH_at nN.1 nN.2 (Reps.of_get ?_ fun i d hd => ?_))
        · rw [zipD_len, List.length_map, List.length_range, r1.length, r2.length]
        · obtain ⟨x, y, hx, hy, rfl⟩ := zipD_get ys zs i d hd
          obtain ⟨v1, e1, s1⟩ := r1.get hx
          obtain ⟨v2, e2, s2⟩ := r2.get hy
          have l1 := (List.getElem?_eq_some_iff.mp e1).1
          have l2 := (List.getElem?_eq_some_iff.mp e2).1
          refine ⟨.ref (N + 1 + i), by rw [List.getElem?_map, List.getElem?_range (by omega)]; rfl, .tup (.inl (.inl (zlH_tup e1 e2))) (.cons (s1.mono ex) (.cons (s2.mono ex) .nil))⟩
      · exact p1.elim
    · exact p1.elim
  · exact p1.elim

/-- a def that calls itself, at the depth 0: nothing is said -/
theorem DAt.ok0 {P : Program} {w : World} {K : PySem.W.Frag} {mg : Str → Option Value} {base : Heap} {cm : CM} {x name : Str} {st : Stmt} {ps : List Str} {k : Nat} (G : DAt K mg x name st ps) : FnC P w K mg base cm k x (fun _ _ => .no) := by
  obtain ⟨f, fd, h1, h2, F, hb⟩ := G.ex
  obtain ⟨oc, od, kV, doc, pm, an, cdv, ct, osl, rfl, lk, hcd⟩ := F.ex
  exact ⟨f, _, ps, h1, h2, .all hb, ⟨fun ds S h => absurd rfl h, fun _ _ _ _ _ _ _ _ _ _ _ _ _ _ _ _ _ _ _ _ p => p.elim⟩, ⟨_, _, _, lk⟩⟩
end DL

namespace DL
open PySem PySem.Spec PyProof.Rows L2
variable [TabC]
/-! t[::-1] -/
section
variable {prog : Program} {w : World} {A : Around} {E : Value → Shared → Prop} {s : Shared}
theorem sliceApplied_rev {sl : Addr} {t : Tok} {n : Nat} {Q : Int × Int × Nat → Shared → Prop} (hs : s.heap.IsSliceOf sl .none .none (.int (-1) t))
    (h : Q ((n : Int) - 1, -1, n) s) : wpAny (model prog w) A (Builtin.Slice.sliceApplied (.ref sl) (pure (n : Int))) Q E s := by
  obtain ⟨os, hos, hcs, hds⟩ := id hs
  unfold Builtin.Slice.sliceApplied Builtin.Slice.sliceFields
  refine wpAny_bind (wpAny_bind (wpAny_field hos hds (x := .none) rfl (wpAny_bind (wpAny_field hos hds (x := .none) rfl (wpAny_bind (wpAny_field hos hds (x := .int (-1) t) rfl (wpAny_pure ?_)))))))
  refine wpAny_bind (slicePart_int ?_)
  show wpAny _ _ (if ((-1 : Int) == 0) = true then _ else _) _ _ s
  rw [if_neg (by decide)]
  refine wpAny_bind (slicePart_none (wpAny_bind (slicePart_none (wpAny_bind (wpAny_pure ?_)))))
  show wpAny _ _ (match Builtin.Slice.sliceAdjust none none (-1) (n : Int) with | (lo, hi) => pure (lo, (-1 : Int), Builtin.Slice.slicePlaces lo hi (-1))) _ _ s
  have e1 : Builtin.Slice.sliceAdjust none none (-1) (n : Int) = ((n : Int) - 1, -1) := rfl
  rw [e1]
  have e2 : Builtin.Slice.slicePlaces ((n : Int) - 1) (-1) (-1) = n := by
    unfold Builtin.Slice.slicePlaces
    have h1 : ¬ ((-1 : Int) > 0) := by omega
    have h2 : (((n : Int) - 1 - -1 - 1) / (- -1)) = (n : Int) - 1 := by
      rw [show (- -1 : Int) = 1 from rfl, Int.ediv_one]; omega
    simp only [h1, if_false, h2]
    split <;> omega
  show wpAny _ _ (pure ((n : Int) - 1, (-1 : Int), Builtin.Slice.slicePlaces ((n : Int) - 1) (-1) (-1))) _ _ s
  rw [e2]
  exact wpAny_pure h
theorem pick_rev (xs : Array Value) : ((List.range xs.size).filterMap fun (m : Nat) => xs[(((xs.size : Int) - 1) + (m : Int) * (-1)).toNat]?) = xs.toList.reverse := by
  have e : ∀ (l : List Nat), (∀ m ∈ l, m < xs.size) → (l.filterMap fun (m : Nat) => xs[(((xs.size : Int) - 1) + (m : Int) * (-1)).toNat]?) = l.map fun m => xs.toList.reverse.getD m .none := by
    intro l
    induction l with
    | nil => exact fun _ => rfl
    | cons m l ih =>
      intro h
      have hm := h m (List.mem_cons_self ..)
      have e1 : (((xs.size : Int) - 1) + (m : Int) * (-1)).toNat = xs.size - 1 - m := by omega
      have hx : xs[xs.size - 1 - m]? = some (xs.toList.reverse.getD m .none) := by
        rw [List.getD_eq_getElem?_getD, List.getElem?_reverse (by simpa using hm), Array.length_toList, Array.getElem?_toList, Array.getElem?_eq_getElem (by omega)]
        rfl
      rw [List.filterMap_cons, e1, hx, List.map_cons, ih fun k hk => h k (List.mem_cons_of_mem _ hk)]
  rw [e _ fun m hm => by simpa using hm]
  refine List.ext_getElem? fun i => ?_
  by_cases hi : i < xs.size
  · have hl : i < xs.toList.reverse.length := by simpa using hi
    rw [List.getElem?_map, List.getElem?_range hi, Option.map_some, List.getD_eq_getElem?_getD, List.getElem?_eq_getElem hl]
    rfl
  · rw [List.getElem?_eq_none (by simp; omega), List.getElem?_eq_none (by simp; omega)]
theorem getItem_rev {t sl : Addr} {items : Array Value} {tk : Tok} {Q : Value → Shared → Prop} (ht : IsTup s.heap t items) (hs : s.heap.IsSliceOf sl .none .none (.int (-1) tk))
    (h : Q (.ref s.heap.objs.size) { s with heap := s.heap.push { cls := .type "tuple", data := .seq items.toList.reverse.toArray } })
    (hsz : items.size ≤ sizeLine) : wpAny (model prog w) A (getItem (.ref t) (.ref sl)) Q E s := by
  have htake : sizeOk (.seq items.toList.reverse.toArray) := by
    show items.toList.reverse.toArray.size ≤ sizeLine
    rw [List.size_toArray, List.length_reverse, Array.length_toList]
    exact hsz
  obtain ⟨os, hos, hcs, hds⟩ := id hs
  have hTs : s.TypeIs (.ref sl) "slice" := ⟨os, hos, hcs⟩
  unfold getItem
  try with_reducible refine wpAny_holding ?_
  first | refine wpAny_bind (wpAny_pure ?_) | skip
  refine wpAny_bind (wpAny_sequenceKey ht.typeIs (by decide) ?_)
  refine wpAny_bind (wpAny_callSpecial?_slot (name := Str.ofString "__getitem__") ht.typeIs PyProof.Rows.slot_tuple_getitem
    (wpAny_call_entry PyProof.Rows.slot_tuple_getitem ht.typeIs entry_tuple_getitem ?_ (args_tuple_getitem _ _)))
  show wpAny _ _ (Builtin.Tuple.tupleItemsOf (.ref t) >>= _) _ _ s
  refine wpAny_bind (tupleItemsOf_ ht ?_)
  refine wpAny_bind (wpAny_typeOf hTs ?_)
  rw [if_pos (by decide)]
  refine wpAny_bind (sliceApplied_rev hs ?_)
  have hno : ¬ ((((items.size : Int) - 1 : Int) == 0 && (-1 : Int) == 1 && items.size == items.size) = true) := by
    intro q
    rw [Bool.and_eq_true, Bool.and_eq_true] at q
    exact absurd q.1.2 (by decide)
  show wpAny _ _ (if (((items.size : Int) - 1 : Int) == 0 && (-1 : Int) == 1 && items.size == items.size) = true then _ else _) _ _ s
  rw [if_neg hno, pick_rev]
  first
    | exact wpAny_bind (m := Builtin.Tuple.tupleExact _) (wpAny_newObj_type (wpAny_pure ⟨_, rfl, wpAny_pure h⟩) htake)
    | exact wpAny_bind (m := Builtin.Tuple.tupleExact _) (wpAny_newObj_type (wpAny_bind (wpAny_pure (wpAny_pure ⟨_, rfl, wpAny_pure h⟩))) htake)
end
section
variable {X : Cx} {cm : CM} {W : WX} {pos p2 : Pos}
def tRev (K : PySem.W.Frag) (te ts : TE) : TE := fun σ H Q => te σ H fun x H1 => ts σ H1 fun y H2 => y = .int (-1) ∧ ∃ a xs, x = .ref a ∧ SqT K H2 a xs ∧ ∀ p, H2 p = none → Q (.ref p) (upd H2 p (.tup xs.reverse))
/-- t[::-1] -/
theorem pe_rev {e st : Expr} {te ts : TE} (he : PE X e te) (hs : PE X st ts) : PE X (.Subscript e (.Slice none none (some st) p2) pos) (tRev X.K te ts) := by
  refine ⟨fun pins s σ H Q I h => ?_⟩
  refine Subscript_ (thn (he.run pins s σ H _ I h) fun v s1 ⟨x, H1, I1, r1, q1⟩ => ?_)
  refine wpAny_Slice ?_
  rw [evalPart_none]
  refine wpAny_pure (wpAny_pure ?_)
  rw [evalPart_some]
  refine thn (hs.run pins s1 σ H1 _ I1 q1) fun u s3 ⟨y, H3, I3, r3, ey, a, xs, ex, hx, q3⟩ => ?_
  subst ey ex
  obtain ⟨t, rfl⟩ := r3
  cases r1
  have I4 : Inv X pins σ H3 { s3 with heap := s3.heap.push { cls := .type "slice", data := .fields #[.none, .none, .int (-1) t] } } := I3.kept (t' := s3.toks) fun b ob q => Heap.get?_push_of_some _ q
  obtain ⟨its, r, ht, hz⟩ := I4.tuple hx
  have hlen : its.toArray.size = xs.length := by rw [List.size_toArray]; exact r.length.symm
  show wpAny (model X.prog X.w) X.A (subscriptTail e (.Slice none none (some st) p2) (.ref a) (.ref s3.heap.objs.size)) (EP X pins σ Q) X.xe { s3 with heap := s3.heap.push { cls := .type "slice", data := .fields #[.none, .none, .int (-1) t] } }
  refine tail_any (ops := [.ref a, .ref s3.heap.objs.size]) ht.typeIs PyProof.Rows.slot_tuple_getitem.lookup ?_ (by with_unfolding_all rfl)
  refine getItem_rev ht (Heap.IsSliceOf.new ..) ?_ (by rw [hlen]; exact hz)
  refine ⟨.ref _, _, I4.laid (t' := s3.toks) (o := .tup xs.reverse) (fun b ob q => Heap.get?_push_of_some _ q) (Nat.le_refl _) ?_, rfl, q3 _ (I4.hok.fresh (Nat.le_refl _))⟩
  exact ⟨by rw [List.length_reverse]; exact hz, _, r.reverse, IsTup.new _ _⟩
def revO (x : D) (st : D) (S : DS) : Ou D := match x, st with
  | .tup xs, .int (-1) => .ok (.tup xs.reverse) S
  | _, _ => .no
theorem e_rev {e st : Expr} {ma ms : ME} (ha : EOk X cm W e ma) (hs : EOk X cm W st ms) : EOk X cm W (.Subscript e (.Slice none none (some st) p2) pos) (m2 revO ma ms) := by
  obtain ⟨ta, pa, da⟩ := ha
  obtain ⟨tb, pb, db⟩ := hs
  refine ⟨_, pe_rev pa pb, fun xl al σ H S env Q w r q => ?_⟩
  refine da xl al σ H S env _ w r (q.bind.imp fun x S1 al1 H1 e1 w1 p1 v rv => ?_)
  refine db xl al1 σ H1 S1 env _ w1 (r.mono e1) (p1.bind.imp fun y S2 al2 H2 e2 w2 p2 u ru => ?_)
  unfold revO at p2
  split at p2
  · obtain ⟨a, vs, rfl, ha, r1⟩ := rep_tup (rv.mono e2)
    cases ru
    refine ⟨rfl, a, vs, rfl, ha, fun q hq => ?_⟩
    exact p2 al2 _ (ext_new hq) (w2.put hq) _ (Rep.newTup (S := S2) hq r1.reverse)
  · exact p2.elim
def mDct : ME := fun _ S => .ok .dct S
theorem e_dct0 : EOk X cm W (.Dict [] [] pos) mDct := by
  refine ⟨_, pe_dnewK, fun xl al σ H S env Q w r p => fun q hq => ?_⟩
  exact p al _ (ext_new hq) (w.put hq) _ (.dct upd_same (w.new hq).1)
end
end DL

namespace DL
open PySem PySem.Spec PyProof.Rows L2
variable [TabC]

/-! errors of own classes, without arguments -/
abbrev veB : List Value := [.type "ValueError", .type "Exception", .type "BaseException", .type "object"]
structure ClsAt (K : PySem.W.Frag) (mg : Str → Option Value) (cm : CM) (x : Str) (C : Addr) : Prop where
  cm : cm x = some C
  mg : mg x = some (.ref C)
  keep : PySem.W.keepIn K (.ref C) = true
  sub : PySem.W.subIn K (.ref C) (.type "BaseException") = some true
  ty : PySem.W.typeIn K (.ref C) = some (.type "type")
  ec : ExcC K C
section
variable {X : Cx} {C : Addr} {bmB : List Value} {B newId initId : String}
theorem pmk_own0 {x : Str} {p pos : Pos} (F : ExcBaseFacts B newId initId bmB) (q : PySem.W.excIn X.K C bmB newId = true) (gC : X.mg x = some (.ref C)) (kC : PySem.W.keepIn X.K (.ref C) = true) (r : Raises X (.ref C)) (hg : Gl X x)
    (hdb : (x == ("__debug__" : Str)) = false := by decide) : PMk X (.Call (.Name x p) [] [] pos) (fun _ H Q => Q (.ref C) none H) := by
  intro pins s σ H Q I h
  refine wpAny_Call_Name_kw (ld_glob I hg gC ?_ hdb)
  refine PySem.W.callWith_K0 I.kIn kC ?_
  obtain ⟨bm, N, nm, qn, bs, hdct, sn, sub, ab, col, dd, k0, k1, k2, k3, k5, mN, hC, hN, hni, T⟩ := exc_obj I.kIn q
  refine wpAny_call_exc_subT F T hC hN hni (fun h' e hm => ?_) (by show 0 ≤ sizeLine; omega)
  exact mk_of I hm r h (I.hok.gone hm.new)
end
def mRaise (x : Str) : MS := fun env S => .ok (.xc ⟨x, []⟩, env) S
theorem s_raise {X : Cx} {cm : CM} {W : WX} {k : Nat} {x : Str} {C : Addr} {p pos pos2 : Pos} (Cc : Ctx X W k) (h : ClsAt X.K X.mg cm x C) (he : PySem.W.excIn X.K C veB "ValueError.__new__" = true) (hg : Gl X x) (hdb : (x == ("__debug__" : Str)) = false := by decide) :
    SOk X cm W (.Raise (some (.Call (.Name x p) [] [] pos)) none pos2) (mRaise x) := by
  refine ⟨_, ps_raise Cc.calm Cc.tk (pmk_own0 PySem.F.excBase_ValueError he h.mg h.keep (raises_own h.sub h.ty) hg hdb), fun xl al σ H S env D0 w r q => ?_⟩
  exact q.here w σ r (.ref C) none ⟨⟨C, h.cm, rfl⟩, XdAt.none⟩
/-! try: .. except X as e: .. -/
/-- what an except suite leaves: its name is gone -/
def postO (i : Nat) (o : Ou (Fl × DE)) : Ou (Fl × DE) := match o with
  | .ok (.xc _, _) _ => .no
  | .ok (f, e) S => .ok (f, e.set i none) S
  | .ex _ _ => .no
  | .no => .no
open Classical in
/-- the suite, wherever the error stands -/
noncomputable def exoS (i : Nat) (c : Str) (suite : ExA → Str → MS) (env : DE) (S : DS) : Ou (Fl × DE) :=
  if h : ∃ o, ∀ a, postO i (suite a c (env.set i (some (.exo a c))) S) = o then h.choose else .no
theorem exoS_eq {i : Nat} {c : Str} {suite : ExA → Str → MS} {env : DE} {S : DS} {o : Ou (Fl × DE)} (h : ∀ a, postO i (suite a c (env.set i (some (.exo a c))) S) = o) : exoS i c suite env S = o := by
  have hx : ∃ o, ∀ a, postO i (suite a c (env.set i (some (.exo a c))) S) = o := ⟨o, h⟩
  unfold exoS
  rw [dif_pos hx, ← hx.choose_spec ⟨0, none⟩, h ⟨0, none⟩]
theorem exoS_at {i : Nat} {c : Str} {suite : ExA → Str → MS} {env : DE} {S : DS} (hn : exoS i c suite env S ≠ .no) (a : ExA) : postO i (suite a c (env.set i (some (.exo a c))) S) = exoS i c suite env S := by
  unfold exoS at hn ⊢
  split
  · rename_i h
    exact h.choose_spec a
  · rename_i h
    rw [dif_neg h] at hn
    exact absurd rfl hn
noncomputable def mTry (cat : Str → Option Bool) (i : Nat) (body : MS) (suite : ExA → Str → MS) : MS := fun env S => (body env S).bind fun r S1 => match r.1 with
  | .xc x => match cat x.cls with
      | some true => exoS i x.cls suite r.2 S1
      | some false => .ok (.xc x, r.2) S1
      | none => .no
  | f => .ok (f, r.2) S1
theorem Post.postO {K : PySem.W.Frag} {cm : CM} {xl al : List Addr} {H : Hp} {W : WX} {D0 : Ends} {i : Nat} {o : Ou (Fl × DE)} (p : Post K cm xl noW (RS K cm xl W D0) (postO i o) al H) :
    Post K cm xl noW (RS K cm xl noX { nx := fun σ' H' => D0.nx (σ'.set i none) H', rt := D0.rt, bk := fun σ' H' => D0.bk (σ'.set i none) H', ct := fun σ' H' => D0.ct (σ'.set i none) H' }) o al H := by
  cases o with
  | ok z S' =>
    obtain ⟨f, e⟩ := z
    cases f with
    | nx => exact fun al' H' e w σ' r => p al' H' e w _ (r.wipe i)
    | rt d => exact fun al' H' e w σ' r v rv => p al' H' e w _ (r.wipe i) v rv
    | bk => exact fun al' H' e w σ' r => p al' H' e w _ (r.wipe i)
    | ct => exact fun al' H' e w σ' r => p al' H' e w _ (r.wipe i)
    | xc x => exact p.elim
  | ex x S' => exact p.elim
  | no => exact p.elim
theorem s_try {X : Cx} {cm : CM} {W : WX} {k i : Nat} {x n : Str} {c : Value} {body suite : List Stmt} {b₀ : Stmt} {np pos pos' : Pos} {cat : Str → Option Bool} {mb : MS} {ms : ExA → Str → MS} (Cc : Ctx X W k)
    (hs : X.stack = X.env :: X.outer) (hf : X.env.frame = some X.env.locals) (hi : X.N[i]? = some n) (hln : X.env.kindOf n = some .local) (hc : Names X x c)
    (hcat : ∀ (y : Str) (b : Bool) (C : Addr), cat y = some b → cm y = some C → PySem.W.exmOne X.K (.ref C) c = some b)
    (hb : ∀ (W' : WX) (pn : List (Addr × Obj)) (xe : Value → Shared → Prop), Ctx (X.tr pn xe) W' k → SsOk (X.tr pn xe) cm W' body mb)
    (hsu : ∀ (a : ExA) (oe : Obj) (y : Str) (C : Addr) (pn : List (Addr × Obj)), cm y = some C → Zc (.ref C) a.dx oe → (∃ vs, oe.data = .fields vs) → SsOk (X.suite a.pl ((a.pl, oe) :: pn)) cm noX (b₀ :: suite) (ms a y)) :
    SOk X cm W (.Try body [.ExceptHandler (some (.Name x np)) (some n) (b₀ :: suite) pos'] [] [] pos) (mTry cat i mb ms) := by
  have cx : ∀ (W' : WX) (pn : List (Addr × Obj)) (xe : Value → Shared → Prop), Takes (X.tr pn xe) W' → PassesOwn (model X.prog X.w) X.A X.env xe → Ctx (X.tr pn xe) W' k := fun W' pn xe tk po => ⟨tk, Cc.gd, Cc.rm, Cc.calm, Cc.nd, po⟩
  let tb : WX → TS := fun W' D σ H => ∀ (pn : List (Addr × Obj)) (xe : Value → Shared → Prop) (tk : Takes (X.tr pn xe) W') (po : PassesOwn (model X.prog X.w) X.A X.env xe), (hb W' pn xe (cx W' pn xe tk po)).choose D σ H
  let ts : Addr → Value → Option Addr → TS := fun a cls d D σ H => ∃ (y : Str) (C : Addr) (hy : cm y = some C) (_ : cls = .ref C), ∀ (oe : Obj) (pn : List (Addr × Obj)) (hz : Zc (.ref C) d oe) (hv : ∃ vs, oe.data = .fields vs), (hsu ⟨a, d⟩ oe y C pn hy hz hv).choose D σ H
  refine ⟨_, ps_try_as (tb := tb) (ts := ts) hs hf Cc.nd hi hln hc Cc.tk (fun W' pn xe tk po => ?_) (fun a oe cls d pn hz hv => ?_), fun xl al σ H S env D0 w r q => ?_⟩
  · exact ⟨fun pins s σ H D I h => (hb W' pn xe (cx W' pn xe tk po)).choose_spec.1.run pins s σ H D I (h pn xe tk po)⟩
  · refine ⟨fun pins s σ H D I h => ?_⟩
    obtain ⟨y, C, hy, hc1, h⟩ := h
    subst hc1
    exact (hsu ⟨a, d⟩ oe y C pn hy hz hv).choose_spec.1.run pins s σ H D I (h oe pn hz hv)
  · intro pn xe tk po
    refine (hb _ pn xe (cx _ pn xe tk po)).choose_spec.2 xl al σ H S env D0 w r ?_
    unfold mTry at q
    cases hm : mb env S with
    | no => rw [hm] at q; exact q.elim
    | ex z S' => rw [hm] at q; exact q
    | ok z S' =>
      obtain ⟨f, e'⟩ := z
      rw [hm] at q
      simp only [bind_ok] at q
      cases f with
      | nx => exact q
      | rt d => exact q
      | bk => exact q
      | ct => exact q
      | xc z =>
        intro al' H' e1 w1 σ' r' cls dx hx
        simp only at q
        obtain ⟨⟨C, hC, rfl⟩, hdx⟩ := hx
        split at q
        · rename_i hct
          refine ⟨true, hcat _ _ _ hct hC, fun _ a ha => ?_, fun hb => by cases hb⟩
          refine ⟨z.cls, C, hC, rfl, fun oe pn2 hz hv => ?_⟩
          have hne : exoS i z.cls ms e' S' ≠ .no := fun e0 => by rw [e0] at q; exact q
          have q2 := q
          rw [← exoS_at hne ⟨a, dx⟩] at q2
          exact (hsu ⟨a, dx⟩ oe z.cls C pn2 hC hz hv).choose_spec.2 xl al' _ H' S' _ _ w1 (r'.set (.exo ⟨a, dx⟩ z.cls hdx) i) (Post.postO (q2.mono e1))
        · rename_i hct
          refine ⟨false, hcat _ _ _ hct hC, (fun hb => nomatch hb), fun _ => ?_⟩
          exact q al' H' e1 w1 σ' r' (.ref C) dx ⟨⟨C, hC, rfl⟩, hdx⟩
        · exact q.elim
/-! isinstance of the error that a suite holds -/
def rIsX (K : PySem.W.Frag) (D a : Addr) (d : Option Addr) : List V → Hp → VK → Prop := fun xs H Q => ∃ (c : V) (cv : Value) (b : Bool), xs = [.ref a, c] ∧ (∀ u, RelV c u → u = cv) ∧ PySem.W.kitOne K (.ref D) cv = some b ∧ (∀ x, d = some x → ∃ fs, H x = some (.xd fs)) ∧ Q (.bl b) H
theorem call_isX {X : Cx} {a D : Addr} {d : Option Addr} {oe : Obj} {pn : List (Addr × Obj)} (C : ExcC X.K D) (hz : Zc (.ref D) d oe) (hf : ∃ vs, oe.data = .fields vs) : CallR (X.suite a ((a, oe) :: pn)) (.builtin "isinstance") (rIsX X.K D a d) := by
  intro pins s σ H xs us Q I r h
  obtain ⟨c, cv, b, rfl, hcv, e, hd, q⟩ := h
  cases r with
  | cons rx rr =>
    cases rr with
    | cons rt rr =>
      cases rr
      cases rx
      have ec := hcv _ rt
      subst ec
      obtain ⟨hget, _⟩ := I.pin (a, oe) (List.mem_append.mpr (.inl List.mem_cons_self))
      obtain ⟨vs, hv⟩ := hf
      obtain ⟨cdD, hcD, _⟩ := PySem.W.any_some C.hd
      have hcl : (PySem.W.clsIn X.K D).isSome = true := by rw [hcD]; rfl
      have J : ∃ od, PySem.W.InstAt s.heap a oe D od := by
        obtain ⟨oc, od, oda, osl⟩ := oe
        obtain ⟨h1, h2⟩ := hz
        dsimp only at h1 h2 hv
        subst h1 h2 hv
        cases od with
        | none => exact ⟨none, hget, rfl, rfl, trivial⟩
        | some x =>
          obtain ⟨fs, hx⟩ := hd x rfl
          obtain ⟨u, hu⟩ := objOk_get (I.hok x _ hx)
          exact ⟨some u, hget, rfl, rfl, hu⟩
      obtain ⟨od, J⟩ := J
      exact PySem.W.kia_one (PySem.W.kitx_exc hcl C.hg C.hk C.hs C.ha C.hn C.ht C.hm) I.kIn J e (fun z => nomatch z) fun tk => ⟨.bl b, H, I.kept (t' := tk) fun _ _ z => z, rfl, q⟩
open Classical in
noncomputable def mIsE (a : ExA) (y : Str) (b : Option Bool) (me : ME) : ME := fun env S => (me env S).bind fun d S1 => match d with
  | .exo a' y' => if a' = a ∧ y' = y then (match b with
      | some b => .ok (.bl b) S1
      | none => .no) else .no
  | _ => .no
section
variable {X : Cx} {cm : CM} {W : WX} {a : ExA} {oe : Obj} {y : Str} {C : Addr} {pn : List (Addr × Obj)} {e : Expr} {me : ME} {p p2 pos : Pos} {xT T : Str} {b : Option Bool}
theorem e_isE {CT : Addr} (hC : ExcC X.K C) (hz : Zc (.ref C) a.dx oe) (hv : ∃ vs, oe.data = .fields vs) (hg : Gl X "isinstance") (hm : X.mg "isinstance" = none) (hgT : Gl X xT) (hmT : X.mg xT = some (.ref CT)) (hb : ∀ b', b = some b' → PySem.W.kitOne X.K (.ref C) (.ref CT) = some b')
    (he : EOk (X.suite a.pl ((a.pl, oe) :: pn)) cm W e me) (hd : (xT == ("__debug__" : Str)) = false := by decide)
    (hs1 : starEach [e, .Name xT p2] X.env = (false, eval e X.env) :: starEach [.Name xT p2] X.env := by rfl) (hs2 : starEach [.Name xT p2] X.env = (false, eval (.Name xT p2) X.env) :: starEach [] X.env := by rfl)
    (hpl : (backTo pos (starEach [.Name xT p2] X.env)).any (·.1) = false := by rfl) : EOk (X.suite a.pl ((a.pl, oe) :: pn)) cm W (.Call (.Name "isinstance" p) [e, .Name xT p2] [] pos) (mIsE a y b me) := by
  obtain ⟨t, pt, d⟩ := he
  refine ⟨_, pe_callB (X := X.suite a.pl ((a.pl, oe) :: pn)) (call_isX hC hz hv) hg hm PyProof.Rows.boot_isinstance (pa_cons pt (pa_cons (pe_glob (X := X.suite a.pl ((a.pl, oe) :: pn)) (v := .ref CT) hgT hmT rfl hd) pa_nil hs2) hs1) (by decide) (by decide) hs1 hpl, fun xl al σ H S env Q w r q => ?_⟩
  refine d xl al σ H S env _ w r (q.bind.imp fun x S1 al1 H1 e1 w1 p1 v rv => ?_)
  split at p1
  · split at p1
    · rename_i hh
      cases b with
      | some b' =>
        obtain ⟨rfl, rfl⟩ := hh
        cases rv with
        | exo _ _ hx => exact ⟨.ref CT, .ref CT, b', rfl, fun u h => h, hb b' rfl, fun x z => (hx x z).1, p1.here w1 _ (.bl b')⟩
      | none => exact p1.elim
    · exact p1.elim
  · exact p1.elim
theorem e_isEB (hC : ExcC X.K C) (hz : Zc (.ref C) a.dx oe) (hv : ∃ vs, oe.data = .fields vs) (hg : Gl X "isinstance") (hm : X.mg "isinstance" = none) {TN : String} (hgT : Gl X xT) (hmT : X.mg xT = none) (hbT : bootBuiltins xT = some (.type TN)) (hb : ∀ b', b = some b' → PySem.W.kitOne X.K (.ref C) (.type TN) = some b')
    (he : EOk (X.suite a.pl ((a.pl, oe) :: pn)) cm W e me) (hnT : xT ≠ "__name__" := by decide) (hd : (xT == ("__debug__" : Str)) = false := by decide)
    (hs1 : starEach [e, .Name xT p2] X.env = (false, eval e X.env) :: starEach [.Name xT p2] X.env := by rfl) (hs2 : starEach [.Name xT p2] X.env = (false, eval (.Name xT p2) X.env) :: starEach [] X.env := by rfl)
    (hpl : (backTo pos (starEach [.Name xT p2] X.env)).any (·.1) = false := by rfl) : EOk (X.suite a.pl ((a.pl, oe) :: pn)) cm W (.Call (.Name "isinstance" p) [e, .Name xT p2] [] pos) (mIsE a y b me) := by
  obtain ⟨t, pt, d⟩ := he
  refine ⟨_, pe_callB (X := X.suite a.pl ((a.pl, oe) :: pn)) (call_isX hC hz hv) hg hm PyProof.Rows.boot_isinstance (pa_cons pt (pa_cons (pe_bltn (X := X.suite a.pl ((a.pl, oe) :: pn)) (v := .ty TN) hgT hmT hbT rfl hnT hd) pa_nil hs2) hs1) (by decide) (by decide) hs1 hpl, fun xl al σ H S env Q w r q => ?_⟩
  refine d xl al σ H S env _ w r (q.bind.imp fun x S1 al1 H1 e1 w1 p1 v rv => ?_)
  split at p1
  · split at p1
    · rename_i hh
      cases b with
      | some b' =>
        obtain ⟨rfl, rfl⟩ := hh
        cases rv with
        | exo _ _ hx => exact ⟨.ty TN, .type TN, b', rfl, fun u h => h, hb b' rfl, fun x z => (hx x z).1, p1.here w1 _ (.bl b')⟩
      | none => exact p1.elim
    · exact p1.elim
  · exact p1.elim
end
/-! xs.count(b), xs.index(b): lists of flags -/
section
variable {X : Cx}
def rCntF (K : PySem.W.Frag) : V → List V → Hp → VK → Prop := fun x xs H Q => ∃ (p : Addr) (ys : List V) (y : V), x = .ref p ∧ xs = [y] ∧ SqL K H p ys ∧ flatV y = true ∧ ys.all flatV = true ∧ Q (.int (ys.countP (fun z => eqV z y) : Nat)) H
theorem count_eqU {x : V} : ∀ {xs : List V} {us : List Value}, Vals xs us → xs.all flatV = true → us.countP (eqU x) = xs.countP fun y => eqV y x
  | _, _, .nil, _ => rfl
  | y :: xs, u :: us, .cons r t, f => by
    rw [List.all_cons, Bool.and_eq_true] at f
    rw [List.countP_cons, List.countP_cons, count_eqU t f.2, eqU_of r f.1]
theorem mt_countF : MtR X "list.count" (rCntF X.K) := by
  intro pins s σ H x xs v us Q I rx rxs h
  obtain ⟨p, ys, y, rfl, rfl, hs, fy, fys, q⟩ := h
  cases rx
  obtain ⟨u, rfl, ru⟩ := rxs.one
  obtain ⟨its, rv, ⟨⟨cls, dd, data, sl⟩, n, ho, hc, hdn, hd⟩, hlen⟩ := I.list hs
  simp only at hc hd
  subst hc hd
  refine call_meets PySem.F.slot_list_count ⟨_, ho, rfl⟩ PySem.F.entry_list_count (PySem.F.args_list_count_2 _ _)
    (SeqAt.list_countAt p its.toArray n dd sl u (eqU y)) ⟨ho, fun u' hu' => mem_eqAt ru fy rv fys u' (by simpa using hu'), ?_⟩
  have ec : its.toArray.toList.countP (eqU y) = ys.countP (fun z => eqV z y) := count_eqU rv fys
  refine ⟨.int (ys.countP (fun z => eqV z y) : Nat), H, I.tok _, ⟨s.toks, ?_⟩, q⟩
  show Value.int ((its.toArray.toList.countP (eqU y) : Nat) : Int) s.toks = Value.int ((ys.countP (fun z => eqV z y) : Nat) : Int) s.toks
  rw [ec]
end
theorem bls_flat : ∀ {bs : List Bool} {K : PySem.W.Frag} {xl al : List Addr} {H : Hp} {vs : List V}, Reps K xl al H (bs.map D.bl) vs → vs = bs.map V.bl
  | [], _, _, _, _, _, .nil => rfl
  | b :: bs, _, _, _, _, _, .cons h r => by
    cases h
    rw [bls_flat r]
    rfl
def blsOf : List D → Option (List Bool)
  | [] => some []
  | .bl b :: r => (blsOf r).map (b :: ·)
  | _ => none
theorem blsOf_eq : ∀ {xs : List D} {bs : List Bool}, blsOf xs = some bs → xs = bs.map D.bl
  | [], bs, h => by cases h; rfl
  | .bl b :: r, bs, h => by
    rw [blsOf, Option.map_eq_some_iff] at h
    obtain ⟨cs, h1, rfl⟩ := h
    rw [blsOf_eq h1]
    rfl
/-- the flags of a list -/
def flagsO (x : D) (S : DS) : Option (List Bool) := match x with
  | .vl ys => blsOf ys
  | .ref p => match S[p]? with
    | some (DO.lst ys) => blsOf ys
    | none => none
  | _ => none
theorem flags_rep {K : PySem.W.Frag} {xl al : List Addr} {H : Hp} {S : DS} {x : D} {v : V} {bs : List Bool} (w : Wd K xl S al H) (r : Rep K xl al H x v) (h : flagsO x S = some bs) : ∃ p, v = .ref p ∧ SqL K H p (bs.map V.bl) := by
  unfold flagsO at h
  split at h
  · cases r with
    | vl h0 n n' r1 =>
      rw [blsOf_eq h] at r1
      obtain rfl := bls_flat r1
      exact ⟨_, rfl, SqL.of h0⟩
  · split at h
    · rename_i ys e
      cases r with
      | ref ha =>
        obtain ⟨a, us, h1, h2, h3⟩ := w.list e
        rw [ha] at h1; cases h1
        rw [blsOf_eq h] at h3
        obtain rfl := bls_flat h3
        exact ⟨_, rfl, SqL.of h2⟩
    · cases h
  · cases h
def countO (x : D) (xs : List D) (S : DS) : Ou D := match flagsO x S, xs with
  | some bs, [.bl c] => .ok (.int (bs.count c : Nat)) S
  | _, _ => .no
def indexO (x : D) (xs : List D) (S : DS) : Ou D := match flagsO x S, xs with
  | some bs, [.bl c] => if c ∈ bs ∧ bs.length ≤ 1000 then .ok (.int (bs.idxOf c : Nat)) S else .no
  | _, _ => .no
theorem countP_bl (c : Bool) : ∀ bs : List Bool, (bs.map V.bl).countP (fun z => eqV z (.bl c)) = bs.count c
  | [] => rfl
  | b :: bs => by
    rw [List.map_cons, List.countP_cons, countP_bl c bs, List.count_cons]
    rfl
theorem all_flat (bs : List Bool) : (bs.map V.bl).all flatV = true := by
  rw [List.all_map, List.all_eq_true]
  exact fun _ _ => rfl
theorem idx_first {c b : Bool} : ∀ (bs : List Bool) (m : Nat), m < bs.idxOf c → bs[m]? = some b → ¬ b = c
  | [], m, h, e => by simp at e
  | d :: bs, 0, h, e => fun z => by
    simp at e
    subst e z
    rw [List.idxOf_cons_self] at h
    omega
  | d :: bs, m + 1, h, e => by
    by_cases hd : d = c
    · subst hd
      rw [List.idxOf_cons_self] at h
      omega
    · have h2 : (d :: bs).idxOf c = bs.idxOf c + 1 := by
        rw [List.idxOf_cons]
        have : (d == c) = false := beq_eq_false_iff_ne.mpr hd
        rw [this]
        rfl
      rw [h2] at h
      exact idx_first bs m (by omega) (by simpa using e)
theorem m_count {X : Cx} {cm : CM} : MtOk X cm "list.count" countO := by
  refine ⟨_, mt_countF, fun xl al H S x v xs vs Q W0 w rv rs p => ?_⟩
  unfold countO at p
  split at p
  · rename_i bs c hf
    obtain ⟨q, rfl, hs⟩ := flags_rep w rv hf
    obtain ⟨u, rfl, ru⟩ := reps1 rs
    cases ru
    refine ⟨_, _, .bl c, rfl, rfl, hs, rfl, all_flat bs, ?_⟩
    rw [countP_bl]
    exact p.here w _ (.int _)
  · exact p.elim
theorem m_index {X : Cx} {cm : CM} : MtOk X cm "list.index" indexO := by
  refine ⟨_, mt_index, fun xl al H S x v xs vs Q W0 w rv rs p => ?_⟩
  unfold indexO at p
  split at p
  · rename_i bs c hf
    split at p
    · rename_i hc
      obtain ⟨q, rfl, hs⟩ := flags_rep w rv hf
      obtain ⟨u, rfl, ru⟩ := reps1 rs
      cases ru
      have hlt : bs.idxOf c < bs.length := List.idxOf_lt_length_of_mem hc.1
      have hz : bs[bs.idxOf c]? = some c := by rw [List.getElem?_eq_getElem hlt, List.getElem_idxOf hlt]
      refine ⟨_, _, .bl c, bs.idxOf c, .bl c, rfl, rfl, hs, rfl, all_flat bs, by rw [List.getElem?_map, hz]; rfl, by cases c <;> rfl, fun m z' hm hz' => ?_, p.here w _ (.int _)⟩
      rw [List.getElem?_map, Option.map_eq_some_iff] at hz'
      obtain ⟨b, hb2, rfl⟩ := hz'
      have : ¬ b = c := idx_first bs m hm hb2
      show (b == c) = false
      exact beq_eq_false_iff_ne.mpr this
    · exact p.elim
  · exact p.elim
/-! {0: x} -/
def mDct1 (i : Nat) : ME := fun env S => match env[i]? with
  | some (some _) => .ok .dct S
  | _ => .no
theorem e_dct1 {X : Cx} {cm : CM} {W : WX} {i j : Nat} {k : Int} {x : Str} {pos p1 p2 : Pos} (hN : X.N[i]? = some x := by rfl) (hv : Vis X.env.scope x := by first | exact Or.inl rfl | exact Or.inr (Or.inl rfl) | exact Or.inr (Or.inr rfl))
    (hd : (x == ("__debug__" : Str)) = false := by decide) (hcd : (x == ("__classdict__" : Str)) = false := by decide) : EOk X cm W (.Dict [some (.Constant (.int k) j p1)] [.Name x p2] pos) (mDct1 i) := by
  refine ⟨_, pe_disp (pps_cons pe_int (pe_var (pos := p2) hN hv hd hcd) pps_nil) rfl rfl (by simp) (by simp), fun xl al σ H S env Q w r q => ?_⟩
  unfold mDct1 at q
  split at q
  · rename_i d e
    obtain ⟨v, hv2, rv⟩ := r.at' i d e
    intro a ha
    refine ⟨v, hv2, ?_⟩
    refine ⟨upd_same, [(.inl k, v)], rfl, by simp, ?_⟩
    have e2 : upd (upd H a (.dK [])) a (.dK (mergeK [] [(.inl k, v)])) = upd H a (.dK (mergeK [] [(.inl k, v)])) := by
      funext b
      unfold upd
      split <;> rfl
    rw [e2]
    exact q al _ (ext_new ha) (w.put ha) _ (.dct upd_same (w.new ha).1)
  · exact q.elim
end DL

namespace DL
open PySem PySem.Spec PyProof.Rows L2
variable [TabC]

/-! the word that a def gives a lambda: try: call() except X as e: .. -/
abbrev Zof (X : Cx) (Ng : List Str) (qg : Str) (sg : Scope) (g : Addr) (cdg : Value) (s : Shared) (H : Hp) (Eg : XK) : Cx := cxOf (L2.CX X.prog X.w) X.prog X.w X.K X.mg X.base Ng qg sg g cdg X.A X.stack s H Eg
abbrev funO (X : Cx) (params : Arguments) (body : Expr) (scope : Scope) (pm ctv : Value) (c' : Addr) : Obj := PySem.W.kla_obj "<lambda>" (X.env.qual ++ "<lambda>") params body scope (cloFrom X.env.cells scope.names []) pm c' ctv
theorem takes_len {Z : Cx} {W : WX} (tk : Takes Z W) : Takes Z (fun c d σ' H' => σ'.length = Z.N.length → W c d σ' H') := fun u s' ⟨a, B, sI, pins, σ, H, cls, d, e, I, nb, up, sky, na, os, ag, w⟩ =>
  tk u s' ⟨a, B, sI, pins, σ, H, cls, d, e, I, nb, up, sky, na, os, ag, w I.len⟩
section
variable {X : Cx} {pins : List (Addr × Obj)} {σ : L2.St} {H : Hp} {s : Shared}
theorem act {Eg E : XK} {Ng : List Str} {qg a : Str} {sg scope : Scope} {g f c' : Addr} {cdg pm ctv : Value} {params : Arguments} {body : Expr} {k i : Nat} {pn : List (Addr × Obj)} {xe : Value → Shared → Prop} {W : WX} {tb : TE} {p1 p2 : Pos}
    (I : Inv X pins σ H s) (L : LamX.LamS X.env.scope scope) (hf : s.heap.get? f = some (funO X params body scope pm ctv c')) (hfn : H f = none) (hfr : f ∉ frs X.stack)
    (hbind : bindArgs (PySem.W.kla_fn "<lambda>" (X.env.qual ++ "<lambda>") params body scope (cloFrom X.env.cells scope.names []) pm (.ref c') ctv) ⟨[], []⟩ = pure [])
    (tk : Takes ((Zof X Ng qg sg g cdg s H Eg).tr pn xe) W) (hW : ∀ cls d σ' H', E cls d H' → W cls d σ' H') (hr : Room (k + 1) (X.A.deeper (envOfC qg sg s.heap.objs.size g cdg)))
    (hbody : ∀ (s2 : Shared) (H2 : Hp), Room k ((X.A.deeper (envOfC qg sg s.heap.objs.size g cdg)).deeper (LamX.lamEnv X scope s2.heap.objs.size f c')) →
      PE (LamX.lamCx X (X.A.deeper (envOfC qg sg s.heap.objs.size g cdg)) (envOfC qg sg s.heap.objs.size g cdg :: X.stack) s2 H2 E scope f c') body tb)
    (hN : Ng[i]? = some a) (hv : Vis sg a) (hd : (a == ("__debug__" : Str)) = false) (hcd : (a == ("__classdict__" : Str)) = false) :
    PE ((Zof X Ng qg sg g cdg s H Eg).tr pn xe) (.Call (.Name a p1) [] [] p2) (fun σZ HZ Q => σZ[i]? = some (some (.ref f)) ∧ HZ c' = some (LamX.CodeO c' (X.env.qual ++ "<lambda>")) ∧ tb σ HZ Q) := by
  refine ⟨fun pz sz σz Hz Q J ⟨h1, h2, h3⟩ => wpAny_Call_Name_kw (thn ((pe_var (pos := p1) (i := i) hN hv hd hcd).run pz sz σz Hz (fun v H1 => v = .ref f ∧ H1 = Hz) J ⟨.ref f, h1, rfl, rfl⟩) fun u s1 hu => ?_)⟩
  obtain ⟨v, H1, J1, ru, rfl, rfl⟩ := hu
  obtain rfl : u = Value.ref f := ru
  have gf := J1.base.keep f _ hf hfn hfr (fun z => nomatch (show f ∈ ([] : List Addr) from z))
  obtain ⟨⟨oc, vs, t, ho, hdt, hq⟩, _, _⟩ := J1.hok c' _ h2
  refine PySem.W.callWith_F0 ⟨_, _, _, _, gf⟩ (wpAny_call (codeAny_mono (R := CR (L2.CX X.prog X.w) (envOfC qg sg s.heap.objs.size g cdg :: X.stack) X.prog X.w H1 s1 Q E) ?_ fun r s' hr' => ?_))
  · refine PySem.W.kla_callFunE hr.depth gf rfl L.co L.gen rfl ⟨c', oc, vs, t, rfl, ho, hdt, hq⟩ ?_
    show wpAny _ _ (bindArgs _ ⟨[], []⟩) _ _ _
    rw [hbind]
    refine wpAny_pure (wpAny_newFunctionEnv (fun y hy => (L.own y hy).2) (fun y hy => absurd hy (by simp)) (fun hp n1 n2 => ⟨J1.nolimit.fresh _ n2, ?_⟩) L.kind)
    refine PySem.W.kla_codeExpr (wpAny_mono ((hbody s1 H1 (hr.deeper _)).run [] _ _ H1 Q (LamX.lam_start2 I L J1.env0 hr.hd J1.base n1 fun b o e => n2.extBut b o (Nat.ne_of_lt (Heap.lt_size e)) (Heap.get?_push_of_some _ e)) h3) (fun w2 s2 hw => ?_) fun _ _ z => z)
    obtain ⟨w3, H3, K3, r3, q3⟩ := hw
    exact ⟨w3, H3, K3.os, K3.bare, K3.base, K3.hok, r3, q3⟩
  · cases r with
    | error e => exact passes_call tk hW pz σz H1 s1 e s' J1 hr'
    | ok fl =>
      cases fl with
      | ret u => exact J1.after hr'
      | next => exact hr'.elim
      | brk => exact hr'.elim
      | cont => exact hr'.elim
end

def noneE (n : Nat) : DE := List.replicate n none
theorem EnvR.nones {K : PySem.W.Frag} {xl al : List Addr} {H : Hp} {n : Nat} {σ : L2.St} (h : σ.length = n) : EnvR K xl al H (noneE n) σ := by
  refine ⟨by rw [noneE, List.length_replicate, h], fun i d e => ?_⟩
  rw [noneE, List.getElem?_replicate] at e
  split at e <;> cases e
/-- try: call() except X as n: suite; o: what call() does -/
noncomputable def mTryC (cat : Str → Option Bool) (i : Nat) (ms : ExA → Str → MS) (o : DS → Ou D) : MS := fun env S => match o S with
  | .ok _ S1 => .ok (.nx, env) S1
  | .ex x S1 => match cat x.cls with
      | some true => exoS i x.cls ms (noneE env.length) S1
      | some false => .ok (.xc x, noneE env.length) S1
      | none => .no
  | .no => .no
section
variable {X : Cx} {cm : CM} {pins : List (Addr × Obj)} {σ : L2.St} {H : Hp} {s : Shared}
theorem word_try {E : XK} {Ng : List Str} {qg a x n : Str} {sg scope : Scope} {g f c' : Addr} {cdg pm ctv c : Value} {params : Arguments} {body : Expr} {k i i0 : Nat} {p1 p2 p3 np pos pos' : Pos} {cat : Str → Option Bool} {mb : ME} {ms : ExA → Str → MS} {suite : List Stmt} {b₀ : Stmt} {envX : DE}
    (I : Inv X pins σ H s) (L : LamX.LamS X.env.scope scope) (hf : s.heap.get? f = some (funO X params body scope pm ctv c')) (hfn : H f = none) (hfr : f ∉ frs X.stack) (hgd : X.A.guards = some []) (hnd : X.N.Nodup)
    (hbind : bindArgs (PySem.W.kla_fn "<lambda>" (X.env.qual ++ "<lambda>") params body scope (cloFrom X.env.cells scope.names []) pm (.ref c') ctv) ⟨[], []⟩ = pure [])
    (Cz : Ctx (Zof X Ng qg sg g cdg s H E) (fun c d _ H => E c d H) (k + 1))
    (hbody : ∀ (A : Around) (outer : List Env) (s2 : Shared) (H2 : Hp) (E2 : XK), Ctx (LamX.lamCx X A outer s2 H2 E2 scope f c') (fun c d _ H => E2 c d H) k → EOk (LamX.lamCx X A outer s2 H2 E2 scope f c') cm (fun c d _ H => E2 c d H) body mb)
    (hN : Ng[i0]? = some a) (hv : Vis sg a) (hd : (a == ("__debug__" : Str)) = false) (hcd : (a == ("__classdict__" : Str)) = false)
    (hi : Ng[i]? = some n) (hln : sg.names.lookup n = some .local) (hc : Names (Zof X Ng qg sg g cdg s H E) x c)
    (hcat : ∀ (y : Str) (b : Bool) (C : Addr), cat y = some b → cm y = some C → PySem.W.exmOne X.K (.ref C) c = some b)
    (hsu : ∀ (a : ExA) (oe : Obj) (y : Str) (C : Addr) (pn : List (Addr × Obj)), cm y = some C → Zc (.ref C) a.dx oe → (∃ vs, oe.data = .fields vs) → SsOk ((Zof X Ng qg sg g cdg s H E).suite a.pl ((a.pl, oe) :: pn)) cm noX (b₀ :: suite) (ms a y)) :
    ∃ tt, PS (Zof X Ng qg sg g cdg s H E) (.Try [.Expr (.Call (.Name a p1) [] [] p2) p3] [.ExceptHandler (some (.Name x np)) (some n) (b₀ :: suite) pos'] [] [] pos) tt ∧
      ∀ (D0 : Ends) (σ0 : L2.St) (HZ : Hp) (xl al : List Addr) (S : DS) (env0 : DE), σ0[i0]? = some (some (.ref f)) → HZ c' = some (LamX.CodeO c' (X.env.qual ++ "<lambda>")) → Wd X.K xl S al HZ → EnvR X.K xl al HZ env0 σ0 → EnvR X.K xl al HZ envX σ → env0.length = Ng.length →
        Post X.K cm xl noW (RS X.K cm xl (fun c d _ H => E c d H) D0) (mTryC cat i ms (mb envX) env0 S) al HZ → tt D0 σ0 HZ := by
  let Z : Cx := Zof X Ng qg sg g cdg s H E
  let tl : XK → TE := fun E2 σ2 HZ Q => ∃ xl al S, Wd X.K xl S al HZ ∧ EnvR X.K xl al HZ envX σ2 ∧ Post X.K cm xl E2 (RE X.K xl Q) (mb envX S) al HZ
  let tb : WX → TS := fun W' D σZ HZ => σZ[i0]? = some (some (.ref f)) ∧ HZ c' = some (LamX.CodeO c' (X.env.qual ++ "<lambda>")) ∧ tl (fun c d H' => ∀ σ' : L2.St, σ'.length = Ng.length → W' c d σ' H') σ HZ (fun _ H' => D.nx σZ H')
  let ts : Addr → Value → Option Addr → TS := fun a cls d D σ H => ∃ (y : Str) (C : Addr) (hy : cm y = some C) (_ : cls = .ref C), ∀ (oe : Obj) (pn : List (Addr × Obj)) (hz : Zc (.ref C) d oe) (hv : ∃ vs, oe.data = .fields vs), (hsu ⟨a, d⟩ oe y C pn hy hz hv).choose D σ H
  have hps := ps_try_as (X := Z) (x := x) (n := n) (c := c) (i := i) (np := np) (pos := pos) (pos' := pos') (b₀ := b₀) (suite := suite) (body := [.Expr (.Call (.Name a p1) [] [] p2) p3]) (tb := tb) (ts := ts) rfl rfl Cz.nd hi hln hc Cz.tk (fun W' pn xe tk po => ?_) (fun a oe cls d pn hz hv => ?_)
  · refine ⟨_, hps, fun D0 σ0 HZ xl al S env0 h0 hco wd r0 rX hl q => ⟨h0, hco, xl, al, S, wd, rX, ?_⟩⟩
    unfold mTryC at q
    cases ho : mb envX S with
    | no => rw [ho] at q; exact q.elim
    | ok d S1 =>
      rw [ho] at q
      intro al' H' e w' v rv
      exact q al' H' e w' σ0 (r0.mono e)
    | ex z S1 =>
      rw [ho] at q
      intro al' H' cls dx e w' hx σ' hσ'
      obtain ⟨⟨C, hC, rfl⟩, hdx⟩ := hx
      simp only at q
      split at q
      · rename_i hct
        refine ⟨true, hcat _ _ _ hct hC, fun _ a ha => ?_, fun hb => by cases hb⟩
        refine ⟨z.cls, C, hC, rfl, fun oe pn2 hz hv => ?_⟩
        have hne : exoS i z.cls ms (noneE env0.length) S1 ≠ .no := fun e0 => by rw [e0] at q; exact q
        have q2 := q
        rw [← exoS_at hne ⟨a, dx⟩] at q2
        exact (hsu ⟨a, dx⟩ oe z.cls C pn2 hC hz hv).choose_spec.2 xl al' _ H' S1 _ _ w' ((EnvR.nones (hσ'.trans hl.symm)).set (.exo ⟨a, dx⟩ z.cls hdx) i) (Post.postO (q2.mono e))
      · rename_i hct
        exact ⟨false, hcat _ _ _ hct hC, (fun hb => nomatch hb), fun _ => q al' H' e w' σ' (EnvR.nones (hσ'.trans hl.symm)) (.ref C) dx ⟨⟨C, hC, rfl⟩, hdx⟩⟩
      · exact q.elim
  · refine pss_one ⟨fun pz sz σz Hz D J hz => (ps_expr (pos := p3) (act (p1 := p1) (p2 := p2) (W := fun c d σ' H' => σ'.length = Ng.length → W' c d σ' H') (E := fun c d H' => ∀ σ' : L2.St, σ'.length = Ng.length → W' c d σ' H') (tb := tl (fun c d H' => ∀ σ' : L2.St, σ'.length = Ng.length → W' c d σ' H')) I L hf hfn hfr hbind (takes_len tk) (fun c d σ' H' h => h σ') Cz.rm (fun s2 H2 hr2 => ?_) hN hv hd hcd)).run pz sz σz Hz D J hz⟩
    obtain ⟨t, pt, dt⟩ := hbody (X.A.deeper (envOfC qg sg s.heap.objs.size g cdg)) (envOfC qg sg s.heap.objs.size g cdg :: X.stack) s2 H2 (fun c d H' => ∀ σ' : L2.St, σ'.length = Ng.length → W' c d σ' H') ⟨takes_of rfl rfl rfl rfl, hgd, hr2, rfl, hnd, passes_of rfl⟩
    exact ⟨fun p5 s5 σ5 H5 Q5 J5 ⟨xl, al, S, w5, r5, q5⟩ => pt.run p5 s5 σ5 H5 Q5 J5 (dt xl al σ5 H5 S envX Q5 w5 r5 q5)⟩
  · refine ⟨fun pins s σ H D I h => ?_⟩
    obtain ⟨y, C, hy, hc1, h⟩ := h
    subst hc1
    exact (hsu ⟨a, d⟩ oe y C pn hy hz hv).choose_spec.1.run pins s σ H D I (h oe pn hz hv)
end

section
variable {P : Program} {w : World} {K : PySem.W.Frag} {mg : Str → Option Value} {base : Heap} {cm : CM}
/-- a def's call, its body known at this very state -/
theorem run_defC {x qual : Str} {st : Stmt} {f : Addr} {N ps : List Str} {k : Nat} {oc kV doc pm cdv ct : Value} {od an : Option Addr} {osl : Array (Option Value)} (lk : K.lookup f = some ⟨oc, od, .func (PySem.W.fnOf x qual (defArgs st) (defBody st) (defScope st) .none kV doc pm an cdv ct), osl⟩)
    (hcd : PySem.W.codeIn K cdv qual = true) (Sc : FnScope N ps (defScope st)) {A : Around} {outer : List Env} {s : Shared} {H : Hp} {args : Args} {us : List Value} {vs : List V} {Q : VK} {E : XK}
    (hr : Room (k + 1) A) (hgd : A.guards = some []) (e0 : Env0 P w K mg base A outer s H) (hb : BindsTo s (PySem.W.fnOf x qual (defArgs st) (defBody st) (defScope st) .none kV doc pm an cdv ct) args (ps.zip us)) (rv : Vals vs us) (hl : vs.length = ps.length)
    (body : Ctx (cxOf (L2.CX P w) P w K mg base N qual (defScope st) f cdv A outer s H E) (fun c d _ H => E c d H) k →
      ∃ t, PSs (cxOf (L2.CX P w) P w K mg base N qual (defScope st) f cdv A outer s H E) (defBody st) t ∧ t { nx := fun _ H' => Q .non H', rt := Q } (L2.start N vs) H) :
    codeAny (model P w) A (.call (.ref f) args) (CR (L2.CX P w) outer P w H s Q E) s := by
  have stays : ∀ b o, base.get? b = some o → s.heap.get? b = some o := fun b o e => (e0.bs b o e).1
  have KX : K.In s.heap := e0.mod.kin.keeps stays
  have hkind : ∀ y ∈ ps.zip us, (defScope st).names.lookup y.1 = some .local ∨ ((defScope st).names.lookup y.1 = some .cell ∧ ((cellsFrom (s.heap.objs.size + 1) (defScope st).names []).lookup y.1).isSome = true) := by
    rintro ⟨n, v⟩ hy
    exact (Sc.par n (List.of_mem_zip hy).1).imp id fun q => ⟨q, PySem.W.cellsFrom_some _ _ _ (.inl q)⟩
  refine codeAny_call_function hr.depth (KX _ _ lk) rfl Sc.co Sc.gen rfl (PySem.W.codeRec_of KX hcd) (hb _ _ _ _ (wpAny_newFunctionEnv_cells Sc.kind hkind fun env he s1 x => ?_))
  subst he
  refine ⟨(e0.mod.nolimit.keeps stays).keeps x.toInCall.keep, codeAny_func ?_⟩
  let X : Cx := cxOf (L2.CX P w) P w K mg base N qual (defScope st) f cdv A outer s H E
  obtain ⟨t, ht, q⟩ := body ⟨takes_of (E := E) rfl rfl rfl rfl, hgd, hr.deeper _, rfl, Sc.nd, passes_of rfl⟩
  have I : Inv X [] (L2.start N vs) H s1 := inv_start Sc hr.hd e0 hl rv x
  refine wpAny_mono (ht.run [] s1 _ H _ I q) (fun fl s' hs => ?_) fun _ _ z => z
  have fin : ∀ {σ' : L2.St} {H' : Hp} {v : V} {u : Value}, Inv X [] σ' H' s' → RelV v u → Q v H' → CE outer P w H s Q u s' := fun J rv q => ⟨_, _, J.os, J.bare, J.base, J.hok, rv, q⟩
  cases fl with
  | ret u => obtain ⟨v, σ', H', J, rv, q⟩ := hs; exact fin J rv q
  | next => obtain ⟨σ', H', J, q⟩ := hs; exact fin (v := V.non) (u := Value.none) J rfl q
  | brk => obtain ⟨_, _, _, q⟩ := hs; exact False.elim q
  | cont => obtain ⟨_, _, _, q⟩ := hs; exact False.elim q
theorem run_def {x qual : Str} {st : Stmt} {f : Addr} {fd : FuncData} {N ps : List Str} {k : Nat} (F : Fun K x qual st f fd) (Sc : FnScope N ps (defScope st)) {A : Around} {outer : List Env} {s : Shared} {H : Hp} {args : Args} {us : List Value} {vs : List V} {Q : VK} {E : XK}
    (hr : Room (k + 1) A) (hgd : A.guards = some []) (e0 : Env0 P w K mg base A outer s H) (hb : BindsTo s fd args (ps.zip us)) (rv : Vals vs us) (hl : vs.length = ps.length)
    (body : ∀ cdv : Value, Ctx (cxOf (L2.CX P w) P w K mg base N qual (defScope st) f cdv A outer s H E) (fun c d _ H => E c d H) k →
      ∃ t, PSs (cxOf (L2.CX P w) P w K mg base N qual (defScope st) f cdv A outer s H E) (defBody st) t ∧ t { nx := fun _ H' => Q .non H', rt := Q } (L2.start N vs) H) :
    codeAny (model P w) A (.call (.ref f) args) (CR (L2.CX P w) outer P w H s Q E) s := by
  obtain ⟨oc, od, kV, doc, pm, an, cdv, ct, osl, rfl, lk, hcd⟩ := F.ex
  exact run_defC lk hcd Sc hr hgd e0 hb rv hl (body cdv)
/-- the def that gives the word -/
structure WordA (P : Program) (w : World) (K : PySem.W.Frag) (mg : Str → Option Value) (base : Heap) (cm : CM) (k : Nat) (x : Str) (st : Stmt) (Ng : List Str) (a : Str) (i : Nat) (cat : Str → Option Bool) (ms : ExA → Str → MS) (mr : MS) : Prop where of ::
  d : DAt K mg x x st [a]
  sc : FnScope Ng [a] (defScope st)
  n0 : Ng[0]? = some a
  va : Vis (defScope st) a
  ad : (a == ("__debug__" : Str)) = false
  ac : (a == ("__classdict__" : Str)) = false
  bd : ∃ (p1 p2 p3 np pos pos' : Pos) (xc n : Str) (c : Value) (b₀ : Stmt) (suite rest : List Stmt), defBody st = .Try [.Expr (.Call (.Name a p1) [] [] p2) p3] [.ExceptHandler (some (.Name xc np)) (some n) (b₀ :: suite) pos'] [] [] pos :: rest ∧
    Ng[i]? = some n ∧ (defScope st).names.lookup n = some .local ∧ (∀ (y : Str) (b : Bool) (C : Addr), cat y = some b → cm y = some C → PySem.W.exmOne K (.ref C) c = some b) ∧
    ∀ (g : Addr) (cdv : Value) (A : Around) (outer : List Env) (s : Shared) (H : Hp) (E : XK), Ctx (cxOf (L2.CX P w) P w K mg base Ng x (defScope st) g cdv A outer s H E) (fun c d _ H => E c d H) k →
      Names (cxOf (L2.CX P w) P w K mg base Ng x (defScope st) g cdv A outer s H E) xc c ∧
      (∀ (a : ExA) (oe : Obj) (y : Str) (C : Addr) (pn : List (Addr × Obj)), cm y = some C → Zc (.ref C) a.dx oe → (∃ vs, oe.data = .fields vs) → SsOk ((cxOf (L2.CX P w) P w K mg base Ng x (defScope st) g cdv A outer s H E).suite a.pl ((a.pl, oe) :: pn)) cm noX (b₀ :: suite) (ms a y)) ∧
      SsOk (cxOf (L2.CX P w) P w K mg base Ng x (defScope st) g cdv A outer s H E) cm (fun c d _ H => E c d H) rest mr
end
noncomputable def mWordA (n i : Nat) (cat : Str → Option Bool) (ms : ExA → Str → MS) (mr : MS) (o : DS → Ou D) : DS → Ou D := fun S => dropO S.length (retO (mSeq (mTryC cat i ms o) mr (noneE n) S))
def mLam (mw : (DS → Ou D) → DS → Ou D) (mb : ME) : ME := fun env => mw (mb env)
theorem ext_tabs {al : List Addr} {H H1 : Hp} (e : LamX.ExtN H H1) : Ext al H al H1 := ⟨⟨[], by simp⟩, fun a o _ n h => e a o h n, fun a vs h => by
  rcases h with h | ⟨o, h⟩
  · exact .inl (e a _ h fun _ z => nomatch z)
  · exact .inr ⟨o, e a _ h fun _ z => nomatch z⟩, fun a o h n _ => absurd h n⟩
theorem e_lam {X : Cx} {cm : CM} {W : WX} {k i : Nat} {x a : Str} {st : Stmt} {Ng : List Str} {cat : Str → Option Bool} {ms : ExA → Str → MS} {mr : MS} {mb : ME} {c Pt : Addr} {params : Arguments} {body : Expr} {scope : Scope} {p lpos pos : Pos}
    (Cc : Ctx X W (k + 3)) (G : WordA X.prog X.w X.K X.mg X.base cm (k + 1) x st Ng a i cat ms mr) (hg : Gl X x) (TB : LamX.TabB X.base X.mg c Pt) (hcode : X.env.code = .ref c) (hmT : (Pt, X.env.qual ++ "<lambda>") ∈ TabC.tabs) (hu : ∀ p ∈ TabC.tabs, p.1 = Pt → p.2 = X.env.qual ++ "<lambda>")
    (L : LamX.LamS X.env.scope scope) (hdef : defaultsOf params X.env = ([], [])) (hbind : ∀ (q : Str) (cl : List (Str × Addr)) (pm cv ctv : Value), bindArgs (PySem.W.kla_fn "<lambda>" q params body scope cl pm cv ctv) ⟨[], []⟩ = pure [])
    (hbody : ∀ (f c' : Addr) (A : Around) (outer : List Env) (s2 : Shared) (H2 : Hp) (E2 : XK), Ctx (LamX.lamCx X A outer s2 H2 E2 scope f c') (fun c d _ H => E2 c d H) k → EOk (LamX.lamCx X A outer s2 H2 E2 scope f c') cm (fun c d _ H => E2 c d H) body mb)
    (hdb : (x == ("__debug__" : Str)) = false := by decide) : EOk X cm W (.Call (.Name x p) [.Lambda params body scope lpos] [] pos) (mLam (mWordA Ng.length i cat ms mr) mb) := by
  obtain ⟨g, fd, hm, hk, F, hbn⟩ := G.d.ex
  obtain ⟨p1, p2, p3, np, ps0, ps1, xc, n, cv, b₀, suite, rest, hbd, hi, hln, hcat, hz⟩ := G.bd
  refine ⟨fun σ H Q => ∃ xl al S env, Wd X.K xl S al H ∧ EnvR X.K xl al H env σ ∧ Post X.K cm xl (fun c d H' => W c d σ H') (RE X.K xl Q) (mLam (mWordA Ng.length i cat ms mr) mb env S) al H, ⟨fun pins s σ H Q I h => ?_⟩, fun xl al σ H S env Q w r q => ⟨xl, al, S, env, w, r, q⟩⟩
  obtain ⟨xl, al, S, env, w, r, q⟩ := h
  refine wpAny_Call_Name_kw (ld_glob I hg hm ?_ hdb)
  refine PySem.W.callWith_K (h₀ := X.base) I.ok.mod.kin hk ?_ (by rfl) (by rfl)
  show wpAny _ _ (spliced ((false, eval (.Lambda params body scope lpos) X.env) :: backTo pos (starEach [] X.env))) _ _ s
  refine Calls.spliced_cons (LamX.lam_make2 I TB hcode hmT hu w.tb hdef (L.has I.ok) fun f c' pm' ctv H1 s' I1 eN T1 hf hfn hfr hco => ?_)
  refine Calls.spliced_nil ⟨I1.kIn, ?_⟩
  have e1 : Ext al H al H1 := ext_tabs eN
  have w1 : Wd X.K xl S al H1 := w.keep e1 (fun b hb => by
    obtain ⟨_, _, _, e⟩ := w.at hb
    rw [e, eN b _ e fun _ z => nomatch z]) T1
  refine wpAny_call (codeAny_mono (R := CR (L2.CX X.prog X.w) X.stack X.prog X.w H1 s' Q (fun c d H' => W c d σ H')) ?_ fun r2 s2 hq => ?_)
  · refine run_def (x := x) (N := Ng) (ps := [a]) (us := [.ref f]) (vs := [.ref f]) (k := k + 1) F G.sc (Cc.rm.mono (by omega)) Cc.gd I1.env0 (.of_eq (hbn [.ref f] rfl)) (.cons rfl .nil) rfl fun cdg Cz => ?_
    obtain ⟨hnm, hsu, hre⟩ := hz g cdg X.A X.stack s' H1 (fun c d H' => W c d σ H') Cz
    obtain ⟨tt, pt, dt⟩ := word_try (envX := env) (mb := mb) (cat := cat) (ms := ms) (i := i) (i0 := 0) (a := a) (p1 := p1) (p2 := p2) (p3 := p3) (np := np) (pos := ps0) (pos' := ps1) I1 L hf hfn hfr Cc.gd Cc.nd (hbind _ _ _ _ _) Cz (hbody f c') G.n0 G.va G.ad G.ac hi hln hnm hcat hsu
    obtain ⟨tr, pr, dr⟩ := hre
    refine ⟨tSeq tt tr, by rw [hbd]; exact pss_cons pt pr, ?_⟩
    have hNg : Ng ≠ [] := fun z => by
      have := G.n0
      rw [z] at this
      cases this
    have r0 : EnvR X.K xl al H1 (noneE Ng.length) (L2.start Ng [V.ref f]) := EnvR.nones (by
      unfold L2.start
      have : 0 < Ng.length := List.length_pos_iff.mpr hNg
      simp
      omega)
    refine dt _ _ H1 xl al S (noneE Ng.length) rfl hco w1 r0 (r.mono e1) (by simp [noneE]) ?_
    have q1 := (Post.drop w1 (Post.mono e1 q)).ret
    unfold mSeq at q1
    refine q1.bind.imp fun z S1 al1 H2 e2 w2 q2 σ2 r2 => ?_
    obtain ⟨fl, env1⟩ := z
    cases fl with
    | nx => exact dr xl al1 σ2 H2 S1 env1 _ w2 r2 q2
    | rt d => exact Post.here w2 q2 σ2 r2
    | bk => exact Post.here w2 q2 σ2 r2
    | ct => exact Post.here w2 q2 σ2 r2
    | xc x => exact Post.here w2 q2 σ2 r2
  · cases r2 with
    | error e => exact Cc.tk e s2 (XE.of_call I1 (fun _ _ _ h => h) hq)
    | ok fl =>
      cases fl with
      | ret u => exact I1.after hq
      | next => exact False.elim hq
      | brk => exact False.elim hq
      | cont => exact False.elim hq
end DL

namespace DL
open PySem PySem.Spec PyProof.Rows L2
variable [TabC]

omit [TabC] in
/-- an own class without its own __init__ -/
def ExcAt (K : PySem.W.Frag) (mg : Str → Option Value) (x : Str) : Prop := ∀ C, mg x = some (.ref C) → PySem.W.excIn K C veB "ValueError.__new__" = true
omit [TabC] in
theorem ExcAt.mk {K : PySem.W.Frag} {mg : Str → Option Value} {x : Str} {C : Addr} (h : mg x = some (.ref C)) (e : PySem.W.excIn K C veB "ValueError.__new__" = true) : ExcAt K mg x := fun C' h' => by
  rw [h] at h'
  cases h'
  exact e
/-! the own classes of a text -/
def cmOf (rows : List Str) (mg : Str → Option Value) : CM := fun y => if y ∈ rows then (match mg y with
  | some (.ref C) => some C
  | _ => none) else none
structure ClsIn (K : PySem.W.Frag) (C : Addr) : Prop where of ::
  ec : ExcC K C
  ty : PySem.W.typeIn K (.ref C) = some (.type "type")
  keep : PySem.W.keepIn K (.ref C) = true
  ve : PySem.W.subIn K (.ref C) (.type "ValueError") = some true
structure ClsE (K : PySem.W.Frag) (mg : Str → Option Value) (rows cols : List Str) (anc : Str → Str → Bool) : Prop where of ::
  row : ∀ y ∈ rows, ∃ C, mg y = some (.ref C) ∧ ClsIn K C
  col : ∀ y ∈ cols, ∃ C, mg y = some (.ref C) ∧ ClsIn K C
  sub : ∀ y ∈ rows, ∀ T ∈ cols, ∀ C CT, mg y = some (.ref C) → mg T = some (.ref CT) → PySem.W.subIn K (.ref C) (.ref CT) = some (anc y T)
  self : ∀ y ∈ rows, y ∈ cols ∧ anc y y = true
theorem sub_at {K : PySem.W.Frag} {mg : Str → Option Value} {y T : Str} {A B : Addr} {b : Bool} (hA : mg y = some (.ref A)) (hB : mg T = some (.ref B)) (h : PySem.W.subIn K (.ref A) (.ref B) = some b) :
    ∀ C CT, mg y = some (.ref C) → mg T = some (.ref CT) → PySem.W.subIn K (.ref C) (.ref CT) = some b := fun C CT h1 h2 => by
  rw [hA] at h1
  rw [hB] at h2
  cases h1
  cases h2
  exact h
section
variable {K : PySem.W.Frag} {mg : Str → Option Value} {rows cols : List Str} {anc : Str → Str → Bool}
theorem cm_mg {y : Str} {C : Addr} (h : cmOf rows mg y = some C) : y ∈ rows ∧ mg y = some (.ref C) := by
  unfold cmOf at h
  split at h
  · rename_i hy
    split at h
    · rename_i C' e
      cases h
      exact ⟨hy, e⟩
    · cases h
  · cases h
theorem ClsE.at (G : ClsE K mg rows cols anc) {y : Str} (hy : y ∈ rows) : ∃ C, ClsAt K mg (cmOf rows mg) y C := by
  obtain ⟨C, h1, h2⟩ := G.row y hy
  exact ⟨C, by unfold cmOf; rw [if_pos hy, h1], h1, h2.keep, h2.ec.hs, h2.ty, h2.ec⟩
theorem ClsE.ec (G : ClsE K mg rows cols anc) {y : Str} {C : Addr} (h : cmOf rows mg y = some C) : ClsIn K C := by
  obtain ⟨hy, e⟩ := cm_mg h
  obtain ⟨C', h1, h2⟩ := G.row y hy
  rw [e] at h1
  cases h1
  exact h2
theorem ClsE.subs (G : ClsE K mg rows cols anc) {y T : Str} {C CT : Addr} (hT : T ∈ cols) (hm : mg T = some (.ref CT)) (h : cmOf rows mg y = some C) : PySem.W.subIn K (.ref C) (.ref CT) = some (anc y T) := by
  obtain ⟨hy, e⟩ := cm_mg h
  exact G.sub y hy T hT C CT e hm
theorem ClsE.exm (G : ClsE K mg rows cols anc) {y T : Str} {C CT : Addr} (hT : T ∈ cols) (hm : mg T = some (.ref CT)) (h : cmOf rows mg y = some C) : PySem.W.exmOne K (.ref C) (.ref CT) = some (anc y T) := by
  obtain ⟨C', h1, h2⟩ := G.col T hT
  rw [hm] at h1
  cases h1
  exact PySem.W.exm_ref h2.ec.hs h2.ec.hd h2.ty (G.subs hT hm h)
theorem ClsE.kit (G : ClsE K mg rows cols anc) {y T : Str} {C CT : Addr} (hT : T ∈ cols) (hm : mg T = some (.ref CT)) (h : cmOf rows mg y = some C) : PySem.W.kitOne K (.ref C) (.ref CT) = some (anc y T) := by
  obtain ⟨C', h1, h2⟩ := G.col T hT
  rw [hm] at h1
  cases h1
  have e := G.exm hT hm h
  have e1 : (PySem.W.subIn K (.ref CT) (.type "BaseException") == some true) = true := by rw [h2.ec.hs] <;> rfl
  unfold PySem.W.exmOne at e
  rw [if_pos e1] at e
  unfold PySem.W.kitOne
  split
  · rename_i heq
    have hc : Value.ref C = Value.ref CT := by simpa using heq
    cases hc
    obtain ⟨hy, hmy⟩ := cm_mg h
    obtain ⟨hyc, hs⟩ := G.self y hy
    rw [← G.subs hT hm h, G.subs hyc hmy h, hs]
  · exact e
theorem ClsE.kitVE (G : ClsE K mg rows cols anc) {y : Str} {C : Addr} (h : cmOf rows mg y = some C) : PySem.W.kitOne K (.ref C) (.type "ValueError") = some true := by
  have e := (G.ec h).ve
  unfold PySem.W.kitOne
  rw [if_neg (by simp)]
  show (if PySem.W.kitMeta "ValueError" = true then _ else none) = _
  rw [if_pos (by decide +kernel)]
  exact e
end
section
variable {X : Cx} {rows cols : List Str} {anc : Str → Str → Bool}
theorem s_raiseE {W : WX} {k : Nat} {x : Str} {p pos pos2 : Pos} (Cc : Ctx X W k) (G : ClsE X.K X.mg rows cols anc) (hx : x ∈ rows) (hE : ExcAt X.K X.mg x) (hg : Gl X x) (hdb : (x == ("__debug__" : Str)) = false := by decide) :
    SOk X (cmOf rows X.mg) W (.Raise (some (.Call (.Name x p) [] [] pos)) none pos2) (mRaise x) := by
  obtain ⟨C, h⟩ := G.at hx
  exact s_raise Cc h (hE C h.mg) hg hdb
variable {W : WX} {a : ExA} {oe : Obj} {y : Str} {C : Addr} {pn : List (Addr × Obj)} {e : Expr} {me : ME} {p p2 pos : Pos} {xT : Str}
theorem e_isaE (G : ClsE X.K X.mg rows cols anc) (hT : xT ∈ cols) (hy : cmOf rows X.mg y = some C) (hz : Zc (.ref C) a.dx oe) (hv : ∃ vs, oe.data = .fields vs) (hg : Gl X "isinstance") (hm : X.mg "isinstance" = none) (hgT : Gl X xT)
    (he : EOk (X.suite a.pl ((a.pl, oe) :: pn)) (cmOf rows X.mg) W e me) (hd : (xT == ("__debug__" : Str)) = false := by decide)
    (hs1 : starEach [e, .Name xT p2] X.env = (false, eval e X.env) :: starEach [.Name xT p2] X.env := by rfl) (hs2 : starEach [.Name xT p2] X.env = (false, eval (.Name xT p2) X.env) :: starEach [] X.env := by rfl)
    (hpl : (backTo pos (starEach [.Name xT p2] X.env)).any (·.1) = false := by rfl) : EOk (X.suite a.pl ((a.pl, oe) :: pn)) (cmOf rows X.mg) W (.Call (.Name "isinstance" p) [e, .Name xT p2] [] pos) (mIsE a y (some (anc y xT)) me) := by
  obtain ⟨CT, hmT, _⟩ := G.col xT hT
  exact e_isE (CT := CT) (G.ec hy).ec hz hv hg hm hgT hmT (fun b' hb => by cases hb; exact G.kit hT hmT hy) he hd hs1 hs2 hpl
theorem e_isaV (G : ClsE X.K X.mg rows cols anc) (hy : cmOf rows X.mg y = some C) (hz : Zc (.ref C) a.dx oe) (hv : ∃ vs, oe.data = .fields vs) (hg : Gl X "isinstance") (hm : X.mg "isinstance" = none) (hgT : Gl X "ValueError") (hmT : X.mg "ValueError" = none)
    (he : EOk (X.suite a.pl ((a.pl, oe) :: pn)) (cmOf rows X.mg) W e me)
    (hs1 : starEach [e, .Name "ValueError" p2] X.env = (false, eval e X.env) :: starEach [.Name "ValueError" p2] X.env := by rfl) (hs2 : starEach [.Name "ValueError" p2] X.env = (false, eval (.Name "ValueError" p2) X.env) :: starEach [] X.env := by rfl)
    (hpl : (backTo pos (starEach [.Name "ValueError" p2] X.env)).any (·.1) = false := by rfl) : EOk (X.suite a.pl ((a.pl, oe) :: pn)) (cmOf rows X.mg) W (.Call (.Name "isinstance" p) [e, .Name "ValueError" p2] [] pos) (mIsE a y (some true) me) := by
  exact e_isEB (TN := "ValueError") (G.ec hy).ec hz hv hg hm hgT hmT rfl (fun b' hb => by cases hb; exact G.kitVE hy) he (by decide) (by decide) hs1 hs2 hpl
end
/-! a def whose code object is known -/
structure DAtL (K : PySem.W.Frag) (mg : Str → Option Value) (x name : Str) (st : Stmt) (ps : List Str) (c : Addr) : Prop where of ::
  ex : ∃ (f : Addr) (oc : Value) (od : Option Addr) (kV doc pm : Value) (an : Option Addr) (ct : Value) (osl : Array (Option Value)), mg x = some (.ref f) ∧ PySem.W.keepIn K (.ref f) = true ∧
    K.lookup f = some ⟨oc, od, .func (PySem.W.fnOf name name (defArgs st) (defBody st) (defScope st) .none kV doc pm an (.ref c) ct), osl⟩ ∧ PySem.W.codeIn K (.ref c) name = true ∧
    ∀ us : List Value, us.length = ps.length → bindArgs (PySem.W.fnOf name name (defArgs st) (defBody st) (defScope st) .none kV doc pm an (.ref c) ct) ⟨us, []⟩ = pure (ps.zip us)
theorem DAtL.mk {K : PySem.W.Frag} {mg : Str → Option Value} {x name : Str} {st : Stmt} {ps : List Str} {f c : Addr} {oc kV doc pm ct : Value} {od an : Option Addr} {osl : Array (Option Value)} (h : mg x = some (.ref f)) (k : PySem.W.keepIn K (.ref f) = true)
    (l : K.lookup f = some ⟨oc, od, .func (PySem.W.fnOf name name (defArgs st) (defBody st) (defScope st) .none kV doc pm an (.ref c) ct), osl⟩) (hc : PySem.W.codeIn K (.ref c) name = true)
    (hb : ∀ (kV doc pm : Value) (an : Option Addr) (cdv ct : Value) (us : List Value), us.length = ps.length → bindArgs (PySem.W.fnOf name name (defArgs st) (defBody st) (defScope st) .none kV doc pm an cdv ct) ⟨us, []⟩ = pure (ps.zip us)) : DAtL K mg x name st ps c :=
  ⟨f, oc, od, kV, doc, pm, an, ct, osl, h, k, l, hc, hb _ _ _ _ _ _⟩
section
variable {P : Program} {w : World} {K : PySem.W.Frag} {mg : Str → Option Value} {base : Heap} {cm : CM} {x name : Str} {st : Stmt} {ps N : List Str} {k : Nat} {mb : MS} {c : Addr}
theorem fnG_ofC {f : Addr} {oc kV doc pm ct : Value} {od an : Option Addr} {osl : Array (Option Value)} {mf : List D → DS → Ou D} (lk : K.lookup f = some ⟨oc, od, .func (PySem.W.fnOf name name (defArgs st) (defBody st) (defScope st) .none kV doc pm an (.ref c) ct), osl⟩) (hcd : PySem.W.codeIn K (.ref c) name = true)
    (Sc : FnScope N ps (defScope st)) (hlen : ∀ ds S, mf ds S ≠ .no → ds.length = ps.length)
    (hmf : ∀ xl al H S ds (Q : VK) (E : XK), Wd K xl S al H → Post K cm xl E (RE K xl Q) (mf ds S) al H → Post K cm xl E (RE K xl Q) (retO (mb (startE N.length ds) S)) al H)
    (body : ∀ (A : Around) (outer : List Env) (s : Shared) (H : Hp) (E : XK), Ctx (cxOf (L2.CX P w) P w K mg base N name (defScope st) f (.ref c) A outer s H E) (fun c d _ H => E c d H) k →
      SsOk (cxOf (L2.CX P w) P w K mg base N name (defScope st) f (.ref c) A outer s H E) cm (fun c d _ H => E c d H) (defBody st) mb) :
    FnG P w K mg base cm (k + 1) f (PySem.W.fnOf name name (defArgs st) (defBody st) (defScope st) .none kV doc pm an (.ref c) ct) ps mf := by
  refine ⟨hlen, fun A outer s H args us vs Q E xl al S ds hr hgd e0 hb rv wd rd p => ?_⟩
  have hne : mf ds S ≠ .no := fun z => by rw [z] at p; exact p
  have hl : vs.length = ps.length := by rw [← rd.length]; exact hlen ds S hne
  refine run_defC lk hcd Sc hr hgd e0 hb rv hl fun C => ?_
  obtain ⟨t, ht, hd⟩ := body A outer s H E C
  exact ⟨t, ht, hd xl al _ H S (startE N.length ds) _ wd (start_env rd) (Post.ret (hmf xl al H S ds Q E wd p))⟩
theorem DAtL.okM (G : DAtL K mg x name st ps c) (Sc : FnScope N ps (defScope st))
    (body : ∀ (f : Addr) (A : Around) (outer : List Env) (s : Shared) (H : Hp) (E : XK), Ctx (cxOf (L2.CX P w) P w K mg base N name (defScope st) f (.ref c) A outer s H E) (fun c d _ H => E c d H) k →
      SsOk (cxOf (L2.CX P w) P w K mg base N name (defScope st) f (.ref c) A outer s H E) cm (fun c d _ H => E c d H) (defBody st) mb) : FnC P w K mg base cm (k + 1) x (defM ps.length N.length mb) := by
  obtain ⟨f, oc, od, kV, doc, pm, an, ct, osl, h1, h2, lk, hcd, hb⟩ := G.ex
  exact ⟨f, _, ps, h1, h2, .all hb, fnG_ofC lk hcd Sc defM_len defM_post (body f), ⟨_, _, _, lk⟩⟩
theorem DAtL.okD (G : DAtL K mg x name st ps c) (Sc : FnScope N ps (defScope st))
    (body : ∀ (f : Addr) (A : Around) (outer : List Env) (s : Shared) (H : Hp) (E : XK), Ctx (cxOf (L2.CX P w) P w K mg base N name (defScope st) f (.ref c) A outer s H E) (fun c d _ H => E c d H) k →
      SsOk (cxOf (L2.CX P w) P w K mg base N name (defScope st) f (.ref c) A outer s H E) cm (fun c d _ H => E c d H) (defBody st) mb) : FnC P w K mg base cm (k + 1) x (defD ps.length N.length mb) := by
  obtain ⟨f, oc, od, kV, doc, pm, an, ct, osl, h1, h2, lk, hcd, hb⟩ := G.ex
  exact ⟨f, _, ps, h1, h2, .all hb, fnG_ofC lk hcd Sc defD_len defD_post (body f), ⟨_, _, _, lk⟩⟩
end
theorem tab_mem {Pt : Addr} {q q' : Str} (HT : TabC.tabs = [(Pt, q)]) (h : q' = q := by rfl) : (Pt, q') ∈ TabC.tabs := by rw [HT, h]; exact List.mem_cons_self
theorem tab_uni {Pt : Addr} {q q' : Str} (HT : TabC.tabs = [(Pt, q)]) (h : q' = q := by rfl) : ∀ p ∈ TabC.tabs, p.1 = Pt → p.2 = q' := fun p hp _ => by
  rw [HT] at hp
  rw [List.mem_singleton.mp hp, h]
end DL

namespace DL
open PySem PySem.Spec PyProof.Rows L2
variable [TabC]

/-! what an except suite knows of its context -/
structure CtxS (X : Cx) : Prop where
  un : X.A.units + 64 < cLine
  un1 : X.A.units + 65 < cLine
  gd : X.A.guards = some []
  nd : X.N.Nodup
section
variable {X : Cx} {W : WX} {k : Nat}
theorem Ctx.suite (C : Ctx X W k) (a : Addr) (pn : List (Addr × Obj)) : CtxS (X.suite a pn) := ⟨C.un, C.un1, C.gd, C.nd⟩
end
section
variable {rows cols : List Str} {anc : Str → Str → Bool}
theorem s_tryE {X : Cx} {W : WX} {k i : Nat} {x n : Str} {body suite : List Stmt} {b₀ : Stmt} {np pos pos' : Pos} {mb : MS} {ms : ExA → Str → MS} (Cc : Ctx X W k) (G : ClsE X.K X.mg rows cols anc) (hx : x ∈ cols)
    (hs : X.stack = X.env :: X.outer) (hf : X.env.frame = some X.env.locals) (hi : X.N[i]? = some n) (hln : X.env.kindOf n = some .local) (hg : Gl X x)
    (hb : ∀ (W' : WX) (pn : List (Addr × Obj)) (xe : Value → Shared → Prop), Ctx (X.tr pn xe) W' k → SsOk (X.tr pn xe) (cmOf rows X.mg) W' body mb)
    (hsu : ∀ (a : ExA) (oe : Obj) (y : Str) (C : Addr) (pn : List (Addr × Obj)), cmOf rows X.mg y = some C → Zc (.ref C) a.dx oe → (∃ vs, oe.data = .fields vs) → SsOk (X.suite a.pl ((a.pl, oe) :: pn)) (cmOf rows X.mg) noX (b₀ :: suite) (ms a y))
    (hdb : (x == ("__debug__" : Str)) = false := by decide) :
    SOk X (cmOf rows X.mg) W (.Try body [.ExceptHandler (some (.Name x np)) (some n) (b₀ :: suite) pos'] [] [] pos) (mTry (fun y => some (anc y x)) i mb ms) := by
  obtain ⟨CT, hmT, _⟩ := G.col x hx
  exact s_try (c := .ref CT) Cc hs hf hi hln ⟨hg, hdb, .inl hmT⟩ (fun y b C hb hC => by cases hb; exact G.exm hx hmT hC) hb hsu
theorem wordE {P : Program} {w : World} {K : PySem.W.Frag} {mg : Str → Option Value} {base : Heap} {k : Nat} {x : Str} {st : Stmt} {Ng : List Str} {a : Str} {i : Nat} {ms : ExA → Str → MS} {mr : MS} {xc n : Str} {b₀ : Stmt} {suite rest : List Stmt}
    {p1 p2 p3 np pos pos' : Pos} (G : ClsE K mg rows cols anc) (hx : xc ∈ cols) (d : DAt K mg x x st [a]) (sc : FnScope Ng [a] (defScope st)) (n0 : Ng[0]? = some a) (va : Vis (defScope st) a)
    (hbd : defBody st = .Try [.Expr (.Call (.Name a p1) [] [] p2) p3] [.ExceptHandler (some (.Name xc np)) (some n) (b₀ :: suite) pos'] [] [] pos :: rest)
    (hi : Ng[i]? = some n) (hln : (defScope st).names.lookup n = some .local) (hgl : ∀ (g : Addr) (cdv : Value) (A : Around) (outer : List Env) (s : Shared) (H : Hp) (E : XK), Gl (cxOf (L2.CX P w) P w K mg base Ng x (defScope st) g cdv A outer s H E) xc)
    (hsu : ∀ (g : Addr) (cdv : Value) (A : Around) (outer : List Env) (s : Shared) (H : Hp) (E : XK), Ctx (cxOf (L2.CX P w) P w K mg base Ng x (defScope st) g cdv A outer s H E) (fun c d _ H => E c d H) k →
      ∀ (a : ExA) (oe : Obj) (y : Str) (C : Addr) (pn : List (Addr × Obj)), cmOf rows mg y = some C → Zc (.ref C) a.dx oe → (∃ vs, oe.data = .fields vs) → SsOk ((cxOf (L2.CX P w) P w K mg base Ng x (defScope st) g cdv A outer s H E).suite a.pl ((a.pl, oe) :: pn)) (cmOf rows mg) noX (b₀ :: suite) (ms a y))
    (hre : ∀ (g : Addr) (cdv : Value) (A : Around) (outer : List Env) (s : Shared) (H : Hp) (E : XK), Ctx (cxOf (L2.CX P w) P w K mg base Ng x (defScope st) g cdv A outer s H E) (fun c d _ H => E c d H) k →
      SsOk (cxOf (L2.CX P w) P w K mg base Ng x (defScope st) g cdv A outer s H E) (cmOf rows mg) (fun c d _ H => E c d H) rest mr)
    (hda : (a == ("__debug__" : Str)) = false := by decide) (hca : (a == ("__classdict__" : Str)) = false := by decide) (hdb : (xc == ("__debug__" : Str)) = false := by decide) :
    WordA P w K mg base (cmOf rows mg) k x st Ng a i (fun y => some (anc y xc)) ms mr := by
  obtain ⟨CT, hmT, _⟩ := G.col xc hx
  exact ⟨d, sc, n0, va, hda, hca, ⟨p1, p2, p3, np, pos, pos', xc, n, .ref CT, b₀, suite, rest, hbd, hi, hln, fun y b C hb hC => by cases hb; exact G.exm hx hmT hC, fun g cdv A outer s H E C => ⟨⟨hgl g cdv A outer s H E, hdb, .inl hmT⟩, hsu g cdv A outer s H E C, hre g cdv A outer s H E C⟩⟩⟩
end
theorem tab_memT {Pt : Addr} {q q' : Str} (h : (Pt, q) ∈ TabC.tabs) (e : q' = q := by rfl) : (Pt, q') ∈ TabC.tabs := by rw [e]; exact h
theorem tab_uniT {Pt : Addr} {q q' : Str} (h : ∀ p ∈ TabC.tabs, p.1 = Pt → p.2 = q) (e : q' = q := by rfl) : ∀ p ∈ TabC.tabs, p.1 = Pt → p.2 = q' := by rw [e]; exact h
section
variable {P : Program} {w : World} {K : PySem.W.Frag} {mg : Str → Option Value} {cm : CM} {x name : Str} {st : Stmt} {N : List Str} {k : Nat} {mb : MS} {c : Addr}
theorem DAtL.lawM {y : Str} {fa : Addr} {cs : List (Addr × Addr)} (G : DAtL K mg x name st [y] c) (Sc : FnScope N [y] (defScope st))
    (body : ∀ (base : Heap) (HB : ∀ p ∈ cs, LamX.TabB base mg p.1 p.2) (f : Addr) (A : Around) (outer : List Env) (s : Shared) (H : Hp) (E : XK), Ctx (cxOf (L2.CX P w) P w K mg base N name (defScope st) f (.ref c) A outer s H E) (fun c d _ H => E c d H) k →
      SsOk (cxOf (L2.CX P w) P w K mg base N name (defScope st) f (.ref c) A outer s H E) cm (fun c d _ H => E c d H) (defBody st) mb) (hm : mg x = some (.ref fa)) : LawF P w K mg cm (k + 1) fa y cs (defM [y].length N.length mb) := by
  obtain ⟨f, oc, od, kV, doc, pm, an, ct, osl, h1, h2, lk, hcd, hb⟩ := G.ex
  rw [hm] at h1; cases h1
  exact ⟨_, fun s u => .of_eq (hb [u] rfl), fun base hK hN HB => fnG_ofC lk hcd Sc defM_len defM_post (body base HB fa)⟩
theorem DAtL.lawD {y : Str} {fa : Addr} {cs : List (Addr × Addr)} (G : DAtL K mg x name st [y] c) (Sc : FnScope N [y] (defScope st))
    (body : ∀ (base : Heap) (HB : ∀ p ∈ cs, LamX.TabB base mg p.1 p.2) (f : Addr) (A : Around) (outer : List Env) (s : Shared) (H : Hp) (E : XK), Ctx (cxOf (L2.CX P w) P w K mg base N name (defScope st) f (.ref c) A outer s H E) (fun c d _ H => E c d H) k →
      SsOk (cxOf (L2.CX P w) P w K mg base N name (defScope st) f (.ref c) A outer s H E) cm (fun c d _ H => E c d H) (defBody st) mb) (hm : mg x = some (.ref fa)) : LawF P w K mg cm (k + 1) fa y cs (defD [y].length N.length mb) := by
  obtain ⟨f, oc, od, kV, doc, pm, an, ct, osl, h1, h2, lk, hcd, hb⟩ := G.ex
  rw [hm] at h1; cases h1
  exact ⟨_, fun s u => .of_eq (hb [u] rfl), fun base hK hN HB => fnG_ofC lk hcd Sc defD_len defD_post (body base HB fa)⟩
end
/-! the head's facts of tables -/
theorem tbHead_nil {K : PySem.W.Frag} {h : Heap} : TbHead K h [] := TbHead.nil
theorem tbHead_cons {K : PySem.W.Frag} {h : Heap} {c t : Addr} {cs : List (Addr × Addr)} (KX : K.In h) (ho : h.get? t = some (PySem.W.tabObj #[])) (hl : K.lookup t = none) (hc : PySem.W.codeHdIn K c t = true) (T : TbHead K h cs) : TbHead K h ((c, t) :: cs) :=
  ⟨fun p hp => by
    rcases List.mem_cons.mp hp with e | hp
    · rw [e]; exact ho
    · exact T.obj p hp, fun p hp => by
    rcases List.mem_cons.mp hp with e | hp
    · rw [e]; exact hl
    · exact T.out p hp, fun p hp => by
    rcases List.mem_cons.mp hp with e | hp
    · rw [e]; exact PySem.W.codeHd_of_K KX hc
    · exact T.hd p hp⟩
end DL

namespace DL
open PySem PySem.Spec PyProof.Rows L2
variable [TabC]
/-- [..] + [..] that will be changed -/
def addR (x y : D) (S : DS) : Ou D := match x, y with
  | .vl a, .vl b => if a.length + b.length ≤ sizeLine then .ok (.ref S.length) (S ++ [.lst (a ++ b)]) else .no
  | .ref i, .vl b => match S[i]? with
    | some (DO.lst a) => if a.length + b.length ≤ sizeLine then .ok (.ref S.length) (S ++ [.lst (a ++ b)]) else .no
    | none => .no
  | _, _ => .no
theorem o_addR {X : Cx} {cm : CM} : OOk X cm (binaryOp .Add) addR := by
  refine ⟨_, op_cat, fun xl al H S x y v u Q W0 w rv ru p => ?_⟩
  unfold addR at p
  split at p
  · obtain ⟨a, vs, rfl, ha, na, nxa, r1⟩ := rep_ref_lst rv
    obtain ⟨b, us, rfl, hb, nb, nxb, r2⟩ := rep_ref_lst ru
    split at p
    · rename_i hl
      refine ⟨a, b, vs, us, rfl, rfl, ha, hb, by rw [← r1.length, ← r2.length]; exact hl, fun q hq => ?_⟩
      exact p (al ++ [q]) _ (ext_ref w hq) (w.addRef hq (r1.append r2)) _ (Rep.newRef' w)
    · exact p.elim
  · obtain ⟨b, us, rfl, hb, nb, nxb, r2⟩ := rep_ref_lst ru
    split at p
    · rename_i ys e
      cases rv with
      | ref h =>
        obtain ⟨a, vs, h1, ha, r1⟩ := w.list e
        rw [h] at h1; cases h1
        split at p
        · rename_i hl
          refine ⟨_, b, vs, us, rfl, rfl, ha, hb, by rw [← r1.length, ← r2.length]; exact hl, fun q hq => ?_⟩
          exact p (al ++ [q]) _ (ext_ref w hq) (w.addRef hq (r1.append r2)) _ (Rep.newRef' w)
        · exact p.elim
    · exact p.elim
  · exact p.elim
/-! in, not in: lists that may be changed, too -/
def inSD (S : DS) (x y : D) : Option Bool := match toPy x, toPyS S y with
  | some d, some (.list ds) => if SeqAt.shaped d = true ∧ SeqAt.shaped (.list ds) = true then some (ds.any fun z => PyData.eqv z d) else none
  | some d, some (.tuple ds) => if SeqAt.shaped d = true ∧ SeqAt.shaped (.list ds) = true then some (ds.any fun z => PyData.eqv z d) else none
  | _, _ => none
def inS (x y : D) (S : DS) : Ou D := match inSD S x y with
  | some b => .ok (.bl b) S
  | none => .no
def ninS (x y : D) (S : DS) : Ou D := match inSD S x y with
  | some b => .ok (.bl (!b)) S
  | none => .no
section
variable {X : Cx} {cm : CM}
theorem inSD_rep {K : PySem.W.Frag} {xl al : List Addr} {H : Hp} {S : DS} {x y : D} {v u : V} {b : Bool} (w : Wd K xl S al H) (h : inSD S x y = some b) (rv : Rep K xl al H x v) (ru : Rep K xl al H y u) :
    ∃ d ds, Dp K H v d ∧ (Dp K H u (.list ds) ∨ Dp K H u (.tuple ds)) ∧ SeqAt.shaped d = true ∧ SeqAt.shaped (.list ds) = true ∧ b = ds.any fun z => PyData.eqv z d := by
  unfold inSD at h
  split at h
  · rename_i d ds e1 e2
    split at h
    · rename_i hs
      cases h
      exact ⟨d, ds, rv.dp e1, .inl (toPyS_dp w ru e2), hs.1, hs.2, rfl⟩
    · cases h
  · rename_i d ds e1 e2
    split at h
    · rename_i hs
      cases h
      exact ⟨d, ds, rv.dp e1, .inr (toPyS_dp w ru e2), hs.1, hs.2, rfl⟩
    · cases h
  · cases h
theorem o_inS (hu : X.A.units + 65 < cLine) : OOk X cm (compareOp .In) inS := by
  refine ⟨_, op_inT false hu, fun xl al H S x y v u Q W0 w rv ru p => ?_⟩
  unfold inS at p
  split at p
  · rename_i b e
    obtain ⟨d, ds, h1, h2, h3, h4, rfl⟩ := inSD_rep w e rv ru
    exact ⟨d, ds, h1, h2, h3, h4, p.here w _ (.bl _)⟩
  · exact p.elim
theorem o_ninS (hu : X.A.units + 65 < cLine) : OOk X cm (compareOp .NotIn) ninS := by
  refine ⟨_, op_inT true hu, fun xl al H S x y v u Q W0 w rv ru p => ?_⟩
  unfold ninS at p
  split at p
  · rename_i b e
    obtain ⟨d, ds, h1, h2, h3, h4, rfl⟩ := inSD_rep w e rv ru
    exact ⟨d, ds, h1, h2, h3, h4, p.here w _ (.bl _)⟩
  · exact p.elim
end
end DL

namespace DL
open PySem PySem.Spec PyProof.Rows L2
/-! errors of own classes that keep one field -/
/-- a def in a class's body -/
def clsS (s : Stmt) (j : Nat) : Stmt := match s with
  | .ClassDef _ _ _ b _ _ _ _ _ _ _ => b.getD j (.Pass ⟨0, 0, 0, 0⟩)
  | s => s
/-- class x(..): def __init__(self, y): self.g = y -/
structure FldAt (K : PySem.W.Frag) (mg : Str → Option Value) (x q g y : Str) (st : Stmt) : Prop where of ::
  ex : ∃ (C fI : Addr) (fd : FuncData), mg x = some (.ref C) ∧ OexC K C ∧ PySem.W.findIn K (.ref C) "__init__" = some (some (.ref fI)) ∧ PySem.W.typeIn K (.ref fI) = some (.type "function") ∧ PySem.W.findIn K (.ref C) g = some none ∧ Fun K "__init__" q st fI fd ∧ Binds K fd ["self", y] []
  sc : FnScope ["self", y] ["self", y] (defScope st)
  bd : ∃ p1 p2 p3 pos : Pos, defBody st = [.Assign [.Attribute (.Name "self" p1) g p2] (.Name y p3) pos]
  ve : Vis (defScope st) y
  vs : Vis (defScope st) "self"
  yd : (y == ("__debug__" : Str)) = false
  yc : (y == ("__classdict__" : Str)) = false
theorem FldAt.fact {K : PySem.W.Frag} {mg : Str → Option Value} {x q g y : Str} {st : Stmt} {C N fI : Addr} {nm qn : Str} {bs bm sb : List Value} {sn : List Str} {ab : Bool} {col : Option Bool} {dd od an : Option Addr} {k0 k1 k2 k3 k5 : Option Value} {oc kV doc pm cdv ct : Value} {osl : Array (Option Value)}
    (h : mg x = some (.ref C)) (ic : ClsIn K C) (e : K.lookup C = some (excClassObj nm qn C N bs bm true sn sb ab col dd k0 k1 k2 k3 k5 "ValueError.__new__")) (r : PySem.HandSPX.refsVE bm = true) (sa : PySem.W.findIn K (.ref C) "__setattr__" = some (some (.builtin "object.__setattr__")))
    (ii : PySem.W.findIn K (.ref C) "__init__" = some (some (.ref fI))) (ti : PySem.W.typeIn K (.ref fI) = some (.type "function")) (no : PySem.W.findIn K (.ref C) g = some none)
    (l : K.lookup fI = some ⟨oc, od, .func (PySem.W.fnOf "__init__" q (defArgs st) (defBody st) (defScope st) .none kV doc pm an cdv ct), osl⟩) (hc : PySem.W.codeIn K cdv q = true) (k : PySem.W.keepIn K (.ref fI) = true)
    (hb : ∀ (kV doc pm : Value) (an : Option Addr) (cdv ct : Value) (us : List Value), us.length = 2 → bindArgs (PySem.W.fnOf "__init__" q (defArgs st) (defBody st) (defScope st) .none kV doc pm an cdv ct) ⟨us, []⟩ = pure ((["self", y] : List Str).zip us))
    (sc : FnScope ["self", y] ["self", y] (defScope st)) (bd : ∃ p1 p2 p3 pos : Pos, defBody st = [.Assign [.Attribute (.Name "self" p1) g p2] (.Name y p3) pos]) (ve : Vis (defScope st) y) (vs : Vis (defScope st) "self")
    (yd : (y == ("__debug__" : Str)) = false) (yc : (y == ("__classdict__" : Str)) = false) : FldAt K mg x q g y st :=
  ⟨⟨C, fI, _, h, ⟨⟨nm, qn, N, bs, bm, sn, sb, ab, col, dd, k0, k1, k2, k3, k5, e, r⟩, sa, ic.ec.hs, ic.ty, ic.keep⟩, ii, ti, no, fun_mk l hc k, .all (hb _ _ _ _ _ _)⟩, sc, bd, ve, vs, yd, yc⟩
def spI (K : PySem.W.Frag) (C : Addr) (g : Str) : Sp := fun vs H Q _ => ∃ (a : Addr) (v : V), vs = [.ref a, v] ∧ H a = some (exo a C none) ∧ ∀ dx, H dx = none → dx ≠ a → Q .non (upd (upd H dx (exd dx [(g, v)])) a (exo a C (some dx)))
section
variable {P : Program} {w : World} {K : PySem.W.Frag} {mg : Str → Option Value} {base : Heap}
theorem fld_ok {x q g y : Str} {st : Stmt} {C fI : Addr} {fd : FuncData} (G : FldAt K mg x q g y st) (T : OexC K C) (hno : PySem.W.findIn K (.ref C) g = some none) (F : Fun K "__init__" q st fI fd) : FnOk P w K mg base (L2.CX P w) 1 fI fd ["self", y] (spI K C g) := by
  refine Fun.okX F G.sc (fun vs H Q E ⟨a, v, e, _⟩ => by rw [e]; rfl) (fun cdv A outer s H vs Q E hr hsp => ?_)
  obtain ⟨a, v, rfl, ha, k⟩ := hsp
  obtain ⟨p1, p2, p3, pos, hb⟩ := G.bd
  have pv : PE (cxOf (L2.CX P w) P w K mg base ["self", y] q (defScope st) fI cdv A outer s H E) (.Name y p3) _ := pe_var (i := 1) rfl G.ve G.yd G.yc
  have ps : PE (cxOf (L2.CX P w) P w K mg base ["self", y] q (defScope st) fI cdv A outer s H E) (.Name "self" p1) _ := pe_var (i := 0) rfl G.vs (by decide) (by decide)
  refine ⟨_, by rw [hb]; exact pss_one (ps_ost ps pv), ?_⟩
  refine ⟨v, rfl, .ref a, rfl, a, C, rfl, T, hno, .inl ⟨ha, fun dx h1 h2 => ?_⟩⟩
  exact k dx h1 h2
end
variable [TabC]
def mRaiseF (x g : Str) (ma : MA) : MS := fun env S => lift (ma env S) env fun ds S1 => match ds with
  | [d] => .ok (.xc ⟨x, [(g, d)]⟩, env) S1
  | _ => .no
section
variable {X : Cx} {rows cols : List Str} {anc : Str → Str → Bool}
theorem s_raiseF {W : WX} {k : Nat} {x q g y : Str} {st : Stmt} {e : Expr} {es : List Expr} {ma : MA} {p pos pos2 : Pos} (Cc : Ctx X W (k + 2)) (G : ClsE X.K X.mg rows cols anc) (hx : x ∈ rows) (F : FldAt X.K X.mg x q g y st) (hg : Gl X x)
    (ha : AOk X (cmOf rows X.mg) W (e :: es) ma) (hdb : (x == ("__debug__" : Str)) = false := by decide) (he : starEach (e :: es) X.env = (false, eval e X.env) :: starEach es X.env := by rfl) (hpl : (backTo pos (starEach es X.env)).any (·.1) = false := by rfl) :
    SOk X (cmOf rows X.mg) W (.Raise (some (.Call (.Name x p) (e :: es) [] pos)) none pos2) (mRaiseF x g ma) := by
  obtain ⟨C, fI, fd, hm, T, iC, tI, hno, FI, hb⟩ := F.ex
  obtain ⟨C', h⟩ := G.at hx
  have eC : C' = C := by
    have := h.mg
    rw [hm] at this
    cases this
    rfl
  subst eC
  obtain ⟨t, pa, d⟩ := ha
  refine ⟨_, ps_raise Cc.calm Cc.tk (pmk_oex (ds := []) (dvs := []) T iC tI (fld_ok F T hno FI) (Cc.rm.mono (by omega)) hb .nil passL hg hm pa hdb he hpl), fun xl al σ H S env D0 w r qq => ?_⟩
  unfold mRaiseF at qq
  refine d xl al σ H S env _ w r ((qq.lift r).imp fun ds S1 al1 H1 e1 w1 q1 vs rv => ?_)
  split at q1
  · rename_i dd
    obtain ⟨v, rfl⟩ : ∃ v, vs = [v] := by
      cases rv with
      | cons rd rn =>
        cases rn
        exact ⟨_, rfl⟩
    refine ⟨by simp, fun a hn => ⟨a, v, rfl, upd_same, fun dx h1 h2 => ⟨rfl, dx, _, upd_same, by rw [upd_ne h2, upd_same], by rw [upd_ne h2] at h1; exact h1, ?_⟩⟩⟩
    have hd : H1 dx = none := by rw [upd_ne h2] at h1; exact h1
    have eH : upd (del (upd (upd (upd H1 a (exo a C' none)) dx (exd dx [(g, v)])) a (exo a C' (some dx))) a) dx (.xd [(g, v)]) = upd H1 dx (.xd [(g, v)]) := by
      funext b
      by_cases hb : b = dx
      · rw [hb, upd_same, upd_same]
      · rw [upd_ne hb, upd_ne hb]
        by_cases hba : b = a
        · rw [hba, del_same, hn]
        · rw [del_ne hba, upd_ne hba, upd_ne hb, upd_ne hba]
    rw [eH]
    have ex : Ext al1 H1 al1 (upd H1 dx (.xd [(g, v)])) := ext_new hd
    exact q1 al1 _ ex (w1.put hd) σ ((r.mono e1).mono ex) (.ref C') (some dx) ⟨⟨C', h.cm, rfl⟩, fun z hz => by
      cases hz
      exact ⟨⟨_, upd_same⟩, (w1.new hd).1⟩⟩
  · exact q1.elim
end
end DL

namespace DL
/-- for the plain texts, where no walk is in sight -/
instance (priority := low) tabC0 : TabC := ⟨[]⟩
open PySem PySem.Spec PyProof.Rows L2

/-! ### plain reckoning with the printed functions: what stands first is worked out first -/
section
variable {α β : Type} {f : D → D → DS → Ou D} {a b c : ME} {env : DE} {S : DS}
@[simp] theorem mC_at (d : D) : mC d env S = .ok d S := (rfl)
@[simp] theorem mV_at (i : Nat) : mV i env S = match env[i]? with
  | some (some d) => .ok d S
  | _ => .no := (rfl)
@[simp] theorem m1_at (f : D → DS → Ou D) : m1 f a env S = (a env S).bind f := (rfl)
def m2K (f : D → D → DS → Ou D) (b : ME) (env : DE) (o : Ou D) : Ou D := o.bind fun x S1 => (b env S1).bind fun y S2 => f x y S2
def m2J (f : D → D → DS → Ou D) (x : D) (o : Ou D) : Ou D := o.bind fun y S2 => f x y S2
@[simp] theorem m2_at : m2 f a b env S = m2K f b env (a env S) := (rfl)
@[simp] theorem m2K_ok (x : D) : m2K f b env (.ok x S) = m2J f x (b env S) := (rfl)
@[simp] theorem m2J_ok (x y : D) : m2J f x (.ok y S) = f x y S := (rfl)
@[simp] theorem maN_at : maN env S = .ok [] S := (rfl)
def maK (r : MA) (env : DE) (o : Ou D) : Ou (List D) := o.bind fun x S1 => (r env S1).bind fun xs S2 => .ok (x :: xs) S2
def maJ (x : D) (o : Ou (List D)) : Ou (List D) := o.bind fun xs S2 => .ok (x :: xs) S2
@[simp] theorem maC_at (r : MA) : maC a r env S = maK r env (a env S) := (rfl)
@[simp] theorem maK_ok (r : MA) (x : D) : maK r env (.ok x S) = maJ x (r env S) := (rfl)
@[simp] theorem maJ_ok (x : D) (xs : List D) : maJ x (.ok xs S) = .ok (x :: xs) S := (rfl)
@[simp] theorem mL_at (f : List D → DS → Ou D) (r : MA) : mL f r env S = (r env S).bind f := (rfl)
def tK (o : Ou D) : Ou Bool := o.bind fun d S1 => match d with
  | .bl b => .ok b S1
  | _ => .no
@[simp] theorem mT_at : mT a env S = tK (a env S) := (rfl)
@[simp] theorem tK_ok (b : Bool) : tK (.ok (.bl b) S) = .ok b S := (rfl)
def truK (o : Ou D) : Ou Bool := o.bind fun d S1 => match truD S1 d with
  | some b => .ok b S1
  | none => .no
@[simp] theorem mTr_at : mTr a env S = truK (a env S) := (rfl)
@[simp] theorem truK_ok (d : D) : truK (.ok d S) = match truD S d with
  | some b => .ok b S
  | none => .no := (rfl)
def andK (b : MT) (env : DE) (o : Ou Bool) : Ou Bool := o.bind fun c S1 => if c = true then b env S1 else .ok false S1
def orK (b : MT) (env : DE) (o : Ou Bool) : Ou Bool := o.bind fun c S1 => if c = true then .ok true S1 else b env S1
def notK (o : Ou Bool) : Ou Bool := o.bind fun c S1 => .ok (!c) S1
@[simp] theorem mAnd_at (p q : MT) : mAnd p q env S = andK q env (p env S) := (rfl)
@[simp] theorem andK_t (q : MT) : andK q env (.ok true S) = q env S := (rfl)
@[simp] theorem andK_f (q : MT) : andK q env (.ok false S) = .ok false S := (rfl)
theorem andK_ok (q : MT) (k : Bool) : andK q env (.ok k S) = if k = true then q env S else .ok false S := (rfl)
@[simp] theorem mOr_at (p q : MT) : mOr p q env S = orK q env (p env S) := (rfl)
@[simp] theorem orK_t (q : MT) : orK q env (.ok true S) = .ok true S := (rfl)
@[simp] theorem orK_f (q : MT) : orK q env (.ok false S) = q env S := (rfl)
theorem orK_ok (q : MT) (k : Bool) : orK q env (.ok k S) = if k = true then .ok true S else q env S := (rfl)
@[simp] theorem mNot_at (p : MT) : mNot p env S = notK (p env S) := (rfl)
@[simp] theorem notK_ok (k : Bool) : notK (.ok k S) = .ok (!k) S := (rfl)
def andVK (b : ME) (env : DE) (o : Ou D) : Ou D := o.bind fun d S1 => match d with
  | .bl c => if c = true then b env S1 else .ok (.bl false) S1
  | _ => .no
def orVK (b : ME) (env : DE) (o : Ou D) : Ou D := o.bind fun d S1 => match d with
  | .bl c => if c = true then .ok (.bl true) S1 else b env S1
  | _ => .no
def notVK (o : Ou D) : Ou D := o.bind fun d S1 => match d with
  | .bl c => .ok (.bl (!c)) S1
  | _ => .no
@[simp] theorem mAndV_at : mAndV a b env S = andVK b env (a env S) := (rfl)
@[simp] theorem andVK_t : andVK b env (.ok (.bl true) S) = b env S := (rfl)
@[simp] theorem andVK_f : andVK b env (.ok (.bl false) S) = .ok (.bl false) S := (rfl)
theorem andVK_ok (k : Bool) : andVK b env (.ok (.bl k) S) = if k = true then b env S else .ok (.bl false) S := (rfl)
@[simp] theorem mOrV_at : mOrV a b env S = orVK b env (a env S) := (rfl)
@[simp] theorem orVK_t : orVK b env (.ok (.bl true) S) = .ok (.bl true) S := (rfl)
@[simp] theorem orVK_f : orVK b env (.ok (.bl false) S) = b env S := (rfl)
theorem orVK_ok (k : Bool) : orVK b env (.ok (.bl k) S) = if k = true then .ok (.bl true) S else b env S := (rfl)
@[simp] theorem mNotV_at : mNotV a env S = notVK (a env S) := (rfl)
@[simp] theorem notVK_ok (k : Bool) : notVK (.ok (.bl k) S) = .ok (.bl (!k)) S := (rfl)
def ifK (a b : ME) (env : DE) (o : Ou Bool) : Ou D := o.bind fun k S1 => if k = true then a env S1 else b env S1
@[simp] theorem mIf_at (p : MT) : mIf p a b env S = ifK a b env (p env S) := (rfl)
@[simp] theorem ifK_t : ifK a b env (.ok true S) = a env S := (rfl)
@[simp] theorem ifK_f : ifK a b env (.ok false S) = b env S := (rfl)
theorem ifK_ok (k : Bool) : ifK a b env (.ok k S) = if k = true then a env S else b env S := (rfl)
def chK (f g : D → D → DS → Ou D) (b c : ME) (env : DE) (o : Ou D) : Ou D := o.bind fun x S1 => (b env S1).bind fun y S2 => (f x y S2).bind fun k S3 => match k with
  | .bl k => if k = true then (c env S3).bind fun z S4 => g y z S4 else .ok (.bl false) S3
  | _ => .no
def chJ (f g : D → D → DS → Ou D) (c : ME) (env : DE) (x : D) (o : Ou D) : Ou D := o.bind fun y S2 => (f x y S2).bind fun k S3 => match k with
  | .bl k => if k = true then (c env S3).bind fun z S4 => g y z S4 else .ok (.bl false) S3
  | _ => .no
def chI (g : D → D → DS → Ou D) (c : ME) (env : DE) (y : D) (o : Ou D) : Ou D := o.bind fun k S3 => match k with
  | .bl k => if k = true then (c env S3).bind fun z S4 => g y z S4 else .ok (.bl false) S3
  | _ => .no
variable {g : D → D → DS → Ou D}
@[simp] theorem mChain_at : mChain f g a b c env S = chK f g b c env (a env S) := (rfl)
@[simp] theorem chK_ok (x : D) : chK f g b c env (.ok x S) = chJ f g c env x (b env S) := (rfl)
@[simp] theorem chJ_ok (x y : D) : chJ f g c env x (.ok y S) = chI g c env y (f x y S) := (rfl)
@[simp] theorem chI_t (y : D) : chI g c env y (.ok (.bl true) S) = m2J g y (c env S) := (rfl)
@[simp] theorem chI_f (y : D) : chI g c env y (.ok (.bl false) S) = .ok (.bl false) S := (rfl)
theorem chI_ok (y : D) (k : Bool) : chI g c env y (.ok (.bl k) S) = if k = true then m2J g y (c env S) else .ok (.bl false) S := by cases k <;> rfl
def slK (f : D → Option Int → Option Int → DS → Ou D) (lo hi : MO) (env : DE) (o : Ou D) : Ou D := o.bind fun x S1 => (lo env S1).bind fun l S2 => (hi env S2).bind fun u S3 => f x l u S3
def slJ (f : D → Option Int → Option Int → DS → Ou D) (hi : MO) (env : DE) (x : D) (o : Ou (Option Int)) : Ou D := o.bind fun l S2 => (hi env S2).bind fun u S3 => f x l u S3
def slI (f : D → Option Int → Option Int → DS → Ou D) (x : D) (l : Option Int) (o : Ou (Option Int)) : Ou D := o.bind fun u S3 => f x l u S3
variable {h : D → Option Int → Option Int → DS → Ou D} {lo hi : MO}
@[simp] theorem mSl_at : mSl h a lo hi env S = slK h lo hi env (a env S) := (rfl)
@[simp] theorem slK_ok (x : D) : slK h lo hi env (.ok x S) = slJ h hi env x (lo env S) := (rfl)
@[simp] theorem slJ_ok (x : D) (l : Option Int) : slJ h hi env x (.ok l S) = slI h x l (hi env S) := (rfl)
@[simp] theorem slI_ok (x : D) (l u : Option Int) : slI h x l (.ok u S) = h x l u S := (rfl)
@[simp] theorem moN_at : moN env S = .ok none S := (rfl)
def moK (o : Ou D) : Ou (Option Int) := o.bind fun d S1 => match d with
  | .int i => .ok (some i) S1
  | _ => .no
@[simp] theorem moS_at : moS a env S = moK (a env S) := (rfl)
@[simp] theorem moK_ok (i : Int) : moK (.ok (.int i) S) = .ok (some i) S := (rfl)
def isiK (T : String) (o : Ou D) : Ou D := o.bind fun d S1 => match isTy T d with
  | some b => .ok (.bl b) S1
  | none => .no
def isi2K (T U : String) (o : Ou D) : Ou D := o.bind fun d S1 => match isTy T d, isTy U d with
  | some b, some c => .ok (.bl (b || c)) S1
  | _, _ => .no
@[simp] theorem isiM_at (T : String) : isiM T a env S = isiK T (a env S) := (rfl)
@[simp] theorem isiK_ok (T : String) (d : D) : isiK T (.ok d S) = match isTy T d with
  | some b => .ok (.bl b) S
  | none => .no := (rfl)
@[simp] theorem isiM2_at (T U : String) : isiM2 T U a env S = isi2K T U (a env S) := (rfl)
@[simp] theorem isi2K_ok (T U : String) (d : D) : isi2K T U (.ok d S) = match isTy T d, isTy U d with
  | some b, some c => .ok (.bl (b || c)) S
  | _, _ => .no := (rfl)
def methK (T : RcT) (f : D → List D → DS → Ou D) (r : MA) (env : DE) (o : Ou D) : Ou D := o.bind fun x S1 => if T.ok x = true then (r env S1).bind fun xs S2 => f x xs S2 else .no
def methJ (f : D → List D → DS → Ou D) (x : D) (o : Ou (List D)) : Ou D := o.bind fun xs S2 => f x xs S2
@[simp] theorem mMeth_at (T : RcT) (f : D → List D → DS → Ou D) (r : MA) : mMeth T f a r env S = methK T f r env (a env S) := (rfl)
@[simp] theorem methK_ok (T : RcT) (f : D → List D → DS → Ou D) (r : MA) (x : D) : methK T f r env (.ok x S) = if T.ok x = true then methJ f x (r env S) else .no := (rfl)
@[simp] theorem methJ_ok (f : D → List D → DS → Ou D) (x : D) (xs : List D) : methJ f x (.ok xs S) = f x xs S := (rfl)
/-! statements -/
def retK (env : DE) (o : Ou D) : Ou (Fl × DE) := lift o env fun d S1 => .ok (.rt d, env) S1
def setK (i : Nat) (env : DE) (o : Ou D) : Ou (Fl × DE) := lift o env fun d S1 => .ok (.nx, env.set i (some d)) S1
def doK (env : DE) (o : Ou D) : Ou (Fl × DE) := lift o env fun _ S1 => .ok (.nx, env) S1
def gK (o : Ou DE) : Ou (Fl × DE) := o.bind fun env' S2 => .ok (.nx, env') S2
def asgK (g : MG) (env : DE) (o : Ou D) : Ou (Fl × DE) := lift o env fun d S1 => gK (g d env S1)
def parK (i j : Nat) (env : DE) (o : Ou (List D)) : Ou (Fl × DE) := lift o env fun ds S1 => match ds with
  | [x, y] => .ok (.nx, (env.set i (some x)).set j (some y)) S1
  | _ => .no
def par3K (i j l : Nat) (env : DE) (o : Ou (List D)) : Ou (Fl × DE) := lift o env fun ds S1 => match ds with
  | [x, y, z] => .ok (.nx, ((env.set i (some x)).set j (some y)).set l (some z)) S1
  | _ => .no
def ifSK (p q : MS) (env : DE) (o : Ou Bool) : Ou (Fl × DE) := lift o env fun k S1 => if k = true then p env S1 else q env S1
def seqK (b : MS) (o : Ou (Fl × DE)) : Ou (Fl × DE) := o.bind fun r S1 => match r.1 with
  | .nx => b r.2 S1
  | f => .ok (f, r.2) S1
variable {i j l : Nat} {p q : MS} {d x y z : D} {env' : DE} {r : MA} {mt : MT} {mg : MG}
@[simp] theorem mRet_at : mRet a env S = retK env (a env S) := (rfl)
@[simp] theorem retK_ok : retK env (.ok d S) = .ok (.rt d, env) S := (rfl)
@[simp] theorem mRetN_at : mRetN env S = .ok (.rt .non, env) S := (rfl)
@[simp] theorem mNx_at : mNx env S = .ok (.nx, env) S := (rfl)
@[simp] theorem mBk_at : mBk env S = .ok (.bk, env) S := (rfl)
@[simp] theorem mCt_at : mCt env S = .ok (.ct, env) S := (rfl)
@[simp] theorem mDo_at : mDo a env S = doK env (a env S) := (rfl)
@[simp] theorem doK_ok : doK env (.ok d S) = .ok (.nx, env) S := (rfl)
@[simp] theorem mSet_at : mSet i a env S = setK i env (a env S) := (rfl)
@[simp] theorem setK_ok : setK i env (.ok d S) = .ok (.nx, env.set i (some d)) S := (rfl)
@[simp] theorem mAsg_at : mAsg mg a env S = asgK mg env (a env S) := (rfl)
@[simp] theorem asgK_ok : asgK mg env (.ok d S) = gK (mg d env S) := (rfl)
@[simp] theorem gK_ok : gK (.ok env' S) = .ok (.nx, env') S := (rfl)
@[simp] theorem mPar_at : mPar i j r env S = parK i j env (r env S) := (rfl)
@[simp] theorem parK_ok : parK i j env (.ok [x, y] S) = .ok (.nx, (env.set i (some x)).set j (some y)) S := (rfl)
@[simp] theorem mPar3_at : mPar3 i j l r env S = par3K i j l env (r env S) := (rfl)
@[simp] theorem par3K_ok : par3K i j l env (.ok [x, y, z] S) = .ok (.nx, ((env.set i (some x)).set j (some y)).set l (some z)) S := (rfl)
@[simp] theorem mIfS_at : mIfS mt p q env S = ifSK p q env (mt env S) := (rfl)
@[simp] theorem ifSK_t : ifSK p q env (.ok true S) = p env S := (rfl)
@[simp] theorem ifSK_f : ifSK p q env (.ok false S) = q env S := (rfl)
theorem ifSK_ok (k : Bool) : ifSK p q env (.ok k S) = if k = true then p env S else q env S := (rfl)
@[simp] theorem mSeq_at : mSeq p q env S = seqK q (p env S) := (rfl)
@[simp] theorem seqK_nx : seqK q (.ok (.nx, env) S) = q env S := (rfl)
@[simp] theorem seqK_rt : seqK q (.ok (.rt d, env) S) = .ok (.rt d, env) S := (rfl)
@[simp] theorem seqK_bk : seqK q (.ok (.bk, env) S) = .ok (.bk, env) S := (rfl)
@[simp] theorem seqK_ct : seqK q (.ok (.ct, env) S) = .ok (.ct, env) S := (rfl)
@[simp] theorem seqK_xc (x : Exn) : seqK q (.ok (.xc x, env) S) = .ok (.xc x, env) S := (rfl)
def augK (i : Nat) (f : D → D → DS → Ou D) (env : DE) (x : D) (o : Ou D) : Ou (Fl × DE) := lift o env fun y S1 => setK i env (f x y S1)
@[simp] theorem mAug_at : mAug i f a env S = match env[i]? with
  | some (some x) => augK i f env x (a env S)
  | _ => .no := (rfl)
@[simp] theorem augK_ok : augK i f env x (.ok y S) = setK i env (f x y S) := (rfl)
@[simp] theorem retO_rt : retO (.ok (.rt d, env) S) = .ok d S := (rfl)
@[simp] theorem retO_nx : retO (.ok (.nx, env) S) = .ok .non S := (rfl)
theorem defM_at (n N : Nat) (ds : List D) : defM n N p ds S = if ds.length = n then retO (p (startE N ds) S) else .no := (rfl)
theorem defD_at (n N : Nat) (ds : List D) : defD n N p ds S = if ds.length = n then dropO S.length (retO (p (startE N ds) S)) else .no := (rfl)
@[simp] theorem gN_at : gN i d env S = .ok (env.set i (some d)) S := (rfl)
@[simp] theorem gsN_at : gsN [] env S = .ok env S := (rfl)
def gsK (r : List D → DE → DS → Ou DE) (ds : List D) (o : Ou DE) : Ou DE := o.bind fun env1 S1 => r ds env1 S1
@[simp] theorem gsC_at (r : List D → DE → DS → Ou DE) (ds : List D) : gsC mg r (d :: ds) env S = gsK r ds (mg d env S) := (rfl)
@[simp] theorem gsK_ok (r : List D → DE → DS → Ou DE) (ds : List D) : gsK r ds (.ok env S) = r ds env S := (rfl)
@[simp] theorem gT_at (n : Nat) (r : List D → DE → DS → Ou DE) (ds : List D) : gT n r (.tup ds) env S = if ds.length = n then r ds env S else .no := (rfl)
def gSubK (i : ME) (f : D → D → D → DS → Ou Unit) (v : D) (env : DE) (o : Ou D) : Ou DE := o.bind fun x S1 => (i env S1).bind fun k S2 => (f x k v S2).bind fun _ S3 => .ok env S3
def gSubJ (f : D → D → D → DS → Ou Unit) (v : D) (env : DE) (x : D) (o : Ou D) : Ou DE := o.bind fun k S2 => (f x k v S2).bind fun _ S3 => .ok env S3
def gSubI (env : DE) (o : Ou Unit) : Ou DE := o.bind fun _ S3 => .ok env S3
variable {sf : D → D → D → DS → Ou Unit}
@[simp] theorem gSubM_at : gSubM a b sf d env S = gSubK b sf d env (a env S) := (rfl)
@[simp] theorem gSubK_ok : gSubK b sf d env (.ok x S) = gSubJ sf d env x (b env S) := (rfl)
@[simp] theorem gSubJ_ok : gSubJ sf d env x (.ok y S) = gSubI env (sf x y d S) := (rfl)
@[simp] theorem gSubI_ok : gSubI env (.ok () S) = .ok env S := (rfl)
/-! loops -/
noncomputable def forK (mg : MG) (p : MS) (env : DE) (o : Ou Itm) : Ou (Fl × DE) := lift o env fun it S1 => forL mg p it it.items env S1
@[simp] theorem mFor_at (mi : MIt) : mFor mi mg p env S = forK mg p env (mi env S) := (rfl)
@[simp] theorem forK_ok (it : Itm) : forK mg p env (.ok it S) = forL mg p it it.items env S := (rfl)
@[simp] theorem mSeqI_at : mSeqI a env S = (a env S).bind asItm := (rfl)
@[simp] theorem mArgI_at (f : List D → DS → Ou Itm) : mArgI f r env S = (r env S).bind f := (rfl)
@[simp] theorem asItm_tup (xs : List D) : asItm (.tup xs) S = .ok ⟨xs, none⟩ S := (rfl)
@[simp] theorem asItm_vl (xs : List D) : asItm (.vl xs) S = .ok ⟨xs, none⟩ S := (rfl)
@[simp] theorem asItm_fz (xs : List D) : asItm (.fz xs) S = .ok ⟨xs, none⟩ S := (rfl)
/-- one turn of a for -/
def turn (mg : MG) (p : MS) (d : D) (env : DE) (S : DS) : Ou (Fl × DE) := (mg d env S).bind fun env1 S1 => p env1 S1
def turnK (p : MS) (o : Ou DE) : Ou (Fl × DE) := o.bind fun env1 S1 => p env1 S1
@[simp] theorem turn_at : turn mg p d env S = turnK p (mg d env S) := (rfl)
@[simp] theorem turnK_ok : turnK p (.ok env S) = p env S := (rfl)
noncomputable def forN (mg : MG) (p : MS) (it : Itm) (r : List D) (o : Ou (Fl × DE)) : Ou (Fl × DE) := o.bind fun q S2 => match q.1 with
    | .nx => forL mg p it r q.2 S2
    | .ct => forL mg p it r q.2 S2
    | .bk => .ok (.nx, q.2) S2
    | f => .ok (f, q.2) S2
variable {it : Itm}
theorem forL_nil (h : it.g = none) : forL mg p it [] env S = .ok (.nx, env) S := by
  obtain ⟨xs, g⟩ := it
  cases h
  exact gate_none _ _ _
theorem forL_cons (h : it.g = none) (r : List D) : forL mg p it (d :: r) env S = forN mg p it r (turn mg p d env S) := by
  obtain ⟨xs, g⟩ := it
  cases h
  have e : forL mg p ⟨xs, none⟩ (d :: r) env S = (mg d env S).bind fun env1 S1 => (p env1 S1).bind fun q S2 => match q.1 with
    | .nx => forL mg p ⟨xs, none⟩ r q.2 S2
    | .ct => forL mg p ⟨xs, none⟩ r q.2 S2
    | .bk => .ok (.nx, q.2) S2
    | f => .ok (f, q.2) S2 := gate_none _ _ _
  rw [e]
  unfold forN turn
  cases mg d env S <;> rfl
@[simp] theorem forN_nx (r : List D) : forN mg p it r (.ok (.nx, env) S) = forL mg p it r env S := (rfl)
@[simp] theorem forN_ct (r : List D) : forN mg p it r (.ok (.ct, env) S) = forL mg p it r env S := (rfl)
@[simp] theorem forN_bk (r : List D) : forN mg p it r (.ok (.bk, env) S) = .ok (.nx, env) S := (rfl)
@[simp] theorem forN_rt (r : List D) : forN mg p it r (.ok (.rt d, env) S) = .ok (.rt d, env) S := (rfl)
@[simp] theorem forN_xc (r : List D) (x : Exn) : forN mg p it r (.ok (.xc x, env) S) = .ok (.xc x, env) S := (rfl)
/-- the first item that answers -/
theorem forL_find (hg : it.g = none) {E : DE → Prop} {f : D → Option D} {S : DS} : ∀ (ds : List D) (env : DE), E env →
    (∀ d ∈ ds, ∀ env, E env → ∃ env', E env' ∧ turn mg p d env S = match f d with
      | none => .ok (.nx, env') S
      | some x => .ok (.rt x, env') S) → ∃ env', E env' ∧ forL mg p it ds env S = match ds.findSome? f with
      | none => .ok (.nx, env') S
      | some x => .ok (.rt x, env') S
  | [], env, he, _ => ⟨env, he, forL_nil hg⟩
  | d :: ds, env, he, h => by
    obtain ⟨env1, h1, e1⟩ := h d (List.mem_cons_self ..) env he
    rw [forL_cons hg, e1, List.findSome?_cons]
    cases f d with
    | none => exact forL_find hg ds env1 h1 fun d hd => h d (List.mem_cons_of_mem _ hd)
    | some x => exact ⟨env1, h1, rfl⟩
/-- a for that goes to its end, or returns what Q says -/
theorem forL_inv (hg : it.g = none) {I : Nat → DE → DS → Prop} {Q : D → DS → Prop} : ∀ (ds : List D) (k : Nat) (env : DE) (S : DS), I k env S →
    (∀ i d, ds[i]? = some d → ∀ env S, I (k + i) env S → (∃ env' S', turn mg p d env S = .ok (.nx, env') S' ∧ I (k + i + 1) env' S') ∨ (∃ x env' S', turn mg p d env S = .ok (.rt x, env') S' ∧ Q x S')) →
    (∃ env' S', forL mg p it ds env S = .ok (.nx, env') S' ∧ I (k + ds.length) env' S') ∨ (∃ x env' S', forL mg p it ds env S = .ok (.rt x, env') S' ∧ Q x S')
  | [], k, env, S, he, _ => .inl ⟨env, S, forL_nil hg, he⟩
  | d :: ds, k, env, S, he, h => by
    rw [forL_cons hg]
    rcases h 0 d rfl env S he with ⟨env1, S1, e1, h1⟩ | ⟨x, env1, S1, e1, h1⟩
    · rw [e1, forN_nx]
      have := forL_inv hg (I := I) (Q := Q) ds (k + 1) env1 S1 h1 fun i d hd env S hi => by
        have := h (i + 1) d (by simpa using hd) env S (by rw [show k + (i + 1) = k + 1 + i by omega]; exact hi)
        rw [show k + (i + 1) = k + 1 + i by omega] at this
        exact this
      rw [show k + (d :: ds).length = k + 1 + ds.length by simp; omega]
      exact this
    · exact .inr ⟨x, env1, S1, by rw [e1, forN_rt], h1⟩
/-- .. that always goes to its end -/
theorem forL_all (hg : it.g = none) {I : Nat → DE → DS → Prop} (ds : List D) (k : Nat) (env : DE) (S : DS) (h0 : I k env S)
    (h : ∀ i d, ds[i]? = some d → ∀ env S, I (k + i) env S → ∃ env' S', turn mg p d env S = .ok (.nx, env') S' ∧ I (k + i + 1) env' S') :
    ∃ env' S', forL mg p it ds env S = .ok (.nx, env') S' ∧ I (k + ds.length) env' S' := by
  rcases forL_inv hg (Q := fun _ _ => False) ds k env S h0 fun i d hd env S hi => .inl (h i d hd env S hi) with h | ⟨_, _, _, _, h⟩
  · exact h
  · exact h.elim
/-! comprehensions -/
noncomputable def lcK (g : MG) (tt : MT) (el : ME) (vs : List Nat) (fin : List D → DS → Ou D) (env : DE) (o : Ou Itm) : Ou D := o.bind fun it S1 => if it.items.length ≤ sizeLine then (lcL g tt el (wipeE env vs) it it.items [] S1).bind fin else .no
variable {tt : MT} {el : ME} {vs : List Nat} {fin : List D → DS → Ou D}
@[simp] theorem lcM_at (mi : MIt) : lcM mi mg tt el vs fin env S = lcK mg tt el vs fin env (mi env S) := (rfl)
theorem lcK_ok : lcK mg tt el vs fin env (.ok it S) = if it.items.length ≤ sizeLine then (lcL mg tt el (wipeE env vs) it it.items [] S).bind fin else .no := (rfl)
@[simp] theorem mYes_at : mYes env S = .ok true S := (rfl)
@[simp] theorem finV_at (xs : List D) : finV xs S = .ok (.vl xs) S := (rfl)
@[simp] theorem finR_at (xs : List D) : finR xs S = .ok (.ref S.length) (S ++ [.lst xs]) := (rfl)
/-- one item of a comprehension without tests -/
def cell (g : MG) (el : ME) (d : D) (env : DE) (S : DS) : Ou D := (g d env S).bind fun env1 S1 => el env1 S1
def cellK (el : ME) (o : Ou DE) : Ou D := o.bind fun env1 S1 => el env1 S1
@[simp] theorem cell_at : cell mg el d env S = cellK el (mg d env S) := (rfl)
@[simp] theorem cellK_ok : cellK el (.ok env S) = el env S := (rfl)
theorem lcL_nil (h : it.g = none) (acc : List D) : lcL mg tt el env it [] acc S = .ok acc S := by
  obtain ⟨xs, g⟩ := it
  cases h
  exact gate_none _ _ _
theorem lcL_cons (h : it.g = none) (r acc : List D) {y : D} {S' : DS} (e : cell mg el d env S = .ok y S') : lcL mg mYes el env it (d :: r) acc S = lcL mg mYes el env it r (acc ++ [y]) S' := by
  obtain ⟨xs, g⟩ := it
  cases h
  have e1 : lcL mg mYes el env ⟨xs, none⟩ (d :: r) acc S = (mg d env S).bindN fun env1 S1 => (mYes env1 S1).bindN fun b S2 => if b = true then (el env1 S2).bindN fun y S3 => lcL mg mYes el env ⟨xs, none⟩ r (acc ++ [y]) S3 else lcL mg mYes el env ⟨xs, none⟩ r acc S2 := gate_none _ _ _
  rw [e1]
  unfold cell at e
  cases h : mg d env S with
  | ok env1 S1 =>
    rw [h] at e
    have e : el env1 S1 = .ok y S' := e
    simp [e]
  | ex x S1 => rw [h] at e; cases e
  | no => rw [h] at e; cases e
/-- every item by itself, the state untouched -/
theorem lcL_map (hg : it.g = none) {f : D → D} : ∀ (ds acc : List D), (∀ d ∈ ds, cell mg el d env S = .ok (f d) S) → lcL mg mYes el env it ds acc S = .ok (acc ++ ds.map f) S
  | [], acc, _ => by rw [lcL_nil hg, List.map_nil, List.append_nil]
  | d :: ds, acc, h => by
    rw [lcL_cons hg ds acc (h d (List.mem_cons_self ..)), lcL_map hg ds _ fun d hd => h d (List.mem_cons_of_mem _ hd), List.map_cons, List.append_assoc]
    rfl
/-- .. with a state that is kept in I; P: what is said of the item made at i -/
theorem lcL_inv (hg : it.g = none) {I : DS → Prop} {P : Nat → D → Prop} : ∀ (ds acc : List D) (k : Nat) (S : DS), I S → (∀ i d, ds[i]? = some d → ∀ S, I S → ∃ y S', cell mg el d env S = .ok y S' ∧ I S' ∧ P (k + i) y) →
    ∃ ys S', lcL mg mYes el env it ds acc S = .ok (acc ++ ys) S' ∧ I S' ∧ ys.length = ds.length ∧ ∀ i y, ys[i]? = some y → P (k + i) y
  | [], acc, k, S, hi, _ => ⟨[], S, by rw [lcL_nil hg, List.append_nil], hi, rfl, fun i y h => by simp at h⟩
  | d :: ds, acc, k, S, hi, h => by
    obtain ⟨y, S1, e1, h1, p1⟩ := h 0 d rfl S hi
    obtain ⟨ys, S2, e2, h2, l2, p2⟩ := lcL_inv hg (P := P) ds (acc ++ [y]) (k + 1) S1 h1 fun i d hd S hs => by
      have := h (i + 1) d (by simpa using hd) S hs
      rw [show k + (i + 1) = k + 1 + i by omega] at this
      exact this
    refine ⟨y :: ys, S2, by rw [lcL_cons hg ds acc e1, e2, List.append_assoc]; rfl, h2, by simp [l2], fun i z hz => ?_⟩
    cases i with
    | zero => simp at hz; subst hz; exact p1
    | succ i =>
      have := p2 i z (by simpa using hz)
      rw [show k + (i + 1) = k + 1 + i by omega]
      exact this
end
end DL

namespace DL
open PySem PySem.Spec PyProof.Rows L2

@[simp] theorem startE_at (N : Nat) (ds : List D) : startE N ds = ds.map some ++ List.replicate (N - ds.length) none := (rfl)
@[simp] theorem addO_int (i j : Int) (S : DS) : addO (.int i) (.int j) S = .ok (.int (i + j)) S := (rfl)
@[simp] theorem subO_int (i j : Int) (S : DS) : subO (.int i) (.int j) S = .ok (.int (i - j)) S := (rfl)
@[simp] theorem negO_int (i : Int) (S : DS) : negO (.int i) S = .ok (.int (-i)) S := (rfl)
@[simp] theorem modO_int (i j : Int) (S : DS) : modO (.int i) (.int j) S = if j ≠ 0 then .ok (.int (i.fmod j)) S else .no := (rfl)
@[simp] theorem cmpO_int (f : Int → Int → Bool) (i j : Int) (S : DS) : cmpO f (.int i) (.int j) S = .ok (.bl (f i j)) S := (rfl)
@[simp] theorem eqO_int (i j : Int) (S : DS) : eqO (.int i) (.int j) S = .ok (.bl (decide (i = j))) S := (rfl)
@[simp] theorem neO_int (i j : Int) (S : DS) : neO (.int i) (.int j) S = .ok (.bl (!decide (i = j))) S := (rfl)
@[simp] theorem eqO_str (i j : Str) (S : DS) : eqO (.str i) (.str j) S = .ok (.bl (decide (i = j))) S := (rfl)
@[simp] theorem neO_str (i j : Str) (S : DS) : neO (.str i) (.str j) S = .ok (.bl (!decide (i = j))) S := (rfl)
@[simp] theorem eqO_is (i : Int) (j : Str) (S : DS) : eqO (.int i) (.str j) S = .ok (.bl false) S := (rfl)
@[simp] theorem neO_is (i : Int) (j : Str) (S : DS) : neO (.int i) (.str j) S = .ok (.bl true) S := (rfl)
@[simp] theorem eqO_si (i : Int) (j : Str) (S : DS) : eqO (.str j) (.int i) S = .ok (.bl false) S := (rfl)
@[simp] theorem ixO_tup (xs : List D) (i : Int) (S : DS) : ixO (.tup xs) (.int i) S = getI xs i S := (rfl)
@[simp] theorem ixO_vl (xs : List D) (i : Int) (S : DS) : ixO (.vl xs) (.int i) S = getI xs i S := (rfl)
@[simp] theorem ixO_ref (p : Nat) (i : Int) (S : DS) : ixO (.ref p) (.int i) S = match S[p]? with
    | some (DO.lst xs) => getI xs i S
    | none => .no := (rfl)
theorem ixN_nat {n : Nat} {i : Int} (h0 : 0 ≤ i) (h1 : i < n) : ixN n i = some i.toNat := by
  unfold ixN
  rw [if_pos h0, if_pos h1]
theorem getI_nat {xs : List D} {i : Int} {d : D} {S : DS} (h0 : 0 ≤ i) (h : xs[i.toNat]? = some d) : getI xs i S = .ok d S := by
  have hl : i.toNat < xs.length := by
    by_cases z : i.toNat < xs.length
    · exact z
    · rw [List.getElem?_eq_none (by omega)] at h; cases h
  have e : atI xs i = some d := by
    unfold atI
    rw [ixN_nat h0 (by omega)]
    exact h
  unfold getI
  rw [e]
theorem getI_neg {xs : List D} {i : Int} {d : D} {S : DS} (h1 : i < 0) (h2 : -(xs.length : Int) ≤ i) (h : xs[(i + xs.length).toNat]? = some d) : getI xs i S = .ok d S := by
  have e : atI xs i = some d := by
    unfold atI ixN
    rw [if_neg (by omega), if_pos h2]
    exact h
  unfold getI
  rw [e]

/-! data that may be shown: ints of at most k digits -/
mutual
def okD (k : Nat) : D → Bool
  | .non => true
  | .bl _ => true
  | .int i => decide (i.natAbs < 10 ^ k)
  | .str x => PyData.strOk x
  | .tup xs => okDs k xs
  | .vl xs => okDs k xs
  | .fz xs => okDs k xs
  | .ref _ => false
  | .dct => false
  | .exo _ _ => false
def okDs (k : Nat) : List D → Bool
  | [] => true
  | x :: xs => okD k x && okDs k xs
end
mutual
def pyD : D → PyData
  | .non => .none
  | .bl b => .bool b
  | .int i => .int i
  | .str x => .str x
  | .tup xs => .tuple (pyDs xs)
  | .vl xs => .list (pyDs xs)
  | .fz xs => .list (pyDs xs)
  | .ref _ => .none
  | .dct => .none
  | .exo _ _ => .none
def pyDs : List D → List PyData
  | [] => []
  | x :: xs => pyD x :: pyDs xs
end
mutual
def dep : D → Nat
  | .tup xs => deps xs + 1
  | .vl xs => deps xs + 1
  | .fz xs => deps xs + 1
  | _ => 0
def deps : List D → Nat
  | [] => 0
  | x :: xs => max (dep x) (deps xs)
end
mutual
def siz (k : Nat) : D → Nat
  | .int _ => 4 * k
  | .str x => x.cps.size
  | .tup xs => sizs k xs
  | .vl xs => sizs k xs
  | .fz xs => sizs k xs
  | _ => 0
def sizs (k : Nat) : List D → Nat
  | [] => 0
  | x :: xs => siz k x + 1 + sizs k xs
end
structure PyOk (k : Nat) (d : D) : Prop where
  py : toPy d = some (pyD d)
  lay : (pyD d).canLay0 = true
  dp : (pyD d).depth = dep d
  wt : (pyD d).weight ≤ siz k d
  sh : (pyD d).intsShort (k + 1) = true
  sw : k ≤ 570 → (pyD d).showable = true
structure PysOk (k : Nat) (ds : List D) : Prop where
  py : toPys ds = some (pyDs ds)
  lay : PyData.canLayAll0 (pyDs ds) = true
  dp : PyData.depthAll (pyDs ds) = deps ds
  wt : PyData.weightAll (pyDs ds) ≤ sizs k ds
  sh : PyData.intsShortAll (k + 1) (pyDs ds) = true
  sw : k ≤ 570 → PyData.showableAll (pyDs ds) = true
theorem pow_10_2 (k : Nat) : (10 : Nat) ^ k ≤ 2 ^ (4 * k) := by
  rw [Nat.pow_mul]
  exact Nat.pow_le_pow_left (by decide) k
theorem log_lt {n k : Nat} (h : n < 10 ^ k) (h0 : n ≠ 0) : n.log2 < 4 * k := (Nat.log2_lt h0).mpr (Nat.lt_of_lt_of_le h (pow_10_2 k))
theorem log_1920 {n k : Nat} (hk : k ≤ 570) (h : n < 10 ^ k) : n.log2 < 1920 := by
  by_cases h0 : n = 0
  · subst h0; decide
  · refine (Nat.log2_lt h0).mpr (Nat.lt_of_lt_of_le h ?_)
    refine Nat.le_trans (Nat.pow_le_pow_right (by decide) hk) (by decide +kernel)
mutual
theorem ok_py {k : Nat} (hk : 0 < k) : ∀ {d : D}, okD k d = true → PyOk k d
  | .non, _ => ⟨rfl, rfl, rfl, Nat.le_refl _, rfl, fun _ => rfl⟩
  | .bl _, _ => ⟨rfl, rfl, rfl, Nat.le_refl _, rfl, fun _ => rfl⟩
  | .int i, h => by
    have h' : i.natAbs < 10 ^ k := by simpa [okD] using h
    refine ⟨rfl, rfl, rfl, ?_, ?_, fun hk => ?_⟩
    · show (if i == 0 then 0 else i.natAbs.log2 + 1) ≤ 4 * k
      split
      · omega
      · rename_i h0
        have := log_lt h' (by simpa using h0)
        omega
    · have e := int_text_length_le10 hk h'
      show decide ((Str.ofString (toString i)).length ≤ k + 1) = true
      rw [PySem.ofString_length]
      exact decide_eq_true e
    · exact decide_eq_true (log_1920 hk h')
  | .str x, h => ⟨rfl, h, rfl, Nat.le_refl _, rfl, fun _ => rfl⟩
  | .tup xs, h => by
    have q := oks_py hk (ds := xs) (by simpa [okD] using h)
    exact ⟨by simp [toPy, q.py, pyD], by simpa [pyD, PyData.canLay0] using q.lay, by simp [pyD, PyData.depth, q.dp, dep], by simpa [pyD, PyData.weight, siz] using q.wt, by simpa [pyD, PyData.intsShort] using q.sh, fun z => by simpa [pyD, PyData.showable] using q.sw z⟩
  | .vl xs, h => by
    have q := oks_py hk (ds := xs) (by simpa [okD] using h)
    exact ⟨by simp [toPy, q.py, pyD], by simpa [pyD, PyData.canLay0] using q.lay, by simp [pyD, PyData.depth, q.dp, dep], by simpa [pyD, PyData.weight, siz] using q.wt, by simpa [pyD, PyData.intsShort] using q.sh, fun z => by simpa [pyD, PyData.showable] using q.sw z⟩
  | .fz xs, h => by
    have q := oks_py hk (ds := xs) (by simpa [okD] using h)
    exact ⟨by simp [toPy, q.py, pyD], by simpa [pyD, PyData.canLay0] using q.lay, by simp [pyD, PyData.depth, q.dp, dep], by simpa [pyD, PyData.weight, siz] using q.wt, by simpa [pyD, PyData.intsShort] using q.sh, fun z => by simpa [pyD, PyData.showable] using q.sw z⟩
  | .ref _, h => by simp [okD] at h
  | .exo _ _, h => by simp [okD] at h
  | .dct, h => by simp [okD] at h
theorem oks_py {k : Nat} (hk : 0 < k) : ∀ {ds : List D}, okDs k ds = true → PysOk k ds
  | [], _ => ⟨rfl, rfl, rfl, Nat.le_refl _, rfl, fun _ => rfl⟩
  | x :: xs, h => by
    rw [okDs, Bool.and_eq_true] at h
    have p := ok_py hk h.1
    have q := oks_py hk h.2
    refine ⟨by simp [toPys, p.py, q.py, pyDs], by simp [pyDs, PyData.canLayAll0, p.lay, q.lay], by simp [pyDs, PyData.depthAll, p.dp, q.dp, deps], ?_, by simp [pyDs, PyData.intsShortAll, p.sh, q.sh], fun z => by simp [pyDs, PyData.showableAll, p.sw z, q.sw z]⟩
    have h1 := p.wt
    have h2 := q.wt
    simp only [pyDs, PyData.weightAll, sizs]
    omega
end
theorem shaped_of {k : Nat} {d : D} (q : PyOk k d) (h : dep d ≤ 64) : SeqAt.shaped (pyD d) = true := by
  unfold SeqAt.shaped
  rw [q.lay, q.dp]
  simpa using h
theorem eqP_ok {k : Nat} {x y : D} (p : PyOk k x) (q : PyOk k y) (hx : dep x ≤ 64) (hy : dep y ≤ 64) : eqP x y = some (PyData.eqv (pyD x) (pyD y)) := by
  unfold eqP
  rw [p.py, q.py]
  exact if_pos ⟨shaped_of p hx, shaped_of q hy⟩
theorem repr_ok {k : Nat} {d : D} {S : DS} (hk : 7 ≤ k) (hk2 : k ≤ 570) (h : okD k d = true) (hd : dep d ≤ 64) (hs : (k + 3) * siz k d + (k + 1) ≤ sizeLine) : reprO [d] S = .ok (.str (pyD d).shown) S := by
  have q := ok_py (by omega) h
  have e0 : toPyS S d = toPy d := by cases d <;> first | rfl | (simp [okD] at h)
  show (match toPyS S d with
    | some q => if q.showable = true ∧ SeqAt.shaped q = true ∧ q.shown.length ≤ sizeLine then Ou.ok (D.str q.shown) S else .no
    | none => .no) = _
  rw [e0, q.py]
  refine if_pos ⟨q.sw hk2, shaped_of q hd, ?_⟩
  have h1 := PyData.shown_le (k + 1) (by omega) (pyD d) (PyData.leavesShort_of_canLay0 (k + 1) (pyD d) q.lay q.sh)
  have h2 : (k + 1 + 2) * (pyD d).weight ≤ (k + 3) * siz k d := Nat.mul_le_mul_left _ q.wt
  omega
/-- a list that may be changed, as it stands -/
theorem repr_ref {k : Nat} {xs : List D} {p : Nat} {S : DS} (hS : S[p]? = some (.lst xs)) (hk : 7 ≤ k) (hk2 : k ≤ 570) (h : okD k (.vl xs) = true) (hd : dep (.vl xs) ≤ 64) (hs : (k + 3) * siz k (.vl xs) + (k + 1) ≤ sizeLine) : reprO [.ref p] S = .ok (.str (pyD (.vl xs)).shown) S := by
  rw [← repr_ok (S := S) hk hk2 h hd hs]
  have e : toPyS S (.ref p) = toPyS S (.vl xs) := by
    show (match S[p]? with
      | some (DO.lst xs) => (toPys xs).map PyData.list
      | none => none) = _
    rw [hS]
    rfl
  unfold reprO
  simp only [e]
/-- a thing is equal to itself -/
theorem eqP_self {k : Nat} {x : D} (hk : 0 < k) (h : okD k x = true) (hd : dep x ≤ 64) : eqP x x = some true := by
  have p := ok_py hk h
  rw [eqP_ok p p hd hd, SeqAt.eqv_refl _ p.lay]
theorem eqB_self {k : Nat} {x : D} (hk : 0 < k) (h : okD k x = true) (hd : dep x ≤ 64) : eqB x x = some true := by
  unfold eqB
  split
  · rename_i b e
    unfold scalD at e; cases x <;> simp at e <;> (cases e; simp_all)
  · exact eqP_self hk h hd
theorem eqO_self {k : Nat} {x : D} {S : DS} (hk : 0 < k) (h : okD k x = true) (hd : dep x ≤ 64) : eqO x x S = .ok (.bl true) S := by
  unfold eqO
  rw [eqB_self hk h hd]
theorem neO_self {k : Nat} {x : D} {S : DS} (hk : 0 < k) (h : okD k x = true) (hd : dep x ≤ 64) : neO x x S = .ok (.bl false) S := by
  unfold neO
  rw [eqB_self hk h hd]
  rfl
/-- pairs of ints -/
theorem eqP_pair (a b c d : Int) : eqP (.tup [.int a, .int b]) (.tup [.int c, .int d]) = some (decide (a = c) && decide (b = d)) := by
  unfold eqP
  simp [toPy, toPys, SeqAt.shaped, PyData.canLay0, PyData.canLayAll0, PyData.depth, PyData.depthAll, PyData.eqv, PyData.eqvAll]
  rfl
theorem eqO_pair (a b c d : Int) (S : DS) : eqO (.tup [.int a, .int b]) (.tup [.int c, .int d]) S = .ok (.bl (decide (a = c) && decide (b = d))) S := by
  unfold eqO eqB
  rw [show scalD (.tup [.int a, .int b]) (.tup [.int c, .int d]) = none from rfl, eqP_pair]
theorem neO_pair (a b c d : Int) (S : DS) : neO (.tup [.int a, .int b]) (.tup [.int c, .int d]) S = .ok (.bl (!(decide (a = c) && decide (b = d)))) S := by
  unfold neO eqB
  rw [show scalD (.tup [.int a, .int b]) (.tup [.int c, .int d]) = none from rfl, eqP_pair]
end DL

namespace DL
open PySem PySem.Spec PyProof.Rows L2
section
variable {α : Type} {mg : MG} {p : MS} {el : ME} {it : Itm} {env : DE} {S : DS}
/-- a comprehension over a list that is known -/
theorem lcL_F (hg : it.g = none) (g f : α → D) (as : List α) : ∀ (acc : List D), (∀ a ∈ as, cell mg el (g a) env S = .ok (f a) S) → lcL mg mYes el env it (as.map g) acc S = .ok (acc ++ as.map f) S := by
  induction as with
  | nil => exact fun acc _ => by rw [List.map_nil, lcL_nil hg, List.map_nil, List.append_nil]
  | cons a as ih =>
    intro acc h
    rw [List.map_cons, lcL_cons hg _ acc (h a (List.mem_cons_self ..)), ih _ fun b hb => h b (List.mem_cons_of_mem _ hb), List.map_cons, List.append_assoc]
    rfl
theorem lcK_F {vs : List Nat} {fin : List D → DS → Ou D} (g f : α → D) (as : List α) (hl : as.length ≤ sizeLine) (h : ∀ a ∈ as, cell mg el (g a) (wipeE env vs) S = .ok (f a) S) :
    lcK mg mYes el vs fin env (.ok ⟨as.map g, none⟩ S) = fin (as.map f) S := by
  rw [lcK_ok, if_pos (by rw [List.length_map]; exact hl), lcL_F rfl g f as [] h]
  rfl
theorem forL_F (hg : it.g = none) {E : DE → Prop} {S : DS} (g : α → D) (f : α → Option D) (as : List α) : ∀ (env : DE), E env →
    (∀ a ∈ as, ∀ env, E env → ∃ env', E env' ∧ turn mg p (g a) env S = match f a with
      | none => .ok (.nx, env') S
      | some x => .ok (.rt x, env') S) → ∃ env', E env' ∧ forL mg p it (as.map g) env S = match as.findSome? f with
      | none => .ok (.nx, env') S
      | some x => .ok (.rt x, env') S := by
  induction as with
  | nil => exact fun env he _ => ⟨env, he, forL_nil hg⟩
  | cons a as ih =>
    intro env he h
    obtain ⟨env1, h1, e1⟩ := h a (List.mem_cons_self ..) env he
    rw [List.map_cons, forL_cons hg, e1, List.findSome?_cons]
    cases f a with
    | none => exact ih env1 h1 fun d hd => h d (List.mem_cons_of_mem _ hd)
    | some x => exact ⟨env1, h1, rfl⟩
theorem rng1_nat (n : Nat) (h : n < 2 ^ 62) : rng1O [.int n] S = .ok ⟨(List.range n).map fun (i : Nat) => D.int (i : Int), none⟩ S := by
  have e : rng1O [.int n] S = if -(2 ^ 62) ≤ (n : Int) ∧ (n : Int) < 2 ^ 62 then .ok ⟨rangeD 0 (n : Int).toNat, none⟩ S else .no := rfl
  rw [e, if_pos ⟨by omega, by omega⟩]
  unfold rangeD
  simp
theorem getI_map (g : α → D) (as : List α) (i : Nat) {a : α} (h : as[i]? = some a) : getI (as.map g) (i : Int) S = .ok (g a) S := getI_nat (by omega) (by simp [h])
theorem asBls_true (as : List α) : asBls (as.map fun _ => D.bl true) = some (as.map fun _ => true) := by
  induction as with
  | nil => rfl
  | cons a as ih => simp [asBls, ih]
theorem all_true (as : List α) : allO [.vl (as.map fun _ => D.bl true)] S = .ok (.bl true) S := by
  show (match asBls (as.map fun _ => D.bl true) with
    | some bs => Ou.ok (D.bl (bs.all id)) S
    | none => .no) = _
  rw [asBls_true]
  simp
theorem lenO_tup (xs : List D) : lenO [.tup xs] S = .ok (.int xs.length) S := (rfl)
theorem lenO_vl (xs : List D) : lenO [.vl xs] S = .ok (.int xs.length) S := (rfl)
theorem tupO_le {xs : List D} (h : xs.length ≤ 1000) : tupO xs S = .ok (.tup xs) S := if_pos h
theorem lstO_le {xs : List D} (h : xs.length ≤ 1000) : lstO xs S = .ok (.vl xs) S := if_pos h
theorem tupleO_vl (xs : List D) : tupleO [.vl xs] S = .ok (.tup xs) S := (rfl)
theorem tupleO_tup (xs : List D) : tupleO [.tup xs] S = .ok (.tup xs) S := (rfl)
theorem intO_int (i : Int) : intO [.int i] S = .ok (.int i) S := (rfl)
theorem absO_nat (n : Nat) : absO [.int (n : Int)] S = .ok (.int (n : Int)) S := by
  have e : absO [.int (n : Int)] S = .ok (.int (if (n : Int) < 0 then -(n : Int) else n)) S := rfl
  rw [e, if_neg (by omega)]
theorem zipD_map {β : Type} (g : α → D) (f : β → D) : ∀ (as : List α) (bs : List β), zipD (as.map g) (bs.map f) = (as.zip bs).map fun x => .tup [g x.1, f x.2]
  | [], _ => by simp [zipD]
  | _ :: _, [] => by simp [zipD]
  | a :: as, b :: bs => by
    rw [List.map_cons, List.map_cons, zipD, List.zip_cons_cons, List.map_cons, zipD_map g f as bs]
theorem zipO_tup (xs ys : List D) : zipO [.tup xs, .tup ys] S = .ok ⟨zipD xs ys, none⟩ S := (rfl)
theorem okDs_map (K : Nat) (g : α → D) : ∀ as : List α, (∀ a ∈ as, okD K (g a) = true) → okDs K (as.map g) = true
  | [], _ => rfl
  | a :: as, h => by
    rw [List.map_cons, okDs, h a (List.mem_cons_self ..), okDs_map K g as fun b hb => h b (List.mem_cons_of_mem _ hb)]
    rfl
theorem deps_map (m : Nat) (g : α → D) : ∀ as : List α, (∀ a ∈ as, dep (g a) ≤ m) → deps (as.map g) ≤ m
  | [], _ => Nat.zero_le _
  | a :: as, h => by
    rw [List.map_cons, deps]
    exact Nat.max_le.mpr ⟨h a (List.mem_cons_self ..), deps_map m g as fun b hb => h b (List.mem_cons_of_mem _ hb)⟩
theorem sizs_map (K m : Nat) (g : α → D) : ∀ as : List α, (∀ a ∈ as, siz K (g a) ≤ m) → sizs K (as.map g) ≤ (m + 1) * as.length
  | [], _ => Nat.zero_le _
  | a :: as, h => by
    have h1 := h a (List.mem_cons_self ..)
    have h2 := sizs_map K m g as fun b hb => h b (List.mem_cons_of_mem _ hb)
    rw [List.map_cons, sizs, List.length_cons, Nat.mul_succ]
    omega
end
end DL

namespace FR
open PySem PySem.Spec PyProof.Rows L2 DL
/-! fractions in lowest terms: a Rat -/
def enc (q : Rat) : D := .tup [.int q.num, .int (q.den : Nat)]
theorem getI_0 (x : D) (xs : List D) (S : DS) : getI (x :: xs) 0 S = .ok x S := getI_nat (by decide) rfl
theorem getI_1 (x y : D) (xs : List D) (S : DS) : getI (x :: y :: xs) 1 S = .ok y S := getI_nat (by decide) rfl
theorem getI_2 (x y z : D) (xs : List D) (S : DS) : getI (x :: y :: z :: xs) 2 S = .ok z S := getI_nat (by decide) rfl
theorem getI_3 (x y z u : D) (xs : List D) (S : DS) : getI (x :: y :: z :: u :: xs) 3 S = .ok u S := getI_nat (by decide) rfl
theorem getI_4 (x y z u v : D) (xs : List D) (S : DS) : getI (x :: y :: z :: u :: v :: xs) 4 S = .ok v S := getI_nat (by decide) rfl
theorem enc0 (q : Rat) (S : DS) : ixO (enc q) (.int 0) S = .ok (.int q.num) S := getI_0 (.int q.num) [.int (q.den : Nat)] S
theorem enc1 (q : Rat) (S : DS) : ixO (enc q) (.int 1) S = .ok (.int (q.den : Nat)) S := getI_1 (.int q.num) (.int (q.den : Nat)) [] S
theorem enc_zero : enc 0 = .tup [.int 0, .int 1] := rfl
theorem enc_one : enc 1 = .tup [.int 1, .int 1] := rfl
theorem neO_enc (p q : Rat) (S : DS) : neO (enc p) (enc q) S = .ok (.bl (!decide (p = q))) S := by
  have e : decide (p = q) = (decide (p.num = q.num) && decide ((p.den : Int) = (q.den : Int))) := by
    rw [Bool.eq_iff_iff]
    simp only [decide_eq_true_eq, Bool.and_eq_true]
    exact ⟨fun h => by subst h; exact ⟨rfl, rfl⟩, fun ⟨h1, h2⟩ => Rat.ext h1 (by omega)⟩
  rw [e]
  exact neO_pair ..
theorem eqO_enc (p q : Rat) (S : DS) : eqO (enc p) (enc q) S = .ok (.bl (decide (p = q))) S := by
  have e : decide (p = q) = (decide (p.num = q.num) && decide ((p.den : Int) = (q.den : Int))) := by
    rw [Bool.eq_iff_iff]
    simp only [decide_eq_true_eq, Bool.and_eq_true]
    exact ⟨fun h => by subst h; exact ⟨rfl, rfl⟩, fun ⟨h1, h2⟩ => Rat.ext h1 (by omega)⟩
  rw [e]
  exact eqO_pair ..
/-! sizes: below 2 ^ k -/
structure Bd (k : Nat) (q : Rat) : Prop where
  n : q.num.natAbs < 2 ^ k
  d : q.den < 2 ^ k
theorem Bd.mono {j k : Nat} {q : Rat} (h : Bd j q) (hk : j ≤ k) : Bd k q :=
  ⟨Nat.lt_of_lt_of_le h.n (Nat.pow_le_pow_right (by decide) hk), Nat.lt_of_lt_of_le h.d (Nat.pow_le_pow_right (by decide) hk)⟩
theorem den_pos (q : Rat) : 0 < q.den := Nat.pos_of_ne_zero q.den_nz
theorem mul_lt {a b j k : Nat} (h1 : a < 2 ^ j) (h2 : b < 2 ^ k) : a * b < 2 ^ (j + k) := by
  rw [Nat.pow_add]
  exact Nat.mul_lt_mul_of_lt_of_le h1 (Nat.le_of_lt h2) (Nat.pos_of_ne_zero (by intro z; rw [z] at h2; omega))
theorem natAbs_add_lt {a b : Int} {k : Nat} (h1 : a.natAbs < 2 ^ k) (h2 : b.natAbs < 2 ^ k) : (a + b).natAbs < 2 ^ (k + 1) := by
  rw [Nat.pow_succ]
  omega
theorem mkRat_bd {t : Int} {b k : Nat} (h0 : 0 < b) (ht : t.natAbs < 2 ^ k) (hb : b < 2 ^ k) : Bd k (mkRat t b) := by
  refine ⟨?_, ?_⟩
  · rw [Rat.num_mkRat, if_neg (by omega)]
    exact Nat.lt_of_le_of_lt (by rw [Int.natAbs_ediv_of_dvd (Int.ofNat_dvd_left.mpr (Nat.gcd_dvd_right ..))]; exact Nat.div_le_self ..) ht
  · rw [Rat.den_mkRat, if_neg (by omega)]
    exact Nat.lt_of_le_of_lt (Nat.div_le_self ..) hb
theorem add_mk (p q : Rat) : p + q = mkRat (p.num * q.den + q.num * p.den) (p.den * q.den) := by
  conv => lhs; rw [← Rat.mkRat_self p, ← Rat.mkRat_self q]
  rw [Rat.mkRat_add_mkRat _ _ p.den_nz q.den_nz]
theorem mul_mk (p q : Rat) : p * q = mkRat (p.num * q.num) (p.den * q.den) := by
  conv => lhs; rw [← Rat.mkRat_self p, ← Rat.mkRat_self q]
  rw [Rat.mkRat_mul_mkRat]
theorem Bd.add {j k : Nat} {p q : Rat} (hp : Bd j p) (hq : Bd k q) : Bd (j + k + 1) (p + q) := by
  rw [add_mk]
  refine mkRat_bd (Nat.mul_pos (den_pos p) (den_pos q)) (natAbs_add_lt ?_ ?_) (Nat.lt_of_lt_of_le (mul_lt hp.d hq.d) (Nat.pow_le_pow_right (by decide) (by omega)))
  · rw [Int.natAbs_mul]; exact mul_lt hp.n (by simpa using hq.d)
  · rw [Int.natAbs_mul, Nat.mul_comm]; exact mul_lt (by simpa using hp.d) hq.n
theorem Bd.mul {j k : Nat} {p q : Rat} (hp : Bd j p) (hq : Bd k q) : Bd (j + k) (p * q) := by
  rw [mul_mk]
  exact mkRat_bd (Nat.mul_pos (den_pos p) (den_pos q)) (by rw [Int.natAbs_mul]; exact mul_lt hp.n hq.n) (mul_lt hp.d hq.d)
theorem Bd.neg {k : Nat} {q : Rat} (h : Bd k q) : Bd k (-q) := ⟨by rw [Rat.neg_num, Int.natAbs_neg]; exact h.n, by rw [Rat.neg_den]; exact h.d⟩
theorem Bd.sub {j k : Nat} {p q : Rat} (hp : Bd j p) (hq : Bd k q) : Bd (j + k + 1) (p - q) := by
  rw [Rat.sub_eq_add_neg]
  exact hp.add hq.neg
theorem bd0 {k : Nat} (h : 0 < k) : Bd k 0 := ⟨Nat.two_pow_pos k, Nat.one_lt_two_pow (by omega)⟩
theorem bd1 {k : Nat} (h : 0 < k) : Bd k 1 := ⟨Nat.one_lt_two_pow (by omega), Nat.one_lt_two_pow (by omega)⟩
/-! ints -/
theorem fdiv_small {i j : Int} (h : j.natAbs < 2 ^ 9000) : Builtin.divisionGoesByPylong i j = false := by
  unfold Builtin.divisionGoesByPylong
  have e : ¬ ((if (j == 0) = true then 0 else j.natAbs.log2 / 30 + 1) > 300) := by
    split
    · omega
    · rename_i h0
      have := (Nat.log2_lt (n := j.natAbs) (k := 9000) (by simpa using h0)).mpr h
      omega
  simp only [decide_eq_false e, Bool.false_and]
theorem fdiv_le {i j : Int} (h : i.natAbs ≤ j.natAbs) : Builtin.divisionGoesByPylong i j = false := by
  unfold Builtin.divisionGoesByPylong
  have e : ¬ ((if (i == 0) = true then 0 else i.natAbs.log2 / 30 + 1) > (if (j == 0) = true then 0 else j.natAbs.log2 / 30 + 1) + 150) := by
    have hl : i.natAbs.log2 ≤ j.natAbs.log2 := by
      by_cases z : i.natAbs = 0
      · rw [z]; exact Nat.zero_le _
      · by_cases zj : j.natAbs = 0
        · omega
        · exact (Nat.le_log2 zj).mpr (Nat.le_trans (Nat.log2_self_le z) h)
    by_cases zi : i = 0
    · rw [zi]; simp
    · have zj : j ≠ 0 := by intro z; rw [z] at h; simp at h; exact zi h
      rw [if_neg (by simpa using zi), if_neg (by simpa using zj)]
      have := Nat.div_le_div_right (c := 30) hl
      omega
  simp only [decide_eq_false e, Bool.and_false]
theorem fdivO_of {a b : Int} (S : DS) (h0 : 0 < b) (h : Builtin.divisionGoesByPylong a b = false) : fdivO (.int a) (.int b) S = .ok (.int (a / b)) S := by
  have e : fdivO (.int a) (.int b) S = if b ≠ 0 ∧ Builtin.divisionGoesByPylong a b = false then .ok (.int (a.fdiv b)) S else .no := rfl
  rw [e, if_pos ⟨by omega, h⟩, Int.fdiv_eq_ediv_of_nonneg _ (by omega)]
theorem mul_int {a b : Int} (S : DS) (h : a.natAbs < 2 ^ 400000) (h2 : b.natAbs < 2 ^ 400000) : mulO (.int a) (.int b) S = .ok (.int (a * b)) S := by
  have e : mulO (.int a) (.int b) S = if CMulA a b then .ok (.int (a * b)) S else .no := rfl
  rw [e, if_pos]
  refine .inr ?_
  have l : ∀ n : Nat, n < 2 ^ 400000 → n.log2 ≤ 400000 := fun n h => by
    by_cases h0 : n = 0
    · subst h0; decide
    · exact Nat.le_of_lt ((Nat.log2_lt h0).mpr h)
  have h3 := l _ h
  have h4 := l _ h2
  show a.natAbs.log2 + b.natAbs.log2 < 1000000
  omega
theorem lt4 {n k : Nat} (h : n < 2 ^ k) (hk : k ≤ 400000) : n < 2 ^ 400000 := Nat.lt_of_lt_of_le h (Nat.pow_le_pow_right (by decide) hk)
/-! ### the greatest common divisor -/
abbrev cW : MT := mT (m2 neO (mV 1) (mC (.int 0)))
abbrev cB : MS := mPar 0 1 (maC (mV 1) (maC (m2 modO (mV 0) (mV 1)) maN))
theorem while_f {c : MT} {p : MS} {env : DE} {S : DS} (h : c env S = .ok false S) : mWhile c p env S = .ok (.nx, env) S := by
  rw [mWhile_eq]
  rw [h]
  rfl
theorem gcd_emod (a b : Int) : Int.gcd (a % b) b = Int.gcd a b := by
  apply Nat.dvd_antisymm
  · have h1 : ((Int.gcd (a % b) b : Nat) : Int) ∣ a % b := Int.gcd_dvd_left ..
    have h2 : ((Int.gcd (a % b) b : Nat) : Int) ∣ b := Int.gcd_dvd_right ..
    have h3 : ((Int.gcd (a % b) b : Nat) : Int) ∣ a := by
      have := Int.dvd_add h1 (Int.dvd_mul_of_dvd_left (c := a / b) h2)
      rwa [Int.emod_add_mul_ediv a b] at this
    exact Int.ofNat_dvd.mp (Int.dvd_coe_gcd h3 h2)
  · have h1 : ((Int.gcd a b : Nat) : Int) ∣ a := Int.gcd_dvd_left ..
    have h2 : ((Int.gcd a b : Nat) : Int) ∣ b := Int.gcd_dvd_right ..
    have h3 : ((Int.gcd a b : Nat) : Int) ∣ a % b := by
      rw [Int.emod_def]
      exact Int.dvd_sub h1 (Int.dvd_mul_of_dvd_left h2)
    exact Int.ofNat_dvd.mp (Int.dvd_coe_gcd h3 h2)
/-- one % other, other above 0 -/
theorem fmod_nat (a : Int) {b : Nat} (h : 0 < b) : ∃ n : Nat, a.fmod b = n ∧ n < b ∧ Nat.gcd n b = Nat.gcd a.natAbs b := by
  refine ⟨(a % b).toNat, ?_, ?_, ?_⟩
  · have := Int.emod_nonneg a (b := (b : Int)) (by omega)
    rw [Int.fmod_eq_emod_of_nonneg _ (by omega)]
    omega
  · have := Int.emod_lt_of_pos a (b := (b : Int)) (by omega)
    omega
  · have h1 := Int.emod_nonneg a (b := (b : Int)) (by omega)
    have e := gcd_emod a (b : Int)
    have e2 : (a % (b : Int)).natAbs = (a % b).toNat := by omega
    unfold Int.gcd at e
    rw [e2] at e
    simpa using e
theorem common_loop (S : DS) : ∀ (b a : Nat), mWhile cW cB [some (.int a), some (.int b)] S = .ok (.nx, [some (.int (Nat.gcd a b : Nat)), some (.int 0)]) S := by
  intro b
  induction b using Nat.strongRecOn with
  | _ b ih =>
    intro a
    rw [mWhile_eq]
    by_cases h0 : b = 0
    · subst h0
      simp
    · have e : ((b : Int) = 0) = False := by simp [h0]
      obtain ⟨n, en, hn, hg⟩ := fmod_nat a (b := b) (by omega)
      have := ih n hn b
      simp [h0, en]
      rw [this]
      rw [Nat.gcd_comm b n, hg]
      simp
noncomputable def common : List D → DS → Ou D := defM 2 2
    (mSeq (mWhile (mT (m2 neO (mV 1) (mC (.int 0))))
    (mPar 0 1 (maC (mV 1) (maC (m2 modO (mV 0) (mV 1)) maN))))
    (mRet (mL absO (maC (mV 0) maN))))
theorem common_ok (a : Int) {b : Nat} (h : 0 < b) (S : DS) : common [.int a, .int (b : Nat)] S = .ok (.int (Nat.gcd a.natAbs b : Nat)) S := by
  obtain ⟨n, en, hn, hg⟩ := fmod_nat a h
  have l := common_loop S n b
  have e : ((b : Int) = 0) = False := by simp; omega
  have w : mWhile cW cB [some (.int a), some (.int b)] S = .ok (.nx, [some (.int (Nat.gcd b n : Nat)), some (.int 0)]) S := by
    rw [mWhile_eq]
    simp [show ¬ b = 0 by omega, en]
    rw [l]
  simp only [common, defM_at]
  simp
  rw [w]
  rw [← hg, Nat.gcd_comm n b]
  simp [absO, show ¬ ((Nat.gcd b n : Nat) : Int) < 0 by omega]
noncomputable def share : List D → DS → Ou D := defM 2 3
    (mSeq (mSet 2 (mL common (maC (mV 0) (maC (mV 1) maN))))
    (mSeq (mIfS (mT (m2 ltO (mV 1) (mC (.int 0))))
    (mSet 2 (m1 negO (mV 2)))
    mNx)
    (mRet (mL tupO (maC (m2 fdivO (mV 0) (mV 2)) (maC (m2 fdivO (mV 1) (mV 2)) maN))))))
/-- the division of both by their greatest divisor is a plain one -/
def Div (t : Int) (b : Nat) : Prop := Builtin.divisionGoesByPylong t (Nat.gcd t.natAbs b : Nat) = false ∧ Builtin.divisionGoesByPylong (b : Nat) (Nat.gcd t.natAbs b : Nat) = false
theorem div_small {t : Int} {b : Nat} (h : Nat.gcd t.natAbs b < 2 ^ 9000) : Div t b := ⟨fdiv_small (by rw [Int.natAbs_natCast]; exact h), fdiv_small (by rw [Int.natAbs_natCast]; exact h)⟩
theorem div_zero (b : Nat) : Div 0 b := by
  unfold Div
  rw [Int.natAbs_zero, Nat.gcd_zero_left]
  exact ⟨fdiv_le (by simp), fdiv_le (Nat.le_refl _)⟩
theorem share_ok {t : Int} {b : Nat} (S : DS) (h0 : 0 < b) (h : Div t b) : share [.int t, .int (b : Nat)] S = .ok (enc (mkRat t b)) S := by
  have hg : 0 < Nat.gcd t.natAbs b := Nat.gcd_pos_of_pos_right _ h0
  have d1 := fdivO_of (a := t) (b := (Nat.gcd t.natAbs b : Nat)) S (by omega) h.1
  have d2 := fdivO_of (a := (b : Nat)) (b := (Nat.gcd t.natAbs b : Nat)) S (by omega) h.2
  have e : enc (mkRat t b) = .tup [.int (t / (Nat.gcd t.natAbs b : Nat)), .int ((b : Int) / (Nat.gcd t.natAbs b : Nat))] := by
    unfold enc
    rw [Rat.num_mkRat, Rat.den_mkRat, if_neg (by omega), if_neg (by omega), Nat.gcd_comm b]
    rfl
  have c : ¬ (b : Int) < 0 := by omega
  rw [e]
  simp only [share, defM_at]
  simp [common_ok t h0, c, d1, d2, tupO]
end FR

namespace FR
open PySem PySem.Spec PyProof.Rows L2 DL
theorem gcd_plus {a c : Int} {b d : Nat} (h : a.natAbs.Coprime b) (hd : 0 < d) : Nat.gcd (a * d + c * b).natAbs (b * d) ≤ d * d := by
  have g1 : ((Nat.gcd (a * d + c * b).natAbs (b * d) : Nat) : Int) ∣ a * d + c * b := by
    have := Nat.gcd_dvd_left (a * d + c * b).natAbs (b * d)
    exact Int.ofNat_dvd_left.mpr this
  have g2 : ((Nat.gcd (a * d + c * b).natAbs (b * d) : Nat) : Int) ∣ (b : Int) * d := by
    have := Int.ofNat_dvd.mpr (Nat.gcd_dvd_right (a * d + c * b).natAbs (b * d))
    simpa using this
  generalize Nat.gcd (a * d + c * b).natAbs (b * d) = g at *
  have g3 : (g : Int) ∣ a * (d * d) := by
    have e : a * ((d : Int) * d) = (a * d + c * b) * d - b * d * c := by grind
    rw [e]
    exact Int.dvd_sub (Int.dvd_mul_of_dvd_left g1) (Int.dvd_mul_of_dvd_left g2)
  have g4 : (g : Int) ∣ (b : Int) * (d * d) := by
    rw [← Int.mul_assoc]
    exact Int.dvd_mul_of_dvd_left g2
  have n3 : g ∣ a.natAbs * (d * d) := by
    have := Int.natAbs_dvd_natAbs.mpr g3
    simpa [Int.natAbs_mul] using this
  have n4 : g ∣ b * (d * d) := by
    have := Int.natAbs_dvd_natAbs.mpr g4
    simpa [Int.natAbs_mul] using this
  have n5 : g ∣ d * d := by
    have := Nat.dvd_gcd n3 n4
    rw [Nat.gcd_mul_right, h.gcd_eq_one, Nat.one_mul] at this
    exact this
  exact Nat.le_of_dvd (Nat.mul_pos hd hd) n5
theorem gcd_times {a c : Int} {b d : Nat} (h : a.natAbs.Coprime b) (h2 : c.natAbs.Coprime d) (hd : 0 < d) (hc : c ≠ 0) : Nat.gcd (a * c).natAbs (b * d) ≤ c.natAbs * d := by
  have c0 : 0 < c.natAbs := by omega
  have n1 := Nat.gcd_dvd_left (a * c).natAbs (b * d)
  have n2 := Nat.gcd_dvd_right (a * c).natAbs (b * d)
  rw [Int.natAbs_mul] at *
  generalize Nat.gcd (a.natAbs * c.natAbs) (b * d) = g at *
  have n3 : g ∣ a.natAbs * (c.natAbs * d) := by
    rw [← Nat.mul_assoc]
    exact Nat.dvd_mul_right_of_dvd n1 d
  have n4 : g ∣ b * (c.natAbs * d) := by
    rw [Nat.mul_comm c.natAbs d, ← Nat.mul_assoc]
    exact Nat.dvd_mul_right_of_dvd n2 _
  have n5 : g ∣ c.natAbs * d := by
    have := Nat.dvd_gcd n3 n4
    rw [Nat.gcd_mul_right, h.gcd_eq_one, Nat.one_mul] at this
    exact this
  exact Nat.le_of_dvd (Nat.mul_pos c0 hd) n5
theorem pow9 {g d e : Nat} (h : g ≤ d * e) (hd : d < 2 ^ 4500) (he : e < 2 ^ 4500) : g < 2 ^ 9000 := Nat.lt_of_le_of_lt h (mul_lt (j := 4500) (k := 4500) hd he)
/-- the sizes that the operators let: one of the two is small -/
structure Two (p q : Rat) : Prop where
  a : Bd 400000 p
  b : Bd 400000 q
  s : Bd 4500 p ∨ Bd 4500 q
theorem two_r {j k : Nat} {p q : Rat} (hp : Bd j p) (hq : Bd k q) (hj : j ≤ 400000) (hk : k ≤ 4500) : Two p q := ⟨hp.mono hj, hq.mono (by omega), .inr (hq.mono hk)⟩
theorem two_l {j k : Nat} {p q : Rat} (hp : Bd j p) (hq : Bd k q) (hj : j ≤ 4500) (hk : k ≤ 400000) : Two p q := ⟨hp.mono (by omega), hq.mono hk, .inl (hp.mono hj)⟩
theorem Two.symm {p q : Rat} (h : Two p q) : Two q p := ⟨h.b, h.a, h.s.symm⟩
theorem div_plus {p q : Rat} (h : Two p q) : Div (p.num * q.den + q.num * p.den) (p.den * q.den) := by
  refine div_small ?_
  rcases h.s with s | s
  · have e := gcd_plus (a := q.num) (c := p.num) (b := q.den) (d := p.den) q.reduced (den_pos p)
    rw [Int.add_comm, Nat.mul_comm q.den] at e
    exact pow9 e s.d s.d
  · exact pow9 (gcd_plus p.reduced (den_pos q)) s.d s.d
theorem div_times {p q : Rat} (h : Two p q) : Div (p.num * q.num) (p.den * q.den) := by
  by_cases z : p.num * q.num = 0
  · rw [z]; exact div_zero _
  have zp : p.num ≠ 0 := fun e => z (by rw [e, Int.zero_mul])
  have zq : q.num ≠ 0 := fun e => z (by rw [e, Int.mul_zero])
  refine div_small ?_
  rcases h.s with s | s
  · have e := gcd_times (a := q.num) (c := p.num) (b := q.den) (d := p.den) q.reduced p.reduced (den_pos p) zp
    rw [Int.mul_comm, Nat.mul_comm q.den] at e
    exact pow9 e s.n s.d
  · exact pow9 (gcd_times p.reduced q.reduced (den_pos q) zq) s.n s.d
section
variable {p q : Rat} (S : DS)
theorem m_nd (h : Two p q) : mulO (.int p.num) (.int (q.den : Nat)) S = .ok (.int (p.num * q.den)) S := mul_int S h.a.n (by rw [Int.natAbs_natCast]; exact h.b.d)
theorem m_nn (h : Two p q) : mulO (.int p.num) (.int q.num) S = .ok (.int (p.num * q.num)) S := mul_int S h.a.n h.b.n
theorem m_dd (h : Two p q) : mulO (.int (p.den : Nat)) (.int (q.den : Nat)) S = .ok (.int ((p.den * q.den : Nat) : Int)) S := by
  rw [mul_int S (by rw [Int.natAbs_natCast]; exact h.a.d) (by rw [Int.natAbs_natCast]; exact h.b.d), Int.natCast_mul]
noncomputable def plus : List D → DS → Ou D := defM 2 2
    (mSeq (mIfS (mT (m2 eqO (m2 ixO (mV 0) (mC (.int 1))) (m2 ixO (mV 1) (mC (.int 1)))))
    (mRet (mL share (maC (m2 addO (m2 ixO (mV 0) (mC (.int 0))) (m2 ixO (mV 1) (mC (.int 0)))) (maC (m2 ixO (mV 0) (mC (.int 1))) maN))))
    mNx)
    (mRet (mL share (maC (m2 addO (m2 mulO (m2 ixO (mV 0) (mC (.int 0))) (m2 ixO (mV 1) (mC (.int 1)))) (m2 mulO (m2 ixO (mV 1) (mC (.int 0))) (m2 ixO (mV 0) (mC (.int 1))))) (maC (m2 mulO (m2 ixO (mV 0) (mC (.int 1))) (m2 ixO (mV 1) (mC (.int 1)))) maN)))))
theorem plus_ok (h : Two p q) : plus [enc p, enc q] S = .ok (enc (p + q)) S := by
  simp only [plus, defM_at]
  by_cases e : p.den = q.den
  · have sm : p + q = mkRat (p.num + q.num) p.den := by
      rw [add_mk, ← e, ← Int.add_mul, Rat.mkRat_eq_iff (Nat.mul_ne_zero p.den_nz p.den_nz) p.den_nz]
      grind
    have dv : Div (p.num + q.num) p.den := by
      refine div_small ?_
      have g : Nat.gcd (p.num + q.num).natAbs p.den ≤ p.den := Nat.gcd_le_right _ (den_pos p)
      rcases h.s with s | s
      · exact Nat.lt_of_le_of_lt g (Nat.lt_of_lt_of_le s.d (Nat.pow_le_pow_right (by decide) (by decide)))
      · rw [e] at g ⊢
        exact Nat.lt_of_le_of_lt g (Nat.lt_of_lt_of_le s.d (Nat.pow_le_pow_right (by decide) (by decide)))
    have so := share_ok S (den_pos p) dv
    rw [← sm] at so
    simp only [mSeq_at, mIfS_at, mT_at, m2_at, mV_at, mC_at, m2K_ok, m2J_ok, startE_at, List.map_cons, List.map_nil, List.length_cons, List.length_nil, Nat.reduceAdd, Nat.reduceSub, List.reduceReplicate, if_true, List.cons_append, List.nil_append, List.getElem?_cons_zero, List.getElem?_cons_succ, enc0, enc1, eqO_int]
    rw [e]
    simp only [decide_true, tK_ok, ifSK_t, mRet_at, mL_at, maC_at, maN_at, maK_ok, maJ_ok, m2_at, mV_at, mC_at, m2K_ok, m2J_ok, List.getElem?_cons_zero, List.getElem?_cons_succ, enc0, enc1, addO_int, bind_ok, so, retK_ok, seqK_rt, retO_rt]
  · have e' : ((p.den : Int) = (q.den : Int)) = False := eq_false (by omega)
    have so := share_ok S (Nat.mul_pos (den_pos p) (den_pos q)) (div_plus h)
    rw [← add_mk] at so
    simp only [mSeq_at, mIfS_at, mT_at, m2_at, mV_at, mC_at, m2K_ok, m2J_ok, startE_at, List.map_cons, List.map_nil, List.length_cons, List.length_nil, Nat.reduceAdd, Nat.reduceSub, List.reduceReplicate, if_true, List.cons_append, List.nil_append, List.getElem?_cons_zero, List.getElem?_cons_succ, enc0, enc1, eqO_int, e', decide_false, tK_ok, ifSK_f, mNx_at, seqK_nx, mRet_at, mL_at, maC_at, maN_at, maK_ok, maJ_ok, addO_int, bind_ok, m_nd S h, m_nd S h.symm, m_dd S h, so, retK_ok, retO_rt]
noncomputable def times : List D → DS → Ou D := defM 2 2
    (mRet (mL share (maC (m2 mulO (m2 ixO (mV 0) (mC (.int 0))) (m2 ixO (mV 1) (mC (.int 0)))) (maC (m2 mulO (m2 ixO (mV 0) (mC (.int 1))) (m2 ixO (mV 1) (mC (.int 1)))) maN))))
theorem times_ok (h : Two p q) : times [enc p, enc q] S = .ok (enc (p * q)) S := by
  have so := share_ok S (Nat.mul_pos (den_pos p) (den_pos q)) (div_times h)
  rw [← mul_mk] at so
  simp only [times, defM_at]
  simp only [m2_at, mV_at, mC_at, m2K_ok, m2J_ok, startE_at, List.map_cons, List.map_nil, List.length_cons, List.length_nil, Nat.reduceAdd, Nat.reduceSub, List.reduceReplicate, if_true, List.cons_append, List.nil_append, List.getElem?_cons_zero, List.getElem?_cons_succ, enc0, enc1, mRet_at, mL_at, maC_at, maN_at, maK_ok, maJ_ok, bind_ok, m_nn S h, m_dd S h, so, retK_ok, retO_rt]
noncomputable def minus : List D → DS → Ou D := defM 2 2
    (mRet (mL plus (maC (mV 0) (maC (mL tupO (maC (m1 negO (m2 ixO (mV 1) (mC (.int 0)))) (maC (m2 ixO (mV 1) (mC (.int 1))) maN))) maN))))
theorem Two.neg {p q : Rat} (h : Two p q) : Two p (-q) := ⟨h.a, h.b.neg, h.s.imp id fun z => z.neg⟩
theorem minus_ok (h : Two p q) : minus [enc p, enc q] S = .ok (enc (p - q)) S := by
  have so := plus_ok S h.neg
  rw [← Rat.sub_eq_add_neg] at so
  have en : enc (-q) = .tup [.int (-q.num), .int (q.den : Nat)] := by unfold enc; rw [Rat.neg_num, Rat.neg_den]
  rw [en] at so
  simp only [minus, defM_at]
  simp [enc0, enc1, tupO, so]
end
/-! tests -/
section
variable (S : DS)
noncomputable def is_integer : List D → DS → Ou D := defM 1 1
    (mRet (mAndV (isiM "int" (mV 0)) (mNotV (isiM "bool" (mV 0)))))
noncomputable def is_within : List D → DS → Ou D := defM 3 3
    (mRet (mAndV (mL is_integer (maC (mV 0) maN)) (mChain leO leO (mV 1) (mV 0) (mV 2))))
noncomputable def is_sized : List D → DS → Ou D := defM 3 3
    (mRet (mAndV (isiM "tuple" (mV 0)) (mChain leO leO (mV 1) (mL lenO (maC (mV 0) maN)) (mV 2))))
noncomputable def is_share : List D → DS → Ou D := defM 1 1
    (mSeq (mIfS (mOr (mNot (mT (mL is_sized (maC (mV 0) (maC (mC (.int 2)) (maC (mC (.int 2)) maN)))))) (mOr (mNot (mT (mL is_integer (maC (m2 ixO (mV 0) (mC (.int 0))) maN)))) (mNot (mT (mL is_integer (maC (m2 ixO (mV 0) (mC (.int 1))) maN))))))
    (mRet (mC (.bl false)))
    mNx)
    (mRet (mAndV (m2 gtO (m2 ixO (mV 0) (mC (.int 1))) (mC (.int 0))) (m2 eqO (mL common (maC (m2 ixO (mV 0) (mC (.int 0))) (maC (m2 ixO (mV 0) (mC (.int 1))) maN))) (mC (.int 1))))))
noncomputable def is_amount : List D → DS → Ou D := defM 1 1
    (mRet (mAndV (mL is_share (maC (mV 0) maN)) (m2 geO (m2 ixO (mV 0) (mC (.int 0))) (mC (.int 0)))))
noncomputable def are_amounts : List D → DS → Ou D := defM 2 3
    (mRet (mAndV (mL is_sized (maC (mV 0) (maC (mV 1) (maC (mV 1) maN)))) (mL allO (maC (lcM (mSeqI (mV 0)) (gN 2) mYes (mL is_amount (maC (mV 2) maN)) [2] finV) maN))))
theorem integer_ok (i : Int) : is_integer [.int i] S = .ok (.bl true) S := by
  simp only [is_integer, defM_at]
  simp [isTy]
theorem within_ok (i lo hi : Int) : is_within [.int i, .int lo, .int hi] S = .ok (.bl (decide (lo ≤ i) && decide (i ≤ hi))) S := by
  simp only [is_within, defM_at]
  by_cases h : lo ≤ i
  · simp [integer_ok, h]
  · simp [integer_ok, h]
theorem sized_ok (xs : List D) (lo hi : Int) : is_sized [.tup xs, .int lo, .int hi] S = .ok (.bl (decide (lo ≤ (xs.length : Int)) && decide ((xs.length : Int) ≤ hi))) S := by
  simp only [is_sized, defM_at]
  by_cases h : lo ≤ (xs.length : Int)
  · simp [isTy, lenO_tup, h]
  · simp [isTy, lenO_tup, h]
theorem is_share_ok (q : Rat) : is_share [enc q] S = .ok (.bl true) S := by
  have h0 : (0 : Int) < (q.den : Int) := by have := den_pos q; omega
  have sz : is_sized [enc q, .int 2, .int 2] S = .ok (.bl true) S := sized_ok S _ 2 2
  have c := common_ok q.num (den_pos q) S
  rw [q.reduced.gcd_eq_one] at c
  simp only [is_share, defM_at]
  simp [sz, enc0, enc1, integer_ok, den_pos q, c]
theorem is_amount_ok {q : Rat} (h : 0 ≤ q) : is_amount [enc q] S = .ok (.bl true) S := by
  have h0 : (0 : Int) ≤ q.num := Rat.num_nonneg.mpr h
  simp only [is_amount, defM_at]
  simp [is_share_ok, enc0, h0]
def encR (r : List Rat) : D := .tup (r.map enc)
theorem are_amounts_ok {r : List Rat} (h : ∀ q ∈ r, 0 ≤ q) (hl : r.length ≤ 9000) : are_amounts [encR r, .int (r.length : Nat)] S = .ok (.bl true) S := by
  have sz : is_sized [encR r, .int (r.length : Nat), .int (r.length : Nat)] S = .ok (.bl true) S := by
    have := sized_ok S (r.map enc) (r.length : Nat) (r.length : Nat)
    rw [List.length_map] at this
    have e : encR r = .tup (r.map enc) := rfl
    rw [e, this]
    simp
  have it : asItm (encR r) S = .ok ⟨r.map enc, none⟩ S := rfl
  simp only [are_amounts, defM_at]
  simp [sz, it]
  rw [lcK_F enc (fun _ => D.bl true) r (Nat.le_trans hl (by decide)) fun q hq => by simp [wipeE, is_amount_ok S (h q hq)]]
  simp [all_true]
end
end FR

namespace FR
open PySem PySem.Spec PyProof.Rows L2 DL
/-! sums -/
def sumQ : List Rat → Rat
  | [] => 0
  | q :: qs => q + sumQ qs
theorem sumQ_append (xs ys : List Rat) : sumQ (xs ++ ys) = sumQ xs + sumQ ys := by
  induction xs with
  | nil => simp [sumQ, Rat.zero_add]
  | cons x xs ih => rw [List.cons_append, sumQ, sumQ, ih, Rat.add_assoc]
theorem Bd.sum {k : Nat} : ∀ {qs : List Rat}, (∀ q ∈ qs, Bd k q) → Bd (1 + (k + 1) * qs.length) (sumQ qs)
  | [], _ => bd0 (by omega)
  | q :: qs, h => by
    have h1 := h q (List.mem_cons_self ..)
    have h2 := Bd.sum fun r hr => h r (List.mem_cons_of_mem q hr)
    have h3 := h1.add h2
    refine h3.mono ?_
    rw [List.length_cons, Nat.mul_succ]
    omega
section
variable {mg : MG} {p : MS} {env : DE} {S : DS} {it : Itm} {d : D}
theorem forL_nil' (h : it.okB S) : forL mg p it [] env S = .ok (.nx, env) S := by
  obtain ⟨xs, g⟩ := it
  show Itm.gate ⟨xs, g⟩ S _ = _
  unfold Itm.gate
  exact if_pos h
theorem forL_cons' (h : it.okB S) (r : List D) : forL mg p it (d :: r) env S = forN mg p it r (turn mg p d env S) := by
  obtain ⟨xs, g⟩ := it
  have e : forL mg p ⟨xs, g⟩ (d :: r) env S = (mg d env S).bind fun env1 S1 => (p env1 S1).bind fun q S2 => match q.1 with
    | .nx => forL mg p ⟨xs, g⟩ r q.2 S2
    | .ct => forL mg p ⟨xs, g⟩ r q.2 S2
    | .bk => .ok (.nx, q.2) S2
    | f => .ok (f, q.2) S2 := by
    show Itm.gate ⟨xs, g⟩ S _ = _
    unfold Itm.gate
    exact if_pos h
  rw [e]
  unfold forN turn
  cases mg d env S <;> rfl
end
abbrev AddOk (add : List D → DS → Ou D) : Prop := ∀ {p q : Rat} (S : DS), Two p q → add [enc p, enc q] S = .ok (enc (p + q)) S
noncomputable def summedOf (add : List D → DS → Ou D) (z0 : ME) : List D → DS → Ou D := defM 1 3
    (mSeq (mSet 1 z0)
    (mSeq (mFor (mSeqI (mV 0)) (gN 2)
    (mSet 1 (mL add (maC (mV 1) (maC (mV 2) maN)))))
    (mRet (mV 1))))
theorem sum_loop {add : List D → DS → Ou D} (hadd : AddOk add) {it : Itm} {S : DS} (hok : it.okB S) {k : Nat} (hk : k ≤ 4500) (x : Option D) : ∀ (qs : List Rat) (K : Nat) (z : Rat) (y : Option D), Bd K z → (∀ q ∈ qs, Bd k q) → K + (k + 1) * qs.length ≤ 400000 →
    ∃ y', forL (gN 2) (mSet 1 (mL add (maC (mV 1) (maC (mV 2) maN)))) it (qs.map enc) [x, some (enc z), y] S = .ok (.nx, [x, some (enc (z + sumQ qs)), y']) S := by
  intro qs
  induction qs with
  | nil => exact fun K z y _ _ _ => ⟨y, by rw [List.map_nil, forL_nil' hok, sumQ, Rat.add_zero]⟩
  | cons q qs ih =>
    intro K z y hz hq hl
    rw [List.length_cons, Nat.mul_succ] at hl
    have h1 := hq q (List.mem_cons_self ..)
    obtain ⟨y', e⟩ := ih (K + k + 1) (z + q) (some (enc q)) (hz.add h1) (fun r hr => hq r (List.mem_cons_of_mem _ hr)) (by omega)
    refine ⟨y', ?_⟩
    have ha := hadd S (two_r hz h1 (by omega) hk)
    rw [List.map_cons, forL_cons' hok]
    simp [ha]
    rw [e, sumQ, Rat.add_assoc]
theorem summedOf_ok {add : List D → DS → Ou D} (hadd : AddOk add) {z0 : ME} (hz0 : ∀ env S, z0 env S = .ok (enc 0) S) {k : Nat} (hk : k ≤ 4500) {qs : List Rat} (hq : ∀ q ∈ qs, Bd k q) (hl : 1 + (k + 1) * qs.length ≤ 400000) {d : D} {it : Itm} {S : DS} (hi : asItm d S = .ok it S)
    (hit : it.items = qs.map enc) (hok : it.okB S) : summedOf add z0 [d] S = .ok (enc (sumQ qs)) S := by
  obtain ⟨y', e⟩ := sum_loop hadd hok hk (some d) qs 1 0 none (bd0 (by decide)) hq hl
  simp only [summedOf, defM_at]
  rw [startE_at]
  simp only [List.map_cons, List.map_nil, List.length_cons, List.length_nil, Nat.reduceAdd, Nat.reduceSub, List.reduceReplicate, if_true, List.cons_append, List.nil_append, mSeq_at, mSet_at, hz0, setK_ok, List.set_cons_succ, List.set_cons_zero, seqK_nx, mFor_at, mSeqI_at, mV_at, List.getElem?_cons_zero, bind_ok, hi, forK_ok, hit, e, mRet_at, List.getElem?_cons_succ, retK_ok, retO_rt, Rat.zero_add]
theorem sum_vl {add : List D → DS → Ou D} (hadd : AddOk add) {z0 : ME} (hz0 : ∀ env S, z0 env S = .ok (enc 0) S) {k : Nat} (hk : k ≤ 4500) {qs : List Rat} (hq : ∀ q ∈ qs, Bd k q) (hl : 1 + (k + 1) * qs.length ≤ 400000) (S : DS) : summedOf add z0 [.vl (qs.map enc)] S = .ok (enc (sumQ qs)) S :=
  summedOf_ok hadd hz0 hk hq hl (it := ⟨qs.map enc, none⟩) rfl rfl True.intro
theorem sum_ref {add : List D → DS → Ou D} (hadd : AddOk add) {z0 : ME} (hz0 : ∀ env S, z0 env S = .ok (enc 0) S) {k : Nat} (hk : k ≤ 4500) {qs : List Rat} (hq : ∀ q ∈ qs, Bd k q) (hl : 1 + (k + 1) * qs.length ≤ 400000) {S : DS} {p : Nat} (hS : S[p]? = some (.lst (qs.map enc))) : summedOf add z0 [.ref p] S = .ok (enc (sumQ qs)) S := by
  refine summedOf_ok hadd hz0 hk hq hl (it := ⟨qs.map enc, some (p, qs.map enc)⟩) ?_ rfl hS
  show refItm p S = _
  unfold refItm
  simp only [hS]
noncomputable def summed : List D → DS → Ou D := summedOf plus (mC (.tup [(.int 0), (.int 1)]))
theorem plus_add : AddOk plus := fun S h => plus_ok S h
theorem summed_vl {k : Nat} (hk : k ≤ 4500) {qs : List Rat} (hq : ∀ q ∈ qs, Bd k q) (hl : 1 + (k + 1) * qs.length ≤ 400000) (S : DS) : summed [.vl (qs.map enc)] S = .ok (enc (sumQ qs)) S := sum_vl plus_add (fun _ _ => rfl) hk hq hl S
/-! products summed -/
def dotQ (as bs : List Rat) : Rat := sumQ ((as.zip bs).map fun x => x.1 * x.2)
theorem dot_bds {j k : Nat} {as bs : List Rat} (ha : ∀ q ∈ as, Bd j q) (hb : ∀ q ∈ bs, Bd k q) : ∀ q ∈ (as.zip bs).map fun x => x.1 * x.2, Bd (j + k) q := by
  intro q hq
  obtain ⟨x, hx, rfl⟩ := List.mem_map.mp hq
  exact (ha _ (List.of_mem_zip hx).1).mul (hb _ (List.of_mem_zip hx).2)
theorem Bd.dot {j k n : Nat} {as bs : List Rat} (ha : ∀ q ∈ as, Bd j q) (hb : ∀ q ∈ bs, Bd k q) (hn : as.length ≤ n) : Bd (1 + (j + k + 1) * n) (dotQ as bs) := by
  refine (Bd.sum (dot_bds ha hb)).mono ?_
  have : ((as.zip bs).map fun x => x.1 * x.2).length ≤ n := by simp; omega
  have := Nat.mul_le_mul_left (j + k + 1) this
  omega
theorem zip_enc (as bs : List Rat) (S : DS) : zipO [encR as, encR bs] S = .ok ⟨(as.zip bs).map fun x => .tup [enc x.1, enc x.2], none⟩ S := by
  show Ou.ok (Itm.mk (zipD (as.map enc) (bs.map enc)) none) S = _
  rw [zipD_map]
abbrev MulOk (mul : List D → DS → Ou D) : Prop := ∀ {p q : Rat} (S : DS), Two p q → mul [enc p, enc q] S = .ok (enc (p * q)) S
theorem times_mul : MulOk times := fun S h => times_ok S h
theorem dot_items {mul : List D → DS → Ou D} (hm : MulOk mul) {i j a b : Nat} {vs : List Nat} {env : DE} {S : DS} {as bs : List Rat} {ja jb : Nat} (ha : ∀ q ∈ as, Bd ja q) (hb : ∀ q ∈ bs, Bd jb q) (hja : ja ≤ 400000) (hjb : jb ≤ 400000) (hs : ja ≤ 4500 ∨ jb ≤ 4500) (hl : as.length ≤ 9000) {e1 e2 : ME}
    (h1 : e1 env S = .ok (encR as) S) (h2 : e2 env S = .ok (encR bs) S) (hij : ∀ x y, (((wipeE env vs).set i (some x)).set j (some y))[a]? = some (some x) ∧ (((wipeE env vs).set i (some x)).set j (some y))[b]? = some (some y)) :
    lcM (mArgI zipO (maC e1 (maC e2 maN))) (gT 2 (gsC (gN i) (gsC (gN j) gsN))) mYes (mL mul (maC (mV a) (maC (mV b) maN))) vs finV env S = .ok (.vl (((as.zip bs).map fun x => x.1 * x.2).map enc)) S := by
  simp only [lcM_at, mArgI_at, maC_at, maN_at, h1, h2, maK_ok, maJ_ok, bind_ok, zip_enc]
  rw [lcK_F (fun x : Rat × Rat => D.tup [enc x.1, enc x.2]) (fun x => enc (x.1 * x.2)) (as.zip bs) (Nat.le_trans (by simp; omega) (show 9000 ≤ sizeLine by decide)) ?_, finV_at, List.map_map]
  · rfl
  · intro x hx
    have b1 := ha _ (List.of_mem_zip hx).1
    have b2 := hb _ (List.of_mem_zip hx).2
    have tw : Two x.1 x.2 := ⟨b1.mono hja, b2.mono hjb, hs.imp (fun z => b1.mono z) fun z => b2.mono z⟩
    obtain ⟨q1, q2⟩ := hij (enc x.1) (enc x.2)
    simp [q1, q2, hm S tw]
noncomputable def worth : List D → DS → Ou D := defM 2 4
    (mRet (mL summed (maC (lcM (mArgI zipO (maC (mV 0) (maC (mV 1) maN))) (gT 2 (gsC (gN 2) (gsC (gN 3) gsN))) mYes (mL times (maC (mV 2) (maC (mV 3) maN))) [2, 3] finV) maN)))
theorem worth_ok {as bs : List Rat} {ja jb : Nat} (ha : ∀ q ∈ as, Bd ja q) (hb : ∀ q ∈ bs, Bd jb q) (hs : ja + jb ≤ 4500) (hn : as.length ≤ 60) (S : DS) : worth [encR as, encR bs] S = .ok (enc (dotQ as bs)) S := by
  have zl : ((as.zip bs).map fun x => x.1 * x.2).length ≤ 60 := by simp; omega
  have zm := Nat.mul_le_mul (show ja + jb + 1 ≤ 4501 by omega) zl
  have di := dot_items times_mul (i := 2) (j := 3) (a := 2) (b := 3) (vs := [2, 3]) (env := [some (encR as), some (encR bs), none, none]) (S := S) ha hb (by omega) (by omega) (.inl (by omega)) (by omega) (e1 := mV 0) (e2 := mV 1) rfl rfl (fun x y => ⟨rfl, rfl⟩)
  have sm := summed_vl (k := ja + jb) hs (dot_bds ha hb) (by omega) S
  simp only [worth, defM_at]
  rw [startE_at]
  simp only [List.map_cons, List.map_nil, List.length_cons, List.length_nil, Nat.reduceAdd, Nat.reduceSub, List.reduceReplicate, if_true, List.cons_append, List.nil_append, mRet_at, mL_at, maC_at, maN_at]
  rw [di]
  simp only [maK_ok, maN_at, maJ_ok, bind_ok, sm, retK_ok, retO_rt]
  rfl
/-! books -/
structure Meth where
  g : Nat
  u : List Rat
  w : Rat
def encM (m : Meth) : D := .tup [.int (m.g : Nat), encR m.u, enc m.w]
def encB (n : Nat) (ms : List Meth) : D := .tup [.int (n : Nat), .tup (ms.map encM)]
/-- amounts: n of them, none below 0 -/
structure Am (k n : Nat) (r : List Rat) : Prop where
  len : r.length = n
  ok : ∀ q ∈ r, 0 ≤ q ∧ Bd k q
theorem Am.bd {k n : Nat} {r : List Rat} (h : Am k n r) : ∀ q ∈ r, Bd k q := fun q hq => (h.ok q hq).2
structure Bk (k n : Nat) (ms : List Meth) : Prop where
  n0 : 1 ≤ n
  n1 : n ≤ 6
  l0 : 1 ≤ ms.length
  l1 : ms.length ≤ 20
  g : ∀ m ∈ ms, m.g < n
  u : ∀ m ∈ ms, Am k n m.u
  w : ∀ m ∈ ms, 0 ≤ m.w ∧ Bd k m.w
noncomputable def is_method : List D → DS → Ou D := defM 2 2
    (mSeq (mIfS (mOr (mNot (mT (mL is_sized (maC (mV 1) (maC (mC (.int 3)) (maC (mC (.int 3)) maN)))))) (mNot (mT (mL is_within (maC (m2 ixO (mV 1) (mC (.int 0))) (maC (mC (.int 0)) (maC (m2 subO (mV 0) (mC (.int 1))) maN)))))))
    (mRet (mC (.bl false)))
    mNx)
    (mRet (mAndV (mL are_amounts (maC (m2 ixO (mV 1) (mC (.int 1))) (maC (mV 0) maN))) (mL is_amount (maC (m2 ixO (mV 1) (mC (.int 2))) maN)))))
noncomputable def is_book : List D → DS → Ou D := defM 1 2
    (mSeq (mIfS (mOr (mNot (mT (mL is_sized (maC (mV 0) (maC (mC (.int 2)) (maC (mC (.int 2)) maN)))))) (mNot (mT (mL is_within (maC (m2 ixO (mV 0) (mC (.int 0))) (maC (mC (.int 1)) (maC (mC (.int 6)) maN)))))))
    (mRet (mC (.bl false)))
    mNx)
    (mRet (mAndV (mL is_sized (maC (m2 ixO (mV 0) (mC (.int 1))) (maC (mC (.int 1)) (maC (mC (.int 20)) maN)))) (mL allO (maC (lcM (mSeqI (m2 ixO (mV 0) (mC (.int 1)))) (gN 1) mYes (mL is_method (maC (m2 ixO (mV 0) (mC (.int 0))) (maC (mV 1) maN))) [1] finV) maN)))))
noncomputable def check_book : List D → DS → Ou D := defM 1 1
    (mIfS (mNot (mT (mL is_book (maC (mV 0) maN))))
    mNever
    mNx)
noncomputable def is_plan_of : List D → DS → Ou D := defM 2 2
    (mRet (mL are_amounts (maC (mV 1) (maC (mL lenO (maC (m2 ixO (mV 0) (mC (.int 1))) maN)) maN))))
noncomputable def is_plan : List D → DS → Ou D := defM 2 2
    (mSeq (mDo (mL check_book (maC (mV 0) maN)))
    (mRet (mL is_plan_of (maC (mV 0) (maC (mV 1) maN)))))
noncomputable def check_plan : List D → DS → Ou D := defM 2 2
    (mSeq (mDo (mL check_book (maC (mV 0) maN)))
    (mIfS (mNot (mT (mL is_plan_of (maC (mV 0) (maC (mV 1) maN)))))
    mNever
    mNx))
noncomputable def check_factor : List D → DS → Ou D := defM 1 1
    (mIfS (mNot (mT (mL is_amount (maC (mV 0) maN))))
    mNever
    mNx)
noncomputable def check_prices : List D → DS → Ou D := defM 2 2
    (mIfS (mNot (mT (mL are_amounts (maC (mV 1) (maC (m2 ixO (mV 0) (mC (.int 0))) maN)))))
    mNever
    mNx)
section
variable {k n : Nat} {ms : List Meth} (S : DS)
theorem encM0 (m : Meth) : ixO (encM m) (.int 0) S = .ok (.int (m.g : Nat)) S := getI_0 (.int (m.g : Nat)) [encR m.u, enc m.w] S
theorem encM1 (m : Meth) : ixO (encM m) (.int 1) S = .ok (encR m.u) S := getI_1 (.int (m.g : Nat)) (encR m.u) [enc m.w] S
theorem encM2 (m : Meth) : ixO (encM m) (.int 2) S = .ok (enc m.w) S := getI_2 (.int (m.g : Nat)) (encR m.u) (enc m.w) [] S
theorem encB0 (n : Nat) (ms : List Meth) : ixO (encB n ms) (.int 0) S = .ok (.int (n : Nat)) S := getI_0 (.int (n : Nat)) [.tup (ms.map encM)] S
theorem encB1 (n : Nat) (ms : List Meth) : ixO (encB n ms) (.int 1) S = .ok (.tup (ms.map encM)) S := getI_1 (.int (n : Nat)) (.tup (ms.map encM)) [] S
theorem amounts_ok {r : List Rat} (h : Am k n r) (hn : n ≤ 9000) : are_amounts [encR r, .int (n : Nat)] S = .ok (.bl true) S := by
  have := are_amounts_ok S (fun q hq => (h.ok q hq).1) (by rw [h.len]; exact hn)
  rw [h.len] at this
  exact this
theorem is_method_ok (h : Bk k n ms) {m : Meth} (hm : m ∈ ms) : is_method [.int (n : Nat), encM m] S = .ok (.bl true) S := by
  have sz : is_sized [encM m, .int 3, .int 3] S = .ok (.bl true) S := sized_ok S _ 3 3
  have wi := within_ok S (m.g : Nat) 0 ((n : Int) - 1)
  have g := h.g m hm
  rw [show (decide ((0 : Int) ≤ ((m.g : Nat) : Int)) && decide (((m.g : Nat) : Int) ≤ (n : Int) - 1)) = true by simp; omega] at wi
  have am := amounts_ok S (h.u m hm) (by have := h.n1; omega)
  have w := is_amount_ok S (h.w m hm).1
  simp only [is_method, defM_at]
  simp [sz, encM0, encM1, encM2, wi, am, w]
theorem is_book_ok (h : Bk k n ms) : is_book [encB n ms] S = .ok (.bl true) S := by
  have sz : is_sized [encB n ms, .int 2, .int 2] S = .ok (.bl true) S := sized_ok S _ 2 2
  have h1 := h.n0
  have h2 := h.n1
  have h3 := h.l0
  have h4 := h.l1
  have wi := within_ok S (n : Nat) 1 6
  rw [show (decide ((1 : Int) ≤ ((n : Nat) : Int)) && decide (((n : Nat) : Int) ≤ 6)) = true by simp; omega] at wi
  have sz2 := sized_ok S (ms.map encM) 1 20
  rw [List.length_map, show (decide ((1 : Int) ≤ ((ms.length : Nat) : Int)) && decide (((ms.length : Nat) : Int) ≤ 20)) = true by simp; omega] at sz2
  simp only [is_book, defM_at]
  simp [sz, encB0, encB1, wi, sz2]
  rw [lcK_F encM (fun _ => D.bl true) ms (Nat.le_trans h4 (by decide)) fun m hm => by simp [wipeE, encB0, is_method_ok S h hm]]
  simp [all_true]
theorem check_book_ok (h : Bk k n ms) : check_book [encB n ms] S = .ok .non S := by
  simp only [check_book, defM_at]
  simp [is_book_ok S h]
theorem is_plan_of_ok {kp : Nat} {r : List Rat} (h : Bk k n ms) (hr : Am kp ms.length r) : is_plan_of [encB n ms, encR r] S = .ok (.bl true) S := by
  have h4 := h.l1
  have am := amounts_ok S hr (by omega)
  have ln : lenO [.tup (ms.map encM)] S = .ok (.int (ms.length : Nat)) S := by rw [lenO_tup, List.length_map]
  simp only [is_plan_of, defM_at]
  simp [encB1, ln, am]
theorem is_plan_ok {kp : Nat} {r : List Rat} (h : Bk k n ms) (hr : Am kp ms.length r) : is_plan [encB n ms, encR r] S = .ok (.bl true) S := by
  simp only [is_plan, defM_at]
  simp [check_book_ok S h, is_plan_of_ok S h hr]
theorem check_plan_ok {kp : Nat} {r : List Rat} (h : Bk k n ms) (hr : Am kp ms.length r) : check_plan [encB n ms, encR r] S = .ok .non S := by
  simp only [check_plan, defM_at]
  simp [check_book_ok S h, is_plan_of_ok S h hr]
theorem check_factor_ok {q : Rat} (h : 0 ≤ q) : check_factor [enc q] S = .ok .non S := by
  simp only [check_factor, defM_at]
  simp [is_amount_ok S h]
theorem check_prices_ok {kp : Nat} {r : List Rat} (h : Bk k n ms) (hr : Am kp n r) : check_prices [encB n ms, encR r] S = .ok .non S := by
  have am := amounts_ok S hr (by have := h.n1; omega)
  simp only [check_prices, defM_at]
  simp [encB0, am]
end
end FR

namespace FR
open PySem PySem.Spec PyProof.Rows L2 DL
/-! states -/
theorem unders_map {α : Type} (n : Nat) (g : α → D) : ∀ as : List α, (∀ a ∈ as, under n (g a) = true) → unders n (as.map g) = true
  | [], _ => rfl
  | a :: as, h => by
    rw [List.map_cons, unders, h a (List.mem_cons_self ..), unders_map n g as fun b hb => h b (List.mem_cons_of_mem _ hb)]
    rfl
theorem under_enc (n : Nat) (q : Rat) : under n (enc q) = true := rfl
theorem under_encR (n : Nat) (r : List Rat) : under n (encR r) = true := unders_map n enc r fun q _ => under_enc n q
/-- no list of the state speaks of another -/
def Cl (S : DS) : Prop := ∀ n, S.all (underO n) = true
theorem Cl.app {S : DS} (h : Cl S) {ys : List D} (hy : ∀ n, unders n ys = true) : Cl (S ++ [.lst ys]) := fun n => by
  rw [List.all_append, h n, List.all_cons, List.all_nil]
  simp [underO, hy n]
theorem drop_ok {S : DS} (h : Cl S) (d : D) (hd : ∀ n, under n d = true) (J : DS) : dropO S.length (.ok d (S ++ J)) = .ok d S := by
  unfold dropO
  simp only [List.take_left']
  rw [if_pos ⟨hd _, h _⟩]
theorem ref_at {S J : DS} {ys : List D} : (S ++ DO.lst ys :: J)[S.length]? = some (DO.lst ys) := by
  rw [List.getElem?_append_right (Nat.le_refl _), Nat.sub_self]; rfl
theorem tupleO_ref {S J : DS} {ys : List D} : tupleO [.ref S.length] (S ++ .lst ys :: J) = .ok (.tup ys) (S ++ .lst ys :: J) := by
  unfold tupleO
  simp only [ref_at]
theorem refO_at (S : DS) : refO [] S = .ok (.ref S.length) (S ++ [.lst []]) := if_pos (by decide)
theorem app_at {S J : DS} {ys : List D} (y : D) (h : ys.length ≤ 9000) : appendO (.ref S.length) [y] (S ++ .lst ys :: J) = .ok .non (S ++ .lst (ys ++ [y]) :: J) := by
  unfold appendO
  simp only [List.getElem?_append_right (Nat.le_refl _), Nat.sub_self, List.getElem?_cons_zero]
  rw [if_pos (Nat.lt_of_le_of_lt h (by decide)), List.set_append_right _ _ (Nat.le_refl _), Nat.sub_self]
  rfl
theorem setO_at (p : Nat) (xs : List D) (S : DS) (k : Nat) (v : D) (h : S[p]? = some (DO.lst xs)) (hk : k < xs.length) : setO (.ref p) (.int (k : Nat)) v S = .ok () (S.set p (.lst (xs.set k v))) := by
  show (match S[p]? with
    | some (DO.lst xs) => match ixN xs.length (k : Int) with
      | some j => Ou.ok () (S.set p (.lst (xs.set j v)))
      | none => .no
    | none => .no) = _
  rw [h]
  simp only
  rw [ixN_nat (by omega) (by omega)]
  rfl
theorem repL_one {α : Type} (x : α) (n : Nat) : repL [x] n = List.replicate n x := by
  unfold repL
  induction n with
  | zero => rfl
  | succ n ih => rw [List.replicate_succ, List.flatten_cons, ih, List.replicate_succ]; rfl
/-! rows by a function -/
def vec (n : Nat) (f : Nat → Rat) : List Rat := (List.range n).map f
theorem vec_len (n : Nat) (f : Nat → Rat) : (vec n f).length = n := by simp [vec]
theorem vec_get {n i : Nat} (f : Nat → Rat) (h : i < n) : (vec n f)[i]? = some (f i) := by simp [vec, h]
theorem vec_mem {n : Nat} {f : Nat → Rat} {q : Rat} (h : q ∈ vec n f) : ∃ i, i < n ∧ q = f i := by
  obtain ⟨i, hi, rfl⟩ := List.mem_map.mp h
  exact ⟨i, by simpa using hi, rfl⟩
theorem vec_ext {n : Nat} {r : List Rat} {f : Nat → Rat} (hl : r.length = n) (h : ∀ i q, r[i]? = some q → q = f i) : r = vec n f := by
  refine List.ext_getElem? fun i => ?_
  by_cases hi : i < n
  · rw [vec_get f hi]
    have e : r[i]? = some r[i] := List.getElem?_eq_getElem (by omega)
    rw [e, h i _ e]
  · rw [List.getElem?_eq_none (by omega), List.getElem?_eq_none (by rw [vec_len]; omega)]
theorem vec_congr {n : Nat} {f g : Nat → Rat} (h : ∀ i, i < n → f i = g i) : vec n f = vec n g := vec_ext (vec_len n f) fun i q e => by
  have hi : i < n := by
    have := (List.getElem?_eq_some_iff.mp e).1
    rwa [vec_len] at this
  rw [vec_get f hi] at e
  cases e
  exact h i hi
theorem vec_set {n g : Nat} (f : Nat → Rat) (a : Rat) (h : g < n) : (vec n f).set g (f g + a) = vec n (fun i => f i + if g = i then a else 0) := by
  refine vec_ext (by rw [List.length_set, vec_len]) fun i q e => ?_
  by_cases hg : g = i
  · subst hg
    rw [List.getElem?_set_self (by rw [vec_len]; exact h)] at e
    cases e
    rw [if_pos rfl]
  · rw [List.getElem?_set_ne hg] at e
    have hi : i < n := by
      have := (List.getElem?_eq_some_iff.mp e).1
      rwa [vec_len] at this
    rw [vec_get f hi] at e
    cases e
    rw [if_neg hg, Rat.add_zero]
theorem vec_zip {n : Nat} {f : Nat → Rat} {u : List Rat} (hu : u.length = n) (h : Rat → Rat → Rat) : ((vec n f).zip u).map (fun x => h x.1 x.2) = vec n fun i => h (f i) (u.getD i 0) := by
  refine vec_ext (by simp [vec_len, hu]) fun i q e => ?_
  have hi : i < n := by
    have := (List.getElem?_eq_some_iff.mp e).1
    simpa [vec_len, hu] using this
  have e2 : u[i]? = some u[i] := List.getElem?_eq_getElem (by omega)
  rw [List.getElem?_map] at e
  have e3 : ((vec n f).zip u)[i]? = some (f i, u[i]) := List.getElem?_zip_eq_some.mpr ⟨vec_get f hi, e2⟩
  rw [e3] at e
  cases e
  rw [List.getD_eq_getElem?_getD, e2]
  rfl
theorem vec_self {n : Nat} {u : List Rat} (hu : u.length = n) : u = vec n fun i => u.getD i 0 := vec_ext hu fun i q e => by
  rw [List.getD_eq_getElem?_getD, e]; rfl
theorem getD_ok {k n : Nat} {u : List Rat} (h : Am k n u) (hk : 0 < k) (i : Nat) : 0 ≤ u.getD i 0 ∧ Bd k (u.getD i 0) := by
  rw [List.getD_eq_getElem?_getD]
  by_cases hi : i < u.length
  · rw [List.getElem?_eq_getElem hi]
    exact h.ok _ (List.getElem_mem hi)
  · rw [List.getElem?_eq_none (by omega)]
    exact ⟨Rat.le_refl, bd0 hk⟩
theorem vec_at {n g : Nat} (f : Nat → Rat) (S : DS) (h : g < n) : getI ((vec n f).map enc) (g : Int) S = .ok (enc (f g)) S := getI_map enc _ g (vec_get f h)
theorem rep_zero (n : Nat) : List.replicate n (D.tup [.int 0, .int 1]) = (vec n fun _ => 0).map enc := by
  refine List.ext_getElem? fun i => ?_
  by_cases hi : i < n
  · rw [List.getElem?_map, vec_get _ hi, List.getElem?_replicate, if_pos hi]; rfl
  · rw [List.getElem?_eq_none (by simp; omega), List.getElem?_eq_none (by simp [vec_len]; omega)]
/-! what a plan makes and uses -/
abbrev Prs := List (Meth × Rat)
def madeQ (ps : Prs) (i : Nat) : Rat := sumQ (ps.map fun x => if x.1.g = i then x.2 else 0)
def usedQ (ps : Prs) (i : Nat) : Rat := sumQ (ps.map fun x => x.2 * x.1.u.getD i 0)
def encP (x : Meth × Rat) : D := .tup [encM x.1, enc x.2]
theorem zip_pairs (ms : List Meth) (r : List Rat) (S : DS) : zipO [.tup (ms.map encM), encR r] S = .ok ⟨(ms.zip r).map encP, none⟩ S := by
  show Ou.ok (Itm.mk (zipD (ms.map encM) (r.map enc)) none) S = _
  rw [zipD_map]
  rfl
theorem zip_flip {α β γ : Type} (h : α → β → γ) : ∀ (xs : List α) (ys : List β), (ys.zip xs).map (fun x => h x.2 x.1) = (xs.zip ys).map fun x => h x.1 x.2
  | [], [] => rfl
  | [], _ :: _ => rfl
  | _ :: _, [] => rfl
  | x :: xs, y :: ys => by simp [zip_flip h xs ys]
theorem zip_pairs' (ms : List Meth) (r : List Rat) (S : DS) : zipO [encR r, .tup (ms.map encM)] S = .ok ⟨(ms.zip r).map (fun x => .tup [enc x.2, encM x.1]), none⟩ S := by
  show Ou.ok (Itm.mk (zipD (r.map enc) (ms.map encM)) none) S = _
  rw [zipD_map]
  rw [zip_flip (fun m q => D.tup [enc q, encM m]) ms r]
structure PsOk (kb kp n : Nat) (ps : Prs) : Prop where
  g : ∀ x ∈ ps, x.1.g < n
  u : ∀ x ∈ ps, Am kb n x.1.u
  w : ∀ x ∈ ps, 0 ≤ x.1.w ∧ Bd kb x.1.w
  a : ∀ x ∈ ps, 0 ≤ x.2 ∧ Bd kp x.2
theorem Bk.ps {kb kp n : Nat} {ms : List Meth} {r : List Rat} (h : Bk kb n ms) (hr : Am kp ms.length r) : PsOk kb kp n (ms.zip r) :=
  ⟨fun x hx => h.g _ (List.of_mem_zip hx).1, fun x hx => h.u _ (List.of_mem_zip hx).1, fun x hx => h.w _ (List.of_mem_zip hx).1, fun x hx => hr.ok _ (List.of_mem_zip hx).2⟩
theorem PsOk.tail {kb kp n : Nat} {x : Meth × Rat} {ps : Prs} (h : PsOk kb kp n (x :: ps)) : PsOk kb kp n ps :=
  ⟨fun y hy => h.g y (List.mem_cons_of_mem _ hy), fun y hy => h.u y (List.mem_cons_of_mem _ hy), fun y hy => h.w y (List.mem_cons_of_mem _ hy), fun y hy => h.a y (List.mem_cons_of_mem _ hy)⟩
noncomputable def made_by : List D → DS → Ou D := defD 2 7
    (mSeq (mSet 2 (m2 mulR (mL lstO (maC (mC (.tup [(.int 0), (.int 1)])) maN)) (m2 ixO (mV 0) (mC (.int 0)))))
    (mSeq (mFor (mArgI zipO (maC (m2 ixO (mV 0) (mC (.int 1))) (maC (mV 1) maN))) (gT 2 (gsC (gT 3 (gsC (gN 4) (gsC (gN 5) (gsC (gN 6) gsN)))) (gsC (gN 3) gsN)))
    (mAsg (gSubM (mV 2) (mV 4) setO) (mL plus (maC (m2 ixO (mV 2) (mV 4)) (maC (mV 3) maN)))))
    (mRet (mL tupleO (maC (mV 2) maN)))))
noncomputable def used_by : List D → DS → Ou D := defM 2 9
    (mSeq (mSet 2 (m2 mulO (mL lstO (maC (mC (.tup [(.int 0), (.int 1)])) maN)) (m2 ixO (mV 0) (mC (.int 0)))))
    (mSeq (mFor (mArgI zipO (maC (m2 ixO (mV 0) (mC (.int 1))) (maC (mV 1) maN))) (gT 2 (gsC (gT 3 (gsC (gN 4) (gsC (gN 5) (gsC (gN 6) gsN)))) (gsC (gN 3) gsN)))
    (mIfS (mT (m2 neO (mV 3) (mC (.tup [(.int 0), (.int 1)]))))
    (mSet 2 (lcM (mArgI zipO (maC (mV 2) (maC (mV 5) maN))) (gT 2 (gsC (gN 7) (gsC (gN 8) gsN))) mYes (mL plus (maC (mV 7) (maC (mL times (maC (mV 3) (maC (mV 8) maN))) maN))) [7, 8] finV))
    mNx))
    (mRet (mL tupleO (maC (mV 2) maN)))))
section
variable {kb kp n : Nat}
abbrev mbG : MG := gT 2 (gsC (gT 3 (gsC (gN 4) (gsC (gN 5) (gsC (gN 6) gsN)))) (gsC (gN 3) gsN))
noncomputable abbrev mbB : MS := (mAsg (gSubM (mV 2) (mV 4) setO) (mL plus (maC (m2 ixO (mV 2) (mV 4)) (maC (mV 3) maN))))
theorem made_loop (S : DS) (b p : D) (it : Itm) (hg : it.g = none) (hkp : kp ≤ 4500) : ∀ (ps : Prs) (f : Nat → Rat) (K : Nat) (x3 x4 x5 x6 : Option D), PsOk kb kp n ps → (∀ i, i < n → Bd K (f i)) → K + (kp + 1) * ps.length ≤ 400000 →
    ∃ x3' x4' x5' x6', forL mbG mbB it (ps.map encP) [some b, some p, some (.ref S.length), x3, x4, x5, x6] (S ++ [.lst ((vec n f).map enc)]) =
      .ok (.nx, [some b, some p, some (.ref S.length), x3', x4', x5', x6']) (S ++ [.lst ((vec n fun i => f i + madeQ ps i).map enc)]) := by
  intro ps
  induction ps with
  | nil =>
    intro f K x3 x4 x5 x6 _ _ _
    refine ⟨x3, x4, x5, x6, ?_⟩
    rw [List.map_nil, forL_nil hg]
    congr 4
    rw [vec_congr fun i _ => (show f i = f i + madeQ [] i by simp [madeQ, sumQ, Rat.add_zero])]
  | cons x ps ih =>
    intro f K x3 x4 x5 x6 h hf hl
    rw [List.length_cons, Nat.mul_succ] at hl
    have hgn := h.g x (List.mem_cons_self ..)
    have ha := h.a x (List.mem_cons_self ..)
    obtain ⟨m, a⟩ := x
    obtain ⟨x3', x4', x5', x6', e⟩ := ih (fun i => f i + if m.g = i then a else 0) (K + kp + 1) (some (enc a)) (some (.int (m.g : Nat))) (some (encR m.u)) (some (enc m.w)) h.tail (fun i hi => by
      refine (hf i hi).add ?_
      split
      · exact ha.2
      · exact ⟨Nat.two_pow_pos kp, Nat.lt_of_le_of_lt (den_pos a) ha.2.d⟩) (by omega)
    refine ⟨x3', x4', x5', x6', ?_⟩
    have pl := plus_ok (S ++ [.lst ((vec n f).map enc)]) (two_r (hf m.g hgn) ha.2 (by omega) hkp)
    have ix : ixO (.ref S.length) (.int (m.g : Nat)) (S ++ [.lst ((vec n f).map enc)]) = .ok (enc (f m.g)) (S ++ [.lst ((vec n f).map enc)]) := by
      rw [ixO_ref, ref_at]
      exact vec_at f _ hgn
    have st := setO_at S.length ((vec n f).map enc) (S ++ [.lst ((vec n f).map enc)]) m.g (enc (f m.g + a)) ref_at (by rw [List.length_map, vec_len]; exact hgn)
    rw [List.set_append_right _ _ (Nat.le_refl _), Nat.sub_self, ← List.map_set, vec_set f a hgn] at st
    have st' : setO (.ref S.length) (.int (m.g : Nat)) (enc (f m.g + a)) (S ++ [.lst ((vec n f).map enc)]) = .ok () (S ++ [.lst ((vec n fun i => f i + if m.g = i then a else 0).map enc)]) := st
    rw [List.map_cons, forL_cons hg]
    have tu : turn mbG mbB (encP (m, a)) [some b, some p, some (.ref S.length), x3, x4, x5, x6] (S ++ [.lst ((vec n f).map enc)]) = .ok (.nx, [some b, some p, some (.ref S.length), some (enc a), some (.int (m.g : Nat)), some (encR m.u), some (enc m.w)]) (S ++ [.lst ((vec n fun i => f i + if m.g = i then a else 0).map enc)]) := by
      have eM : encM m = .tup [.int (m.g : Nat), encR m.u, enc m.w] := rfl
      have eP : encP (m, a) = .tup [encM m, enc a] := rfl
      rw [eP, eM]
      simp only [turn_at, gT_at, gsC_at, gsN_at, gsK_ok, gN_at, List.length_cons, List.length_nil, Nat.reduceAdd, if_true, List.set_cons_succ, List.set_cons_zero, turnK_ok, mAsg_at, mL_at, maC_at, maN_at, m2_at, mV_at, List.getElem?_cons_succ, List.getElem?_cons_zero, m2K_ok, m2J_ok, ix, maK_ok, maJ_ok, bind_ok, pl, asgK_ok, gSubM_at, gSubK_ok, gSubJ_ok, st', gSubI_ok, gK_ok]
    rw [tu, forN_nx, e]
    congr 4
    exact congrArg (List.map enc) (vec_congr fun i _ => by
      show (f i + if m.g = i then a else 0) + madeQ ps i = f i + madeQ ((m, a) :: ps) i
      rw [Rat.add_assoc]
      rfl)
theorem made_by_ok {ms : List Meth} {r : List Rat} (h : Bk kb n ms) (hr : Am kp ms.length r) (hkp : kp ≤ 150) (S : DS) (hc : Cl S) : made_by [encB n ms, encR r] S = .ok (encR (vec n (madeQ (ms.zip r)))) S := by
  have zl : (ms.zip r).length ≤ 20 := by have := h.l1; simp; omega
  have zm := Nat.mul_le_mul (show kp + 1 ≤ 151 by omega) zl
  obtain ⟨x3, x4, x5, x6, e⟩ := made_loop (kb := kb) (kp := kp) (n := n) S (encB n ms) (encR r) ⟨(ms.zip r).map encP, none⟩ rfl (by omega) (ms.zip r) (fun _ => 0) 1 none none none none (h.ps hr) (fun _ _ => bd0 (by decide)) (by omega)
  have mr : mulR (.vl [.tup [.int 0, .int 1]]) (.int (n : Nat)) S = .ok (.ref S.length) (S ++ [.lst ((vec n fun _ => 0).map enc)]) := by
    have h1 := h.n1
    unfold mulR
    simp only
    rw [if_pos ⟨by omega, by omega, Nat.le_trans (show 1 * (n : Int).toNat ≤ 6 by omega) (by decide)⟩, repL_one, Int.toNat_natCast, rep_zero]
  have ta := tupleO_ref (S := S) (J := []) (ys := (vec n fun i => 0 + madeQ (ms.zip r) i).map enc)
  simp only [made_by, defD_at]
  rw [startE_at]
  simp only [List.map_cons, List.map_nil, List.length_cons, List.length_nil, Nat.reduceAdd, Nat.reduceSub, List.reduceReplicate, if_true, List.cons_append, List.nil_append, mSeq_at, mSet_at, mL_at, maN_at, bind_ok, m2_at, mC_at, mV_at, maC_at, maK_ok, maJ_ok, List.getElem?_cons_zero, List.getElem?_cons_succ]
  rw [lstO_le (by decide)]
  simp only [m2K_ok, encB0, m2J_ok, mr, setK_ok, List.set_cons_succ, List.set_cons_zero, seqK_nx, mSeq_at, mFor_at, mArgI_at, maC_at, mV_at, mC_at, m2_at, List.getElem?_cons_zero, List.getElem?_cons_succ, encB1, maK_ok, maJ_ok, maN_at, bind_ok, zip_pairs, forK_ok]
  rw [e]
  simp only [seqK_nx, mRet_at, mL_at, maC_at, mV_at, List.getElem?_cons_succ, List.getElem?_cons_zero, maK_ok, maN_at, maJ_ok, bind_ok, ta, retK_ok, retO_rt]
  have ex : (vec n fun i => 0 + madeQ (ms.zip r) i) = vec n (madeQ (ms.zip r)) := vec_congr fun i _ => Rat.zero_add _
  rw [ex]
  exact drop_ok hc (encR (vec n (madeQ (ms.zip r)))) (fun k => under_encR k _) _
abbrev ubG : MG := gT 2 (gsC (gT 3 (gsC (gN 4) (gsC (gN 5) (gsC (gN 6) gsN)))) (gsC (gN 3) gsN))
noncomputable abbrev ubB : MS := (mIfS (mT (m2 neO (mV 3) (mC (.tup [(.int 0), (.int 1)]))))
    (mSet 2 (lcM (mArgI zipO (maC (mV 2) (maC (mV 5) maN))) (gT 2 (gsC (gN 7) (gsC (gN 8) gsN))) mYes (mL plus (maC (mV 7) (maC (mL times (maC (mV 3) (maC (mV 8) maN))) maN))) [7, 8] finV))
    mNx)
theorem zip_vr (as bs : List Rat) (S : DS) : zipO [.vl (as.map enc), encR bs] S = .ok ⟨(as.zip bs).map fun x => .tup [enc x.1, enc x.2], none⟩ S := by
  show Ou.ok (Itm.mk (zipD (as.map enc) (bs.map enc)) none) S = _
  rw [zipD_map]
theorem used_turn (S : DS) (b p : D) (h1 : kb + kp ≤ 4500) (h6 : n ≤ 6) (hk0 : 0 < kb) {m : Meth} {a : Rat} {f : Nat → Rat} {K : Nat} (hu : Am kb n m.u) (ha : Bd kp a) (hf : ∀ i, i < n → Bd K (f i)) (hK : K ≤ 400000) (x3 x4 x5 x6 x7 x8 : Option D) :
    turn ubG ubB (encP (m, a)) [some b, some p, some (.vl ((vec n f).map enc)), x3, x4, x5, x6, x7, x8] S =
      .ok (.nx, [some b, some p, some (.vl ((vec n fun i => f i + a * m.u.getD i 0).map enc)), some (enc a), some (.int (m.g : Nat)), some (encR m.u), some (enc m.w), x7, x8]) S := by
  have eM : encM m = .tup [.int (m.g : Nat), encR m.u, enc m.w] := rfl
  have eP : encP (m, a) = .tup [encM m, enc a] := rfl
  have e0 : D.tup [.int 0, .int 1] = enc 0 := rfl
  rw [eP, eM]
  simp only [turn_at, gT_at, gsC_at, gsN_at, gsK_ok, gN_at, List.length_cons, List.length_nil, Nat.reduceAdd, if_true, List.set_cons_succ, List.set_cons_zero, turnK_ok, mIfS_at, mT_at, m2_at, mV_at, mC_at, List.getElem?_cons_succ, List.getElem?_cons_zero, m2K_ok, m2J_ok, e0, neO_enc, tK_ok]
  by_cases z : a = 0
  · subst z
    simp only [decide_true, Bool.not_true, ifSK_f, mNx_at]
    rw [vec_congr fun i _ => (show f i + 0 * m.u.getD i 0 = f i by rw [Rat.zero_mul, Rat.add_zero])]
  · simp only [decide_eq_false z, Bool.not_false, ifSK_t, mSet_at, lcM_at, mArgI_at, maC_at, maN_at, mV_at, List.getElem?_cons_succ, List.getElem?_cons_zero, maK_ok, maJ_ok, bind_ok, zip_vr]
    rw [lcK_F (fun x : Rat × Rat => D.tup [enc x.1, enc x.2]) (fun x => enc (x.1 + a * x.2)) ((vec n f).zip m.u) (Nat.le_trans (by simp [vec_len]; omega) (show 6 ≤ sizeLine by decide)) ?_, finV_at, setK_ok]
    · have e : ((vec n f).zip m.u).map (fun x => enc (x.1 + a * x.2)) = (vec n fun i => f i + a * m.u.getD i 0).map enc := by
        rw [← vec_zip hu.len (fun x y => x + a * y), List.map_map]
        rfl
      rw [e]
      rfl
    · intro x hx
      obtain ⟨i, hi, e1⟩ := vec_mem (List.of_mem_zip hx).1
      have b1 : Bd K x.1 := by rw [e1]; exact hf i hi
      have b2 := (hu.ok _ (List.of_mem_zip hx).2).2
      have t1 := times_ok S (two_r ha b2 (by omega) (by omega))
      have p1 := plus_ok S (two_r b1 (ha.mul b2) hK (by omega))
      simp [wipeE, t1, p1]
theorem used_loop (S : DS) (b p : D) (it : Itm) (hg : it.g = none) (h1 : kb + kp ≤ 4500) (h6 : n ≤ 6) (hk0 : 0 < kb) : ∀ (ps : Prs) (f : Nat → Rat) (K : Nat) (x3 x4 x5 x6 x7 x8 : Option D), PsOk kb kp n ps → (∀ i, i < n → Bd K (f i)) → K + (kp + kb + 1) * ps.length ≤ 400000 →
    ∃ x3' x4' x5' x6' x7' x8', forL ubG ubB it (ps.map encP) [some b, some p, some (.vl ((vec n f).map enc)), x3, x4, x5, x6, x7, x8] S =
      .ok (.nx, [some b, some p, some (.vl ((vec n fun i => f i + usedQ ps i).map enc)), x3', x4', x5', x6', x7', x8']) S := by
  intro ps
  induction ps with
  | nil =>
    intro f K x3 x4 x5 x6 x7 x8 _ _ _
    refine ⟨x3, x4, x5, x6, x7, x8, ?_⟩
    rw [List.map_nil, forL_nil hg, vec_congr fun i _ => (show f i = f i + usedQ [] i by simp [usedQ, sumQ, Rat.add_zero])]
  | cons x ps ih =>
    intro f K x3 x4 x5 x6 x7 x8 h hf hl
    rw [List.length_cons, Nat.mul_succ] at hl
    have hu := h.u x (List.mem_cons_self ..)
    have ha := h.a x (List.mem_cons_self ..)
    obtain ⟨m, a⟩ := x
    obtain ⟨x3', x4', x5', x6', x7', x8', e⟩ := ih (fun i => f i + a * m.u.getD i 0) (K + (kp + kb) + 1) (some (enc a)) (some (.int (m.g : Nat))) (some (encR m.u)) (some (enc m.w)) x7 x8 h.tail (fun i hi => (hf i hi).add (ha.2.mul (getD_ok hu hk0 i).2)) (by omega)
    refine ⟨x3', x4', x5', x6', x7', x8', ?_⟩
    rw [List.map_cons, forL_cons hg, used_turn S b p h1 h6 hk0 hu ha.2 hf (by omega), forN_nx, e]
    rw [vec_congr fun i _ => (show (f i + a * m.u.getD i 0) + usedQ ps i = f i + usedQ ((m, a) :: ps) i by rw [Rat.add_assoc]; rfl)]
theorem used_by_ok {ms : List Meth} {r : List Rat} (h : Bk kb n ms) (hr : Am kp ms.length r) (hkp : kp ≤ 150) (hkb : kb ≤ 61) (hk0 : 0 < kb) (S : DS) : used_by [encB n ms, encR r] S = .ok (encR (vec n (usedQ (ms.zip r)))) S := by
  have zl : (ms.zip r).length ≤ 20 := by have := h.l1; simp; omega
  have zm := Nat.mul_le_mul (show kp + kb + 1 ≤ 212 by omega) zl
  have h1 := h.n1
  obtain ⟨x3, x4, x5, x6, x7, x8, e⟩ := used_loop (kb := kb) (kp := kp) (n := n) S (encB n ms) (encR r) ⟨(ms.zip r).map encP, none⟩ rfl (by omega) h1 hk0 (ms.zip r) (fun _ => 0) 1 none none none none none none (h.ps hr) (fun _ _ => bd0 (by decide)) (by omega)
  have mr : mulO (.vl [.tup [.int 0, .int 1]]) (.int (n : Nat)) S = .ok (.vl ((vec n fun _ => 0).map enc)) S := by
    unfold mulO
    simp only
    rw [if_pos ⟨by omega, by omega, Nat.le_trans (show 1 * (n : Int).toNat ≤ 6 by omega) (by decide)⟩, repL_one, Int.toNat_natCast, rep_zero]
  simp only [used_by, defM_at]
  rw [startE_at]
  simp only [List.map_cons, List.map_nil, List.length_cons, List.length_nil, Nat.reduceAdd, Nat.reduceSub, List.reduceReplicate, if_true, List.cons_append, List.nil_append, mSeq_at, mSet_at, mL_at, maN_at, bind_ok, m2_at, mC_at, mV_at, maC_at, maK_ok, maJ_ok, List.getElem?_cons_zero, List.getElem?_cons_succ]
  rw [lstO_le (by decide)]
  simp only [m2K_ok, encB0, m2J_ok, mr, setK_ok, List.set_cons_succ, List.set_cons_zero, seqK_nx, mSeq_at, mFor_at, mArgI_at, maC_at, mV_at, mC_at, m2_at, List.getElem?_cons_zero, List.getElem?_cons_succ, encB1, maK_ok, maJ_ok, maN_at, bind_ok, zip_pairs, forK_ok]
  rw [e]
  simp only [seqK_nx, mRet_at, mL_at, maC_at, mV_at, List.getElem?_cons_succ, List.getElem?_cons_zero, maK_ok, maN_at, maJ_ok, bind_ok, tupleO_vl, retK_ok, retO_rt]
  have ex : (vec n fun i => 0 + usedQ (ms.zip r) i) = vec n (usedQ (ms.zip r)) := vec_congr fun i _ => Rat.zero_add _
  rw [ex]
  rfl
/-! sizes of what is made and used -/
theorem made_bd {ps : Prs} (h : PsOk kb kp n ps) (hl : ps.length ≤ 20) (hk : 0 < kp) (i : Nat) : Bd (1 + (kp + 1) * 20) (madeQ ps i) := by
  have b : ∀ q ∈ ps.map fun x => if x.1.g = i then x.2 else 0, Bd kp q := by
    intro q hq
    obtain ⟨x, hx, rfl⟩ := List.mem_map.mp hq
    split
    · exact (h.a x hx).2
    · exact bd0 hk
  refine (Bd.sum b).mono ?_
  rw [List.length_map]
  have := Nat.mul_le_mul_left (kp + 1) hl
  omega
theorem used_bd {ps : Prs} (h : PsOk kb kp n ps) (hl : ps.length ≤ 20) (hk : 0 < kb) (i : Nat) : Bd (1 + (kp + kb + 1) * 20) (usedQ ps i) := by
  have b : ∀ q ∈ ps.map fun x => x.2 * x.1.u.getD i 0, Bd (kp + kb) q := by
    intro q hq
    obtain ⟨x, hx, rfl⟩ := List.mem_map.mp hq
    exact (h.a x hx).2.mul (getD_ok (h.u x hx) hk i).2
  refine (Bd.sum b).mono ?_
  rw [List.length_map]
  have := Nat.mul_le_mul_left (kp + kb + 1) hl
  omega
end
end FR

namespace FR
open PySem PySem.Spec PyProof.Rows L2 DL
def netQ (fac : Rat) (ps : Prs) (i : Nat) : Rat := madeQ ps i - fac * usedQ ps i
def workQ (ps : Prs) : Rat := sumQ (ps.map fun x => x.2 * x.1.w)
def costQ (m : Meth) (pr : List Rat) (fac : Rat) : Rat := fac * dotQ m.u pr + m.w
noncomputable def made : List D → DS → Ou D := defM 2 2
    (mSeq (mDo (mL check_plan (maC (mV 0) (maC (mV 1) maN))))
    (mRet (mL made_by (maC (mV 0) (maC (mV 1) maN)))))
noncomputable def used : List D → DS → Ou D := defM 2 2
    (mSeq (mDo (mL check_plan (maC (mV 0) (maC (mV 1) maN))))
    (mRet (mL used_by (maC (mV 0) (maC (mV 1) maN)))))
noncomputable def net_of : List D → DS → Ou D := defM 3 6
    (mZipRet 3 (maC (mL made_by (maC (mV 0) (maC (mV 1) maN))) (maC (mL used_by (maC (mV 0) (maC (mV 1) maN))) maN)) (gT 2 (gsC (gN 4) (gsC (gN 5) gsN))) (mL minus (maC (mV 4) (maC (mL times (maC (mV 2) (maC (mV 5) maN))) maN))) [4, 5])
noncomputable def net : List D → DS → Ou D := defM 3 3
    (mSeq (mDo (mL check_plan (maC (mV 0) (maC (mV 1) maN))))
    (mSeq (mDo (mL check_factor (maC (mV 2) maN)))
    (mRet (mL net_of (maC (mV 0) (maC (mV 1) (maC (mV 2) maN)))))))
noncomputable def work_in : List D → DS → Ou D := defM 2 4
    (mRet (mL summed (maC (lcM (mArgI zipO (maC (m2 ixO (mV 0) (mC (.int 1))) (maC (mV 1) maN))) (gT 2 (gsC (gN 2) (gsC (gN 3) gsN))) mYes (mL times (maC (mV 3) (maC (m2 ixO (mV 2) (mC (.int 2))) maN))) [2, 3] finV) maN)))
noncomputable def work_of : List D → DS → Ou D := defM 2 2
    (mSeq (mDo (mL check_plan (maC (mV 0) (maC (mV 1) maN))))
    (mRet (mL work_in (maC (mV 0) (maC (mV 1) maN)))))
noncomputable def cost_of : List D → DS → Ou D := defM 3 3
    (mRet (mL plus (maC (mL times (maC (mV 2) (maC (mL worth (maC (m2 ixO (mV 0) (mC (.int 1))) (maC (mV 1) maN))) maN))) (maC (m2 ixO (mV 0) (mC (.int 2))) maN))))
noncomputable def is_method_number : List D → DS → Ou D := defM 2 2
    (mRet (mL is_within (maC (mV 1) (maC (mC (.int 0)) (maC (m2 subO (mL lenO (maC (m2 ixO (mV 0) (mC (.int 1))) maN)) (mC (.int 1))) maN)))))
noncomputable def cost : List D → DS → Ou D := defM 4 4
    (mSeq (mDo (mL check_book (maC (mV 0) maN)))
    (mSeq (mIfS (mNot (mT (mL is_method_number (maC (mV 0) (maC (mV 1) maN)))))
    mNever
    mNx)
    (mSeq (mDo (mL check_prices (maC (mV 0) (maC (mV 2) maN))))
    (mSeq (mDo (mL check_factor (maC (mV 3) maN)))
    (mRet (mL cost_of (maC (m2 ixO (m2 ixO (mV 0) (mC (.int 1))) (mV 1)) (maC (mV 2) (maC (mV 3) maN)))))))))
section
variable {kp n : Nat} {ms : List Meth} {r : List Rat} (h : Bk 61 n ms) (hr : Am kp ms.length r) (hkp : kp ≤ 150) (hp0 : 0 < kp) (S : DS)
include h hr hkp hp0
theorem made_ok (hc : Cl S) : made [encB n ms, encR r] S = .ok (encR (vec n (madeQ (ms.zip r)))) S := by
  simp only [made, defM_at]
  simp [check_plan_ok S h hr, made_by_ok h hr hkp S hc]
theorem used_ok : used [encB n ms, encR r] S = .ok (encR (vec n (usedQ (ms.zip r)))) S := by
  simp only [used, defM_at]
  simp [check_plan_ok S h hr, used_by_ok h hr hkp (by decide) (by decide) S]
omit hkp in
theorem zip_le : (ms.zip r).length ≤ 20 := by have := h.l1; simp; omega
theorem made_le (i : Nat) : Bd 3021 (madeQ (ms.zip r) i) := (made_bd (h.ps hr) (zip_le h hr hp0) hp0 i).mono (by have := Nat.mul_le_mul_right 20 (show kp + 1 ≤ 151 by omega); omega)
theorem used_le (i : Nat) : Bd 4241 (usedQ (ms.zip r) i) := (used_bd (h.ps hr) (zip_le h hr hp0) (by decide) i).mono (by have := Nat.mul_le_mul_right 20 (show kp + 61 + 1 ≤ 212 by omega); omega)
theorem net_of_ok {fac : Rat} (hf : Bd 61 fac) (hc : Cl S) : net_of [encB n ms, encR r, enc fac] S = .ok (encR (vec n (netQ fac (ms.zip r)))) S := by
  have h1 := h.n1
  have mb := made_by_ok h hr hkp S hc
  have ub := used_by_ok h hr hkp (by decide) (by decide) S
  simp only [net_of, defM_at]
  rw [startE_at]
  simp only [List.map_cons, List.map_nil, List.length_cons, List.length_nil, Nat.reduceAdd, Nat.reduceSub, List.reduceReplicate, if_true, List.cons_append, List.nil_append, mZipRet, maC_at, maN_at, mL_at, mV_at, List.getElem?_cons_zero, List.getElem?_cons_succ, maK_ok, maJ_ok, bind_ok, mb, ub, lift_ok, List.set_cons_succ, List.set_cons_zero, mRet_at, lcM_at, zip_enc]
  rw [lcK_F (fun x : Rat × Rat => D.tup [enc x.1, enc x.2]) (fun x => enc (x.1 - fac * x.2)) ((vec n (madeQ (ms.zip r))).zip (vec n (usedQ (ms.zip r)))) (Nat.le_trans (by simp [vec_len]; omega) (show 6 ≤ sizeLine by decide)) ?_, finV_at]
  · simp only [maK_ok, maN_at, maJ_ok, bind_ok, tupleO_vl, retK_ok, retO_rt]
    have e : (((vec n (madeQ (ms.zip r))).zip (vec n (usedQ (ms.zip r)))).map fun x => enc (x.1 - fac * x.2)) = (vec n (netQ fac (ms.zip r))).map enc := by
      have e1 : vec n (netQ fac (ms.zip r)) = vec n fun i => madeQ (ms.zip r) i - fac * (vec n (usedQ (ms.zip r))).getD i 0 := vec_congr fun i hi => by rw [List.getD_eq_getElem?_getD, vec_get _ hi]; rfl
      rw [e1, ← vec_zip (vec_len n _) (fun x y => x - fac * y), List.map_map]
      rfl
    rw [e]
    rfl
  · intro x hx
    obtain ⟨i, hi, e1⟩ := vec_mem (List.of_mem_zip hx).1
    obtain ⟨j, hj, e2⟩ := vec_mem (List.of_mem_zip hx).2
    have b1 : Bd 3021 x.1 := by rw [e1]; exact made_le h hr hkp hp0 i
    have b2 : Bd 4241 x.2 := by rw [e2]; exact used_le h hr hkp hp0 j
    have t1 := times_ok S (two_l hf b2 (by decide) (by decide))
    have p1 := minus_ok S (two_l b1 (hf.mul b2) (by decide) (by decide))
    simp [wipeE, t1, p1]
theorem net_ok {fac : Rat} (hf : Bd 61 fac) (hf0 : 0 ≤ fac) (hc : Cl S) : net [encB n ms, encR r, enc fac] S = .ok (encR (vec n (netQ fac (ms.zip r)))) S := by
  simp only [net, defM_at]
  simp [check_plan_ok S h hr, check_factor_ok S hf0, net_of_ok h hr hkp hp0 S hf hc]
theorem work_in_ok : work_in [encB n ms, encR r] S = .ok (enc (workQ (ms.zip r))) S := by
  have h4 := h.l1
  have zl := zip_le h hr hp0
  have P := h.ps hr
  have b : ∀ q ∈ (ms.zip r).map fun x => x.2 * x.1.w, Bd (kp + 61) q := by
    intro q hq
    obtain ⟨x, hx, rfl⟩ := List.mem_map.mp hq
    exact (P.a x hx).2.mul (P.w x hx).2
  have sm := summed_vl (k := kp + 61) (by omega) b (by rw [List.length_map]; have := Nat.mul_le_mul (show kp + 61 + 1 ≤ 212 by omega) zl; omega) S
  simp only [work_in, defM_at]
  rw [startE_at]
  simp only [List.map_cons, List.map_nil, List.length_cons, List.length_nil, Nat.reduceAdd, Nat.reduceSub, List.reduceReplicate, if_true, List.cons_append, List.nil_append, mRet_at, mL_at, maC_at, maN_at, lcM_at, mArgI_at, m2_at, mV_at, mC_at, List.getElem?_cons_zero, List.getElem?_cons_succ, m2K_ok, m2J_ok, encB1, maK_ok, maJ_ok, bind_ok, zip_pairs]
  rw [lcK_F encP (fun x => enc (x.2 * x.1.w)) (ms.zip r) (Nat.le_trans zl (by decide)) ?_, finV_at]
  · have e : (ms.zip r).map (fun x => enc (x.2 * x.1.w)) = ((ms.zip r).map fun x => x.2 * x.1.w).map enc := by rw [List.map_map]; rfl
    rw [e]
    simp only [maK_ok, maN_at, maJ_ok, bind_ok, sm, retK_ok, retO_rt]
    rfl
  · intro x hx
    have eP : encP x = .tup [encM x.1, enc x.2] := rfl
    have t1 := times_ok S (two_r (P.a x hx).2 (P.w x hx).2 (by omega) (by decide))
    rw [eP]
    simp [wipeE, encM2, t1]
theorem work_of_ok : work_of [encB n ms, encR r] S = .ok (enc (workQ (ms.zip r))) S := by
  simp only [work_of, defM_at]
  simp [check_plan_ok S h hr, work_in_ok h hr hkp hp0 S]
end
section
variable {n : Nat} {ms : List Meth} {pr : List Rat} {fac : Rat} (h : Bk 61 n ms) (hpr : Am 61 n pr) (hf : Bd 61 fac) (S : DS)
include h hpr hf
theorem dot_le {m : Meth} (hm : m ∈ ms) : Bd 739 (dotQ m.u pr) := (Bd.dot (h.u m hm).bd hpr.bd (n := 6) (by rw [(h.u m hm).len]; exact h.n1)).mono (by decide)
theorem cost_le {m : Meth} (hm : m ∈ ms) : Bd 862 (costQ m pr fac) := ((hf.mul (dot_le h hpr hf hm)).add (h.w m hm).2).mono (by decide)
theorem cost_of_ok {m : Meth} (hm : m ∈ ms) : cost_of [encM m, encR pr, enc fac] S = .ok (enc (costQ m pr fac)) S := by
  have hu := h.u m hm
  have d := dot_le h hpr hf hm
  have wo := worth_ok hu.bd hpr.bd (by decide) (by rw [hu.len]; have := h.n1; omega) S
  have t1 := times_ok S (two_l hf d (by decide) (by decide))
  have p1 := plus_ok S (two_r (hf.mul d) (h.w m hm).2 (by decide) (by decide))
  simp only [cost_of, defM_at]
  simp [encM1, encM2, wo, t1, p1]
  rfl
theorem cost_ok (hf0 : 0 ≤ fac) {j : Nat} {m : Meth} (hj : ms[j]? = some m) : cost [encB n ms, .int (j : Nat), encR pr, enc fac] S = .ok (enc (costQ m pr fac)) S := by
  have hm := List.mem_of_getElem? hj
  have lj := (List.getElem?_eq_some_iff.mp hj).1
  have ln : lenO [.tup (ms.map encM)] S = .ok (.int (ms.length : Nat)) S := by rw [lenO_tup, List.length_map]
  have wi := within_ok S (j : Nat) 0 ((ms.length : Int) - 1)
  rw [show (decide ((0 : Int) ≤ ((j : Nat) : Int)) && decide (((j : Nat) : Int) ≤ (ms.length : Int) - 1)) = true by simp; omega] at wi
  have mn : is_method_number [encB n ms, .int (j : Nat)] S = .ok (.bl true) S := by
    simp only [is_method_number, defM_at]
    simp [encB1, ln, wi]
  have g : getI (ms.map encM) (j : Int) S = .ok (encM m) S := getI_map encM ms j hj
  simp only [cost, defM_at]
  simp [check_book_ok S h, mn, check_prices_ok S h hpr, check_factor_ok S hf0, encB1, g, cost_of_ok h hpr hf S hm]
end
end FR

namespace DL
open PySem PySem.Spec PyProof.Rows L2

/-! what an outcome must be -/
@[irreducible] def Wp {α : Type} (o : Ou α) (Q : α → DS → Prop) (X : Exn → DS → Prop) : Prop := match o with
  | .ok a S => Q a S
  | .ex x S => X x S
  | .no => False
def Wif (b : Bool) (A B : Prop) : Prop := if b = true then A else B
theorem Wif_t {A B : Prop} : Wif true A B = A := (by with_unfolding_all rfl)
theorem Wif_f {A B : Prop} : Wif false A B = B := (by with_unfolding_all rfl)
theorem wif_t {b : Bool} {A B : Prop} (h : b = true) (k : A) : Wif b A B := by rw [h]; exact k
theorem wif_f {b : Bool} {A B : Prop} (h : b = false) (k : B) : Wif b A B := by rw [h]; exact k
theorem wif_d {p : Prop} [Decidable p] {A B : Prop} (h : p) (k : A) : Wif (decide p) A B := wif_t (decide_eq_true h) k
theorem wif_n {p : Prop} [Decidable p] {A B : Prop} (h : ¬ p) (k : B) : Wif (decide p) A B := wif_f (decide_eq_false h) k
theorem wif_i {p : Prop} [Decidable p] {A B : Prop} (h1 : p → A) (h2 : ¬ p → B) : Wif (decide p) A B := by
  by_cases h : p
  · exact wif_d h (h1 h)
  · exact wif_n h (h2 h)
theorem wif_b {b : Bool} {A B : Prop} (h1 : b = true → A) (h2 : b = false → B) : Wif b A B := by
  cases b
  · exact h2 rfl
  · exact h1 rfl
def Wv (o : Option (Option D)) (K : D → Prop) : Prop := match o with
  | some (some d) => K d
  | _ => False
theorem Wv_s {d : D} {K : D → Prop} : Wv (some (some d)) K = K d := (by with_unfolding_all rfl)
def Wo {α : Type} (o : Option α) (K : α → Prop) : Prop := match o with
  | some a => K a
  | _ => False
theorem Wo_s {α : Type} {a : α} {K : α → Prop} : Wo (some a) K = K a := (by with_unfolding_all rfl)
def Wb (d : D) (K : Bool → Prop) : Prop := match d with
  | .bl b => K b
  | _ => False
theorem Wb_s {b : Bool} {K : Bool → Prop} : Wb (.bl b) K = K b := (by with_unfolding_all rfl)
def Wi (d : D) (K : Int → Prop) : Prop := match d with
  | .int b => K b
  | _ => False
theorem Wi_s {b : Int} {K : Int → Prop} : Wi (.int b) K = K b := (by with_unfolding_all rfl)
section
variable {α β : Type} {o : Ou α} {Q R : α → DS → Prop} {X Y : Exn → DS → Prop} {S : DS}
theorem wp_ok {a : α} : Wp (.ok a S) Q X = Q a S := (by with_unfolding_all rfl)
theorem wp_ex {x : Exn} : Wp (.ex x S : Ou α) Q X = X x S := (by with_unfolding_all rfl)
theorem wp_bind {f : α → DS → Ou β} {Q : β → DS → Prop} : Wp (o.bind f) Q X = Wp o (fun a S1 => Wp (f a S1) Q X) X := by cases o <;> with_unfolding_all rfl
theorem wp_no : Wp (.no : Ou α) Q X = False := (by with_unfolding_all rfl)
theorem wp_eq {a : α} (h : o = .ok a S) (k : Q a S) : Wp o Q X := by rw [h, wp_ok]; exact k
theorem wp_eqx {x : Exn} (h : o = .ex x S) (k : X x S) : Wp o Q X := by rw [h, wp_ex]; exact k
theorem Wp.mono (h : Wp o R Y) (k : ∀ a S, R a S → Q a S) (e : ∀ x S, Y x S → X x S) : Wp o Q X := by
  cases o with
  | ok a S => with_unfolding_all exact k a S h
  | ex x S => with_unfolding_all exact e x S h
  | no => with_unfolding_all exact h
theorem Wp.get (h : Wp o R (fun _ _ => False)) : ∃ a S, o = .ok a S ∧ R a S := by
  cases o with
  | ok a S => with_unfolding_all exact ⟨a, S, rfl, h⟩
  | ex x S => with_unfolding_all exact False.elim h
  | no => with_unfolding_all exact False.elim h
theorem Wp.eqs {a : α} {S' : DS} (h : Wp o (fun b S1 => b = a ∧ S1 = S') (fun _ _ => False)) : o = .ok a S' := by
  obtain ⟨b, S1, rfl, rfl, rfl⟩ := h.get
  with_unfolding_all rfl
end
/-! expressions -/
section
variable {env : DE} {S : DS} {Q : D → DS → Prop} {X : Exn → DS → Prop} {a b c : ME} {r : MA} {p q : MT}
theorem wp_mC {d : D} : Wp (mC d env S) Q X = Q d S := (by with_unfolding_all rfl)
theorem wp_mV {i : Nat} : Wp (mV i env S) Q X = Wv (env[i]?) (fun d => Q d S) := by
  unfold mV
  cases h : env[i]? with
  | none => with_unfolding_all rfl
  | some o => cases o <;> with_unfolding_all rfl
theorem wp_m1 {f : D → DS → Ou D} : Wp (m1 f a env S) Q X = Wp (a env S) (fun x S1 => Wp (f x S1) Q X) X := (wp_bind)
theorem wp_m2 {f : D → D → DS → Ou D} : Wp (m2 f a b env S) Q X = Wp (a env S) (fun x S1 => Wp (b env S1) (fun y S2 => Wp (f x y S2) Q X) X) X := by
  unfold m2
  rw [wp_bind]
  congr
  funext x S1
  rw [wp_bind]
theorem wp_maN {Q : List D → DS → Prop} : Wp (maN env S) Q X = Q [] S := (by with_unfolding_all rfl)
theorem wp_maC {Q : List D → DS → Prop} : Wp (maC a r env S) Q X = Wp (a env S) (fun x S1 => Wp (r env S1) (fun xs S2 => Q (x :: xs) S2) X) X := by
  unfold maC
  rw [wp_bind]
  congr
  funext x S1
  rw [wp_bind]
  with_unfolding_all rfl
theorem wp_mL {f : List D → DS → Ou D} : Wp (mL f r env S) Q X = Wp (r env S) (fun xs S1 => Wp (f xs S1) Q X) X := (wp_bind)
theorem wp_mT {Q : Bool → DS → Prop} : Wp (mT a env S) Q X = Wp (a env S) (fun d S1 => Wb d (fun b => Q b S1)) X := by
  unfold mT
  rw [wp_bind]
  congr
  funext d S1
  cases d <;> with_unfolding_all rfl
theorem wp_mTr {Q : Bool → DS → Prop} : Wp (mTr a env S) Q X = Wp (a env S) (fun d S1 => Wo (truD S1 d) (fun b => Q b S1)) X := by
  unfold mTr
  rw [wp_bind]
  congr
  funext d S1
  cases truD S1 d <;> with_unfolding_all rfl
theorem wp_and {Q : Bool → DS → Prop} : Wp (mAnd p q env S) Q X = Wp (p env S) (fun k S1 => Wif k (Wp (q env S1) Q X) (Q false S1)) X := by
  unfold mAnd
  rw [wp_bind]
  congr
  funext k S1
  cases k <;> with_unfolding_all rfl
theorem wp_or {Q : Bool → DS → Prop} : Wp (mOr p q env S) Q X = Wp (p env S) (fun k S1 => Wif k (Q true S1) (Wp (q env S1) Q X)) X := by
  unfold mOr
  rw [wp_bind]
  congr
  funext k S1
  cases k <;> with_unfolding_all rfl
theorem wp_not {Q : Bool → DS → Prop} : Wp (mNot p env S) Q X = Wp (p env S) (fun k S1 => Q (!k) S1) X := by
  unfold mNot
  rw [wp_bind]
  with_unfolding_all rfl
theorem wp_andV : Wp (mAndV a b env S) Q X = Wp (a env S) (fun d S1 => Wb d (fun k => Wif k (Wp (b env S1) Q X) (Q (.bl false) S1))) X := by
  unfold mAndV
  rw [wp_bind]
  congr
  funext d S1
  cases d with
  | bl k => cases k <;> with_unfolding_all rfl
  | _ => with_unfolding_all rfl
theorem wp_orV : Wp (mOrV a b env S) Q X = Wp (a env S) (fun d S1 => Wb d (fun k => Wif k (Q (.bl true) S1) (Wp (b env S1) Q X))) X := by
  unfold mOrV
  rw [wp_bind]
  congr
  funext d S1
  cases d with
  | bl k => cases k <;> with_unfolding_all rfl
  | _ => with_unfolding_all rfl
theorem wp_notV : Wp (mNotV a env S) Q X = Wp (a env S) (fun d S1 => Wb d (fun k => Q (.bl (!k)) S1)) X := by
  unfold mNotV
  rw [wp_bind]
  congr
  funext d S1
  cases d <;> with_unfolding_all rfl
theorem wp_mIf : Wp (mIf p a b env S) Q X = Wp (p env S) (fun k S1 => Wif k (Wp (a env S1) Q X) (Wp (b env S1) Q X)) X := by
  unfold mIf
  rw [wp_bind]
  congr
  funext k S1
  cases k <;> with_unfolding_all rfl
theorem wp_chain {f g : D → D → DS → Ou D} : Wp (mChain f g a b c env S) Q X = Wp (a env S) (fun x S1 => Wp (b env S1) (fun y S2 => Wp (f x y S2) (fun k S3 => Wb k (fun k => Wif k (Wp (c env S3) (fun z S4 => Wp (g y z S4) Q X) X) (Q (.bl false) S3))) X) X) X := by
  unfold mChain
  rw [wp_bind]
  congr
  funext x S1
  rw [wp_bind]
  congr
  funext y S2
  rw [wp_bind]
  congr
  funext k S3
  cases k with
  | bl k =>
    cases k
    · with_unfolding_all rfl
    · simp only [if_true, wp_bind, Wb_s, Wif_t]
  | _ => with_unfolding_all rfl
theorem wp_sl {f : D → Option Int → Option Int → DS → Ou D} {lo hi : MO} : Wp (mSl f a lo hi env S) Q X = Wp (a env S) (fun x S1 => Wp (lo env S1) (fun l S2 => Wp (hi env S2) (fun u S3 => Wp (f x l u S3) Q X) X) X) X := by
  unfold mSl
  rw [wp_bind]
  congr
  funext x S1
  rw [wp_bind]
  congr
  funext l S2
  rw [wp_bind]
theorem wp_moN {Q : Option Int → DS → Prop} : Wp (moN env S) Q X = Q none S := (by with_unfolding_all rfl)
theorem wp_moS {Q : Option Int → DS → Prop} : Wp (moS a env S) Q X = Wp (a env S) (fun d S1 => Wi d (fun i => Q (some i) S1)) X := by
  unfold moS
  rw [wp_bind]
  congr
  funext d S1
  cases d <;> with_unfolding_all rfl
theorem wp_isi {T : String} : Wp (isiM T a env S) Q X = Wp (a env S) (fun d S1 => Wo (isTy T d) (fun b => Q (.bl b) S1)) X := by
  unfold isiM
  rw [wp_bind]
  congr
  funext d S1
  cases isTy T d <;> with_unfolding_all rfl
theorem wp_isi2 {T U : String} : Wp (isiM2 T U a env S) Q X = Wp (a env S) (fun d S1 => Wo (isTy T d) (fun b => Wo (isTy U d) (fun c => Q (.bl (b || c)) S1))) X := by
  unfold isiM2
  rw [wp_bind]
  congr
  funext d S1
  cases isTy T d with
  | none => with_unfolding_all rfl
  | some b => cases isTy U d <;> with_unfolding_all rfl
theorem wp_meth {T : RcT} {f : D → List D → DS → Ou D} : Wp (mMeth T f a r env S) Q X = Wp (a env S) (fun x S1 => Wif (T.ok x) (Wp (r env S1) (fun xs S2 => Wp (f x xs S2) Q X) X) False) X := by
  unfold mMeth
  rw [wp_bind]
  congr
  funext x S1
  cases T.ok x with
  | true => simp only [if_true, wp_bind, Wif_t]
  | false => with_unfolding_all rfl
theorem wp_tup {xs : List D} : Wp (tupO xs S) Q X = Wif (decide (xs.length ≤ 1000)) (Q (.tup xs) S) False := by
  unfold tupO
  by_cases h : xs.length ≤ 1000
  · rw [if_pos h, decide_eq_true h]; with_unfolding_all rfl
  · rw [if_neg h, decide_eq_false h]; with_unfolding_all rfl
theorem wp_lst {xs : List D} : Wp (lstO xs S) Q X = Wif (decide (xs.length ≤ 1000)) (Q (.vl xs) S) False := by
  unfold lstO
  by_cases h : xs.length ≤ 1000
  · rw [if_pos h, decide_eq_true h]; with_unfolding_all rfl
  · rw [if_neg h, decide_eq_false h]; with_unfolding_all rfl
theorem wp_ref {xs : List D} : Wp (refO xs S) Q X = Wif (decide (xs.length ≤ 1000)) (Q (.ref S.length) (S ++ [.lst xs])) False := by
  unfold refO
  by_cases h : xs.length ≤ 1000
  · rw [if_pos h, decide_eq_true h]; with_unfolding_all rfl
  · rw [if_neg h, decide_eq_false h]; with_unfolding_all rfl
end
/-! statements -/
def Wsq (q : MS) (Q : Fl × DE → DS → Prop) (X : Exn → DS → Prop) (r : Fl × DE) (S : DS) : Prop := match r with
  | (.nx, env) => Wp (q env S) Q X
  | r => Q r S
def Wrt (Q : D → DS → Prop) (X : Exn → DS → Prop) (r : Fl × DE) (S : DS) : Prop := match r.1 with
  | .rt d => Q d S
  | .nx => Q .non S
  | .xc x => X x S
  | _ => False
/-- behind one turn of a loop -/
def Wlp (I : DE → DS → Prop) (Q : Fl × DE → DS → Prop) (r : Fl × DE) (S : DS) : Prop := match r with
  | (.nx, env) => I env S
  | (.ct, env) => I env S
  | (.bk, env) => Q (.nx, env) S
  | r => Q r S
abbrev noE : Exn → DS → Prop := fun _ _ => False
section
variable {env : DE} {S : DS} {d : D} {x : Exn}
section
variable {q : MS} {Q : Fl × DE → DS → Prop} {X : Exn → DS → Prop}
theorem Wsq_nx : Wsq q Q X (.nx, env) S = Wp (q env S) Q X := (by with_unfolding_all rfl)
theorem Wsq_rt : Wsq q Q X (.rt d, env) S = Q (.rt d, env) S := (by with_unfolding_all rfl)
theorem Wsq_bk : Wsq q Q X (.bk, env) S = Q (.bk, env) S := (by with_unfolding_all rfl)
theorem Wsq_ct : Wsq q Q X (.ct, env) S = Q (.ct, env) S := (by with_unfolding_all rfl)
theorem Wsq_xc : Wsq q Q X (.xc x, env) S = Q (.xc x, env) S := (by with_unfolding_all rfl)
end
section
variable {Q : D → DS → Prop} {X : Exn → DS → Prop}
theorem Wrt_nx : Wrt Q X (.nx, env) S = Q .non S := (by with_unfolding_all rfl)
theorem Wrt_rt : Wrt Q X (.rt d, env) S = Q d S := (by with_unfolding_all rfl)
theorem Wrt_xc : Wrt Q X (.xc x, env) S = X x S := (by with_unfolding_all rfl)
end
section
variable {I : DE → DS → Prop} {Q : Fl × DE → DS → Prop}
theorem Wlp_nx : Wlp I Q (.nx, env) S = I env S := (by with_unfolding_all rfl)
theorem Wlp_ct : Wlp I Q (.ct, env) S = I env S := (by with_unfolding_all rfl)
theorem Wlp_bk : Wlp I Q (.bk, env) S = Q (.nx, env) S := (by with_unfolding_all rfl)
theorem Wlp_rt : Wlp I Q (.rt d, env) S = Q (.rt d, env) S := (by with_unfolding_all rfl)
theorem Wlp_xc : Wlp I Q (.xc x, env) S = Q (.xc x, env) S := (by with_unfolding_all rfl)
end
end
section
variable {α : Type} {env : DE} {S : DS} {Q : Fl × DE → DS → Prop} {X : Exn → DS → Prop} {a : ME} {p q : MS} {mt : MT} {r : MA} {i j l : Nat}
theorem wp_lift {o : Ou α} {f : α → DS → Ou (Fl × DE)} : Wp (lift o env f) Q X = Wp o (fun a S1 => Wp (f a S1) Q X) (fun x S1 => Q (.xc x, env) S1) := by cases o <;> with_unfolding_all rfl
theorem wp_seq : Wp (mSeq p q env S) Q X = Wp (p env S) (Wsq q Q X) X := by
  unfold mSeq
  rw [wp_bind]
  congr
  funext r S1
  obtain ⟨f, e⟩ := r
  cases f <;> with_unfolding_all rfl
theorem wp_ret : Wp (mRet a env S) Q X = Wp (a env S) (fun d S1 => Q (.rt d, env) S1) (fun x S1 => Q (.xc x, env) S1) := (by with_unfolding_all exact wp_lift)
theorem wp_retN : Wp (mRetN env S) Q X = Q (.rt .non, env) S := (by with_unfolding_all rfl)
theorem wp_nx : Wp (mNx env S) Q X = Q (.nx, env) S := (by with_unfolding_all rfl)
theorem wp_bk : Wp (mBk env S) Q X = Q (.bk, env) S := (by with_unfolding_all rfl)
theorem wp_ct : Wp (mCt env S) Q X = Q (.ct, env) S := (by with_unfolding_all rfl)
theorem wp_do : Wp (mDo a env S) Q X = Wp (a env S) (fun _ S1 => Q (.nx, env) S1) (fun x S1 => Q (.xc x, env) S1) := (by with_unfolding_all exact wp_lift)
theorem wp_set : Wp (mSet i a env S) Q X = Wp (a env S) (fun d S1 => Q (.nx, env.set i (some d)) S1) (fun x S1 => Q (.xc x, env) S1) := (by with_unfolding_all exact wp_lift)
theorem wp_asg {g : MG} : Wp (mAsg g a env S) Q X = Wp (a env S) (fun d S1 => Wp (g d env S1) (fun e S2 => Q (.nx, e) S2) X) (fun x S1 => Q (.xc x, env) S1) := by
  unfold mAsg
  rw [wp_lift]
  congr
  funext d S1
  rw [wp_bind]
  with_unfolding_all rfl
def Wp2 (ds : List D) (K : D → D → Prop) : Prop := match ds with
  | [x, y] => K x y
  | _ => False
theorem Wp2_s {x y : D} {K : D → D → Prop} : Wp2 [x, y] K = K x y := (by with_unfolding_all rfl)
def Wp3 (ds : List D) (K : D → D → D → Prop) : Prop := match ds with
  | [x, y, z] => K x y z
  | _ => False
theorem Wp3_s {x y z : D} {K : D → D → D → Prop} : Wp3 [x, y, z] K = K x y z := (by with_unfolding_all rfl)
theorem wp_par : Wp (mPar i j r env S) Q X = Wp (r env S) (fun ds S1 => Wp2 ds (fun x y => Q (.nx, (env.set i (some x)).set j (some y)) S1)) (fun x S1 => Q (.xc x, env) S1) := by
  unfold mPar
  rw [wp_lift]
  congr
  funext ds S1
  match ds with
  | [] => with_unfolding_all rfl
  | [_] => with_unfolding_all rfl
  | [_, _] => with_unfolding_all rfl
  | _ :: _ :: _ :: _ => with_unfolding_all rfl
theorem wp_par3 : Wp (mPar3 i j l r env S) Q X = Wp (r env S) (fun ds S1 => Wp3 ds (fun x y z => Q (.nx, ((env.set i (some x)).set j (some y)).set l (some z)) S1)) (fun x S1 => Q (.xc x, env) S1) := by
  unfold mPar3
  rw [wp_lift]
  congr
  funext ds S1
  match ds with
  | [] => with_unfolding_all rfl
  | [_] => with_unfolding_all rfl
  | [_, _] => with_unfolding_all rfl
  | [_, _, _] => with_unfolding_all rfl
  | _ :: _ :: _ :: _ :: _ => with_unfolding_all rfl
theorem wp_aug {f : D → D → DS → Ou D} : Wp (mAug i f a env S) Q X = Wv (env[i]?) (fun x => Wp (a env S) (fun y S1 => Wp (f x y S1) (fun z S2 => Q (.nx, env.set i (some z)) S2) (fun x S2 => Q (.xc x, env) S2)) (fun x S1 => Q (.xc x, env) S1)) := by
  unfold mAug
  cases h : env[i]? with
  | none => with_unfolding_all rfl
  | some o =>
    cases o with
    | none => with_unfolding_all rfl
    | some x =>
      simp only [Wv]
      rw [wp_lift]
      congr
      funext y S1
      rw [wp_lift]
      with_unfolding_all rfl
theorem wp_ifS : Wp (mIfS mt p q env S) Q X = Wp (mt env S) (fun k S1 => Wif k (Wp (p env S1) Q X) (Wp (q env S1) Q X)) (fun x S1 => Q (.xc x, env) S1) := by
  unfold mIfS
  rw [wp_lift]
  congr
  funext k S1
  cases k <;> with_unfolding_all rfl
theorem wp_raise {y : Str} : Wp (mRaise y env S) Q X = Q (.xc ⟨y, []⟩, env) S := (by with_unfolding_all rfl)
theorem wp_for {mi : MIt} {g : MG} : Wp (mFor mi g p env S) Q X = Wp (mi env S) (fun it S1 => Wp (forL g p it it.items env S1) Q X) (fun x S1 => Q (.xc x, env) S1) := (wp_lift)
/-! targets, items -/
theorem wp_gN {Q : DE → DS → Prop} {d : D} : Wp (gN i d env S) Q X = Q (env.set i (some d)) S := (by with_unfolding_all rfl)
theorem wp_gsN {Q : DE → DS → Prop} : Wp (gsN [] env S) Q X = Q env S := (by with_unfolding_all rfl)
theorem wp_gsC {Q : DE → DS → Prop} {g : MG} {rr : List D → DE → DS → Ou DE} {d : D} {ds : List D} : Wp (gsC g rr (d :: ds) env S) Q X = Wp (g d env S) (fun e S1 => Wp (rr ds e S1) Q X) X := (wp_bind)
theorem wp_gT {Q : DE → DS → Prop} {n : Nat} {rr : List D → DE → DS → Ou DE} {ds : List D} : Wp (gT n rr (.tup ds) env S) Q X = Wif (decide (ds.length = n)) (Wp (rr ds env S) Q X) False := by
  show Wp (if ds.length = n then rr ds env S else .no) Q X = _
  by_cases h : ds.length = n
  · rw [if_pos h, decide_eq_true h]; with_unfolding_all rfl
  · rw [if_neg h, decide_eq_false h]; with_unfolding_all rfl
theorem wp_gSub {Q : DE → DS → Prop} {o k : ME} {f : D → D → D → DS → Ou Unit} {v : D} : Wp (gSubM o k f v env S) Q X = Wp (o env S) (fun x S1 => Wp (k env S1) (fun y S2 => Wp (f x y v S2) (fun _ S3 => Q env S3) X) X) X := by
  unfold gSubM
  rw [wp_bind]
  congr
  funext x S1
  rw [wp_bind]
  congr
  funext y S2
  rw [wp_bind]
  with_unfolding_all rfl
theorem wp_seqI {Q : Itm → DS → Prop} : Wp (mSeqI a env S) Q X = Wp (a env S) (fun d S1 => Wp (asItm d S1) Q X) X := (wp_bind)
theorem wp_argI {Q : Itm → DS → Prop} {f : List D → DS → Ou Itm} : Wp (mArgI f r env S) Q X = Wp (r env S) (fun ds S1 => Wp (f ds S1) Q X) X := (wp_bind)
end
/-! comprehensions -/
/-- the list that a comprehension makes out of the items -/
def Wlc (g : MG) (tt : MT) (el : ME) (env : DE) (it : Itm) (S : DS) (K : List D → DS → Prop) : Prop := it.items.length ≤ sizeLine ∧ Wp (lcL g tt el env it it.items [] S) K noE
section
variable {env : DE} {S : DS} {X : Exn → DS → Prop} {mi : MIt} {g : MG} {tt : MT} {el : ME} {vs : List Nat} {fin : List D → DS → Ou D}
theorem lcL_noex : ∀ (ds acc : List D) (it : Itm) (env : DE) (S S' : DS) (x : Exn), lcL g tt el env it ds acc S ≠ .ex x S'
  | [], acc, it, env, S, S', x => by
    unfold lcL Itm.gate
    split <;> simp
  | d :: ds, acc, it, env, S, S', x => by
    unfold lcL Itm.gate
    split
    · cases g d env S with
      | no => simp [Ou.bindN]
      | ex _ _ => simp [Ou.bindN]
      | ok e1 S1 =>
        simp only [bindN_ok]
        cases tt e1 S1 with
        | no => simp [Ou.bindN]
        | ex _ _ => simp [Ou.bindN]
        | ok k S2 =>
          simp only [bindN_ok]
          cases k with
          | true =>
            simp only [if_true]
            cases el e1 S2 with
            | no => simp [Ou.bindN]
            | ex _ _ => simp [Ou.bindN]
            | ok y S3 =>
              simp only [bindN_ok]
              exact lcL_noex ds _ it env S3 S' x
          | false =>
            rw [if_neg (by simp)]
            exact lcL_noex ds _ it env S2 S' x
    · simp
theorem wp_lc {Q : D → DS → Prop} : Wp (lcM mi g tt el vs fin env S) Q X = Wp (mi env S) (fun it S1 => Wlc g tt el (wipeE env vs) it S1 (fun xs S2 => Wp (fin xs S2) Q X)) X := by
  unfold lcM Wlc
  rw [wp_bind]
  congr
  funext it S1
  by_cases h : it.items.length ≤ sizeLine
  · rw [if_pos h, wp_bind]
    simp only [h, true_and]
    cases hl : lcL g tt el (wipeE env vs) it it.items [] S1 with
    | ok ys S2 => with_unfolding_all rfl
    | no => with_unfolding_all rfl
    | ex x S2 => exact absurd hl (lcL_noex _ _ _ _ _ _ _)
  · rw [if_neg h]
    simp only [h, false_and]
    with_unfolding_all rfl
/-- one item -/
def Wce (g : MG) (el : ME) (d : D) (env : DE) (S : DS) (K : D → DS → Prop) : Prop := Wp (g d env S) (fun e S1 => Wp (el e S1) K noE) noE
theorem lc_go {I : Nat → DS → Prop} {P : Nat → D → Prop} {xs : List D} : ∀ (ds acc : List D) (k : Nat) (S : DS), I k S → (∀ i d, ds[i]? = some d → ∀ S, I (k + i) S → Wce g el d env S (fun y S' => I (k + i + 1) S' ∧ P (k + i) y)) →
    ∃ ys S', lcL g mYes el env ⟨xs, none⟩ ds acc S = .ok (acc ++ ys) S' ∧ I (k + ds.length) S' ∧ ys.length = ds.length ∧ ∀ i y, ys[i]? = some y → P (k + i) y
  | [], acc, k, S, hI, _ => ⟨[], S, by rw [lcL_nil rfl, List.append_nil], hI, rfl, by simp⟩
  | d :: ds, acc, k, S, hI, h => by
    have h0 := h 0 d rfl S hI
    unfold Wce at h0
    obtain ⟨e1, S1, q1, h1⟩ := h0.get
    obtain ⟨y, S2, q2, h2, h3⟩ := h1.get
    obtain ⟨ys, S', e, hI', hl, hP⟩ := lc_go (I := I) (P := P) (xs := xs) ds (acc ++ [y]) (k + 1) S2 h2 fun i d' hd S hi => by
      have := h (i + 1) d' (by simpa using hd) S (by rw [show k + (i + 1) = k + 1 + i by omega]; exact hi)
      rw [show k + (i + 1) = k + 1 + i by omega] at this
      exact this
    refine ⟨y :: ys, S', ?_, by rw [show k + (d :: ds).length = k + 1 + ds.length by simp; omega]; exact hI', by simp [hl], fun i z hz => ?_⟩
    · have c : cell g el d env S = .ok y S2 := by
        unfold cell
        rw [q1]
        exact q2
      rw [lcL_cons rfl _ _ c, e, List.append_assoc]
      with_unfolding_all rfl
    · cases i with
      | zero =>
        cases hz
        exact h3
      | succ i =>
        have := hP i z (by simpa using hz)
        rw [show k + (i + 1) = k + 1 + i by omega]
        exact this
/-- a comprehension, its state known by I -/
theorem wlc {K : List D → DS → Prop} {ds : List D} (I : Nat → DS → Prop) (P : Nat → D → Prop) (hl : ds.length ≤ 9000) (h0 : I 0 S) (h : ∀ i d, ds[i]? = some d → ∀ S, I i S → Wce g el d env S (fun y S' => I (i + 1) S' ∧ P i y))
    (k : ∀ ys S', I ds.length S' → ys.length = ds.length → (∀ i y, ys[i]? = some y → P i y) → K ys S') : Wlc g mYes el env ⟨ds, none⟩ S K := by
  refine ⟨Nat.le_trans hl (by decide), ?_⟩
  obtain ⟨ys, S', e, hI, hl, hP⟩ := lc_go (g := g) (el := el) (env := env) (I := I) (P := P) (xs := ds) ds [] 0 S h0 (fun i d hd S hi => by
    rw [Nat.zero_add] at hi ⊢
    exact h i d hd S hi)
  refine wp_eq e ?_
  rw [List.nil_append]
  exact k ys S' (by rw [Nat.zero_add] at hI; exact hI) hl fun i y hy => by
    have := hP i y hy
    rw [Nat.zero_add] at this
    exact this
/-- items made of as, each told by f, nothing changed -/
theorem wlc_map {α : Type} {K : List D → DS → Prop} (f : α → D) (e : α → D) {as : List α} {xs : List D} (hx : xs = as.map e) (hl : as.length ≤ 9000) (h : ∀ a ∈ as, Wce g el (e a) env S (fun y S' => y = f a ∧ S' = S)) (k : K (as.map f) S) : Wlc g mYes el env ⟨xs, none⟩ S K := by
  subst hx
  refine ⟨Nat.le_trans (by simpa using hl) (show 9000 ≤ sizeLine by decide), ?_⟩
  refine wp_eq (S := S) (a := as.map f) ?_ k
  have := lcL_F (mg := g) (el := el) (it := ⟨as.map e, none⟩) (env := env) (S := S) rfl e f as [] fun a ha => by
    have := h a ha
    unfold Wce at this
    obtain ⟨e1, S1, q1, h1⟩ := this.get
    obtain ⟨y, S2, q2, rfl, rfl⟩ := h1.get
    unfold cell
    rw [q1]
    exact q2
  simpa using this
/-- with a test -/
theorem wlc_filter {α : Type} {K : List D → DS → Prop} (t : α → Bool) (f : α → D) (e : α → D) {as : List α} {xs : List D} (hx : xs = as.map e) (hl : as.length ≤ 9000)
    (h : ∀ a ∈ as, Wp (g (e a) env S) (fun e1 S1 => Wp (tt e1 S1) (fun b S2 => b = t a ∧ (t a = true → Wp (el e1 S2) (fun y S' => y = f a ∧ S' = S) noE) ∧ (t a = false → S2 = S)) noE) noE) (k : K ((as.filter t).map f) S) : Wlc g tt el env ⟨xs, none⟩ S K := by
  subst hx
  refine ⟨Nat.le_trans (by simpa using hl) (show 9000 ≤ sizeLine by decide), ?_⟩
  refine wp_eq (S := S) (a := (as.filter t).map f) ?_ k
  have key : ∀ (as bs : List α) (acc : List D), (∀ a ∈ as, Wp (g (e a) env S) (fun e1 S1 => Wp (tt e1 S1) (fun b S2 => b = t a ∧ (t a = true → Wp (el e1 S2) (fun y S' => y = f a ∧ S' = S) noE) ∧ (t a = false → S2 = S)) noE) noE) →
      lcL g tt el env ⟨bs.map e, none⟩ (as.map e) acc S = .ok (acc ++ (as.filter t).map f) S := by
    intro as
    induction as with
    | nil => exact fun bs acc _ => by rw [List.map_nil, lcL_nil rfl]; simp
    | cons a as ih =>
      intro bs acc h
      have ha := h a (List.mem_cons_self ..)
      obtain ⟨e1, S1, q1, h1⟩ := ha.get
      obtain ⟨b, S2, q2, rfl, h2, h3⟩ := h1.get
      have ee : lcL g tt el env ⟨bs.map e, none⟩ (e a :: as.map e) acc S = (g (e a) env S).bindN fun env1 S1 => (tt env1 S1).bindN fun b S2 => if b = true then (el env1 S2).bindN fun y S3 => lcL g tt el env ⟨bs.map e, none⟩ (as.map e) (acc ++ [y]) S3 else lcL g tt el env ⟨bs.map e, none⟩ (as.map e) acc S2 := gate_none _ _ _
      rw [List.map_cons, ee, q1]
      simp only [bindN_ok, q2]
      cases ht : t a with
      | true =>
        obtain ⟨y, S3, q3, rfl, rfl⟩ := (h2 ht).get
        simp only [if_true, q3, bindN_ok]
        rw [ih bs _ fun b hb => h b (List.mem_cons_of_mem _ hb), List.filter_cons_of_pos ht]
        simp
      | false =>
        rw [if_neg (by simp)]
        cases h3 ht
        rw [ih bs _ fun b hb => h b (List.mem_cons_of_mem _ hb), List.filter_cons_of_neg (by simp [ht])]
  simpa using key as as [] h
end
/-! for -/
section
variable {env : DE} {S : DS} {Q : Fl × DE → DS → Prop} {X : Exn → DS → Prop} {g : MG} {p : MS}
theorem wfor {it : Itm} (I : Nat → DE → DS → Prop) : ∀ (ds : List D) (k : Nat) (env : DE) (S : DS), (∀ i d, ds[i]? = some d → ∀ env S, I (k + i) env S → it.okB S ∧ Wp (g d env S) (fun e1 S1 => Wp (p e1 S1) (Wlp (I (k + i + 1)) Q) X) X) →
    I k env S → (∀ env S, I (k + ds.length) env S → it.okB S ∧ Q (.nx, env) S) → Wp (forL g p it ds env S) Q X
  | [], k, env, S, _, hI, hf => by
    obtain ⟨h1, h2⟩ := hf env S hI
    rw [FR.forL_nil' h1]
    with_unfolding_all exact h2
  | d :: ds, k, env, S, h, hI, hf => by
    obtain ⟨h1, h2⟩ := h 0 d rfl env S hI
    rw [FR.forL_cons' h1]
    unfold turn forN
    rw [wp_bind, wp_bind]
    refine h2.mono (fun e1 S1 h3 => h3.mono (fun r S2 h4 => ?_) fun _ _ z => z) fun _ _ z => z
    have ih : ∀ env S, I (k + 1) env S → Wp (forL g p it ds env S) Q X := fun env S hI => wfor I ds (k + 1) env S (fun i d' hd env S hi => by
      have := h (i + 1) d' (by simpa using hd) env S (by rw [show k + (i + 1) = k + 1 + i by omega]; exact hi)
      rw [show k + (i + 1) = k + 1 + i by omega] at this
      exact this) hI (fun env S hi => hf env S (by rw [show k + (d :: ds).length = k + 1 + ds.length by simp; omega]; exact hi))
    obtain ⟨f, e⟩ := r
    cases f with
    | nx => exact ih e S2 h4
    | ct => exact ih e S2 h4
    | bk => with_unfolding_all exact h4
    | rt d => with_unfolding_all exact h4
    | xc x => with_unfolding_all exact h4
theorem wfor0 (I : Nat → DE → DS → Prop) {ds : List D} (h0 : I 0 env S) (h : ∀ i d, ds[i]? = some d → ∀ env S, I i env S → Wp (g d env S) (fun e1 S1 => Wp (p e1 S1) (Wlp (I (i + 1)) Q) X) X)
    (hf : ∀ env S, I ds.length env S → Q (.nx, env) S) : Wp (forL g p ⟨ds, none⟩ ds env S) Q X :=
  wfor (it := ⟨ds, none⟩) I ds 0 env S (fun i d hd env S hi => ⟨trivial, by rw [Nat.zero_add] at hi ⊢; exact h i d hd env S hi⟩) h0 (fun env S hi => ⟨trivial, hf env S (by rw [Nat.zero_add] at hi; exact hi)⟩)
/-- a loop over items made of as -/
theorem wforA {α : Type} (e : α → D) (I : Nat → DE → DS → Prop) {as : List α} {xs : List D} (hx : xs = as.map e) (h0 : I 0 env S) (h : ∀ i a, as[i]? = some a → ∀ env S, I i env S → Wp (g (e a) env S) (fun e1 S1 => Wp (p e1 S1) (Wlp (I (i + 1)) Q) X) X)
    (hf : ∀ env S, I as.length env S → Q (.nx, env) S) : Wp (forL g p ⟨xs, none⟩ xs env S) Q X := by
  subst hx
  refine wfor0 I h0 (fun i d hd env S hi => ?_) (fun env S hi => hf env S (by rw [List.length_map] at hi; exact hi))
  rw [List.getElem?_map, Option.map_eq_some_iff] at hd
  obtain ⟨a, ha, rfl⟩ := hd
  exact h i a ha env S hi
theorem wwhile {mt : MT} (I : Nat → DE → DS → Prop) {n : Nat} (h0 : I n env S) (h : ∀ n env S, I n env S → Wp (mt env S) (fun k S1 => Wif k (Wp (p env S1) (Wlp (fun e S2 => ∃ m, m < n ∧ I m e S2) Q) X) (Q (.nx, env) S1)) (fun x S1 => Q (.xc x, env) S1)) : Wp (mWhile mt p env S) Q X := by
  induction n using Nat.strongRecOn generalizing env S with
  | _ n ih =>
    rw [mWhile_eq]
    rw [wp_lift]
    refine (h n env S h0).mono (fun k S1 h1 => ?_) fun _ _ z => z
    cases k with
    | false => with_unfolding_all exact h1
    | true =>
      simp only [if_true]
      rw [wp_bind]
      refine h1.mono (fun r S2 h2 => ?_) fun _ _ z => z
      obtain ⟨f, e⟩ := r
      cases f with
      | nx =>
        obtain ⟨m, hm, hI⟩ := h2
        exact ih m hm hI
      | ct =>
        obtain ⟨m, hm, hI⟩ := h2
        exact ih m hm hI
      | bk => with_unfolding_all exact h2
      | rt d => with_unfolding_all exact h2
      | xc x => with_unfolding_all exact h2
end
/-! defs -/
section
variable {S : DS} {Q : D → DS → Prop} {X : Exn → DS → Prop} {n N : Nat} {p : MS} {ds : List D}
theorem wp_retO {o : Ou (Fl × DE)} : Wp (retO o) Q X = Wp o (Wrt Q X) noE := by
  cases o with
  | ok r S => obtain ⟨f, e⟩ := r; cases f <;> with_unfolding_all rfl
  | ex x S => with_unfolding_all rfl
  | no => with_unfolding_all rfl
theorem wp_defM : Wp (defM n N p ds S) Q X = Wif (decide (ds.length = n)) (Wp (p (startE N ds) S) (Wrt Q X) noE) False := by
  unfold defM
  by_cases h : ds.length = n
  · rw [if_pos h, decide_eq_true h, wp_retO]; with_unfolding_all rfl
  · rw [if_neg h, decide_eq_false h]; with_unfolding_all rfl
/-- its own lists gone -/
theorem wp_dropO {o : Ou D} : Wp (dropO n o) Q X = Wp o (fun d S1 => (under n d = true ∧ (S1.take n).all (underO n) = true) ∧ Q d (S1.take n)) X := by
  cases o with
  | no => with_unfolding_all rfl
  | ex x S => with_unfolding_all rfl
  | ok d S1 =>
    show Wp (if _ then _ else _) Q X = _
    by_cases h : under n d = true ∧ (S1.take n).all (underO n) = true
    · rw [if_pos h, wp_ok, wp_ok]
      exact propext ⟨fun k => ⟨h, k⟩, fun k => k.2⟩
    · rw [if_neg h, wp_no, wp_ok]
      exact propext ⟨fun k => k.elim, fun k => absurd k.1 h⟩
theorem wp_defD : Wp (defD n N p ds S) Q X = Wif (decide (ds.length = n)) (Wp (p (startE N ds) S) (Wrt (fun d S1 => (under S.length d = true ∧ (S1.take S.length).all (underO S.length) = true) ∧ Q d (S1.take S.length)) X) noE) False := by
  unfold defD
  by_cases h : ds.length = n
  · rw [if_pos h, decide_eq_true h, wp_dropO, wp_retO]; with_unfolding_all rfl
  · rw [if_neg h, decide_eq_false h]; with_unfolding_all rfl
end
/-! isinstance -/
section
variable {xs : List D} {i : Int} {b : Bool} {x : Str} {p : Nat}
theorem ty_tt : isTy "tuple" (.tup xs) = some true := (by with_unfolding_all rfl)
theorem ty_tv : isTy "tuple" (.vl xs) = some false := (by with_unfolding_all rfl)
theorem ty_ti : isTy "tuple" (.int i) = some false := (by with_unfolding_all rfl)
theorem ty_tb : isTy "tuple" (.bl b) = some false := (by with_unfolding_all rfl)
theorem ty_ts : isTy "tuple" (.str x) = some false := (by with_unfolding_all rfl)
theorem ty_tn : isTy "tuple" .non = some false := (by with_unfolding_all rfl)
theorem ty_td : isTy "tuple" .dct = some false := (by with_unfolding_all rfl)
theorem ty_tr : isTy "tuple" (.ref p) = some false := (by with_unfolding_all rfl)
theorem ty_it : isTy "int" (.tup xs) = some false := (by with_unfolding_all rfl)
theorem ty_iv : isTy "int" (.vl xs) = some false := (by with_unfolding_all rfl)
theorem ty_ii : isTy "int" (.int i) = some true := (by with_unfolding_all rfl)
theorem ty_ib : isTy "int" (.bl b) = some true := (by with_unfolding_all rfl)
theorem ty_is : isTy "int" (.str x) = some false := (by with_unfolding_all rfl)
theorem ty_in : isTy "int" .non = some false := (by with_unfolding_all rfl)
theorem ty_id : isTy "int" .dct = some false := (by with_unfolding_all rfl)
theorem ty_bt : isTy "bool" (.tup xs) = some false := (by with_unfolding_all rfl)
theorem ty_bv : isTy "bool" (.vl xs) = some false := (by with_unfolding_all rfl)
theorem ty_bi : isTy "bool" (.int i) = some false := (by with_unfolding_all rfl)
theorem ty_bb : isTy "bool" (.bl b) = some true := (by with_unfolding_all rfl)
theorem ty_bs : isTy "bool" (.str x) = some false := (by with_unfolding_all rfl)
theorem ty_bn : isTy "bool" .non = some false := (by with_unfolding_all rfl)
theorem ty_bd : isTy "bool" .dct = some false := (by with_unfolding_all rfl)
theorem ty_lt : isTy "list" (.tup xs) = some false := (by with_unfolding_all rfl)
theorem ty_lv : isTy "list" (.vl xs) = some true := (by with_unfolding_all rfl)
theorem ty_li : isTy "list" (.int i) = some false := (by with_unfolding_all rfl)
theorem ty_lb : isTy "list" (.bl b) = some false := (by with_unfolding_all rfl)
theorem ty_ls : isTy "list" (.str x) = some false := (by with_unfolding_all rfl)
theorem ty_ln : isTy "list" .non = some false := (by with_unfolding_all rfl)
theorem ty_st : isTy "str" (.tup xs) = some false := (by with_unfolding_all rfl)
theorem ty_sv : isTy "str" (.vl xs) = some false := (by with_unfolding_all rfl)
theorem ty_si : isTy "str" (.int i) = some false := (by with_unfolding_all rfl)
theorem ty_sb : isTy "str" (.bl b) = some false := (by with_unfolding_all rfl)
theorem ty_ss : isTy "str" (.str x) = some true := (by with_unfolding_all rfl)
theorem ty_sn : isTy "str" .non = some false := (by with_unfolding_all rfl)
end
section
variable {S : DS} {xs : List D} {p : Nat}
theorem rc_ref : RcT.ok .lst (.ref p) = true := (by with_unfolding_all rfl)
theorem rc_vl : RcT.ok .lst (.vl xs) = true := (by with_unfolding_all rfl)
theorem ltO_int (i j : Int) : ltO (.int i) (.int j) S = .ok (.bl (decide (i < j))) S := (by with_unfolding_all rfl)
theorem leO_int (i j : Int) : leO (.int i) (.int j) S = .ok (.bl (decide (i ≤ j))) S := (by with_unfolding_all rfl)
theorem gtO_int (i j : Int) : gtO (.int i) (.int j) S = .ok (.bl (decide (i > j))) S := (by with_unfolding_all rfl)
theorem geO_int (i j : Int) : geO (.int i) (.int j) S = .ok (.bl (decide (i ≥ j))) S := (by with_unfolding_all rfl)
end
end DL

namespace HN
open PySem PySem.Spec PyProof.Rows L2 DL FR
/-! the drawing hand -/
structure DC where
  (a0 a1 a2 a3 b1 b2 b3 c1 c2 c3 d1 d2 d3 e : Int)
abbrev sm (i : Int) : Prop := 0 < i ∧ i < 4294967296
structure DC.Ok (c : DC) : Prop where
  (a0 : sm c.a0) (a1 : sm c.a1) (a2 : sm c.a2) (a3 : sm c.a3) (b1 : sm c.b1) (b2 : sm c.b2) (b3 : sm c.b3) (c1 : sm c.c1) (c2 : sm c.c2) (c3 : sm c.c3) (d1 : sm c.d1) (d2 : sm c.d2) (d3 : sm c.d3) (e : sm c.e)
noncomputable def drawB (c : DC) : List D → DS → Ou D := defM 2 5
    (mSeq (mIfS (mAnd (mT (m2 eqO (m2 ixO (mV 0) (mC (.int 2))) (mC (.int 0)))) (mT (m2 ltO (m2 ixO (mV 0) (mC (.int 1))) (mL lenO (maC (m2 ixO (mV 0) (mC (.int 0))) maN)))))
    (mSeq (mSet 3 (m2 ixO (m2 ixO (mV 0) (mC (.int 0))) (m2 ixO (mV 0) (mC (.int 1)))))
    (mSeq (mAsg (gSubM (mV 0) (mC (.int 1)) setO) (m2 addO (m2 ixO (mV 0) (mC (.int 1))) (mC (.int 1))))
    (mSeq (mAsg (gSubM (mV 0) (mC (.int 3)) setO) (m2 modO (mL intO (maC (m2 addO (m2 addO (m2 mulO (m2 ixO (mV 0) (mC (.int 3))) (mC (.int c.a1))) (mV 3)) (mC (.int c.a2))) maN)) (mC (.int c.a3))))
    (mIfS (mT (m2 geO (mV 3) (m2 powO (mC (.int 10)) (mC (.int 18)))))
    (mAsg (gSubM (mV 0) (mC (.int 2)) setO) (mV 3))
    mNx))))
    mNx)
    (mSeq (mIfS (mT (m2 gtO (m2 ixO (mV 0) (mC (.int 2))) (mC (.int 0))))
    (mSeq (mSet 4 (m2 modO (mL intO (maC (m2 ixO (mV 0) (mC (.int 2))) maN)) (mV 1)))
    (mSeq (mAsg (gSubM (mV 0) (mC (.int 2)) setO) (m2 fdivO (m2 ixO (mV 0) (mC (.int 2))) (mV 1)))
    (mRet (mV 4))))
    mNx)
    (mSeq (mAsg (gSubM (mV 0) (mC (.int 4)) setO) (m2 addO (m2 ixO (mV 0) (mC (.int 4))) (mC (.int 1))))
    (mSeq (mSet 2 (m2 modO (mL intO (maC (m2 mulO (mL intO (maC (m2 addO (m2 ixO (mV 0) (mC (.int 3))) (m2 mulO (mC (.int c.b1)) (m2 ixO (mV 0) (mC (.int 4))))) maN)) (mC (.int c.b2))) maN)) (mC (.int c.b3))))
    (mSeq (mSet 2 (m2 modO (mL intO (maC (m2 mulO (mV 2) (m2 addO (m2 fdivO (mV 2) (mC (.int c.c1))) (mC (.int c.c2)))) maN)) (mC (.int c.c3))))
    (mSeq (mSet 2 (m2 modO (mL intO (maC (m2 mulO (mV 2) (m2 addO (m2 fdivO (mV 2) (mC (.int c.d1))) (mC (.int c.d2)))) maN)) (mC (.int c.d3))))
    (mRet (m2 modO (mL intO (maC (m2 fdivO (mV 2) (mC (.int c.e))) maN)) (mV 1)))))))))
noncomputable def drawA (c : DC) : List D → DS → Ou D := defM 2 5
    (mSeq (mIfS (mAnd (mT (m2 eqO (m2 ixO (mV 0) (mC (.int 2))) (mC (.int 0)))) (mT (m2 ltO (m2 ixO (mV 0) (mC (.int 1))) (mL lenO (maC (m2 ixO (mV 0) (mC (.int 0))) maN)))))
    (mSeq (mSet 3 (m2 ixO (m2 ixO (mV 0) (mC (.int 0))) (m2 ixO (mV 0) (mC (.int 1)))))
    (mSeq (mAsg (gSubM (mV 0) (mC (.int 1)) setO) (m2 addO (m2 ixO (mV 0) (mC (.int 1))) (mC (.int 1))))
    (mSeq (mAsg (gSubM (mV 0) (mC (.int 3)) setO) (m2 modO (mL intO (maC (m2 addO (m2 addO (m2 mulO (m2 ixO (mV 0) (mC (.int 3))) (mC (.int c.a1))) (m2 mulO (mV 3) (mC (.int c.a0)))) (mC (.int c.a2))) maN)) (mC (.int c.a3))))
    (mIfS (mT (m2 geO (mV 3) (m2 powO (mC (.int 10)) (mC (.int 18)))))
    (mAsg (gSubM (mV 0) (mC (.int 2)) setO) (mV 3))
    mNx))))
    mNx)
    (mSeq (mIfS (mT (m2 gtO (m2 ixO (mV 0) (mC (.int 2))) (mC (.int 0))))
    (mSeq (mSet 4 (m2 modO (mL intO (maC (m2 ixO (mV 0) (mC (.int 2))) maN)) (mV 1)))
    (mSeq (mAsg (gSubM (mV 0) (mC (.int 2)) setO) (m2 fdivO (m2 ixO (mV 0) (mC (.int 2))) (mV 1)))
    (mRet (mV 4))))
    mNx)
    (mSeq (mAsg (gSubM (mV 0) (mC (.int 4)) setO) (m2 addO (m2 ixO (mV 0) (mC (.int 4))) (mC (.int 1))))
    (mSeq (mSet 2 (m2 modO (mL intO (maC (m2 mulO (mL intO (maC (m2 addO (m2 ixO (mV 0) (mC (.int 3))) (m2 mulO (mC (.int c.b1)) (m2 ixO (mV 0) (mC (.int 4))))) maN)) (mC (.int c.b2))) maN)) (mC (.int c.b3))))
    (mSeq (mSet 2 (m2 modO (mL intO (maC (m2 mulO (mV 2) (m2 addO (m2 fdivO (mV 2) (mC (.int c.c1))) (mC (.int c.c2)))) maN)) (mC (.int c.c3))))
    (mSeq (mSet 2 (m2 modO (mL intO (maC (m2 mulO (mV 2) (m2 addO (m2 fdivO (mV 2) (mC (.int c.d1))) (mC (.int c.d2)))) maN)) (mC (.int c.d3))))
    (mRet (m2 modO (mL intO (maC (m2 fdivO (mV 2) (mC (.int c.e))) maN)) (mV 1)))))))))
noncomputable def handOf (a b : Int) : List D → DS → Ou D := defM 1 3
    (mSeq (mSet 1 (lcM (mSeqI (mSl slO (mV 0) moN (moS (mC (.int 63))))) (gN 2) mYes (mL absO (maC (mL intO (maC (mV 2) maN)) maN)) [2] finV))
    (mRet (mL refO (maC (mV 1) (maC (mC (.int 0)) (maC (mC (.int 0)) (maC (m2 addO (mC (.int a)) (m2 mulO (mC (.int b)) (mL lenO (maC (mV 1) maN)))) (maC (mC (.int 0)) maN))))))))
noncomputable def someOf (draw : List D → DS → Ou D) : List D → DS → Ou D := defM 2 2
    (mRet (m2 ixO (mV 1) (mL draw (maC (mV 0) (maC (mL lenO (maC (mV 1) maN)) maN)))))
def hnd (cells : List Int) (a r m c : Int) : List D := [.vl (cells.map D.int), .int a, .int r, .int m, .int c]
inductive Hand : List D → Prop where
  | mk (cells : List Int) (a r m c : Int) : (∀ x ∈ cells, 0 ≤ x) → 0 ≤ a → 0 ≤ r → Hand (hnd cells a r m c)
theorem mulO_r (a c : Int) (S : DS) (h : -(2 ^ 64) < c ∧ c < 2 ^ 64) : mulO (.int a) (.int c) S = .ok (.int (a * c)) S := if_pos (.inl (.inr h))
theorem mulO_l (a c : Int) (S : DS) (h : -(2 ^ 64) < a ∧ a < 2 ^ 64) : mulO (.int a) (.int c) S = .ok (.int (a * c)) S := if_pos (.inl (.inl h))
theorem fdivO_s (a c : Int) (S : DS) (h0 : 0 < c) (h : c < 2 ^ 64) : fdivO (.int a) (.int c) S = .ok (.int (a.fdiv c)) S :=
  if_pos ⟨by omega, fdiv_small (Nat.lt_of_lt_of_le (show c.natAbs < 2 ^ 64 by omega) (Nat.pow_le_pow_right (by decide) (by decide)))⟩
theorem fmod_lo (a : Int) {b : Int} (h : 0 < b) : 0 ≤ a.fmod b := Int.fmod_nonneg_of_pos a h
theorem fmod_hi (a : Int) {b : Int} (h : 0 < b) : a.fmod b < b := Int.fmod_lt_of_pos a h
theorem setO_at' (p : Nat) (xs : List D) (S : DS) (k : Nat) (v : D) (h : S[p]? = some (DO.lst xs)) (hk : k < xs.length) : setO (.ref p) (.int (k : Nat)) v S = .ok () (S.set p (.lst (xs.set k v))) := by
  show (match S[p]? with
    | some (DO.lst xs) => match ixN xs.length (k : Int) with
      | some j => Ou.ok () (S.set p (.lst (xs.set j v)))
      | none => .no
    | none => .no) = _
  rw [h]
  simp only
  rw [ixN_nat (by omega) (by omega)]
  rfl
section
variable (R : DS) (x0 x1 x2 x3 x4 v : D)
abbrev h5 : DS := .lst [x0, x1, x2, x3, x4] :: R
theorem set5_1 : setO (.ref 0) (.int 1) v (h5 R x0 x1 x2 x3 x4) = .ok () (h5 R x0 v x2 x3 x4) := setO_at' 0 [x0, x1, x2, x3, x4] _ 1 v rfl (by simp)
theorem set5_2 : setO (.ref 0) (.int 2) v (h5 R x0 x1 x2 x3 x4) = .ok () (h5 R x0 x1 v x3 x4) := setO_at' 0 [x0, x1, x2, x3, x4] _ 2 v rfl (by simp)
theorem set5_3 : setO (.ref 0) (.int 3) v (h5 R x0 x1 x2 x3 x4) = .ok () (h5 R x0 x1 x2 v x4) := setO_at' 0 [x0, x1, x2, x3, x4] _ 3 v rfl (by simp)
theorem set5_4 : setO (.ref 0) (.int 4) v (h5 R x0 x1 x2 x3 x4) = .ok () (h5 R x0 x1 x2 x3 v) := setO_at' 0 [x0, x1, x2, x3, x4] _ 4 v rfl (by simp)
end
theorem pow_18 (S : DS) : powO (.int 10) (.int 18) S = .ok (.int 1000000000000000000) S := by
  show (if CPow 10 18 then Ou.ok (D.int (10 ^ (18 : Int).toNat)) S else .no) = _
  rw [if_pos ⟨by decide, by decide, by decide⟩]
  rfl

theorem cut_lo (xs : List D) (i : Nat) : DL.cutD xs none (some (i : Int)) = xs.take i := by
  unfold DL.cutD
  rw [HT.sIx_none, HT.sIx_nat, List.drop_zero, Nat.sub_zero]
  by_cases h : i ≤ xs.length
  · rw [Nat.min_eq_left h]
  · rw [Nat.min_eq_right (by omega), List.take_of_length_le (Nat.le_refl _), List.take_of_length_le (by omega)]
theorem cut_hi (xs : List D) (i : Nat) : DL.cutD xs (some (i : Int)) none = xs.drop i := by
  unfold DL.cutD
  rw [HT.sIx_none, HT.sIx_nat, List.take_of_length_le (by rw [List.length_drop]; exact Nat.le_refl _)]
  by_cases h : i ≤ xs.length
  · rw [Nat.min_eq_left h]
  · rw [Nat.min_eq_right (by omega), List.drop_eq_nil_of_le (Nat.le_refl _), List.drop_eq_nil_of_le (by omega)]
theorem cut_m1 (xs : List D) : DL.cutD xs none (some (-1)) = xs.take (xs.length - 1) := by
  unfold DL.cutD
  rw [HT.sIx_none]
  have : HT.sIx xs.length xs.length (some (-1)) = xs.length - 1 := by
    show (if (-1 : Int) < 0 then ((-1 : Int) + (xs.length : Int)).toNat else min (-1 : Int).toNat xs.length) = xs.length - 1
    rw [if_pos (by decide)]
    omega
  rw [this, List.drop_zero, Nat.sub_zero]
theorem le_line {n : Nat} (h : n ≤ 9000) : n ≤ sizeLine := Nat.le_trans h (by decide)
theorem addO_tup {xs ys : List D} (S : DS) (h : xs.length + ys.length ≤ 9000) : addO (.tup xs) (.tup ys) S = .ok (.tup (xs ++ ys)) S := if_pos (le_line h)
theorem addO_vl {xs ys : List D} (S : DS) (h : xs.length + ys.length ≤ 9000) : addO (.vl xs) (.vl ys) S = .ok (.vl (xs ++ ys)) S := if_pos (le_line h)
def nF0 (c : DC) (m k : Int) : Int := ((m + c.b1 * k) * c.b2).fmod c.b3
def nF1 (c : DC) (m k : Int) : Int := (nF0 c m k * ((nF0 c m k).fdiv c.c1 + c.c2)).fmod c.c3
def nF2 (c : DC) (m k : Int) : Int := (nF1 c m k * ((nF1 c m k).fdiv c.d1 + c.d2)).fmod c.d3

theorem drawB_ok {c : DC} (O : c.Ok) {h : List D} (hh : Hand h) (R : DS) (many : Int) (m0 : 0 < many) (m1 : many ≤ 1000000000000000000) :
    ∃ d h', drawB c [.ref 0, .int many] (.lst h :: R) = .ok (.int d) (.lst h' :: R) ∧ Hand h' ∧ 0 ≤ d ∧ d < many := by
  obtain ⟨cells, a, r, m, k, hc, ha, hr⟩ := hh
  have nm : many ≠ 0 := by omega
  have sl : ∀ {i : Int}, sm i → -(2 ^ 64) < i ∧ i < 2 ^ 64 := fun h => by unfold sm at h; omega
  have sn : ∀ {i : Int}, sm i → i ≠ 0 := fun h => by unfold sm at h; omega
  have digit : ∀ (r : Int), 0 < r → ∀ S, modO (.int r) (.int many) S = .ok (.int (r.fmod many)) S := fun r _ S => if_pos nm
  have dvd : ∀ (r : Int) S, fdivO (.int r) (.int many) S = .ok (.int (r.fdiv many)) S := fun r S => fdivO_s r many S m0 (by omega)
  have n0 : ∀ m k : Int, 0 ≤ nF0 c m k ∧ nF0 c m k < 4294967296 := fun m k => ⟨fmod_lo _ O.b3.1, Int.lt_trans (fmod_hi _ O.b3.1) O.b3.2⟩
  have n1 : ∀ m k : Int, 0 ≤ nF1 c m k ∧ nF1 c m k < 4294967296 := fun m k => ⟨fmod_lo _ O.c3.1, Int.lt_trans (fmod_hi _ O.c3.1) O.c3.2⟩
  have q0 : ∀ (i : Int) S, mulO (.int i) (.int c.a0) S = .ok (.int (i * c.a0)) S := fun i S => mulO_r _ _ S (sl O.a0)
  have q1 : ∀ (i : Int) S, mulO (.int c.b1) (.int i) S = .ok (.int (c.b1 * i)) S := fun i S => mulO_l _ _ S (sl O.b1)
  have q2 : ∀ (i : Int) S, mulO (.int i) (.int c.a1) S = .ok (.int (i * c.a1)) S := fun i S => mulO_r _ _ S (sl O.a1)
  have q4 : ∀ (i : Int) S, mulO (.int i) (.int c.b2) S = .ok (.int (i * c.b2)) S := fun i S => mulO_r _ _ S (sl O.b2)
  have q5 : ∀ (i : Int) S, fdivO (.int i) (.int c.c1) S = .ok (.int (i.fdiv c.c1)) S := fun i S => fdivO_s _ _ S O.c1.1 (sl O.c1).2
  have q6 : ∀ (i : Int) S, fdivO (.int i) (.int c.d1) S = .ok (.int (i.fdiv c.d1)) S := fun i S => fdivO_s _ _ S O.d1.1 (sl O.d1).2
  have q7 : ∀ (i : Int) S, fdivO (.int i) (.int c.e) S = .ok (.int (i.fdiv c.e)) S := fun i S => fdivO_s _ _ S O.e.1 (sl O.e).2
  have q8 : ∀ (m k j : Int) S, mulO (.int (nF0 c m k)) (.int j) S = .ok (.int (nF0 c m k * j)) S := fun m k j S => mulO_l _ _ S (by have := n0 m k; omega)
  have q9 : ∀ (m k j : Int) S, mulO (.int (nF1 c m k)) (.int j) S = .ok (.int (nF1 c m k * j)) S := fun m k j S => mulO_l _ _ S (by have := n1 m k; omega)
  have f0 : ∀ m k : Int, ((m + c.b1 * k) * c.b2).fmod c.b3 = nF0 c m k := fun _ _ => rfl
  have f1 : ∀ m k : Int, (nF0 c m k * ((nF0 c m k).fdiv c.c1 + c.c2)).fmod c.c3 = nF1 c m k := fun _ _ => rfl
  have f2 : ∀ m k : Int, (nF1 c m k * ((nF1 c m k).fdiv c.d1 + c.d2)).fmod c.d3 = nF2 c m k := fun _ _ => rfl
  have z1 := sn O.a3
  have z2 := sn O.b3
  have z3 := sn O.c3
  have z4 := sn O.d3
  have lenC : ∀ S, lenO [.vl (cells.map D.int)] S = .ok (.int (cells.length : Nat)) S := fun S => by rw [lenO_vl, List.length_map]
  unfold hnd
  by_cases h1 : r = 0
  · subst h1
    by_cases h2 : a < (cells.length : Int)
    · have hx : cells[a.toNat]? = some (cells.getD a.toNat 0) := by
        rw [List.getD_eq_getElem?_getD, List.getElem?_eq_getElem (by omega)]; rfl
      generalize cells.getD a.toNat 0 = x at hx
      have hx0 := hc x (List.mem_of_getElem? hx)
      have gx : ∀ S, getI (cells.map D.int) a S = .ok (.int x) S := fun S => getI_nat ha (by rw [List.getElem?_map, hx]; rfl)
      by_cases h3 : 1000000000000000000 ≤ x
      · have h4 : 0 < x := by omega
        refine ⟨x.fmod many, hnd cells (a + 1) (x.fdiv many) ((m * c.a1 + x + c.a2).fmod c.a3) k, ?_, ⟨_, _, _, _, _, hc, by omega, Int.fdiv_nonneg (by omega) (by omega)⟩, fmod_lo _ m0, fmod_hi _ m0⟩
        simp only [drawB, defM_at]
        simp [getI_0, getI_1, getI_2, getI_3, getI_4, lenC, h2, gx, set5_1, set5_2, set5_3, set5_4, q0, q2, intO_int, pow_18, h3, h4, digit, dvd, hnd, nm, z1]
      · refine ⟨((nF2 c ((m * c.a1 + x + c.a2).fmod c.a3) (k + 1)).fdiv c.e).fmod many, hnd cells (a + 1) 0 ((m * c.a1 + x + c.a2).fmod c.a3) (k + 1), ?_, ⟨_, _, _, _, _, hc, by omega, by omega⟩, fmod_lo _ m0, fmod_hi _ m0⟩
        simp only [drawB, defM_at]
        simp [getI_0, getI_1, getI_2, getI_3, getI_4, lenC, h2, gx, set5_1, set5_2, set5_3, set5_4, q0, q1, q2, q4, q5, q6, q7, q8, q9, f0, f1, f2, intO_int, pow_18, h3, dvd, hnd, nm, z1, z2, z3, z4]
    · refine ⟨((nF2 c m (k + 1)).fdiv c.e).fmod many, hnd cells a 0 m (k + 1), ?_, ⟨_, _, _, _, _, hc, ha, by omega⟩, fmod_lo _ m0, fmod_hi _ m0⟩
      simp only [drawB, defM_at]
      simp [getI_0, getI_1, getI_2, getI_3, getI_4, lenC, h2, set5_1, set5_2, set5_3, set5_4, q1, q2, q4, q5, q6, q7, q8, q9, f0, f1, f2, intO_int, dvd, hnd, nm, z1, z2, z3, z4]
  · have h4 : 0 < r := by omega
    refine ⟨r.fmod many, hnd cells a (r.fdiv many) m k, ?_, ⟨_, _, _, _, _, hc, ha, Int.fdiv_nonneg (by omega) (by omega)⟩, fmod_lo _ m0, fmod_hi _ m0⟩
    simp only [drawB, defM_at]
    simp [getI_0, getI_1, getI_2, getI_3, getI_4, h1, set5_1, set5_2, set5_3, set5_4, intO_int, h4, digit, dvd, hnd, nm]

theorem drawA_ok {c : DC} (O : c.Ok) {h : List D} (hh : Hand h) (R : DS) (many : Int) (m0 : 0 < many) (m1 : many ≤ 1000000000000000000) :
    ∃ d h', drawA c [.ref 0, .int many] (.lst h :: R) = .ok (.int d) (.lst h' :: R) ∧ Hand h' ∧ 0 ≤ d ∧ d < many := by
  obtain ⟨cells, a, r, m, k, hc, ha, hr⟩ := hh
  have nm : many ≠ 0 := by omega
  have sl : ∀ {i : Int}, sm i → -(2 ^ 64) < i ∧ i < 2 ^ 64 := fun h => by unfold sm at h; omega
  have sn : ∀ {i : Int}, sm i → i ≠ 0 := fun h => by unfold sm at h; omega
  have digit : ∀ (r : Int), 0 < r → ∀ S, modO (.int r) (.int many) S = .ok (.int (r.fmod many)) S := fun r _ S => if_pos nm
  have dvd : ∀ (r : Int) S, fdivO (.int r) (.int many) S = .ok (.int (r.fdiv many)) S := fun r S => fdivO_s r many S m0 (by omega)
  have n0 : ∀ m k : Int, 0 ≤ nF0 c m k ∧ nF0 c m k < 4294967296 := fun m k => ⟨fmod_lo _ O.b3.1, Int.lt_trans (fmod_hi _ O.b3.1) O.b3.2⟩
  have n1 : ∀ m k : Int, 0 ≤ nF1 c m k ∧ nF1 c m k < 4294967296 := fun m k => ⟨fmod_lo _ O.c3.1, Int.lt_trans (fmod_hi _ O.c3.1) O.c3.2⟩
  have q0 : ∀ (i : Int) S, mulO (.int i) (.int c.a0) S = .ok (.int (i * c.a0)) S := fun i S => mulO_r _ _ S (sl O.a0)
  have q1 : ∀ (i : Int) S, mulO (.int c.b1) (.int i) S = .ok (.int (c.b1 * i)) S := fun i S => mulO_l _ _ S (sl O.b1)
  have q2 : ∀ (i : Int) S, mulO (.int i) (.int c.a1) S = .ok (.int (i * c.a1)) S := fun i S => mulO_r _ _ S (sl O.a1)
  have q4 : ∀ (i : Int) S, mulO (.int i) (.int c.b2) S = .ok (.int (i * c.b2)) S := fun i S => mulO_r _ _ S (sl O.b2)
  have q5 : ∀ (i : Int) S, fdivO (.int i) (.int c.c1) S = .ok (.int (i.fdiv c.c1)) S := fun i S => fdivO_s _ _ S O.c1.1 (sl O.c1).2
  have q6 : ∀ (i : Int) S, fdivO (.int i) (.int c.d1) S = .ok (.int (i.fdiv c.d1)) S := fun i S => fdivO_s _ _ S O.d1.1 (sl O.d1).2
  have q7 : ∀ (i : Int) S, fdivO (.int i) (.int c.e) S = .ok (.int (i.fdiv c.e)) S := fun i S => fdivO_s _ _ S O.e.1 (sl O.e).2
  have q8 : ∀ (m k j : Int) S, mulO (.int (nF0 c m k)) (.int j) S = .ok (.int (nF0 c m k * j)) S := fun m k j S => mulO_l _ _ S (by have := n0 m k; omega)
  have q9 : ∀ (m k j : Int) S, mulO (.int (nF1 c m k)) (.int j) S = .ok (.int (nF1 c m k * j)) S := fun m k j S => mulO_l _ _ S (by have := n1 m k; omega)
  have f0 : ∀ m k : Int, ((m + c.b1 * k) * c.b2).fmod c.b3 = nF0 c m k := fun _ _ => rfl
  have f1 : ∀ m k : Int, (nF0 c m k * ((nF0 c m k).fdiv c.c1 + c.c2)).fmod c.c3 = nF1 c m k := fun _ _ => rfl
  have f2 : ∀ m k : Int, (nF1 c m k * ((nF1 c m k).fdiv c.d1 + c.d2)).fmod c.d3 = nF2 c m k := fun _ _ => rfl
  have z1 := sn O.a3
  have z2 := sn O.b3
  have z3 := sn O.c3
  have z4 := sn O.d3
  have lenC : ∀ S, lenO [.vl (cells.map D.int)] S = .ok (.int (cells.length : Nat)) S := fun S => by rw [lenO_vl, List.length_map]
  unfold hnd
  by_cases h1 : r = 0
  · subst h1
    by_cases h2 : a < (cells.length : Int)
    · have hx : cells[a.toNat]? = some (cells.getD a.toNat 0) := by
        rw [List.getD_eq_getElem?_getD, List.getElem?_eq_getElem (by omega)]; rfl
      generalize cells.getD a.toNat 0 = x at hx
      have hx0 := hc x (List.mem_of_getElem? hx)
      have gx : ∀ S, getI (cells.map D.int) a S = .ok (.int x) S := fun S => getI_nat ha (by rw [List.getElem?_map, hx]; rfl)
      by_cases h3 : 1000000000000000000 ≤ x
      · have h4 : 0 < x := by omega
        refine ⟨x.fmod many, hnd cells (a + 1) (x.fdiv many) ((m * c.a1 + x * c.a0 + c.a2).fmod c.a3) k, ?_, ⟨_, _, _, _, _, hc, by omega, Int.fdiv_nonneg (by omega) (by omega)⟩, fmod_lo _ m0, fmod_hi _ m0⟩
        simp only [drawA, defM_at]
        simp [getI_0, getI_1, getI_2, getI_3, getI_4, lenC, h2, gx, set5_1, set5_2, set5_3, set5_4, q0, q2, intO_int, pow_18, h3, h4, digit, dvd, hnd, nm, z1]
      · refine ⟨((nF2 c ((m * c.a1 + x * c.a0 + c.a2).fmod c.a3) (k + 1)).fdiv c.e).fmod many, hnd cells (a + 1) 0 ((m * c.a1 + x * c.a0 + c.a2).fmod c.a3) (k + 1), ?_, ⟨_, _, _, _, _, hc, by omega, by omega⟩, fmod_lo _ m0, fmod_hi _ m0⟩
        simp only [drawA, defM_at]
        simp [getI_0, getI_1, getI_2, getI_3, getI_4, lenC, h2, gx, set5_1, set5_2, set5_3, set5_4, q0, q1, q2, q4, q5, q6, q7, q8, q9, f0, f1, f2, intO_int, pow_18, h3, dvd, hnd, nm, z1, z2, z3, z4]
    · refine ⟨((nF2 c m (k + 1)).fdiv c.e).fmod many, hnd cells a 0 m (k + 1), ?_, ⟨_, _, _, _, _, hc, ha, by omega⟩, fmod_lo _ m0, fmod_hi _ m0⟩
      simp only [drawA, defM_at]
      simp [getI_0, getI_1, getI_2, getI_3, getI_4, lenC, h2, set5_1, set5_2, set5_3, set5_4, q1, q2, q4, q5, q6, q7, q8, q9, f0, f1, f2, intO_int, dvd, hnd, nm, z1, z2, z3, z4]
  · have h4 : 0 < r := by omega
    refine ⟨r.fmod many, hnd cells a (r.fdiv many) m k, ?_, ⟨_, _, _, _, _, hc, ha, Int.fdiv_nonneg (by omega) (by omega)⟩, fmod_lo _ m0, fmod_hi _ m0⟩
    simp only [drawA, defM_at]
    simp [getI_0, getI_1, getI_2, getI_3, getI_4, h1, set5_1, set5_2, set5_3, set5_4, intO_int, h4, digit, dvd, hnd, nm]

/-- a draw, for the wish -/
abbrev DrawW (draw : List D → DS → Ou D) : Prop := ∀ {h : List D} (hh : Hand h) {R : DS} {n : Nat} (m0 : 0 < n) (m1 : n ≤ 1000000000000000000) {many : Int} (hm : many = (n : Int)) {Q : D → DS → Prop} {X : Exn → DS → Prop}
  (k : ∀ (d : Nat) (h' : List D), Hand h' → d < n → Q (.int (d : Int)) (.lst h' :: R)), Wp (draw [.ref 0, .int many] (.lst h :: R)) Q X
theorem drawB_w {c : DC} (O : c.Ok) : DrawW (drawB c) := fun {h} hh {R n} m0 m1 {many} hm {Q X} k => by
  subst hm
  obtain ⟨d, h', e, hh', d0, d1⟩ := drawB_ok O hh R (n : Nat) (by omega) (by omega)
  refine wp_eq e ?_
  have := k d.toNat h' hh' (by omega)
  rwa [Int.toNat_of_nonneg d0] at this
theorem drawA_w {c : DC} (O : c.Ok) : DrawW (drawA c) := fun {h} hh {R n} m0 m1 {many} hm {Q X} k => by
  subst hm
  obtain ⟨d, h', e, hh', d0, d1⟩ := drawA_ok O hh R (n : Nat) (by omega) (by omega)
  refine wp_eq e ?_
  have := k d.toNat h' hh' (by omega)
  rwa [Int.toNat_of_nonneg d0] at this
/-- one of some things -/
abbrev SomeW (sm : List D → DS → Ou D) : Prop := ∀ {h : List D} (hh : Hand h) {R : DS} {xs : List D} (h0 : 0 < xs.length) (h1 : xs.length ≤ 1000) {Q : D → DS → Prop} {X : Exn → DS → Prop}
  (k : ∀ (x : D) (h' : List D), Hand h' → x ∈ xs → Q x (.lst h' :: R)), Wp (sm [.ref 0, .vl xs] (.lst h :: R)) Q X
theorem someOf_w {draw : List D → DS → Ou D} (hd : DrawW draw) : SomeW (someOf draw) := fun {h} hh {R xs} h0 h1 {Q X} k => by
  unfold someOf
  simp only [wp_defM, List.length_cons, List.length_nil, Nat.reduceAdd, decide_true, Wif_t, startE_at, List.map_cons, List.map_nil, Nat.reduceSub, List.reduceReplicate, List.cons_append, List.nil_append, wp_ret, wp_m2, wp_mV, List.getElem?_cons_succ, List.getElem?_cons_zero, Wv_s, wp_mL, wp_maC, wp_maN, lenO_vl, wp_ok]
  refine hd hh (n := xs.length) h0 (by omega) rfl fun d h' hh' hd => ?_
  have hx : xs[d]? = some xs[d] := List.getElem?_eq_getElem hd
  have g : ixO (.vl xs) (.int (d : Int)) (.lst h' :: R) = .ok xs[d] (.lst h' :: R) := getI_nat (by omega) (by simpa using hx)
  refine wp_eq g ?_
  exact k _ h' hh' (List.getElem_mem ..)
theorem handOf_w {a b : Int} (ns : List Int) (hl : ns.length ≤ 63) (hb : sm b) {Q : D → DS → Prop} {X : Exn → DS → Prop} (k : ∀ h, Hand h → Q (.ref 0) [.lst h]) : Wp (handOf a b [.fz (ns.map D.int)] []) Q X := by
  have cut : ∀ S, slO (.fz (ns.map D.int)) none (some 63) S = .ok (.vl (ns.map D.int)) S := fun S => by
    show Ou.ok (D.vl (DL.cutD (ns.map D.int) none (some ((63 : Nat) : Int)))) S = _
    rw [cut_lo, List.take_of_length_le (by rw [List.length_map]; exact hl)]
  have ab : ∀ (i : Int) S, absO [.int i] S = .ok (.int (i.natAbs : Int)) S := fun i S => by
    show Ou.ok (D.int (if i < 0 then -i else i)) S = _
    have : (if i < 0 then -i else i) = (i.natAbs : Int) := by split <;> omega
    rw [this]
  unfold handOf
  simp only [wp_defM, List.length_cons, List.length_nil, Nat.reduceAdd, decide_true, Wif_t, startE_at, List.map_cons, List.map_nil, Nat.reduceSub, List.reduceReplicate, List.cons_append, List.nil_append, wp_seq, wp_set, wp_lc, wp_seqI, wp_sl, wp_mV, wp_moN, wp_moS, wp_mC, Wi_s, List.getElem?_cons_succ, List.getElem?_cons_zero, Wv_s, cut, wp_ok, asItm_vl, wipeE, List.set_cons_succ, List.set_cons_zero]
  refine wlc_map (fun i : Int => D.int (i.natAbs : Int)) D.int rfl (by omega) (fun i _ => ?_) ?_
  · unfold Wce
    simp only [wp_gN, List.set_cons_succ, List.set_cons_zero, wp_mL, wp_maC, wp_maN, wp_mV, List.getElem?_cons_succ, List.getElem?_cons_zero, Wv_s, intO_int, ab, wp_ok, and_self]
  · have m5 : ∀ (j : Int) S, mulO (.int b) (.int j) S = .ok (.int (b * j)) S := fun j S => mulO_l _ _ _ (by unfold sm at hb; omega)
    simp only [finV_at, wp_ok, Wsq_nx, List.set_cons_succ, List.set_cons_zero, wp_ret, wp_mL, wp_maC, wp_maN, wp_mV, wp_mC, wp_m2, List.getElem?_cons_succ, List.getElem?_cons_zero, Wv_s, lenO_vl, m5, addO_int, wp_ref, List.length_cons, List.length_nil, Nat.reduceAdd, Nat.reduceLeDiff, decide_true, Wif_t, List.nil_append, Wrt_rt]
    have hc := k (hnd (ns.map fun i => (i.natAbs : Int)) 0 0 (a + b * ((ns.map fun i : Int => D.int (i.natAbs : Int)).length : Nat)) 0) (.mk _ _ _ _ _ (by
      intro x hx
      obtain ⟨i, _, rfl⟩ := List.mem_map.mp hx
      omega) (by omega) (by omega))
    unfold hnd at hc
    rw [List.map_map] at hc
    exact hc
theorem hand_cl {h : List D} (hh : Hand h) : Cl [.lst h] := fun k => by
  obtain ⟨cells, a, r, m, c, _, _, _⟩ := hh
  have := unders_map k D.int cells fun _ _ => rfl
  simp [hnd, underO, unders, DL.under, this]
theorem hand_under {h : List D} (hh : Hand h) (k : Nat) : underO k (.lst h) = true := by
  have := hand_cl hh k
  simpa using this
end HN

namespace FB
open PySem PySem.Spec PyProof.Rows L2 DL FR HN
local macro_rules | `(tactic| items_go) => `(tactic| simp only [wp_ok, wp_ex, wp_bind, wp_mC, wp_mV, wp_m1, wp_m2, wp_maN, wp_maC, wp_mL, wp_mT, wp_mTr, wp_and, wp_or, wp_not, wp_andV, wp_orV, wp_notV, wp_mIf, wp_chain, wp_sl, wp_moN, wp_moS, wp_isi, wp_isi2, wp_meth, wp_tup, wp_lst, wp_ref, wp_seq, wp_ret, wp_retN, wp_nx, wp_bk, wp_ct, wp_do, wp_set, wp_asg, wp_par, wp_par3, wp_aug, wp_ifS, wp_raise, wp_for, wp_gN, wp_gsN, wp_gsC, wp_gT, wp_gSub, wp_seqI, wp_argI, wp_lc, wp_defM, Wsq_nx, Wsq_rt, Wsq_bk, Wsq_ct, Wsq_xc, Wrt_nx, Wrt_rt, Wrt_xc, Wlp_nx, Wlp_ct, Wlp_bk, Wlp_rt, Wlp_xc, Wif_t, Wif_f, Wv_s, Wo_s, Wb_s, Wi_s, Wp2_s, Wp3_s, startE_at, wipeE, List.map_cons, List.map_nil, List.length_cons, List.length_nil, Nat.reduceAdd, Nat.reduceSub, List.reduceReplicate, List.cons_append, List.nil_append, List.set_cons_succ, List.set_cons_zero, List.getElem?_cons_succ, List.getElem?_cons_zero, decide_true, decide_false, Nat.reduceLeDiff, Nat.reduceEqDiff, Int.reduceEq, Int.reduceLT, Int.reduceLE, eq_self, Bool.not_true, Bool.not_false, Bool.or_true, Bool.true_or, Bool.or_false, Bool.false_or, Bool.and_true, Bool.true_and, Bool.and_false, Bool.false_and, addO_int, subO_int, negO_int, eqO_int, neO_int, eqO_str, neO_str, eqO_is, neO_is, eqO_si, ltO_int, leO_int, gtO_int, geO_int, ixO_tup, ixO_vl, FR.getI_0, FR.getI_1, FR.getI_2, FR.getI_3, FR.getI_4, FR.enc0, FR.enc1, FR.encM0, FR.encM1, FR.encM2, FR.encB0, FR.encB1, lenO_tup, lenO_vl, intO_int, tupleO_vl, tupleO_tup, asItm_tup, asItm_vl, finV_at, finR_at, rc_ref, rc_vl, ty_tt, ty_tv, ty_ti, ty_tb, ty_ts, ty_tn, ty_td, ty_tr, ty_it, ty_iv, ty_ii, ty_ib, ty_is, ty_in, ty_id, ty_bt, ty_bv, ty_bi, ty_bb, ty_bs, ty_bn, ty_bd, ty_lt, ty_lv, ty_li, ty_lb, ty_ls, ty_ln, ty_st, ty_sv, ty_si, ty_sb, ty_ss, ty_sn])
local macro_rules | `(tactic| news_at) => `(tactic| simp only [wp_ok, wp_ex, wp_bind, wp_mC, wp_mV, wp_m1, wp_m2, wp_maN, wp_maC, wp_mL, wp_mT, wp_mTr, wp_and, wp_or, wp_not, wp_andV, wp_orV, wp_notV, wp_mIf, wp_chain, wp_sl, wp_moN, wp_moS, wp_isi, wp_isi2, wp_meth, wp_tup, wp_lst, wp_ref, wp_seq, wp_ret, wp_retN, wp_nx, wp_bk, wp_ct, wp_do, wp_set, wp_asg, wp_par, wp_par3, wp_aug, wp_ifS, wp_raise, wp_for, wp_gN, wp_gsN, wp_gsC, wp_gT, wp_gSub, wp_seqI, wp_argI, wp_lc, wp_defM, Wsq_nx, Wsq_rt, Wsq_bk, Wsq_ct, Wsq_xc, Wrt_nx, Wrt_rt, Wrt_xc, Wlp_nx, Wlp_ct, Wlp_bk, Wlp_rt, Wlp_xc, Wif_t, Wif_f, Wv_s, Wo_s, Wb_s, Wi_s, Wp2_s, Wp3_s, startE_at, wipeE, List.map_cons, List.map_nil, List.length_cons, List.length_nil, Nat.reduceAdd, Nat.reduceSub, List.reduceReplicate, List.cons_append, List.nil_append, List.set_cons_succ, List.set_cons_zero, List.getElem?_cons_succ, List.getElem?_cons_zero, decide_true, decide_false, Nat.reduceLeDiff, Nat.reduceEqDiff, Int.reduceEq, Int.reduceLT, Int.reduceLE, eq_self, Bool.not_true, Bool.not_false, Bool.or_true, Bool.true_or, Bool.or_false, Bool.false_or, Bool.and_true, Bool.true_and, Bool.and_false, Bool.false_and, addO_int, subO_int, negO_int, eqO_int, neO_int, eqO_str, neO_str, eqO_is, neO_is, eqO_si, ltO_int, leO_int, gtO_int, geO_int, ixO_tup, ixO_vl, FR.getI_0, FR.getI_1, FR.getI_2, FR.getI_3, FR.getI_4, FR.enc0, FR.enc1, FR.encM0, FR.encM1, FR.encM2, FR.encB0, FR.encB1, lenO_tup, lenO_vl, intO_int, tupleO_vl, tupleO_tup, asItm_tup, asItm_vl, finV_at, finR_at, rc_ref, rc_vl, ty_tt, ty_tv, ty_ti, ty_tb, ty_ts, ty_tn, ty_td, ty_tr, ty_it, ty_iv, ty_ii, ty_ib, ty_is, ty_in, ty_id, ty_bt, ty_bv, ty_bi, ty_bb, ty_bs, ty_bn, ty_bd, ty_lt, ty_lv, ty_li, ty_lb, ty_ls, ty_ln, ty_st, ty_sv, ty_si, ty_sb, ty_ss, ty_sn, *])
/-! the laws' own fractions -/
noncomputable def low : List D → DS → Ou D := defM 2 4
    (mSeq (mPar 3 2 (maC (mL absO (maC (mV 0) maN)) (maC (mL absO (maC (mV 1) maN)) maN)))
    (mSeq (mWhile (mT (m2 gtO (mV 3) (mC (.int 0))))
    (mPar 3 2 (maC (m2 modO (mL intO (maC (mV 2) maN)) (mV 3)) (maC (mV 3) maN))))
    (mSeq (mSet 2 (mIf (mT (m2 gtO (mV 1) (mC (.int 0)))) (mV 2) (m2 subO (mC (.int 0)) (mV 2))))
    (mRet (mL tupO (maC (m2 fdivO (mV 0) (mV 2)) (maC (m2 fdivO (mV 1) (mV 2)) maN)))))))
theorem abs_int (i : Int) (S : DS) : absO [.int i] S = .ok (.int (i.natAbs : Int)) S := by
  show Ou.ok (D.int (if i < 0 then -i else i)) S = _
  have : (if i < 0 then -i else i) = (i.natAbs : Int) := by split <;> omega
  rw [this]
theorem low_w {t : Int} {b : Nat} (S : DS) (h0 : 0 < b) (h : Div t b) {Q : D → DS → Prop} {X : Exn → DS → Prop} (k : Q (enc (mkRat t b)) S) : Wp (low [.int t, .int (b : Nat)]  S) Q X := by
  have hg : 0 < Nat.gcd t.natAbs b := Nat.gcd_pos_of_pos_right _ h0
  have d1 := fdivO_of (a := t) (b := (Nat.gcd t.natAbs b : Nat)) S (by omega) h.1
  have d2 := fdivO_of (a := (b : Nat)) (b := (Nat.gcd t.natAbs b : Nat)) S (by omega) h.2
  have e : enc (mkRat t b) = .tup [.int (t / (Nat.gcd t.natAbs b : Nat)), .int ((b : Int) / (Nat.gcd t.natAbs b : Nat))] := by
    unfold enc
    rw [Rat.num_mkRat, Rat.den_mkRat, if_neg (by omega), if_neg (by omega), Nat.gcd_comm b]
    rfl
  rw [e] at k
  unfold low
  items_go
  simp only [abs_int]
  items_go
  refine wwhile (I := fun n env S' => S' = S ∧ ∃ a c : Nat, n = a ∧ env = [some (.int t), some (.int (b : Nat)), some (.int (c : Nat)), some (.int (a : Nat))] ∧ Nat.gcd a c = Nat.gcd t.natAbs b) (n := t.natAbs) ⟨rfl, t.natAbs, b, rfl, by simp, rfl⟩ ?_
  rintro n env S' ⟨rfl, a, c, rfl, rfl, hgc⟩
  items_go
  refine wif_i (fun ha => ?_) (fun ha => ?_)
  · have ha' : 0 < n := by omega
    have md : modO (.int (c : Nat)) (.int (n : Nat)) S' = .ok (.int ((c % n : Nat) : Int)) S' := by
      show (if (n : Int) ≠ 0 then Ou.ok (D.int ((c : Int).fmod n)) S' else .no) = _
      rw [if_pos (by omega), Int.fmod_eq_emod_of_nonneg _ (by omega)]
      rfl
    simp only [md]
    items_go
    exact ⟨c % n, Nat.mod_lt _ ha', trivial, _, _, rfl, rfl, by rw [← hgc, Nat.gcd_rec n c]⟩
  · have : n = 0 := by omega
    subst this
    rw [Nat.gcd_zero_left] at hgc
    subst hgc
    items_go
    refine wif_d (show (b : Int) > 0 by omega) ?_
    items_go
    refine wp_eq d1 ?_
    refine wp_eq d2 ?_
    exact k
noncomputable def plusOf (low : List D → DS → Ou D) : List D → DS → Ou D := defM 2 2
    (mRet (mL low (maC (m2 addO (m2 mulO (m2 ixO (mV 0) (mC (.int 0))) (m2 ixO (mV 1) (mC (.int 1)))) (m2 mulO (m2 ixO (mV 1) (mC (.int 0))) (m2 ixO (mV 0) (mC (.int 1))))) (maC (m2 mulO (m2 ixO (mV 0) (mC (.int 1))) (m2 ixO (mV 1) (mC (.int 1)))) maN))))
noncomputable def timesOf (low : List D → DS → Ou D) : List D → DS → Ou D := defM 2 2
    (mRet (mL low (maC (m2 mulO (m2 ixO (mV 0) (mC (.int 0))) (m2 ixO (mV 1) (mC (.int 0)))) (maC (m2 mulO (m2 ixO (mV 0) (mC (.int 1))) (m2 ixO (mV 1) (mC (.int 1)))) maN))))
noncomputable def overOf (low : List D → DS → Ou D) : List D → DS → Ou D := defM 2 2
    (mRet (mL low (maC (m2 mulO (m2 ixO (mV 0) (mC (.int 0))) (m2 ixO (mV 1) (mC (.int 1)))) (maC (m2 mulO (m2 ixO (mV 0) (mC (.int 1))) (m2 ixO (mV 1) (mC (.int 0)))) maN))))
noncomputable def lessF : List D → DS → Ou D := defM 2 2
    (mRet (m2 ltO (m2 mulO (m2 ixO (mV 0) (mC (.int 0))) (m2 ixO (mV 1) (mC (.int 1)))) (m2 mulO (m2 ixO (mV 1) (mC (.int 0))) (m2 ixO (mV 0) (mC (.int 1))))))
/-- what a word for lowest terms must keep -/
abbrev LowW (low : List D → DS → Ou D) : Prop := ∀ {t : Int} {b : Nat} (S : DS) (_ : 0 < b) (_ : Div t b) {Q : D → DS → Prop} {X : Exn → DS → Prop} (_ : Q (enc (mkRat t b)) S), Wp (low [.int t, .int (b : Nat)] S) Q X
section
variable {lw : List D → DS → Ou D} (L : LowW lw) {p q : Rat} {S : DS} {Q : D → DS → Prop} {X : Exn → DS → Prop}
theorem less_w (h : Two p q) (k : Q (.bl (decide (p < q))) S) : Wp (lessF [enc p, enc q] S) Q X := by
  unfold lessF
  items_go
  refine wp_eq (m_nd S h) ?_
  refine wp_eq (m_nd S h.symm) ?_
  items_go
  have e : (p.num * (q.den : Int) < q.num * (p.den : Int)) = (p < q) := propext (Rat.lt_iff p q).symm
  simp only [e]
  exact k
include L
theorem plus_w (h : Two p q) (k : Q (enc (p + q)) S) : Wp (plusOf lw [enc p, enc q] S) Q X := by
  unfold plusOf
  items_go
  refine wp_eq (m_nd S h) ?_
  refine wp_eq (m_nd S h.symm) ?_
  items_go
  rw [m_dd S h]
  items_go
  rw [add_mk] at k
  exact L (t := p.num * q.den + q.num * p.den) (b := p.den * q.den) S (Nat.mul_pos (den_pos p) (den_pos q)) (div_plus h) (Q := Q) (X := X) k
theorem times_w (h : Two p q) (k : Q (enc (p * q)) S) : Wp (timesOf lw [enc p, enc q] S) Q X := by
  unfold timesOf
  items_go
  refine wp_eq (m_nn S h) ?_
  rw [m_dd S h]
  items_go
  rw [mul_mk] at k
  exact L (t := p.num * q.num) (b := p.den * q.den) S (Nat.mul_pos (den_pos p) (den_pos q)) (div_times h) (Q := Q) (X := X) k
end
theorem addW {lw : List D → DS → Ou D} (L : LowW lw) : AddOk (plusOf lw) := fun S h => (plus_w (X := fun _ _ => False) L h ⟨rfl, rfl⟩ : Wp _ (fun b S1 => b = _ ∧ S1 = S) _).eqs
theorem mulW {lw : List D → DS → Ou D} (L : LowW lw) : MulOk (timesOf lw) := fun S h => (times_w (X := fun _ _ => False) L h ⟨rfl, rfl⟩ : Wp _ (fun b S1 => b = _ ∧ S1 = S) _).eqs
/-! sums -/
noncomputable def sumF (pl : List D → DS → Ou D) : List D → DS → Ou D := summedOf pl (mL tupO (maC (mC (.int 0)) (maC (mC (.int 1)) maN)))
theorem z0_ok : ∀ env S, (mL tupO (maC (mC (.int 0)) (maC (mC (.int 1)) maN)) : ME) env S = .ok (enc 0) S := fun env S => by
  simp [tupO]
  rfl
theorem sum_w {pl : List D → DS → Ou D} (A : AddOk pl) {k : Nat} (hk : k ≤ 4500) {qs : List Rat} (hq : ∀ q ∈ qs, Bd k q) (hl : 1 + (k + 1) * qs.length ≤ 400000) {S : DS} {Q : D → DS → Prop} {X : Exn → DS → Prop} (g : Q (enc (sumQ qs)) S) : Wp (sumF pl [.vl (qs.map enc)] S) Q X :=
  wp_eq (sum_vl A z0_ok hk hq hl S) g
noncomputable def dotF (pl ti : List D → DS → Ou D) : List D → DS → Ou D := defM 2 4
    (mRet (mL (sumF pl) (maC (lcM (mArgI zipO (maC (mV 0) (maC (mV 1) maN))) (gT 2 (gsC (gN 2) (gsC (gN 3) gsN))) mYes (mL ti (maC (mV 2) (maC (mV 3) maN))) [2, 3] finV) maN)))
/-- a row: a tuple or a list of fractions -/
inductive IsRow : D → List Rat → Prop where
  | t (r : List Rat) : IsRow (encR r) r
  | v (r : List Rat) : IsRow (.vl (r.map enc)) r
theorem zip_rows {x y : D} {as bs : List Rat} (hx : IsRow x as) (hy : IsRow y bs) (S : DS) : zipO [x, y] S = .ok ⟨(as.zip bs).map fun x => .tup [enc x.1, enc x.2], none⟩ S := by
  have : ∀ xs ys : List D, zipD xs ys = zipD xs ys := fun _ _ => rfl
  cases hx <;> cases hy <;> (show Ou.ok (Itm.mk (zipD (as.map enc) (bs.map enc)) none) S = _; rw [zipD_map])
theorem dot_w {lw : List D → DS → Ou D} (L : LowW lw) {x y : D} {as bs : List Rat} (hx : IsRow x as) (hy : IsRow y bs) {ja jb : Nat} (ha : ∀ q ∈ as, Bd ja q) (hb : ∀ q ∈ bs, Bd jb q) (hs : ja + jb ≤ 4500) (hn : as.length ≤ 60) {S : DS} {Q : D → DS → Prop} {X : Exn → DS → Prop}
    (g : Q (enc (dotQ as bs)) S) : Wp (dotF (plusOf lw) (timesOf lw) [x, y] S) Q X := by
  unfold dotF
  items_go
  rw [zip_rows hx hy]
  items_go
  refine wlc_map (fun x : Rat × Rat => enc (x.1 * x.2)) (fun x => D.tup [enc x.1, enc x.2]) rfl (by simp; omega) (fun x hx => ?_) ?_
  · unfold Wce
    items_go
    refine times_w L (two_r (ha _ (List.of_mem_zip hx).1) (hb _ (List.of_mem_zip hx).2) (by omega) (by omega)) ⟨rfl, rfl⟩
  · items_go
    have e : (as.zip bs).map (fun x => enc (x.1 * x.2)) = ((as.zip bs).map fun x => x.1 * x.2).map enc := by rw [List.map_map]; rfl
    rw [e]
    refine sum_w (addW L) hs (dot_bds ha hb) ?_ g
    rw [List.length_map, List.length_zip]
    have := Nat.mul_le_mul (show ja + jb + 1 ≤ 4501 by omega) (show min as.length bs.length ≤ 60 by omega)
    omega
/-! what is drawn: fractions, not below 0 -/
abbrev Dq (q : Rat) : Prop := 0 ≤ q ∧ Bd 61 q
def isFr : D → Bool
  | .tup [.int a, .int b] => decide (0 ≤ a) && decide (0 < b) && decide (Nat.gcd a.natAbs b.natAbs = 1) && decide (a < 1000000) && decide (b < 1000000)
  | _ => false
theorem isFr_ok {d : D} (h : isFr d = true) : ∃ q, d = enc q ∧ Dq q := by
  unfold isFr at h
  split at h
  · rename_i a b
    simp only [Bool.and_eq_true, decide_eq_true_eq] at h
    obtain ⟨⟨⟨⟨h1, h2⟩, h3⟩, h4⟩, h5⟩ := h
    have e : enc (mkRat a b.natAbs) = .tup [.int a, .int b] := by
      unfold enc
      rw [Rat.num_mkRat, Rat.den_mkRat, if_neg (by omega), if_neg (by omega), Nat.gcd_comm b.natAbs, h3]
      simp
      omega
    refine ⟨mkRat a b.natAbs, e.symm, ?_, mkRat_bd (by omega) (by omega) (by omega)⟩
    rw [← Rat.num_nonneg, Rat.num_mkRat]
    split
    · exact Int.le_refl _
    · exact Int.ediv_nonneg (by omega) (by omega)
  · cases h
theorem some_fr {sm : List D → DS → Ou D} (W : SomeW sm) {h : List D} (hh : Hand h) {R : DS} {xs : List D} (hx : xs.all isFr = true) (h0 : 0 < xs.length) (h1 : xs.length ≤ 1000) {Q : D → DS → Prop} {X : Exn → DS → Prop}
    (k : ∀ q h', Hand h' → Dq q → Q (enc q) (.lst h' :: R)) : Wp (sm [.ref 0, .vl xs] (.lst h :: R)) Q X := by
  refine W hh h0 h1 fun x h' hh' hm => ?_
  obtain ⟨q, rfl, hq⟩ := isFr_ok (List.all_eq_true.mp hx x hm)
  exact k q h' hh' hq
theorem rng_w {n : Int} {m : Nat} (hn : n = (m : Int)) (hm : m ≤ 1000000) (S : DS) : rng1O [.int n] S = .ok ⟨(List.range m).map fun (i : Nat) => D.int (i : Int), none⟩ S := by
  subst hn
  exact rng1_nat m (by omega)
/-- a list drawn one by one -/
theorem wlc_draw {α : Type} {g : MG} {el : ME} {env : DE} {R : DS} {K : List D → DS → Prop} {ds : List D} (en : α → D) (Pd : α → Prop) {h : List D} (hh : Hand h) (hl : ds.length ≤ 9000)
    (st : ∀ d ∈ ds, ∀ h, Hand h → Wce g el d env (.lst h :: R) (fun y S' => ∃ a h', y = en a ∧ S' = .lst h' :: R ∧ Hand h' ∧ Pd a)) (k : ∀ (as : List α) h', Hand h' → as.length = ds.length → (∀ a ∈ as, Pd a) → K (as.map en) (.lst h' :: R)) : Wlc g mYes el env ⟨ds, none⟩ (.lst h :: R) K := by
  refine wlc (I := fun _ S => ∃ h, S = .lst h :: R ∧ Hand h) (P := fun _ y => ∃ a, y = en a ∧ Pd a) hl ⟨h, rfl, hh⟩ (fun i d hd S hS => ?_) fun ys S' hS' hl hP => ?_
  · obtain ⟨h, rfl, hh⟩ := hS
    have := st d (List.mem_of_getElem? hd) h hh
    unfold Wce at this ⊢
    refine this.mono (fun e S1 z => z.mono (fun y S2 ⟨a, h', e1, e2, e3, e4⟩ => ⟨⟨h', e2, e3⟩, a, e1, e4⟩) fun _ _ z => z) fun _ _ z => z
  · obtain ⟨h', rfl, hh'⟩ := hS'
    have key : ∀ ys : List D, (∀ y ∈ ys, ∃ a, y = en a ∧ Pd a) → ∃ as : List α, ys = as.map en ∧ ∀ a ∈ as, Pd a := by
      intro ys
      induction ys with
      | nil => exact fun _ => ⟨[], rfl, by simp⟩
      | cons y ys ih =>
        intro hy
        obtain ⟨a, rfl, pa⟩ := hy y (List.mem_cons_self ..)
        obtain ⟨as, rfl, pas⟩ := ih fun z hz => hy z (List.mem_cons_of_mem _ hz)
        refine ⟨a :: as, rfl, fun b hb => ?_⟩
        rcases List.mem_cons.mp hb with rfl | hb
        · exact pa
        · exact pas b hb
    obtain ⟨as, rfl, pas⟩ := key ys fun y hy => by
      obtain ⟨i, hi, e⟩ := List.mem_iff_getElem.mp hy
      exact hP i y (by rw [List.getElem?_eq_getElem hi, e])
    exact k as h' hh' (by simpa using hl) pas
end FB

namespace FB
open PySem PySem.Spec PyProof.Rows L2 DL FR HN
local macro_rules | `(tactic| items_go) => `(tactic| simp only [wp_ok, wp_ex, wp_bind, wp_mC, wp_mV, wp_m1, wp_m2, wp_maN, wp_maC, wp_mL, wp_mT, wp_mTr, wp_and, wp_or, wp_not, wp_andV, wp_orV, wp_notV, wp_mIf, wp_chain, wp_sl, wp_moN, wp_moS, wp_isi, wp_isi2, wp_meth, wp_tup, wp_lst, wp_ref, wp_seq, wp_ret, wp_retN, wp_nx, wp_bk, wp_ct, wp_do, wp_set, wp_asg, wp_par, wp_par3, wp_aug, wp_ifS, wp_raise, wp_for, wp_gN, wp_gsN, wp_gsC, wp_gT, wp_gSub, wp_seqI, wp_argI, wp_lc, wp_defM, Wsq_nx, Wsq_rt, Wsq_bk, Wsq_ct, Wsq_xc, Wrt_nx, Wrt_rt, Wrt_xc, Wlp_nx, Wlp_ct, Wlp_bk, Wlp_rt, Wlp_xc, Wif_t, Wif_f, Wv_s, Wo_s, Wb_s, Wi_s, Wp2_s, Wp3_s, startE_at, wipeE, List.map_cons, List.map_nil, List.length_cons, List.length_nil, Nat.reduceAdd, Nat.reduceSub, List.reduceReplicate, List.cons_append, List.nil_append, List.set_cons_succ, List.set_cons_zero, List.getElem?_cons_succ, List.getElem?_cons_zero, decide_true, decide_false, Nat.reduceLeDiff, Nat.reduceEqDiff, Int.reduceEq, Int.reduceLT, Int.reduceLE, eq_self, Bool.not_true, Bool.not_false, Bool.or_true, Bool.true_or, Bool.or_false, Bool.false_or, Bool.and_true, Bool.true_and, Bool.and_false, Bool.false_and, addO_int, subO_int, negO_int, eqO_int, neO_int, eqO_str, neO_str, eqO_is, neO_is, eqO_si, ltO_int, leO_int, gtO_int, geO_int, ixO_tup, ixO_vl, FR.getI_0, FR.getI_1, FR.getI_2, FR.getI_3, FR.getI_4, FR.enc0, FR.enc1, FR.encM0, FR.encM1, FR.encM2, FR.encB0, FR.encB1, lenO_tup, lenO_vl, intO_int, tupleO_vl, tupleO_tup, asItm_tup, asItm_vl, finV_at, finR_at, rc_ref, rc_vl, ty_tt, ty_tv, ty_ti, ty_tb, ty_ts, ty_tn, ty_td, ty_tr, ty_it, ty_iv, ty_ii, ty_ib, ty_is, ty_in, ty_id, ty_bt, ty_bv, ty_bi, ty_bb, ty_bs, ty_bn, ty_bd, ty_lt, ty_lv, ty_li, ty_lb, ty_ls, ty_ln, ty_st, ty_sv, ty_si, ty_sb, ty_ss, ty_sn])
local macro_rules | `(tactic| news_at) => `(tactic| simp only [wp_ok, wp_ex, wp_bind, wp_mC, wp_mV, wp_m1, wp_m2, wp_maN, wp_maC, wp_mL, wp_mT, wp_mTr, wp_and, wp_or, wp_not, wp_andV, wp_orV, wp_notV, wp_mIf, wp_chain, wp_sl, wp_moN, wp_moS, wp_isi, wp_isi2, wp_meth, wp_tup, wp_lst, wp_ref, wp_seq, wp_ret, wp_retN, wp_nx, wp_bk, wp_ct, wp_do, wp_set, wp_asg, wp_par, wp_par3, wp_aug, wp_ifS, wp_raise, wp_for, wp_gN, wp_gsN, wp_gsC, wp_gT, wp_gSub, wp_seqI, wp_argI, wp_lc, wp_defM, Wsq_nx, Wsq_rt, Wsq_bk, Wsq_ct, Wsq_xc, Wrt_nx, Wrt_rt, Wrt_xc, Wlp_nx, Wlp_ct, Wlp_bk, Wlp_rt, Wlp_xc, Wif_t, Wif_f, Wv_s, Wo_s, Wb_s, Wi_s, Wp2_s, Wp3_s, startE_at, wipeE, List.map_cons, List.map_nil, List.length_cons, List.length_nil, Nat.reduceAdd, Nat.reduceSub, List.reduceReplicate, List.cons_append, List.nil_append, List.set_cons_succ, List.set_cons_zero, List.getElem?_cons_succ, List.getElem?_cons_zero, decide_true, decide_false, Nat.reduceLeDiff, Nat.reduceEqDiff, Int.reduceEq, Int.reduceLT, Int.reduceLE, eq_self, Bool.not_true, Bool.not_false, Bool.or_true, Bool.true_or, Bool.or_false, Bool.false_or, Bool.and_true, Bool.true_and, Bool.and_false, Bool.false_and, addO_int, subO_int, negO_int, eqO_int, neO_int, eqO_str, neO_str, eqO_is, neO_is, eqO_si, ltO_int, leO_int, gtO_int, geO_int, ixO_tup, ixO_vl, FR.getI_0, FR.getI_1, FR.getI_2, FR.getI_3, FR.getI_4, FR.enc0, FR.enc1, FR.encM0, FR.encM1, FR.encM2, FR.encB0, FR.encB1, lenO_tup, lenO_vl, intO_int, tupleO_vl, tupleO_tup, asItm_tup, asItm_vl, finV_at, finR_at, rc_ref, rc_vl, ty_tt, ty_tv, ty_ti, ty_tb, ty_ts, ty_tn, ty_td, ty_tr, ty_it, ty_iv, ty_ii, ty_ib, ty_is, ty_in, ty_id, ty_bt, ty_bv, ty_bi, ty_bb, ty_bs, ty_bn, ty_bd, ty_lt, ty_lv, ty_li, ty_lb, ty_ls, ty_ln, ty_st, ty_sv, ty_si, ty_sb, ty_ss, ty_sn, *])
noncomputable def amountF (sm : List D → DS → Ou D) : List D → DS → Ou D := defM 1 1
    (mRet (mL sm (maC (mV 0) (maC (mL lstO (maC (mL tupO (maC (mC (.int 0)) (maC (mC (.int 1)) maN))) (maC (mL tupO (maC (mC (.int 0)) (maC (mC (.int 1)) maN))) (maC (mL tupO (maC (mC (.int 0)) (maC (mC (.int 1)) maN))) (maC (mL tupO (maC (mC (.int 1)) (maC (mC (.int 2)) maN))) (maC (mL tupO (maC (mC (.int 1)) (maC (mC (.int 3)) maN))) (maC (mL tupO (maC (mC (.int 1)) (maC (mC (.int 4)) maN))) (maC (mL tupO (maC (mC (.int 1)) (maC (mC (.int 10)) maN))) (maC (mL tupO (maC (mC (.int 2)) (maC (mC (.int 5)) maN))) (maC (mL tupO (maC (mC (.int 1)) (maC (mC (.int 1)) maN))) (maC (mL tupO (maC (mC (.int 3)) (maC (mC (.int 2)) maN))) maN))))))))))) maN))))
noncomputable def methodF (dr sm : List D → DS → Ou D) : List D → DS → Ou D := defM 2 4
    (mSeq (mSet 2 (mL tupleO (maC (lcM (mArgI rng1O (maC (mV 1) maN)) (gN 3) mYes (mL (amountF sm) (maC (mV 0) maN)) [3] finV) maN)))
    (mRet (mL tupO (maC (mL dr (maC (mV 0) (maC (mV 1) maN))) (maC (mV 2) (maC (mL sm (maC (mV 0) (maC (mL lstO (maC (mL tupO (maC (mC (.int 1)) (maC (mC (.int 1)) maN))) (maC (mL tupO (maC (mC (.int 2)) (maC (mC (.int 1)) maN))) (maC (mL tupO (maC (mC (.int 1)) (maC (mC (.int 2)) maN))) (maC (mL tupO (maC (mC (.int 5)) (maC (mC (.int 3)) maN))) (maC (mL tupO (maC (mC (.int 0)) (maC (mC (.int 1)) maN))) (maC (mL tupO (maC (mC (.int 7)) (maC (mC (.int 1)) maN))) maN))))))) maN))) maN))))))
noncomputable def deepF (dr : List D → DS → Ou D) : List D → DS → Ou D := defM 1 3
    (mSeq (mSet 1 (m2 ixO (mL lstO (maC (mC .non) (maC (mC (.int 5)) (maC (m1 negO (mC (.int 1))) (maC mDct (maC (mC (.bl true)) maN)))))) (mL dr (maC (mV 0) (maC (mC (.int 5)) maN)))))
    (mSeq (mFor (mArgI rng1O (maC (m2 addO (mC (.int 1)) (mL dr (maC (mV 0) (maC (mC (.int 28)) maN)))) maN)) (gN 2)
    (mSet 1 (m2 ixO (mL lstO (maC (mL tupO (maC (mV 1) maN)) (maC (mL lstO (maC (mV 1) maN)) (maC (mDct1 1) maN)))) (mL dr (maC (mV 0) (maC (mC (.int 3)) maN))))))
    (mRet (mV 1))))
noncomputable def oddF (dr sm : List D → DS → Ou D) : List D → DS → Ou D := defM 1 1
    (mRet (mL sm (maC (mV 0) (maC (mL lstO (maC (mC .non) (maC (mC (.bl true)) (maC (mC (.bl false)) (maC (mC (.int 0)) (maC (m1 negO (mC (.int 1))) (maC (mC (.int 999)) (maC (m2 shlO (mC (.int 1)) (mC (.int 63))) (maC (mC (.str "p")) (maC (mC (.str "")) (maC (mL tupO maN) (maC (mL lstO maN) (maC mDct (maC (mL tupO (maC (mC (.int 1)) maN)) (maC (mL tupO (maC (mC (.str "a")) maN)) (maC (mL (deepF dr) (maC (mV 0) maN)) maN)))))))))))))))) maN))))
noncomputable def isF (rec : List D → DS → Ou D) : List D → DS → Ou D := defM 2 4
    (mSeq (mIfS (mT (isiM2 "tuple" "list" (mV 1)))
    (mSeq (mIfS (mOr (mT (m2 neO (isiM "tuple" (mV 0)) (isiM "tuple" (mV 1)))) (mNot (mT (isiM2 "tuple" "list" (mV 0)))))
    (mRet (mC (.bl false)))
    mNx)
    (mRet (mAndV (m2 eqO (mL lenO (maC (mV 0) maN)) (mL lenO (maC (mV 1) maN))) (mL allO (maC (lcM (mArgI zipO (maC (mV 0) (maC (mV 1) maN))) (gT 2 (gsC (gN 2) (gsC (gN 3) gsN))) mYes (mL rec (maC (mV 2) (maC (mV 3) maN))) [2, 3] finV) maN)))))
    mNx)
    (mSeq (mIfS (mOr (mT (isiM "str" (mV 1))) (mT (m2 isO (mV 1) (mC .non))))
    (mRet (mAndV (m2 eqO (isiM "str" (mV 0)) (isiM "str" (mV 1))) (m2 eqO (mV 0) (mV 1))))
    mNx)
    (mRet (mAndV (isiM "int" (mV 0)) (mAndV (m2 eqO (isiM "bool" (mV 0)) (isiM "bool" (mV 1))) (m2 eqO (mV 0) (mV 1)))))))
section
variable {dr sm : List D → DS → Ou D} {h : List D} {R : DS} {Q : D → DS → Prop} {X : Exn → DS → Prop}
theorem amount_w (W : SomeW sm) (hh : Hand h) (k : ∀ q h', Hand h' → Dq q → Q (enc q) (.lst h' :: R)) : Wp (amountF sm [.ref 0] (.lst h :: R)) Q X := by
  unfold amountF
  items_go
  exact some_fr W hh (by decide) (by decide) (by decide) k
/-- a method drawn -/
structure Dm (n : Nat) (m : Meth) : Prop where
  g : m.g < n
  u : Am 61 n m.u
  w : Dq m.w
theorem am_of {n : Nat} {r : List Rat} (hl : r.length = n) (h : ∀ q ∈ r, Dq q) : Am 61 n r := ⟨hl, h⟩
theorem method_w (V : DrawW dr) (W : SomeW sm) (hh : Hand h) {n : Nat} (h0 : 0 < n) (hn : n ≤ 100) {i : Int} (hi : i = (n : Int)) (k : ∀ m h', Hand h' → Dm n m → Q (encM m) (.lst h' :: R)) : Wp (methodF dr sm [.ref 0, .int i] (.lst h :: R)) Q X := by
  subst hi
  unfold methodF
  items_go
  rw [rng_w rfl (by omega)]
  items_go
  refine wlc_draw enc Dq hh (by simp; omega) (fun d hd h hh => ?_) fun as h1 hh1 hl pa => ?_
  · unfold Wce
    items_go
    exact amount_w W hh fun q h' hh' hq => ⟨q, h', rfl, rfl, hh', hq⟩
  · items_go
    refine V hh1 h0 (by omega) rfl fun d h2 hh2 hd => ?_
    items_go
    refine some_fr W hh2 (by decide) (by decide) (by decide) fun q h3 hh3 hq => ?_
    items_go
    exact k ⟨d, as, q⟩ h3 hh3 ⟨hd, am_of (by simpa using hl) pa, hq⟩
/-! without errors that are held -/
mutual
def pl : D → Bool
  | .exo _ _ => false
  | .tup xs => pls xs
  | .vl xs => pls xs
  | _ => true
def pls : List D → Bool
  | [] => true
  | x :: xs => pl x && pls xs
end
/-- what is none of the law's things: no tuple of two or more, and without lists that can be changed -/
def odd : D → Bool
  | .tup xs => decide (xs.length ≤ 1)
  | .ref _ => false
  | .fz _ => false
  | .exo _ _ => false
  | _ => true
structure Odd (d : D) : Prop where
  o : odd d = true
  p : pl d = true
  u : ∀ n, DL.under n d = true
theorem deep_w (V : DrawW dr) (hh : Hand h) (k : ∀ d h', Hand h' → Odd d → Q d (.lst h' :: R)) : Wp (deepF dr [.ref 0] (.lst h :: R)) Q X := by
  have md : ∀ env S, (mDct : ME) env S = .ok .dct S := fun _ _ => rfl
  unfold deepF
  items_go
  rw [md]
  items_go
  refine V hh (n := 5) (by decide) (by decide) rfl fun d h1 hh1 hd => ?_
  obtain ⟨x, gx, ox⟩ : ∃ x, (∀ S, getI [D.non, .int 5, .int (-1), .dct, .bl true] (d : Int) S = .ok x S) ∧ Odd x := by
    rcases (show d = 0 ∨ d = 1 ∨ d = 2 ∨ d = 3 ∨ d = 4 by omega) with rfl | rfl | rfl | rfl | rfl
    · exact ⟨_, fun S => getI_0 .., rfl, rfl, fun _ => rfl⟩
    · exact ⟨_, fun S => getI_1 .., rfl, rfl, fun _ => rfl⟩
    · exact ⟨_, fun S => getI_2 .., rfl, rfl, fun _ => rfl⟩
    · exact ⟨_, fun S => getI_3 .., rfl, rfl, fun _ => rfl⟩
    · exact ⟨_, fun S => getI_4 .., rfl, rfl, fun _ => rfl⟩
  items_go
  rw [gx]
  items_go
  refine V hh1 (n := 28) (by decide) (by decide) rfl fun d2 h2 hh2 hd2 => ?_
  items_go
  rw [rng_w (m := 1 + d2) (by omega) (by omega)]
  items_go
  refine wforA (fun (i : Nat) => D.int (i : Int)) (fun _ env S => ∃ x y h, env = [some (.ref 0), some x, y] ∧ S = .lst h :: R ∧ Hand h ∧ Odd x) rfl ⟨x, none, h2, rfl, rfl, hh2, ox⟩ ?_ ?_
  · rintro i a _ env S ⟨x, y, h, rfl, rfl, hh, ox⟩
    items_go
    have d1 : ∀ env : DE, env[1]? = some (some x) → ∀ S, (mDct1 1 : ME) env S = .ok .dct S := fun env he S => by
      unfold mDct1
      rw [he]
    rw [d1 _ rfl]
    items_go
    refine V hh (n := 3) (by decide) (by decide) rfl fun d h1 hh1 hd => ?_
    obtain ⟨z, gz, oz⟩ : ∃ z, (∀ S, getI [D.tup [x], .vl [x], .dct] (d : Int) S = .ok z S) ∧ Odd z := by
      have u := ox.u
      rcases (show d = 0 ∨ d = 1 ∨ d = 2 by omega) with rfl | rfl | rfl
      · exact ⟨_, fun S => getI_0 .., rfl, by simp [pl, pls, ox.p], fun n => by simp [DL.under, unders, u n]⟩
      · exact ⟨_, fun S => getI_1 .., rfl, by simp [pl, pls, ox.p], fun n => by simp [DL.under, unders, u n]⟩
      · exact ⟨_, fun S => getI_2 .., rfl, rfl, fun _ => rfl⟩
    items_go
    rw [gz]
    items_go
    exact ⟨z, _, h1, rfl, rfl, hh1, oz⟩
  · rintro env S ⟨x, y, h, rfl, rfl, hh, ox⟩
    items_go
    exact k x h hh ox
theorem odd_w (V : DrawW dr) (W : SomeW sm) (hh : Hand h) (k : ∀ d h', Hand h' → Odd d → Q d (.lst h' :: R)) : Wp (oddF dr sm [.ref 0] (.lst h :: R)) Q X := by
  have sh : ∀ S, shlO (.int 1) (.int 63) S = .ok (.int 9223372036854775808) S := fun S => by
    show (if CPow 1 63 then Ou.ok (D.int (1 * 2 ^ (63 : Int).toNat)) S else .no) = _
    rw [if_pos ⟨by decide, by decide, by decide⟩]
    rfl
  have md : ∀ env S, (mDct : ME) env S = .ok .dct S := fun _ _ => rfl
  unfold oddF
  items_go
  rw [sh]
  items_go
  rw [md]
  items_go
  refine deep_w V hh fun z h1 hh1 oz => ?_
  items_go
  refine W hh1 (by simp) (by simp) fun x h2 hh2 hx => k x h2 hh2 ?_
  simp only [List.mem_cons, List.not_mem_nil, or_false] at hx
  rcases hx with rfl | rfl | rfl | rfl | rfl | rfl | rfl | rfl | rfl | rfl | rfl | rfl | rfl | rfl | rfl
  all_goals first | exact oz | exact ⟨rfl, rfl, fun _ => rfl⟩
end
/-! a thing is itself -/
mutual
def sf : Nat → D → Bool
  | _, .int _ => true
  | _, .bl _ => true
  | _, .str _ => true
  | _, .non => true
  | n + 1, .tup xs => decide (xs.length ≤ 9000) && sfs n xs
  | n + 1, .vl xs => decide (xs.length ≤ 9000) && sfs n xs
  | _, _ => false
def sfs : Nat → List D → Bool
  | _, [] => true
  | n, x :: xs => sf n x && sfs n xs
end
theorem sfs_mem {n : Nat} : ∀ {xs : List D}, sfs n xs = true → ∀ x ∈ xs, sf n x = true
  | y :: xs, h, x, hx => by
    rw [sfs, Bool.and_eq_true] at h
    rcases List.mem_cons.mp hx with rfl | hx
    · exact h.1
    · exact sfs_mem h.2 x hx
theorem sfs_map {α : Type} {n : Nat} (g : α → D) : ∀ {as : List α}, (∀ a ∈ as, sf n (g a) = true) → sfs n (as.map g) = true
  | [], _ => rfl
  | a :: as, h => by
    rw [List.map_cons, sfs, h a (List.mem_cons_self ..), sfs_map g fun b hb => h b (List.mem_cons_of_mem _ hb)]
    rfl
theorem sf_enc (n : Nat) (q : Rat) : sf (n + 1) (enc q) = true := by
  cases n <;> rfl
theorem sf_encR (n : Nat) {r : List Rat} (h : r.length ≤ 9000) : sf (n + 2) (encR r) = true := by
  show (decide ((r.map enc).length ≤ 9000) && sfs (n + 1) (r.map enc)) = true
  rw [sfs_map enc fun q _ => sf_enc n q, List.length_map, decide_eq_true h]
  rfl
noncomputable def isN : Nat → List D → DS → Ou D
  | 0 => fun _ _ => .no
  | n + 1 => isF (isN n)
theorem zipD_self : ∀ xs : List D, zipD xs xs = xs.map fun x => .tup [x, x]
  | [] => rfl
  | x :: xs => by rw [zipD, zipD_self xs, List.map_cons]
theorem is_w : ∀ (n : Nat) {d : D} {S : DS} {Q : D → DS → Prop} {X : Exn → DS → Prop}, sf n d = true → Q (.bl true) S → Wp (isN (n + 1) [d, d] S) Q X := by
  have nb : ∀ (b : Bool) S, neO (.bl b) (.bl b) S = .ok (.bl false) S := fun b S => by cases b <;> rfl
  have eb : ∀ (b : Bool) S, eqO (.bl b) (.bl b) S = .ok (.bl true) S := fun b S => by cases b <;> rfl
  have en : ∀ S, eqO .non .non S = .ok (.bl true) S := fun S => rfl
  have i1 : ∀ (i : Int) S, isO (.int i) .non S = .ok (.bl false) S := fun i S => rfl
  have i2 : ∀ (i : Bool) S, isO (.bl i) .non S = .ok (.bl false) S := fun i S => rfl
  have i3 : ∀ S, isO .non .non S = .ok (.bl true) S := fun S => rfl
  have list : ∀ (n : Nat) (xs : List D) (S : DS), (∀ {d : D} {S : DS} {Q : D → DS → Prop} {X : Exn → DS → Prop}, sf n d = true → Q (.bl true) S → Wp (isN (n + 1) [d, d] S) Q X) → xs.length ≤ 9000 → sfs n xs = true → ∀ (env : DE) {K : List D → DS → Prop}, env.length = 4 → K (xs.map fun _ => .bl true) S →
      Wlc (gT 2 (gsC (gN 2) (gsC (gN 3) gsN))) mYes (mL (isN (n + 1)) (maC (mV 2) (maC (mV 3) maN))) env ⟨xs.map fun x => .tup [x, x], none⟩ S K := by
    intro n xs S ih hl hs env K he k
    obtain ⟨a, b, c, e, rfl⟩ : ∃ a b c e, env = [a, b, c, e] := by
      match env, he with
      | [a, b, c, e], _ => exact ⟨a, b, c, e, rfl⟩
    refine wlc_map (fun _ => D.bl true) (fun x => D.tup [x, x]) rfl hl (fun x hx => ?_) k
    unfold Wce
    items_go
    exact ih (sfs_mem hs x hx) ⟨rfl, rfl⟩
  intro n
  induction n with
  | zero =>
    intro d S Q X hd k
    unfold isN isF
    cases d <;> simp only [sf] at hd <;> try (cases hd)
    · items_go
      rw [i3]; items_go
      rw [eb]; items_go
      rw [en]; items_go
      exact k
    · items_go
      rw [i2]; items_go
      rw [eb]; items_go
      rw [eb]; items_go
      exact k
    · items_go
      rw [i1]; items_go
      rw [eb]; items_go
      exact k
    · items_go
      rw [eb]; items_go
      exact k
  | succ n ih =>
    intro d S Q X hd k
    unfold isN isF
    cases d with
    | non =>
      items_go
      rw [i3]; items_go
      rw [eb]; items_go
      rw [en]; items_go
      exact k
    | bl b =>
      items_go
      rw [i2]; items_go
      rw [eb]; items_go
      rw [eb]; items_go
      exact k
    | int i =>
      items_go
      rw [i1]; items_go
      rw [eb]; items_go
      exact k
    | str s =>
      items_go
      rw [eb]; items_go
      exact k
    | tup xs =>
      rw [sf, Bool.and_eq_true, decide_eq_true_eq] at hd
      have zo : zipO [.tup xs, .tup xs] S = .ok ⟨xs.map fun x => .tup [x, x], none⟩ S := by
        show Ou.ok (Itm.mk (zipD xs xs) none) S = _
        rw [zipD_self]
      items_go
      rw [nb]; items_go
      rw [zo]; items_go
      refine list n xs S ih hd.1 hd.2 _ rfl ?_
      items_go
      rw [all_true]; items_go
      exact k
    | vl xs =>
      rw [sf, Bool.and_eq_true, decide_eq_true_eq] at hd
      have zo : zipO [.vl xs, .vl xs] S = .ok ⟨xs.map fun x => .tup [x, x], none⟩ S := by
        show Ou.ok (Itm.mk (zipD xs xs) none) S = _
        rw [zipD_self]
      items_go
      rw [nb]; items_go
      rw [zo]; items_go
      refine list n xs S ih hd.1 hd.2 _ rfl ?_
      items_go
      rw [all_true]; items_go
      exact k
    | _ => cases hd
end FB

namespace FJ
open PySem PySem.Spec PyProof.Rows L2 DL FR HN FB
local macro_rules | `(tactic| items_go) => `(tactic| simp only [wp_ok, wp_ex, wp_bind, wp_mC, wp_mV, wp_m1, wp_m2, wp_maN, wp_maC, wp_mL, wp_mT, wp_mTr, wp_and, wp_or, wp_not, wp_andV, wp_orV, wp_notV, wp_mIf, wp_chain, wp_sl, wp_moN, wp_moS, wp_isi, wp_isi2, wp_meth, wp_tup, wp_lst, wp_ref, wp_seq, wp_ret, wp_retN, wp_nx, wp_bk, wp_ct, wp_do, wp_set, wp_asg, wp_par, wp_par3, wp_aug, wp_ifS, wp_raise, wp_for, wp_gN, wp_gsN, wp_gsC, wp_gT, wp_gSub, wp_seqI, wp_argI, wp_lc, wp_defM, Wsq_nx, Wsq_rt, Wsq_bk, Wsq_ct, Wsq_xc, Wrt_nx, Wrt_rt, Wrt_xc, Wlp_nx, Wlp_ct, Wlp_bk, Wlp_rt, Wlp_xc, Wif_t, Wif_f, Wv_s, Wo_s, Wb_s, Wi_s, Wp2_s, Wp3_s, startE_at, wipeE, List.map_cons, List.map_nil, List.length_cons, List.length_nil, Nat.reduceAdd, Nat.reduceSub, List.reduceReplicate, List.cons_append, List.nil_append, List.set_cons_succ, List.set_cons_zero, List.getElem?_cons_succ, List.getElem?_cons_zero, decide_true, decide_false, Nat.reduceLeDiff, Nat.reduceEqDiff, Int.reduceEq, Int.reduceLT, Int.reduceLE, eq_self, Bool.not_true, Bool.not_false, Bool.or_true, Bool.true_or, Bool.or_false, Bool.false_or, Bool.and_true, Bool.true_and, Bool.and_false, Bool.false_and, addO_int, subO_int, negO_int, eqO_int, neO_int, eqO_str, neO_str, eqO_is, neO_is, eqO_si, ltO_int, leO_int, gtO_int, geO_int, ixO_tup, ixO_vl, FR.getI_0, FR.getI_1, FR.getI_2, FR.getI_3, FR.getI_4, FR.enc0, FR.enc1, FR.encM0, FR.encM1, FR.encM2, FR.encB0, FR.encB1, lenO_tup, lenO_vl, intO_int, tupleO_vl, tupleO_tup, asItm_tup, asItm_vl, finV_at, finR_at, rc_ref, rc_vl, ty_tt, ty_tv, ty_ti, ty_tb, ty_ts, ty_tn, ty_td, ty_tr, ty_it, ty_iv, ty_ii, ty_ib, ty_is, ty_in, ty_id, ty_bt, ty_bv, ty_bi, ty_bb, ty_bs, ty_bn, ty_bd, ty_lt, ty_lv, ty_li, ty_lb, ty_ls, ty_ln, ty_st, ty_sv, ty_si, ty_sb, ty_ss, ty_sn])
local macro_rules | `(tactic| news_at) => `(tactic| simp only [wp_ok, wp_ex, wp_bind, wp_mC, wp_mV, wp_m1, wp_m2, wp_maN, wp_maC, wp_mL, wp_mT, wp_mTr, wp_and, wp_or, wp_not, wp_andV, wp_orV, wp_notV, wp_mIf, wp_chain, wp_sl, wp_moN, wp_moS, wp_isi, wp_isi2, wp_meth, wp_tup, wp_lst, wp_ref, wp_seq, wp_ret, wp_retN, wp_nx, wp_bk, wp_ct, wp_do, wp_set, wp_asg, wp_par, wp_par3, wp_aug, wp_ifS, wp_raise, wp_for, wp_gN, wp_gsN, wp_gsC, wp_gT, wp_gSub, wp_seqI, wp_argI, wp_lc, wp_defM, Wsq_nx, Wsq_rt, Wsq_bk, Wsq_ct, Wsq_xc, Wrt_nx, Wrt_rt, Wrt_xc, Wlp_nx, Wlp_ct, Wlp_bk, Wlp_rt, Wlp_xc, Wif_t, Wif_f, Wv_s, Wo_s, Wb_s, Wi_s, Wp2_s, Wp3_s, startE_at, wipeE, List.map_cons, List.map_nil, List.length_cons, List.length_nil, Nat.reduceAdd, Nat.reduceSub, List.reduceReplicate, List.cons_append, List.nil_append, List.set_cons_succ, List.set_cons_zero, List.getElem?_cons_succ, List.getElem?_cons_zero, decide_true, decide_false, Nat.reduceLeDiff, Nat.reduceEqDiff, Int.reduceEq, Int.reduceLT, Int.reduceLE, eq_self, Bool.not_true, Bool.not_false, Bool.or_true, Bool.true_or, Bool.or_false, Bool.false_or, Bool.and_true, Bool.true_and, Bool.and_false, Bool.false_and, addO_int, subO_int, negO_int, eqO_int, neO_int, eqO_str, neO_str, eqO_is, neO_is, eqO_si, ltO_int, leO_int, gtO_int, geO_int, ixO_tup, ixO_vl, FR.getI_0, FR.getI_1, FR.getI_2, FR.getI_3, FR.getI_4, FR.enc0, FR.enc1, FR.encM0, FR.encM1, FR.encM2, FR.encB0, FR.encB1, lenO_tup, lenO_vl, intO_int, tupleO_vl, tupleO_tup, asItm_tup, asItm_vl, finV_at, finR_at, rc_ref, rc_vl, ty_tt, ty_tv, ty_ti, ty_tb, ty_ts, ty_tn, ty_td, ty_tr, ty_it, ty_iv, ty_ii, ty_ib, ty_is, ty_in, ty_id, ty_bt, ty_bv, ty_bi, ty_bb, ty_bs, ty_bn, ty_bd, ty_lt, ty_lv, ty_li, ty_lb, ty_ls, ty_ln, ty_st, ty_sv, ty_si, ty_sb, ty_ss, ty_sn, *])
/-! the program's judges of plain things -/
theorem pls_mem : ∀ {xs : List D}, pls xs = true → ∀ x ∈ xs, pl x = true
  | y :: ys, h, x, hx => by
    rw [pls, Bool.and_eq_true] at h
    rcases List.mem_cons.mp hx with rfl | hx
    · exact h.1
    · exact pls_mem h.2 x hx
theorem pls_of : ∀ {xs : List D}, (∀ x ∈ xs, pl x = true) → pls xs = true
  | [], _ => rfl
  | y :: ys, h => by
    rw [pls, h y (List.mem_cons_self ..), pls_of fun x hx => h x (List.mem_cons_of_mem _ hx)]
    rfl
theorem pl_enc (q : Rat) : pl (enc q) = true := rfl
theorem pl_encR (r : List Rat) : pl (encR r) = true := pls_of fun x hx => by
  obtain ⟨q, _, rfl⟩ := List.mem_map.mp hx
  rfl
theorem pl_encM (m : Meth) : pl (encM m) = true := by
  show (true && (pl (encR m.u) && (true && true))) = true
  rw [pl_encR]
  rfl
def inB : D → Bool
  | .int _ => true
  | _ => false
def wiB (lo hi : Int) : D → Bool
  | .int i => decide (lo ≤ i) && decide (i ≤ hi)
  | _ => false
def szB (lo hi : Int) : D → Bool
  | .tup xs => decide (lo ≤ (xs.length : Int)) && decide ((xs.length : Int) ≤ hi)
  | _ => false
def shB : D → Bool
  | .tup [.int a, .int b] => decide (0 < b) && decide (Nat.gcd a.natAbs b.natAbs = 1)
  | _ => false
def amB : D → Bool
  | .tup [.int a, .int b] => decide (0 < b) && decide (Nat.gcd a.natAbs b.natAbs = 1) && decide (0 ≤ a)
  | _ => false
def amsB (n : Int) : D → Bool
  | .tup xs => decide ((xs.length : Int) = n) && xs.all amB
  | _ => false
def meB (g : Int) : D → Bool
  | .tup [a, b, c] => wiB 0 (g - 1) a && (amsB g b && amB c)
  | _ => false
def bkB : D → Bool
  | .tup [.int g, .tup ms] => (decide (1 ≤ g) && decide (g ≤ 6)) && ((decide (1 ≤ ms.length) && decide (ms.length ≤ 20)) && ms.all (meB g))
  | _ => false
theorem inB_i (i : Int) : inB (.int i) = true := rfl
theorem wiB_i (lo hi i : Int) : wiB lo hi (.int i) = (decide (lo ≤ i) && decide (i ≤ hi)) := rfl
theorem szB_t (lo hi : Int) (xs : List D) : szB lo hi (.tup xs) = (decide (lo ≤ (xs.length : Int)) && decide ((xs.length : Int) ≤ hi)) := rfl
theorem shB_t (a b : Int) : shB (.tup [.int a, .int b]) = (decide (0 < b) && decide (Nat.gcd a.natAbs b.natAbs = 1)) := rfl
theorem amB_t (a b : Int) : amB (.tup [.int a, .int b]) = (decide (0 < b) && decide (Nat.gcd a.natAbs b.natAbs = 1) && decide (0 ≤ a)) := rfl
theorem amsB_t (n : Int) (xs : List D) : amsB n (.tup xs) = (decide ((xs.length : Int) = n) && xs.all amB) := rfl
theorem meB_t (g : Int) (a b c : D) : meB g (.tup [a, b, c]) = (wiB 0 (g - 1) a && (amsB g b && amB c)) := rfl
theorem bkB_t (g : Int) (ms : List D) : bkB (.tup [.int g, .tup ms]) = ((decide (1 ≤ g) && decide (g ≤ 6)) && ((decide (1 ≤ ms.length) && decide (ms.length ≤ 20)) && ms.all (meB g))) := rfl
theorem szB_n {n : Nat} {xs : List D} (h : xs.length ≠ n) : szB n n (.tup xs) = false := by
  rw [szB_t]
  by_cases h2 : xs.length < n
  · rw [decide_eq_false (by omega)]; rfl
  · rw [decide_eq_false (show ¬ (xs.length : Int) ≤ n by omega), Bool.and_false]
theorem szB_y {n : Nat} {xs : List D} (h : xs.length = n) : szB n n (.tup xs) = true := by
  rw [szB_t, decide_eq_true (by omega), decide_eq_true (by omega)]
  rfl
section
variable {S : DS} {Q : D → DS → Prop} {X : Exn → DS → Prop} {d : D}
theorem integer_w (hp : pl d = true) (k : Q (.bl (inB d)) S) : Wp (is_integer [d] S) Q X := by
  unfold is_integer
  items_go
  cases d with
  | exo a c => cases hp
  | int i =>
    items_go
    exact k
  | bl b =>
    items_go
    exact k
  | _ => exact k
theorem within_w {lo hi : Int} (hp : pl d = true) (k : Q (.bl (wiB lo hi d)) S) : Wp (is_within [d, .int lo, .int hi] S) Q X := by
  unfold is_within
  items_go
  refine integer_w hp ?_
  cases d with
  | int i =>
    unfold inB
    items_go
    refine wif_i (fun h => ?_) (fun h => ?_)
    · items_go
      unfold wiB at k
      simpa [h] using k
    · unfold wiB at k
      simpa [h] using k
  | _ => exact k
theorem sized_w {lo hi : Int} (hp : pl d = true) (k : Q (.bl (szB lo hi d)) S) : Wp (is_sized [d, .int lo, .int hi] S) Q X := by
  unfold is_sized
  items_go
  cases d with
  | exo a c => cases hp
  | tup xs =>
    items_go
    refine wif_i (fun h => ?_) (fun h => ?_)
    · items_go
      unfold szB at k
      simpa [h] using k
    · unfold szB at k
      simpa [h] using k
  | _ => exact k
theorem two_of {xs : List D} (h : xs.length = 2) : ∃ a b, xs = [a, b] := by
  match xs, h with
  | [a, b], _ => exact ⟨a, b, rfl⟩
theorem three_of {xs : List D} (h : xs.length = 3) : ∃ a b c, xs = [a, b, c] := by
  match xs, h with
  | [a, b, c], _ => exact ⟨a, b, c, rfl⟩
theorem share_w (hp : pl d = true) (k : Q (.bl (shB d)) S) : Wp (is_share [d] S) Q X := by
  unfold is_share
  items_go
  refine sized_w hp ?_
  cases d with
  | tup xs =>
    by_cases hl : xs.length = 2
    · obtain ⟨a, b, rfl⟩ := two_of hl
      unfold szB
      items_go
      simp only [pl, pls, Bool.and_eq_true] at hp
      refine integer_w hp.1 ?_
      items_go
      cases a with
      | int i =>
        unfold inB
        items_go
        refine integer_w hp.2.1 ?_
        cases b with
        | int j =>
          unfold inB
          items_go
          refine wif_i (fun h => ?_) (fun h => ?_)
          · items_go
            obtain ⟨n, rfl⟩ := Int.eq_ofNat_of_zero_le (Int.le_of_lt h)
            rw [common_ok i (by omega)]
            items_go
            rw [shB_t] at k
            rw [decide_eq_true (show (0 : Int) < (n : Int) from h), Int.natAbs_natCast, Bool.true_and] at k
            have e : (((Nat.gcd i.natAbs n : Nat) : Int) = 1) = (Nat.gcd i.natAbs n = 1) := by
              apply propext
              omega
            simp only [e]
            exact k
          · rw [shB_t] at k
            rw [decide_eq_false (show ¬ (0 : Int) < j from h)] at k
            exact k
        | _ => exact k
      | _ => exact k
    · have e : szB 2 2 (.tup xs) = false := szB_n hl
      have e2 : shB (.tup xs) = false := by
        unfold shB
        split
        · rename_i h
          cases h
          exact absurd rfl hl
        · rfl
      rw [e2] at k
      rw [e]
      items_go
      exact k
  | _ => exact k
theorem amount_jw (hp : pl d = true) (k : Q (.bl (amB d)) S) : Wp (is_amount [d] S) Q X := by
  unfold is_amount
  items_go
  refine share_w hp ?_
  unfold amB at k
  unfold shB
  split
  · rename_i a b
    by_cases h : (decide (0 < b) && decide (Nat.gcd a.natAbs b.natAbs = 1)) = true
    · simp only [h]
      items_go
      simp only [h, Bool.true_and] at k
      exact k
    · simp only [Bool.not_eq_true] at h
      simp only [h]
      items_go
      simp only [h, Bool.false_and] at k
      exact k
  · rename_i h
    items_go
    split at k
    · rename_i a b
      exact absurd rfl (h a b)
    · exact k
theorem asBls_map {α : Type} (f : α → Bool) : ∀ as : List α, asBls (as.map fun a => D.bl (f a)) = some (as.map f)
  | [] => rfl
  | a :: as => by
    rw [List.map_cons, asBls, asBls_map f as]
    rfl
theorem all_w {α : Type} (f : α → Bool) (as : List α) (k : Q (.bl (as.all f)) S) : Wp (allO [.vl (as.map fun a => D.bl (f a))] S) Q X := by
  have : allO [.vl (as.map fun a => D.bl (f a))] S = .ok (.bl (as.all f)) S := by
    show (match asBls (as.map fun a => D.bl (f a)) with
      | some bs => Ou.ok (D.bl (bs.all id)) S
      | none => .no) = _
    rw [asBls_map]
    simp [List.all_map]
  rw [this, wp_ok]
  exact k
theorem any_w {α : Type} (f : α → Bool) (as : List α) (k : Q (.bl (as.any f)) S) : Wp (anyO [.vl (as.map fun a => D.bl (f a))] S) Q X := by
  have : anyO [.vl (as.map fun a => D.bl (f a))] S = .ok (.bl (as.any f)) S := by
    show (match asBls (as.map fun a => D.bl (f a)) with
      | some bs => Ou.ok (D.bl (bs.any id)) S
      | none => .no) = _
    rw [asBls_map]
    simp [List.any_map]
  rw [this, wp_ok]
  exact k
theorem amounts_jw {n : Int} (hn : n ≤ 9000) (hp : pl d = true) (k : Q (.bl (amsB n d)) S) : Wp (are_amounts [d, .int n] S) Q X := by
  unfold are_amounts
  items_go
  refine sized_w hp ?_
  cases d with
  | tup xs =>
    rw [amsB_t] at k
    rw [szB_t]
    by_cases h : (xs.length : Int) = n
    · rw [decide_eq_true h] at k
      rw [decide_eq_true (show n ≤ (xs.length : Int) by omega), decide_eq_true (show (xs.length : Int) ≤ n by omega)]
      items_go
      refine wlc_map (fun x => D.bl (amB x)) (fun x => x) (List.map_id' xs).symm (by omega) (fun x hx => ?_) ?_
      · unfold Wce
        items_go
        exact amount_jw (pls_mem hp x hx) ⟨rfl, rfl⟩
      · items_go
        exact all_w amB xs (by simpa using k)
    · have : (decide (n ≤ (xs.length : Int)) && decide ((xs.length : Int) ≤ n)) = false := by
        by_cases h2 : n ≤ (xs.length : Int)
        · rw [decide_eq_false (show ¬ (xs.length : Int) ≤ n by omega), Bool.and_false]
        · rw [decide_eq_false h2, Bool.false_and]
      rw [this]
      rw [decide_eq_false h] at k
      items_go
      exact k
  | _ => exact k
theorem method_jw {g : Int} (hg : g ≤ 9000) (hp : pl d = true) (k : Q (.bl (meB g d)) S) : Wp (is_method [.int g, d] S) Q X := by
  unfold is_method
  items_go
  refine sized_w hp ?_
  cases d with
  | tup xs =>
    by_cases hl : xs.length = 3
    · obtain ⟨a, b, c, rfl⟩ := three_of hl
      simp only [pl, pls, Bool.and_eq_true] at hp
      unfold szB
      items_go
      refine within_w hp.1 ?_
      rw [meB_t] at k
      cases hw : wiB 0 (g - 1) a with
      | false =>
        items_go
        rw [hw] at k
        exact k
      | true =>
        items_go
        rw [hw, Bool.true_and] at k
        refine amounts_jw hg hp.2.1 ?_
        cases ha : amsB g b with
        | false =>
          items_go
          rw [ha] at k
          exact k
        | true =>
          items_go
          rw [ha, Bool.true_and] at k
          exact amount_jw hp.2.2.1 k
    · have e : szB 3 3 (.tup xs) = false := szB_n hl
      have e2 : meB g (.tup xs) = false := by
        unfold meB
        split
        · rename_i h
          cases h
          exact absurd rfl hl
        · rfl
      rw [e2] at k
      rw [e]
      items_go
      exact k
  | _ => exact k
theorem book_jw (hp : pl d = true) (k : Q (.bl (bkB d)) S) : Wp (is_book [d] S) Q X := by
  unfold is_book
  items_go
  refine sized_w hp ?_
  cases d with
  | tup xs =>
    by_cases hl : xs.length = 2
    · obtain ⟨a, b, rfl⟩ := two_of hl
      simp only [pl, pls, Bool.and_eq_true] at hp
      unfold szB
      items_go
      refine within_w hp.1 ?_
      cases a with
      | int g =>
        unfold wiB
        by_cases hg : (decide (1 ≤ g) && decide (g ≤ 6)) = true
        · simp only [hg]
          items_go
          refine sized_w hp.2.1 ?_
          cases b with
          | tup ms =>
            rw [szB_t]
            rw [bkB_t] at k
            have el : (decide ((1 : Int) ≤ (ms.length : Int)) && decide ((ms.length : Int) ≤ 20)) = (decide (1 ≤ ms.length) && decide (ms.length ≤ 20)) := by
              congr 1 <;> exact decide_eq_decide.mpr (by omega)
            rw [el]
            by_cases hm : (decide (1 ≤ ms.length) && decide (ms.length ≤ 20)) = true
            · simp only [hm]
              items_go
              simp only [hg, hm, Bool.true_and] at k
              simp only [Bool.and_eq_true, decide_eq_true_eq] at hm hg
              refine wlc_map (fun x => D.bl (meB g x)) (fun x => x) (List.map_id' ms).symm (by omega) (fun x hx => ?_) ?_
              · unfold Wce
                items_go
                exact method_jw (by omega) (pls_mem hp.2.1 x hx) ⟨rfl, rfl⟩
              · items_go
                exact all_w (meB g) ms k
            · simp only [Bool.not_eq_true] at hm
              simp only [hm]
              items_go
              simp only [hg, hm, Bool.true_and, Bool.false_and] at k
              exact k
          | _ => exact k
        · simp only [Bool.not_eq_true] at hg
          simp only [hg]
          items_go
          have e : bkB (.tup [.int g, b]) = false := by
            unfold bkB
            split
            · rename_i h
              cases h
              rw [hg]; rfl
            · rfl
          rw [e] at k
          exact k
      | _ => exact k
    · have e : szB 2 2 (.tup xs) = false := szB_n hl
      have e2 : bkB (.tup xs) = false := by
        unfold bkB
        split
        · rename_i h
          cases h
          exact absurd rfl hl
        · rfl
      rw [e2] at k
      rw [e]
      items_go
      exact k
  | _ => exact k
end
/-! right things -/
theorem am_enc {q : Rat} (h : 0 ≤ q) : amB (enc q) = true := by
  unfold enc amB
  have h1 := q.reduced
  unfold Nat.Coprime at h1
  have h2 := Rat.num_nonneg.mpr h
  have h3 := den_pos q
  simp [h1, h2, h3]
theorem ams_enc {k n : Nat} {r : List Rat} (h : Am k n r) : amsB n (encR r) = true := by
  show (decide (((r.map enc).length : Int) = n) && (r.map enc).all amB) = true
  rw [List.length_map, h.len, decide_eq_true rfl, List.all_map, Bool.true_and, List.all_eq_true]
  exact fun q hq => am_enc (h.ok q hq).1
theorem me_enc {k n : Nat} {m : Meth} (hg : m.g < n) (hu : Am k n m.u) (hw : 0 ≤ m.w) : meB n (encM m) = true := by
  show (wiB 0 ((n : Int) - 1) (.int (m.g : Nat)) && (amsB n (encR m.u) && amB (enc m.w))) = true
  rw [ams_enc hu, am_enc hw, wiB_i]
  rw [decide_eq_true (show (0 : Int) ≤ (m.g : Int) by omega), decide_eq_true (show (m.g : Int) ≤ (n : Int) - 1 by omega)]
  rfl
theorem bk_enc {k n : Nat} {ms : List Meth} (h : Bk k n ms) : bkB (encB n ms) = true := by
  have h0 := h.n0
  have h1 := h.n1
  have l0 := h.l0
  have l1 := h.l1
  show ((decide ((1 : Int) ≤ (n : Nat)) && decide (((n : Nat) : Int) ≤ 6)) && ((decide (1 ≤ (ms.map encM).length) && decide ((ms.map encM).length ≤ 20)) && (ms.map encM).all (meB n))) = true
  rw [List.length_map, decide_eq_true (show (1 : Int) ≤ (n : Nat) by omega), decide_eq_true (show ((n : Nat) : Int) ≤ 6 by omega), decide_eq_true l0, decide_eq_true l1, List.all_map]
  simp only [Bool.true_and, List.all_eq_true]
  exact fun m hm => me_enc (h.g m hm) (h.u m hm) (h.w m hm).1
theorem pl_encB (n : Nat) (ms : List Meth) : pl (encB n ms) = true := by
  show (true && (pls (ms.map encM) && true)) = true
  rw [pls_of fun x hx => by
    obtain ⟨m, _, rfl⟩ := List.mem_map.mp hx
    exact pl_encM m]
  rfl
end FJ

namespace FW
open PySem PySem.Spec PyProof.Rows L2 DL FR HN FB FJ
local macro_rules | `(tactic| items_go) => `(tactic| simp only [wp_ok, wp_ex, wp_bind, wp_mC, wp_mV, wp_m1, wp_m2, wp_maN, wp_maC, wp_mL, wp_mT, wp_mTr, wp_and, wp_or, wp_not, wp_andV, wp_orV, wp_notV, wp_mIf, wp_chain, wp_sl, wp_moN, wp_moS, wp_isi, wp_isi2, wp_meth, wp_tup, wp_lst, wp_ref, wp_seq, wp_ret, wp_retN, wp_nx, wp_bk, wp_ct, wp_do, wp_set, wp_asg, wp_par, wp_par3, wp_aug, wp_ifS, wp_raise, wp_for, wp_gN, wp_gsN, wp_gsC, wp_gT, wp_gSub, wp_seqI, wp_argI, wp_lc, wp_defM, Wsq_nx, Wsq_rt, Wsq_bk, Wsq_ct, Wsq_xc, Wrt_nx, Wrt_rt, Wrt_xc, Wlp_nx, Wlp_ct, Wlp_bk, Wlp_rt, Wlp_xc, Wif_t, Wif_f, Wv_s, Wo_s, Wb_s, Wi_s, Wp2_s, Wp3_s, startE_at, wipeE, List.map_cons, List.map_nil, List.length_cons, List.length_nil, Nat.reduceAdd, Nat.reduceSub, List.reduceReplicate, List.cons_append, List.nil_append, List.set_cons_succ, List.set_cons_zero, List.getElem?_cons_succ, List.getElem?_cons_zero, decide_true, decide_false, Nat.reduceLeDiff, Nat.reduceEqDiff, Int.reduceEq, Int.reduceLT, Int.reduceLE, eq_self, Bool.not_true, Bool.not_false, Bool.or_true, Bool.true_or, Bool.or_false, Bool.false_or, Bool.and_true, Bool.true_and, Bool.and_false, Bool.false_and, addO_int, subO_int, negO_int, eqO_int, neO_int, eqO_str, neO_str, eqO_is, neO_is, eqO_si, ltO_int, leO_int, gtO_int, geO_int, ixO_tup, ixO_vl, FR.getI_0, FR.getI_1, FR.getI_2, FR.getI_3, FR.getI_4, FR.enc0, FR.enc1, FR.encM0, FR.encM1, FR.encM2, FR.encB0, FR.encB1, lenO_tup, lenO_vl, intO_int, tupleO_vl, tupleO_tup, asItm_tup, asItm_vl, finV_at, finR_at, rc_ref, rc_vl, ty_tt, ty_tv, ty_ti, ty_tb, ty_ts, ty_tn, ty_td, ty_tr, ty_it, ty_iv, ty_ii, ty_ib, ty_is, ty_in, ty_id, ty_bt, ty_bv, ty_bi, ty_bb, ty_bs, ty_bn, ty_bd, ty_lt, ty_lv, ty_li, ty_lb, ty_ls, ty_ln, ty_st, ty_sv, ty_si, ty_sb, ty_ss, ty_sn])
local macro_rules | `(tactic| news_at) => `(tactic| simp only [wp_ok, wp_ex, wp_bind, wp_mC, wp_mV, wp_m1, wp_m2, wp_maN, wp_maC, wp_mL, wp_mT, wp_mTr, wp_and, wp_or, wp_not, wp_andV, wp_orV, wp_notV, wp_mIf, wp_chain, wp_sl, wp_moN, wp_moS, wp_isi, wp_isi2, wp_meth, wp_tup, wp_lst, wp_ref, wp_seq, wp_ret, wp_retN, wp_nx, wp_bk, wp_ct, wp_do, wp_set, wp_asg, wp_par, wp_par3, wp_aug, wp_ifS, wp_raise, wp_for, wp_gN, wp_gsN, wp_gsC, wp_gT, wp_gSub, wp_seqI, wp_argI, wp_lc, wp_defM, Wsq_nx, Wsq_rt, Wsq_bk, Wsq_ct, Wsq_xc, Wrt_nx, Wrt_rt, Wrt_xc, Wlp_nx, Wlp_ct, Wlp_bk, Wlp_rt, Wlp_xc, Wif_t, Wif_f, Wv_s, Wo_s, Wb_s, Wi_s, Wp2_s, Wp3_s, startE_at, wipeE, List.map_cons, List.map_nil, List.length_cons, List.length_nil, Nat.reduceAdd, Nat.reduceSub, List.reduceReplicate, List.cons_append, List.nil_append, List.set_cons_succ, List.set_cons_zero, List.getElem?_cons_succ, List.getElem?_cons_zero, decide_true, decide_false, Nat.reduceLeDiff, Nat.reduceEqDiff, Int.reduceEq, Int.reduceLT, Int.reduceLE, eq_self, Bool.not_true, Bool.not_false, Bool.or_true, Bool.true_or, Bool.or_false, Bool.false_or, Bool.and_true, Bool.true_and, Bool.and_false, Bool.false_and, addO_int, subO_int, negO_int, eqO_int, neO_int, eqO_str, neO_str, eqO_is, neO_is, eqO_si, ltO_int, leO_int, gtO_int, geO_int, ixO_tup, ixO_vl, FR.getI_0, FR.getI_1, FR.getI_2, FR.getI_3, FR.getI_4, FR.enc0, FR.enc1, FR.encM0, FR.encM1, FR.encM2, FR.encB0, FR.encB1, lenO_tup, lenO_vl, intO_int, tupleO_vl, tupleO_tup, asItm_tup, asItm_vl, finV_at, finR_at, rc_ref, rc_vl, ty_tt, ty_tv, ty_ti, ty_tb, ty_ts, ty_tn, ty_td, ty_tr, ty_it, ty_iv, ty_ii, ty_ib, ty_is, ty_in, ty_id, ty_bt, ty_bv, ty_bi, ty_bb, ty_bs, ty_bn, ty_bd, ty_lt, ty_lv, ty_li, ty_lb, ty_ls, ty_ln, ty_st, ty_sv, ty_si, ty_sb, ty_ss, ty_sn, *])
/-! words of errors -/
theorem isE_at {a : ExA} {y : Str} {b : Bool} {i : Nat} {env : DE} {S : DS} (h : env[i]? = some (some (.exo a y))) : mIsE a y (some b) (mV i) env S = .ok (.bl b) S := by
  unfold mIsE mV
  rw [h]
  simp
theorem wp_isE {a : ExA} {y : Str} {b : Bool} {me : ME} {env : DE} {S : DS} {Q : D → DS → Prop} {X : Exn → DS → Prop} : Wp (mIsE a y (some b) me env S) Q X = Wp (me env S) (fun d S1 => (∃ _ : d = .exo a y, Q (.bl b) S1)) X := by
  unfold mIsE
  rw [wp_bind]
  congr
  funext d S1
  cases d with
  | exo a' y' =>
    by_cases h : a' = a ∧ y' = y
    · obtain ⟨rfl, rfl⟩ := h
      simp [wp_ok]
    · have : ¬ (D.exo a' y' = .exo a y) := fun z => h (by cases z; exact ⟨rfl, rfl⟩)
      simp [h, this, wp_no]
  | _ => simp [wp_no]
theorem word_ex {n i : Nat} {cat : Str → Option Bool} {ms : ExA → Str → MS} {mr : MS} {o : DS → Ou D} {S : DS} {c w : Str} {fs : List (Str × D)} {env' : DE} (ho : o S = .ex ⟨c, fs⟩ S) (hc : cat c = some true)
    (hs : ∀ a, postO i (ms a c ((noneE n).set i (some (.exo a c))) S) = .ok (.rt (.str w), env') S) (hcl : Cl S) : mWordA n i cat ms mr o S = .ok (.str w) S := by
  have e1 : (noneE n).length = n := by simp [noneE]
  have e2 : exoS i c ms (noneE n) S = .ok (.rt (.str w), env') S := exoS_eq hs
  unfold mWordA mSeq mTryC
  rw [ho]
  simp only [hc, e1, e2, if_true, bind_ok, retO_rt]
  have := drop_ok hcl (.str w) (fun _ => rfl) []
  simpa using this
theorem word_exG {n i : Nat} {cat : Str → Option Bool} {ms : ExA → Str → MS} {mr : MS} {o : DS → Ou D} {S S0 J J' : DS} {c w : Str} {fs : List (Str × D)} {env' : DE} (ho : o S = .ex ⟨c, fs⟩ (S0 ++ J)) (hl : S0.length = S.length) (hc : cat c = some true)
    (hs : ∀ a, postO i (ms a c ((noneE n).set i (some (.exo a c))) (S0 ++ J)) = .ok (.rt (.str w), env') (S0 ++ J ++ J')) (hcl : Cl S0) : mWordA n i cat ms mr o S = .ok (.str w) S0 := by
  have e1 : (noneE n).length = n := by simp [noneE]
  have e2 : exoS i c ms (noneE n) (S0 ++ J) = .ok (.rt (.str w), env') (S0 ++ J ++ J') := exoS_eq hs
  unfold mWordA mSeq mTryC
  rw [ho]
  simp only [hc, e1, e2, if_true, bind_ok, retO_rt]
  have := drop_ok hcl (.str w) (fun _ => rfl) (J ++ J')
  rw [hl] at this
  simpa using this
/-- a word of a call that raises c, lists left behind, the hand drawn from -/
theorem word_wG {n i : Nat} {cat : Str → Option Bool} {ms : ExA → Str → MS} {mr : MS} {mb : ME} {env : DE} {S : DS} {c w : Str} {fs : List (Str × D)} {Q : D → DS → Prop} {X : Exn → DS → Prop} (hw : ∀ (S S0 J : DS) (o : DS → Ou D), S0.length = S.length → Cl S0 → o S = .ex ⟨c, fs⟩ (S0 ++ J) → mWordA n i cat ms mr o S = .ok (.str w) S0)
    (ho : Wp (mb env S) (fun _ _ => False) (fun x S1 => x = ⟨c, fs⟩ ∧ ∃ S0 J, S1 = S0 ++ J ∧ S0.length = S.length ∧ Cl S0 ∧ Q (.str w) S0)) : Wp (mLam (mWordA n i cat ms mr) mb env S) Q X := by
  cases h : mb env S with
  | ok a S1 => rw [h, wp_ok] at ho; exact ho.elim
  | no => rw [h, wp_no] at ho; exact ho.elim
  | ex x S1 =>
    rw [h, wp_ex] at ho
    obtain ⟨rfl, S0, J, rfl, hl, hcl, k⟩ := ho
    show Wp (mWordA n i cat ms mr (mb env) S) Q X
    rw [hw S S0 J (mb env) hl hcl h, wp_ok]
    exact k
/-- a word of a call that raises c -/
theorem word_w {n i : Nat} {cat : Str → Option Bool} {ms : ExA → Str → MS} {mr : MS} {mb : ME} {env : DE} {S : DS} {c w : Str} {fs : List (Str × D)} {Q : D → DS → Prop} {X : Exn → DS → Prop} (hw : ∀ (S : DS) (o : DS → Ou D), Cl S → o S = .ex ⟨c, fs⟩ S → mWordA n i cat ms mr o S = .ok (.str w) S)
    (hcl : Cl S) (ho : Wp (mb env S) (fun _ _ => False) (fun x S1 => x = ⟨c, fs⟩ ∧ S1 = S)) (k : Q (.str w) S) : Wp (mLam (mWordA n i cat ms mr) mb env S) Q X := by
  have e : mb env S = .ex ⟨c, fs⟩ S := by
    cases h : mb env S with
    | ok a S1 => rw [h, wp_ok] at ho; exact ho.elim
    | no => rw [h, wp_no] at ho; exact ho.elim
    | ex x S1 =>
      rw [h, wp_ex] at ho
      obtain ⟨rfl, rfl⟩ := ho
      rfl
  show Wp (mWordA n i cat ms mr (mb env) S) Q X
  rw [hw S (mb env) hcl e, wp_ok]
  exact k
theorem eqO_rv {p : Nat} {xs ys : List D} {S : DS} {b : Bool} (h : S[p]? = some (.lst xs)) (e : eqP (.vl xs) (.vl ys) = some b) : eqO (.ref p) (.vl ys) S = .ok (.bl b) S := by
  have e1 : eqB (.ref p) (.vl ys) = none := rfl
  have e2 : toPyS S (.ref p) = toPy (.vl xs) := by
    unfold toPyS
    simp only [h]
    rw [toPy]
  have e3 : toPyS S (.vl ys) = toPy (.vl ys) := rfl
  have e4 : eqS S (.ref p) (.vl ys) = some b := by
    unfold eqS
    rw [e2, e3]
    exact e
  unfold eqO
  rw [e1, e4]
/-! lists that can be changed, put in and out -/
section
variable {S : DS} {Q : D → DS → Prop} {X : Exn → DS → Prop}
theorem append_w {p : Nat} {ys : List D} {y : D} (h : S[p]? = some (.lst ys)) (hl : ys.length ≤ 9000) (k : Q .non (S.set p (.lst (ys ++ [y])))) : Wp (appendO (.ref p) [y] S) Q X := by
  have e : appendO (.ref p) [y] S = .ok .non (S.set p (.lst (ys ++ [y]))) := by
    show (match S[p]? with
      | some (DO.lst ys) => if ys.length < sizeLine then Ou.ok D.non (S.set p (.lst (ys ++ [y]))) else .no
      | none => .no) = _
    rw [h]
    exact if_pos (Nat.lt_of_le_of_lt hl (by decide))
  rw [e, wp_ok]
  exact k
theorem tuple_ref {p : Nat} {ys : List D} (h : S[p]? = some (.lst ys)) (k : Q (.tup ys) S) : Wp (tupleO [.ref p] S) Q X := by
  have e : tupleO [.ref p] S = .ok (.tup ys) S := by
    show (match S[p]? with
      | some (DO.lst ys) => Ou.ok (D.tup ys) S
      | none => .no) = _
    rw [h]
  rw [e, wp_ok]
  exact k
theorem len_ref {p : Nat} {ys : List D} (h : S[p]? = some (.lst ys)) (k : Q (.int (ys.length : Nat)) S) : Wp (lenO [.ref p] S) Q X := by
  have e : lenO [.ref p] S = .ok (.int (ys.length : Nat)) S := by
    show (match S[p]? with
      | some (DO.lst ys) => Ou.ok (D.int ys.length) S
      | none => .no) = _
    rw [h]
  rw [e, wp_ok]
  exact k
theorem itm_ref {p : Nat} {ys : List D} {Q : Itm → DS → Prop} (h : S[p]? = some (.lst ys)) (k : Q ⟨ys, some (p, ys)⟩ S) : Wp (asItm (.ref p) S) Q X := by
  have e : asItm (.ref p) S = .ok ⟨ys, some (p, ys)⟩ S := by
    show (match S[p]? with
      | some (DO.lst ys) => Ou.ok (Itm.mk ys (some (p, ys))) S
      | none => .no) = _
    rw [h]
  rw [e, wp_ok]
  exact k
theorem addrv_w {p : Nat} {ys zs : List D} (h : S[p]? = some (.lst ys)) (hl : ys.length + zs.length ≤ 9000) (k : Q (.vl (ys ++ zs)) S) : Wp (addO (.ref p) (.vl zs) S) Q X := by
  have e : addO (.ref p) (.vl zs) S = .ok (.vl (ys ++ zs)) S := by
    show (match S[p]? with
      | some (DO.lst ys) => if ys.length + zs.length ≤ sizeLine then Ou.ok (D.vl (ys ++ zs)) S else .no
      | none => .no) = _
    rw [h]
    exact if_pos (le_line hl)
  rw [e, wp_ok]
  exact k
theorem addR_rv {p : Nat} {ys zs : List D} (h : S[p]? = some (.lst ys)) (hl : ys.length + zs.length ≤ 9000) (k : Q (.ref S.length) (S ++ [.lst (ys ++ zs)])) : Wp (addR (.ref p) (.vl zs) S) Q X := by
  have e : addR (.ref p) (.vl zs) S = .ok (.ref S.length) (S ++ [.lst (ys ++ zs)]) := by
    show (match S[p]? with
      | some (DO.lst ys) => if ys.length + zs.length ≤ sizeLine then Ou.ok (D.ref S.length) (S ++ [DO.lst (ys ++ zs)]) else .no
      | none => .no) = _
    rw [h]
    exact if_pos (le_line hl)
  rw [e, wp_ok]
  exact k
theorem flags_ref {S : DS} {p : Nat} {ys : List D} (h : S[p]? = some (DO.lst ys)) : flagsO (.ref p) S = flagsO (.vl ys) S := by
  show (match S[p]? with
    | some (DO.lst ys) => blsOf ys
    | none => none) = _
  rw [h]
  rfl
theorem count_ref {p n : Nat} {ys : List D} (h : S[p]? = some (.lst ys)) (e : countO (.vl ys) [.bl true] [] = .ok (.int (n : Int)) []) (k : Q (.int (n : Int)) S) : Wp (countO (.ref p) [.bl true] S) Q X := by
  have e1 : countO (.ref p) [.bl true] S = .ok (.int (n : Int)) S := by
    have f0 : flagsO (.vl ys) S = flagsO (.vl ys) [] := rfl
    unfold countO at e ⊢
    rw [flags_ref h, f0]
    cases hf : flagsO (.vl ys) [] with
    | none => rw [hf] at e; cases e
    | some bs =>
      rw [hf] at e
      simp only [Ou.ok.injEq] at e ⊢
      exact ⟨e.1, trivial⟩
  rw [e1, wp_ok]
  exact k
theorem index_ref {p n : Nat} {ys : List D} (h : S[p]? = some (.lst ys)) (e : indexO (.vl ys) [.bl true] [] = .ok (.int (n : Int)) []) (k : Q (.int (n : Int)) S) : Wp (indexO (.ref p) [.bl true] S) Q X := by
  have e1 : indexO (.ref p) [.bl true] S = .ok (.int (n : Int)) S := by
    have f0 : flagsO (.vl ys) S = flagsO (.vl ys) [] := rfl
    unfold indexO at e ⊢
    rw [flags_ref h, f0]
    cases hf : flagsO (.vl ys) [] with
    | none => rw [hf] at e; cases e
    | some bs =>
      rw [hf] at e
      simp only at e ⊢
      split at e
      · rename_i hc
        rw [if_pos hc]
        simp only [Ou.ok.injEq] at e ⊢
        exact ⟨e.1, trivial⟩
      · cases e
  rw [e1, wp_ok]
  exact k
theorem addtt_w {xs ys : List D} (h : xs.length + ys.length ≤ 9000) (k : Q (.tup (xs ++ ys)) S) : Wp (addO (.tup xs) (.tup ys) S) Q X := by
  rw [addO_tup S h, wp_ok]
  exact k
theorem addvv_w {xs ys : List D} (h : xs.length + ys.length ≤ 9000) (k : Q (.vl (xs ++ ys)) S) : Wp (addO (.vl xs) (.vl ys) S) Q X := by
  rw [addO_vl S h, wp_ok]
  exact k
theorem mulT_w {xs : List D} {j : Int} {n : Nat} (hj : j = (n : Int)) (h0 : 0 < n) (h1 : n ≤ 1000) (h2 : xs.length ≤ 1000) (k : Q (.tup (repL xs n)) S) : Wp (mulO (.tup xs) (.int j) S) Q X := by
  subst hj
  have e : mulO (.tup xs) (.int (n : Int)) S = .ok (.tup (repL xs n)) S := by
    show (if 0 ≤ (n : Int) ∧ (n : Int) ≤ 1000 ∧ xs.length ≤ 1000 ∧ ((n : Int) = 0 → xs = []) then Ou.ok (D.tup (repL xs (n : Int).toNat)) S else .no) = _
    rw [if_pos ⟨by omega, by omega, h2, fun z => by omega⟩]
    rfl
  rw [e, wp_ok]
  exact k
theorem ixT_w {xs : List D} {j : Int} {n : Nat} {x : D} (hj : j = (n : Int)) (h : xs[n]? = some x) (k : Q x S) : Wp (getI xs j S) Q X := by
  subst hj
  rw [getI_nat (by omega) (by simpa using h), wp_ok]
  exact k
theorem slLo {xs : List D} {j : Int} {n : Nat} (hj : j = (n : Int)) (k : Q (.tup (xs.take n)) S) : Wp (slO (.tup xs) none (some j) S) Q X := by
  subst hj
  show Wp (.ok (.tup (cutD xs none (some (n : Int)))) S) Q X
  rw [cut_lo, wp_ok]
  exact k
theorem slHi {xs : List D} {j : Int} {n : Nat} (hj : j = (n : Int)) (k : Q (.tup (xs.drop n)) S) : Wp (slO (.tup xs) (some j) none S) Q X := by
  subst hj
  show Wp (.ok (.tup (cutD xs (some (n : Int)) none)) S) Q X
  rw [cut_hi, wp_ok]
  exact k
theorem slM1 {xs : List D} (k : Q (.tup (xs.take (xs.length - 1))) S) : Wp (slO (.tup xs) none (some (-1)) S) Q X := by
  show Wp (.ok (.tup (cutD xs none (some (-1)))) S) Q X
  rw [cut_m1, wp_ok]
  exact k
theorem list_t {xs : List D} (k : Q (.vl xs) S) : Wp (listO [.tup xs] S) Q X := by
  show Wp (.ok (.vl xs) S) Q X
  rw [wp_ok]
  exact k
end
/-- a loop over a list that can be changed, which this loop does not change -/
theorem wforR {α : Type} {g : MG} {p : MS} {env : DE} {S : DS} {Q : Fl × DE → DS → Prop} {X : Exn → DS → Prop} {q : Nat} (e : α → D) (I : Nat → DE → DS → Prop) {as : List α} {xs : List D} (hx : xs = as.map e) (h0 : I 0 env S) (hr : ∀ i env S, I i env S → S[q]? = some (.lst xs))
    (h : ∀ i a, as[i]? = some a → ∀ env S, I i env S → Wp (g (e a) env S) (fun e1 S1 => Wp (p e1 S1) (Wlp (I (i + 1)) Q) X) X) (hf : ∀ env S, I as.length env S → Q (.nx, env) S) : Wp (forL g p ⟨xs, some (q, xs)⟩ xs env S) Q X := by
  subst hx
  refine wfor (it := ⟨as.map e, some (q, as.map e)⟩) I (as.map e) 0 env S (fun i d hd env S hi => ?_) h0 (fun env S hi => ⟨hr _ _ _ hi, hf env S (by rw [Nat.zero_add, List.length_map] at hi; exact hi)⟩)
  rw [Nat.zero_add] at hi ⊢
  refine ⟨hr _ _ _ hi, ?_⟩
  rw [List.getElem?_map, Option.map_eq_some_iff] at hd
  obtain ⟨a, ha, rfl⟩ := hd
  exact h i a ha env S hi
/-- a comprehension over a list that can be changed, nothing changed -/
theorem wlc_mapR {α : Type} {g : MG} {el : ME} {env : DE} {S : DS} {K : List D → DS → Prop} {q : Nat} (f : α → D) (e : α → D) {as : List α} {xs : List D} (hx : xs = as.map e) (hS : S[q]? = some (.lst xs)) (hl : as.length ≤ 9000) (h : ∀ a ∈ as, Wce g el (e a) env S (fun y S' => y = f a ∧ S' = S))
    (k : K (as.map f) S) : Wlc g mYes el env ⟨xs, some (q, xs)⟩ S K := by
  subst hx
  refine ⟨Nat.le_trans (by simpa using hl) (show 9000 ≤ sizeLine by decide), ?_⟩
  refine wp_eq (S := S) (a := as.map f) ?_ k
  have key : ∀ (bs : List α) (acc : List D), (∀ a ∈ bs, Wce g el (e a) env S (fun y S' => y = f a ∧ S' = S)) → lcL g mYes el env ⟨as.map e, some (q, as.map e)⟩ (bs.map e) acc S = .ok (acc ++ bs.map f) S := by
    intro bs
    induction bs with
    | nil =>
      intro acc _
      rw [List.map_nil, List.map_nil, List.append_nil]
      exact gate_some _ _ _ _ _ hS
    | cons b bs ih =>
      intro acc h
      have hb := h b (List.mem_cons_self ..)
      unfold Wce at hb
      obtain ⟨e1, S1, q1, h1⟩ := hb.get
      obtain ⟨y, S2, q2, rfl, rfl⟩ := h1.get
      have ee : lcL g mYes el env ⟨as.map e, some (q, as.map e)⟩ (e b :: bs.map e) acc S2 = (g (e b) env S2).bindN fun env1 S1 => (mYes env1 S1).bindN fun c S2 => if c = true then (el env1 S2).bindN fun y S3 => lcL g mYes el env ⟨as.map e, some (q, as.map e)⟩ (bs.map e) (acc ++ [y]) S3 else lcL g mYes el env ⟨as.map e, some (q, as.map e)⟩ (bs.map e) acc S2 := gate_some _ _ _ _ _ hS
      rw [List.map_cons, ee, q1]
      simp only [bindN_ok, mYes_at, if_true, q2]
      rw [ih _ fun a ha => h a (List.mem_cons_of_mem _ ha)]
      simp
  simpa using key as [] h
/-- its own lists gone, what stood stands -/
theorem keep_w {S S1 : DS} {J : DS} {d : D} (hc : Cl S) (hd : ∀ n, DL.under n d = true) (h : S1 = S ++ J) {Q : D → DS → Prop} (k : Q d S) : (DL.under S.length d = true ∧ (S1.take S.length).all (underO S.length) = true) ∧ Q d (S1.take S.length) := by
  subst h
  rw [List.take_left' rfl]
  exact ⟨⟨hd _, hc _⟩, k⟩
/-- the same, the hand drawn from -/
theorem keepH_w {h h' : List D} {R J S1 : DS} {d : D} (hh' : Hand h') (hR : Cl R) (hd : ∀ n, DL.under n d = true) (e : S1 = .lst h' :: R ++ J) {Q : D → DS → Prop} (k : Q d (.lst h' :: R)) :
    (DL.under (DO.lst h :: R).length d = true ∧ (S1.take (DO.lst h :: R).length).all (underO (DO.lst h :: R).length) = true) ∧ Q d (S1.take (DO.lst h :: R).length) := by
  subst e
  have : (DO.lst h' :: R ++ J).take (DO.lst h :: R).length = DO.lst h' :: R := by
    rw [show (DO.lst h :: R).length = (DO.lst h' :: R).length from rfl, List.take_left' rfl]
  rw [this]
  exact ⟨⟨hd _, by rw [List.all_cons, hand_under hh', hR]; rfl⟩, k⟩
theorem Cl.nil : Cl [] := fun _ => rfl
theorem Cl.hand {h : List D} {R : DS} (hh : Hand h) (hR : Cl R) : Cl (.lst h :: R) := fun n => by
  rw [List.all_cons, hand_under hh, hR]
  rfl
theorem Cl.cons {ys : List D} {R : DS} (h : ∀ n, unders n ys = true) (hR : Cl R) : Cl (.lst ys :: R) := fun n => by
  have : underO n (.lst ys) = true := h n
  rw [List.all_cons, this, hR]
  rfl
end FW

namespace FW
open PySem PySem.Spec PyProof.Rows L2 DL FR HN FB FJ
theorem tf {b : Bool} {p : Prop} (h1 : b = true) (h2 : b = false) : p := by
  rw [h1] at h2
  cases h2
theorem under_encM (j : Nat) (m : FR.Meth) : DL.under j (FR.encM m) = true := by simp [FR.encM, DL.under, unders, under_encR, under_enc]
theorem under_encB (j n : Nat) (ms : List FR.Meth) : DL.under j (FR.encB n ms) = true := by
  have u1 := unders_map j FR.encM ms fun m _ => under_encM j m
  simp only [encB, DL.under, unders, u1, Bool.true_and, Bool.and_true]
theorem ams_len {k : Nat} {xs : List D} (h : xs.length ≠ k) : amsB k (.tup xs) = false := by
  rw [amsB_t, decide_eq_false (by omega)]
  rfl
theorem ams_bad {k : Int} {xs : List D} {x : D} (hx : x ∈ xs) (h : amB x = false) : amsB k (.tup xs) = false := by
  rw [amsB_t, List.all_eq_false.mpr ⟨x, hx, by rw [h]; simp⟩, Bool.and_false]
theorem rep_mem {x : D} {n : Nat} (h : 0 < n) : x ∈ repL [x] n := by
  rw [repL_one]
  exact List.mem_replicate.mpr ⟨by omega, rfl⟩
theorem rep_length {α : Type} (xs : List α) (k : Nat) : (repL xs k).length = k * xs.length := rep_len xs k
theorem rep_all {x y : D} {n : Nat} (h : y ∈ repL [x] n) : y = x := by
  rw [repL_one] at h
  exact (List.mem_replicate.mp h).2
theorem repL_mem {α : Type} {xs : List α} {n : Nat} {y : α} (h : y ∈ repL xs n) : y ∈ xs := by
  unfold repL at h
  obtain ⟨l, hl, hy⟩ := List.mem_flatten.mp h
  rw [(List.mem_replicate.mp hl).2] at hy
  exact hy
theorem unders_of {n : Nat} : ∀ {xs : List D}, (∀ x ∈ xs, DL.under n x = true) → unders n xs = true
  | [], _ => rfl
  | x :: xs, h => by
    rw [unders, h x (List.mem_cons_self ..), unders_of fun y hy => h y (List.mem_cons_of_mem _ hy)]
    rfl
theorem unders_mem {n : Nat} : ∀ {xs : List D}, unders n xs = true → ∀ x ∈ xs, DL.under n x = true
  | y :: xs, h, x, hx => by
    rw [unders, Bool.and_eq_true] at h
    rcases List.mem_cons.mp hx with rfl | hx
    · exact h.1
    · exact unders_mem h.2 x hx
theorem pl_t {xs : List D} (h : ∀ x ∈ xs, pl x = true) : pl (.tup xs) = true := pls_of h
theorem un_t {xs : List D} (h : ∀ x ∈ xs, ∀ n, DL.under n x = true) : ∀ n, DL.under n (.tup xs) = true := fun n => unders_of fun x hx => h x hx n
theorem pl_3 {a b c : D} (ha : pl a = true) (hb : pl b = true) (hc : pl c = true) : pl (.tup [a, b, c]) = true := by
  simp [pl, pls, ha, hb, hc]
theorem un_3 {a b c : D} (ha : ∀ n, DL.under n a = true) (hb : ∀ n, DL.under n b = true) (hc : ∀ n, DL.under n c = true) : ∀ n, DL.under n (.tup [a, b, c]) = true := fun n => by
  simp [DL.under, unders, ha, hb, hc]
/-- plain, and without lists that can be changed -/
def Pu (d : D) : Prop := pl d = true ∧ ∀ n, DL.under n d = true
theorem pu_t {xs : List D} (h : ∀ x ∈ xs, Pu x) : Pu (.tup xs) := ⟨pl_t fun x hx => (h x hx).1, un_t fun x hx => (h x hx).2⟩
theorem pu_v {xs : List D} (h : ∀ x ∈ xs, Pu x) : Pu (.vl xs) := ⟨pl_t fun x hx => (h x hx).1, un_t fun x hx => (h x hx).2⟩
theorem pu_3 {a b c : D} (ha : Pu a) (hb : Pu b) (hc : Pu c) : Pu (.tup [a, b, c]) := ⟨pl_3 ha.1 hb.1 hc.1, un_3 ha.2 hb.2 hc.2⟩
theorem pu_R (r : List Rat) : Pu (encR r) := ⟨pl_encR r, fun j => under_encR j r⟩
/-- a row spoiled -/
theorem spoiled {k : Nat} {r : List Rat} (hr : Am 61 k r) (k0 : 0 < k) {f x : D} (hf : amB f = false) (pf : Pu f) (h : x ∈ [D.non, .tup ((r.map enc).take ((r.map enc).length - 1)), .vl (r.map enc), .tup (repL [f] k)]) : amsB k x = false ∧ Pu x := by
  have pm : ∀ y ∈ r.map enc, Pu y := fun y hy => by
    obtain ⟨q, _, rfl⟩ := List.mem_map.mp hy
    exact ⟨rfl, fun _ => rfl⟩
  simp only [List.mem_cons, List.not_mem_nil, or_false] at h
  rcases h with rfl | rfl | rfl | rfl
  · exact ⟨rfl, rfl, fun _ => rfl⟩
  · refine ⟨ams_len ?_, pu_t fun y hy => pm y (List.mem_of_mem_take hy)⟩
    rw [List.length_take, List.length_map, hr.len]
    omega
  · exact ⟨rfl, pu_v pm⟩
  · exact ⟨ams_bad (rep_mem k0) hf, pu_t fun y hy => by rw [rep_all hy]; exact pf⟩

section
variable {n i : Nat} {cat : Str → Option Bool} {ms : ExA → Str → MS} {mr : MS} {mb : ME} {env : DE} {S : DS} {c w : Str} {fs : List (Str × D)} {Q : D → DS → Prop} {X : Exn → DS → Prop}
theorem word_wS (hw : ∀ (S S0 J : DS) (o : DS → Ou D), S0.length = S.length → Cl S0 → o S = .ex ⟨c, fs⟩ (S0 ++ J) → mWordA n i cat ms mr o S = .ok (.str w) S0)
    (hcl : Cl S) (ho : Wp (mb env S) (fun _ _ => False) (fun x S1 => x = ⟨c, fs⟩ ∧ ∃ J, S1 = S ++ J)) (k : Q (.str w) S) : Wp (mLam (mWordA n i cat ms mr) mb env S) Q X := by
  refine word_wG hw (ho.mono (fun _ _ z => z) fun x S1 ⟨h1, J, h2⟩ => ⟨h1, S, J, h2, rfl, hcl, k⟩)
end
theorem neO_rv {p : Nat} {xs ys : List D} {S : DS} {b : Bool} (h : S[p]? = some (.lst xs)) (e : eqP (.vl xs) (.vl ys) = some b) : neO (.ref p) (.vl ys) S = .ok (.bl (!b)) S := by
  have e1 : eqB (.ref p) (.vl ys) = none := rfl
  have e2 : toPyS S (.ref p) = toPy (.vl xs) := by
    unfold toPyS
    simp only [h]
    rw [toPy]
  have e3 : toPyS S (.vl ys) = toPy (.vl ys) := rfl
  have e4 : eqS S (.ref p) (.vl ys) = some b := by
    unfold eqS
    rw [e2, e3]
    exact e
  unfold neO
  rw [e1, e4]
end FW

namespace DX
open PySem PySem.Spec PyProof.Rows L2 DL FR HN FB FJ FW
section
variable {S : DS} {env : DE} {Q : D → DS → Prop} {X : Exn → DS → Prop}
theorem wp_raiseF {Q : Fl × DE → DS → Prop} {y g : Str} {a : ME} : Wp (mRaiseF y g (maC a maN) env S) Q X = Wp (a env S) (fun d S1 => Q (.xc ⟨y, [(g, d)]⟩, env) S1) (fun x S1 => Q (.xc x, env) S1) := by
  unfold mRaiseF
  rw [wp_lift]
  simp only [wp_maC, wp_maN, wp_ok]
theorem listR_w {ys : List D} (k : Q (.ref S.length) (S ++ [.lst ys])) : Wp (listR [.tup ys] S) Q X := by
  have e : listR [.tup ys] S = .ok (.ref S.length) (S ++ [.lst ys]) := rfl
  rw [e, wp_ok]
  exact k
theorem mulR_w {xs : List D} {j : Int} {n : Nat} (hj : j = (n : Int)) (h1 : n ≤ 1000) (h2 : xs.length ≤ 1000) (k : Q (.ref S.length) (S ++ [.lst (repL xs n)])) : Wp (mulR (.vl xs) (.int j) S) Q X := by
  subst hj
  have e : mulR (.vl xs) (.int (n : Int)) S = .ok (.ref S.length) (S ++ [.lst (repL xs n)]) := by
    unfold mulR
    dsimp only
    rw [if_pos ?h, Int.toNat_natCast]
    case h =>
      refine ⟨by omega, by omega, ?_⟩
      rw [sizeLine_eq, Int.toNat_natCast]
      exact Nat.le_trans (Nat.mul_le_mul h2 h1) (by decide)
  rw [e, wp_ok]
  exact k
end
/-! two lists at the end, and what came behind them -/
section
variable {S J : DS} {a b x : DO}
theorem two_get0 : (S ++ [a, b] ++ J)[S.length]? = some a := by simp
theorem two_get1 : (S ++ [a, b] ++ J)[S.length + 1]? = some b := by simp
theorem two_set0 : (S ++ [a, b] ++ J).set S.length x = S ++ [x, b] ++ J := by simp
theorem two_set1 : (S ++ [a, b] ++ J).set (S.length + 1) x = S ++ [a, x] ++ J := by simp
end
theorem cl_app {S T : DS} (h : Cl S) (t : Cl T) : Cl (S ++ T) := fun n => by rw [List.all_append, h n, t n]; rfl
end DX

namespace FB
open PySem PySem.Spec PyProof.Rows L2 DL FR HN FJ FW
local macro_rules | `(tactic| items_go) => `(tactic| simp only [wp_ok, wp_ex, wp_bind, wp_mC, wp_mV, wp_m1, wp_m2, wp_maN, wp_maC, wp_mL, wp_mT, wp_mTr, wp_and, wp_or, wp_not, wp_andV, wp_orV, wp_notV, wp_mIf, wp_chain, wp_sl, wp_moN, wp_moS, wp_isi, wp_isi2, wp_meth, wp_tup, wp_lst, wp_ref, wp_seq, wp_ret, wp_retN, wp_nx, wp_bk, wp_ct, wp_do, wp_set, wp_asg, wp_par, wp_par3, wp_aug, wp_ifS, wp_raise, wp_for, wp_gN, wp_gsN, wp_gsC, wp_gT, wp_gSub, wp_seqI, wp_argI, wp_lc, wp_defM, Wsq_nx, Wsq_rt, Wsq_bk, Wsq_ct, Wsq_xc, Wrt_nx, Wrt_rt, Wrt_xc, Wlp_nx, Wlp_ct, Wlp_bk, Wlp_rt, Wlp_xc, Wif_t, Wif_f, Wv_s, Wo_s, Wb_s, Wi_s, Wp2_s, Wp3_s, startE_at, wipeE, List.map_cons, List.map_nil, List.length_cons, List.length_nil, Nat.reduceAdd, Nat.reduceSub, List.reduceReplicate, List.cons_append, List.nil_append, List.set_cons_succ, List.set_cons_zero, List.getElem?_cons_succ, List.getElem?_cons_zero, decide_true, decide_false, Nat.reduceLeDiff, Nat.reduceEqDiff, Int.reduceEq, Int.reduceLT, Int.reduceLE, eq_self, Bool.not_true, Bool.not_false, Bool.or_true, Bool.true_or, Bool.or_false, Bool.false_or, Bool.and_true, Bool.true_and, Bool.and_false, Bool.false_and, addO_int, subO_int, negO_int, eqO_int, neO_int, eqO_str, neO_str, eqO_is, neO_is, eqO_si, ltO_int, leO_int, gtO_int, geO_int, ixO_tup, ixO_vl, FR.getI_0, FR.getI_1, FR.getI_2, FR.getI_3, FR.getI_4, FR.enc0, FR.enc1, FR.encM0, FR.encM1, FR.encM2, FR.encB0, FR.encB1, lenO_tup, lenO_vl, intO_int, tupleO_vl, tupleO_tup, asItm_tup, asItm_vl, finV_at, finR_at, rc_ref, rc_vl, ty_tt, ty_tv, ty_ti, ty_tb, ty_ts, ty_tn, ty_td, ty_tr, ty_it, ty_iv, ty_ii, ty_ib, ty_is, ty_in, ty_id, ty_bt, ty_bv, ty_bi, ty_bb, ty_bs, ty_bn, ty_bd, ty_lt, ty_lv, ty_li, ty_lb, ty_ls, ty_ln, ty_st, ty_sv, ty_si, ty_sb, ty_ss, ty_sn])
local macro_rules | `(tactic| news_at) => `(tactic| simp only [wp_ok, wp_ex, wp_bind, wp_mC, wp_mV, wp_m1, wp_m2, wp_maN, wp_maC, wp_mL, wp_mT, wp_mTr, wp_and, wp_or, wp_not, wp_andV, wp_orV, wp_notV, wp_mIf, wp_chain, wp_sl, wp_moN, wp_moS, wp_isi, wp_isi2, wp_meth, wp_tup, wp_lst, wp_ref, wp_seq, wp_ret, wp_retN, wp_nx, wp_bk, wp_ct, wp_do, wp_set, wp_asg, wp_par, wp_par3, wp_aug, wp_ifS, wp_raise, wp_for, wp_gN, wp_gsN, wp_gsC, wp_gT, wp_gSub, wp_seqI, wp_argI, wp_lc, wp_defM, Wsq_nx, Wsq_rt, Wsq_bk, Wsq_ct, Wsq_xc, Wrt_nx, Wrt_rt, Wrt_xc, Wlp_nx, Wlp_ct, Wlp_bk, Wlp_rt, Wlp_xc, Wif_t, Wif_f, Wv_s, Wo_s, Wb_s, Wi_s, Wp2_s, Wp3_s, startE_at, wipeE, List.map_cons, List.map_nil, List.length_cons, List.length_nil, Nat.reduceAdd, Nat.reduceSub, List.reduceReplicate, List.cons_append, List.nil_append, List.set_cons_succ, List.set_cons_zero, List.getElem?_cons_succ, List.getElem?_cons_zero, decide_true, decide_false, Nat.reduceLeDiff, Nat.reduceEqDiff, Int.reduceEq, Int.reduceLT, Int.reduceLE, eq_self, Bool.not_true, Bool.not_false, Bool.or_true, Bool.true_or, Bool.or_false, Bool.false_or, Bool.and_true, Bool.true_and, Bool.and_false, Bool.false_and, addO_int, subO_int, negO_int, eqO_int, neO_int, eqO_str, neO_str, eqO_is, neO_is, eqO_si, ltO_int, leO_int, gtO_int, geO_int, ixO_tup, ixO_vl, FR.getI_0, FR.getI_1, FR.getI_2, FR.getI_3, FR.getI_4, FR.enc0, FR.enc1, FR.encM0, FR.encM1, FR.encM2, FR.encB0, FR.encB1, lenO_tup, lenO_vl, intO_int, tupleO_vl, tupleO_tup, asItm_tup, asItm_vl, finV_at, finR_at, rc_ref, rc_vl, ty_tt, ty_tv, ty_ti, ty_tb, ty_ts, ty_tn, ty_td, ty_tr, ty_it, ty_iv, ty_ii, ty_ib, ty_is, ty_in, ty_id, ty_bt, ty_bv, ty_bi, ty_bb, ty_bs, ty_bn, ty_bd, ty_lt, ty_lv, ty_li, ty_lb, ty_ls, ty_ln, ty_st, ty_sv, ty_si, ty_sb, ty_ss, ty_sn, *])
/-! things that are nothing: with the text a in the place of 5 -/
noncomputable def deepA (dr : List D → DS → Ou D) : List D → DS → Ou D := defM 1 3
    (mSeq (mSet 1 (m2 ixO (mL lstO (maC (mC .non) (maC (mC (.str "a")) (maC (m1 negO (mC (.int 1))) (maC mDct (maC (mC (.bl true)) maN)))))) (mL dr (maC (mV 0) (maC (mC (.int 5)) maN)))))
    (mSeq (mFor (mArgI rng1O (maC (m2 addO (mC (.int 1)) (mL dr (maC (mV 0) (maC (mC (.int 28)) maN)))) maN)) (gN 2)
    (mSet 1 (m2 ixO (mL lstO (maC (mL tupO (maC (mV 1) maN)) (maC (mL lstO (maC (mV 1) maN)) (maC (mDct1 1) maN)))) (mL dr (maC (mV 0) (maC (mC (.int 3)) maN))))))
    (mRet (mV 1))))
noncomputable def oddA (dr sm : List D → DS → Ou D) : List D → DS → Ou D := defM 1 1
    (mRet (mL sm (maC (mV 0) (maC (mL lstO (maC (mC .non) (maC (mC (.bl true)) (maC (mC (.bl false)) (maC (mC (.int 0)) (maC (m1 negO (mC (.int 1))) (maC (mC (.int 999)) (maC (m2 shlO (mC (.int 1)) (mC (.int 63))) (maC (mC (.str "p")) (maC (mC (.str "")) (maC (mL tupO maN) (maC (mL lstO maN) (maC mDct (maC (mL tupO (maC (mC (.int 1)) maN)) (maC (mL tupO (maC (mC (.str "a")) maN)) (maC (mL (deepA dr) (maC (mV 0) maN)) maN)))))))))))))))) maN))))
section
variable {dr sm : List D → DS → Ou D} {h : List D} {R : DS} {Q : D → DS → Prop} {X : Exn → DS → Prop}
theorem deepA_w (V : DrawW dr) (hh : Hand h) (k : ∀ d h', Hand h' → Odd d → Q d (.lst h' :: R)) : Wp (deepA dr [.ref 0] (.lst h :: R)) Q X := by
  have md : ∀ env S, (mDct : ME) env S = .ok .dct S := fun _ _ => rfl
  unfold deepA
  items_go
  rw [md]
  items_go
  refine V hh (n := 5) (by decide) (by decide) rfl fun d h1 hh1 hd => ?_
  obtain ⟨x, gx, ox⟩ : ∃ x, (∀ S, getI [D.non, .str "a", .int (-1), .dct, .bl true] (d : Int) S = .ok x S) ∧ Odd x := by
    rcases (show d = 0 ∨ d = 1 ∨ d = 2 ∨ d = 3 ∨ d = 4 by omega) with rfl | rfl | rfl | rfl | rfl
    · exact ⟨_, fun S => getI_0 .., rfl, rfl, fun _ => rfl⟩
    · exact ⟨_, fun S => getI_1 .., rfl, rfl, fun _ => rfl⟩
    · exact ⟨_, fun S => getI_2 .., rfl, rfl, fun _ => rfl⟩
    · exact ⟨_, fun S => getI_3 .., rfl, rfl, fun _ => rfl⟩
    · exact ⟨_, fun S => getI_4 .., rfl, rfl, fun _ => rfl⟩
  items_go
  rw [gx]
  items_go
  refine V hh1 (n := 28) (by decide) (by decide) rfl fun d2 h2 hh2 hd2 => ?_
  items_go
  rw [rng_w (m := 1 + d2) (by omega) (by omega)]
  items_go
  refine wforA (fun (i : Nat) => D.int (i : Int)) (fun _ env S => ∃ x y h, env = [some (.ref 0), some x, y] ∧ S = .lst h :: R ∧ Hand h ∧ Odd x) rfl ⟨x, none, h2, rfl, rfl, hh2, ox⟩ ?_ ?_
  · rintro i a _ env S ⟨x, y, h, rfl, rfl, hh, ox⟩
    items_go
    have d1 : ∀ env : DE, env[1]? = some (some x) → ∀ S, (mDct1 1 : ME) env S = .ok .dct S := fun env he S => by
      unfold mDct1
      rw [he]
    rw [d1 _ rfl]
    items_go
    refine V hh (n := 3) (by decide) (by decide) rfl fun d h1 hh1 hd => ?_
    obtain ⟨z, gz, oz⟩ : ∃ z, (∀ S, getI [D.tup [x], .vl [x], .dct] (d : Int) S = .ok z S) ∧ Odd z := by
      have u := ox.u
      rcases (show d = 0 ∨ d = 1 ∨ d = 2 by omega) with rfl | rfl | rfl
      · exact ⟨_, fun S => getI_0 .., rfl, by simp [pl, pls, ox.p], fun n => by simp [DL.under, unders, u n]⟩
      · exact ⟨_, fun S => getI_1 .., rfl, by simp [pl, pls, ox.p], fun n => by simp [DL.under, unders, u n]⟩
      · exact ⟨_, fun S => getI_2 .., rfl, rfl, fun _ => rfl⟩
    items_go
    rw [gz]
    items_go
    exact ⟨z, _, h1, rfl, rfl, hh1, oz⟩
  · rintro env S ⟨x, y, h, rfl, rfl, hh, ox⟩
    items_go
    exact k x h hh ox
theorem oddA_w (V : DrawW dr) (W : SomeW sm) (hh : Hand h) (k : ∀ d h', Hand h' → Odd d → Q d (.lst h' :: R)) : Wp (oddA dr sm [.ref 0] (.lst h :: R)) Q X := by
  have sh : ∀ S, shlO (.int 1) (.int 63) S = .ok (.int 9223372036854775808) S := fun S => by
    show (if CPow 1 63 then Ou.ok (D.int (1 * 2 ^ (63 : Int).toNat)) S else .no) = _
    rw [if_pos ⟨by decide, by decide, by decide⟩]
    rfl
  have md : ∀ env S, (mDct : ME) env S = .ok .dct S := fun _ _ => rfl
  unfold oddA
  items_go
  rw [sh]
  items_go
  rw [md]
  items_go
  refine deepA_w V hh fun z h1 hh1 oz => ?_
  items_go
  refine W hh1 (by simp) (by simp) fun x h2 hh2 hx => k x h2 hh2 ?_
  simp only [List.mem_cons, List.not_mem_nil, or_false] at hx
  rcases hx with rfl | rfl | rfl | rfl | rfl | rfl | rfl | rfl | rfl | rfl | rfl | rfl | rfl | rfl | rfl
  all_goals first | exact oz | exact ⟨rfl, rfl, fun _ => rfl⟩
end
end FB

namespace MB
open PySem PySem.Spec PyProof.Rows L2 DL FR HN FB FJ FW
local macro_rules | `(tactic| items_go) => `(tactic| simp only [wp_ok, wp_ex, wp_bind, wp_mC, wp_mV, wp_m1, wp_m2, wp_maN, wp_maC, wp_mL, wp_mT, wp_mTr, wp_and, wp_or, wp_not, wp_andV, wp_orV, wp_notV, wp_mIf, wp_chain, wp_sl, wp_moN, wp_moS, wp_isi, wp_isi2, wp_meth, wp_tup, wp_lst, wp_ref, wp_seq, wp_ret, wp_retN, wp_nx, wp_bk, wp_ct, wp_do, wp_set, wp_asg, wp_par, wp_par3, wp_aug, wp_ifS, wp_raise, wp_for, wp_gN, wp_gsN, wp_gsC, wp_gT, wp_gSub, wp_seqI, wp_argI, wp_lc, wp_defM, Wsq_nx, Wsq_rt, Wsq_bk, Wsq_ct, Wsq_xc, Wrt_nx, Wrt_rt, Wrt_xc, Wlp_nx, Wlp_ct, Wlp_bk, Wlp_rt, Wlp_xc, Wif_t, Wif_f, Wv_s, Wo_s, Wb_s, Wi_s, Wp2_s, Wp3_s, startE_at, wipeE, List.map_cons, List.map_nil, List.length_cons, List.length_nil, Nat.reduceAdd, Nat.reduceSub, List.reduceReplicate, List.cons_append, List.nil_append, List.set_cons_succ, List.set_cons_zero, List.getElem?_cons_succ, List.getElem?_cons_zero, decide_true, decide_false, Nat.reduceLeDiff, Nat.reduceEqDiff, Int.reduceEq, Int.reduceLT, Int.reduceLE, eq_self, Bool.not_true, Bool.not_false, Bool.or_true, Bool.true_or, Bool.or_false, Bool.false_or, Bool.and_true, Bool.true_and, Bool.and_false, Bool.false_and, addO_int, subO_int, negO_int, eqO_int, neO_int, eqO_str, neO_str, eqO_is, neO_is, eqO_si, ltO_int, leO_int, gtO_int, geO_int, ixO_tup, ixO_vl, FR.getI_0, FR.getI_1, FR.getI_2, FR.getI_3, FR.getI_4, FR.enc0, FR.enc1, FR.encM0, FR.encM1, FR.encM2, FR.encB0, FR.encB1, lenO_tup, lenO_vl, intO_int, tupleO_vl, tupleO_tup, asItm_tup, asItm_vl, finV_at, finR_at, rc_ref, rc_vl, ty_tt, ty_tv, ty_ti, ty_tb, ty_ts, ty_tn, ty_td, ty_tr, ty_it, ty_iv, ty_ii, ty_ib, ty_is, ty_in, ty_id, ty_bt, ty_bv, ty_bi, ty_bb, ty_bs, ty_bn, ty_bd, ty_lt, ty_lv, ty_li, ty_lb, ty_ls, ty_ln, ty_st, ty_sv, ty_si, ty_sb, ty_ss, ty_sn])
local macro_rules | `(tactic| news_at) => `(tactic| simp only [wp_ok, wp_ex, wp_bind, wp_mC, wp_mV, wp_m1, wp_m2, wp_maN, wp_maC, wp_mL, wp_mT, wp_mTr, wp_and, wp_or, wp_not, wp_andV, wp_orV, wp_notV, wp_mIf, wp_chain, wp_sl, wp_moN, wp_moS, wp_isi, wp_isi2, wp_meth, wp_tup, wp_lst, wp_ref, wp_seq, wp_ret, wp_retN, wp_nx, wp_bk, wp_ct, wp_do, wp_set, wp_asg, wp_par, wp_par3, wp_aug, wp_ifS, wp_raise, wp_for, wp_gN, wp_gsN, wp_gsC, wp_gT, wp_gSub, wp_seqI, wp_argI, wp_lc, wp_defM, Wsq_nx, Wsq_rt, Wsq_bk, Wsq_ct, Wsq_xc, Wrt_nx, Wrt_rt, Wrt_xc, Wlp_nx, Wlp_ct, Wlp_bk, Wlp_rt, Wlp_xc, Wif_t, Wif_f, Wv_s, Wo_s, Wb_s, Wi_s, Wp2_s, Wp3_s, startE_at, wipeE, List.map_cons, List.map_nil, List.length_cons, List.length_nil, Nat.reduceAdd, Nat.reduceSub, List.reduceReplicate, List.cons_append, List.nil_append, List.set_cons_succ, List.set_cons_zero, List.getElem?_cons_succ, List.getElem?_cons_zero, decide_true, decide_false, Nat.reduceLeDiff, Nat.reduceEqDiff, Int.reduceEq, Int.reduceLT, Int.reduceLE, eq_self, Bool.not_true, Bool.not_false, Bool.or_true, Bool.true_or, Bool.or_false, Bool.false_or, Bool.and_true, Bool.true_and, Bool.and_false, Bool.false_and, addO_int, subO_int, negO_int, eqO_int, neO_int, eqO_str, neO_str, eqO_is, neO_is, eqO_si, ltO_int, leO_int, gtO_int, geO_int, ixO_tup, ixO_vl, FR.getI_0, FR.getI_1, FR.getI_2, FR.getI_3, FR.getI_4, FR.enc0, FR.enc1, FR.encM0, FR.encM1, FR.encM2, FR.encB0, FR.encB1, lenO_tup, lenO_vl, intO_int, tupleO_vl, tupleO_tup, asItm_tup, asItm_vl, finV_at, finR_at, rc_ref, rc_vl, ty_tt, ty_tv, ty_ti, ty_tb, ty_ts, ty_tn, ty_td, ty_tr, ty_it, ty_iv, ty_ii, ty_ib, ty_is, ty_in, ty_id, ty_bt, ty_bv, ty_bi, ty_bb, ty_bs, ty_bn, ty_bd, ty_lt, ty_lv, ty_li, ty_lb, ty_ls, ty_ln, ty_st, ty_sv, ty_si, ty_sb, ty_ss, ty_sn, *])
/-! machine books -/
noncomputable def over : List D → DS → Ou D := defM 2 2
    (mRet (mL share (maC (m2 mulO (m2 ixO (mV 0) (mC (.int 0))) (m2 ixO (mV 1) (mC (.int 1)))) (maC (m2 mulO (m2 ixO (mV 0) (mC (.int 1))) (m2 ixO (mV 1) (mC (.int 0)))) maN))))
noncomputable def is_year : List D → DS → Ou D := defM 2 2
    (mRet (mAndV (mL is_sized (maC (mV 1) (maC (mC (.int 3)) (maC (mC (.int 3)) maN)))) (mAndV (mL are_amounts (maC (m2 ixO (mV 1) (mC (.int 0))) (maC (mV 0) maN))) (mAndV (mL is_amount (maC (m2 ixO (mV 1) (mC (.int 1))) maN)) (mL is_amount (maC (m2 ixO (mV 1) (mC (.int 2))) maN))))))
noncomputable def is_machine : List D → DS → Ou D := defM 2 3
    (mSeq (mIfS (mOr (mNot (mT (mL is_sized (maC (mV 1) (maC (mC (.int 3)) (maC (mC (.int 3)) maN)))))) (mOr (mNot (mT (mL is_within (maC (m2 ixO (mV 1) (mC (.int 0))) (maC (mC (.int 0)) (maC (m2 subO (mV 0) (mC (.int 1))) maN)))))) (mNot (mT (mL is_sized (maC (m2 ixO (mV 1) (mC (.int 1))) (maC (mC (.int 2)) (maC (mC (.int 2)) maN))))))))
    (mRet (mC (.bl false)))
    mNx)
    (mSeq (mIfS (mOr (mNot (mT (mL are_amounts (maC (m2 ixO (m2 ixO (mV 1) (mC (.int 1))) (mC (.int 0))) (maC (mV 0) maN))))) (mNot (mT (mL is_amount (maC (m2 ixO (m2 ixO (mV 1) (mC (.int 1))) (mC (.int 1))) maN)))))
    (mRet (mC (.bl false)))
    mNx)
    (mRet (mAndV (mL is_sized (maC (m2 ixO (mV 1) (mC (.int 2))) (maC (mC (.int 1)) (maC (mC (.int 6)) maN)))) (mL allO (maC (lcM (mSeqI (m2 ixO (mV 1) (mC (.int 2)))) (gN 2) mYes (mL is_year (maC (mV 0) (maC (mV 2) maN))) [2] finV) maN))))))
noncomputable def is_machine_book : List D → DS → Ou D := defM 1 2
    (mSeq (mIfS (mOr (mNot (mT (mL is_sized (maC (mV 0) (maC (mC (.int 2)) (maC (mC (.int 2)) maN)))))) (mOr (mNot (mT (mL is_book (maC (m2 ixO (mV 0) (mC (.int 0))) maN)))) (mNot (mT (mL is_sized (maC (m2 ixO (mV 0) (mC (.int 1))) (maC (mC (.int 1)) (maC (mC (.int 4)) maN))))))))
    (mRet (mC (.bl false)))
    mNx)
    (mRet (mL allO (maC (lcM (mSeqI (m2 ixO (mV 0) (mC (.int 1)))) (gN 1) mYes (mL is_machine (maC (m2 ixO (m2 ixO (mV 0) (mC (.int 0))) (mC (.int 0))) (maC (mV 1) maN))) [1] finV) maN))))
noncomputable def check_machine_book : List D → DS → Ou D := defM 1 1
    (mIfS (mNot (mT (mL is_machine_book (maC (mV 0) maN))))
    (mRaise "NoMachineBook")
    mNx)
noncomputable def check_machine : List D → DS → Ou D := defM 2 2
    (mSeq (mDo (mL check_machine_book (maC (mV 0) maN)))
    (mIfS (mNot (mT (mL is_within (maC (mV 1) (maC (mC (.int 0)) (maC (m2 subO (mL lenO (maC (m2 ixO (mV 0) (mC (.int 1))) maN)) (mC (.int 1))) maN))))))
    (mRaise "NoMachine")
    mNx))
noncomputable def check_factor : List D → DS → Ou D := defM 1 1
    (mIfS (mOr (mNot (mT (mL is_amount (maC (mV 0) maN)))) (mT (m2 eqO (mV 0) (mC (.tup [(.int 0), (.int 1)])))))
    (mRaise "NoFactor")
    mNx)
noncomputable def lives_of : List D → DS → Ou D := defM 1 5
    (mSeq (mPar 2 3 (maC (mL refO maN) (maC (m2 ixO (mV 0) (mC (.int 2))) maN)))
    (mSeq (mFor (mArgI rng2O (maC (mC (.int 1)) (maC (m2 addO (mL lenO (maC (mV 3) maN)) (mC (.int 1))) maN))) (gN 1)
    (mIfS (mT (mL anyO (maC (lcM (mSeqI (mSl slO (mV 3) moN (moS (mV 1)))) (gN 4) mYes (m2 neO (m2 ixO (mV 4) (mC (.int 2))) (mC (.tup [(.int 0), (.int 1)]))) [4] finV) maN)))
    (mDo (mMeth .lst appendO (mV 2) (maC (mV 1) maN)))
    mNx))
    (mRet (mV 2))))
noncomputable def powers_of : List D → DS → Ou D := defM 2 4
    (mSeq (mSet 2 (mL refO (maC (mC (.tup [(.int 1), (.int 1)])) maN)))
    (mSeq (mFor (mArgI rng1O (maC (mV 1) maN)) (gN 3)
    (mDo (mMeth .lst appendO (mV 2) (maC (mL times (maC (m2 ixO (mV 2) (m1 negO (mC (.int 1)))) (maC (mV 0) maN))) maN))))
    (mRet (mV 2))))
noncomputable def raw_method : List D → DS → Ou D := defD 3 17
    (mSeq (mAsg (gT 3 (gsC (gN 10) (gsC (gN 11) (gsC (gN 12) gsN)))) (mV 0))
    (mSeq (mSet 3 (mL powers_of (maC (mV 2) (maC (mV 1) maN))))
    (mSeq (mSet 4 (m2 addO (mL lstO (maC (m2 ixO (mV 3) (mV 1)) maN)) (lcM (mArgI rng1O (maC (mV 1) maN)) (gN 13) mYes (m2 ixO (mV 3) (m2 subO (m2 subO (mV 1) (mC (.int 1))) (mV 13))) [13] finV)))
    (mSeq (mSet 5 (m2 addO (mL lstO (maC (mV 11) maN)) (lcM (mSeqI (mSl slO (mV 12) moN (moS (mV 1)))) (gN 14) mYes (mSl slO (mV 14) moN (moS (mC (.int 2)))) [14] finV)))
    (mSeq (mSet 6 (mL summed (maC (lcM (mArgI zipO (maC (mSl slO (mV 4) (moS (mC (.int 1))) moN) (maC (mV 12) maN))) (gT 2 (gsC (gN 15) (gsC (gN 14) gsN))) mYes (mL times (maC (mV 15) (maC (m2 ixO (mV 14) (mC (.int 2))) maN))) [15, 14] finV) maN)))
    (mSeq (mSet 7 (mL refO maN))
    (mSeq (mFor (mArgI rng1O (maC (mL lenO (maC (m2 ixO (mV 11) (mC (.int 0))) maN)) maN)) (gN 8)
    (mDo (mMeth .lst appendO (mV 7) (maC (mL over (maC (mL summed (maC (lcM (mArgI zipO (maC (mV 4) (maC (mV 5) maN))) (gT 2 (gsC (gN 15) (gsC (gN 16) gsN))) mYes (mL times (maC (mV 15) (maC (m2 ixO (m2 ixO (mV 16) (mC (.int 0))) (mV 8)) maN))) [15, 16] finV) maN)) (maC (mV 6) maN))) maN))))
    (mSeq (mSet 9 (mL over (maC (mL summed (maC (lcM (mArgI zipO (maC (mV 4) (maC (mV 5) maN))) (gT 2 (gsC (gN 15) (gsC (gN 16) gsN))) mYes (mL times (maC (mV 15) (maC (m2 ixO (mV 16) (mC (.int 1))) maN))) [15, 16] finV) maN)) (maC (mV 6) maN))))
    (mRet (mL tupO (maC (mV 10) (maC (mL tupleO (maC (mV 7) maN)) (maC (mV 9) maN)))))))))))))
noncomputable def check_life : List D → DS → Ou D := defD 3 4
    (mSeq (mSet 3 (m2 ixO (m2 ixO (mV 0) (mC (.int 1))) (mV 1)))
    (mIfS (mOr (mNot (mT (mL is_within (maC (mV 2) (maC (mC (.int 1)) (maC (mL lenO (maC (m2 ixO (mV 3) (mC (.int 2))) maN)) maN)))))) (mT (m2 ninS (mV 2) (mL lives_of (maC (mV 3) maN)))))
    (mRaise "NoLife")
    mNx))
noncomputable def life_method : List D → DS → Ou D := defM 4 4
    (mSeq (mDo (mL check_machine (maC (mV 0) (maC (mV 1) maN))))
    (mSeq (mDo (mL check_life (maC (mV 0) (maC (mV 1) (maC (mV 2) maN)))))
    (mSeq (mDo (mL check_factor (maC (mV 3) maN)))
    (mRet (mL raw_method (maC (m2 ixO (m2 ixO (mV 0) (mC (.int 1))) (mV 1)) (maC (mV 2) (maC (mV 3) maN))))))))
theorem tf {b : Bool} {p : Prop} (h1 : b = true) (h2 : b = false) : p := by
  rw [h1] at h2
  cases h2
/-! parts by parts -/
theorem num_pos {q : Rat} (h : 0 < q) : 0 < q.num := by
  have h0 := Rat.num_nonneg.mpr (Rat.le_of_lt h)
  have : q.num ≠ 0 := fun e => by
    have e2 := Rat.num_eq_zero.mp e
    rw [e2] at h
    exact absurd h (by decide)
  omega
theorem inv_num {q : Rat} (h : 0 < q) : (q⁻¹).num = q.den ∧ (q⁻¹).den = q.num.natAbs := by
  have hn : 0 < q.num := num_pos h
  rw [Rat.num_inv, Rat.den_inv]
  constructor
  · rw [Int.sign_eq_one_of_pos hn]
    omega
  · rw [if_neg (by omega)]
theorem Bd.inv {k : Nat} {q : Rat} (h : Bd k q) (hq : 0 < q) : Bd k q⁻¹ := by
  obtain ⟨e1, e2⟩ := inv_num hq
  exact ⟨by rw [e1, Int.natAbs_natCast]; exact h.d, by rw [e2]; exact h.n⟩
section
variable {p q : Rat} {S : DS} {Q : D → DS → Prop} {X : Exn → DS → Prop}
theorem over_args (hq : 0 < q) (h : Two p q⁻¹) (S : DS) : mulO (.int p.num) (.int (q.den : Nat)) S = .ok (.int (p.num * (q⁻¹).num)) S ∧ mulO (.int (p.den : Nat)) (.int q.num) S = .ok (.int ((p.den * (q⁻¹).den : Nat) : Int)) S := by
  obtain ⟨e1, e2⟩ := inv_num hq
  have hn : 0 < q.num := num_pos hq
  constructor
  · have := m_nn S h
    rw [e1] at this ⊢
    exact this
  · have := m_dd S h
    rw [e2] at this ⊢
    have ec : ((q.num.natAbs : Nat) : Int) = q.num := by omega
    rw [ec] at this
    exact this
theorem over_w (hq : 0 < q) (h : Two p q⁻¹) (k : Q (enc (p / q)) S) : Wp (over [enc p, enc q] S) Q X := by
  obtain ⟨a1, a2⟩ := over_args hq h S
  unfold over
  items_go
  rw [a1]
  items_go
  rw [a2]
  items_go
  rw [share_ok S (Nat.mul_pos (den_pos _) (den_pos _)) (div_times h), ← mul_mk, ← Rat.div_def]
  items_go
  exact k
theorem lover_w {lw : List D → DS → Ou D} (L : LowW lw) (hq : 0 < q) (h : Two p q⁻¹) (k : Q (enc (p / q)) S) : Wp (overOf lw [enc p, enc q] S) Q X := by
  obtain ⟨a1, a2⟩ := over_args hq h S
  unfold overOf
  items_go
  rw [a1]
  items_go
  rw [a2]
  items_go
  rw [Rat.div_def, mul_mk] at k
  exact L (t := p.num * (q⁻¹).num) (b := p.den * (q⁻¹).den) S (Nat.mul_pos (den_pos _) (den_pos _)) (div_times h) (Q := Q) (X := X) k
end
/-! the things -/
structure Yr where
  u : List Rat
  w : Rat
  o : Rat
structure Mc where
  g : Nat
  bu : List Rat
  bw : Rat
  ys : List Yr
def encY (y : Yr) : D := .tup [encR y.u, enc y.w, enc y.o]
def encC (m : Mc) : D := .tup [.int (m.g : Nat), .tup [encR m.bu, enc m.bw], .tup (m.ys.map encY)]
def encMB (n : Nat) (ms : List Meth) (cs : List Mc) : D := .tup [encB n ms, .tup (cs.map encC)]
structure Yk (n : Nat) (y : Yr) : Prop where
  u : Am 61 n y.u
  w : Dq y.w
  o : Dq y.o
structure Mk (n : Nat) (m : Mc) : Prop where
  g : m.g < n
  bu : Am 61 n m.bu
  bw : Dq m.bw
  y0 : 1 ≤ m.ys.length
  y1 : m.ys.length ≤ 3
  ys : ∀ y ∈ m.ys, Yk n y
structure MBk (n : Nat) (ms : List Meth) (cs : List Mc) : Prop where
  b : Bk 61 n ms
  l0 : 1 ≤ cs.length
  l1 : cs.length ≤ 4
  m : ∀ m ∈ cs, Mk n m
def yrB (g : Int) : D → Bool
  | .tup [a, b, c] => amsB g a && (amB b && amB c)
  | _ => false
def mcB (g : Int) : D → Bool
  | .tup [a, .tup [b, c], .tup ys] => wiB 0 (g - 1) a && (amsB g b && (amB c && (szB 1 6 (.tup ys) && ys.all (yrB g))))
  | _ => false
def mbB : D → Bool
  | .tup [.tup [.int g, .tup ms], .tup cs] => bkB (.tup [.int g, .tup ms]) && (szB 1 4 (.tup cs) && cs.all (mcB g))
  | _ => false
theorem yrB_t (g : Int) (a b c : D) : yrB g (.tup [a, b, c]) = (amsB g a && (amB b && amB c)) := rfl
theorem mcB_t (g : Int) (a b c : D) (ys : List D) : mcB g (.tup [a, .tup [b, c], .tup ys]) = (wiB 0 (g - 1) a && (amsB g b && (amB c && (szB 1 6 (.tup ys) && ys.all (yrB g))))) := rfl
theorem mbB_t (g : Int) (ms cs : List D) : mbB (.tup [.tup [.int g, .tup ms], .tup cs]) = (bkB (.tup [.int g, .tup ms]) && (szB 1 4 (.tup cs) && cs.all (mcB g))) := rfl
theorem bk_shape {b : D} (h : bkB b = true) : ∃ g ms, b = .tup [.int g, .tup ms] ∧ ms.length ≤ 20 ∧ g ≤ 6 := by
  unfold bkB at h
  split at h
  · rename_i g ms
    simp only [Bool.and_eq_true, decide_eq_true_eq] at h
    exact ⟨g, ms, rfl, h.2.1.2, h.1.2⟩
  · cases h
theorem sz_le {lo hi : Int} {xs : List D} (h : szB lo hi (.tup xs) = true) : lo ≤ xs.length ∧ (xs.length : Int) ≤ hi := by
  rw [szB_t] at h
  simpa only [Bool.and_eq_true, decide_eq_true_eq] using h
section
variable {S : DS} {Q : D → DS → Prop} {X : Exn → DS → Prop} {d : D}
theorem year_jw {g : Int} (hg : g ≤ 9000) (hp : pl d = true) (k : Q (.bl (yrB g d)) S) : Wp (is_year [.int g, d] S) Q X := by
  unfold is_year
  items_go
  refine sized_w hp ?_
  cases d with
  | tup xs =>
    by_cases hl : xs.length = 3
    · obtain ⟨a, b, c, rfl⟩ := three_of hl
      have e3 : szB 3 3 (.tup [a, b, c]) = true := szB_y (n := 3) hl
      simp only [pl, pls, Bool.and_eq_true] at hp
      rw [yrB_t] at k
      rw [e3]
      items_go
      refine amounts_jw hg hp.1 ?_
      cases ha : amsB g a with
      | false =>
        rw [ha] at k
        exact k
      | true =>
        rw [ha, Bool.true_and] at k
        items_go
        refine amount_jw hp.2.1 ?_
        cases hb : amB b with
        | false =>
          rw [hb] at k
          exact k
        | true =>
          rw [hb, Bool.true_and] at k
          items_go
          exact amount_jw hp.2.2.1 k
    · have e3 : szB 3 3 (.tup xs) = false := szB_n (n := 3) hl
      have e : yrB g (.tup xs) = false := by
        unfold yrB
        split
        · rename_i h
          cases h
          exact absurd rfl hl
        · rfl
      rw [e] at k
      rw [e3]
      items_go
      exact k
  | _ => exact k
theorem machine_jw {g : Int} (hg : g ≤ 9000) (hp : pl d = true) (k : Q (.bl (mcB g d)) S) : Wp (is_machine [.int g, d] S) Q X := by
  unfold is_machine
  items_go
  refine sized_w hp ?_
  cases d with
  | tup xs =>
    by_cases hl : xs.length = 3
    · obtain ⟨a, b, c, rfl⟩ := three_of hl
      have e3 : szB 3 3 (.tup [a, b, c]) = true := szB_y (n := 3) hl
      simp only [pl, pls, Bool.and_eq_true] at hp
      rw [e3]
      items_go
      refine within_w hp.1 ?_
      have nf : ∀ r, (∀ (x y : D) (ys : List D), .tup [a, b, c] ≠ D.tup [a, .tup [x, y], .tup ys]) → mcB g (.tup [a, b, c]) = r → r = false := fun r h e => by
        rw [← e]
        unfold mcB
        split
        · rename_i e2
          cases e2
          exact absurd rfl (h _ _ _)
        · rfl
      cases ha : wiB 0 (g - 1) a with
      | false =>
        have e : mcB g (.tup [a, b, c]) = false := by
          unfold mcB
          split
          · rename_i e2
            cases e2
            rw [ha]; rfl
          · rfl
        rw [e] at k
        items_go
        exact k
      | true =>
        items_go
        refine sized_w hp.2.1 ?_
        cases b with
        | tup bs =>
          by_cases hb : bs.length = 2
          · obtain ⟨x, y, rfl⟩ := two_of hb
            have e2 : szB 2 2 (.tup [x, y]) = true := szB_y (n := 2) hb
            rw [e2]
            items_go
            have hpb := hp.2.1
            simp only [pl, pls, Bool.and_eq_true] at hpb
            refine amounts_jw hg hpb.1 ?_
            cases hx : amsB g x with
            | false =>
              have e : mcB g (.tup [a, .tup [x, y], c]) = false := by
                unfold mcB
                split
                · rename_i e2
                  cases e2
                  rw [ha, hx]; rfl
                · rfl
              rw [e] at k
              items_go
              exact k
            | true =>
              items_go
              refine amount_jw hpb.2.1 ?_
              cases hy : amB y with
              | false =>
                have e : mcB g (.tup [a, .tup [x, y], c]) = false := by
                  unfold mcB
                  split
                  · rename_i e2
                    cases e2
                    rw [ha, hx, hy]; rfl
                  · rfl
                rw [e] at k
                items_go
                exact k
              | true =>
                items_go
                refine sized_w hp.2.2.1 ?_
                cases c with
                | tup ys =>
                  rw [mcB_t, ha, hx, hy, Bool.true_and, Bool.true_and, Bool.true_and] at k
                  cases hz : szB 1 6 (.tup ys) with
                  | false =>
                    rw [hz, Bool.false_and] at k
                    items_go
                    exact k
                  | true =>
                    rw [hz, Bool.true_and] at k
                    items_go
                    have := sz_le hz
                    refine wlc_map (fun x => D.bl (yrB g x)) (fun x => x) (List.map_id' ys).symm (by omega) (fun x hx => ?_) ?_
                    · unfold Wce
                      items_go
                      exact year_jw hg (pls_mem hp.2.2.1 x hx) ⟨rfl, rfl⟩
                    · items_go
                      exact all_w (yrB g) ys k
                | _ => exact k
          · have e2 : szB 2 2 (.tup bs) = false := szB_n (n := 2) hb
            have e : mcB g (.tup [a, .tup bs, c]) = false := by
              unfold mcB
              split
              · rename_i e2
                cases e2
                exact absurd rfl hb
              · rfl
            rw [e] at k
            rw [e2]
            items_go
            exact k
        | _ => exact k
    · have e3 : szB 3 3 (.tup xs) = false := szB_n (n := 3) hl
      have e : mcB g (.tup xs) = false := by
        unfold mcB
        split
        · rename_i h
          cases h
          exact absurd rfl hl
        · rfl
      rw [e] at k
      rw [e3]
      items_go
      exact k
  | _ => exact k
theorem mbook_jw (hp : pl d = true) (k : Q (.bl (mbB d)) S) : Wp (is_machine_book [d] S) Q X := by
  unfold is_machine_book
  items_go
  refine sized_w hp ?_
  cases d with
  | tup xs =>
    by_cases hl : xs.length = 2
    · obtain ⟨a, b, rfl⟩ := two_of hl
      have e2 : szB 2 2 (.tup [a, b]) = true := szB_y (n := 2) hl
      simp only [pl, pls, Bool.and_eq_true] at hp
      rw [e2]
      items_go
      refine book_jw hp.1 ?_
      cases ha : bkB a with
      | false =>
        have e : mbB (.tup [a, b]) = false := by
          unfold mbB
          split
          · rename_i e2
            cases e2
            rw [ha]; rfl
          · rfl
        rw [e] at k
        items_go
        exact k
      | true =>
        obtain ⟨g, ms, rfl, hms, hg⟩ := bk_shape ha
        items_go
        refine sized_w hp.2.1 ?_
        cases b with
        | tup cs =>
          rw [mbB_t, ha, Bool.true_and] at k
          cases hz : szB 1 4 (.tup cs) with
          | false =>
            rw [hz, Bool.false_and] at k
            items_go
            exact k
          | true =>
            rw [hz, Bool.true_and] at k
            items_go
            have := sz_le hz
            refine wlc_map (fun x => D.bl (mcB g x)) (fun x => x) (List.map_id' cs).symm (by omega) (fun x hx => ?_) ?_
            · unfold Wce
              items_go
              exact machine_jw (by omega) (pls_mem hp.2.1 x hx) ⟨rfl, rfl⟩
            · items_go
              exact all_w (mcB g) cs k
        | _ => exact k
    · have e3 : szB 2 2 (.tup xs) = false := szB_n (n := 2) hl
      have e : mbB (.tup xs) = false := by
        unfold mbB
        split
        · rename_i h
          cases h
          exact absurd rfl hl
        · rfl
      rw [e] at k
      rw [e3]
      items_go
      exact k
  | _ => exact k
theorem check_book_w (hp : pl d = true) (k : mbB d = true → Q .non S) (e : mbB d = false → X ⟨"NoMachineBook", []⟩ S) : Wp (check_machine_book [d] S) Q X := by
  unfold check_machine_book
  items_go
  refine mbook_jw hp ?_
  cases h : mbB d with
  | true =>
    items_go
    exact k h
  | false =>
    items_go
    exact e h
end
/-! right ones -/
theorem pl_encY (y : Yr) : pl (encY y) = true := by
  show (pl (encR y.u) && (true && (true && true))) = true
  rw [pl_encR]
  rfl
theorem pl_encC (m : Mc) : pl (encC m) = true := by
  show (true && ((pl (encR m.bu) && (true && true)) && (pls (m.ys.map encY) && true))) = true
  rw [pl_encR, pls_of fun x hx => by
    obtain ⟨y, _, rfl⟩ := List.mem_map.mp hx
    exact pl_encY y]
  rfl
theorem pl_encMB (n : Nat) (ms : List Meth) (cs : List Mc) : pl (encMB n ms cs) = true := by
  show (pl (encB n ms) && (pls (cs.map encC) && true)) = true
  rw [pl_encB, pls_of fun x hx => by
    obtain ⟨y, _, rfl⟩ := List.mem_map.mp hx
    exact pl_encC y]
  rfl
theorem Yk.j {n : Nat} {y : Yr} (h : Yk n y) : yrB n (encY y) = true := by
  show (amsB n (encR y.u) && (amB (enc y.w) && amB (enc y.o))) = true
  rw [ams_enc h.u, am_enc h.w.1, am_enc h.o.1]
  rfl
theorem Mk.j {n : Nat} {m : Mc} (h : Mk n m) : mcB n (encC m) = true := by
  have h0 := h.y0
  have h1 := h.y1
  have hg := h.g
  show (wiB 0 ((n : Int) - 1) (.int (m.g : Nat)) && (amsB n (encR m.bu) && (amB (enc m.bw) && (szB 1 6 (.tup (m.ys.map encY)) && (m.ys.map encY).all (yrB n))))) = true
  have e1 : wiB 0 ((n : Int) - 1) (.int (m.g : Nat)) = true := by
    rw [wiB_i, decide_eq_true (show (0 : Int) ≤ (m.g : Nat) by omega), decide_eq_true (show ((m.g : Nat) : Int) ≤ (n : Int) - 1 by omega)]
    rfl
  have e2 : szB 1 6 (.tup (m.ys.map encY)) = true := by
    rw [szB_t, List.length_map, decide_eq_true (show (1 : Int) ≤ (m.ys.length : Int) by omega), decide_eq_true (show (m.ys.length : Int) ≤ 6 by omega)]
    rfl
  rw [e1, e2, ams_enc h.bu, am_enc h.bw.1, List.all_map]
  simp only [Bool.true_and, List.all_eq_true]
  exact fun y hy => (h.ys y hy).j
theorem MBk.j {n : Nat} {ms : List Meth} {cs : List Mc} (h : MBk n ms cs) : mbB (encMB n ms cs) = true := by
  have h0 := h.l0
  have h1 := h.l1
  show (bkB (encB n ms) && (szB 1 4 (.tup (cs.map encC)) && (cs.map encC).all (mcB (n : Nat)))) = true
  have e2 : szB 1 4 (.tup (cs.map encC)) = true := by
    rw [szB_t, List.length_map, decide_eq_true (show (1 : Int) ≤ (cs.length : Int) by omega), decide_eq_true (show (cs.length : Int) ≤ 4 by omega)]
    rfl
  rw [bk_enc h.b, e2, List.all_map]
  simp only [Bool.true_and, List.all_eq_true]
  exact fun m hm => (h.m m hm).j
end MB

namespace MB
open PySem PySem.Spec PyProof.Rows L2 DL FR HN FB FJ FW
local macro_rules | `(tactic| items_go) => `(tactic| simp only [wp_ok, wp_ex, wp_bind, wp_mC, wp_mV, wp_m1, wp_m2, wp_maN, wp_maC, wp_mL, wp_mT, wp_mTr, wp_and, wp_or, wp_not, wp_andV, wp_orV, wp_notV, wp_mIf, wp_chain, wp_sl, wp_moN, wp_moS, wp_isi, wp_isi2, wp_meth, wp_tup, wp_lst, wp_ref, wp_seq, wp_ret, wp_retN, wp_nx, wp_bk, wp_ct, wp_do, wp_set, wp_asg, wp_par, wp_par3, wp_aug, wp_ifS, wp_raise, wp_for, wp_gN, wp_gsN, wp_gsC, wp_gT, wp_gSub, wp_seqI, wp_argI, wp_lc, wp_defM, Wsq_nx, Wsq_rt, Wsq_bk, Wsq_ct, Wsq_xc, Wrt_nx, Wrt_rt, Wrt_xc, Wlp_nx, Wlp_ct, Wlp_bk, Wlp_rt, Wlp_xc, Wif_t, Wif_f, Wv_s, Wo_s, Wb_s, Wi_s, Wp2_s, Wp3_s, startE_at, wipeE, List.map_cons, List.map_nil, List.length_cons, List.length_nil, Nat.reduceAdd, Nat.reduceSub, List.reduceReplicate, List.cons_append, List.nil_append, List.set_cons_succ, List.set_cons_zero, List.getElem?_cons_succ, List.getElem?_cons_zero, decide_true, decide_false, Nat.reduceLeDiff, Nat.reduceEqDiff, Int.reduceEq, Int.reduceLT, Int.reduceLE, eq_self, Bool.not_true, Bool.not_false, Bool.or_true, Bool.true_or, Bool.or_false, Bool.false_or, Bool.and_true, Bool.true_and, Bool.and_false, Bool.false_and, addO_int, subO_int, negO_int, eqO_int, neO_int, eqO_str, neO_str, eqO_is, neO_is, eqO_si, ltO_int, leO_int, gtO_int, geO_int, ixO_tup, ixO_vl, FR.getI_0, FR.getI_1, FR.getI_2, FR.getI_3, FR.getI_4, FR.enc0, FR.enc1, FR.encM0, FR.encM1, FR.encM2, FR.encB0, FR.encB1, lenO_tup, lenO_vl, intO_int, tupleO_vl, tupleO_tup, asItm_tup, asItm_vl, finV_at, finR_at, rc_ref, rc_vl, ty_tt, ty_tv, ty_ti, ty_tb, ty_ts, ty_tn, ty_td, ty_tr, ty_it, ty_iv, ty_ii, ty_ib, ty_is, ty_in, ty_id, ty_bt, ty_bv, ty_bi, ty_bb, ty_bs, ty_bn, ty_bd, ty_lt, ty_lv, ty_li, ty_lb, ty_ls, ty_ln, ty_st, ty_sv, ty_si, ty_sb, ty_ss, ty_sn])
local macro_rules | `(tactic| news_at) => `(tactic| simp only [wp_ok, wp_ex, wp_bind, wp_mC, wp_mV, wp_m1, wp_m2, wp_maN, wp_maC, wp_mL, wp_mT, wp_mTr, wp_and, wp_or, wp_not, wp_andV, wp_orV, wp_notV, wp_mIf, wp_chain, wp_sl, wp_moN, wp_moS, wp_isi, wp_isi2, wp_meth, wp_tup, wp_lst, wp_ref, wp_seq, wp_ret, wp_retN, wp_nx, wp_bk, wp_ct, wp_do, wp_set, wp_asg, wp_par, wp_par3, wp_aug, wp_ifS, wp_raise, wp_for, wp_gN, wp_gsN, wp_gsC, wp_gT, wp_gSub, wp_seqI, wp_argI, wp_lc, wp_defM, Wsq_nx, Wsq_rt, Wsq_bk, Wsq_ct, Wsq_xc, Wrt_nx, Wrt_rt, Wrt_xc, Wlp_nx, Wlp_ct, Wlp_bk, Wlp_rt, Wlp_xc, Wif_t, Wif_f, Wv_s, Wo_s, Wb_s, Wi_s, Wp2_s, Wp3_s, startE_at, wipeE, List.map_cons, List.map_nil, List.length_cons, List.length_nil, Nat.reduceAdd, Nat.reduceSub, List.reduceReplicate, List.cons_append, List.nil_append, List.set_cons_succ, List.set_cons_zero, List.getElem?_cons_succ, List.getElem?_cons_zero, decide_true, decide_false, Nat.reduceLeDiff, Nat.reduceEqDiff, Int.reduceEq, Int.reduceLT, Int.reduceLE, eq_self, Bool.not_true, Bool.not_false, Bool.or_true, Bool.true_or, Bool.or_false, Bool.false_or, Bool.and_true, Bool.true_and, Bool.and_false, Bool.false_and, addO_int, subO_int, negO_int, eqO_int, neO_int, eqO_str, neO_str, eqO_is, neO_is, eqO_si, ltO_int, leO_int, gtO_int, geO_int, ixO_tup, ixO_vl, FR.getI_0, FR.getI_1, FR.getI_2, FR.getI_3, FR.getI_4, FR.enc0, FR.enc1, FR.encM0, FR.encM1, FR.encM2, FR.encB0, FR.encB1, lenO_tup, lenO_vl, intO_int, tupleO_vl, tupleO_tup, asItm_tup, asItm_vl, finV_at, finR_at, rc_ref, rc_vl, ty_tt, ty_tv, ty_ti, ty_tb, ty_ts, ty_tn, ty_td, ty_tr, ty_it, ty_iv, ty_ii, ty_ib, ty_is, ty_in, ty_id, ty_bt, ty_bv, ty_bi, ty_bb, ty_bs, ty_bn, ty_bd, ty_lt, ty_lv, ty_li, ty_lb, ty_ls, ty_ln, ty_st, ty_sv, ty_si, ty_sb, ty_ss, ty_sn, *])
theorem Bd.pow {k : Nat} {g : Rat} (h : Bd k g) : ∀ i : Nat, Bd (k * i + 1) (g ^ i)
  | 0 => by
    rw [Rat.pow_zero]
    exact bd1 (by omega)
  | i + 1 => by
    rw [Rat.pow_succ]
    exact ((Bd.pow h i).mul h).mono (by rw [Nat.mul_succ]; omega)
theorem pow_pos' {g : Rat} (h : 0 < g) : ∀ i : Nat, 0 < g ^ i
  | 0 => by rw [Rat.pow_zero]; decide
  | i + 1 => by
    rw [Rat.pow_succ]
    exact Rat.mul_pos (pow_pos' h i) h
section
variable {S : DS} {Q : D → DS → Prop} {X : Exn → DS → Prop}
theorem ixR_w {p n : Nat} {xs : List D} {j : Int} {x : D} (h : S[p]? = some (DO.lst xs)) (hj : j = (n : Int)) (hx : xs[n]? = some x) (k : Q x S) : Wp (ixO (.ref p) (.int j) S) Q X := by
  have e : ixO (.ref p) (.int j) S = getI xs j S := by
    show (match S[p]? with
      | some (DO.lst xs) => getI xs j S
      | none => .no) = _
    rw [h]
  rw [e]
  exact ixT_w hj hx k
theorem ixR_last {p : Nat} {xs : List D} {x : D} (h : S[p]? = some (DO.lst (xs ++ [x]))) (k : Q x S) : Wp (ixO (.ref p) (.int (-1)) S) Q X := by
  have e : ixO (.ref p) (.int (-1)) S = getI (xs ++ [x]) (-1) S := by
    show (match S[p]? with
      | some (DO.lst xs) => getI xs (-1) S
      | none => .no) = _
    rw [h]
  rw [e, getI_neg (d := x) (by decide) (by simp; omega) (by
    have : (-1 + ((xs ++ [x]).length : Int)).toNat = xs.length := by simp; omega
    rw [this]
    simp), wp_ok]
  exact k
theorem slHiV {xs : List D} {j : Int} {n : Nat} (hj : j = (n : Int)) (k : Q (.vl (xs.drop n)) S) : Wp (slO (.vl xs) (some j) none S) Q X := by
  subst hj
  show Wp (.ok (.vl (cutD xs (some (n : Int)) none)) S) Q X
  rw [cut_hi, wp_ok]
  exact k
theorem slLoR {p : Nat} {xs : List D} {j : Int} {n : Nat} (h : S[p]? = some (DO.lst xs)) (hj : j = (n : Int)) (k : Q (.vl (xs.take n)) S) : Wp (slO (.ref p) none (some j) S) Q X := by
  subst hj
  have e : slO (.ref p) none (some (n : Int)) S = .ok (.vl (cutD xs none (some (n : Int)))) S := by
    show (match S[p]? with
      | some (DO.lst xs) => Ou.ok (D.vl (cutD xs none (some (n : Int)))) S
      | none => .no) = _
    rw [h]
  rw [e, cut_lo, wp_ok]
  exact k
theorem toPys_ints : ∀ ls : List Nat, toPys (ls.map fun l : Nat => D.int (l : Int)) = some (ls.map fun l : Nat => PyData.int (l : Int))
  | [] => rfl
  | l :: ls => by
    rw [List.map_cons, toPys, toPys_ints ls]
    rfl
theorem ninS_w {p l : Nat} {ls : List Nat} (h : S[p]? = some (DO.lst (ls.map fun l : Nat => D.int (l : Int)))) (hl : l < 1000) (hs : ∀ x ∈ ls, x < 1000) (k : Q (.bl (!decide (l ∈ ls))) S) : Wp (ninS (.int (l : Int)) (.ref p) S) Q X := by
  have o1 : okD 3 (.int (l : Int)) = true := by
    show decide ((l : Int).natAbs < 10 ^ 3) = true
    exact decide_eq_true (by omega)
  have o2 : okD 3 (.vl (ls.map fun l : Nat => D.int (l : Int))) = true := by
    show okDs 3 (ls.map fun l : Nat => D.int (l : Int)) = true
    exact okDs_map 3 (fun l : Nat => D.int (l : Int)) ls fun x hx => by
      show decide ((x : Int).natAbs < 10 ^ 3) = true
      have := hs x hx
      exact decide_eq_true (by omega)
  have s1 := shaped_of (ok_py (by decide) o1) (Nat.zero_le _)
  have s2 := shaped_of (ok_py (k := 3) (by decide) o2) (Nat.le_trans (Nat.succ_le_succ (deps_map 0 (fun l : Nat => D.int (l : Int)) ls fun _ _ => Nat.le_refl _)) (show 1 ≤ 64 by decide))
  have e2 : toPyS S (.ref p) = some (.list (ls.map fun l : Nat => PyData.int (l : Int))) := by
    unfold toPyS
    simp only [h, toPys_ints]
    rfl
  have p2 : pyD (.vl (ls.map fun l : Nat => D.int (l : Int))) = .list (ls.map fun l : Nat => PyData.int (l : Int)) := by
    have q := (ok_py (k := 3) (by decide) o2).py
    rw [toPy, toPys_ints] at q
    simpa using q.symm
  rw [p2] at s2
  have e3 : (ls.map fun l : Nat => PyData.int (l : Int)).any (fun z => PyData.eqv z (.int (l : Int))) = decide (l ∈ ls) := by
    clear h k o2 s2 e2 p2 hs
    induction ls with
    | nil => rfl
    | cons a ls ih =>
      rw [List.map_cons, List.any_cons, ih]
      have : PyData.eqv (.int (a : Int)) (.int (l : Int)) = decide (l = a) := by
        show ((a : Int) == (l : Int)) = _
        rw [Bool.eq_iff_iff]
        simp
        omega
      rw [this]
      simp [Bool.decide_or]
  have e : ninS (.int (l : Int)) (.ref p) S = .ok (.bl (!decide (l ∈ ls))) S := by
    have : inSD S (.int (l : Int)) (.ref p) = some (decide (l ∈ ls)) := by
      unfold inSD
      rw [e2]
      show (if SeqAt.shaped (.int (l : Int)) = true ∧ SeqAt.shaped (.list (ls.map fun l : Nat => PyData.int (l : Int))) = true then some ((ls.map fun l : Nat => PyData.int (l : Int)).any fun z => PyData.eqv z (.int (l : Int))) else none) = _
      rw [if_pos ⟨s1, s2⟩, e3]
    unfold ninS
    rw [this]
  rw [e, wp_ok]
  exact k
/-! powers -/
def pows (g : Rat) (k : Nat) : List Rat := (List.range k).map fun i => g ^ i
theorem pows_succ (g : Rat) (k : Nat) : pows g (k + 1) = pows g k ++ [g ^ k] := by
  unfold pows
  rw [List.range_succ, List.map_append]
  rfl
theorem powers_w {g : Rat} (hg : Bd 61 g) {many : Nat} (hm : many ≤ 6) {j : Int} (hj : j = (many : Int)) (k : Q (.ref S.length) (S ++ [.lst ((pows g (many + 1)).map enc)])) : Wp (powers_of [enc g, .int j] S) Q X := by
  subst hj
  unfold powers_of
  items_go
  rw [rng_w (m := many) rfl (by omega)]
  items_go
  refine wforA (fun (i : Nat) => D.int (i : Int)) (fun i env S1 => ∃ x3, env = [some (enc g), some (.int (many : Int)), some (.ref S.length), x3] ∧ S1 = S ++ [.lst ((pows g (i + 1)).map enc)]) rfl ⟨none, rfl, ?_⟩ ?_ ?_
  · have : pows g (0 + 1) = [1] := by simp [pows, Rat.pow_zero]
    rw [this]
    rfl
  · rintro i a ha env S1 ⟨x3, rfl, rfl⟩
    have hi : i < many := by
      have := (List.getElem?_eq_some_iff.mp ha).1
      simpa using this
    items_go
    refine ixR_last (xs := (pows g i).map enc) (x := enc (g ^ i)) (by rw [pows_succ]; simp) ?_
    items_go
    have hb : 61 * i + 1 ≤ 400000 := by omega
    rw [times_ok _ (two_r (Bd.pow hg i) hg hb (by decide))]
    items_go
    refine append_w (ys := (pows g (i + 1)).map enc) (by simp) (by simp [pows]; omega) ?_
    items_go
    refine ⟨_, rfl, ?_⟩
    rw [pows_succ g (i + 1), List.map_append, Rat.pow_succ]
    simp
  · rintro env S1 ⟨x3, rfl, rfl⟩
    rw [List.length_range]
    items_go
    exact k
/-! lives -/
def liveB (ys : List Yr) (l : Nat) : Bool := (ys.take l).any fun y => !decide (y.o = 0)
def livesU (ys : List Yr) (k : Nat) : List Nat := ((List.range k).map (· + 1)).filter (liveB ys)
def livesN (ys : List Yr) : List Nat := livesU ys ys.length
theorem livesU_succ (ys : List Yr) (k : Nat) : livesU ys (k + 1) = livesU ys k ++ if liveB ys (k + 1) = true then [k + 1] else [] := by
  unfold livesU
  rw [List.range_succ, List.map_append, List.filter_append]
  congr 1
  rw [List.map_cons, List.map_nil, List.filter_cons, List.filter_nil]
theorem lives_len (ys : List Yr) (k : Nat) : (livesU ys k).length ≤ k := by
  unfold livesU
  refine Nat.le_trans (List.length_filter_le _ _) (by simp)
theorem lives_mem {ys : List Yr} {l : Nat} (h : l ∈ livesN ys) : 1 ≤ l ∧ l ≤ ys.length ∧ liveB ys l = true := by
  unfold livesN livesU at h
  obtain ⟨h1, h2⟩ := List.mem_filter.mp h
  obtain ⟨i, hi, rfl⟩ := List.mem_map.mp h1
  have := List.mem_range.mp hi
  exact ⟨by omega, by omega, h2⟩
theorem rng2_w {lo : Int} {hi : Int} {m : Nat} (h : hi = 1 + (m : Int)) (hlo : lo = 1) (hm : m ≤ 1000) (S : DS) : rng2O [.int lo, .int hi] S = .ok ⟨(List.range m).map fun (i : Nat) => D.int (1 + (i : Int)), none⟩ S := by
  subst h hlo
  unfold rng2O
  simp only
  rw [if_pos ⟨by decide, by decide, by omega, by omega⟩]
  have : (1 + (m : Int) - 1).toNat = m := by omega
  rw [this]
  rfl
theorem lives_w {n : Nat} {m : Mc} (M : Mk n m) (k : Q (.ref S.length) (S ++ [.lst ((livesN m.ys).map fun l : Nat => D.int (l : Int))])) : Wp (lives_of [encC m] S) Q X := by
  have y1 := M.y1
  unfold lives_of encC
  items_go
  rw [rng2_w (m := m.ys.length) (by rw [List.length_map]; omega) rfl (by omega)]
  items_go
  refine wforA (fun (i : Nat) => D.int (1 + (i : Int))) (fun i env S1 => ∃ x1, env = [some (encC m), x1, some (.ref S.length), some (.tup (m.ys.map encY)), none] ∧ S1 = S ++ [.lst ((livesU m.ys i).map fun l : Nat => D.int (l : Int))]) rfl ⟨none, rfl, rfl⟩ ?_ ?_
  · rintro i a ha env S1 ⟨x1, rfl, rfl⟩
    have hi : i < m.ys.length := by
      have := (List.getElem?_eq_some_iff.mp ha).1
      simpa using this
    rw [List.getElem?_range hi] at ha
    cases ha
    items_go
    refine slLo (n := i + 1) (by omega) ?_
    rw [← List.map_take]
    items_go
    refine wlc_map (fun y : Yr => D.bl (!decide (y.o = 0))) encY rfl (by simp; omega) (fun y hy => ?_) ?_
    · unfold Wce encY
      items_go
      have := neO_enc y.o 0
      rw [enc_zero] at this
      rw [this]
      items_go
      exact ⟨trivial, trivial⟩
    items_go
    refine any_w (fun y : Yr => !decide (y.o = 0)) _ ?_
    items_go
    have cond : ((m.ys.take (i + 1)).any fun y => !decide (y.o = 0)) = liveB m.ys (i + 1) := rfl
    rw [cond]
    cases hc : liveB m.ys (i + 1) with
    | true =>
      items_go
      refine append_w (ys := (livesU m.ys i).map fun l : Nat => D.int (l : Int)) (by simp) (by have := lives_len m.ys i; simp; omega) ?_
      items_go
      refine ⟨_, rfl, ?_⟩
      rw [livesU_succ, hc]
      have : (1 : Int) + (i : Int) = ((i + 1 : Nat) : Int) := by omega
      simp [this]
    | false =>
      items_go
      refine ⟨_, rfl, ?_⟩
      rw [livesU_succ, hc]
      simp
  · rintro env S1 ⟨x1, rfl, rfl⟩
    rw [List.length_range]
    items_go
    exact k
end
/-! the arguments judged -/
section
variable {n : Nat} {ms : List Meth} {cs : List Mc} (C : MBk n ms cs) {S : DS} {Q : D → DS → Prop} {X : Exn → DS → Prop}
include C
theorem check_machine_w {d : D} (hp : pl d = true) (k : ∀ (i : Nat) m, d = .int (i : Int) → cs[i]? = some m → Q .non S) (e : wiB 0 ((cs.length : Int) - 1) d = false → X ⟨"NoMachine", []⟩ S) : Wp (check_machine [encMB n ms cs, d] S) Q X := by
  unfold check_machine
  items_go
  refine check_book_w (pl_encMB _ _ _) (fun _ => ?_) (fun h => ?_)
  · items_go
    unfold encMB
    items_go
    have el : (((cs.map encC).length : Nat) : Int) - 1 = (cs.length : Int) - 1 := by rw [List.length_map]
    rw [el]
    refine within_w hp ?_
    cases h : wiB 0 ((cs.length : Int) - 1) d with
    | false =>
      items_go
      exact e h
    | true =>
      items_go
      cases d with
      | int i =>
        rw [wiB_i] at h
        simp only [Bool.and_eq_true, decide_eq_true_eq] at h
        obtain ⟨j, rfl⟩ := Int.eq_ofNat_of_zero_le h.1
        have hj : j < cs.length := by omega
        exact k j _ rfl (List.getElem?_eq_getElem hj)
      | _ => cases h
  · exact tf C.j h
omit C in
theorem check_factor_ok {g : Rat} (hg : 0 < g) (k : Q .non S) : Wp (check_factor [enc g] S) Q X := by
  have ne : g ≠ 0 := fun z => by
    rw [z] at hg
    exact absurd hg (by decide)
  unfold check_factor
  items_go
  refine amount_jw (pl_enc _) ?_
  rw [am_enc (Rat.le_of_lt hg)]
  items_go
  have := eqO_enc g 0
  rw [enc_zero] at this
  rw [this, decide_eq_false ne]
  items_go
  exact k
omit C in
theorem check_factor_bad {d : D} (hp : pl d = true) (hd : amB d = false ∨ d = .tup [.int 0, .int 1]) (e : X ⟨"NoFactor", []⟩ S) : Wp (check_factor [d] S) Q X := by
  unfold check_factor
  items_go
  refine amount_jw hp ?_
  rcases hd with h | rfl
  · rw [h]
    items_go
    exact e
  · have : amB (.tup [.int 0, .int 1]) = true := by decide
    rw [this]
    items_go
    rw [eqO_pair]
    items_go
    exact e
theorem check_life_w {i : Nat} {m : Mc} (hm : cs[i]? = some m) (hc : Cl S) {d : D} (hp : pl d = true) (k : ∀ l : Nat, d = .int (l : Int) → l ∈ livesN m.ys → Q .non S) (e : (∀ l : Nat, d = .int (l : Int) → l ∉ livesN m.ys) → ∀ J, X ⟨"NoLife", []⟩ (S ++ J)) :
    Wp (check_life [encMB n ms cs, .int (i : Int), d] S) Q X := by
  have M := C.m m (List.mem_of_getElem? hm)
  have y1 := M.y1
  unfold check_life
  rw [wp_defD]
  unfold encMB
  items_go
  rw [getI_map encC _ i hm]
  items_go
  unfold encC
  items_go
  refine within_w hp ?_
  have nol : (∀ l : Nat, d = .int (l : Int) → l ∉ livesN m.ys) → ∀ J, X ⟨"NoLife", []⟩ (S ++ J) := e
  cases hw : wiB 1 (((m.ys.map encY).length : Nat) : Int) d with
  | false =>
    items_go
    have := nol (fun l hl hml => by
      subst hl
      have := lives_mem hml
      rw [wiB_i, List.length_map, decide_eq_true (by omega), decide_eq_true (by omega)] at hw
      cases hw) []
    rw [List.append_nil] at this
    exact this
  | true =>
    items_go
    cases d with
    | int j =>
      rw [wiB_i] at hw
      simp only [Bool.and_eq_true, decide_eq_true_eq, List.length_map] at hw
      obtain ⟨l, rfl⟩ := Int.eq_ofNat_of_zero_le (show 0 ≤ j by omega)
      show Wp (lives_of [encC m] S) _ _
      refine lives_w M ?_
      items_go
      refine ninS_w (ls := livesN m.ys) (by simp) (by omega) (fun x hx => by have := lives_mem hx; omega) ?_
      items_go
      by_cases hl : l ∈ livesN m.ys
      · rw [decide_eq_true hl]
        items_go
        exact keep_w hc (fun _ => rfl) rfl (k l rfl hl)
      · rw [decide_eq_false hl]
        items_go
        exact nol (fun l' hl' => by
          cases hl'
          exact hl) _
    | _ => cases hw
end
end MB

namespace MB
open PySem PySem.Spec PyProof.Rows L2 DL FR HN FB FJ FW
local macro_rules | `(tactic| items_go) => `(tactic| simp only [wp_ok, wp_ex, wp_bind, wp_mC, wp_mV, wp_m1, wp_m2, wp_maN, wp_maC, wp_mL, wp_mT, wp_mTr, wp_and, wp_or, wp_not, wp_andV, wp_orV, wp_notV, wp_mIf, wp_chain, wp_sl, wp_moN, wp_moS, wp_isi, wp_isi2, wp_meth, wp_tup, wp_lst, wp_ref, wp_seq, wp_ret, wp_retN, wp_nx, wp_bk, wp_ct, wp_do, wp_set, wp_asg, wp_par, wp_par3, wp_aug, wp_ifS, wp_raise, wp_for, wp_gN, wp_gsN, wp_gsC, wp_gT, wp_gSub, wp_seqI, wp_argI, wp_lc, wp_defM, Wsq_nx, Wsq_rt, Wsq_bk, Wsq_ct, Wsq_xc, Wrt_nx, Wrt_rt, Wrt_xc, Wlp_nx, Wlp_ct, Wlp_bk, Wlp_rt, Wlp_xc, Wif_t, Wif_f, Wv_s, Wo_s, Wb_s, Wi_s, Wp2_s, Wp3_s, startE_at, wipeE, List.map_cons, List.map_nil, List.length_cons, List.length_nil, Nat.reduceAdd, Nat.reduceSub, List.reduceReplicate, List.cons_append, List.nil_append, List.set_cons_succ, List.set_cons_zero, List.getElem?_cons_succ, List.getElem?_cons_zero, decide_true, decide_false, Nat.reduceLeDiff, Nat.reduceEqDiff, Int.reduceEq, Int.reduceLT, Int.reduceLE, eq_self, Bool.not_true, Bool.not_false, Bool.or_true, Bool.true_or, Bool.or_false, Bool.false_or, Bool.and_true, Bool.true_and, Bool.and_false, Bool.false_and, addO_int, subO_int, negO_int, eqO_int, neO_int, eqO_str, neO_str, eqO_is, neO_is, eqO_si, ltO_int, leO_int, gtO_int, geO_int, ixO_tup, ixO_vl, FR.getI_0, FR.getI_1, FR.getI_2, FR.getI_3, FR.getI_4, FR.enc0, FR.enc1, FR.encM0, FR.encM1, FR.encM2, FR.encB0, FR.encB1, lenO_tup, lenO_vl, intO_int, tupleO_vl, tupleO_tup, asItm_tup, asItm_vl, finV_at, finR_at, rc_ref, rc_vl, ty_tt, ty_tv, ty_ti, ty_tb, ty_ts, ty_tn, ty_td, ty_tr, ty_it, ty_iv, ty_ii, ty_ib, ty_is, ty_in, ty_id, ty_bt, ty_bv, ty_bi, ty_bb, ty_bs, ty_bn, ty_bd, ty_lt, ty_lv, ty_li, ty_lb, ty_ls, ty_ln, ty_st, ty_sv, ty_si, ty_sb, ty_ss, ty_sn])
local macro_rules | `(tactic| news_at) => `(tactic| simp only [wp_ok, wp_ex, wp_bind, wp_mC, wp_mV, wp_m1, wp_m2, wp_maN, wp_maC, wp_mL, wp_mT, wp_mTr, wp_and, wp_or, wp_not, wp_andV, wp_orV, wp_notV, wp_mIf, wp_chain, wp_sl, wp_moN, wp_moS, wp_isi, wp_isi2, wp_meth, wp_tup, wp_lst, wp_ref, wp_seq, wp_ret, wp_retN, wp_nx, wp_bk, wp_ct, wp_do, wp_set, wp_asg, wp_par, wp_par3, wp_aug, wp_ifS, wp_raise, wp_for, wp_gN, wp_gsN, wp_gsC, wp_gT, wp_gSub, wp_seqI, wp_argI, wp_lc, wp_defM, Wsq_nx, Wsq_rt, Wsq_bk, Wsq_ct, Wsq_xc, Wrt_nx, Wrt_rt, Wrt_xc, Wlp_nx, Wlp_ct, Wlp_bk, Wlp_rt, Wlp_xc, Wif_t, Wif_f, Wv_s, Wo_s, Wb_s, Wi_s, Wp2_s, Wp3_s, startE_at, wipeE, List.map_cons, List.map_nil, List.length_cons, List.length_nil, Nat.reduceAdd, Nat.reduceSub, List.reduceReplicate, List.cons_append, List.nil_append, List.set_cons_succ, List.set_cons_zero, List.getElem?_cons_succ, List.getElem?_cons_zero, decide_true, decide_false, Nat.reduceLeDiff, Nat.reduceEqDiff, Int.reduceEq, Int.reduceLT, Int.reduceLE, eq_self, Bool.not_true, Bool.not_false, Bool.or_true, Bool.true_or, Bool.or_false, Bool.false_or, Bool.and_true, Bool.true_and, Bool.and_false, Bool.false_and, addO_int, subO_int, negO_int, eqO_int, neO_int, eqO_str, neO_str, eqO_is, neO_is, eqO_si, ltO_int, leO_int, gtO_int, geO_int, ixO_tup, ixO_vl, FR.getI_0, FR.getI_1, FR.getI_2, FR.getI_3, FR.getI_4, FR.enc0, FR.enc1, FR.encM0, FR.encM1, FR.encM2, FR.encB0, FR.encB1, lenO_tup, lenO_vl, intO_int, tupleO_vl, tupleO_tup, asItm_tup, asItm_vl, finV_at, finR_at, rc_ref, rc_vl, ty_tt, ty_tv, ty_ti, ty_tb, ty_ts, ty_tn, ty_td, ty_tr, ty_it, ty_iv, ty_ii, ty_ib, ty_is, ty_in, ty_id, ty_bt, ty_bv, ty_bi, ty_bb, ty_bs, ty_bn, ty_bd, ty_lt, ty_lv, ty_li, ty_lb, ty_ls, ty_ln, ty_st, ty_sv, ty_si, ty_sb, ty_ss, ty_sn, *])
/-! the method of a life -/
abbrev Pt := List Rat × Rat
def encPt (p : Pt) : D := .tup [encR p.1, enc p.2]
def partsQ (m : Mc) (l : Nat) : List Pt := (m.bu, m.bw) :: (m.ys.take l).map fun y => (y.u, y.w)
def wtsT (g : Rat) (l : Nat) : List Rat := (List.range l).map fun a => g ^ (l - 1 - a)
def wtsQ (g : Rat) (l : Nat) : List Rat := g ^ l :: wtsT g l
def sumW (ws : List Rat) (ps : List Pt) (f : Pt → Rat) : Rat := sumQ ((ws.zip ps).map fun x => x.1 * f x.2)
def outQ (ws : List Rat) (ys : List Yr) : Rat := sumQ ((ws.zip ys).map fun x => x.1 * x.2.o)
def rawQ (g : Rat) (l : Nat) (m : Mc) : Meth := ⟨m.g, vec m.bu.length fun i => sumW (wtsQ g l) (partsQ m l) (fun p => p.1.getD i 0) / outQ (wtsT g l) m.ys, sumW (wtsQ g l) (partsQ m l) (fun p => p.2) / outQ (wtsT g l) m.ys⟩
structure Ptk (n : Nat) (p : Pt) : Prop where
  u : Am 61 n p.1
  w : Dq p.2
theorem parts_ok {n : Nat} {m : Mc} (M : Mk n m) (l : Nat) : ∀ p ∈ partsQ m l, Ptk n p := fun p hp => by
  rcases List.mem_cons.mp hp with rfl | hp
  · exact ⟨M.bu, M.bw⟩
  · obtain ⟨y, hy, rfl⟩ := List.mem_map.mp hp
    have := M.ys y (List.mem_of_mem_take hy)
    exact ⟨this.u, this.w⟩
theorem parts_len {n : Nat} {m : Mc} (M : Mk n m) (l : Nat) : (partsQ m l).length ≤ 4 := by
  have := M.y1
  simp [partsQ]
  omega
section
variable {S : DS} {Q : D → DS → Prop} {X : Exn → DS → Prop}
theorem zip_v {α β : Type} (f : α → D) (g : β → D) (as : List α) (bs : List β) (S : DS) : zipO [.vl (as.map f), .vl (bs.map g)] S = .ok ⟨(as.zip bs).map fun x => .tup [f x.1, g x.2], none⟩ S := by
  show Ou.ok (Itm.mk (zipD (as.map f) (bs.map g)) none) S = _
  rw [zipD_map]
theorem zip_vt {α β : Type} (f : α → D) (g : β → D) (as : List α) (bs : List β) (S : DS) : zipO [.vl (as.map f), .tup (bs.map g)] S = .ok ⟨(as.zip bs).map fun x => .tup [f x.1, g x.2], none⟩ S := by
  show Ou.ok (Itm.mk (zipD (as.map f) (bs.map g)) none) S = _
  rw [zipD_map]
theorem zip_tv {α β : Type} (f : α → D) (g : β → D) (as : List α) (bs : List β) (S : DS) : zipO [.tup (as.map f), .vl (bs.map g)] S = .ok ⟨(as.zip bs).map fun x => .tup [f x.1, g x.2], none⟩ S := by
  show Ou.ok (Itm.mk (zipD (as.map f) (bs.map g)) none) S = _
  rw [zipD_map]
theorem zip_tt {α β : Type} (f : α → D) (g : β → D) (as : List α) (bs : List β) (S : DS) : zipO [.tup (as.map f), .tup (bs.map g)] S = .ok ⟨(as.zip bs).map fun x => .tup [f x.1, g x.2], none⟩ S := by
  show Ou.ok (Itm.mk (zipD (as.map f) (bs.map g)) none) S = _
  rw [zipD_map]
theorem row_get {k i : Nat} {r : List Rat} (hr : Am 61 k r) (hi : i < k) (S : DS) : getI (r.map enc) (i : Int) S = .ok (enc (r.getD i 0)) S := by
  rw [List.getD_eq_getElem?_getD, List.getElem?_eq_getElem (by rw [hr.len]; exact hi)]
  exact getI_map enc _ i (List.getElem?_eq_getElem (by rw [hr.len]; exact hi))
theorem sumW_bds {k n : Nat} {ws : List Rat} {ps : List Pt} (hw : ∀ q ∈ ws, Bd k q) (hp : ∀ p ∈ ps, Ptk n p) {f : Pt → Rat} (hf : ∀ p, Ptk n p → Bd 61 (f p)) : ∀ q ∈ (ws.zip ps).map fun x => x.1 * f x.2, Bd (k + 61) q := fun q hq => by
  obtain ⟨x, hx, rfl⟩ := List.mem_map.mp hq
  exact (hw _ (List.of_mem_zip hx).1).mul (hf _ (hp _ (List.of_mem_zip hx).2))
theorem sumW_bd {k n : Nat} {ws : List Rat} {ps : List Pt} (hw : ∀ q ∈ ws, Bd k q) (hp : ∀ p ∈ ps, Ptk n p) {f : Pt → Rat} (hf : ∀ p, Ptk n p → Bd 61 (f p)) (hl : ps.length ≤ 4) : Bd (1 + (k + 61 + 1) * 4) (sumW ws ps f) := (Bd.sum (sumW_bds hw hp hf)).mono (by
  rw [List.length_map, List.length_zip]
  have := Nat.mul_le_mul_left (k + 61 + 1) (show min ws.length ps.length ≤ 4 by omega)
  omega)
/-- the sum of weights times a column of the parts -/
theorem col_w {k n i : Nat} {ws : List Rat} {ps : List Pt} (hw : ∀ q ∈ ws, Bd k q) (hk : k ≤ 4400) (hp : ∀ p ∈ ps, Ptk n p) (hl : ps.length ≤ 4) (hi : i < n) {env : DE} {K : D → DS → Prop} {a b c : Nat} (hg : ∀ x y : D, ((env.set a (some x)).set b (some y))[a]? = some (some x) ∧ ((env.set a (some x)).set b (some y))[b]? = some (some y) ∧ ((env.set a (some x)).set b (some y))[c]? = some (some (.int (i : Int))))
    (g : K (enc (sumW ws ps fun p => p.1.getD i 0)) S) : Wlc (gT 2 (gsC (gN a) (gsC (gN b) gsN))) mYes (mL times (maC (mV a) (maC (m2 ixO (m2 ixO (mV b) (mC (.int 0))) (mV c)) maN))) env ⟨(ws.zip ps).map fun x => .tup [enc x.1, encPt x.2], none⟩ S (fun xs S2 => Wp (summed [.vl xs] S2) K X) := by
  have hf : ∀ p, Ptk n p → Bd 61 (p.1.getD i 0) := fun p P => (getD_ok P.u (by decide) i).2
  refine wlc_map (fun x : Rat × Pt => enc (x.1 * x.2.1.getD i 0)) (fun x => D.tup [enc x.1, encPt x.2]) rfl (by simp; omega) (fun x hx => ?_) ?_
  · obtain ⟨e1, e2, e3⟩ := hg (enc x.1) (encPt x.2)
    have P := hp _ (List.of_mem_zip hx).2
    unfold Wce
    items_go
    rw [e1]
    items_go
    rw [e2]
    items_go
    rw [e3]
    unfold encPt
    items_go
    have er : encR x.2.1 = .tup (x.2.1.map enc) := rfl
    rw [er]
    items_go
    rw [row_get P.u hi]
    items_go
    rw [times_ok _ (two_r (hw _ (List.of_mem_zip hx).1) (hf _ P) (by omega) (by decide))]
    items_go
    exact ⟨trivial, trivial⟩
  · have ef : (ws.zip ps).map (fun x => enc (x.1 * x.2.1.getD i 0)) = ((ws.zip ps).map fun x => x.1 * x.2.1.getD i 0).map enc := by rw [List.map_map]; rfl
    rw [ef, summed_vl (k := k + 61) (by omega) (sumW_bds hw hp hf) (by
      rw [List.length_map, List.length_zip]
      have := Nat.mul_le_mul (show k + 61 + 1 ≤ 4500 by omega) (show min ws.length ps.length ≤ 4 by omega)
      omega)]
    items_go
    exact g
/-- the sum of weights times the work of the parts -/
theorem wrk_w {k n : Nat} {ws : List Rat} {ps : List Pt} (hw : ∀ q ∈ ws, Bd k q) (hk : k ≤ 4400) (hp : ∀ p ∈ ps, Ptk n p) (hl : ps.length ≤ 4) {env : DE} {K : D → DS → Prop} {a b : Nat} (hg : ∀ x y : D, ((env.set a (some x)).set b (some y))[a]? = some (some x) ∧ ((env.set a (some x)).set b (some y))[b]? = some (some y))
    (g : K (enc (sumW ws ps fun p => p.2)) S) : Wlc (gT 2 (gsC (gN a) (gsC (gN b) gsN))) mYes (mL times (maC (mV a) (maC (m2 ixO (mV b) (mC (.int 1))) maN))) env ⟨(ws.zip ps).map fun x => .tup [enc x.1, encPt x.2], none⟩ S (fun xs S2 => Wp (summed [.vl xs] S2) K X) := by
  have hf : ∀ p, Ptk n p → Bd 61 p.2 := fun p P => P.w.2
  refine wlc_map (fun x : Rat × Pt => enc (x.1 * x.2.2)) (fun x => D.tup [enc x.1, encPt x.2]) rfl (by simp; omega) (fun x hx => ?_) ?_
  · obtain ⟨e1, e2⟩ := hg (enc x.1) (encPt x.2)
    have P := hp _ (List.of_mem_zip hx).2
    unfold Wce
    items_go
    rw [e1]
    items_go
    rw [e2]
    unfold encPt
    items_go
    rw [times_ok _ (two_r (hw _ (List.of_mem_zip hx).1) (hf _ P) (by omega) (by decide))]
    items_go
    exact ⟨trivial, trivial⟩
  · have ef : (ws.zip ps).map (fun x => enc (x.1 * x.2.2)) = ((ws.zip ps).map fun x => x.1 * x.2.2).map enc := by rw [List.map_map]; rfl
    rw [ef, summed_vl (k := k + 61) (by omega) (sumW_bds hw hp hf) (by
      rw [List.length_map, List.length_zip]
      have := Nat.mul_le_mul (show k + 61 + 1 ≤ 4500 by omega) (show min ws.length ps.length ≤ 4 by omega)
      omega)]
    items_go
    exact g
theorem outQ_bds {k n : Nat} {ws : List Rat} {m : Mc} (M : Mk n m) (hw : ∀ q ∈ ws, Bd k q) : ∀ q ∈ (ws.zip m.ys).map fun x => x.1 * x.2.o, Bd (k + 61) q := fun q hq => by
  obtain ⟨x, hx, rfl⟩ := List.mem_map.mp hq
  exact (hw _ (List.of_mem_zip hx).1).mul (M.ys _ (List.of_mem_zip hx).2).o.2
theorem outQ_bd {k n : Nat} {ws : List Rat} {m : Mc} (M : Mk n m) (hw : ∀ q ∈ ws, Bd k q) : Bd (1 + (k + 61 + 1) * 3) (outQ ws m.ys) := (Bd.sum (outQ_bds M hw)).mono (by
  rw [List.length_map, List.length_zip]
  have := M.y1
  have := Nat.mul_le_mul_left (k + 61 + 1) (show min ws.length m.ys.length ≤ 3 by omega)
  omega)
/-- the sum of weights times the outs -/
theorem out_w {k n : Nat} {ws : List Rat} {m : Mc} (M : Mk n m) (hw : ∀ q ∈ ws, Bd k q) (hk : k ≤ 4400) {env : DE} {K : D → DS → Prop} {a b : Nat} (hg : ∀ x y : D, ((env.set a (some x)).set b (some y))[a]? = some (some x) ∧ ((env.set a (some x)).set b (some y))[b]? = some (some y))
    (g : K (enc (outQ ws m.ys)) S) : Wlc (gT 2 (gsC (gN a) (gsC (gN b) gsN))) mYes (mL times (maC (mV a) (maC (m2 ixO (mV b) (mC (.int 2))) maN))) env ⟨(ws.zip m.ys).map fun x => .tup [enc x.1, encY x.2], none⟩ S (fun xs S2 => Wp (summed [.vl xs] S2) K X) := by
  have y1 := M.y1
  refine wlc_map (fun x : Rat × Yr => enc (x.1 * x.2.o)) (fun x => D.tup [enc x.1, encY x.2]) rfl (by simp; omega) (fun x hx => ?_) ?_
  · obtain ⟨e1, e2⟩ := hg (enc x.1) (encY x.2)
    have P := M.ys _ (List.of_mem_zip hx).2
    unfold Wce
    items_go
    rw [e1]
    items_go
    rw [e2]
    unfold encY
    items_go
    rw [times_ok _ (two_r (hw _ (List.of_mem_zip hx).1) P.o.2 (by omega) (by decide))]
    items_go
    exact ⟨trivial, trivial⟩
  · have ef : (ws.zip m.ys).map (fun x => enc (x.1 * x.2.o)) = ((ws.zip m.ys).map fun x => x.1 * x.2.o).map enc := by rw [List.map_map]; rfl
    rw [ef, summed_vl (k := k + 61) (by omega) (outQ_bds M hw) (by
      rw [List.length_map, List.length_zip]
      have := Nat.mul_le_mul (show k + 61 + 1 ≤ 4500 by omega) (show min ws.length m.ys.length ≤ 3 by omega)
      omega)]
    items_go
    exact g
end
/-! what comes out is something -/
theorem sum_nn : ∀ {qs : List Rat}, (∀ q ∈ qs, 0 ≤ q) → 0 ≤ sumQ qs
  | [], _ => by simp [sumQ]
  | q :: qs, h => by
    rw [sumQ]
    exact Rat.add_nonneg (h q (List.mem_cons_self ..)) (sum_nn fun x hx => h x (List.mem_cons_of_mem _ hx))
theorem sum_pos {qs : List Rat} (h : ∀ q ∈ qs, 0 ≤ q) (hp : ∃ q ∈ qs, 0 < q) : 0 < sumQ qs := by
  induction qs with
  | nil =>
    obtain ⟨q, hq, _⟩ := hp
    cases hq
  | cons a qs ih =>
    rw [sumQ]
    have h1 := h a (List.mem_cons_self ..)
    have h2 := sum_nn fun x hx => h x (List.mem_cons_of_mem _ hx)
    obtain ⟨q, hq, hp⟩ := hp
    rcases List.mem_cons.mp hq with rfl | hq
    · grind
    · have := ih (fun x hx => h x (List.mem_cons_of_mem _ hx)) ⟨q, hq, hp⟩
      grind
theorem out_pos {n : Nat} {m : Mc} (M : Mk n m) {ws : List Rat} (hw : ∀ q ∈ ws, 0 < q) (h : liveB m.ys ws.length = true) : 0 < outQ ws m.ys := by
  refine sum_pos (fun q hq => ?_) ?_
  · obtain ⟨x, hx, rfl⟩ := List.mem_map.mp hq
    exact Rat.mul_nonneg (Rat.le_of_lt (hw _ (List.of_mem_zip hx).1)) (M.ys _ (List.of_mem_zip hx).2).o.1
  · unfold liveB at h
    obtain ⟨y, hy, ho⟩ := List.any_eq_true.mp h
    obtain ⟨i, hi, rfl⟩ := List.mem_iff_getElem.mp hy
    have hi2 : i < ws.length ∧ i < m.ys.length := by
      rw [List.length_take] at hi
      omega
    refine ⟨ws[i] * (m.ys[i]).o, List.mem_map.mpr ⟨(ws[i], m.ys[i]), ?_, rfl⟩, ?_⟩
    · refine List.mem_iff_getElem.mpr ⟨i, by rw [List.length_zip]; omega, by simp⟩
    · rw [List.getElem_take] at ho
      have h0 := (M.ys _ (List.getElem_mem hi2.2)).o.1
      have hne : (m.ys[i]).o ≠ 0 := by simpa using ho
      have hpos : 0 < (m.ys[i]).o := by grind
      exact Rat.mul_pos (hw _ (List.getElem_mem ..)) hpos
theorem wtsT_len (g : Rat) (l : Nat) : (wtsT g l).length = l := by simp [wtsT]
theorem wtsT_bd {g : Rat} (hg : Bd 61 g) {l : Nat} (hl : l ≤ 3) : ∀ q ∈ wtsT g l, Bd 184 q := fun q hq => by
  obtain ⟨a, _, rfl⟩ := List.mem_map.mp hq
  exact (Bd.pow hg _).mono (by omega)
theorem wtsT_pos {g : Rat} (hg : 0 < g) {l : Nat} : ∀ q ∈ wtsT g l, 0 < q := fun q hq => by
  obtain ⟨a, _, rfl⟩ := List.mem_map.mp hq
  exact pow_pos' hg _
theorem wtsQ_bd {g : Rat} (hg : Bd 61 g) {l : Nat} (hl : l ≤ 3) : ∀ q ∈ wtsQ g l, Bd 184 q := fun q hq => by
  rcases List.mem_cons.mp hq with rfl | hq
  · exact (Bd.pow hg _).mono (by omega)
  · exact wtsT_bd hg hl q hq
section
variable {S : DS} {Q : D → DS → Prop} {X : Exn → DS → Prop}
theorem raw_w {n l : Nat} {m : Mc} (M : Mk n m) (n6 : n ≤ 6) {g : Rat} (hg : Bd 61 g) (g0 : 0 < g) (hl : l ∈ livesN m.ys) (hc : Cl S) (k : Q (encM (rawQ g l m)) S) : Wp (raw_method [encC m, .int (l : Int), enc g] S) Q X := by
  have y1 := M.y1
  obtain ⟨l1, l2, l3⟩ := lives_mem hl
  have l4 : l ≤ 3 := by omega
  have bl : m.bu.length = n := M.bu.len
  have op : 0 < outQ (wtsT g l) m.ys := out_pos M (wtsT_pos g0) (by rw [wtsT_len]; exact l3)
  have ob : Bd 739 (outQ (wtsT g l) m.ys) := outQ_bd M (wtsT_bd hg l4)
  have P := parts_ok M l
  have pl4 := parts_len M l
  unfold raw_method
  rw [wp_defD]
  unfold encC
  items_go
  refine powers_w hg (many := l) (by omega) rfl ?_
  items_go
  refine ixR_w (n := l) (xs := (pows g (l + 1)).map enc) (x := enc (g ^ l)) (by simp) rfl (by simp [pows]) ?_
  items_go
  rw [rng_w (m := l) rfl (by omega)]
  items_go
  refine wlc_map (fun a : Nat => enc (g ^ (l - 1 - a))) (fun (i : Nat) => D.int (i : Int)) rfl (by simp; omega) (fun a ha => ?_) ?_
  · have ha : a < l := by simpa using ha
    unfold Wce
    items_go
    refine ixR_w (n := l - 1 - a) (xs := (pows g (l + 1)).map enc) (x := enc (g ^ (l - 1 - a))) (by simp) (by omega) ?_ ⟨rfl, rfl⟩
    rw [pows, List.map_map, List.getElem?_map, List.getElem?_range (by omega)]
    rfl
  items_go
  have ew : (List.range l).map (fun a => enc (g ^ (l - 1 - a))) = (wtsT g l).map enc := by unfold wtsT; rw [List.map_map]; rfl
  rw [ew]
  refine addvv_w (by simp [wtsT_len]; omega) ?_
  items_go
  refine slLo (n := l) rfl ?_
  rw [← List.map_take]
  items_go
  refine wlc_map (fun y : Yr => encPt (y.u, y.w)) encY rfl (by simp; omega) (fun y hy => ?_) ?_
  · unfold Wce encY
    items_go
    refine slLo (n := 2) rfl ?_
    exact ⟨rfl, rfl⟩
  items_go
  refine addvv_w (by simp; omega) ?_
  items_go
  have ep : (D.tup [encR m.bu, enc m.bw] :: (m.ys.take l).map fun y => encPt (y.u, y.w)) = (partsQ m l).map encPt := by
    unfold partsQ
    rw [List.map_cons, List.map_map]
    rfl
  have ew2 : (enc (g ^ l) :: (wtsT g l).map enc) = (wtsQ g l).map enc := rfl
  rw [ep, ew2]
  refine slHiV (n := 1) rfl ?_
  have ed : ((wtsQ g l).map enc).drop 1 = (wtsT g l).map enc := rfl
  rw [ed]
  items_go
  rw [zip_vt enc encY]
  items_go
  refine out_w M (wtsT_bd hg l4) (by decide) (fun x y => ⟨rfl, rfl⟩) ?_
  items_go
  show Wp (lenO [.tup (m.bu.map enc)] _) _ _
  items_go
  rw [rng_w (m := m.bu.length) (by rw [List.length_map]) (by omega)]
  items_go
  refine wforA (fun (i : Nat) => D.int (i : Int)) (fun i env S1 => ∃ x8, env = [some (encC m), some (.int (l : Int)), some (enc g), some (.ref S.length), some (.vl ((wtsQ g l).map enc)), some (.vl ((partsQ m l).map encPt)), some (enc (outQ (wtsT g l) m.ys)), some (.ref (S.length + 1)), x8, none, some (.int (m.g : Int)), some (.tup [encR m.bu, enc m.bw]), some (.tup (m.ys.map encY)), none, none, none, none] ∧
    S1 = S ++ [.lst ((pows g (l + 1)).map enc), .lst ((vec i fun i => sumW (wtsQ g l) (partsQ m l) (fun p => p.1.getD i 0) / outQ (wtsT g l) m.ys).map enc)]) rfl ⟨none, by simp; rfl, by simp [vec]⟩ ?_ ?_
  · rintro i a ha env S1 ⟨x8, rfl, rfl⟩
    have hi : i < m.bu.length := by
      have := (List.getElem?_eq_some_iff.mp ha).1
      simpa using this
    rw [List.getElem?_range hi] at ha
    cases ha
    items_go
    rw [zip_v enc encPt]
    items_go
    refine col_w (i := i) (wtsQ_bd hg l4) (by decide) P pl4 (by omega) (fun x y => ⟨rfl, rfl, rfl⟩) ?_
    items_go
    have sb := sumW_bd (wtsQ_bd hg l4) P (fun p P => (getD_ok P.u (by decide) i).2) pl4
    refine over_w op (two_r sb (Bd.inv ob op) (by decide) (by decide)) ?_
    items_go
    refine append_w (ys := (vec i fun i => sumW (wtsQ g l) (partsQ m l) (fun p => p.1.getD i 0) / outQ (wtsT g l) m.ys).map enc) (by simp) (by simp [vec_len]; omega) ?_
    items_go
    refine ⟨_, rfl, ?_⟩
    have ev : ∀ f : Nat → Rat, (vec (i + 1) f).map enc = (vec i f).map enc ++ [enc (f i)] := fun f => by
      unfold vec
      rw [List.range_succ, List.map_append, List.map_append]
      rfl
    rw [ev]
    simp
  · rintro env S1 ⟨x8, rfl, rfl⟩
    rw [List.length_range]
    items_go
    rw [zip_v enc encPt]
    items_go
    refine wrk_w (wtsQ_bd hg l4) (by decide) P pl4 (fun x y => ⟨rfl, rfl⟩) ?_
    items_go
    have sb := sumW_bd (wtsQ_bd hg l4) P (fun p P => P.w.2) pl4
    refine over_w op (two_r sb (Bd.inv ob op) (by decide) (by decide)) ?_
    items_go
    refine tuple_ref (ys := (vec m.bu.length fun i => sumW (wtsQ g l) (partsQ m l) (fun p => p.1.getD i 0) / outQ (wtsT g l) m.ys).map enc) (by simp) ?_
    items_go
    refine keep_w hc (fun j => ?_) rfl k
    have := under_encR j (vec m.bu.length fun i => sumW (wtsQ g l) (partsQ m l) (fun p => p.1.getD i 0) / outQ (wtsT g l) m.ys)
    simp only [DL.under, unders, Bool.and_true, Bool.true_and]
    rw [Bool.and_eq_true]
    exact ⟨this, rfl⟩
theorem life_method_w {n l i : Nat} {ms : List Meth} {cs : List Mc} (C : MBk n ms cs) {m : Mc} (hm : cs[i]? = some m) {g : Rat} (hg : Bd 61 g) (g0 : 0 < g) (hl : l ∈ livesN m.ys) (hc : Cl S) (k : Q (encM (rawQ g l m)) S) : Wp (life_method [encMB n ms cs, .int (i : Int), .int (l : Int), enc g] S) Q X := by
  have hi : i < cs.length := (List.getElem?_eq_some_iff.mp hm).1
  have M := C.m m (List.mem_of_getElem? hm)
  unfold life_method
  items_go
  refine check_machine_w C rfl (fun _ _ _ _ => ?_) (fun h => ?_)
  · items_go
    refine check_life_w C hm hc rfl (fun _ _ _ => ?_) (fun h => absurd hl (h l rfl))
    items_go
    refine check_factor_ok g0 ?_
    unfold encMB
    items_go
    rw [getI_map encC _ i hm]
    items_go
    exact raw_w M C.b.n1 hg g0 hl hc k
  · rw [wiB_i, decide_eq_true (by omega), decide_eq_true (by omega)] at h
    cases h
end
end MB

namespace K47
open PySem PySem.Spec PyProof.Rows L2 DL
/-! ### the text, printed from T.py -/
def topS (i : Nat) : Stmt := PySem.Challenge.pw_everyprice_k47_whole_joint_books_and_net.main.body.getD i (.Pass ⟨0, 0, 0, 0⟩)
abbrev s_is_integer : Stmt := topS 10
theorem sc_is_integer : FnScope ["thing"] ["thing"] (defScope s_is_integer) := ⟨rfl, rfl, rfl, by decide +kernel, rfl, by decide +kernel, by decide +kernel⟩
abbrev s_is_within : Stmt := topS 11
theorem sc_is_within : FnScope ["thing", "low", "high"] ["thing", "low", "high"] (defScope s_is_within) := ⟨rfl, rfl, rfl, by decide +kernel, rfl, by decide +kernel, by decide +kernel⟩
abbrev s_is_sized : Stmt := topS 12
theorem sc_is_sized : FnScope ["thing", "low", "high"] ["thing", "low", "high"] (defScope s_is_sized) := ⟨rfl, rfl, rfl, by decide +kernel, rfl, by decide +kernel, by decide +kernel⟩
abbrev s_common : Stmt := topS 13
theorem sc_common : FnScope ["one", "other"] ["one", "other"] (defScope s_common) := ⟨rfl, rfl, rfl, by decide +kernel, rfl, by decide +kernel, by decide +kernel⟩
abbrev s_share : Stmt := topS 14
theorem sc_share : FnScope ["top", "bottom", "part"] ["top", "bottom"] (defScope s_share) := ⟨rfl, rfl, rfl, by decide +kernel, rfl, by decide +kernel, by decide +kernel⟩
abbrev s_is_share : Stmt := topS 15
theorem sc_is_share : FnScope ["thing"] ["thing"] (defScope s_is_share) := ⟨rfl, rfl, rfl, by decide +kernel, rfl, by decide +kernel, by decide +kernel⟩
abbrev s_plus : Stmt := topS 16
theorem sc_plus : FnScope ["one", "other"] ["one", "other"] (defScope s_plus) := ⟨rfl, rfl, rfl, by decide +kernel, rfl, by decide +kernel, by decide +kernel⟩
abbrev s_minus : Stmt := topS 17
theorem sc_minus : FnScope ["one", "other"] ["one", "other"] (defScope s_minus) := ⟨rfl, rfl, rfl, by decide +kernel, rfl, by decide +kernel, by decide +kernel⟩
abbrev s_times : Stmt := topS 18
theorem sc_times : FnScope ["one", "other"] ["one", "other"] (defScope s_times) := ⟨rfl, rfl, rfl, by decide +kernel, rfl, by decide +kernel, by decide +kernel⟩
abbrev s_is_amount : Stmt := topS 22
theorem sc_is_amount : FnScope ["thing"] ["thing"] (defScope s_is_amount) := ⟨rfl, rfl, rfl, by decide +kernel, rfl, by decide +kernel, by decide +kernel⟩
abbrev s_are_amounts : Stmt := topS 23
theorem sc_are_amounts : FnScope ["thing", "many", "part"] ["thing", "many"] (defScope s_are_amounts) := ⟨rfl, rfl, rfl, by decide +kernel, rfl, by decide +kernel, by decide +kernel⟩
abbrev s_is_method : Stmt := topS 24
theorem sc_is_method : FnScope ["goods", "thing"] ["goods", "thing"] (defScope s_is_method) := ⟨rfl, rfl, rfl, by decide +kernel, rfl, by decide +kernel, by decide +kernel⟩
abbrev s_is_book : Stmt := topS 25
theorem sc_is_book : FnScope ["thing", "method"] ["thing"] (defScope s_is_book) := ⟨rfl, rfl, rfl, by decide +kernel, rfl, by decide +kernel, by decide +kernel⟩
abbrev s_check_book : Stmt := topS 26
theorem sc_check_book : FnScope ["thing"] ["thing"] (defScope s_check_book) := ⟨rfl, rfl, rfl, by decide +kernel, rfl, by decide +kernel, by decide +kernel⟩
abbrev s_is_plan_of : Stmt := topS 27
theorem sc_is_plan_of : FnScope ["book", "thing"] ["book", "thing"] (defScope s_is_plan_of) := ⟨rfl, rfl, rfl, by decide +kernel, rfl, by decide +kernel, by decide +kernel⟩
abbrev s_check_plan : Stmt := topS 28
theorem sc_check_plan : FnScope ["book", "plan"] ["book", "plan"] (defScope s_check_plan) := ⟨rfl, rfl, rfl, by decide +kernel, rfl, by decide +kernel, by decide +kernel⟩
abbrev s_check_factor : Stmt := topS 29
theorem sc_check_factor : FnScope ["thing"] ["thing"] (defScope s_check_factor) := ⟨rfl, rfl, rfl, by decide +kernel, rfl, by decide +kernel, by decide +kernel⟩
abbrev s_made_by : Stmt := topS 30
theorem sc_made_by : FnScope ["book", "plan", "found", "amount", "good", "uses", "work"] ["book", "plan"] (defScope s_made_by) := ⟨rfl, rfl, rfl, by decide +kernel, rfl, by decide +kernel, by decide +kernel⟩
abbrev s_used_by : Stmt := topS 31
theorem sc_used_by : FnScope ["book", "plan", "found", "amount", "good", "uses", "work", "part", "use"] ["book", "plan"] (defScope s_used_by) := ⟨rfl, rfl, rfl, by decide +kernel, rfl, by decide +kernel, by decide +kernel⟩
abbrev s_net_of : Stmt := topS 32
theorem sc_net_of : FnScope ["book", "plan", "factor", "pairs", "more", "less"] ["book", "plan", "factor"] (defScope s_net_of) := ⟨rfl, rfl, rfl, by decide +kernel, rfl, by decide +kernel, by decide +kernel⟩
abbrev s_net : Stmt := topS 33
theorem sc_net : FnScope ["book", "plan", "factor"] ["book", "plan", "factor"] (defScope s_net) := ⟨rfl, rfl, rfl, by decide +kernel, rfl, by decide +kernel, by decide +kernel⟩
abbrev s_dot : Stmt := topS 35
theorem sc_dot : FnScope ["one", "other", "found", "first", "second"] ["one", "other"] (defScope s_dot) := ⟨rfl, rfl, rfl, by decide +kernel, rfl, by decide +kernel, by decide +kernel⟩
abbrev s_is_joint_method : Stmt := topS 38
theorem sc_is_joint_method : FnScope ["goods", "thing"] ["goods", "thing"] (defScope s_is_joint_method) := ⟨rfl, rfl, rfl, by decide +kernel, rfl, by decide +kernel, by decide +kernel⟩
abbrev s_is_joint : Stmt := topS 39
theorem sc_is_joint : FnScope ["thing", "method"] ["thing"] (defScope s_is_joint) := ⟨rfl, rfl, rfl, by decide +kernel, rfl, by decide +kernel, by decide +kernel⟩
abbrev s_joint_of : Stmt := topS 40
theorem sc_joint_of : FnScope ["book", "found", "good", "uses", "work", "here"] ["book"] (defScope s_joint_of) := ⟨rfl, rfl, rfl, by decide +kernel, rfl, by decide +kernel, by decide +kernel⟩
abbrev s_check : Stmt := topS 41
theorem sc_check : FnScope ["joint", "factor"] ["joint", "factor"] (defScope s_check) := ⟨rfl, rfl, rfl, by decide +kernel, rfl, by decide +kernel, by decide +kernel⟩
abbrev s_net_of_method : Stmt := topS 42
theorem sc_net_of_method : FnScope ["method", "factor", "more", "less"] ["method", "factor"] (defScope s_net_of_method) := ⟨rfl, rfl, rfl, by decide +kernel, rfl, by decide +kernel, by decide +kernel⟩
abbrev s_net_rows : Stmt := topS 43
theorem sc_net_rows : FnScope ["joint", "factor", "nets", "method", "good", "net"] ["joint", "factor"] (defScope s_net_rows) := ⟨rfl, rfl, rfl, by decide +kernel, rfl, by decide +kernel, by decide +kernel⟩
abbrev s_raw_net : Stmt := topS 44
theorem sc_raw_net : FnScope ["joint", "plan", "factor", "row"] ["joint", "plan", "factor"] (defScope s_raw_net) := ⟨rfl, rfl, rfl, by decide +kernel, rfl, by decide +kernel, by decide +kernel⟩
abbrev s_joint_net : Stmt := topS 45
theorem sc_joint_net : FnScope ["joint", "plan", "factor"] ["joint", "plan", "factor"] (defScope s_joint_net) := ⟨rfl, rfl, rfl, by decide +kernel, rfl, by decide +kernel, by decide +kernel⟩
abbrev s__law_hand : Stmt := topS 47
theorem sc__law_hand : FnScope ["script", "cells", "cell"] ["script"] (defScope s__law_hand) := ⟨rfl, rfl, rfl, by decide +kernel, rfl, by decide +kernel, by decide +kernel⟩
abbrev s__law_draw : Stmt := topS 48
theorem sc__law_draw : FnScope ["hand", "many", "number", "cell", "figure"] ["hand", "many"] (defScope s__law_draw) := ⟨rfl, rfl, rfl, by decide +kernel, rfl, by decide +kernel, by decide +kernel⟩
abbrev s__law_some : Stmt := topS 49
theorem sc__law_some : FnScope ["hand", "things"] ["hand", "things"] (defScope s__law_some) := ⟨rfl, rfl, rfl, by decide +kernel, rfl, by decide +kernel, by decide +kernel⟩
abbrev s__law_low : Stmt := topS 50
theorem sc__law_low : FnScope ["top", "bottom", "other", "one"] ["top", "bottom"] (defScope s__law_low) := ⟨rfl, rfl, rfl, by decide +kernel, rfl, by decide +kernel, by decide +kernel⟩
abbrev s__law_plus : Stmt := topS 51
theorem sc__law_plus : FnScope ["one", "other"] ["one", "other"] (defScope s__law_plus) := ⟨rfl, rfl, rfl, by decide +kernel, rfl, by decide +kernel, by decide +kernel⟩
abbrev s__law_minus : Stmt := topS 52
theorem sc__law_minus : FnScope ["one", "other"] ["one", "other"] (defScope s__law_minus) := ⟨rfl, rfl, rfl, by decide +kernel, rfl, by decide +kernel, by decide +kernel⟩
abbrev s__law_times : Stmt := topS 53
theorem sc__law_times : FnScope ["one", "other"] ["one", "other"] (defScope s__law_times) := ⟨rfl, rfl, rfl, by decide +kernel, rfl, by decide +kernel, by decide +kernel⟩
abbrev s__law_sum : Stmt := topS 54
theorem sc__law_sum : FnScope ["parts", "found", "part"] ["parts"] (defScope s__law_sum) := ⟨rfl, rfl, rfl, by decide +kernel, rfl, by decide +kernel, by decide +kernel⟩
abbrev s__law_amount : Stmt := topS 55
theorem sc__law_amount : FnScope ["hand"] ["hand"] (defScope s__law_amount) := ⟨rfl, rfl, rfl, by decide +kernel, rfl, by decide +kernel, by decide +kernel⟩
abbrev s__law_method : Stmt := topS 56
theorem sc__law_method : FnScope ["hand", "goods", "uses", "good"] ["hand", "goods"] (defScope s__law_method) := ⟨rfl, rfl, rfl, by decide +kernel, rfl, by decide +kernel, by decide +kernel⟩
abbrev s__law_joint : Stmt := topS 57
theorem sc__law_joint : FnScope ["hand", "turn", "goods", "methods", "makes", "uses", "good"] ["hand"] (defScope s__law_joint) := ⟨rfl, rfl, rfl, by decide +kernel, rfl, by decide +kernel, by decide +kernel⟩
abbrev s__law_net : Stmt := topS 58
theorem sc__law_net : FnScope ["joint", "plan", "factor", "found", "good", "made", "used", "method", "amount"] ["joint", "plan", "factor"] (defScope s__law_net) := ⟨rfl, rfl, rfl, by decide +kernel, rfl, by decide +kernel, by decide +kernel⟩
abbrev s__law_factor : Stmt := topS 59
theorem sc__law_factor : FnScope ["hand"] ["hand"] (defScope s__law_factor) := ⟨rfl, rfl, rfl, by decide +kernel, rfl, by decide +kernel, by decide +kernel⟩
abbrev s__law_deep : Stmt := topS 60
theorem sc__law_deep : FnScope ["hand", "found", "turn"] ["hand"] (defScope s__law_deep) := ⟨rfl, rfl, rfl, by decide +kernel, rfl, by decide +kernel, by decide +kernel⟩
abbrev s__law_odd : Stmt := topS 61
theorem sc__law_odd : FnScope ["hand"] ["hand"] (defScope s__law_odd) := ⟨rfl, rfl, rfl, by decide +kernel, rfl, by decide +kernel, by decide +kernel⟩
abbrev s__law_is : Stmt := topS 62
theorem sc__law_is : FnScope ["told", "due", "one", "two"] ["told", "due"] (defScope s__law_is) := ⟨rfl, rfl, rfl, by decide +kernel, rfl, by decide +kernel, by decide +kernel⟩
abbrev s__law_bent : Stmt := topS 64
theorem sc__law_bent : FnScope ["hand", "joint", "wrong", "goods", "methods", "makes", "uses", "work"] ["hand", "joint"] (defScope s__law_bent) := ⟨rfl, rfl, rfl, by decide +kernel, rfl, by decide +kernel, by decide +kernel⟩
abbrev s_law : Stmt := topS 65
theorem sc_law : FnScope ["script", "hand", "turn", "plan", "wrong", "bad", "odd", "book", "made", "wide", "joint", "factor", "goods", "many", "good", "uses", "work", "told", "amounts", "method", "again", "other"] ["script"] (defScope s_law) := ⟨rfl, rfl, rfl, by decide +kernel, rfl, by decide +kernel, by decide +kernel⟩
abbrev s__law_word : Stmt := topS 63
theorem sc__law_word : FnScope ["call", "error", "some", "words"] ["call"] (defScope s__law_word) := ⟨rfl, rfl, rfl, by decide +kernel, rfl, by decide +kernel, by decide +kernel⟩
abbrev sI_TooMany : Stmt := clsS (topS 6) 0
theorem sci_TooMany : FnScope ["self", "most"] ["self", "most"] (defScope sI_TooMany) := ⟨rfl, rfl, rfl, by decide +kernel, rfl, by decide +kernel, by decide +kernel⟩
/-! ### the classes -/
abbrev rowsL : List Str := ["NoBook", "NoPlan", "NoFactor", "TooMany", "NoJoint"]
abbrev colsL : List Str := ["NoBook", "NoPlan", "NoFactor", "TooMany", "NoJoint", "GoodsError"]
def ancL (y T : Str) : Bool := ((y, T) ∈ ([("NoBook", "NoBook"), ("NoBook", "GoodsError"), ("NoPlan", "NoPlan"), ("NoPlan", "GoodsError"), ("NoFactor", "NoFactor"), ("NoFactor", "GoodsError"), ("TooMany", "TooMany"), ("TooMany", "GoodsError"), ("NoJoint", "NoJoint"), ("NoJoint", "GoodsError")] : List (Str × Str)))
noncomputable def ms__law_word : ExA → Str → MS := fun a y => (mSeq (mSet 2 (mL lstO (maC (mIsE a y (some (ancL y "NoBook")) (mV 1)) (maC (mIsE a y (some (ancL y "NoFactor")) (mV 1)) (maC (mIsE a y (some (ancL y "NoJoint")) (mV 1)) maN)))))
    (mSeq (mSet 2 (m2 addO (mV 2) (mL lstO (maC (mIsE a y (some (ancL y "NoPlan")) (mV 1)) (maC (mIsE a y (some (ancL y "TooMany")) (mV 1)) maN)))))
    (mSeq (mSet 3 (mL lstO (maC (mC (.str "book")) (maC (mC (.str "factor")) (maC (mC (.str "joint")) (maC (mC (.str "plan")) (maC (mC (.str "many")) maN)))))))
    (mRet (mIf (mT (m2 eqO (mMeth .lst countO (mV 2) (maC (mC (.bl true)) maN)) (mC (.int 1)))) (m2 ixO (mV 3) (mMeth .lst indexO (mV 2) (maC (mC (.bl true)) maN))) (mC (.str "odd")))))))
noncomputable def mr__law_word : MS := (mRet (mC (.str "let")))
noncomputable abbrev mw__law_word : (DS → Ou D) → DS → Ou D := mWordA 4 1 (fun y => some (ancL y "GoodsError")) ms__law_word mr__law_word
/-! ### what each def does -/
noncomputable def m_is_integer : List D → DS → Ou D := defM 1 1
    (mRet (mAndV (isiM "int" (mV 0)) (mNotV (isiM "bool" (mV 0)))))
noncomputable def m_is_within : List D → DS → Ou D := defM 3 3
    (mRet (mAndV (mL m_is_integer (maC (mV 0) maN)) (mChain leO leO (mV 1) (mV 0) (mV 2))))
noncomputable def m_is_sized : List D → DS → Ou D := defM 3 3
    (mRet (mAndV (isiM "tuple" (mV 0)) (mChain leO leO (mV 1) (mL lenO (maC (mV 0) maN)) (mV 2))))
noncomputable def m_common : List D → DS → Ou D := defM 2 2
    (mSeq (mWhile (mT (m2 neO (mV 1) (mC (.int 0))))
    (mPar 0 1 (maC (mV 1) (maC (m2 modO (mV 0) (mV 1)) maN))))
    (mRet (mL absO (maC (mV 0) maN))))
noncomputable def m_share : List D → DS → Ou D := defM 2 3
    (mSeq (mSet 2 (mL m_common (maC (mV 0) (maC (mV 1) maN))))
    (mSeq (mIfS (mT (m2 ltO (mV 1) (mC (.int 0))))
    (mSet 2 (m1 negO (mV 2)))
    mNx)
    (mRet (mL tupO (maC (m2 fdivO (mV 0) (mV 2)) (maC (m2 fdivO (mV 1) (mV 2)) maN))))))
noncomputable def m_is_share : List D → DS → Ou D := defM 1 1
    (mSeq (mIfS (mOr (mNot (mT (mL m_is_sized (maC (mV 0) (maC (mC (.int 2)) (maC (mC (.int 2)) maN)))))) (mOr (mNot (mT (mL m_is_integer (maC (m2 ixO (mV 0) (mC (.int 0))) maN)))) (mNot (mT (mL m_is_integer (maC (m2 ixO (mV 0) (mC (.int 1))) maN))))))
    (mRet (mC (.bl false)))
    mNx)
    (mRet (mAndV (m2 gtO (m2 ixO (mV 0) (mC (.int 1))) (mC (.int 0))) (m2 eqO (mL m_common (maC (m2 ixO (mV 0) (mC (.int 0))) (maC (m2 ixO (mV 0) (mC (.int 1))) maN))) (mC (.int 1))))))
noncomputable def m_plus : List D → DS → Ou D := defM 2 2
    (mSeq (mIfS (mT (m2 eqO (m2 ixO (mV 0) (mC (.int 1))) (m2 ixO (mV 1) (mC (.int 1)))))
    (mRet (mL m_share (maC (m2 addO (m2 ixO (mV 0) (mC (.int 0))) (m2 ixO (mV 1) (mC (.int 0)))) (maC (m2 ixO (mV 0) (mC (.int 1))) maN))))
    mNx)
    (mRet (mL m_share (maC (m2 addO (m2 mulO (m2 ixO (mV 0) (mC (.int 0))) (m2 ixO (mV 1) (mC (.int 1)))) (m2 mulO (m2 ixO (mV 1) (mC (.int 0))) (m2 ixO (mV 0) (mC (.int 1))))) (maC (m2 mulO (m2 ixO (mV 0) (mC (.int 1))) (m2 ixO (mV 1) (mC (.int 1)))) maN)))))
noncomputable def m_minus : List D → DS → Ou D := defM 2 2
    (mRet (mL m_plus (maC (mV 0) (maC (mL tupO (maC (m1 negO (m2 ixO (mV 1) (mC (.int 0)))) (maC (m2 ixO (mV 1) (mC (.int 1))) maN))) maN))))
noncomputable def m_times : List D → DS → Ou D := defM 2 2
    (mRet (mL m_share (maC (m2 mulO (m2 ixO (mV 0) (mC (.int 0))) (m2 ixO (mV 1) (mC (.int 0)))) (maC (m2 mulO (m2 ixO (mV 0) (mC (.int 1))) (m2 ixO (mV 1) (mC (.int 1)))) maN))))
noncomputable def m_is_amount : List D → DS → Ou D := defM 1 1
    (mRet (mAndV (mL m_is_share (maC (mV 0) maN)) (m2 geO (m2 ixO (mV 0) (mC (.int 0))) (mC (.int 0)))))
noncomputable def m_are_amounts : List D → DS → Ou D := defM 2 3
    (mRet (mAndV (mL m_is_sized (maC (mV 0) (maC (mV 1) (maC (mV 1) maN)))) (mL allO (maC (lcM (mSeqI (mV 0)) (gN 2) mYes (mL m_is_amount (maC (mV 2) maN)) [2] finV) maN))))
noncomputable def m_is_method : List D → DS → Ou D := defM 2 2
    (mSeq (mIfS (mOr (mNot (mT (mL m_is_sized (maC (mV 1) (maC (mC (.int 3)) (maC (mC (.int 3)) maN)))))) (mNot (mT (mL m_is_within (maC (m2 ixO (mV 1) (mC (.int 0))) (maC (mC (.int 0)) (maC (m2 subO (mV 0) (mC (.int 1))) maN)))))))
    (mRet (mC (.bl false)))
    mNx)
    (mRet (mAndV (mL m_are_amounts (maC (m2 ixO (mV 1) (mC (.int 1))) (maC (mV 0) maN))) (mL m_is_amount (maC (m2 ixO (mV 1) (mC (.int 2))) maN)))))
noncomputable def m_is_book : List D → DS → Ou D := defM 1 2
    (mSeq (mIfS (mOr (mNot (mT (mL m_is_sized (maC (mV 0) (maC (mC (.int 2)) (maC (mC (.int 2)) maN)))))) (mNot (mT (mL m_is_within (maC (m2 ixO (mV 0) (mC (.int 0))) (maC (mC (.int 1)) (maC (mC (.int 6)) maN)))))))
    (mRet (mC (.bl false)))
    mNx)
    (mRet (mAndV (mL m_is_sized (maC (m2 ixO (mV 0) (mC (.int 1))) (maC (mC (.int 1)) (maC (mC (.int 20)) maN)))) (mL allO (maC (lcM (mSeqI (m2 ixO (mV 0) (mC (.int 1)))) (gN 1) mYes (mL m_is_method (maC (m2 ixO (mV 0) (mC (.int 0))) (maC (mV 1) maN))) [1] finV) maN)))))
noncomputable def m_check_book : List D → DS → Ou D := defM 1 1
    (mIfS (mNot (mT (mL m_is_book (maC (mV 0) maN))))
    (mRaise "NoBook")
    mNx)
noncomputable def m_is_plan_of : List D → DS → Ou D := defM 2 2
    (mRet (mL m_are_amounts (maC (mV 1) (maC (mL lenO (maC (m2 ixO (mV 0) (mC (.int 1))) maN)) maN))))
noncomputable def m_check_plan : List D → DS → Ou D := defM 2 2
    (mSeq (mDo (mL m_check_book (maC (mV 0) maN)))
    (mIfS (mNot (mT (mL m_is_plan_of (maC (mV 0) (maC (mV 1) maN)))))
    (mRaise "NoPlan")
    mNx))
noncomputable def m_check_factor : List D → DS → Ou D := defM 1 1
    (mIfS (mNot (mT (mL m_is_amount (maC (mV 0) maN))))
    (mRaise "NoFactor")
    mNx)
noncomputable def m_made_by : List D → DS → Ou D := defD 2 7
    (mSeq (mSet 2 (m2 mulR (mL lstO (maC (mC (.tup [(.int 0), (.int 1)])) maN)) (m2 ixO (mV 0) (mC (.int 0)))))
    (mSeq (mFor (mArgI zipO (maC (m2 ixO (mV 0) (mC (.int 1))) (maC (mV 1) maN))) (gT 2 (gsC (gT 3 (gsC (gN 4) (gsC (gN 5) (gsC (gN 6) gsN)))) (gsC (gN 3) gsN)))
    (mAsg (gSubM (mV 2) (mV 4) setO) (mL m_plus (maC (m2 ixO (mV 2) (mV 4)) (maC (mV 3) maN)))))
    (mRet (mL tupleO (maC (mV 2) maN)))))
noncomputable def m_used_by : List D → DS → Ou D := defM 2 9
    (mSeq (mSet 2 (m2 mulO (mL lstO (maC (mC (.tup [(.int 0), (.int 1)])) maN)) (m2 ixO (mV 0) (mC (.int 0)))))
    (mSeq (mFor (mArgI zipO (maC (m2 ixO (mV 0) (mC (.int 1))) (maC (mV 1) maN))) (gT 2 (gsC (gT 3 (gsC (gN 4) (gsC (gN 5) (gsC (gN 6) gsN)))) (gsC (gN 3) gsN)))
    (mIfS (mT (m2 neO (mV 3) (mC (.tup [(.int 0), (.int 1)]))))
    (mSet 2 (lcM (mArgI zipO (maC (mV 2) (maC (mV 5) maN))) (gT 2 (gsC (gN 7) (gsC (gN 8) gsN))) mYes (mL m_plus (maC (mV 7) (maC (mL m_times (maC (mV 3) (maC (mV 8) maN))) maN))) [7, 8] finV))
    mNx))
    (mRet (mL tupleO (maC (mV 2) maN)))))
noncomputable def m_net_of : List D → DS → Ou D := defM 3 6
    (mZipRet 3 (maC (mL m_made_by (maC (mV 0) (maC (mV 1) maN))) (maC (mL m_used_by (maC (mV 0) (maC (mV 1) maN))) maN)) (gT 2 (gsC (gN 4) (gsC (gN 5) gsN))) (mL m_minus (maC (mV 4) (maC (mL m_times (maC (mV 2) (maC (mV 5) maN))) maN))) [4, 5])
noncomputable def m_net : List D → DS → Ou D := defM 3 3
    (mSeq (mDo (mL m_check_plan (maC (mV 0) (maC (mV 1) maN))))
    (mSeq (mDo (mL m_check_factor (maC (mV 2) maN)))
    (mRet (mL m_net_of (maC (mV 0) (maC (mV 1) (maC (mV 2) maN)))))))
noncomputable def m_dot : List D → DS → Ou D := defM 2 5
    (mSeq (mSet 2 (mC (.tup [(.int 0), (.int 1)])))
    (mSeq (mFor (mArgI zipO (maC (mV 0) (maC (mV 1) maN))) (gT 2 (gsC (gN 3) (gsC (gN 4) gsN)))
    (mSet 2 (mL m_plus (maC (mV 2) (maC (mL m_times (maC (mV 3) (maC (mV 4) maN))) maN)))))
    (mRet (mV 2))))
noncomputable def m_is_joint_method : List D → DS → Ou D := defM 2 2
    (mSeq (mIfS (mOr (mNot (mT (mL m_is_sized (maC (mV 1) (maC (mC (.int 3)) (maC (mC (.int 3)) maN)))))) (mNot (mT (mL m_are_amounts (maC (m2 ixO (mV 1) (mC (.int 0))) (maC (mV 0) maN))))))
    (mRet (mC (.bl false)))
    mNx)
    (mRet (mAndV (mL m_are_amounts (maC (m2 ixO (mV 1) (mC (.int 1))) (maC (mV 0) maN))) (mL m_is_amount (maC (m2 ixO (mV 1) (mC (.int 2))) maN)))))
noncomputable def m_is_joint : List D → DS → Ou D := defM 1 2
    (mSeq (mIfS (mOr (mNot (mT (mL m_is_sized (maC (mV 0) (maC (mC (.int 2)) (maC (mC (.int 2)) maN)))))) (mNot (mT (mL m_is_within (maC (m2 ixO (mV 0) (mC (.int 0))) (maC (mC (.int 1)) (maC (mC (.int 6)) maN)))))))
    (mRet (mC (.bl false)))
    mNx)
    (mRet (mAndV (mL m_is_sized (maC (m2 ixO (mV 0) (mC (.int 1))) (maC (mC (.int 1)) (maC (mC (.int 16)) maN)))) (mL allO (maC (lcM (mSeqI (m2 ixO (mV 0) (mC (.int 1)))) (gN 1) mYes (mL m_is_joint_method (maC (m2 ixO (mV 0) (mC (.int 0))) (maC (mV 1) maN))) [1] finV) maN)))))
noncomputable def m_joint_of : List D → DS → Ou D := defD 1 6
    (mSeq (mDo (mL m_check_book (maC (mV 0) maN)))
    (mSeq (mIfS (mT (m2 gtO (mL lenO (maC (m2 ixO (mV 0) (mC (.int 1))) maN)) (mC (.int 16))))
    (mRaiseF "TooMany" "most" (maC (mC (.int 16)) maN))
    mNx)
    (mSeq (mSet 1 (mL refO maN))
    (mSeq (mFor (mSeqI (m2 ixO (mV 0) (mC (.int 1)))) (gT 3 (gsC (gN 2) (gsC (gN 3) (gsC (gN 4) gsN))))
    (mDo (mMeth .lst appendO (mV 1) (maC (mL tupO (maC (mL tupleO (maC (lcM (mArgI rng1O (maC (m2 ixO (mV 0) (mC (.int 0))) maN)) (gN 5) mYes (mIf (mT (m2 eqO (mV 5) (mV 2))) (mC (.tup [(.int 1), (.int 1)])) (mC (.tup [(.int 0), (.int 1)]))) [5] finV) maN)) (maC (mV 3) (maC (mV 4) maN)))) maN))))
    (mRet (mL tupO (maC (m2 ixO (mV 0) (mC (.int 0))) (maC (mL tupleO (maC (mV 1) maN)) maN))))))))
noncomputable def m_check : List D → DS → Ou D := defM 2 2
    (mSeq (mIfS (mNot (mT (mL m_is_joint (maC (mV 0) maN))))
    (mRaise "NoJoint")
    mNx)
    (mIfS (mNot (mT (mL m_is_amount (maC (mV 1) maN))))
    (mRaise "NoFactor")
    mNx))
noncomputable def m_net_of_method : List D → DS → Ou D := defM 2 4
    (mRet (lcM (mArgI zipO (maC (m2 ixO (mV 0) (mC (.int 0))) (maC (m2 ixO (mV 0) (mC (.int 1))) maN))) (gT 2 (gsC (gN 2) (gsC (gN 3) gsN))) mYes (mL m_minus (maC (mV 2) (maC (mL m_times (maC (mV 1) (maC (mV 3) maN))) maN))) [2, 3] finV))
noncomputable def m_net_rows : List D → DS → Ou D := defM 2 6
    (mSeq (mSet 2 (lcM (mSeqI (m2 ixO (mV 0) (mC (.int 1)))) (gN 3) mYes (mL m_net_of_method (maC (mV 3) (maC (mV 1) maN))) [3] finV))
    (mRet (lcM (mArgI rng1O (maC (m2 ixO (mV 0) (mC (.int 0))) maN)) (gN 4) mYes (lcM (mSeqI (mV 2)) (gN 5) mYes (m2 ixO (mV 5) (mV 4)) [5] finV) [4] finV)))
noncomputable def m_raw_net : List D → DS → Ou D := defM 3 4
    (mRet (mL tupleO (maC (lcM (mSeqI (mL m_net_rows (maC (mV 0) (maC (mV 2) maN)))) (gN 3) mYes (mL m_dot (maC (mV 3) (maC (mV 1) maN))) [3] finV) maN)))
noncomputable def m_joint_net : List D → DS → Ou D := defM 3 3
    (mSeq (mIfS (mNot (mT (mL m_is_joint (maC (mV 0) maN))))
    (mRaise "NoJoint")
    mNx)
    (mSeq (mIfS (mNot (mT (mL m_are_amounts (maC (mV 1) (maC (mL lenO (maC (m2 ixO (mV 0) (mC (.int 1))) maN)) maN)))))
    (mRaise "NoPlan")
    mNx)
    (mSeq (mDo (mL m_check (maC (mV 0) (maC (mV 2) maN))))
    (mRet (mL m_raw_net (maC (mV 0) (maC (mV 1) (maC (mV 2) maN))))))))
noncomputable def m_law_hand : List D → DS → Ou D := defM 1 3
    (mSeq (mSet 1 (lcM (mSeqI (mSl slO (mV 0) moN (moS (mC (.int 63))))) (gN 2) mYes (mL absO (maC (mL intO (maC (mV 2) maN)) maN)) [2] finV))
    (mRet (mL refO (maC (mV 1) (maC (mC (.int 0)) (maC (mC (.int 0)) (maC (m2 addO (mC (.int 97)) (m2 mulO (mC (.int 5)) (mL lenO (maC (mV 1) maN)))) (maC (mC (.int 0)) maN))))))))
noncomputable def m_law_draw : List D → DS → Ou D := defM 2 5
    (mSeq (mIfS (mAnd (mT (m2 eqO (m2 ixO (mV 0) (mC (.int 2))) (mC (.int 0)))) (mT (m2 ltO (m2 ixO (mV 0) (mC (.int 1))) (mL lenO (maC (m2 ixO (mV 0) (mC (.int 0))) maN)))))
    (mSeq (mSet 3 (m2 ixO (m2 ixO (mV 0) (mC (.int 0))) (m2 ixO (mV 0) (mC (.int 1)))))
    (mSeq (mAsg (gSubM (mV 0) (mC (.int 1)) setO) (m2 addO (m2 ixO (mV 0) (mC (.int 1))) (mC (.int 1))))
    (mSeq (mAsg (gSubM (mV 0) (mC (.int 3)) setO) (m2 modO (mL intO (maC (m2 addO (m2 addO (m2 mulO (m2 ixO (mV 0) (mC (.int 3))) (mC (.int 48271))) (mV 3)) (mC (.int 31))) maN)) (mC (.int 2147483647))))
    (mIfS (mT (m2 geO (mV 3) (m2 powO (mC (.int 10)) (mC (.int 18)))))
    (mAsg (gSubM (mV 0) (mC (.int 2)) setO) (mV 3))
    mNx))))
    mNx)
    (mSeq (mIfS (mT (m2 gtO (m2 ixO (mV 0) (mC (.int 2))) (mC (.int 0))))
    (mSeq (mSet 4 (m2 modO (mL intO (maC (m2 ixO (mV 0) (mC (.int 2))) maN)) (mV 1)))
    (mSeq (mAsg (gSubM (mV 0) (mC (.int 2)) setO) (m2 fdivO (m2 ixO (mV 0) (mC (.int 2))) (mV 1)))
    (mRet (mV 4))))
    mNx)
    (mSeq (mAsg (gSubM (mV 0) (mC (.int 4)) setO) (m2 addO (m2 ixO (mV 0) (mC (.int 4))) (mC (.int 1))))
    (mSeq (mSet 2 (m2 modO (mL intO (maC (m2 mulO (mL intO (maC (m2 addO (m2 ixO (mV 0) (mC (.int 3))) (m2 mulO (mC (.int 6151)) (m2 ixO (mV 0) (mC (.int 4))))) maN)) (mC (.int 40692))) maN)) (mC (.int 2147483399))))
    (mSeq (mSet 2 (m2 modO (mL intO (maC (m2 mulO (mV 2) (m2 addO (m2 fdivO (mV 2) (mC (.int 1223))) (mC (.int 52027)))) maN)) (mC (.int 2147483629))))
    (mSeq (mSet 2 (m2 modO (mL intO (maC (m2 mulO (mV 2) (m2 addO (m2 fdivO (mV 2) (mC (.int 2671))) (mC (.int 69621)))) maN)) (mC (.int 2147483647))))
    (mRet (m2 modO (mL intO (maC (m2 fdivO (mV 2) (mC (.int 32))) maN)) (mV 1)))))))))
noncomputable def m_law_some : List D → DS → Ou D := defM 2 2
    (mRet (m2 ixO (mV 1) (mL m_law_draw (maC (mV 0) (maC (mL lenO (maC (mV 1) maN)) maN)))))
noncomputable def m_law_low : List D → DS → Ou D := defM 2 4
    (mSeq (mPar 3 2 (maC (mL absO (maC (mV 0) maN)) (maC (mL absO (maC (mV 1) maN)) maN)))
    (mSeq (mWhile (mT (m2 gtO (mV 3) (mC (.int 0))))
    (mPar 3 2 (maC (m2 modO (mL intO (maC (mV 2) maN)) (mV 3)) (maC (mV 3) maN))))
    (mSeq (mSet 2 (mIf (mT (m2 gtO (mV 1) (mC (.int 0)))) (mV 2) (m2 subO (mC (.int 0)) (mV 2))))
    (mRet (mL tupO (maC (m2 fdivO (mV 0) (mV 2)) (maC (m2 fdivO (mV 1) (mV 2)) maN)))))))
noncomputable def m_law_plus : List D → DS → Ou D := defM 2 2
    (mRet (mL m_law_low (maC (m2 addO (m2 mulO (m2 ixO (mV 0) (mC (.int 0))) (m2 ixO (mV 1) (mC (.int 1)))) (m2 mulO (m2 ixO (mV 1) (mC (.int 0))) (m2 ixO (mV 0) (mC (.int 1))))) (maC (m2 mulO (m2 ixO (mV 0) (mC (.int 1))) (m2 ixO (mV 1) (mC (.int 1)))) maN))))
noncomputable def m_law_minus : List D → DS → Ou D := defM 2 2
    (mRet (mL m_law_plus (maC (mV 0) (maC (mL tupO (maC (m2 subO (mC (.int 0)) (m2 ixO (mV 1) (mC (.int 0)))) (maC (m2 ixO (mV 1) (mC (.int 1))) maN))) maN))))
noncomputable def m_law_times : List D → DS → Ou D := defM 2 2
    (mRet (mL m_law_low (maC (m2 mulO (m2 ixO (mV 0) (mC (.int 0))) (m2 ixO (mV 1) (mC (.int 0)))) (maC (m2 mulO (m2 ixO (mV 0) (mC (.int 1))) (m2 ixO (mV 1) (mC (.int 1)))) maN))))
noncomputable def m_law_sum : List D → DS → Ou D := defM 1 3
    (mSeq (mSet 1 (mL tupO (maC (mC (.int 0)) (maC (mC (.int 1)) maN))))
    (mSeq (mFor (mSeqI (mV 0)) (gN 2)
    (mSet 1 (mL m_law_plus (maC (mV 1) (maC (mV 2) maN)))))
    (mRet (mV 1))))
noncomputable def m_law_amount : List D → DS → Ou D := defM 1 1
    (mRet (mL m_law_some (maC (mV 0) (maC (mL lstO (maC (mL tupO (maC (mC (.int 0)) (maC (mC (.int 1)) maN))) (maC (mL tupO (maC (mC (.int 0)) (maC (mC (.int 1)) maN))) (maC (mL tupO (maC (mC (.int 0)) (maC (mC (.int 1)) maN))) (maC (mL tupO (maC (mC (.int 1)) (maC (mC (.int 2)) maN))) (maC (mL tupO (maC (mC (.int 1)) (maC (mC (.int 3)) maN))) (maC (mL tupO (maC (mC (.int 1)) (maC (mC (.int 4)) maN))) (maC (mL tupO (maC (mC (.int 1)) (maC (mC (.int 10)) maN))) (maC (mL tupO (maC (mC (.int 2)) (maC (mC (.int 5)) maN))) (maC (mL tupO (maC (mC (.int 1)) (maC (mC (.int 1)) maN))) (maC (mL tupO (maC (mC (.int 3)) (maC (mC (.int 2)) maN))) maN))))))))))) maN))))
noncomputable def m_law_method : List D → DS → Ou D := defM 2 4
    (mSeq (mSet 2 (mL tupleO (maC (lcM (mArgI rng1O (maC (mV 1) maN)) (gN 3) mYes (mL m_law_amount (maC (mV 0) maN)) [3] finV) maN)))
    (mRet (mL tupO (maC (mL m_law_draw (maC (mV 0) (maC (mV 1) maN))) (maC (mV 2) (maC (mL m_law_some (maC (mV 0) (maC (mL lstO (maC (mL tupO (maC (mC (.int 1)) (maC (mC (.int 1)) maN))) (maC (mL tupO (maC (mC (.int 2)) (maC (mC (.int 1)) maN))) (maC (mL tupO (maC (mC (.int 1)) (maC (mC (.int 2)) maN))) (maC (mL tupO (maC (mC (.int 5)) (maC (mC (.int 3)) maN))) (maC (mL tupO (maC (mC (.int 0)) (maC (mC (.int 1)) maN))) (maC (mL tupO (maC (mC (.int 7)) (maC (mC (.int 1)) maN))) maN))))))) maN))) maN))))))
noncomputable def m_law_joint : List D → DS → Ou D := defD 1 7
    (mSeq (mPar 2 3 (maC (m2 addO (mC (.int 1)) (mL m_law_draw (maC (mV 0) (maC (mC (.int 3)) maN)))) (maC (mL refO maN) maN)))
    (mSeq (mFor (mArgI rng1O (maC (m2 addO (mC (.int 1)) (mL m_law_draw (maC (mV 0) (maC (mC (.int 5)) maN)))) maN)) (gN 1)
    (mSeq (mSet 4 (mL tupleO (maC (lcM (mArgI rng1O (maC (mV 2) maN)) (gN 6) mYes (mL m_law_some (maC (mV 0) (maC (mL lstO (maC (mL tupO (maC (mC (.int 0)) (maC (mC (.int 1)) maN))) (maC (mL tupO (maC (mC (.int 0)) (maC (mC (.int 1)) maN))) (maC (mL tupO (maC (mC (.int 1)) (maC (mC (.int 1)) maN))) (maC (mL tupO (maC (mC (.int 1)) (maC (mC (.int 2)) maN))) (maC (mL tupO (maC (mC (.int 2)) (maC (mC (.int 1)) maN))) (maC (mL tupO (maC (mC (.int 3)) (maC (mC (.int 4)) maN))) maN))))))) maN))) [6] finV) maN)))
    (mSeq (mSet 5 (mL tupleO (maC (lcM (mArgI rng1O (maC (mV 2) maN)) (gN 6) mYes (mL m_law_some (maC (mV 0) (maC (mL lstO (maC (mL tupO (maC (mC (.int 0)) (maC (mC (.int 1)) maN))) (maC (mL tupO (maC (mC (.int 0)) (maC (mC (.int 1)) maN))) (maC (mL tupO (maC (mC (.int 1)) (maC (mC (.int 2)) maN))) (maC (mL tupO (maC (mC (.int 1)) (maC (mC (.int 3)) maN))) (maC (mL tupO (maC (mC (.int 1)) (maC (mC (.int 1)) maN))) (maC (mL tupO (maC (mC (.int 3)) (maC (mC (.int 2)) maN))) maN))))))) maN))) [6] finV) maN)))
    (mDo (mMeth .lst appendO (mV 3) (maC (mL tupO (maC (mV 4) (maC (mV 5) (maC (mL m_law_some (maC (mV 0) (maC (mL lstO (maC (mL tupO (maC (mC (.int 1)) (maC (mC (.int 1)) maN))) (maC (mL tupO (maC (mC (.int 2)) (maC (mC (.int 1)) maN))) (maC (mL tupO (maC (mC (.int 1)) (maC (mC (.int 2)) maN))) (maC (mL tupO (maC (mC (.int 0)) (maC (mC (.int 1)) maN))) (maC (mL tupO (maC (mC (.int 7)) (maC (mC (.int 3)) maN))) maN)))))) maN))) maN)))) maN))))))
    (mRet (mL tupO (maC (mV 2) (maC (mL tupleO (maC (mV 3) maN)) maN))))))
noncomputable def m_law_net : List D → DS → Ou D := defD 3 9
    (mSeq (mSet 3 (mL refO maN))
    (mSeq (mFor (mArgI rng1O (maC (m2 ixO (mV 0) (mC (.int 0))) maN)) (gN 4)
    (mSeq (mSet 5 (mL m_law_sum (maC (lcM (mArgI zipO (maC (m2 ixO (mV 0) (mC (.int 1))) (maC (mV 1) maN))) (gT 2 (gsC (gN 7) (gsC (gN 8) gsN))) mYes (mL m_law_times (maC (mV 8) (maC (m2 ixO (m2 ixO (mV 7) (mC (.int 0))) (mV 4)) maN))) [7, 8] finV) maN)))
    (mSeq (mSet 6 (mL m_law_sum (maC (lcM (mArgI zipO (maC (m2 ixO (mV 0) (mC (.int 1))) (maC (mV 1) maN))) (gT 2 (gsC (gN 7) (gsC (gN 8) gsN))) mYes (mL m_law_times (maC (mV 8) (maC (m2 ixO (m2 ixO (mV 7) (mC (.int 1))) (mV 4)) maN))) [7, 8] finV) maN)))
    (mDo (mMeth .lst appendO (mV 3) (maC (mL m_law_minus (maC (mV 5) (maC (mL m_law_times (maC (mV 2) (maC (mV 6) maN))) maN))) maN))))))
    (mRet (mL tupleO (maC (mV 3) maN)))))
noncomputable def m_law_factor : List D → DS → Ou D := defM 1 1
    (mRet (mL m_law_some (maC (mV 0) (maC (mL lstO (maC (mL tupO (maC (mC (.int 0)) (maC (mC (.int 1)) maN))) (maC (mL tupO (maC (mC (.int 1)) (maC (mC (.int 1)) maN))) (maC (mL tupO (maC (mC (.int 1)) (maC (mC (.int 2)) maN))) (maC (mL tupO (maC (mC (.int 5)) (maC (mC (.int 4)) maN))) (maC (mL tupO (maC (mC (.int 2)) (maC (mC (.int 1)) maN))) (maC (mL tupO (maC (mC (.int 7)) (maC (mC (.int 1)) maN))) (maC (mL tupO (maC (mC (.int 1)) (maC (mC (.int 100)) maN))) maN)))))))) maN))))
noncomputable def m_law_deep : List D → DS → Ou D := defM 1 3
    (mSeq (mSet 1 (m2 ixO (mL lstO (maC (mC .non) (maC (mC (.str "a")) (maC (m1 negO (mC (.int 1))) (maC mDct (maC (mC (.bl true)) maN)))))) (mL m_law_draw (maC (mV 0) (maC (mC (.int 5)) maN)))))
    (mSeq (mFor (mArgI rng1O (maC (m2 addO (mC (.int 1)) (mL m_law_draw (maC (mV 0) (maC (mC (.int 28)) maN)))) maN)) (gN 2)
    (mSet 1 (m2 ixO (mL lstO (maC (mL tupO (maC (mV 1) maN)) (maC (mL lstO (maC (mV 1) maN)) (maC (mDct1 1) maN)))) (mL m_law_draw (maC (mV 0) (maC (mC (.int 3)) maN))))))
    (mRet (mV 1))))
noncomputable def m_law_odd : List D → DS → Ou D := defM 1 1
    (mRet (mL m_law_some (maC (mV 0) (maC (mL lstO (maC (mC .non) (maC (mC (.bl true)) (maC (mC (.bl false)) (maC (mC (.int 0)) (maC (m1 negO (mC (.int 1))) (maC (mC (.int 999)) (maC (m2 shlO (mC (.int 1)) (mC (.int 63))) (maC (mC (.str "p")) (maC (mC (.str "")) (maC (mL tupO maN) (maC (mL lstO maN) (maC mDct (maC (mL tupO (maC (mC (.int 1)) maN)) (maC (mL tupO (maC (mC (.str "a")) maN)) (maC (mL m_law_deep (maC (mV 0) maN)) maN)))))))))))))))) maN))))
noncomputable def m_law_is_0 : List D → DS → Ou D := fun _ _ => .no
noncomputable def m_law_is_1 : List D → DS → Ou D := defM 2 4
    (mSeq (mIfS (mT (isiM2 "tuple" "list" (mV 1)))
    (mSeq (mIfS (mOr (mT (m2 neO (isiM "tuple" (mV 0)) (isiM "tuple" (mV 1)))) (mNot (mT (isiM2 "tuple" "list" (mV 0)))))
    (mRet (mC (.bl false)))
    mNx)
    (mRet (mAndV (m2 eqO (mL lenO (maC (mV 0) maN)) (mL lenO (maC (mV 1) maN))) (mL allO (maC (lcM (mArgI zipO (maC (mV 0) (maC (mV 1) maN))) (gT 2 (gsC (gN 2) (gsC (gN 3) gsN))) mYes (mL m_law_is_0 (maC (mV 2) (maC (mV 3) maN))) [2, 3] finV) maN)))))
    mNx)
    (mSeq (mIfS (mOr (mT (isiM "str" (mV 1))) (mT (m2 isO (mV 1) (mC .non))))
    (mRet (mAndV (m2 eqO (isiM "str" (mV 0)) (isiM "str" (mV 1))) (m2 eqO (mV 0) (mV 1))))
    mNx)
    (mRet (mAndV (isiM "int" (mV 0)) (mAndV (m2 eqO (isiM "bool" (mV 0)) (isiM "bool" (mV 1))) (m2 eqO (mV 0) (mV 1)))))))
noncomputable def m_law_is_2 : List D → DS → Ou D := defM 2 4
    (mSeq (mIfS (mT (isiM2 "tuple" "list" (mV 1)))
    (mSeq (mIfS (mOr (mT (m2 neO (isiM "tuple" (mV 0)) (isiM "tuple" (mV 1)))) (mNot (mT (isiM2 "tuple" "list" (mV 0)))))
    (mRet (mC (.bl false)))
    mNx)
    (mRet (mAndV (m2 eqO (mL lenO (maC (mV 0) maN)) (mL lenO (maC (mV 1) maN))) (mL allO (maC (lcM (mArgI zipO (maC (mV 0) (maC (mV 1) maN))) (gT 2 (gsC (gN 2) (gsC (gN 3) gsN))) mYes (mL m_law_is_1 (maC (mV 2) (maC (mV 3) maN))) [2, 3] finV) maN)))))
    mNx)
    (mSeq (mIfS (mOr (mT (isiM "str" (mV 1))) (mT (m2 isO (mV 1) (mC .non))))
    (mRet (mAndV (m2 eqO (isiM "str" (mV 0)) (isiM "str" (mV 1))) (m2 eqO (mV 0) (mV 1))))
    mNx)
    (mRet (mAndV (isiM "int" (mV 0)) (mAndV (m2 eqO (isiM "bool" (mV 0)) (isiM "bool" (mV 1))) (m2 eqO (mV 0) (mV 1)))))))
noncomputable def m_law_is_3 : List D → DS → Ou D := defM 2 4
    (mSeq (mIfS (mT (isiM2 "tuple" "list" (mV 1)))
    (mSeq (mIfS (mOr (mT (m2 neO (isiM "tuple" (mV 0)) (isiM "tuple" (mV 1)))) (mNot (mT (isiM2 "tuple" "list" (mV 0)))))
    (mRet (mC (.bl false)))
    mNx)
    (mRet (mAndV (m2 eqO (mL lenO (maC (mV 0) maN)) (mL lenO (maC (mV 1) maN))) (mL allO (maC (lcM (mArgI zipO (maC (mV 0) (maC (mV 1) maN))) (gT 2 (gsC (gN 2) (gsC (gN 3) gsN))) mYes (mL m_law_is_2 (maC (mV 2) (maC (mV 3) maN))) [2, 3] finV) maN)))))
    mNx)
    (mSeq (mIfS (mOr (mT (isiM "str" (mV 1))) (mT (m2 isO (mV 1) (mC .non))))
    (mRet (mAndV (m2 eqO (isiM "str" (mV 0)) (isiM "str" (mV 1))) (m2 eqO (mV 0) (mV 1))))
    mNx)
    (mRet (mAndV (isiM "int" (mV 0)) (mAndV (m2 eqO (isiM "bool" (mV 0)) (isiM "bool" (mV 1))) (m2 eqO (mV 0) (mV 1)))))))
noncomputable def m_law_is_4 : List D → DS → Ou D := defM 2 4
    (mSeq (mIfS (mT (isiM2 "tuple" "list" (mV 1)))
    (mSeq (mIfS (mOr (mT (m2 neO (isiM "tuple" (mV 0)) (isiM "tuple" (mV 1)))) (mNot (mT (isiM2 "tuple" "list" (mV 0)))))
    (mRet (mC (.bl false)))
    mNx)
    (mRet (mAndV (m2 eqO (mL lenO (maC (mV 0) maN)) (mL lenO (maC (mV 1) maN))) (mL allO (maC (lcM (mArgI zipO (maC (mV 0) (maC (mV 1) maN))) (gT 2 (gsC (gN 2) (gsC (gN 3) gsN))) mYes (mL m_law_is_3 (maC (mV 2) (maC (mV 3) maN))) [2, 3] finV) maN)))))
    mNx)
    (mSeq (mIfS (mOr (mT (isiM "str" (mV 1))) (mT (m2 isO (mV 1) (mC .non))))
    (mRet (mAndV (m2 eqO (isiM "str" (mV 0)) (isiM "str" (mV 1))) (m2 eqO (mV 0) (mV 1))))
    mNx)
    (mRet (mAndV (isiM "int" (mV 0)) (mAndV (m2 eqO (isiM "bool" (mV 0)) (isiM "bool" (mV 1))) (m2 eqO (mV 0) (mV 1)))))))
noncomputable def m_law_is_5 : List D → DS → Ou D := defM 2 4
    (mSeq (mIfS (mT (isiM2 "tuple" "list" (mV 1)))
    (mSeq (mIfS (mOr (mT (m2 neO (isiM "tuple" (mV 0)) (isiM "tuple" (mV 1)))) (mNot (mT (isiM2 "tuple" "list" (mV 0)))))
    (mRet (mC (.bl false)))
    mNx)
    (mRet (mAndV (m2 eqO (mL lenO (maC (mV 0) maN)) (mL lenO (maC (mV 1) maN))) (mL allO (maC (lcM (mArgI zipO (maC (mV 0) (maC (mV 1) maN))) (gT 2 (gsC (gN 2) (gsC (gN 3) gsN))) mYes (mL m_law_is_4 (maC (mV 2) (maC (mV 3) maN))) [2, 3] finV) maN)))))
    mNx)
    (mSeq (mIfS (mOr (mT (isiM "str" (mV 1))) (mT (m2 isO (mV 1) (mC .non))))
    (mRet (mAndV (m2 eqO (isiM "str" (mV 0)) (isiM "str" (mV 1))) (m2 eqO (mV 0) (mV 1))))
    mNx)
    (mRet (mAndV (isiM "int" (mV 0)) (mAndV (m2 eqO (isiM "bool" (mV 0)) (isiM "bool" (mV 1))) (m2 eqO (mV 0) (mV 1)))))))
noncomputable def m_law_is : List D → DS → Ou D := defM 2 4
    (mSeq (mIfS (mT (isiM2 "tuple" "list" (mV 1)))
    (mSeq (mIfS (mOr (mT (m2 neO (isiM "tuple" (mV 0)) (isiM "tuple" (mV 1)))) (mNot (mT (isiM2 "tuple" "list" (mV 0)))))
    (mRet (mC (.bl false)))
    mNx)
    (mRet (mAndV (m2 eqO (mL lenO (maC (mV 0) maN)) (mL lenO (maC (mV 1) maN))) (mL allO (maC (lcM (mArgI zipO (maC (mV 0) (maC (mV 1) maN))) (gT 2 (gsC (gN 2) (gsC (gN 3) gsN))) mYes (mL m_law_is_5 (maC (mV 2) (maC (mV 3) maN))) [2, 3] finV) maN)))))
    mNx)
    (mSeq (mIfS (mOr (mT (isiM "str" (mV 1))) (mT (m2 isO (mV 1) (mC .non))))
    (mRet (mAndV (m2 eqO (isiM "str" (mV 0)) (isiM "str" (mV 1))) (m2 eqO (mV 0) (mV 1))))
    mNx)
    (mRet (mAndV (isiM "int" (mV 0)) (mAndV (m2 eqO (isiM "bool" (mV 0)) (isiM "bool" (mV 1))) (m2 eqO (mV 0) (mV 1)))))))
noncomputable def m_law_bent : List D → DS → Ou D := defM 2 8
    (mSeq (mAsg (gT 2 (gsC (gN 3) (gsC (gN 4) gsN))) (mV 1))
    (mSeq (mAsg (gT 3 (gsC (gN 5) (gsC (gN 6) (gsC (gN 7) gsN)))) (m2 ixO (mV 4) (mC (.int 0))))
    (mSeq (mSet 2 (mL lstO (maC (mL listO (maC (mV 1) maN)) (maC (mL tupO (maC (mV 3) (maC (mL listO (maC (mV 4) maN)) maN))) (maC (mL tupO (maC (mV 3) (maC (mL tupO maN) maN))) (maC (mL tupO (maC (m2 addO (mV 3) (mC (.int 1))) (maC (mV 4) maN))) (maC (mL tupO (maC (mC (.int 0)) (maC (mV 4) maN))) (maC (mL tupO (maC (mC (.int 7)) (maC (mV 4) maN))) maN))))))))
    (mSeq (mSet 2 (m2 addO (mV 2) (mL lstO (maC (mL tupO (maC (mV 3) (maC (m2 mulO (mSl slO (mV 4) moN (moS (mC (.int 1)))) (mC (.int 17))) maN))) (maC (mL tupO (maC (mV 3) (maC (mL tupO (maC (mL tupO (maC (mV 5) (maC (mV 6) maN))) maN)) maN))) (maC (mL tupO (maC (mV 3) (maC (mL tupO (maC (mL tupO (maC (mV 5) (maC (mV 6) (maC (mC (.int 1)) maN)))) maN)) maN))) maN))))))
    (mSeq (mSet 2 (m2 addO (mV 2) (mL lstO (maC (mL tupO (maC (mV 3) (maC (mL tupO (maC (mL tupO (maC (mV 5) (maC (mV 6) (maC (mL tupO (maC (m1 negO (mC (.int 1))) (maC (mC (.int 2)) maN))) maN)))) maN)) maN))) (maC (mL tupO (maC (mV 3) (maC (mL tupO (maC (mL tupO (maC (mV 5) (maC (mV 6) (maC (mL tupO (maC (mC (.int 2)) (maC (mC (.int 4)) maN))) maN)))) maN)) maN))) (maC (mL tupO (maC (mC (.bl true)) (maC (mSl slO (mV 4) moN (moS (mC (.int 0)))) maN))) maN))))))
    (mSeq (mSet 2 (m2 addO (mV 2) (mL lstO (maC (mL tupO (maC (mV 3) (maC (mL tupO (maC (mL tupO (maC (mSl slO (mV 5) (moS (mC (.int 1))) moN) (maC (mV 6) (maC (mV 7) maN)))) maN)) maN))) (maC (mL tupO (maC (mV 3) (maC (mL tupO (maC (mL tupO (maC (mV 5) (maC (m2 addO (mV 6) (mL tupO (maC (mL tupO (maC (mC (.int 0)) (maC (mC (.int 1)) maN))) maN))) (maC (mV 7) maN)))) maN)) maN))) (maC (m2 addO (mV 1) (mL tupO (maC (mC (.int 1)) maN))) maN))))))
    (mSeq (mSet 2 (m2 addO (mV 2) (mL lstO (maC (mL tupO (maC (mV 3) (maC (mL tupO (maC (mL tupO (maC (mL listO (maC (mV 5) maN)) (maC (mV 6) (maC (mV 7) maN)))) maN)) maN))) (maC (mL tupO (maC (mV 3) (maC (mL tupO (maC (m2 mulO (mL tupO (maC (mL tupO (maC (mC (.bl true)) (maC (mC (.int 1)) maN))) maN)) (mV 3)) (maC (mV 6) (maC (mV 7) maN)))) maN))) (maC (mL m_law_odd (maC (mV 0) maN)) maN))))))
    (mRet (mL m_law_some (maC (mV 0) (maC (mV 2) maN)))))))))))
noncomputable def m_law : List D → DS → Ou D := defD 1 22
    (mSeq (mSet 1 (mL m_law_hand (maC (mV 0) maN)))
    (mSeq (mFor (mArgI rng1O (maC (mC (.int 5)) maN)) (gN 2)
    (mSeq (mAsg (gT 2 (gsC (gN 10) (gsC (gN 11) gsN))) (mL tupO (maC (mL m_law_joint (maC (mV 1) maN)) (maC (mL m_law_factor (maC (mV 1) maN)) maN))))
    (mSeq (mSet 3 (mL tupleO (maC (lcM (mSeqI (m2 ixO (mV 10) (mC (.int 1)))) (gN 19) mYes (mL m_law_amount (maC (mV 1) maN)) [19] finV) maN)))
    (mSeq (mIfS (mOr (mT (m2 isnO (mL m_is_joint (maC (mV 10) maN)) (mC (.bl true)))) (mNot (mT (mL m_law_is (maC (mL m_joint_net (maC (mV 10) (maC (mV 3) (maC (mV 11) maN)))) (maC (mL m_law_net (maC (mV 10) (maC (mV 3) (maC (mV 11) maN)))) maN))))))
    (mRet (mC (.bl false)))
    mNx)
    (mSeq (mSet 4 (mL m_law_bent (maC (mV 1) (maC (mV 10) maN))))
    (mSeq (mIfS (mOr (mT (m2 isnO (mL m_is_joint (maC (mV 4) maN)) (mC (.bl false)))) (mT (m2 neO (mLam mw__law_word (mL m_joint_net (maC (mV 4) (maC (mV 3) (maC (mV 11) maN))))) (mC (.str "joint")))))
    (mRet (mC (.bl false)))
    mNx)
    (mSeq (mSet 5 (mL lstO (maC (mSl slO (mV 3) moN (moS (m1 negO (mC (.int 1))))) (maC (mL listO (maC (mV 3) maN)) (maC (m2 addO (mV 3) (mL tupO (maC (mL tupO (maC (mC (.int 0)) (maC (mC (.int 1)) maN))) maN))) (maC (mC .non) (maC (m2 mulO (mL tupO (maC (mL tupO (maC (mC (.int 2)) (maC (mC (.int 4)) maN))) maN)) (mL lenO (maC (mV 3) maN))) (maC (m2 mulO (mL tupO (maC (mL tupO (maC (m1 negO (mC (.int 1))) (maC (mC (.int 1)) maN))) maN)) (mL lenO (maC (mV 3) maN))) maN))))))))
    (mSeq (mSet 5 (mL m_law_some (maC (mV 1) (maC (mV 5) maN))))
    (mSeq (mSet 6 (mL m_law_some (maC (mV 1) (maC (mL lstO (maC (mL tupO (maC (mC (.int 1)) (maC (mC (.int 0)) maN))) (maC (mL tupO (maC (m1 negO (mC (.int 1))) (maC (mC (.int 2)) maN))) (maC (mC (.int 1)) (maC (mC .non) (maC (mL tupO (maC (mC (.int 2)) (maC (mC (.int 4)) maN))) (maC (mL tupO (maC (mC (.bl true)) (maC (mC (.int 1)) maN))) (maC (mL lstO (maC (mC (.int 1)) (maC (mC (.int 2)) maN))) maN)))))))) maN))))
    (mSeq (mIfS (mT (m2 neO (mLam mw__law_word (mL m_joint_net (maC (mV 10) (maC (mV 5) (maC (mV 6) maN))))) (mC (.str "plan"))))
    (mRet (mC (.bl false)))
    mNx)
    (mSeq (mIfS (mT (m2 neO (mLam mw__law_word (mL m_joint_net (maC (mV 10) (maC (mV 3) (maC (mV 6) maN))))) (mC (.str "factor"))))
    (mRet (mC (.bl false)))
    mNx)
    (mSeq (mAsg (gT 2 (gsC (gN 12) (gsC (gN 13) gsN))) (mL tupO (maC (m2 addO (mC (.int 1)) (mL m_law_draw (maC (mV 1) (maC (mC (.int 4)) maN)))) (maC (mL m_law_some (maC (mV 1) (maC (mL lstO (maC (mC (.int 1)) (maC (mC (.int 3)) (maC (mC (.int 16)) maN)))) maN))) maN))))
    (mSeq (mSet 7 (mL tupO (maC (mV 12) (maC (mL tupleO (maC (lcM (mArgI rng1O (maC (mV 13) maN)) (gN 20) mYes (mL m_law_method (maC (mV 1) (maC (mV 12) maN))) [20] finV) maN)) maN))))
    (mSeq (mSet 8 (mL refO maN))
    (mSeq (mFor (mSeqI (m2 ixO (mV 7) (mC (.int 1)))) (gT 3 (gsC (gN 14) (gsC (gN 15) (gsC (gN 16) gsN))))
    (mDo (mMeth .lst appendO (mV 8) (maC (mL tupO (maC (mL tupleO (maC (lcM (mArgI rng1O (maC (mV 12) maN)) (gN 21) mYes (mL tupO (maC (mL intO (maC (m2 eqO (mV 14) (mV 21)) maN)) (maC (mC (.int 1)) maN))) [21] finV) maN)) (maC (mV 15) (maC (mV 16) maN)))) maN))))
    (mSeq (mPar 17 18 (maC (mL m_joint_of (maC (mV 7) maN)) (maC (mL tupleO (maC (lcM (mArgI rng1O (maC (mV 13) maN)) (gN 20) mYes (mL m_law_amount (maC (mV 1) maN)) [20] finV) maN)) maN)))
    (mSeq (mIfS (mNot (mT (mL m_law_is (maC (mV 17) (maC (mL tupO (maC (mV 12) (maC (mL tupleO (maC (mV 8) maN)) maN))) maN)))))
    (mRet (mC (.bl false)))
    mNx)
    (mSeq (mIfS (mNot (mT (mL m_law_is (maC (mL m_joint_net (maC (mV 17) (maC (mV 18) (maC (mV 11) maN)))) (maC (mL m_net (maC (mV 7) (maC (mV 18) (maC (mV 11) maN)))) maN)))))
    (mRet (mC (.bl false)))
    mNx)
    (mSeq (mSet 9 (mL tupO (maC (mV 12) (maC (mSl slO (m2 mulO (m2 ixO (mV 7) (mC (.int 1))) (mC (.int 20))) moN (moS (m2 addO (mC (.int 17)) (mL m_law_draw (maC (mV 1) (maC (mC (.int 4)) maN)))))) maN))))
    (mSeq (mIfS (mT (m2 neO (mLam mw__law_word (mL m_joint_of (maC (mV 9) maN))) (mC (.str "many"))))
    (mRet (mC (.bl false)))
    mNx)
    (mIfS (mT (m2 neO (mLam mw__law_word (mL m_joint_of (maC (mL m_law_some (maC (mV 1) (maC (mL lstO (maC (mV 10) (maC (mC .non) (maC (mL tupO (maC (mV 12) (maC (mL tupO maN) maN))) (maC (mL tupO (maC (mC (.int 0)) (maC (m2 ixO (mV 7) (mC (.int 1))) maN))) maN))))) maN))) maN))) (mC (.str "book"))))
    (mRet (mC (.bl false)))
    mNx)))))))))))))))))))))
    (mRet (mC (.bl true)))))

end K47
namespace K47
open PySem PySem.Spec PyProof.Rows L2 DL
/-! ### what the top has left -/
structure Fx (K : PySem.W.Frag) (mg : Str → Option Value) (c_law : Addr) : Prop where
  cls : ClsE K mg rowsL colsL ancL
  x_NoBook : ExcAt K mg "NoBook"
  x_NoPlan : ExcAt K mg "NoPlan"
  x_NoFactor : ExcAt K mg "NoFactor"
  xf_TooMany : FldAt K mg "TooMany" "TooMany.__init__" "most" "most" sI_TooMany
  x_NoJoint : ExcAt K mg "NoJoint"
  n_abs : mg "abs" = none
  n_all : mg "all" = none
  n_bool : mg "bool" = none
  n_int : mg "int" = none
  n_isinstance : mg "isinstance" = none
  n_len : mg "len" = none
  n_list : mg "list" = none
  n_range : mg "range" = none
  n_str : mg "str" = none
  n_tuple : mg "tuple" = none
  n_zip : mg "zip" = none
  c_MOST_GOODS : CAt K mg "MOST_GOODS" (.int 6)
  c_MOST_METHODS : CAt K mg "MOST_METHODS" (.int 20)
  c_ZERO : CAt K mg "ZERO" (.tup [(.int 0), (.int 1)])
  c_MOST_JOINT : CAt K mg "MOST_JOINT" (.int 16)
  c_ONE : CAt K mg "ONE" (.tup [(.int 1), (.int 1)])
  d__law_word : DAt K mg "_law_word" "_law_word" s__law_word ["call"]
  d_is_integer : DAt K mg "is_integer" "is_integer" s_is_integer ["thing"]
  d_is_within : DAt K mg "is_within" "is_within" s_is_within ["thing", "low", "high"]
  d_is_sized : DAt K mg "is_sized" "is_sized" s_is_sized ["thing", "low", "high"]
  d_common : DAt K mg "common" "common" s_common ["one", "other"]
  d_share : DAt K mg "share" "share" s_share ["top", "bottom"]
  d_is_share : DAt K mg "is_share" "is_share" s_is_share ["thing"]
  d_plus : DAt K mg "plus" "plus" s_plus ["one", "other"]
  d_minus : DAt K mg "minus" "minus" s_minus ["one", "other"]
  d_times : DAt K mg "times" "times" s_times ["one", "other"]
  d_is_amount : DAt K mg "is_amount" "is_amount" s_is_amount ["thing"]
  d_are_amounts : DAt K mg "are_amounts" "are_amounts" s_are_amounts ["thing", "many"]
  d_is_method : DAt K mg "is_method" "is_method" s_is_method ["goods", "thing"]
  d_is_book : DAt K mg "is_book" "is_book" s_is_book ["thing"]
  d_check_book : DAt K mg "check_book" "check_book" s_check_book ["thing"]
  d_is_plan_of : DAt K mg "is_plan_of" "is_plan_of" s_is_plan_of ["book", "thing"]
  d_check_plan : DAt K mg "check_plan" "check_plan" s_check_plan ["book", "plan"]
  d_check_factor : DAt K mg "check_factor" "check_factor" s_check_factor ["thing"]
  d_made_by : DAt K mg "made_by" "made_by" s_made_by ["book", "plan"]
  d_used_by : DAt K mg "used_by" "used_by" s_used_by ["book", "plan"]
  d_net_of : DAt K mg "net_of" "net_of" s_net_of ["book", "plan", "factor"]
  d_net : DAt K mg "net" "net" s_net ["book", "plan", "factor"]
  d_dot : DAt K mg "dot" "dot" s_dot ["one", "other"]
  d_is_joint_method : DAt K mg "is_joint_method" "is_joint_method" s_is_joint_method ["goods", "thing"]
  d_is_joint : DAt K mg "is_joint" "is_joint" s_is_joint ["thing"]
  d_joint_of : DAt K mg "joint_of" "joint_of" s_joint_of ["book"]
  d_check : DAt K mg "check" "check" s_check ["joint", "factor"]
  d_net_of_method : DAt K mg "net_of_method" "net_of_method" s_net_of_method ["method", "factor"]
  d_net_rows : DAt K mg "net_rows" "net_rows" s_net_rows ["joint", "factor"]
  d_raw_net : DAt K mg "raw_net" "raw_net" s_raw_net ["joint", "plan", "factor"]
  d_joint_net : DAt K mg "joint_net" "joint_net" s_joint_net ["joint", "plan", "factor"]
  d__law_hand : DAt K mg "_law_hand" "_law_hand" s__law_hand ["script"]
  d__law_draw : DAt K mg "_law_draw" "_law_draw" s__law_draw ["hand", "many"]
  d__law_some : DAt K mg "_law_some" "_law_some" s__law_some ["hand", "things"]
  d__law_low : DAt K mg "_law_low" "_law_low" s__law_low ["top", "bottom"]
  d__law_plus : DAt K mg "_law_plus" "_law_plus" s__law_plus ["one", "other"]
  d__law_minus : DAt K mg "_law_minus" "_law_minus" s__law_minus ["one", "other"]
  d__law_times : DAt K mg "_law_times" "_law_times" s__law_times ["one", "other"]
  d__law_sum : DAt K mg "_law_sum" "_law_sum" s__law_sum ["parts"]
  d__law_amount : DAt K mg "_law_amount" "_law_amount" s__law_amount ["hand"]
  d__law_method : DAt K mg "_law_method" "_law_method" s__law_method ["hand", "goods"]
  d__law_joint : DAt K mg "_law_joint" "_law_joint" s__law_joint ["hand"]
  d__law_net : DAt K mg "_law_net" "_law_net" s__law_net ["joint", "plan", "factor"]
  d__law_factor : DAt K mg "_law_factor" "_law_factor" s__law_factor ["hand"]
  d__law_deep : DAt K mg "_law_deep" "_law_deep" s__law_deep ["hand"]
  d__law_odd : DAt K mg "_law_odd" "_law_odd" s__law_odd ["hand"]
  d__law_is : DAt K mg "_law_is" "_law_is" s__law_is ["told", "due"]
  d__law_bent : DAt K mg "_law_bent" "_law_bent" s__law_bent ["hand", "joint"]
  d_law : DAtL K mg "law" "law" s_law ["script"] c_law
structure Tx [TabC] (base : Heap) (mg : Str → Option Value) (c_law t_law : Addr) : Prop where
  tb_law : LamX.TabB base mg c_law t_law
  me_law : (t_law, ("law.<locals>.<lambda>" : Str)) ∈ TabC.tabs
  un_law : ∀ p ∈ TabC.tabs, p.1 = t_law → p.2 = ("law.<locals>.<lambda>" : Str)
section
variable {P : Program} {w : World} {K : PySem.W.Frag} {mg : Str → Option Value} {base : Heap} [TabC] {c_law t_law : Addr}
theorem wd__law_word (G : Fx K mg c_law) {k : Nat} : WordA P w K mg base (cmOf rowsL mg) k "_law_word" s__law_word ["call", "error", "some", "words"] "call" 1 (fun y => some (ancL y "GoodsError")) ms__law_word mr__law_word := wordE G.cls (by decide) G.d__law_word sc__law_word (by rfl) (by first | exact Or.inl rfl | exact Or.inr (Or.inl rfl) | exact Or.inr (Or.inr rfl)) (by rfl) (by rfl) (by rfl) (fun _ _ _ _ _ _ _ => by rfl) (fun g cdv A outer s H E C a oe y Ce pn hy hz hv =>
    (ss_cons (s_set (C.suite a.pl ((a.pl, oe) :: pn)).nd (e_lst (a_cons (e_isaE G.cls (by decide) hy hz hv (by rfl) G.n_isinstance (by rfl) (e_var 1)) (a_cons (e_isaE G.cls (by decide) hy hz hv (by rfl) G.n_isinstance (by rfl) (e_var 1)) (a_cons (e_isaE G.cls (by decide) hy hz hv (by rfl) G.n_isinstance (by rfl) (e_var 1)) a_nil)))))
    (ss_cons (s_set (C.suite a.pl ((a.pl, oe) :: pn)).nd (e_op o_add (e_var 2) (e_lst (a_cons (e_isaE G.cls (by decide) hy hz hv (by rfl) G.n_isinstance (by rfl) (e_var 1)) (a_cons (e_isaE G.cls (by decide) hy hz hv (by rfl) G.n_isinstance (by rfl) (e_var 1)) a_nil)))))
    (ss_cons (s_set (C.suite a.pl ((a.pl, oe) :: pn)).nd (e_lst (a_cons e_str (a_cons e_str (a_cons e_str (a_cons e_str (a_cons e_str a_nil)))))))
    (ss_one (s_ret (e_if (t_cmp (o_eq (C.suite a.pl ((a.pl, oe) :: pn)).un) (e_meth .lst PySem.F.plainAttrs_list PySem.F.slot_list_count PySem.F.type_list_count m_count (e_var 2) (a_cons e_bl a_nil)) e_int) (e_ix i_seq (e_var 3) (e_meth .lst PySem.F.plainAttrs_list PySem.F.slot_list_index PySem.F.type_list_index m_index (e_var 2) (a_cons e_bl a_nil))) e_str))))))) (fun g cdv A outer s H E C =>
    (ss_one (s_ret e_str)))
theorem ok_is_integer (G : Fx K mg c_law) (T : Tx base mg c_law t_law) : FnC P w K mg base (cmOf rowsL mg) 1 "is_integer" m_is_integer := G.d_is_integer.okM sc_is_integer fun f cdv A outer s H E C =>
    (ss_one (s_ret (e_and (e_isi (by rfl) G.n_isinstance (by rfl) G.n_int PyProof.Rows.boot_int (e_var 0)) (e_one (e_not (e_isi (by rfl) G.n_isinstance (by rfl) G.n_bool PyProof.Rows.boot_bool (e_var 0)))))))
theorem ok_is_within (G : Fx K mg c_law) (T : Tx base mg c_law t_law) : FnC P w K mg base (cmOf rowsL mg) 2 "is_within" m_is_within := G.d_is_within.okM sc_is_within fun f cdv A outer s H E C =>
    (ss_one (s_ret (e_and (e_call C (ok_is_integer G T) (by decide) (by rfl) (a_cons (e_var 0) a_nil)) (e_one (e_chain o_le o_le (e_var 1) (e_var 0) (e_var 2))))))
theorem ok_is_sized (G : Fx K mg c_law) (T : Tx base mg c_law t_law) : FnC P w K mg base (cmOf rowsL mg) 1 "is_sized" m_is_sized := G.d_is_sized.okM sc_is_sized fun f cdv A outer s H E C =>
    (ss_one (s_ret (e_and (e_isi (by rfl) G.n_isinstance (by rfl) G.n_tuple PyProof.Rows.boot_tuple (e_var 0)) (e_one (e_chain o_le o_le (e_var 1) (e_callB c_len (by rfl) G.n_len (by decide +kernel) (a_cons (e_var 0) a_nil)) (e_var 2))))))
theorem ok_common (G : Fx K mg c_law) (T : Tx base mg c_law t_law) : FnC P w K mg base (cmOf rowsL mg) 1 "common" m_common := G.d_common.okM sc_common fun f cdv A outer s H E C =>
    (ss_cons (s_while C.po (t_cmp (o_ne C.un) (e_var 1) e_int)
    (ss_one (s_par C.calm C.nd (a_cons (e_var 1) (a_cons (e_op o_mod (e_var 0) (e_var 1)) a_nil)) (by rfl))))
    (ss_one (s_ret (e_callB c_abs (by rfl) G.n_abs (by decide +kernel) (a_cons (e_var 0) a_nil)))))
theorem ok_share (G : Fx K mg c_law) (T : Tx base mg c_law t_law) : FnC P w K mg base (cmOf rowsL mg) 2 "share" m_share := G.d_share.okM sc_share fun f cdv A outer s H E C =>
    (ss_cons (s_set C.nd (e_call C (ok_common G T) (by decide) (by rfl) (a_cons (e_var 0) (a_cons (e_var 1) a_nil))))
    (ss_cons (s_if (t_cmp o_lt (e_var 1) e_int)
    (ss_one (s_set C.nd (e_un u_neg (e_var 2))))
    ss_nil)
    (ss_one (s_ret (e_tup (a_cons (e_op o_fdiv (e_var 0) (e_var 2)) (a_cons (e_op o_fdiv (e_var 1) (e_var 2)) a_nil)))))))
theorem ok_is_share (G : Fx K mg c_law) (T : Tx base mg c_law t_law) : FnC P w K mg base (cmOf rowsL mg) 2 "is_share" m_is_share := G.d_is_share.okM sc_is_share fun f cdv A outer s H E C =>
    (ss_cons (s_if (w_or (t_not (t_val (e_call C (ok_is_sized G T) (by decide) (by rfl) (a_cons (e_var 0) (a_cons e_int (a_cons e_int a_nil)))))) (w_or (t_not (t_val (e_call C (ok_is_integer G T) (by decide) (by rfl) (a_cons (e_ix i_seq (e_var 0) e_int) a_nil)))) (w_or1 (t_not (t_val (e_call C (ok_is_integer G T) (by decide) (by rfl) (a_cons (e_ix i_seq (e_var 0) e_int) a_nil))))))).t
    (ss_one (s_ret e_bl))
    ss_nil)
    (ss_one (s_ret (e_and (e_cmp o_gt (e_ix i_seq (e_var 0) e_int) e_int) (e_one (e_cmp (o_eq C.un) (e_call C (ok_common G T) (by decide) (by rfl) (a_cons (e_ix i_seq (e_var 0) e_int) (a_cons (e_ix i_seq (e_var 0) e_int) a_nil))) e_int))))))
theorem ok_plus (G : Fx K mg c_law) (T : Tx base mg c_law t_law) : FnC P w K mg base (cmOf rowsL mg) 3 "plus" m_plus := G.d_plus.okM sc_plus fun f cdv A outer s H E C =>
    (ss_cons (s_if (t_cmp (o_eq C.un) (e_ix i_seq (e_var 0) e_int) (e_ix i_seq (e_var 1) e_int))
    (ss_one (s_ret (e_call C (ok_share G T) (by decide) (by rfl) (a_cons (e_op o_add (e_ix i_seq (e_var 0) e_int) (e_ix i_seq (e_var 1) e_int)) (a_cons (e_ix i_seq (e_var 0) e_int) a_nil)))))
    ss_nil)
    (ss_one (s_ret (e_call C (ok_share G T) (by decide) (by rfl) (a_cons (e_op o_add (e_op o_mul (e_ix i_seq (e_var 0) e_int) (e_ix i_seq (e_var 1) e_int)) (e_op o_mul (e_ix i_seq (e_var 1) e_int) (e_ix i_seq (e_var 0) e_int))) (a_cons (e_op o_mul (e_ix i_seq (e_var 0) e_int) (e_ix i_seq (e_var 1) e_int)) a_nil))))))
theorem ok_minus (G : Fx K mg c_law) (T : Tx base mg c_law t_law) : FnC P w K mg base (cmOf rowsL mg) 4 "minus" m_minus := G.d_minus.okM sc_minus fun f cdv A outer s H E C =>
    (ss_one (s_ret (e_call C (ok_plus G T) (by decide) (by rfl) (a_cons (e_var 0) (a_cons (e_tup (a_cons (e_un u_neg (e_ix i_seq (e_var 1) e_int)) (a_cons (e_ix i_seq (e_var 1) e_int) a_nil))) a_nil)))))
theorem ok_times (G : Fx K mg c_law) (T : Tx base mg c_law t_law) : FnC P w K mg base (cmOf rowsL mg) 3 "times" m_times := G.d_times.okM sc_times fun f cdv A outer s H E C =>
    (ss_one (s_ret (e_call C (ok_share G T) (by decide) (by rfl) (a_cons (e_op o_mul (e_ix i_seq (e_var 0) e_int) (e_ix i_seq (e_var 1) e_int)) (a_cons (e_op o_mul (e_ix i_seq (e_var 0) e_int) (e_ix i_seq (e_var 1) e_int)) a_nil)))))
theorem ok_is_amount (G : Fx K mg c_law) (T : Tx base mg c_law t_law) : FnC P w K mg base (cmOf rowsL mg) 3 "is_amount" m_is_amount := G.d_is_amount.okM sc_is_amount fun f cdv A outer s H E C =>
    (ss_one (s_ret (e_and (e_call C (ok_is_share G T) (by decide) (by rfl) (a_cons (e_var 0) a_nil)) (e_one (e_cmp o_ge (e_ix i_seq (e_var 0) e_int) e_int)))))
theorem ok_are_amounts (G : Fx K mg c_law) (T : Tx base mg c_law t_law) : FnC P w K mg base (cmOf rowsL mg) 4 "are_amounts" m_are_amounts := G.d_are_amounts.okM sc_are_amounts fun f cdv A outer s H E C =>
    (ss_one (s_ret (e_and (e_call C (ok_is_sized G T) (by decide) (by rfl) (a_cons (e_var 0) (a_cons (e_var 1) (a_cons (e_var 1) a_nil)))) (e_one (e_callB (c_all C.calm) (by rfl) G.n_all (by decide +kernel) (a_cons (e_lc (own := [("part", 2)]) C.calm C.nd (it_seq (e_var 0)) (blkOk_by (by kernel_rfl)) finV_ok (fun _ _ _ _ _ => (ga_name (C.blk _ _ _ _ _).nd)) (fun _ _ _ _ _ => ts_nil) (fun _ _ _ _ _ => (e_call (C.blk _ _ _ _ _) (ok_is_amount G T) (by decide) (by rfl) (a_cons (e_var 2) a_nil)))) a_nil))))))
theorem ok_is_method (G : Fx K mg c_law) (T : Tx base mg c_law t_law) : FnC P w K mg base (cmOf rowsL mg) 5 "is_method" m_is_method := G.d_is_method.okM sc_is_method fun f cdv A outer s H E C =>
    (ss_cons (s_if (w_or (t_not (t_val (e_call C (ok_is_sized G T) (by decide) (by rfl) (a_cons (e_var 1) (a_cons e_int (a_cons e_int a_nil)))))) (w_or1 (t_not (t_val (e_call C (ok_is_within G T) (by decide) (by rfl) (a_cons (e_ix i_seq (e_var 1) e_int) (a_cons e_int (a_cons (e_op o_sub (e_var 0) e_int) a_nil)))))))).t
    (ss_one (s_ret e_bl))
    ss_nil)
    (ss_one (s_ret (e_and (e_call C (ok_are_amounts G T) (by decide) (by rfl) (a_cons (e_ix i_seq (e_var 1) e_int) (a_cons (e_var 0) a_nil))) (e_one (e_call C (ok_is_amount G T) (by decide) (by rfl) (a_cons (e_ix i_seq (e_var 1) e_int) a_nil)))))))
theorem ok_is_book (G : Fx K mg c_law) (T : Tx base mg c_law t_law) : FnC P w K mg base (cmOf rowsL mg) 6 "is_book" m_is_book := G.d_is_book.okM sc_is_book fun f cdv A outer s H E C =>
    (ss_cons (s_if (w_or (t_not (t_val (e_call C (ok_is_sized G T) (by decide) (by rfl) (a_cons (e_var 0) (a_cons e_int (a_cons e_int a_nil)))))) (w_or1 (t_not (t_val (e_call C (ok_is_within G T) (by decide) (by rfl) (a_cons (e_ix i_seq (e_var 0) e_int) (a_cons e_int (a_cons (e_const (by rfl) G.c_MOST_GOODS) a_nil)))))))).t
    (ss_one (s_ret e_bl))
    ss_nil)
    (ss_one (s_ret (e_and (e_call C (ok_is_sized G T) (by decide) (by rfl) (a_cons (e_ix i_seq (e_var 0) e_int) (a_cons e_int (a_cons (e_const (by rfl) G.c_MOST_METHODS) a_nil)))) (e_one (e_callB (c_all C.calm) (by rfl) G.n_all (by decide +kernel) (a_cons (e_lc (own := [("method", 1)]) C.calm C.nd (it_seq (e_ix i_seq (e_var 0) e_int)) (blkOk_by (by kernel_rfl)) finV_ok (fun _ _ _ _ _ => (ga_name (C.blk _ _ _ _ _).nd)) (fun _ _ _ _ _ => ts_nil) (fun _ _ _ _ _ => (e_call (C.blk _ _ _ _ _) (ok_is_method G T) (by decide) (by rfl) (a_cons (e_ix i_seq (e_var 0) e_int) (a_cons (e_var 1) a_nil))))) a_nil)))))))
theorem ok_check_book (G : Fx K mg c_law) (T : Tx base mg c_law t_law) : FnC P w K mg base (cmOf rowsL mg) 7 "check_book" m_check_book := G.d_check_book.okM sc_check_book fun f cdv A outer s H E C =>
    (ss_one (s_if (t_not (t_val (e_call C (ok_is_book G T) (by decide) (by rfl) (a_cons (e_var 0) a_nil))))
    (ss_one (s_raiseE C G.cls (by decide) G.x_NoBook (by rfl)))
    ss_nil))
theorem ok_is_plan_of (G : Fx K mg c_law) (T : Tx base mg c_law t_law) : FnC P w K mg base (cmOf rowsL mg) 5 "is_plan_of" m_is_plan_of := G.d_is_plan_of.okM sc_is_plan_of fun f cdv A outer s H E C =>
    (ss_one (s_ret (e_call C (ok_are_amounts G T) (by decide) (by rfl) (a_cons (e_var 1) (a_cons (e_callB c_len (by rfl) G.n_len (by decide +kernel) (a_cons (e_ix i_seq (e_var 0) e_int) a_nil)) a_nil)))))
theorem ok_check_plan (G : Fx K mg c_law) (T : Tx base mg c_law t_law) : FnC P w K mg base (cmOf rowsL mg) 8 "check_plan" m_check_plan := G.d_check_plan.okM sc_check_plan fun f cdv A outer s H E C =>
    (ss_cons (s_do (e_call C (ok_check_book G T) (by decide) (by rfl) (a_cons (e_var 0) a_nil)))
    (ss_one (s_if (t_not (t_val (e_call C (ok_is_plan_of G T) (by decide) (by rfl) (a_cons (e_var 0) (a_cons (e_var 1) a_nil)))))
    (ss_one (s_raiseE C G.cls (by decide) G.x_NoPlan (by rfl)))
    ss_nil)))
theorem ok_check_factor (G : Fx K mg c_law) (T : Tx base mg c_law t_law) : FnC P w K mg base (cmOf rowsL mg) 4 "check_factor" m_check_factor := G.d_check_factor.okM sc_check_factor fun f cdv A outer s H E C =>
    (ss_one (s_if (t_not (t_val (e_call C (ok_is_amount G T) (by decide) (by rfl) (a_cons (e_var 0) a_nil))))
    (ss_one (s_raiseE C G.cls (by decide) G.x_NoFactor (by rfl)))
    ss_nil))
theorem ok_made_by (G : Fx K mg c_law) (T : Tx base mg c_law t_law) : FnC P w K mg base (cmOf rowsL mg) 4 "made_by" m_made_by := G.d_made_by.okD sc_made_by fun f cdv A outer s H E C =>
    (ss_cons (s_set C.nd (e_op o_mulR (e_lst (a_cons (e_const (by rfl) G.c_ZERO) a_nil)) (e_ix i_seq (e_var 0) e_int)))
    (ss_cons (s_for C.po C.calm (it_zip (by rfl) G.n_zip (a_cons (e_ix i_seq (e_var 0) e_int) (a_cons (e_var 1) a_nil))) ((ga_tup C.calm (gas_cons (ga_tup C.calm (gas_cons (ga_name C.nd) (gas_cons (ga_name C.nd) (gas_cons (ga_name C.nd) gas_nil)))) (gas_cons (ga_name C.nd) gas_nil)))).g
    (ss_one (s_asg (e_call C (ok_plus G T) (by decide) (by rfl) (a_cons (e_ix i_seq (e_var 2) (e_var 4)) (a_cons (e_var 3) a_nil))) (g_sub (e_var 2) (e_var 4)))))
    (ss_one (s_ret (e_callTy c_tuple (by rfl) G.n_tuple (by decide +kernel) (a_cons (e_var 2) a_nil))))))
theorem ok_used_by (G : Fx K mg c_law) (T : Tx base mg c_law t_law) : FnC P w K mg base (cmOf rowsL mg) 4 "used_by" m_used_by := G.d_used_by.okM sc_used_by fun f cdv A outer s H E C =>
    (ss_cons (s_set C.nd (e_op o_mul (e_lst (a_cons (e_const (by rfl) G.c_ZERO) a_nil)) (e_ix i_seq (e_var 0) e_int)))
    (ss_cons (s_for C.po C.calm (it_zip (by rfl) G.n_zip (a_cons (e_ix i_seq (e_var 0) e_int) (a_cons (e_var 1) a_nil))) ((ga_tup C.calm (gas_cons (ga_tup C.calm (gas_cons (ga_name C.nd) (gas_cons (ga_name C.nd) (gas_cons (ga_name C.nd) gas_nil)))) (gas_cons (ga_name C.nd) gas_nil)))).g
    (ss_one (s_if (t_cmp (o_ne C.un) (e_var 3) (e_const (by rfl) G.c_ZERO))
    (ss_one (s_setLc (own := [("part", 7), ("use", 8)]) C.calm C.nd (sw_true rfl rfl rfl (by decide +kernel)) (it_zip (by rfl) G.n_zip (a_cons (e_var 2) (a_cons (e_var 5) a_nil))) (blkOk_by (by kernel_rfl)) finV_ok (fun _ _ _ _ _ => (ga_tup (C.blk _ _ _ _ _).calm (gas_cons (ga_name (C.blk _ _ _ _ _).nd) (gas_cons (ga_name (C.blk _ _ _ _ _).nd) gas_nil)))) (fun _ _ _ _ _ => ts_nil) (fun _ _ _ _ _ => (e_call (C.blk _ _ _ _ _) (ok_plus G T) (by decide) (by rfl) (a_cons (e_var 7) (a_cons (e_call (C.blk _ _ _ _ _) (ok_times G T) (by decide) (by rfl) (a_cons (e_var 3) (a_cons (e_var 8) a_nil))) a_nil))))))
    ss_nil)))
    (ss_one (s_ret (e_callTy c_tuple (by rfl) G.n_tuple (by decide +kernel) (a_cons (e_var 2) a_nil))))))
theorem ok_net_of (G : Fx K mg c_law) (T : Tx base mg c_law t_law) : FnC P w K mg base (cmOf rowsL mg) 5 "net_of" m_net_of := G.d_net_of.okM sc_net_of fun f cdv A outer s H E C =>
    (ss_zipRet (own := [("more", 4), ("less", 5)]) C.calm C.nd (by rfl) G.n_zip (by rfl) G.n_tuple (a_cons (e_call C (ok_made_by G T) (by decide) (by rfl) (a_cons (e_var 0) (a_cons (e_var 1) a_nil))) (a_cons (e_call C (ok_used_by G T) (by decide) (by rfl) (a_cons (e_var 0) (a_cons (e_var 1) a_nil))) a_nil)) (blkOk_by (by kernel_rfl)) (fun _ _ _ _ _ => (ga_tup (C.blk _ _ _ _ _).calm (gas_cons (ga_name (C.blk _ _ _ _ _).nd) (gas_cons (ga_name (C.blk _ _ _ _ _).nd) gas_nil)))) (fun _ _ _ _ _ => (e_call (C.blk _ _ _ _ _) (ok_minus G T) (by decide) (by rfl) (a_cons (e_var 4) (a_cons (e_call (C.blk _ _ _ _ _) (ok_times G T) (by decide) (by rfl) (a_cons (e_var 2) (a_cons (e_var 5) a_nil))) a_nil)))))
theorem ok_net (G : Fx K mg c_law) (T : Tx base mg c_law t_law) : FnC P w K mg base (cmOf rowsL mg) 9 "net" m_net := G.d_net.okM sc_net fun f cdv A outer s H E C =>
    (ss_cons (s_do (e_call C (ok_check_plan G T) (by decide) (by rfl) (a_cons (e_var 0) (a_cons (e_var 1) a_nil))))
    (ss_cons (s_do (e_call C (ok_check_factor G T) (by decide) (by rfl) (a_cons (e_var 2) a_nil)))
    (ss_one (s_ret (e_call C (ok_net_of G T) (by decide) (by rfl) (a_cons (e_var 0) (a_cons (e_var 1) (a_cons (e_var 2) a_nil))))))))
theorem ok_dot (G : Fx K mg c_law) (T : Tx base mg c_law t_law) : FnC P w K mg base (cmOf rowsL mg) 4 "dot" m_dot := G.d_dot.okM sc_dot fun f cdv A outer s H E C =>
    (ss_cons (s_set C.nd (e_const (by rfl) G.c_ZERO))
    (ss_cons (s_for C.po C.calm (it_zip (by rfl) G.n_zip (a_cons (e_var 0) (a_cons (e_var 1) a_nil))) ((ga_tup C.calm (gas_cons (ga_name C.nd) (gas_cons (ga_name C.nd) gas_nil)))).g
    (ss_one (s_set C.nd (e_call C (ok_plus G T) (by decide) (by rfl) (a_cons (e_var 2) (a_cons (e_call C (ok_times G T) (by decide) (by rfl) (a_cons (e_var 3) (a_cons (e_var 4) a_nil))) a_nil))))))
    (ss_one (s_ret (e_var 2)))))
theorem ok_is_joint_method (G : Fx K mg c_law) (T : Tx base mg c_law t_law) : FnC P w K mg base (cmOf rowsL mg) 5 "is_joint_method" m_is_joint_method := G.d_is_joint_method.okM sc_is_joint_method fun f cdv A outer s H E C =>
    (ss_cons (s_if (w_or (t_not (t_val (e_call C (ok_is_sized G T) (by decide) (by rfl) (a_cons (e_var 1) (a_cons e_int (a_cons e_int a_nil)))))) (w_or1 (t_not (t_val (e_call C (ok_are_amounts G T) (by decide) (by rfl) (a_cons (e_ix i_seq (e_var 1) e_int) (a_cons (e_var 0) a_nil))))))).t
    (ss_one (s_ret e_bl))
    ss_nil)
    (ss_one (s_ret (e_and (e_call C (ok_are_amounts G T) (by decide) (by rfl) (a_cons (e_ix i_seq (e_var 1) e_int) (a_cons (e_var 0) a_nil))) (e_one (e_call C (ok_is_amount G T) (by decide) (by rfl) (a_cons (e_ix i_seq (e_var 1) e_int) a_nil)))))))
theorem ok_is_joint (G : Fx K mg c_law) (T : Tx base mg c_law t_law) : FnC P w K mg base (cmOf rowsL mg) 6 "is_joint" m_is_joint := G.d_is_joint.okM sc_is_joint fun f cdv A outer s H E C =>
    (ss_cons (s_if (w_or (t_not (t_val (e_call C (ok_is_sized G T) (by decide) (by rfl) (a_cons (e_var 0) (a_cons e_int (a_cons e_int a_nil)))))) (w_or1 (t_not (t_val (e_call C (ok_is_within G T) (by decide) (by rfl) (a_cons (e_ix i_seq (e_var 0) e_int) (a_cons e_int (a_cons (e_const (by rfl) G.c_MOST_GOODS) a_nil)))))))).t
    (ss_one (s_ret e_bl))
    ss_nil)
    (ss_one (s_ret (e_and (e_call C (ok_is_sized G T) (by decide) (by rfl) (a_cons (e_ix i_seq (e_var 0) e_int) (a_cons e_int (a_cons (e_const (by rfl) G.c_MOST_JOINT) a_nil)))) (e_one (e_callB (c_all C.calm) (by rfl) G.n_all (by decide +kernel) (a_cons (e_lc (own := [("method", 1)]) C.calm C.nd (it_seq (e_ix i_seq (e_var 0) e_int)) (blkOk_by (by kernel_rfl)) finV_ok (fun _ _ _ _ _ => (ga_name (C.blk _ _ _ _ _).nd)) (fun _ _ _ _ _ => ts_nil) (fun _ _ _ _ _ => (e_call (C.blk _ _ _ _ _) (ok_is_joint_method G T) (by decide) (by rfl) (a_cons (e_ix i_seq (e_var 0) e_int) (a_cons (e_var 1) a_nil))))) a_nil)))))))
theorem ok_joint_of (G : Fx K mg c_law) (T : Tx base mg c_law t_law) : FnC P w K mg base (cmOf rowsL mg) 8 "joint_of" m_joint_of := G.d_joint_of.okD sc_joint_of fun f cdv A outer s H E C =>
    (ss_cons (s_do (e_call C (ok_check_book G T) (by decide) (by rfl) (a_cons (e_var 0) a_nil)))
    (ss_cons (s_if (t_cmp o_gt (e_callB c_len (by rfl) G.n_len (by decide +kernel) (a_cons (e_ix i_seq (e_var 0) e_int) a_nil)) (e_const (by rfl) G.c_MOST_JOINT))
    (ss_one (s_raiseF C G.cls (by decide) G.xf_TooMany (by rfl) (a_cons (e_const (by rfl) G.c_MOST_JOINT) a_nil)))
    ss_nil)
    (ss_cons (s_set C.nd (e_ref a_nil))
    (ss_cons (s_for C.po C.calm (it_seq (e_ix i_seq (e_var 0) e_int)) ((ga_tup C.calm (gas_cons (ga_name C.nd) (gas_cons (ga_name C.nd) (gas_cons (ga_name C.nd) gas_nil))))).g
    (ss_one (s_do (e_meth .lst PySem.F.plainAttrs_list PySem.F.slot_list_append PySem.F.type_list_append mm_append (e_var 1) (a_cons (e_tup (a_cons (e_callTy c_tuple (by rfl) G.n_tuple (by decide +kernel) (a_cons (e_lc (own := [("here", 5)]) C.calm C.nd (it_range1 (by rfl) G.n_range (a_cons (e_ix i_seq (e_var 0) e_int) a_nil)) (blkOk_by (by kernel_rfl)) finV_ok (fun _ _ _ _ _ => (ga_name (C.blk _ _ _ _ _).nd)) (fun _ _ _ _ _ => ts_nil) (fun _ _ _ _ _ => (e_if (t_cmp (o_eq (C.blk _ _ _ _ _).un) (e_var 5) (e_var 2)) (e_const (by rfl) G.c_ONE) (e_const (by rfl) G.c_ZERO)))) a_nil)) (a_cons (e_var 3) (a_cons (e_var 4) a_nil)))) a_nil)))))
    (ss_one (s_ret (e_tup (a_cons (e_ix i_seq (e_var 0) e_int) (a_cons (e_callTy c_tuple (by rfl) G.n_tuple (by decide +kernel) (a_cons (e_var 1) a_nil)) a_nil)))))))))
theorem ok_check (G : Fx K mg c_law) (T : Tx base mg c_law t_law) : FnC P w K mg base (cmOf rowsL mg) 7 "check" m_check := G.d_check.okM sc_check fun f cdv A outer s H E C =>
    (ss_cons (s_if (t_not (t_val (e_call C (ok_is_joint G T) (by decide) (by rfl) (a_cons (e_var 0) a_nil))))
    (ss_one (s_raiseE C G.cls (by decide) G.x_NoJoint (by rfl)))
    ss_nil)
    (ss_one (s_if (t_not (t_val (e_call C (ok_is_amount G T) (by decide) (by rfl) (a_cons (e_var 1) a_nil))))
    (ss_one (s_raiseE C G.cls (by decide) G.x_NoFactor (by rfl)))
    ss_nil)))
theorem ok_net_of_method (G : Fx K mg c_law) (T : Tx base mg c_law t_law) : FnC P w K mg base (cmOf rowsL mg) 5 "net_of_method" m_net_of_method := G.d_net_of_method.okM sc_net_of_method fun f cdv A outer s H E C =>
    (ss_one (s_ret (e_lc (own := [("more", 2), ("less", 3)]) C.calm C.nd (it_zip (by rfl) G.n_zip (a_cons (e_ix i_seq (e_var 0) e_int) (a_cons (e_ix i_seq (e_var 0) e_int) a_nil))) (blkOk_by (by kernel_rfl)) finV_ok (fun _ _ _ _ _ => (ga_tup (C.blk _ _ _ _ _).calm (gas_cons (ga_name (C.blk _ _ _ _ _).nd) (gas_cons (ga_name (C.blk _ _ _ _ _).nd) gas_nil)))) (fun _ _ _ _ _ => ts_nil) (fun _ _ _ _ _ => (e_call (C.blk _ _ _ _ _) (ok_minus G T) (by decide) (by rfl) (a_cons (e_var 2) (a_cons (e_call (C.blk _ _ _ _ _) (ok_times G T) (by decide) (by rfl) (a_cons (e_var 1) (a_cons (e_var 3) a_nil))) a_nil)))))))
theorem ok_net_rows (G : Fx K mg c_law) (T : Tx base mg c_law t_law) : FnC P w K mg base (cmOf rowsL mg) 6 "net_rows" m_net_rows := G.d_net_rows.okM sc_net_rows fun f cdv A outer s H E C =>
    (ss_cons (s_set C.nd (e_lc (own := [("method", 3)]) C.calm C.nd (it_seq (e_ix i_seq (e_var 0) e_int)) (blkOk_by (by kernel_rfl)) finV_ok (fun _ _ _ _ _ => (ga_name (C.blk _ _ _ _ _).nd)) (fun _ _ _ _ _ => ts_nil) (fun _ _ _ _ _ => (e_call (C.blk _ _ _ _ _) (ok_net_of_method G T) (by decide) (by rfl) (a_cons (e_var 3) (a_cons (e_var 1) a_nil))))))
    (ss_one (s_ret (e_lc (own := [("good", 4)]) C.calm C.nd (it_range1 (by rfl) G.n_range (a_cons (e_ix i_seq (e_var 0) e_int) a_nil)) (blkOk_by (by kernel_rfl)) finV_ok (fun _ _ _ _ _ => (ga_name (C.blk _ _ _ _ _).nd)) (fun _ _ _ _ _ => ts_nil) (fun _ _ _ _ _ => (e_lc (own := [("net", 5)]) (C.blk _ _ _ _ _).calm (C.blk _ _ _ _ _).nd (it_seq (e_var 2)) (blkOk_by (by kernel_rfl)) finV_ok (fun _ _ _ _ _ => (ga_name ((C.blk _ _ _ _ _).blk _ _ _ _ _).nd)) (fun _ _ _ _ _ => ts_nil) (fun _ _ _ _ _ => (e_ix i_seq (e_var 5) (e_var 4)))))))))
theorem ok_raw_net (G : Fx K mg c_law) (T : Tx base mg c_law t_law) : FnC P w K mg base (cmOf rowsL mg) 7 "raw_net" m_raw_net := G.d_raw_net.okM sc_raw_net fun f cdv A outer s H E C =>
    (ss_one (s_ret (e_callTy c_tuple (by rfl) G.n_tuple (by decide +kernel) (a_cons (e_lc (own := [("row", 3)]) C.calm C.nd (it_seq (e_call C (ok_net_rows G T) (by decide) (by rfl) (a_cons (e_var 0) (a_cons (e_var 2) a_nil)))) (blkOk_by (by kernel_rfl)) finV_ok (fun _ _ _ _ _ => (ga_name (C.blk _ _ _ _ _).nd)) (fun _ _ _ _ _ => ts_nil) (fun _ _ _ _ _ => (e_call (C.blk _ _ _ _ _) (ok_dot G T) (by decide) (by rfl) (a_cons (e_var 3) (a_cons (e_var 1) a_nil))))) a_nil))))
theorem ok_joint_net (G : Fx K mg c_law) (T : Tx base mg c_law t_law) : FnC P w K mg base (cmOf rowsL mg) 8 "joint_net" m_joint_net := G.d_joint_net.okM sc_joint_net fun f cdv A outer s H E C =>
    (ss_cons (s_if (t_not (t_val (e_call C (ok_is_joint G T) (by decide) (by rfl) (a_cons (e_var 0) a_nil))))
    (ss_one (s_raiseE C G.cls (by decide) G.x_NoJoint (by rfl)))
    ss_nil)
    (ss_cons (s_if (t_not (t_val (e_call C (ok_are_amounts G T) (by decide) (by rfl) (a_cons (e_var 1) (a_cons (e_callB c_len (by rfl) G.n_len (by decide +kernel) (a_cons (e_ix i_seq (e_var 0) e_int) a_nil)) a_nil)))))
    (ss_one (s_raiseE C G.cls (by decide) G.x_NoPlan (by rfl)))
    ss_nil)
    (ss_cons (s_do (e_call C (ok_check G T) (by decide) (by rfl) (a_cons (e_var 0) (a_cons (e_var 2) a_nil))))
    (ss_one (s_ret (e_call C (ok_raw_net G T) (by decide) (by rfl) (a_cons (e_var 0) (a_cons (e_var 1) (a_cons (e_var 2) a_nil)))))))))
theorem ok__law_hand (G : Fx K mg c_law) (T : Tx base mg c_law t_law) : FnC P w K mg base (cmOf rowsL mg) 1 "_law_hand" m_law_hand := G.d__law_hand.okM sc__law_hand fun f cdv A outer s H E C =>
    (ss_cons (s_setLc (own := [("cell", 2)]) C.calm C.nd (sw_true rfl rfl rfl (by decide +kernel)) (it_seq (e_slice l_seq (e_var 0) p_none (p_some e_int))) (blkOk_by (by kernel_rfl)) finV_ok (fun _ _ _ _ _ => (ga_name (C.blk _ _ _ _ _).nd)) (fun _ _ _ _ _ => ts_nil) (fun _ _ _ _ _ => (e_callB c_abs (by rfl) G.n_abs (by decide +kernel) (a_cons (e_callTy c_int (by rfl) G.n_int (by decide +kernel) (a_cons (e_var 2) a_nil)) a_nil))))
    (ss_one (s_ret (e_ref (a_cons (e_var 1) (a_cons e_int (a_cons e_int (a_cons (e_op o_add e_int (e_op o_mul e_int (e_callB c_len (by rfl) G.n_len (by decide +kernel) (a_cons (e_var 1) a_nil)))) (a_cons e_int a_nil)))))))))
theorem ok__law_draw (G : Fx K mg c_law) (T : Tx base mg c_law t_law) : FnC P w K mg base (cmOf rowsL mg) 1 "_law_draw" m_law_draw := G.d__law_draw.okM sc__law_draw fun f cdv A outer s H E C =>
    (ss_cons (s_if (w_and (t_cmp (o_eq C.un) (e_ix i_seq (e_var 0) e_int) e_int) (w_and1 (t_cmp o_lt (e_ix i_seq (e_var 0) e_int) (e_callB c_len (by rfl) G.n_len (by decide +kernel) (a_cons (e_ix i_seq (e_var 0) e_int) a_nil))))).t
    (ss_cons (s_set C.nd (e_ix i_seq (e_ix i_seq (e_var 0) e_int) (e_ix i_seq (e_var 0) e_int)))
    (ss_cons (s_asg (e_op o_add (e_ix i_seq (e_var 0) e_int) e_int) (g_sub (e_var 0) e_int))
    (ss_cons (s_asg (e_op o_mod (e_callTy c_int (by rfl) G.n_int (by decide +kernel) (a_cons (e_op o_add (e_op o_add (e_op o_mul (e_ix i_seq (e_var 0) e_int) e_int) (e_var 3)) e_int) a_nil)) e_int) (g_sub (e_var 0) e_int))
    (ss_one (s_if (t_cmp o_ge (e_var 3) (e_op o_pow e_int e_int))
    (ss_one (s_asg (e_var 3) (g_sub (e_var 0) e_int)))
    ss_nil)))))
    ss_nil)
    (ss_cons (s_if (t_cmp o_gt (e_ix i_seq (e_var 0) e_int) e_int)
    (ss_cons (s_set C.nd (e_op o_mod (e_callTy c_int (by rfl) G.n_int (by decide +kernel) (a_cons (e_ix i_seq (e_var 0) e_int) a_nil)) (e_var 1)))
    (ss_cons (s_asg (e_op o_fdiv (e_ix i_seq (e_var 0) e_int) (e_var 1)) (g_sub (e_var 0) e_int))
    (ss_one (s_ret (e_var 4)))))
    ss_nil)
    (ss_cons (s_asg (e_op o_add (e_ix i_seq (e_var 0) e_int) e_int) (g_sub (e_var 0) e_int))
    (ss_cons (s_set C.nd (e_op o_mod (e_callTy c_int (by rfl) G.n_int (by decide +kernel) (a_cons (e_op o_mul (e_callTy c_int (by rfl) G.n_int (by decide +kernel) (a_cons (e_op o_add (e_ix i_seq (e_var 0) e_int) (e_op o_mul e_int (e_ix i_seq (e_var 0) e_int))) a_nil)) e_int) a_nil)) e_int))
    (ss_cons (s_set C.nd (e_op o_mod (e_callTy c_int (by rfl) G.n_int (by decide +kernel) (a_cons (e_op o_mul (e_var 2) (e_op o_add (e_op o_fdiv (e_var 2) e_int) e_int)) a_nil)) e_int))
    (ss_cons (s_set C.nd (e_op o_mod (e_callTy c_int (by rfl) G.n_int (by decide +kernel) (a_cons (e_op o_mul (e_var 2) (e_op o_add (e_op o_fdiv (e_var 2) e_int) e_int)) a_nil)) e_int))
    (ss_one (s_ret (e_op o_mod (e_callTy c_int (by rfl) G.n_int (by decide +kernel) (a_cons (e_op o_fdiv (e_var 2) e_int) a_nil)) (e_var 1))))))))))
theorem ok__law_some (G : Fx K mg c_law) (T : Tx base mg c_law t_law) : FnC P w K mg base (cmOf rowsL mg) 2 "_law_some" m_law_some := G.d__law_some.okM sc__law_some fun f cdv A outer s H E C =>
    (ss_one (s_ret (e_ix i_seq (e_var 1) (e_call C (ok__law_draw G T) (by decide) (by rfl) (a_cons (e_var 0) (a_cons (e_callB c_len (by rfl) G.n_len (by decide +kernel) (a_cons (e_var 1) a_nil)) a_nil))))))
theorem ok__law_low (G : Fx K mg c_law) (T : Tx base mg c_law t_law) : FnC P w K mg base (cmOf rowsL mg) 1 "_law_low" m_law_low := G.d__law_low.okM sc__law_low fun f cdv A outer s H E C =>
    (ss_cons (s_par C.calm C.nd (a_cons (e_callB c_abs (by rfl) G.n_abs (by decide +kernel) (a_cons (e_var 0) a_nil)) (a_cons (e_callB c_abs (by rfl) G.n_abs (by decide +kernel) (a_cons (e_var 1) a_nil)) a_nil)) (by rfl))
    (ss_cons (s_while C.po (t_cmp o_gt (e_var 3) e_int)
    (ss_one (s_par C.calm C.nd (a_cons (e_op o_mod (e_callTy c_int (by rfl) G.n_int (by decide +kernel) (a_cons (e_var 2) a_nil)) (e_var 3)) (a_cons (e_var 3) a_nil)) (by rfl))))
    (ss_cons (s_set C.nd (e_if (t_cmp o_gt (e_var 1) e_int) (e_var 2) (e_op o_sub e_int (e_var 2))))
    (ss_one (s_ret (e_tup (a_cons (e_op o_fdiv (e_var 0) (e_var 2)) (a_cons (e_op o_fdiv (e_var 1) (e_var 2)) a_nil))))))))
theorem ok__law_plus (G : Fx K mg c_law) (T : Tx base mg c_law t_law) : FnC P w K mg base (cmOf rowsL mg) 2 "_law_plus" m_law_plus := G.d__law_plus.okM sc__law_plus fun f cdv A outer s H E C =>
    (ss_one (s_ret (e_call C (ok__law_low G T) (by decide) (by rfl) (a_cons (e_op o_add (e_op o_mul (e_ix i_seq (e_var 0) e_int) (e_ix i_seq (e_var 1) e_int)) (e_op o_mul (e_ix i_seq (e_var 1) e_int) (e_ix i_seq (e_var 0) e_int))) (a_cons (e_op o_mul (e_ix i_seq (e_var 0) e_int) (e_ix i_seq (e_var 1) e_int)) a_nil)))))
theorem ok__law_minus (G : Fx K mg c_law) (T : Tx base mg c_law t_law) : FnC P w K mg base (cmOf rowsL mg) 3 "_law_minus" m_law_minus := G.d__law_minus.okM sc__law_minus fun f cdv A outer s H E C =>
    (ss_one (s_ret (e_call C (ok__law_plus G T) (by decide) (by rfl) (a_cons (e_var 0) (a_cons (e_tup (a_cons (e_op o_sub e_int (e_ix i_seq (e_var 1) e_int)) (a_cons (e_ix i_seq (e_var 1) e_int) a_nil))) a_nil)))))
theorem ok__law_times (G : Fx K mg c_law) (T : Tx base mg c_law t_law) : FnC P w K mg base (cmOf rowsL mg) 2 "_law_times" m_law_times := G.d__law_times.okM sc__law_times fun f cdv A outer s H E C =>
    (ss_one (s_ret (e_call C (ok__law_low G T) (by decide) (by rfl) (a_cons (e_op o_mul (e_ix i_seq (e_var 0) e_int) (e_ix i_seq (e_var 1) e_int)) (a_cons (e_op o_mul (e_ix i_seq (e_var 0) e_int) (e_ix i_seq (e_var 1) e_int)) a_nil)))))
theorem ok__law_sum (G : Fx K mg c_law) (T : Tx base mg c_law t_law) : FnC P w K mg base (cmOf rowsL mg) 3 "_law_sum" m_law_sum := G.d__law_sum.okM sc__law_sum fun f cdv A outer s H E C =>
    (ss_cons (s_set C.nd (e_tup (a_cons e_int (a_cons e_int a_nil))))
    (ss_cons (s_for C.po C.calm (it_seq (e_var 0)) ((ga_name C.nd)).g
    (ss_one (s_set C.nd (e_call C (ok__law_plus G T) (by decide) (by rfl) (a_cons (e_var 1) (a_cons (e_var 2) a_nil))))))
    (ss_one (s_ret (e_var 1)))))
theorem ok__law_amount (G : Fx K mg c_law) (T : Tx base mg c_law t_law) : FnC P w K mg base (cmOf rowsL mg) 3 "_law_amount" m_law_amount := G.d__law_amount.okM sc__law_amount fun f cdv A outer s H E C =>
    (ss_one (s_ret (e_call C (ok__law_some G T) (by decide) (by rfl) (a_cons (e_var 0) (a_cons (e_lst (a_cons (e_tup (a_cons e_int (a_cons e_int a_nil))) (a_cons (e_tup (a_cons e_int (a_cons e_int a_nil))) (a_cons (e_tup (a_cons e_int (a_cons e_int a_nil))) (a_cons (e_tup (a_cons e_int (a_cons e_int a_nil))) (a_cons (e_tup (a_cons e_int (a_cons e_int a_nil))) (a_cons (e_tup (a_cons e_int (a_cons e_int a_nil))) (a_cons (e_tup (a_cons e_int (a_cons e_int a_nil))) (a_cons (e_tup (a_cons e_int (a_cons e_int a_nil))) (a_cons (e_tup (a_cons e_int (a_cons e_int a_nil))) (a_cons (e_tup (a_cons e_int (a_cons e_int a_nil))) a_nil))))))))))) a_nil)))))
theorem ok__law_method (G : Fx K mg c_law) (T : Tx base mg c_law t_law) : FnC P w K mg base (cmOf rowsL mg) 4 "_law_method" m_law_method := G.d__law_method.okM sc__law_method fun f cdv A outer s H E C =>
    (ss_cons (s_set C.nd (e_callTy c_tuple (by rfl) G.n_tuple (by decide +kernel) (a_cons (e_lc (own := [("good", 3)]) C.calm C.nd (it_range1 (by rfl) G.n_range (a_cons (e_var 1) a_nil)) (blkOk_by (by kernel_rfl)) finV_ok (fun _ _ _ _ _ => (ga_name (C.blk _ _ _ _ _).nd)) (fun _ _ _ _ _ => ts_nil) (fun _ _ _ _ _ => (e_call (C.blk _ _ _ _ _) (ok__law_amount G T) (by decide) (by rfl) (a_cons (e_var 0) a_nil)))) a_nil)))
    (ss_one (s_ret (e_tup (a_cons (e_call C (ok__law_draw G T) (by decide) (by rfl) (a_cons (e_var 0) (a_cons (e_var 1) a_nil))) (a_cons (e_var 2) (a_cons (e_call C (ok__law_some G T) (by decide) (by rfl) (a_cons (e_var 0) (a_cons (e_lst (a_cons (e_tup (a_cons e_int (a_cons e_int a_nil))) (a_cons (e_tup (a_cons e_int (a_cons e_int a_nil))) (a_cons (e_tup (a_cons e_int (a_cons e_int a_nil))) (a_cons (e_tup (a_cons e_int (a_cons e_int a_nil))) (a_cons (e_tup (a_cons e_int (a_cons e_int a_nil))) (a_cons (e_tup (a_cons e_int (a_cons e_int a_nil))) a_nil))))))) a_nil))) a_nil)))))))
theorem ok__law_joint (G : Fx K mg c_law) (T : Tx base mg c_law t_law) : FnC P w K mg base (cmOf rowsL mg) 3 "_law_joint" m_law_joint := G.d__law_joint.okD sc__law_joint fun f cdv A outer s H E C =>
    (ss_cons (s_par C.calm C.nd (a_cons (e_op o_add e_int (e_call C (ok__law_draw G T) (by decide) (by rfl) (a_cons (e_var 0) (a_cons e_int a_nil)))) (a_cons (e_ref a_nil) a_nil)) (by rfl))
    (ss_cons (s_for C.po C.calm (it_range1 (by rfl) G.n_range (a_cons (e_op o_add e_int (e_call C (ok__law_draw G T) (by decide) (by rfl) (a_cons (e_var 0) (a_cons e_int a_nil)))) a_nil)) ((ga_name C.nd)).g
    (ss_cons (s_set C.nd (e_callTy c_tuple (by rfl) G.n_tuple (by decide +kernel) (a_cons (e_lc (own := [("good", 6)]) C.calm C.nd (it_range1 (by rfl) G.n_range (a_cons (e_var 2) a_nil)) (blkOk_by (by kernel_rfl)) finV_ok (fun _ _ _ _ _ => (ga_name (C.blk _ _ _ _ _).nd)) (fun _ _ _ _ _ => ts_nil) (fun _ _ _ _ _ => (e_call (C.blk _ _ _ _ _) (ok__law_some G T) (by decide) (by rfl) (a_cons (e_var 0) (a_cons (e_lst (a_cons (e_tup (a_cons e_int (a_cons e_int a_nil))) (a_cons (e_tup (a_cons e_int (a_cons e_int a_nil))) (a_cons (e_tup (a_cons e_int (a_cons e_int a_nil))) (a_cons (e_tup (a_cons e_int (a_cons e_int a_nil))) (a_cons (e_tup (a_cons e_int (a_cons e_int a_nil))) (a_cons (e_tup (a_cons e_int (a_cons e_int a_nil))) a_nil))))))) a_nil))))) a_nil)))
    (ss_cons (s_set C.nd (e_callTy c_tuple (by rfl) G.n_tuple (by decide +kernel) (a_cons (e_lc (own := [("good", 6)]) C.calm C.nd (it_range1 (by rfl) G.n_range (a_cons (e_var 2) a_nil)) (blkOk_by (by kernel_rfl)) finV_ok (fun _ _ _ _ _ => (ga_name (C.blk _ _ _ _ _).nd)) (fun _ _ _ _ _ => ts_nil) (fun _ _ _ _ _ => (e_call (C.blk _ _ _ _ _) (ok__law_some G T) (by decide) (by rfl) (a_cons (e_var 0) (a_cons (e_lst (a_cons (e_tup (a_cons e_int (a_cons e_int a_nil))) (a_cons (e_tup (a_cons e_int (a_cons e_int a_nil))) (a_cons (e_tup (a_cons e_int (a_cons e_int a_nil))) (a_cons (e_tup (a_cons e_int (a_cons e_int a_nil))) (a_cons (e_tup (a_cons e_int (a_cons e_int a_nil))) (a_cons (e_tup (a_cons e_int (a_cons e_int a_nil))) a_nil))))))) a_nil))))) a_nil)))
    (ss_one (s_do (e_meth .lst PySem.F.plainAttrs_list PySem.F.slot_list_append PySem.F.type_list_append mm_append (e_var 3) (a_cons (e_tup (a_cons (e_var 4) (a_cons (e_var 5) (a_cons (e_call C (ok__law_some G T) (by decide) (by rfl) (a_cons (e_var 0) (a_cons (e_lst (a_cons (e_tup (a_cons e_int (a_cons e_int a_nil))) (a_cons (e_tup (a_cons e_int (a_cons e_int a_nil))) (a_cons (e_tup (a_cons e_int (a_cons e_int a_nil))) (a_cons (e_tup (a_cons e_int (a_cons e_int a_nil))) (a_cons (e_tup (a_cons e_int (a_cons e_int a_nil))) a_nil)))))) a_nil))) a_nil)))) a_nil)))))))
    (ss_one (s_ret (e_tup (a_cons (e_var 2) (a_cons (e_callTy c_tuple (by rfl) G.n_tuple (by decide +kernel) (a_cons (e_var 3) a_nil)) a_nil)))))))
theorem ok__law_net (G : Fx K mg c_law) (T : Tx base mg c_law t_law) : FnC P w K mg base (cmOf rowsL mg) 4 "_law_net" m_law_net := G.d__law_net.okD sc__law_net fun f cdv A outer s H E C =>
    (ss_cons (s_set C.nd (e_ref a_nil))
    (ss_cons (s_for C.po C.calm (it_range1 (by rfl) G.n_range (a_cons (e_ix i_seq (e_var 0) e_int) a_nil)) ((ga_name C.nd)).g
    (ss_cons (s_set C.nd (e_call C (ok__law_sum G T) (by decide) (by rfl) (a_cons (e_lc (own := [("method", 7), ("amount", 8)]) C.calm C.nd (it_zip (by rfl) G.n_zip (a_cons (e_ix i_seq (e_var 0) e_int) (a_cons (e_var 1) a_nil))) (blkOk_by (by kernel_rfl)) finV_ok (fun _ _ _ _ _ => (ga_tup (C.blk _ _ _ _ _).calm (gas_cons (ga_name (C.blk _ _ _ _ _).nd) (gas_cons (ga_name (C.blk _ _ _ _ _).nd) gas_nil)))) (fun _ _ _ _ _ => ts_nil) (fun _ _ _ _ _ => (e_call (C.blk _ _ _ _ _) (ok__law_times G T) (by decide) (by rfl) (a_cons (e_var 8) (a_cons (e_ix i_seq (e_ix i_seq (e_var 7) e_int) (e_var 4)) a_nil))))) a_nil)))
    (ss_cons (s_set C.nd (e_call C (ok__law_sum G T) (by decide) (by rfl) (a_cons (e_lc (own := [("method", 7), ("amount", 8)]) C.calm C.nd (it_zip (by rfl) G.n_zip (a_cons (e_ix i_seq (e_var 0) e_int) (a_cons (e_var 1) a_nil))) (blkOk_by (by kernel_rfl)) finV_ok (fun _ _ _ _ _ => (ga_tup (C.blk _ _ _ _ _).calm (gas_cons (ga_name (C.blk _ _ _ _ _).nd) (gas_cons (ga_name (C.blk _ _ _ _ _).nd) gas_nil)))) (fun _ _ _ _ _ => ts_nil) (fun _ _ _ _ _ => (e_call (C.blk _ _ _ _ _) (ok__law_times G T) (by decide) (by rfl) (a_cons (e_var 8) (a_cons (e_ix i_seq (e_ix i_seq (e_var 7) e_int) (e_var 4)) a_nil))))) a_nil)))
    (ss_one (s_do (e_meth .lst PySem.F.plainAttrs_list PySem.F.slot_list_append PySem.F.type_list_append mm_append (e_var 3) (a_cons (e_call C (ok__law_minus G T) (by decide) (by rfl) (a_cons (e_var 5) (a_cons (e_call C (ok__law_times G T) (by decide) (by rfl) (a_cons (e_var 2) (a_cons (e_var 6) a_nil))) a_nil))) a_nil)))))))
    (ss_one (s_ret (e_callTy c_tuple (by rfl) G.n_tuple (by decide +kernel) (a_cons (e_var 3) a_nil))))))
theorem ok__law_factor (G : Fx K mg c_law) (T : Tx base mg c_law t_law) : FnC P w K mg base (cmOf rowsL mg) 3 "_law_factor" m_law_factor := G.d__law_factor.okM sc__law_factor fun f cdv A outer s H E C =>
    (ss_one (s_ret (e_call C (ok__law_some G T) (by decide) (by rfl) (a_cons (e_var 0) (a_cons (e_lst (a_cons (e_tup (a_cons e_int (a_cons e_int a_nil))) (a_cons (e_tup (a_cons e_int (a_cons e_int a_nil))) (a_cons (e_tup (a_cons e_int (a_cons e_int a_nil))) (a_cons (e_tup (a_cons e_int (a_cons e_int a_nil))) (a_cons (e_tup (a_cons e_int (a_cons e_int a_nil))) (a_cons (e_tup (a_cons e_int (a_cons e_int a_nil))) (a_cons (e_tup (a_cons e_int (a_cons e_int a_nil))) a_nil)))))))) a_nil)))))
theorem ok__law_deep (G : Fx K mg c_law) (T : Tx base mg c_law t_law) : FnC P w K mg base (cmOf rowsL mg) 2 "_law_deep" m_law_deep := G.d__law_deep.okM sc__law_deep fun f cdv A outer s H E C =>
    (ss_cons (s_set C.nd (e_ix i_seq (e_lst (a_cons e_non (a_cons e_str (a_cons (e_un u_neg e_int) (a_cons e_dct0 (a_cons e_bl a_nil)))))) (e_call C (ok__law_draw G T) (by decide) (by rfl) (a_cons (e_var 0) (a_cons e_int a_nil)))))
    (ss_cons (s_for C.po C.calm (it_range1 (by rfl) G.n_range (a_cons (e_op o_add e_int (e_call C (ok__law_draw G T) (by decide) (by rfl) (a_cons (e_var 0) (a_cons e_int a_nil)))) a_nil)) ((ga_name C.nd)).g
    (ss_one (s_set C.nd (e_ix i_seq (e_lst (a_cons (e_tup (a_cons (e_var 1) a_nil)) (a_cons (e_lst (a_cons (e_var 1) a_nil)) (a_cons (e_dct1 (i := 1)) a_nil)))) (e_call C (ok__law_draw G T) (by decide) (by rfl) (a_cons (e_var 0) (a_cons e_int a_nil)))))))
    (ss_one (s_ret (e_var 1)))))
theorem ok__law_odd (G : Fx K mg c_law) (T : Tx base mg c_law t_law) : FnC P w K mg base (cmOf rowsL mg) 3 "_law_odd" m_law_odd := G.d__law_odd.okM sc__law_odd fun f cdv A outer s H E C =>
    (ss_one (s_ret (e_call C (ok__law_some G T) (by decide) (by rfl) (a_cons (e_var 0) (a_cons (e_lst (a_cons e_non (a_cons e_bl (a_cons e_bl (a_cons e_int (a_cons (e_un u_neg e_int) (a_cons e_int (a_cons (e_op o_shl e_int e_int) (a_cons e_str (a_cons e_str (a_cons (e_tup a_nil) (a_cons (e_lst a_nil) (a_cons e_dct0 (a_cons (e_tup (a_cons e_int a_nil)) (a_cons (e_tup (a_cons e_str a_nil)) (a_cons (e_call C (ok__law_deep G T) (by decide) (by rfl) (a_cons (e_var 0) a_nil)) a_nil)))))))))))))))) a_nil)))))
theorem ok__law_is_0 (G : Fx K mg c_law) (T : Tx base mg c_law t_law) : FnC P w K mg base (cmOf rowsL mg) 1 "_law_is" m_law_is_0 := G.d__law_is.ok0
theorem ok__law_is_1 (G : Fx K mg c_law) (T : Tx base mg c_law t_law) : FnC P w K mg base (cmOf rowsL mg) 2 "_law_is" m_law_is_1 := G.d__law_is.okM sc__law_is fun f cdv A outer s H E C =>
    (ss_cons (s_if (t_val (e_isi2 (by rfl) G.n_isinstance (by rfl) G.n_tuple PyProof.Rows.boot_tuple (by rfl) G.n_list PyProof.Rows.boot_list (e_var 1)))
    (ss_cons (s_if (w_or (t_cmp (o_ne C.un) (e_isi (by rfl) G.n_isinstance (by rfl) G.n_tuple PyProof.Rows.boot_tuple (e_var 0)) (e_isi (by rfl) G.n_isinstance (by rfl) G.n_tuple PyProof.Rows.boot_tuple (e_var 1))) (w_or1 (t_not (t_val (e_isi2 (by rfl) G.n_isinstance (by rfl) G.n_tuple PyProof.Rows.boot_tuple (by rfl) G.n_list PyProof.Rows.boot_list (e_var 0)))))).t
    (ss_one (s_ret e_bl))
    ss_nil)
    (ss_one (s_ret (e_and (e_cmp (o_eq C.un) (e_callB c_len (by rfl) G.n_len (by decide +kernel) (a_cons (e_var 0) a_nil)) (e_callB c_len (by rfl) G.n_len (by decide +kernel) (a_cons (e_var 1) a_nil))) (e_one (e_callB (c_all C.calm) (by rfl) G.n_all (by decide +kernel) (a_cons (e_lc (own := [("one", 2), ("two", 3)]) C.calm C.nd (it_zip (by rfl) G.n_zip (a_cons (e_var 0) (a_cons (e_var 1) a_nil))) (blkOk_by (by kernel_rfl)) finV_ok (fun _ _ _ _ _ => (ga_tup (C.blk _ _ _ _ _).calm (gas_cons (ga_name (C.blk _ _ _ _ _).nd) (gas_cons (ga_name (C.blk _ _ _ _ _).nd) gas_nil)))) (fun _ _ _ _ _ => ts_nil) (fun _ _ _ _ _ => (e_call (C.blk _ _ _ _ _) (ok__law_is_0 G T) (by decide) (by rfl) (a_cons (e_var 2) (a_cons (e_var 3) a_nil))))) a_nil)))))))
    ss_nil)
    (ss_cons (s_if (w_or (t_val (e_isi (by rfl) G.n_isinstance (by rfl) G.n_str PyProof.Rows.boot_str (e_var 1))) (w_or1 (t_cmp o_is (e_var 1) e_non))).t
    (ss_one (s_ret (e_and (e_cmp (o_eq C.un) (e_isi (by rfl) G.n_isinstance (by rfl) G.n_str PyProof.Rows.boot_str (e_var 0)) (e_isi (by rfl) G.n_isinstance (by rfl) G.n_str PyProof.Rows.boot_str (e_var 1))) (e_one (e_cmp (o_eq C.un) (e_var 0) (e_var 1))))))
    ss_nil)
    (ss_one (s_ret (e_and (e_isi (by rfl) G.n_isinstance (by rfl) G.n_int PyProof.Rows.boot_int (e_var 0)) (e_and (e_cmp (o_eq C.un) (e_isi (by rfl) G.n_isinstance (by rfl) G.n_bool PyProof.Rows.boot_bool (e_var 0)) (e_isi (by rfl) G.n_isinstance (by rfl) G.n_bool PyProof.Rows.boot_bool (e_var 1))) (e_one (e_cmp (o_eq C.un) (e_var 0) (e_var 1)))))))))
theorem ok__law_is_2 (G : Fx K mg c_law) (T : Tx base mg c_law t_law) : FnC P w K mg base (cmOf rowsL mg) 3 "_law_is" m_law_is_2 := G.d__law_is.okM sc__law_is fun f cdv A outer s H E C =>
    (ss_cons (s_if (t_val (e_isi2 (by rfl) G.n_isinstance (by rfl) G.n_tuple PyProof.Rows.boot_tuple (by rfl) G.n_list PyProof.Rows.boot_list (e_var 1)))
    (ss_cons (s_if (w_or (t_cmp (o_ne C.un) (e_isi (by rfl) G.n_isinstance (by rfl) G.n_tuple PyProof.Rows.boot_tuple (e_var 0)) (e_isi (by rfl) G.n_isinstance (by rfl) G.n_tuple PyProof.Rows.boot_tuple (e_var 1))) (w_or1 (t_not (t_val (e_isi2 (by rfl) G.n_isinstance (by rfl) G.n_tuple PyProof.Rows.boot_tuple (by rfl) G.n_list PyProof.Rows.boot_list (e_var 0)))))).t
    (ss_one (s_ret e_bl))
    ss_nil)
    (ss_one (s_ret (e_and (e_cmp (o_eq C.un) (e_callB c_len (by rfl) G.n_len (by decide +kernel) (a_cons (e_var 0) a_nil)) (e_callB c_len (by rfl) G.n_len (by decide +kernel) (a_cons (e_var 1) a_nil))) (e_one (e_callB (c_all C.calm) (by rfl) G.n_all (by decide +kernel) (a_cons (e_lc (own := [("one", 2), ("two", 3)]) C.calm C.nd (it_zip (by rfl) G.n_zip (a_cons (e_var 0) (a_cons (e_var 1) a_nil))) (blkOk_by (by kernel_rfl)) finV_ok (fun _ _ _ _ _ => (ga_tup (C.blk _ _ _ _ _).calm (gas_cons (ga_name (C.blk _ _ _ _ _).nd) (gas_cons (ga_name (C.blk _ _ _ _ _).nd) gas_nil)))) (fun _ _ _ _ _ => ts_nil) (fun _ _ _ _ _ => (e_call (C.blk _ _ _ _ _) (ok__law_is_1 G T) (by decide) (by rfl) (a_cons (e_var 2) (a_cons (e_var 3) a_nil))))) a_nil)))))))
    ss_nil)
    (ss_cons (s_if (w_or (t_val (e_isi (by rfl) G.n_isinstance (by rfl) G.n_str PyProof.Rows.boot_str (e_var 1))) (w_or1 (t_cmp o_is (e_var 1) e_non))).t
    (ss_one (s_ret (e_and (e_cmp (o_eq C.un) (e_isi (by rfl) G.n_isinstance (by rfl) G.n_str PyProof.Rows.boot_str (e_var 0)) (e_isi (by rfl) G.n_isinstance (by rfl) G.n_str PyProof.Rows.boot_str (e_var 1))) (e_one (e_cmp (o_eq C.un) (e_var 0) (e_var 1))))))
    ss_nil)
    (ss_one (s_ret (e_and (e_isi (by rfl) G.n_isinstance (by rfl) G.n_int PyProof.Rows.boot_int (e_var 0)) (e_and (e_cmp (o_eq C.un) (e_isi (by rfl) G.n_isinstance (by rfl) G.n_bool PyProof.Rows.boot_bool (e_var 0)) (e_isi (by rfl) G.n_isinstance (by rfl) G.n_bool PyProof.Rows.boot_bool (e_var 1))) (e_one (e_cmp (o_eq C.un) (e_var 0) (e_var 1)))))))))
theorem ok__law_is_3 (G : Fx K mg c_law) (T : Tx base mg c_law t_law) : FnC P w K mg base (cmOf rowsL mg) 4 "_law_is" m_law_is_3 := G.d__law_is.okM sc__law_is fun f cdv A outer s H E C =>
    (ss_cons (s_if (t_val (e_isi2 (by rfl) G.n_isinstance (by rfl) G.n_tuple PyProof.Rows.boot_tuple (by rfl) G.n_list PyProof.Rows.boot_list (e_var 1)))
    (ss_cons (s_if (w_or (t_cmp (o_ne C.un) (e_isi (by rfl) G.n_isinstance (by rfl) G.n_tuple PyProof.Rows.boot_tuple (e_var 0)) (e_isi (by rfl) G.n_isinstance (by rfl) G.n_tuple PyProof.Rows.boot_tuple (e_var 1))) (w_or1 (t_not (t_val (e_isi2 (by rfl) G.n_isinstance (by rfl) G.n_tuple PyProof.Rows.boot_tuple (by rfl) G.n_list PyProof.Rows.boot_list (e_var 0)))))).t
    (ss_one (s_ret e_bl))
    ss_nil)
    (ss_one (s_ret (e_and (e_cmp (o_eq C.un) (e_callB c_len (by rfl) G.n_len (by decide +kernel) (a_cons (e_var 0) a_nil)) (e_callB c_len (by rfl) G.n_len (by decide +kernel) (a_cons (e_var 1) a_nil))) (e_one (e_callB (c_all C.calm) (by rfl) G.n_all (by decide +kernel) (a_cons (e_lc (own := [("one", 2), ("two", 3)]) C.calm C.nd (it_zip (by rfl) G.n_zip (a_cons (e_var 0) (a_cons (e_var 1) a_nil))) (blkOk_by (by kernel_rfl)) finV_ok (fun _ _ _ _ _ => (ga_tup (C.blk _ _ _ _ _).calm (gas_cons (ga_name (C.blk _ _ _ _ _).nd) (gas_cons (ga_name (C.blk _ _ _ _ _).nd) gas_nil)))) (fun _ _ _ _ _ => ts_nil) (fun _ _ _ _ _ => (e_call (C.blk _ _ _ _ _) (ok__law_is_2 G T) (by decide) (by rfl) (a_cons (e_var 2) (a_cons (e_var 3) a_nil))))) a_nil)))))))
    ss_nil)
    (ss_cons (s_if (w_or (t_val (e_isi (by rfl) G.n_isinstance (by rfl) G.n_str PyProof.Rows.boot_str (e_var 1))) (w_or1 (t_cmp o_is (e_var 1) e_non))).t
    (ss_one (s_ret (e_and (e_cmp (o_eq C.un) (e_isi (by rfl) G.n_isinstance (by rfl) G.n_str PyProof.Rows.boot_str (e_var 0)) (e_isi (by rfl) G.n_isinstance (by rfl) G.n_str PyProof.Rows.boot_str (e_var 1))) (e_one (e_cmp (o_eq C.un) (e_var 0) (e_var 1))))))
    ss_nil)
    (ss_one (s_ret (e_and (e_isi (by rfl) G.n_isinstance (by rfl) G.n_int PyProof.Rows.boot_int (e_var 0)) (e_and (e_cmp (o_eq C.un) (e_isi (by rfl) G.n_isinstance (by rfl) G.n_bool PyProof.Rows.boot_bool (e_var 0)) (e_isi (by rfl) G.n_isinstance (by rfl) G.n_bool PyProof.Rows.boot_bool (e_var 1))) (e_one (e_cmp (o_eq C.un) (e_var 0) (e_var 1)))))))))
theorem ok__law_is_4 (G : Fx K mg c_law) (T : Tx base mg c_law t_law) : FnC P w K mg base (cmOf rowsL mg) 5 "_law_is" m_law_is_4 := G.d__law_is.okM sc__law_is fun f cdv A outer s H E C =>
    (ss_cons (s_if (t_val (e_isi2 (by rfl) G.n_isinstance (by rfl) G.n_tuple PyProof.Rows.boot_tuple (by rfl) G.n_list PyProof.Rows.boot_list (e_var 1)))
    (ss_cons (s_if (w_or (t_cmp (o_ne C.un) (e_isi (by rfl) G.n_isinstance (by rfl) G.n_tuple PyProof.Rows.boot_tuple (e_var 0)) (e_isi (by rfl) G.n_isinstance (by rfl) G.n_tuple PyProof.Rows.boot_tuple (e_var 1))) (w_or1 (t_not (t_val (e_isi2 (by rfl) G.n_isinstance (by rfl) G.n_tuple PyProof.Rows.boot_tuple (by rfl) G.n_list PyProof.Rows.boot_list (e_var 0)))))).t
    (ss_one (s_ret e_bl))
    ss_nil)
    (ss_one (s_ret (e_and (e_cmp (o_eq C.un) (e_callB c_len (by rfl) G.n_len (by decide +kernel) (a_cons (e_var 0) a_nil)) (e_callB c_len (by rfl) G.n_len (by decide +kernel) (a_cons (e_var 1) a_nil))) (e_one (e_callB (c_all C.calm) (by rfl) G.n_all (by decide +kernel) (a_cons (e_lc (own := [("one", 2), ("two", 3)]) C.calm C.nd (it_zip (by rfl) G.n_zip (a_cons (e_var 0) (a_cons (e_var 1) a_nil))) (blkOk_by (by kernel_rfl)) finV_ok (fun _ _ _ _ _ => (ga_tup (C.blk _ _ _ _ _).calm (gas_cons (ga_name (C.blk _ _ _ _ _).nd) (gas_cons (ga_name (C.blk _ _ _ _ _).nd) gas_nil)))) (fun _ _ _ _ _ => ts_nil) (fun _ _ _ _ _ => (e_call (C.blk _ _ _ _ _) (ok__law_is_3 G T) (by decide) (by rfl) (a_cons (e_var 2) (a_cons (e_var 3) a_nil))))) a_nil)))))))
    ss_nil)
    (ss_cons (s_if (w_or (t_val (e_isi (by rfl) G.n_isinstance (by rfl) G.n_str PyProof.Rows.boot_str (e_var 1))) (w_or1 (t_cmp o_is (e_var 1) e_non))).t
    (ss_one (s_ret (e_and (e_cmp (o_eq C.un) (e_isi (by rfl) G.n_isinstance (by rfl) G.n_str PyProof.Rows.boot_str (e_var 0)) (e_isi (by rfl) G.n_isinstance (by rfl) G.n_str PyProof.Rows.boot_str (e_var 1))) (e_one (e_cmp (o_eq C.un) (e_var 0) (e_var 1))))))
    ss_nil)
    (ss_one (s_ret (e_and (e_isi (by rfl) G.n_isinstance (by rfl) G.n_int PyProof.Rows.boot_int (e_var 0)) (e_and (e_cmp (o_eq C.un) (e_isi (by rfl) G.n_isinstance (by rfl) G.n_bool PyProof.Rows.boot_bool (e_var 0)) (e_isi (by rfl) G.n_isinstance (by rfl) G.n_bool PyProof.Rows.boot_bool (e_var 1))) (e_one (e_cmp (o_eq C.un) (e_var 0) (e_var 1)))))))))
theorem ok__law_is_5 (G : Fx K mg c_law) (T : Tx base mg c_law t_law) : FnC P w K mg base (cmOf rowsL mg) 6 "_law_is" m_law_is_5 := G.d__law_is.okM sc__law_is fun f cdv A outer s H E C =>
    (ss_cons (s_if (t_val (e_isi2 (by rfl) G.n_isinstance (by rfl) G.n_tuple PyProof.Rows.boot_tuple (by rfl) G.n_list PyProof.Rows.boot_list (e_var 1)))
    (ss_cons (s_if (w_or (t_cmp (o_ne C.un) (e_isi (by rfl) G.n_isinstance (by rfl) G.n_tuple PyProof.Rows.boot_tuple (e_var 0)) (e_isi (by rfl) G.n_isinstance (by rfl) G.n_tuple PyProof.Rows.boot_tuple (e_var 1))) (w_or1 (t_not (t_val (e_isi2 (by rfl) G.n_isinstance (by rfl) G.n_tuple PyProof.Rows.boot_tuple (by rfl) G.n_list PyProof.Rows.boot_list (e_var 0)))))).t
    (ss_one (s_ret e_bl))
    ss_nil)
    (ss_one (s_ret (e_and (e_cmp (o_eq C.un) (e_callB c_len (by rfl) G.n_len (by decide +kernel) (a_cons (e_var 0) a_nil)) (e_callB c_len (by rfl) G.n_len (by decide +kernel) (a_cons (e_var 1) a_nil))) (e_one (e_callB (c_all C.calm) (by rfl) G.n_all (by decide +kernel) (a_cons (e_lc (own := [("one", 2), ("two", 3)]) C.calm C.nd (it_zip (by rfl) G.n_zip (a_cons (e_var 0) (a_cons (e_var 1) a_nil))) (blkOk_by (by kernel_rfl)) finV_ok (fun _ _ _ _ _ => (ga_tup (C.blk _ _ _ _ _).calm (gas_cons (ga_name (C.blk _ _ _ _ _).nd) (gas_cons (ga_name (C.blk _ _ _ _ _).nd) gas_nil)))) (fun _ _ _ _ _ => ts_nil) (fun _ _ _ _ _ => (e_call (C.blk _ _ _ _ _) (ok__law_is_4 G T) (by decide) (by rfl) (a_cons (e_var 2) (a_cons (e_var 3) a_nil))))) a_nil)))))))
    ss_nil)
    (ss_cons (s_if (w_or (t_val (e_isi (by rfl) G.n_isinstance (by rfl) G.n_str PyProof.Rows.boot_str (e_var 1))) (w_or1 (t_cmp o_is (e_var 1) e_non))).t
    (ss_one (s_ret (e_and (e_cmp (o_eq C.un) (e_isi (by rfl) G.n_isinstance (by rfl) G.n_str PyProof.Rows.boot_str (e_var 0)) (e_isi (by rfl) G.n_isinstance (by rfl) G.n_str PyProof.Rows.boot_str (e_var 1))) (e_one (e_cmp (o_eq C.un) (e_var 0) (e_var 1))))))
    ss_nil)
    (ss_one (s_ret (e_and (e_isi (by rfl) G.n_isinstance (by rfl) G.n_int PyProof.Rows.boot_int (e_var 0)) (e_and (e_cmp (o_eq C.un) (e_isi (by rfl) G.n_isinstance (by rfl) G.n_bool PyProof.Rows.boot_bool (e_var 0)) (e_isi (by rfl) G.n_isinstance (by rfl) G.n_bool PyProof.Rows.boot_bool (e_var 1))) (e_one (e_cmp (o_eq C.un) (e_var 0) (e_var 1)))))))))
theorem ok__law_is (G : Fx K mg c_law) (T : Tx base mg c_law t_law) : FnC P w K mg base (cmOf rowsL mg) 7 "_law_is" m_law_is := G.d__law_is.okM sc__law_is fun f cdv A outer s H E C =>
    (ss_cons (s_if (t_val (e_isi2 (by rfl) G.n_isinstance (by rfl) G.n_tuple PyProof.Rows.boot_tuple (by rfl) G.n_list PyProof.Rows.boot_list (e_var 1)))
    (ss_cons (s_if (w_or (t_cmp (o_ne C.un) (e_isi (by rfl) G.n_isinstance (by rfl) G.n_tuple PyProof.Rows.boot_tuple (e_var 0)) (e_isi (by rfl) G.n_isinstance (by rfl) G.n_tuple PyProof.Rows.boot_tuple (e_var 1))) (w_or1 (t_not (t_val (e_isi2 (by rfl) G.n_isinstance (by rfl) G.n_tuple PyProof.Rows.boot_tuple (by rfl) G.n_list PyProof.Rows.boot_list (e_var 0)))))).t
    (ss_one (s_ret e_bl))
    ss_nil)
    (ss_one (s_ret (e_and (e_cmp (o_eq C.un) (e_callB c_len (by rfl) G.n_len (by decide +kernel) (a_cons (e_var 0) a_nil)) (e_callB c_len (by rfl) G.n_len (by decide +kernel) (a_cons (e_var 1) a_nil))) (e_one (e_callB (c_all C.calm) (by rfl) G.n_all (by decide +kernel) (a_cons (e_lc (own := [("one", 2), ("two", 3)]) C.calm C.nd (it_zip (by rfl) G.n_zip (a_cons (e_var 0) (a_cons (e_var 1) a_nil))) (blkOk_by (by kernel_rfl)) finV_ok (fun _ _ _ _ _ => (ga_tup (C.blk _ _ _ _ _).calm (gas_cons (ga_name (C.blk _ _ _ _ _).nd) (gas_cons (ga_name (C.blk _ _ _ _ _).nd) gas_nil)))) (fun _ _ _ _ _ => ts_nil) (fun _ _ _ _ _ => (e_call (C.blk _ _ _ _ _) (ok__law_is_5 G T) (by decide) (by rfl) (a_cons (e_var 2) (a_cons (e_var 3) a_nil))))) a_nil)))))))
    ss_nil)
    (ss_cons (s_if (w_or (t_val (e_isi (by rfl) G.n_isinstance (by rfl) G.n_str PyProof.Rows.boot_str (e_var 1))) (w_or1 (t_cmp o_is (e_var 1) e_non))).t
    (ss_one (s_ret (e_and (e_cmp (o_eq C.un) (e_isi (by rfl) G.n_isinstance (by rfl) G.n_str PyProof.Rows.boot_str (e_var 0)) (e_isi (by rfl) G.n_isinstance (by rfl) G.n_str PyProof.Rows.boot_str (e_var 1))) (e_one (e_cmp (o_eq C.un) (e_var 0) (e_var 1))))))
    ss_nil)
    (ss_one (s_ret (e_and (e_isi (by rfl) G.n_isinstance (by rfl) G.n_int PyProof.Rows.boot_int (e_var 0)) (e_and (e_cmp (o_eq C.un) (e_isi (by rfl) G.n_isinstance (by rfl) G.n_bool PyProof.Rows.boot_bool (e_var 0)) (e_isi (by rfl) G.n_isinstance (by rfl) G.n_bool PyProof.Rows.boot_bool (e_var 1))) (e_one (e_cmp (o_eq C.un) (e_var 0) (e_var 1)))))))))
theorem ok__law_bent (G : Fx K mg c_law) (T : Tx base mg c_law t_law) : FnC P w K mg base (cmOf rowsL mg) 4 "_law_bent" m_law_bent := G.d__law_bent.okM sc__law_bent fun f cdv A outer s H E C =>
    (ss_cons (s_asg (e_var 1) ((ga_tup C.calm (gas_cons (ga_name C.nd) (gas_cons (ga_name C.nd) gas_nil)))).g)
    (ss_cons (s_asg (e_ix i_seq (e_var 4) e_int) ((ga_tup C.calm (gas_cons (ga_name C.nd) (gas_cons (ga_name C.nd) (gas_cons (ga_name C.nd) gas_nil))))).g)
    (ss_cons (s_set C.nd (e_lst (a_cons (e_callTy c_list (by rfl) G.n_list (by decide +kernel) (a_cons (e_var 1) a_nil)) (a_cons (e_tup (a_cons (e_var 3) (a_cons (e_callTy c_list (by rfl) G.n_list (by decide +kernel) (a_cons (e_var 4) a_nil)) a_nil))) (a_cons (e_tup (a_cons (e_var 3) (a_cons (e_tup a_nil) a_nil))) (a_cons (e_tup (a_cons (e_op o_add (e_var 3) e_int) (a_cons (e_var 4) a_nil))) (a_cons (e_tup (a_cons e_int (a_cons (e_var 4) a_nil))) (a_cons (e_tup (a_cons e_int (a_cons (e_var 4) a_nil))) a_nil))))))))
    (ss_cons (s_set C.nd (e_op o_add (e_var 2) (e_lst (a_cons (e_tup (a_cons (e_var 3) (a_cons (e_op o_mul (e_slice l_seq (e_var 4) p_none (p_some e_int)) e_int) a_nil))) (a_cons (e_tup (a_cons (e_var 3) (a_cons (e_tup (a_cons (e_tup (a_cons (e_var 5) (a_cons (e_var 6) a_nil))) a_nil)) a_nil))) (a_cons (e_tup (a_cons (e_var 3) (a_cons (e_tup (a_cons (e_tup (a_cons (e_var 5) (a_cons (e_var 6) (a_cons e_int a_nil)))) a_nil)) a_nil))) a_nil))))))
    (ss_cons (s_set C.nd (e_op o_add (e_var 2) (e_lst (a_cons (e_tup (a_cons (e_var 3) (a_cons (e_tup (a_cons (e_tup (a_cons (e_var 5) (a_cons (e_var 6) (a_cons (e_tup (a_cons (e_un u_neg e_int) (a_cons e_int a_nil))) a_nil)))) a_nil)) a_nil))) (a_cons (e_tup (a_cons (e_var 3) (a_cons (e_tup (a_cons (e_tup (a_cons (e_var 5) (a_cons (e_var 6) (a_cons (e_tup (a_cons e_int (a_cons e_int a_nil))) a_nil)))) a_nil)) a_nil))) (a_cons (e_tup (a_cons e_bl (a_cons (e_slice l_seq (e_var 4) p_none (p_some e_int)) a_nil))) a_nil))))))
    (ss_cons (s_set C.nd (e_op o_add (e_var 2) (e_lst (a_cons (e_tup (a_cons (e_var 3) (a_cons (e_tup (a_cons (e_tup (a_cons (e_slice l_seq (e_var 5) (p_some e_int) p_none) (a_cons (e_var 6) (a_cons (e_var 7) a_nil)))) a_nil)) a_nil))) (a_cons (e_tup (a_cons (e_var 3) (a_cons (e_tup (a_cons (e_tup (a_cons (e_var 5) (a_cons (e_op o_add (e_var 6) (e_tup (a_cons (e_tup (a_cons e_int (a_cons e_int a_nil))) a_nil))) (a_cons (e_var 7) a_nil)))) a_nil)) a_nil))) (a_cons (e_op o_add (e_var 1) (e_tup (a_cons e_int a_nil))) a_nil))))))
    (ss_cons (s_set C.nd (e_op o_add (e_var 2) (e_lst (a_cons (e_tup (a_cons (e_var 3) (a_cons (e_tup (a_cons (e_tup (a_cons (e_callTy c_list (by rfl) G.n_list (by decide +kernel) (a_cons (e_var 5) a_nil)) (a_cons (e_var 6) (a_cons (e_var 7) a_nil)))) a_nil)) a_nil))) (a_cons (e_tup (a_cons (e_var 3) (a_cons (e_tup (a_cons (e_op o_mul (e_tup (a_cons (e_tup (a_cons e_bl (a_cons e_int a_nil))) a_nil)) (e_var 3)) (a_cons (e_var 6) (a_cons (e_var 7) a_nil)))) a_nil))) (a_cons (e_call C (ok__law_odd G T) (by decide) (by rfl) (a_cons (e_var 0) a_nil)) a_nil))))))
    (ss_one (s_ret (e_call C (ok__law_some G T) (by decide) (by rfl) (a_cons (e_var 0) (a_cons (e_var 2) a_nil))))))))))))
set_option maxHeartbeats 4000000 in
theorem ok_law (G : Fx K mg c_law) (HT : TabC.tabs = [(t_law, ("law.<locals>.<lambda>" : Str))]) (NT : [t_law].Nodup) {fa : Addr} (hm : mg "law" = some (.ref fa)) : LawF P w K mg (cmOf rowsL mg) 12 fa "script" [(c_law, t_law)] m_law := G.d_law.lawD sc_law (fun base HB f A outer s H E C =>
    have T : Tx base mg c_law t_law := ⟨HB (c_law, t_law) (.head _), by rw [HT]; exact .head _, fun p hp _ => by rw [HT, List.mem_singleton] at hp; rw [hp]⟩
    (ss_cons (s_set C.nd (e_call C (ok__law_hand G T) (by decide) (by rfl) (a_cons (e_var 0) a_nil)))
    (ss_cons (s_for C.po C.calm (it_range1 (by rfl) G.n_range (a_cons e_int a_nil)) ((ga_name C.nd)).g
    (ss_cons (s_asg (e_tup (a_cons (e_call C (ok__law_joint G T) (by decide) (by rfl) (a_cons (e_var 1) a_nil)) (a_cons (e_call C (ok__law_factor G T) (by decide) (by rfl) (a_cons (e_var 1) a_nil)) a_nil))) ((ga_tup C.calm (gas_cons (ga_name C.nd) (gas_cons (ga_name C.nd) gas_nil)))).g)
    (ss_cons (s_set C.nd (e_callTy c_tuple (by rfl) G.n_tuple (by decide +kernel) (a_cons (e_lc (own := [("method", 19)]) C.calm C.nd (it_seq (e_ix i_seq (e_var 10) e_int)) (blkOk_by (by kernel_rfl)) finV_ok (fun _ _ _ _ _ => (ga_name (C.blk _ _ _ _ _).nd)) (fun _ _ _ _ _ => ts_nil) (fun _ _ _ _ _ => (e_call (C.blk _ _ _ _ _) (ok__law_amount G T) (by decide) (by rfl) (a_cons (e_var 1) a_nil)))) a_nil)))
    (ss_cons (s_if (w_or (t_cmp o_isn (e_call C (ok_is_joint G T) (by decide) (by rfl) (a_cons (e_var 10) a_nil)) e_bl) (w_or1 (t_not (t_val (e_call C (ok__law_is G T) (by decide) (by rfl) (a_cons (e_call C (ok_joint_net G T) (by decide) (by rfl) (a_cons (e_var 10) (a_cons (e_var 3) (a_cons (e_var 11) a_nil)))) (a_cons (e_call C (ok__law_net G T) (by decide) (by rfl) (a_cons (e_var 10) (a_cons (e_var 3) (a_cons (e_var 11) a_nil)))) a_nil))))))).t
    (ss_one (s_ret e_bl))
    ss_nil)
    (ss_cons (s_set C.nd (e_call C (ok__law_bent G T) (by decide) (by rfl) (a_cons (e_var 1) (a_cons (e_var 10) a_nil))))
    (ss_cons (s_if (w_or (t_cmp o_isn (e_call C (ok_is_joint G T) (by decide) (by rfl) (a_cons (e_var 4) a_nil)) e_bl) (w_or1 (t_cmp (o_ne C.un) (e_lam C (wd__law_word G) (by rfl) T.tb_law (by rfl) (tab_memT T.me_law (by rfl)) (tab_uniT T.un_law (by rfl)) (LamX.lamS_by (by kernel_rfl)) (by rfl) (fun _ _ _ _ _ => rfl) (fun _ _ _ _ _ _ _ C2 => (e_call C2 (ok_joint_net G T) (by decide) (by rfl) (a_cons (e_var 4) (a_cons (e_var 3) (a_cons (e_var 11) a_nil)))))) e_str))).t
    (ss_one (s_ret e_bl))
    ss_nil)
    (ss_cons (s_set C.nd (e_lst (a_cons (e_slice l_seq (e_var 3) p_none (p_some (e_un u_neg e_int))) (a_cons (e_callTy c_list (by rfl) G.n_list (by decide +kernel) (a_cons (e_var 3) a_nil)) (a_cons (e_op o_add (e_var 3) (e_tup (a_cons (e_tup (a_cons e_int (a_cons e_int a_nil))) a_nil))) (a_cons e_non (a_cons (e_op o_mul (e_tup (a_cons (e_tup (a_cons e_int (a_cons e_int a_nil))) a_nil)) (e_callB c_len (by rfl) G.n_len (by decide +kernel) (a_cons (e_var 3) a_nil))) (a_cons (e_op o_mul (e_tup (a_cons (e_tup (a_cons (e_un u_neg e_int) (a_cons e_int a_nil))) a_nil)) (e_callB c_len (by rfl) G.n_len (by decide +kernel) (a_cons (e_var 3) a_nil))) a_nil))))))))
    (ss_cons (s_set C.nd (e_call C (ok__law_some G T) (by decide) (by rfl) (a_cons (e_var 1) (a_cons (e_var 5) a_nil))))
    (ss_cons (s_set C.nd (e_call C (ok__law_some G T) (by decide) (by rfl) (a_cons (e_var 1) (a_cons (e_lst (a_cons (e_tup (a_cons e_int (a_cons e_int a_nil))) (a_cons (e_tup (a_cons (e_un u_neg e_int) (a_cons e_int a_nil))) (a_cons e_int (a_cons e_non (a_cons (e_tup (a_cons e_int (a_cons e_int a_nil))) (a_cons (e_tup (a_cons e_bl (a_cons e_int a_nil))) (a_cons (e_lst (a_cons e_int (a_cons e_int a_nil))) a_nil)))))))) a_nil))))
    (ss_cons (s_if (t_cmp (o_ne C.un) (e_lam C (wd__law_word G) (by rfl) T.tb_law (by rfl) (tab_memT T.me_law (by rfl)) (tab_uniT T.un_law (by rfl)) (LamX.lamS_by (by kernel_rfl)) (by rfl) (fun _ _ _ _ _ => rfl) (fun _ _ _ _ _ _ _ C2 => (e_call C2 (ok_joint_net G T) (by decide) (by rfl) (a_cons (e_var 10) (a_cons (e_var 5) (a_cons (e_var 6) a_nil)))))) e_str)
    (ss_one (s_ret e_bl))
    ss_nil)
    (ss_cons (s_if (t_cmp (o_ne C.un) (e_lam C (wd__law_word G) (by rfl) T.tb_law (by rfl) (tab_memT T.me_law (by rfl)) (tab_uniT T.un_law (by rfl)) (LamX.lamS_by (by kernel_rfl)) (by rfl) (fun _ _ _ _ _ => rfl) (fun _ _ _ _ _ _ _ C2 => (e_call C2 (ok_joint_net G T) (by decide) (by rfl) (a_cons (e_var 10) (a_cons (e_var 3) (a_cons (e_var 6) a_nil)))))) e_str)
    (ss_one (s_ret e_bl))
    ss_nil)
    (ss_cons (s_asg (e_tup (a_cons (e_op o_add e_int (e_call C (ok__law_draw G T) (by decide) (by rfl) (a_cons (e_var 1) (a_cons e_int a_nil)))) (a_cons (e_call C (ok__law_some G T) (by decide) (by rfl) (a_cons (e_var 1) (a_cons (e_lst (a_cons e_int (a_cons e_int (a_cons e_int a_nil)))) a_nil))) a_nil))) ((ga_tup C.calm (gas_cons (ga_name C.nd) (gas_cons (ga_name C.nd) gas_nil)))).g)
    (ss_cons (s_set C.nd (e_tup (a_cons (e_var 12) (a_cons (e_callTy c_tuple (by rfl) G.n_tuple (by decide +kernel) (a_cons (e_lc (own := [("again", 20)]) C.calm C.nd (it_range1 (by rfl) G.n_range (a_cons (e_var 13) a_nil)) (blkOk_by (by kernel_rfl)) finV_ok (fun _ _ _ _ _ => (ga_name (C.blk _ _ _ _ _).nd)) (fun _ _ _ _ _ => ts_nil) (fun _ _ _ _ _ => (e_call (C.blk _ _ _ _ _) (ok__law_method G T) (by decide) (by rfl) (a_cons (e_var 1) (a_cons (e_var 12) a_nil))))) a_nil)) a_nil))))
    (ss_cons (s_set C.nd (e_ref a_nil))
    (ss_cons (s_for C.po C.calm (it_seq (e_ix i_seq (e_var 7) e_int)) ((ga_tup C.calm (gas_cons (ga_name C.nd) (gas_cons (ga_name C.nd) (gas_cons (ga_name C.nd) gas_nil))))).g
    (ss_one (s_do (e_meth .lst PySem.F.plainAttrs_list PySem.F.slot_list_append PySem.F.type_list_append mm_append (e_var 8) (a_cons (e_tup (a_cons (e_callTy c_tuple (by rfl) G.n_tuple (by decide +kernel) (a_cons (e_lc (own := [("other", 21)]) C.calm C.nd (it_range1 (by rfl) G.n_range (a_cons (e_var 12) a_nil)) (blkOk_by (by kernel_rfl)) finV_ok (fun _ _ _ _ _ => (ga_name (C.blk _ _ _ _ _).nd)) (fun _ _ _ _ _ => ts_nil) (fun _ _ _ _ _ => (e_tup (a_cons (e_callTy c_int (by rfl) G.n_int (by decide +kernel) (a_cons (e_cmp (o_eq (C.blk _ _ _ _ _).un) (e_var 14) (e_var 21)) a_nil)) (a_cons e_int a_nil))))) a_nil)) (a_cons (e_var 15) (a_cons (e_var 16) a_nil)))) a_nil)))))
    (ss_cons (s_par C.calm C.nd (a_cons (e_call C (ok_joint_of G T) (by decide) (by rfl) (a_cons (e_var 7) a_nil)) (a_cons (e_callTy c_tuple (by rfl) G.n_tuple (by decide +kernel) (a_cons (e_lc (own := [("again", 20)]) C.calm C.nd (it_range1 (by rfl) G.n_range (a_cons (e_var 13) a_nil)) (blkOk_by (by kernel_rfl)) finV_ok (fun _ _ _ _ _ => (ga_name (C.blk _ _ _ _ _).nd)) (fun _ _ _ _ _ => ts_nil) (fun _ _ _ _ _ => (e_call (C.blk _ _ _ _ _) (ok__law_amount G T) (by decide) (by rfl) (a_cons (e_var 1) a_nil)))) a_nil)) a_nil)) (by rfl))
    (ss_cons (s_if (t_not (t_val (e_call C (ok__law_is G T) (by decide) (by rfl) (a_cons (e_var 17) (a_cons (e_tup (a_cons (e_var 12) (a_cons (e_callTy c_tuple (by rfl) G.n_tuple (by decide +kernel) (a_cons (e_var 8) a_nil)) a_nil))) a_nil)))))
    (ss_one (s_ret e_bl))
    ss_nil)
    (ss_cons (s_if (t_not (t_val (e_call C (ok__law_is G T) (by decide) (by rfl) (a_cons (e_call C (ok_joint_net G T) (by decide) (by rfl) (a_cons (e_var 17) (a_cons (e_var 18) (a_cons (e_var 11) a_nil)))) (a_cons (e_call C (ok_net G T) (by decide) (by rfl) (a_cons (e_var 7) (a_cons (e_var 18) (a_cons (e_var 11) a_nil)))) a_nil)))))
    (ss_one (s_ret e_bl))
    ss_nil)
    (ss_cons (s_set C.nd (e_tup (a_cons (e_var 12) (a_cons (e_slice l_seq (e_op o_mul (e_ix i_seq (e_var 7) e_int) e_int) p_none (p_some (e_op o_add e_int (e_call C (ok__law_draw G T) (by decide) (by rfl) (a_cons (e_var 1) (a_cons e_int a_nil)))))) a_nil))))
    (ss_cons (s_if (t_cmp (o_ne C.un) (e_lam C (wd__law_word G) (by rfl) T.tb_law (by rfl) (tab_memT T.me_law (by rfl)) (tab_uniT T.un_law (by rfl)) (LamX.lamS_by (by kernel_rfl)) (by rfl) (fun _ _ _ _ _ => rfl) (fun _ _ _ _ _ _ _ C2 => (e_call C2 (ok_joint_of G T) (by decide) (by rfl) (a_cons (e_var 9) a_nil)))) e_str)
    (ss_one (s_ret e_bl))
    ss_nil)
    (ss_one (s_if (t_cmp (o_ne C.un) (e_lam C (wd__law_word G) (by rfl) T.tb_law (by rfl) (tab_memT T.me_law (by rfl)) (tab_uniT T.un_law (by rfl)) (LamX.lamS_by (by kernel_rfl)) (by rfl) (fun _ _ _ _ _ => rfl) (fun _ _ _ _ _ _ _ C2 => (e_call C2 (ok_joint_of G T) (by decide) (by rfl) (a_cons (e_call C2 (ok__law_some G T) (by decide) (by rfl) (a_cons (e_var 1) (a_cons (e_lst (a_cons (e_var 10) (a_cons e_non (a_cons (e_tup (a_cons (e_var 12) (a_cons (e_tup a_nil) a_nil))) (a_cons (e_tup (a_cons e_int (a_cons (e_ix i_seq (e_var 7) e_int) a_nil))) a_nil))))) a_nil))) a_nil)))) e_str)
    (ss_one (s_ret e_bl))
    ss_nil))))))))))))))))))))))
    (ss_one (s_ret e_bl))))) hm
end
/-! ### the facts, from the head -/
set_option maxHeartbeats 4000000 in
theorem fx_mk {K : PySem.W.Frag} {h : Heap} {mg : Str → Option Value} (X : K.In h) (G : h.Ns mainGlobals mg)
    {C_NoBook : Addr}
    {C_NoPlan : Addr}
    {C_NoFactor : Addr}
    {C_TooMany : Addr}
    {C_NoJoint : Addr}
    {C_GoodsError : Addr}
    {NC_TooMany fI_TooMany : Addr} {nmC_TooMany qnC_TooMany : Str} {bsC_TooMany bmC_TooMany sbC_TooMany : List Value} {snC_TooMany : List Str} {abC_TooMany : Bool} {colC_TooMany : Option Bool} {ddC_TooMany odI_TooMany anI_TooMany : Option Addr} {k0C_TooMany k1C_TooMany k2C_TooMany k3C_TooMany k5C_TooMany : Option Value} {ocI_TooMany kVI_TooMany dcI_TooMany pmI_TooMany cdI_TooMany ctI_TooMany : Value} {slI_TooMany : Array (Option Value)}
    {ct_MOST_GOODS : Tok}
    {ct_MOST_METHODS : Tok}
    {ca_ZERO : Addr} {co_ZERO : Option Addr} {ci_ZERO : List Value} {cn_ZERO : Nat} {cs_ZERO : Array (Option Value)}
    {ct_MOST_JOINT : Tok}
    {ca_ONE : Addr} {co_ONE : Option Addr} {ci_ONE : List Value} {cn_ONE : Nat} {cs_ONE : Array (Option Value)}
    {f__law_word : Addr} {od__law_word an__law_word : Option Addr} {sl__law_word : Array (Option Value)} {oc__law_word kV__law_word dc__law_word pm__law_word ct__law_word : Value} {cd__law_word : Value}
    {f_is_integer : Addr} {od_is_integer an_is_integer : Option Addr} {sl_is_integer : Array (Option Value)} {oc_is_integer kV_is_integer dc_is_integer pm_is_integer ct_is_integer : Value} {cd_is_integer : Value}
    {f_is_within : Addr} {od_is_within an_is_within : Option Addr} {sl_is_within : Array (Option Value)} {oc_is_within kV_is_within dc_is_within pm_is_within ct_is_within : Value} {cd_is_within : Value}
    {f_is_sized : Addr} {od_is_sized an_is_sized : Option Addr} {sl_is_sized : Array (Option Value)} {oc_is_sized kV_is_sized dc_is_sized pm_is_sized ct_is_sized : Value} {cd_is_sized : Value}
    {f_common : Addr} {od_common an_common : Option Addr} {sl_common : Array (Option Value)} {oc_common kV_common dc_common pm_common ct_common : Value} {cd_common : Value}
    {f_share : Addr} {od_share an_share : Option Addr} {sl_share : Array (Option Value)} {oc_share kV_share dc_share pm_share ct_share : Value} {cd_share : Value}
    {f_is_share : Addr} {od_is_share an_is_share : Option Addr} {sl_is_share : Array (Option Value)} {oc_is_share kV_is_share dc_is_share pm_is_share ct_is_share : Value} {cd_is_share : Value}
    {f_plus : Addr} {od_plus an_plus : Option Addr} {sl_plus : Array (Option Value)} {oc_plus kV_plus dc_plus pm_plus ct_plus : Value} {cd_plus : Value}
    {f_minus : Addr} {od_minus an_minus : Option Addr} {sl_minus : Array (Option Value)} {oc_minus kV_minus dc_minus pm_minus ct_minus : Value} {cd_minus : Value}
    {f_times : Addr} {od_times an_times : Option Addr} {sl_times : Array (Option Value)} {oc_times kV_times dc_times pm_times ct_times : Value} {cd_times : Value}
    {f_is_amount : Addr} {od_is_amount an_is_amount : Option Addr} {sl_is_amount : Array (Option Value)} {oc_is_amount kV_is_amount dc_is_amount pm_is_amount ct_is_amount : Value} {cd_is_amount : Value}
    {f_are_amounts : Addr} {od_are_amounts an_are_amounts : Option Addr} {sl_are_amounts : Array (Option Value)} {oc_are_amounts kV_are_amounts dc_are_amounts pm_are_amounts ct_are_amounts : Value} {cd_are_amounts : Value}
    {f_is_method : Addr} {od_is_method an_is_method : Option Addr} {sl_is_method : Array (Option Value)} {oc_is_method kV_is_method dc_is_method pm_is_method ct_is_method : Value} {cd_is_method : Value}
    {f_is_book : Addr} {od_is_book an_is_book : Option Addr} {sl_is_book : Array (Option Value)} {oc_is_book kV_is_book dc_is_book pm_is_book ct_is_book : Value} {cd_is_book : Value}
    {f_check_book : Addr} {od_check_book an_check_book : Option Addr} {sl_check_book : Array (Option Value)} {oc_check_book kV_check_book dc_check_book pm_check_book ct_check_book : Value} {cd_check_book : Value}
    {f_is_plan_of : Addr} {od_is_plan_of an_is_plan_of : Option Addr} {sl_is_plan_of : Array (Option Value)} {oc_is_plan_of kV_is_plan_of dc_is_plan_of pm_is_plan_of ct_is_plan_of : Value} {cd_is_plan_of : Value}
    {f_check_plan : Addr} {od_check_plan an_check_plan : Option Addr} {sl_check_plan : Array (Option Value)} {oc_check_plan kV_check_plan dc_check_plan pm_check_plan ct_check_plan : Value} {cd_check_plan : Value}
    {f_check_factor : Addr} {od_check_factor an_check_factor : Option Addr} {sl_check_factor : Array (Option Value)} {oc_check_factor kV_check_factor dc_check_factor pm_check_factor ct_check_factor : Value} {cd_check_factor : Value}
    {f_made_by : Addr} {od_made_by an_made_by : Option Addr} {sl_made_by : Array (Option Value)} {oc_made_by kV_made_by dc_made_by pm_made_by ct_made_by : Value} {cd_made_by : Value}
    {f_used_by : Addr} {od_used_by an_used_by : Option Addr} {sl_used_by : Array (Option Value)} {oc_used_by kV_used_by dc_used_by pm_used_by ct_used_by : Value} {cd_used_by : Value}
    {f_net_of : Addr} {od_net_of an_net_of : Option Addr} {sl_net_of : Array (Option Value)} {oc_net_of kV_net_of dc_net_of pm_net_of ct_net_of : Value} {cd_net_of : Value}
    {f_net : Addr} {od_net an_net : Option Addr} {sl_net : Array (Option Value)} {oc_net kV_net dc_net pm_net ct_net : Value} {cd_net : Value}
    {f_dot : Addr} {od_dot an_dot : Option Addr} {sl_dot : Array (Option Value)} {oc_dot kV_dot dc_dot pm_dot ct_dot : Value} {cd_dot : Value}
    {f_is_joint_method : Addr} {od_is_joint_method an_is_joint_method : Option Addr} {sl_is_joint_method : Array (Option Value)} {oc_is_joint_method kV_is_joint_method dc_is_joint_method pm_is_joint_method ct_is_joint_method : Value} {cd_is_joint_method : Value}
    {f_is_joint : Addr} {od_is_joint an_is_joint : Option Addr} {sl_is_joint : Array (Option Value)} {oc_is_joint kV_is_joint dc_is_joint pm_is_joint ct_is_joint : Value} {cd_is_joint : Value}
    {f_joint_of : Addr} {od_joint_of an_joint_of : Option Addr} {sl_joint_of : Array (Option Value)} {oc_joint_of kV_joint_of dc_joint_of pm_joint_of ct_joint_of : Value} {cd_joint_of : Value}
    {f_check : Addr} {od_check an_check : Option Addr} {sl_check : Array (Option Value)} {oc_check kV_check dc_check pm_check ct_check : Value} {cd_check : Value}
    {f_net_of_method : Addr} {od_net_of_method an_net_of_method : Option Addr} {sl_net_of_method : Array (Option Value)} {oc_net_of_method kV_net_of_method dc_net_of_method pm_net_of_method ct_net_of_method : Value} {cd_net_of_method : Value}
    {f_net_rows : Addr} {od_net_rows an_net_rows : Option Addr} {sl_net_rows : Array (Option Value)} {oc_net_rows kV_net_rows dc_net_rows pm_net_rows ct_net_rows : Value} {cd_net_rows : Value}
    {f_raw_net : Addr} {od_raw_net an_raw_net : Option Addr} {sl_raw_net : Array (Option Value)} {oc_raw_net kV_raw_net dc_raw_net pm_raw_net ct_raw_net : Value} {cd_raw_net : Value}
    {f_joint_net : Addr} {od_joint_net an_joint_net : Option Addr} {sl_joint_net : Array (Option Value)} {oc_joint_net kV_joint_net dc_joint_net pm_joint_net ct_joint_net : Value} {cd_joint_net : Value}
    {f__law_hand : Addr} {od__law_hand an__law_hand : Option Addr} {sl__law_hand : Array (Option Value)} {oc__law_hand kV__law_hand dc__law_hand pm__law_hand ct__law_hand : Value} {cd__law_hand : Value}
    {f__law_draw : Addr} {od__law_draw an__law_draw : Option Addr} {sl__law_draw : Array (Option Value)} {oc__law_draw kV__law_draw dc__law_draw pm__law_draw ct__law_draw : Value} {cd__law_draw : Value}
    {f__law_some : Addr} {od__law_some an__law_some : Option Addr} {sl__law_some : Array (Option Value)} {oc__law_some kV__law_some dc__law_some pm__law_some ct__law_some : Value} {cd__law_some : Value}
    {f__law_low : Addr} {od__law_low an__law_low : Option Addr} {sl__law_low : Array (Option Value)} {oc__law_low kV__law_low dc__law_low pm__law_low ct__law_low : Value} {cd__law_low : Value}
    {f__law_plus : Addr} {od__law_plus an__law_plus : Option Addr} {sl__law_plus : Array (Option Value)} {oc__law_plus kV__law_plus dc__law_plus pm__law_plus ct__law_plus : Value} {cd__law_plus : Value}
    {f__law_minus : Addr} {od__law_minus an__law_minus : Option Addr} {sl__law_minus : Array (Option Value)} {oc__law_minus kV__law_minus dc__law_minus pm__law_minus ct__law_minus : Value} {cd__law_minus : Value}
    {f__law_times : Addr} {od__law_times an__law_times : Option Addr} {sl__law_times : Array (Option Value)} {oc__law_times kV__law_times dc__law_times pm__law_times ct__law_times : Value} {cd__law_times : Value}
    {f__law_sum : Addr} {od__law_sum an__law_sum : Option Addr} {sl__law_sum : Array (Option Value)} {oc__law_sum kV__law_sum dc__law_sum pm__law_sum ct__law_sum : Value} {cd__law_sum : Value}
    {f__law_amount : Addr} {od__law_amount an__law_amount : Option Addr} {sl__law_amount : Array (Option Value)} {oc__law_amount kV__law_amount dc__law_amount pm__law_amount ct__law_amount : Value} {cd__law_amount : Value}
    {f__law_method : Addr} {od__law_method an__law_method : Option Addr} {sl__law_method : Array (Option Value)} {oc__law_method kV__law_method dc__law_method pm__law_method ct__law_method : Value} {cd__law_method : Value}
    {f__law_joint : Addr} {od__law_joint an__law_joint : Option Addr} {sl__law_joint : Array (Option Value)} {oc__law_joint kV__law_joint dc__law_joint pm__law_joint ct__law_joint : Value} {cd__law_joint : Value}
    {f__law_net : Addr} {od__law_net an__law_net : Option Addr} {sl__law_net : Array (Option Value)} {oc__law_net kV__law_net dc__law_net pm__law_net ct__law_net : Value} {cd__law_net : Value}
    {f__law_factor : Addr} {od__law_factor an__law_factor : Option Addr} {sl__law_factor : Array (Option Value)} {oc__law_factor kV__law_factor dc__law_factor pm__law_factor ct__law_factor : Value} {cd__law_factor : Value}
    {f__law_deep : Addr} {od__law_deep an__law_deep : Option Addr} {sl__law_deep : Array (Option Value)} {oc__law_deep kV__law_deep dc__law_deep pm__law_deep ct__law_deep : Value} {cd__law_deep : Value}
    {f__law_odd : Addr} {od__law_odd an__law_odd : Option Addr} {sl__law_odd : Array (Option Value)} {oc__law_odd kV__law_odd dc__law_odd pm__law_odd ct__law_odd : Value} {cd__law_odd : Value}
    {f__law_is : Addr} {od__law_is an__law_is : Option Addr} {sl__law_is : Array (Option Value)} {oc__law_is kV__law_is dc__law_is pm__law_is ct__law_is : Value} {cd__law_is : Value}
    {f__law_bent : Addr} {od__law_bent an__law_bent : Option Addr} {sl__law_bent : Array (Option Value)} {oc__law_bent kV__law_bent dc__law_bent pm__law_bent ct__law_bent : Value} {cd__law_bent : Value}
    {f_law : Addr} {od_law an_law : Option Addr} {sl_law : Array (Option Value)} {oc_law kV_law dc_law pm_law ct_law : Value} {c_law : Addr}
    (m_NoBook : PySem.W.nsIn K mainGlobals "NoBook" = some (some (.ref C_NoBook))) (i_NoBook : ClsIn K C_NoBook)
    (m_NoPlan : PySem.W.nsIn K mainGlobals "NoPlan" = some (some (.ref C_NoPlan))) (i_NoPlan : ClsIn K C_NoPlan)
    (m_NoFactor : PySem.W.nsIn K mainGlobals "NoFactor" = some (some (.ref C_NoFactor))) (i_NoFactor : ClsIn K C_NoFactor)
    (m_TooMany : PySem.W.nsIn K mainGlobals "TooMany" = some (some (.ref C_TooMany))) (i_TooMany : ClsIn K C_TooMany)
    (m_NoJoint : PySem.W.nsIn K mainGlobals "NoJoint" = some (some (.ref C_NoJoint))) (i_NoJoint : ClsIn K C_NoJoint)
    (m_GoodsError : PySem.W.nsIn K mainGlobals "GoodsError" = some (some (.ref C_GoodsError))) (i_GoodsError : ClsIn K C_GoodsError)
    (u_NoBook_NoBook : PySem.W.subIn K (.ref C_NoBook) (.ref C_NoBook) = some (ancL "NoBook" "NoBook"))
    (u_NoBook_NoPlan : PySem.W.subIn K (.ref C_NoBook) (.ref C_NoPlan) = some (ancL "NoBook" "NoPlan"))
    (u_NoBook_NoFactor : PySem.W.subIn K (.ref C_NoBook) (.ref C_NoFactor) = some (ancL "NoBook" "NoFactor"))
    (u_NoBook_TooMany : PySem.W.subIn K (.ref C_NoBook) (.ref C_TooMany) = some (ancL "NoBook" "TooMany"))
    (u_NoBook_NoJoint : PySem.W.subIn K (.ref C_NoBook) (.ref C_NoJoint) = some (ancL "NoBook" "NoJoint"))
    (u_NoBook_GoodsError : PySem.W.subIn K (.ref C_NoBook) (.ref C_GoodsError) = some (ancL "NoBook" "GoodsError"))
    (u_NoPlan_NoBook : PySem.W.subIn K (.ref C_NoPlan) (.ref C_NoBook) = some (ancL "NoPlan" "NoBook"))
    (u_NoPlan_NoPlan : PySem.W.subIn K (.ref C_NoPlan) (.ref C_NoPlan) = some (ancL "NoPlan" "NoPlan"))
    (u_NoPlan_NoFactor : PySem.W.subIn K (.ref C_NoPlan) (.ref C_NoFactor) = some (ancL "NoPlan" "NoFactor"))
    (u_NoPlan_TooMany : PySem.W.subIn K (.ref C_NoPlan) (.ref C_TooMany) = some (ancL "NoPlan" "TooMany"))
    (u_NoPlan_NoJoint : PySem.W.subIn K (.ref C_NoPlan) (.ref C_NoJoint) = some (ancL "NoPlan" "NoJoint"))
    (u_NoPlan_GoodsError : PySem.W.subIn K (.ref C_NoPlan) (.ref C_GoodsError) = some (ancL "NoPlan" "GoodsError"))
    (u_NoFactor_NoBook : PySem.W.subIn K (.ref C_NoFactor) (.ref C_NoBook) = some (ancL "NoFactor" "NoBook"))
    (u_NoFactor_NoPlan : PySem.W.subIn K (.ref C_NoFactor) (.ref C_NoPlan) = some (ancL "NoFactor" "NoPlan"))
    (u_NoFactor_NoFactor : PySem.W.subIn K (.ref C_NoFactor) (.ref C_NoFactor) = some (ancL "NoFactor" "NoFactor"))
    (u_NoFactor_TooMany : PySem.W.subIn K (.ref C_NoFactor) (.ref C_TooMany) = some (ancL "NoFactor" "TooMany"))
    (u_NoFactor_NoJoint : PySem.W.subIn K (.ref C_NoFactor) (.ref C_NoJoint) = some (ancL "NoFactor" "NoJoint"))
    (u_NoFactor_GoodsError : PySem.W.subIn K (.ref C_NoFactor) (.ref C_GoodsError) = some (ancL "NoFactor" "GoodsError"))
    (u_TooMany_NoBook : PySem.W.subIn K (.ref C_TooMany) (.ref C_NoBook) = some (ancL "TooMany" "NoBook"))
    (u_TooMany_NoPlan : PySem.W.subIn K (.ref C_TooMany) (.ref C_NoPlan) = some (ancL "TooMany" "NoPlan"))
    (u_TooMany_NoFactor : PySem.W.subIn K (.ref C_TooMany) (.ref C_NoFactor) = some (ancL "TooMany" "NoFactor"))
    (u_TooMany_TooMany : PySem.W.subIn K (.ref C_TooMany) (.ref C_TooMany) = some (ancL "TooMany" "TooMany"))
    (u_TooMany_NoJoint : PySem.W.subIn K (.ref C_TooMany) (.ref C_NoJoint) = some (ancL "TooMany" "NoJoint"))
    (u_TooMany_GoodsError : PySem.W.subIn K (.ref C_TooMany) (.ref C_GoodsError) = some (ancL "TooMany" "GoodsError"))
    (u_NoJoint_NoBook : PySem.W.subIn K (.ref C_NoJoint) (.ref C_NoBook) = some (ancL "NoJoint" "NoBook"))
    (u_NoJoint_NoPlan : PySem.W.subIn K (.ref C_NoJoint) (.ref C_NoPlan) = some (ancL "NoJoint" "NoPlan"))
    (u_NoJoint_NoFactor : PySem.W.subIn K (.ref C_NoJoint) (.ref C_NoFactor) = some (ancL "NoJoint" "NoFactor"))
    (u_NoJoint_TooMany : PySem.W.subIn K (.ref C_NoJoint) (.ref C_TooMany) = some (ancL "NoJoint" "TooMany"))
    (u_NoJoint_NoJoint : PySem.W.subIn K (.ref C_NoJoint) (.ref C_NoJoint) = some (ancL "NoJoint" "NoJoint"))
    (u_NoJoint_GoodsError : PySem.W.subIn K (.ref C_NoJoint) (.ref C_GoodsError) = some (ancL "NoJoint" "GoodsError"))
    (x_NoBook : PySem.W.excIn K C_NoBook veB "ValueError.__new__" = true)
    (x_NoPlan : PySem.W.excIn K C_NoPlan veB "ValueError.__new__" = true)
    (x_NoFactor : PySem.W.excIn K C_NoFactor veB "ValueError.__new__" = true)
    (ce_TooMany : K.lookup C_TooMany = some (excClassObj nmC_TooMany qnC_TooMany C_TooMany NC_TooMany bsC_TooMany bmC_TooMany true snC_TooMany sbC_TooMany abC_TooMany colC_TooMany ddC_TooMany k0C_TooMany k1C_TooMany k2C_TooMany k3C_TooMany k5C_TooMany "ValueError.__new__"))
    (cr_TooMany : PySem.HandSPX.refsVE bmC_TooMany = true) (cs_TooMany : PySem.W.findIn K (.ref C_TooMany) "__setattr__" = some (some (.builtin "object.__setattr__"))) (ci_TooMany : PySem.W.findIn K (.ref C_TooMany) "__init__" = some (some (.ref fI_TooMany))) (ct_TooMany : PySem.W.typeIn K (.ref fI_TooMany) = some (.type "function")) (cn_TooMany : PySem.W.findIn K (.ref C_TooMany) "most" = some none)
    (cl_TooMany : K.lookup fI_TooMany = some ⟨ocI_TooMany, odI_TooMany, .func (PySem.W.fnOf "__init__" "TooMany.__init__" (defArgs sI_TooMany) (defBody sI_TooMany) (defScope sI_TooMany) .none kVI_TooMany dcI_TooMany pmI_TooMany anI_TooMany cdI_TooMany ctI_TooMany), slI_TooMany⟩) (ch_TooMany : PySem.W.codeIn K cdI_TooMany "TooMany.__init__" = true) (ck_TooMany : PySem.W.keepIn K (.ref fI_TooMany) = true)
    (x_NoJoint : PySem.W.excIn K C_NoJoint veB "ValueError.__new__" = true)
    (z_abs : PySem.W.nsIn K mainGlobals "abs" = some none)
    (z_all : PySem.W.nsIn K mainGlobals "all" = some none)
    (z_bool : PySem.W.nsIn K mainGlobals "bool" = some none)
    (z_int : PySem.W.nsIn K mainGlobals "int" = some none)
    (z_isinstance : PySem.W.nsIn K mainGlobals "isinstance" = some none)
    (z_len : PySem.W.nsIn K mainGlobals "len" = some none)
    (z_list : PySem.W.nsIn K mainGlobals "list" = some none)
    (z_range : PySem.W.nsIn K mainGlobals "range" = some none)
    (z_str : PySem.W.nsIn K mainGlobals "str" = some none)
    (z_tuple : PySem.W.nsIn K mainGlobals "tuple" = some none)
    (z_zip : PySem.W.nsIn K mainGlobals "zip" = some none)
    (ka_MOST_GOODS : PySem.W.nsIn K mainGlobals "MOST_GOODS" = some (some (.int 6 ct_MOST_GOODS)))
    (ka_MOST_METHODS : PySem.W.nsIn K mainGlobals "MOST_METHODS" = some (some (.int 20 ct_MOST_METHODS)))
    (ka_ZERO : PySem.W.nsIn K mainGlobals "ZERO" = some (some (.ref ca_ZERO))) (kl_ZERO : K.lookup ca_ZERO = some ⟨.type "tuple", co_ZERO, .seq ci_ZERO.toArray cn_ZERO, cs_ZERO⟩) (kv_ZERO : Vals [V.int 0, V.int 1] ci_ZERO)
    (ka_MOST_JOINT : PySem.W.nsIn K mainGlobals "MOST_JOINT" = some (some (.int 16 ct_MOST_JOINT)))
    (ka_ONE : PySem.W.nsIn K mainGlobals "ONE" = some (some (.ref ca_ONE))) (kl_ONE : K.lookup ca_ONE = some ⟨.type "tuple", co_ONE, .seq ci_ONE.toArray cn_ONE, cs_ONE⟩) (kv_ONE : Vals [V.int 1, V.int 1] ci_ONE)
    (a__law_word : PySem.W.nsIn K mainGlobals "_law_word" = some (some (.ref f__law_word))) (l__law_word : K.lookup f__law_word = some ⟨oc__law_word, od__law_word, .func (PySem.W.fnOf "_law_word" "_law_word" (defArgs s__law_word) (defBody s__law_word) (defScope s__law_word) .none kV__law_word dc__law_word pm__law_word an__law_word cd__law_word ct__law_word), sl__law_word⟩) (h__law_word : PySem.W.codeIn K cd__law_word "_law_word" = true) (k__law_word : PySem.W.keepIn K (.ref f__law_word) = true)
    (a_is_integer : PySem.W.nsIn K mainGlobals "is_integer" = some (some (.ref f_is_integer))) (l_is_integer : K.lookup f_is_integer = some ⟨oc_is_integer, od_is_integer, .func (PySem.W.fnOf "is_integer" "is_integer" (defArgs s_is_integer) (defBody s_is_integer) (defScope s_is_integer) .none kV_is_integer dc_is_integer pm_is_integer an_is_integer cd_is_integer ct_is_integer), sl_is_integer⟩) (h_is_integer : PySem.W.codeIn K cd_is_integer "is_integer" = true) (k_is_integer : PySem.W.keepIn K (.ref f_is_integer) = true)
    (a_is_within : PySem.W.nsIn K mainGlobals "is_within" = some (some (.ref f_is_within))) (l_is_within : K.lookup f_is_within = some ⟨oc_is_within, od_is_within, .func (PySem.W.fnOf "is_within" "is_within" (defArgs s_is_within) (defBody s_is_within) (defScope s_is_within) .none kV_is_within dc_is_within pm_is_within an_is_within cd_is_within ct_is_within), sl_is_within⟩) (h_is_within : PySem.W.codeIn K cd_is_within "is_within" = true) (k_is_within : PySem.W.keepIn K (.ref f_is_within) = true)
    (a_is_sized : PySem.W.nsIn K mainGlobals "is_sized" = some (some (.ref f_is_sized))) (l_is_sized : K.lookup f_is_sized = some ⟨oc_is_sized, od_is_sized, .func (PySem.W.fnOf "is_sized" "is_sized" (defArgs s_is_sized) (defBody s_is_sized) (defScope s_is_sized) .none kV_is_sized dc_is_sized pm_is_sized an_is_sized cd_is_sized ct_is_sized), sl_is_sized⟩) (h_is_sized : PySem.W.codeIn K cd_is_sized "is_sized" = true) (k_is_sized : PySem.W.keepIn K (.ref f_is_sized) = true)
    (a_common : PySem.W.nsIn K mainGlobals "common" = some (some (.ref f_common))) (l_common : K.lookup f_common = some ⟨oc_common, od_common, .func (PySem.W.fnOf "common" "common" (defArgs s_common) (defBody s_common) (defScope s_common) .none kV_common dc_common pm_common an_common cd_common ct_common), sl_common⟩) (h_common : PySem.W.codeIn K cd_common "common" = true) (k_common : PySem.W.keepIn K (.ref f_common) = true)
    (a_share : PySem.W.nsIn K mainGlobals "share" = some (some (.ref f_share))) (l_share : K.lookup f_share = some ⟨oc_share, od_share, .func (PySem.W.fnOf "share" "share" (defArgs s_share) (defBody s_share) (defScope s_share) .none kV_share dc_share pm_share an_share cd_share ct_share), sl_share⟩) (h_share : PySem.W.codeIn K cd_share "share" = true) (k_share : PySem.W.keepIn K (.ref f_share) = true)
    (a_is_share : PySem.W.nsIn K mainGlobals "is_share" = some (some (.ref f_is_share))) (l_is_share : K.lookup f_is_share = some ⟨oc_is_share, od_is_share, .func (PySem.W.fnOf "is_share" "is_share" (defArgs s_is_share) (defBody s_is_share) (defScope s_is_share) .none kV_is_share dc_is_share pm_is_share an_is_share cd_is_share ct_is_share), sl_is_share⟩) (h_is_share : PySem.W.codeIn K cd_is_share "is_share" = true) (k_is_share : PySem.W.keepIn K (.ref f_is_share) = true)
    (a_plus : PySem.W.nsIn K mainGlobals "plus" = some (some (.ref f_plus))) (l_plus : K.lookup f_plus = some ⟨oc_plus, od_plus, .func (PySem.W.fnOf "plus" "plus" (defArgs s_plus) (defBody s_plus) (defScope s_plus) .none kV_plus dc_plus pm_plus an_plus cd_plus ct_plus), sl_plus⟩) (h_plus : PySem.W.codeIn K cd_plus "plus" = true) (k_plus : PySem.W.keepIn K (.ref f_plus) = true)
    (a_minus : PySem.W.nsIn K mainGlobals "minus" = some (some (.ref f_minus))) (l_minus : K.lookup f_minus = some ⟨oc_minus, od_minus, .func (PySem.W.fnOf "minus" "minus" (defArgs s_minus) (defBody s_minus) (defScope s_minus) .none kV_minus dc_minus pm_minus an_minus cd_minus ct_minus), sl_minus⟩) (h_minus : PySem.W.codeIn K cd_minus "minus" = true) (k_minus : PySem.W.keepIn K (.ref f_minus) = true)
    (a_times : PySem.W.nsIn K mainGlobals "times" = some (some (.ref f_times))) (l_times : K.lookup f_times = some ⟨oc_times, od_times, .func (PySem.W.fnOf "times" "times" (defArgs s_times) (defBody s_times) (defScope s_times) .none kV_times dc_times pm_times an_times cd_times ct_times), sl_times⟩) (h_times : PySem.W.codeIn K cd_times "times" = true) (k_times : PySem.W.keepIn K (.ref f_times) = true)
    (a_is_amount : PySem.W.nsIn K mainGlobals "is_amount" = some (some (.ref f_is_amount))) (l_is_amount : K.lookup f_is_amount = some ⟨oc_is_amount, od_is_amount, .func (PySem.W.fnOf "is_amount" "is_amount" (defArgs s_is_amount) (defBody s_is_amount) (defScope s_is_amount) .none kV_is_amount dc_is_amount pm_is_amount an_is_amount cd_is_amount ct_is_amount), sl_is_amount⟩) (h_is_amount : PySem.W.codeIn K cd_is_amount "is_amount" = true) (k_is_amount : PySem.W.keepIn K (.ref f_is_amount) = true)
    (a_are_amounts : PySem.W.nsIn K mainGlobals "are_amounts" = some (some (.ref f_are_amounts))) (l_are_amounts : K.lookup f_are_amounts = some ⟨oc_are_amounts, od_are_amounts, .func (PySem.W.fnOf "are_amounts" "are_amounts" (defArgs s_are_amounts) (defBody s_are_amounts) (defScope s_are_amounts) .none kV_are_amounts dc_are_amounts pm_are_amounts an_are_amounts cd_are_amounts ct_are_amounts), sl_are_amounts⟩) (h_are_amounts : PySem.W.codeIn K cd_are_amounts "are_amounts" = true) (k_are_amounts : PySem.W.keepIn K (.ref f_are_amounts) = true)
    (a_is_method : PySem.W.nsIn K mainGlobals "is_method" = some (some (.ref f_is_method))) (l_is_method : K.lookup f_is_method = some ⟨oc_is_method, od_is_method, .func (PySem.W.fnOf "is_method" "is_method" (defArgs s_is_method) (defBody s_is_method) (defScope s_is_method) .none kV_is_method dc_is_method pm_is_method an_is_method cd_is_method ct_is_method), sl_is_method⟩) (h_is_method : PySem.W.codeIn K cd_is_method "is_method" = true) (k_is_method : PySem.W.keepIn K (.ref f_is_method) = true)
    (a_is_book : PySem.W.nsIn K mainGlobals "is_book" = some (some (.ref f_is_book))) (l_is_book : K.lookup f_is_book = some ⟨oc_is_book, od_is_book, .func (PySem.W.fnOf "is_book" "is_book" (defArgs s_is_book) (defBody s_is_book) (defScope s_is_book) .none kV_is_book dc_is_book pm_is_book an_is_book cd_is_book ct_is_book), sl_is_book⟩) (h_is_book : PySem.W.codeIn K cd_is_book "is_book" = true) (k_is_book : PySem.W.keepIn K (.ref f_is_book) = true)
    (a_check_book : PySem.W.nsIn K mainGlobals "check_book" = some (some (.ref f_check_book))) (l_check_book : K.lookup f_check_book = some ⟨oc_check_book, od_check_book, .func (PySem.W.fnOf "check_book" "check_book" (defArgs s_check_book) (defBody s_check_book) (defScope s_check_book) .none kV_check_book dc_check_book pm_check_book an_check_book cd_check_book ct_check_book), sl_check_book⟩) (h_check_book : PySem.W.codeIn K cd_check_book "check_book" = true) (k_check_book : PySem.W.keepIn K (.ref f_check_book) = true)
    (a_is_plan_of : PySem.W.nsIn K mainGlobals "is_plan_of" = some (some (.ref f_is_plan_of))) (l_is_plan_of : K.lookup f_is_plan_of = some ⟨oc_is_plan_of, od_is_plan_of, .func (PySem.W.fnOf "is_plan_of" "is_plan_of" (defArgs s_is_plan_of) (defBody s_is_plan_of) (defScope s_is_plan_of) .none kV_is_plan_of dc_is_plan_of pm_is_plan_of an_is_plan_of cd_is_plan_of ct_is_plan_of), sl_is_plan_of⟩) (h_is_plan_of : PySem.W.codeIn K cd_is_plan_of "is_plan_of" = true) (k_is_plan_of : PySem.W.keepIn K (.ref f_is_plan_of) = true)
    (a_check_plan : PySem.W.nsIn K mainGlobals "check_plan" = some (some (.ref f_check_plan))) (l_check_plan : K.lookup f_check_plan = some ⟨oc_check_plan, od_check_plan, .func (PySem.W.fnOf "check_plan" "check_plan" (defArgs s_check_plan) (defBody s_check_plan) (defScope s_check_plan) .none kV_check_plan dc_check_plan pm_check_plan an_check_plan cd_check_plan ct_check_plan), sl_check_plan⟩) (h_check_plan : PySem.W.codeIn K cd_check_plan "check_plan" = true) (k_check_plan : PySem.W.keepIn K (.ref f_check_plan) = true)
    (a_check_factor : PySem.W.nsIn K mainGlobals "check_factor" = some (some (.ref f_check_factor))) (l_check_factor : K.lookup f_check_factor = some ⟨oc_check_factor, od_check_factor, .func (PySem.W.fnOf "check_factor" "check_factor" (defArgs s_check_factor) (defBody s_check_factor) (defScope s_check_factor) .none kV_check_factor dc_check_factor pm_check_factor an_check_factor cd_check_factor ct_check_factor), sl_check_factor⟩) (h_check_factor : PySem.W.codeIn K cd_check_factor "check_factor" = true) (k_check_factor : PySem.W.keepIn K (.ref f_check_factor) = true)
    (a_made_by : PySem.W.nsIn K mainGlobals "made_by" = some (some (.ref f_made_by))) (l_made_by : K.lookup f_made_by = some ⟨oc_made_by, od_made_by, .func (PySem.W.fnOf "made_by" "made_by" (defArgs s_made_by) (defBody s_made_by) (defScope s_made_by) .none kV_made_by dc_made_by pm_made_by an_made_by cd_made_by ct_made_by), sl_made_by⟩) (h_made_by : PySem.W.codeIn K cd_made_by "made_by" = true) (k_made_by : PySem.W.keepIn K (.ref f_made_by) = true)
    (a_used_by : PySem.W.nsIn K mainGlobals "used_by" = some (some (.ref f_used_by))) (l_used_by : K.lookup f_used_by = some ⟨oc_used_by, od_used_by, .func (PySem.W.fnOf "used_by" "used_by" (defArgs s_used_by) (defBody s_used_by) (defScope s_used_by) .none kV_used_by dc_used_by pm_used_by an_used_by cd_used_by ct_used_by), sl_used_by⟩) (h_used_by : PySem.W.codeIn K cd_used_by "used_by" = true) (k_used_by : PySem.W.keepIn K (.ref f_used_by) = true)
    (a_net_of : PySem.W.nsIn K mainGlobals "net_of" = some (some (.ref f_net_of))) (l_net_of : K.lookup f_net_of = some ⟨oc_net_of, od_net_of, .func (PySem.W.fnOf "net_of" "net_of" (defArgs s_net_of) (defBody s_net_of) (defScope s_net_of) .none kV_net_of dc_net_of pm_net_of an_net_of cd_net_of ct_net_of), sl_net_of⟩) (h_net_of : PySem.W.codeIn K cd_net_of "net_of" = true) (k_net_of : PySem.W.keepIn K (.ref f_net_of) = true)
    (a_net : PySem.W.nsIn K mainGlobals "net" = some (some (.ref f_net))) (l_net : K.lookup f_net = some ⟨oc_net, od_net, .func (PySem.W.fnOf "net" "net" (defArgs s_net) (defBody s_net) (defScope s_net) .none kV_net dc_net pm_net an_net cd_net ct_net), sl_net⟩) (h_net : PySem.W.codeIn K cd_net "net" = true) (k_net : PySem.W.keepIn K (.ref f_net) = true)
    (a_dot : PySem.W.nsIn K mainGlobals "dot" = some (some (.ref f_dot))) (l_dot : K.lookup f_dot = some ⟨oc_dot, od_dot, .func (PySem.W.fnOf "dot" "dot" (defArgs s_dot) (defBody s_dot) (defScope s_dot) .none kV_dot dc_dot pm_dot an_dot cd_dot ct_dot), sl_dot⟩) (h_dot : PySem.W.codeIn K cd_dot "dot" = true) (k_dot : PySem.W.keepIn K (.ref f_dot) = true)
    (a_is_joint_method : PySem.W.nsIn K mainGlobals "is_joint_method" = some (some (.ref f_is_joint_method))) (l_is_joint_method : K.lookup f_is_joint_method = some ⟨oc_is_joint_method, od_is_joint_method, .func (PySem.W.fnOf "is_joint_method" "is_joint_method" (defArgs s_is_joint_method) (defBody s_is_joint_method) (defScope s_is_joint_method) .none kV_is_joint_method dc_is_joint_method pm_is_joint_method an_is_joint_method cd_is_joint_method ct_is_joint_method), sl_is_joint_method⟩) (h_is_joint_method : PySem.W.codeIn K cd_is_joint_method "is_joint_method" = true) (k_is_joint_method : PySem.W.keepIn K (.ref f_is_joint_method) = true)
    (a_is_joint : PySem.W.nsIn K mainGlobals "is_joint" = some (some (.ref f_is_joint))) (l_is_joint : K.lookup f_is_joint = some ⟨oc_is_joint, od_is_joint, .func (PySem.W.fnOf "is_joint" "is_joint" (defArgs s_is_joint) (defBody s_is_joint) (defScope s_is_joint) .none kV_is_joint dc_is_joint pm_is_joint an_is_joint cd_is_joint ct_is_joint), sl_is_joint⟩) (h_is_joint : PySem.W.codeIn K cd_is_joint "is_joint" = true) (k_is_joint : PySem.W.keepIn K (.ref f_is_joint) = true)
    (a_joint_of : PySem.W.nsIn K mainGlobals "joint_of" = some (some (.ref f_joint_of))) (l_joint_of : K.lookup f_joint_of = some ⟨oc_joint_of, od_joint_of, .func (PySem.W.fnOf "joint_of" "joint_of" (defArgs s_joint_of) (defBody s_joint_of) (defScope s_joint_of) .none kV_joint_of dc_joint_of pm_joint_of an_joint_of cd_joint_of ct_joint_of), sl_joint_of⟩) (h_joint_of : PySem.W.codeIn K cd_joint_of "joint_of" = true) (k_joint_of : PySem.W.keepIn K (.ref f_joint_of) = true)
    (a_check : PySem.W.nsIn K mainGlobals "check" = some (some (.ref f_check))) (l_check : K.lookup f_check = some ⟨oc_check, od_check, .func (PySem.W.fnOf "check" "check" (defArgs s_check) (defBody s_check) (defScope s_check) .none kV_check dc_check pm_check an_check cd_check ct_check), sl_check⟩) (h_check : PySem.W.codeIn K cd_check "check" = true) (k_check : PySem.W.keepIn K (.ref f_check) = true)
    (a_net_of_method : PySem.W.nsIn K mainGlobals "net_of_method" = some (some (.ref f_net_of_method))) (l_net_of_method : K.lookup f_net_of_method = some ⟨oc_net_of_method, od_net_of_method, .func (PySem.W.fnOf "net_of_method" "net_of_method" (defArgs s_net_of_method) (defBody s_net_of_method) (defScope s_net_of_method) .none kV_net_of_method dc_net_of_method pm_net_of_method an_net_of_method cd_net_of_method ct_net_of_method), sl_net_of_method⟩) (h_net_of_method : PySem.W.codeIn K cd_net_of_method "net_of_method" = true) (k_net_of_method : PySem.W.keepIn K (.ref f_net_of_method) = true)
    (a_net_rows : PySem.W.nsIn K mainGlobals "net_rows" = some (some (.ref f_net_rows))) (l_net_rows : K.lookup f_net_rows = some ⟨oc_net_rows, od_net_rows, .func (PySem.W.fnOf "net_rows" "net_rows" (defArgs s_net_rows) (defBody s_net_rows) (defScope s_net_rows) .none kV_net_rows dc_net_rows pm_net_rows an_net_rows cd_net_rows ct_net_rows), sl_net_rows⟩) (h_net_rows : PySem.W.codeIn K cd_net_rows "net_rows" = true) (k_net_rows : PySem.W.keepIn K (.ref f_net_rows) = true)
    (a_raw_net : PySem.W.nsIn K mainGlobals "raw_net" = some (some (.ref f_raw_net))) (l_raw_net : K.lookup f_raw_net = some ⟨oc_raw_net, od_raw_net, .func (PySem.W.fnOf "raw_net" "raw_net" (defArgs s_raw_net) (defBody s_raw_net) (defScope s_raw_net) .none kV_raw_net dc_raw_net pm_raw_net an_raw_net cd_raw_net ct_raw_net), sl_raw_net⟩) (h_raw_net : PySem.W.codeIn K cd_raw_net "raw_net" = true) (k_raw_net : PySem.W.keepIn K (.ref f_raw_net) = true)
    (a_joint_net : PySem.W.nsIn K mainGlobals "joint_net" = some (some (.ref f_joint_net))) (l_joint_net : K.lookup f_joint_net = some ⟨oc_joint_net, od_joint_net, .func (PySem.W.fnOf "joint_net" "joint_net" (defArgs s_joint_net) (defBody s_joint_net) (defScope s_joint_net) .none kV_joint_net dc_joint_net pm_joint_net an_joint_net cd_joint_net ct_joint_net), sl_joint_net⟩) (h_joint_net : PySem.W.codeIn K cd_joint_net "joint_net" = true) (k_joint_net : PySem.W.keepIn K (.ref f_joint_net) = true)
    (a__law_hand : PySem.W.nsIn K mainGlobals "_law_hand" = some (some (.ref f__law_hand))) (l__law_hand : K.lookup f__law_hand = some ⟨oc__law_hand, od__law_hand, .func (PySem.W.fnOf "_law_hand" "_law_hand" (defArgs s__law_hand) (defBody s__law_hand) (defScope s__law_hand) .none kV__law_hand dc__law_hand pm__law_hand an__law_hand cd__law_hand ct__law_hand), sl__law_hand⟩) (h__law_hand : PySem.W.codeIn K cd__law_hand "_law_hand" = true) (k__law_hand : PySem.W.keepIn K (.ref f__law_hand) = true)
    (a__law_draw : PySem.W.nsIn K mainGlobals "_law_draw" = some (some (.ref f__law_draw))) (l__law_draw : K.lookup f__law_draw = some ⟨oc__law_draw, od__law_draw, .func (PySem.W.fnOf "_law_draw" "_law_draw" (defArgs s__law_draw) (defBody s__law_draw) (defScope s__law_draw) .none kV__law_draw dc__law_draw pm__law_draw an__law_draw cd__law_draw ct__law_draw), sl__law_draw⟩) (h__law_draw : PySem.W.codeIn K cd__law_draw "_law_draw" = true) (k__law_draw : PySem.W.keepIn K (.ref f__law_draw) = true)
    (a__law_some : PySem.W.nsIn K mainGlobals "_law_some" = some (some (.ref f__law_some))) (l__law_some : K.lookup f__law_some = some ⟨oc__law_some, od__law_some, .func (PySem.W.fnOf "_law_some" "_law_some" (defArgs s__law_some) (defBody s__law_some) (defScope s__law_some) .none kV__law_some dc__law_some pm__law_some an__law_some cd__law_some ct__law_some), sl__law_some⟩) (h__law_some : PySem.W.codeIn K cd__law_some "_law_some" = true) (k__law_some : PySem.W.keepIn K (.ref f__law_some) = true)
    (a__law_low : PySem.W.nsIn K mainGlobals "_law_low" = some (some (.ref f__law_low))) (l__law_low : K.lookup f__law_low = some ⟨oc__law_low, od__law_low, .func (PySem.W.fnOf "_law_low" "_law_low" (defArgs s__law_low) (defBody s__law_low) (defScope s__law_low) .none kV__law_low dc__law_low pm__law_low an__law_low cd__law_low ct__law_low), sl__law_low⟩) (h__law_low : PySem.W.codeIn K cd__law_low "_law_low" = true) (k__law_low : PySem.W.keepIn K (.ref f__law_low) = true)
    (a__law_plus : PySem.W.nsIn K mainGlobals "_law_plus" = some (some (.ref f__law_plus))) (l__law_plus : K.lookup f__law_plus = some ⟨oc__law_plus, od__law_plus, .func (PySem.W.fnOf "_law_plus" "_law_plus" (defArgs s__law_plus) (defBody s__law_plus) (defScope s__law_plus) .none kV__law_plus dc__law_plus pm__law_plus an__law_plus cd__law_plus ct__law_plus), sl__law_plus⟩) (h__law_plus : PySem.W.codeIn K cd__law_plus "_law_plus" = true) (k__law_plus : PySem.W.keepIn K (.ref f__law_plus) = true)
    (a__law_minus : PySem.W.nsIn K mainGlobals "_law_minus" = some (some (.ref f__law_minus))) (l__law_minus : K.lookup f__law_minus = some ⟨oc__law_minus, od__law_minus, .func (PySem.W.fnOf "_law_minus" "_law_minus" (defArgs s__law_minus) (defBody s__law_minus) (defScope s__law_minus) .none kV__law_minus dc__law_minus pm__law_minus an__law_minus cd__law_minus ct__law_minus), sl__law_minus⟩) (h__law_minus : PySem.W.codeIn K cd__law_minus "_law_minus" = true) (k__law_minus : PySem.W.keepIn K (.ref f__law_minus) = true)
    (a__law_times : PySem.W.nsIn K mainGlobals "_law_times" = some (some (.ref f__law_times))) (l__law_times : K.lookup f__law_times = some ⟨oc__law_times, od__law_times, .func (PySem.W.fnOf "_law_times" "_law_times" (defArgs s__law_times) (defBody s__law_times) (defScope s__law_times) .none kV__law_times dc__law_times pm__law_times an__law_times cd__law_times ct__law_times), sl__law_times⟩) (h__law_times : PySem.W.codeIn K cd__law_times "_law_times" = true) (k__law_times : PySem.W.keepIn K (.ref f__law_times) = true)
    (a__law_sum : PySem.W.nsIn K mainGlobals "_law_sum" = some (some (.ref f__law_sum))) (l__law_sum : K.lookup f__law_sum = some ⟨oc__law_sum, od__law_sum, .func (PySem.W.fnOf "_law_sum" "_law_sum" (defArgs s__law_sum) (defBody s__law_sum) (defScope s__law_sum) .none kV__law_sum dc__law_sum pm__law_sum an__law_sum cd__law_sum ct__law_sum), sl__law_sum⟩) (h__law_sum : PySem.W.codeIn K cd__law_sum "_law_sum" = true) (k__law_sum : PySem.W.keepIn K (.ref f__law_sum) = true)
    (a__law_amount : PySem.W.nsIn K mainGlobals "_law_amount" = some (some (.ref f__law_amount))) (l__law_amount : K.lookup f__law_amount = some ⟨oc__law_amount, od__law_amount, .func (PySem.W.fnOf "_law_amount" "_law_amount" (defArgs s__law_amount) (defBody s__law_amount) (defScope s__law_amount) .none kV__law_amount dc__law_amount pm__law_amount an__law_amount cd__law_amount ct__law_amount), sl__law_amount⟩) (h__law_amount : PySem.W.codeIn K cd__law_amount "_law_amount" = true) (k__law_amount : PySem.W.keepIn K (.ref f__law_amount) = true)
    (a__law_method : PySem.W.nsIn K mainGlobals "_law_method" = some (some (.ref f__law_method))) (l__law_method : K.lookup f__law_method = some ⟨oc__law_method, od__law_method, .func (PySem.W.fnOf "_law_method" "_law_method" (defArgs s__law_method) (defBody s__law_method) (defScope s__law_method) .none kV__law_method dc__law_method pm__law_method an__law_method cd__law_method ct__law_method), sl__law_method⟩) (h__law_method : PySem.W.codeIn K cd__law_method "_law_method" = true) (k__law_method : PySem.W.keepIn K (.ref f__law_method) = true)
    (a__law_joint : PySem.W.nsIn K mainGlobals "_law_joint" = some (some (.ref f__law_joint))) (l__law_joint : K.lookup f__law_joint = some ⟨oc__law_joint, od__law_joint, .func (PySem.W.fnOf "_law_joint" "_law_joint" (defArgs s__law_joint) (defBody s__law_joint) (defScope s__law_joint) .none kV__law_joint dc__law_joint pm__law_joint an__law_joint cd__law_joint ct__law_joint), sl__law_joint⟩) (h__law_joint : PySem.W.codeIn K cd__law_joint "_law_joint" = true) (k__law_joint : PySem.W.keepIn K (.ref f__law_joint) = true)
    (a__law_net : PySem.W.nsIn K mainGlobals "_law_net" = some (some (.ref f__law_net))) (l__law_net : K.lookup f__law_net = some ⟨oc__law_net, od__law_net, .func (PySem.W.fnOf "_law_net" "_law_net" (defArgs s__law_net) (defBody s__law_net) (defScope s__law_net) .none kV__law_net dc__law_net pm__law_net an__law_net cd__law_net ct__law_net), sl__law_net⟩) (h__law_net : PySem.W.codeIn K cd__law_net "_law_net" = true) (k__law_net : PySem.W.keepIn K (.ref f__law_net) = true)
    (a__law_factor : PySem.W.nsIn K mainGlobals "_law_factor" = some (some (.ref f__law_factor))) (l__law_factor : K.lookup f__law_factor = some ⟨oc__law_factor, od__law_factor, .func (PySem.W.fnOf "_law_factor" "_law_factor" (defArgs s__law_factor) (defBody s__law_factor) (defScope s__law_factor) .none kV__law_factor dc__law_factor pm__law_factor an__law_factor cd__law_factor ct__law_factor), sl__law_factor⟩) (h__law_factor : PySem.W.codeIn K cd__law_factor "_law_factor" = true) (k__law_factor : PySem.W.keepIn K (.ref f__law_factor) = true)
    (a__law_deep : PySem.W.nsIn K mainGlobals "_law_deep" = some (some (.ref f__law_deep))) (l__law_deep : K.lookup f__law_deep = some ⟨oc__law_deep, od__law_deep, .func (PySem.W.fnOf "_law_deep" "_law_deep" (defArgs s__law_deep) (defBody s__law_deep) (defScope s__law_deep) .none kV__law_deep dc__law_deep pm__law_deep an__law_deep cd__law_deep ct__law_deep), sl__law_deep⟩) (h__law_deep : PySem.W.codeIn K cd__law_deep "_law_deep" = true) (k__law_deep : PySem.W.keepIn K (.ref f__law_deep) = true)
    (a__law_odd : PySem.W.nsIn K mainGlobals "_law_odd" = some (some (.ref f__law_odd))) (l__law_odd : K.lookup f__law_odd = some ⟨oc__law_odd, od__law_odd, .func (PySem.W.fnOf "_law_odd" "_law_odd" (defArgs s__law_odd) (defBody s__law_odd) (defScope s__law_odd) .none kV__law_odd dc__law_odd pm__law_odd an__law_odd cd__law_odd ct__law_odd), sl__law_odd⟩) (h__law_odd : PySem.W.codeIn K cd__law_odd "_law_odd" = true) (k__law_odd : PySem.W.keepIn K (.ref f__law_odd) = true)
    (a__law_is : PySem.W.nsIn K mainGlobals "_law_is" = some (some (.ref f__law_is))) (l__law_is : K.lookup f__law_is = some ⟨oc__law_is, od__law_is, .func (PySem.W.fnOf "_law_is" "_law_is" (defArgs s__law_is) (defBody s__law_is) (defScope s__law_is) .none kV__law_is dc__law_is pm__law_is an__law_is cd__law_is ct__law_is), sl__law_is⟩) (h__law_is : PySem.W.codeIn K cd__law_is "_law_is" = true) (k__law_is : PySem.W.keepIn K (.ref f__law_is) = true)
    (a__law_bent : PySem.W.nsIn K mainGlobals "_law_bent" = some (some (.ref f__law_bent))) (l__law_bent : K.lookup f__law_bent = some ⟨oc__law_bent, od__law_bent, .func (PySem.W.fnOf "_law_bent" "_law_bent" (defArgs s__law_bent) (defBody s__law_bent) (defScope s__law_bent) .none kV__law_bent dc__law_bent pm__law_bent an__law_bent cd__law_bent ct__law_bent), sl__law_bent⟩) (h__law_bent : PySem.W.codeIn K cd__law_bent "_law_bent" = true) (k__law_bent : PySem.W.keepIn K (.ref f__law_bent) = true)
    (a_law : PySem.W.nsIn K mainGlobals "law" = some (some (.ref f_law))) (l_law : K.lookup f_law = some ⟨oc_law, od_law, .func (PySem.W.fnOf "law" "law" (defArgs s_law) (defBody s_law) (defScope s_law) .none kV_law dc_law pm_law an_law (.ref c_law) ct_law), sl_law⟩) (h_law : PySem.W.codeIn K (.ref c_law) "law" = true) (k_law : PySem.W.keepIn K (.ref f_law) = true)
    : Fx K mg c_law := ⟨⟨List.forall_mem_cons.mpr ⟨⟨C_NoBook, PySem.W.mg_of X G m_NoBook, i_NoBook⟩, List.forall_mem_cons.mpr ⟨⟨C_NoPlan, PySem.W.mg_of X G m_NoPlan, i_NoPlan⟩, List.forall_mem_cons.mpr ⟨⟨C_NoFactor, PySem.W.mg_of X G m_NoFactor, i_NoFactor⟩, List.forall_mem_cons.mpr ⟨⟨C_TooMany, PySem.W.mg_of X G m_TooMany, i_TooMany⟩, List.forall_mem_cons.mpr ⟨⟨C_NoJoint, PySem.W.mg_of X G m_NoJoint, i_NoJoint⟩, (fun _ z => absurd z List.not_mem_nil)⟩⟩⟩⟩⟩,
    List.forall_mem_cons.mpr ⟨⟨C_NoBook, PySem.W.mg_of X G m_NoBook, i_NoBook⟩, List.forall_mem_cons.mpr ⟨⟨C_NoPlan, PySem.W.mg_of X G m_NoPlan, i_NoPlan⟩, List.forall_mem_cons.mpr ⟨⟨C_NoFactor, PySem.W.mg_of X G m_NoFactor, i_NoFactor⟩, List.forall_mem_cons.mpr ⟨⟨C_TooMany, PySem.W.mg_of X G m_TooMany, i_TooMany⟩, List.forall_mem_cons.mpr ⟨⟨C_NoJoint, PySem.W.mg_of X G m_NoJoint, i_NoJoint⟩, List.forall_mem_cons.mpr ⟨⟨C_GoodsError, PySem.W.mg_of X G m_GoodsError, i_GoodsError⟩, (fun _ z => absurd z List.not_mem_nil)⟩⟩⟩⟩⟩⟩,
    List.forall_mem_cons.mpr ⟨List.forall_mem_cons.mpr ⟨sub_at (PySem.W.mg_of X G m_NoBook) (PySem.W.mg_of X G m_NoBook) u_NoBook_NoBook, List.forall_mem_cons.mpr ⟨sub_at (PySem.W.mg_of X G m_NoBook) (PySem.W.mg_of X G m_NoPlan) u_NoBook_NoPlan, List.forall_mem_cons.mpr ⟨sub_at (PySem.W.mg_of X G m_NoBook) (PySem.W.mg_of X G m_NoFactor) u_NoBook_NoFactor, List.forall_mem_cons.mpr ⟨sub_at (PySem.W.mg_of X G m_NoBook) (PySem.W.mg_of X G m_TooMany) u_NoBook_TooMany, List.forall_mem_cons.mpr ⟨sub_at (PySem.W.mg_of X G m_NoBook) (PySem.W.mg_of X G m_NoJoint) u_NoBook_NoJoint, List.forall_mem_cons.mpr ⟨sub_at (PySem.W.mg_of X G m_NoBook) (PySem.W.mg_of X G m_GoodsError) u_NoBook_GoodsError, (fun _ z => absurd z List.not_mem_nil)⟩⟩⟩⟩⟩⟩, List.forall_mem_cons.mpr ⟨List.forall_mem_cons.mpr ⟨sub_at (PySem.W.mg_of X G m_NoPlan) (PySem.W.mg_of X G m_NoBook) u_NoPlan_NoBook, List.forall_mem_cons.mpr ⟨sub_at (PySem.W.mg_of X G m_NoPlan) (PySem.W.mg_of X G m_NoPlan) u_NoPlan_NoPlan, List.forall_mem_cons.mpr ⟨sub_at (PySem.W.mg_of X G m_NoPlan) (PySem.W.mg_of X G m_NoFactor) u_NoPlan_NoFactor, List.forall_mem_cons.mpr ⟨sub_at (PySem.W.mg_of X G m_NoPlan) (PySem.W.mg_of X G m_TooMany) u_NoPlan_TooMany, List.forall_mem_cons.mpr ⟨sub_at (PySem.W.mg_of X G m_NoPlan) (PySem.W.mg_of X G m_NoJoint) u_NoPlan_NoJoint, List.forall_mem_cons.mpr ⟨sub_at (PySem.W.mg_of X G m_NoPlan) (PySem.W.mg_of X G m_GoodsError) u_NoPlan_GoodsError, (fun _ z => absurd z List.not_mem_nil)⟩⟩⟩⟩⟩⟩, List.forall_mem_cons.mpr ⟨List.forall_mem_cons.mpr ⟨sub_at (PySem.W.mg_of X G m_NoFactor) (PySem.W.mg_of X G m_NoBook) u_NoFactor_NoBook, List.forall_mem_cons.mpr ⟨sub_at (PySem.W.mg_of X G m_NoFactor) (PySem.W.mg_of X G m_NoPlan) u_NoFactor_NoPlan, List.forall_mem_cons.mpr ⟨sub_at (PySem.W.mg_of X G m_NoFactor) (PySem.W.mg_of X G m_NoFactor) u_NoFactor_NoFactor, List.forall_mem_cons.mpr ⟨sub_at (PySem.W.mg_of X G m_NoFactor) (PySem.W.mg_of X G m_TooMany) u_NoFactor_TooMany, List.forall_mem_cons.mpr ⟨sub_at (PySem.W.mg_of X G m_NoFactor) (PySem.W.mg_of X G m_NoJoint) u_NoFactor_NoJoint, List.forall_mem_cons.mpr ⟨sub_at (PySem.W.mg_of X G m_NoFactor) (PySem.W.mg_of X G m_GoodsError) u_NoFactor_GoodsError, (fun _ z => absurd z List.not_mem_nil)⟩⟩⟩⟩⟩⟩, List.forall_mem_cons.mpr ⟨List.forall_mem_cons.mpr ⟨sub_at (PySem.W.mg_of X G m_TooMany) (PySem.W.mg_of X G m_NoBook) u_TooMany_NoBook, List.forall_mem_cons.mpr ⟨sub_at (PySem.W.mg_of X G m_TooMany) (PySem.W.mg_of X G m_NoPlan) u_TooMany_NoPlan, List.forall_mem_cons.mpr ⟨sub_at (PySem.W.mg_of X G m_TooMany) (PySem.W.mg_of X G m_NoFactor) u_TooMany_NoFactor, List.forall_mem_cons.mpr ⟨sub_at (PySem.W.mg_of X G m_TooMany) (PySem.W.mg_of X G m_TooMany) u_TooMany_TooMany, List.forall_mem_cons.mpr ⟨sub_at (PySem.W.mg_of X G m_TooMany) (PySem.W.mg_of X G m_NoJoint) u_TooMany_NoJoint, List.forall_mem_cons.mpr ⟨sub_at (PySem.W.mg_of X G m_TooMany) (PySem.W.mg_of X G m_GoodsError) u_TooMany_GoodsError, (fun _ z => absurd z List.not_mem_nil)⟩⟩⟩⟩⟩⟩, List.forall_mem_cons.mpr ⟨List.forall_mem_cons.mpr ⟨sub_at (PySem.W.mg_of X G m_NoJoint) (PySem.W.mg_of X G m_NoBook) u_NoJoint_NoBook, List.forall_mem_cons.mpr ⟨sub_at (PySem.W.mg_of X G m_NoJoint) (PySem.W.mg_of X G m_NoPlan) u_NoJoint_NoPlan, List.forall_mem_cons.mpr ⟨sub_at (PySem.W.mg_of X G m_NoJoint) (PySem.W.mg_of X G m_NoFactor) u_NoJoint_NoFactor, List.forall_mem_cons.mpr ⟨sub_at (PySem.W.mg_of X G m_NoJoint) (PySem.W.mg_of X G m_TooMany) u_NoJoint_TooMany, List.forall_mem_cons.mpr ⟨sub_at (PySem.W.mg_of X G m_NoJoint) (PySem.W.mg_of X G m_NoJoint) u_NoJoint_NoJoint, List.forall_mem_cons.mpr ⟨sub_at (PySem.W.mg_of X G m_NoJoint) (PySem.W.mg_of X G m_GoodsError) u_NoJoint_GoodsError, (fun _ z => absurd z List.not_mem_nil)⟩⟩⟩⟩⟩⟩, (fun _ z => absurd z List.not_mem_nil)⟩⟩⟩⟩⟩,
    by decide⟩,
    ExcAt.mk (PySem.W.mg_of X G m_NoBook) x_NoBook,
    ExcAt.mk (PySem.W.mg_of X G m_NoPlan) x_NoPlan,
    ExcAt.mk (PySem.W.mg_of X G m_NoFactor) x_NoFactor,
    FldAt.fact (PySem.W.mg_of X G m_TooMany) i_TooMany ce_TooMany cr_TooMany cs_TooMany ci_TooMany ct_TooMany cn_TooMany cl_TooMany ch_TooMany ck_TooMany (fun _ _ _ _ _ _ us hl => match us, hl with | [_, _], _ => rfl) sci_TooMany ⟨_, _, _, _, rfl⟩ (by first | exact Or.inl rfl | exact Or.inr (Or.inl rfl) | exact Or.inr (Or.inr rfl)) (by first | exact Or.inl rfl | exact Or.inr (Or.inl rfl) | exact Or.inr (Or.inr rfl)) (by decide) (by decide),
    ExcAt.mk (PySem.W.mg_of X G m_NoJoint) x_NoJoint,
    PySem.W.mg_none_of X G z_abs,
    PySem.W.mg_none_of X G z_all,
    PySem.W.mg_none_of X G z_bool,
    PySem.W.mg_none_of X G z_int,
    PySem.W.mg_none_of X G z_isinstance,
    PySem.W.mg_none_of X G z_len,
    PySem.W.mg_none_of X G z_list,
    PySem.W.mg_none_of X G z_range,
    PySem.W.mg_none_of X G z_str,
    PySem.W.mg_none_of X G z_tuple,
    PySem.W.mg_none_of X G z_zip,
    CAt.int (PySem.W.mg_of X G ka_MOST_GOODS),
    CAt.int (PySem.W.mg_of X G ka_MOST_METHODS),
    CAt.tup (PySem.W.mg_of X G ka_ZERO) kl_ZERO kv_ZERO (reps_ints [0, 1]),
    CAt.int (PySem.W.mg_of X G ka_MOST_JOINT),
    CAt.tup (PySem.W.mg_of X G ka_ONE) kl_ONE kv_ONE (reps_ints [1, 1]),
    DAt.mk (PySem.W.mg_of X G a__law_word) k__law_word (fun_mk l__law_word h__law_word k__law_word) (fun _ _ _ _ _ _ us hl => match us, hl with | [_], _ => rfl),
    DAt.mk (PySem.W.mg_of X G a_is_integer) k_is_integer (fun_mk l_is_integer h_is_integer k_is_integer) (fun _ _ _ _ _ _ us hl => match us, hl with | [_], _ => rfl),
    DAt.mk (PySem.W.mg_of X G a_is_within) k_is_within (fun_mk l_is_within h_is_within k_is_within) (fun _ _ _ _ _ _ us hl => match us, hl with | [_, _, _], _ => rfl),
    DAt.mk (PySem.W.mg_of X G a_is_sized) k_is_sized (fun_mk l_is_sized h_is_sized k_is_sized) (fun _ _ _ _ _ _ us hl => match us, hl with | [_, _, _], _ => rfl),
    DAt.mk (PySem.W.mg_of X G a_common) k_common (fun_mk l_common h_common k_common) (fun _ _ _ _ _ _ us hl => match us, hl with | [_, _], _ => rfl),
    DAt.mk (PySem.W.mg_of X G a_share) k_share (fun_mk l_share h_share k_share) (fun _ _ _ _ _ _ us hl => match us, hl with | [_, _], _ => rfl),
    DAt.mk (PySem.W.mg_of X G a_is_share) k_is_share (fun_mk l_is_share h_is_share k_is_share) (fun _ _ _ _ _ _ us hl => match us, hl with | [_], _ => rfl),
    DAt.mk (PySem.W.mg_of X G a_plus) k_plus (fun_mk l_plus h_plus k_plus) (fun _ _ _ _ _ _ us hl => match us, hl with | [_, _], _ => rfl),
    DAt.mk (PySem.W.mg_of X G a_minus) k_minus (fun_mk l_minus h_minus k_minus) (fun _ _ _ _ _ _ us hl => match us, hl with | [_, _], _ => rfl),
    DAt.mk (PySem.W.mg_of X G a_times) k_times (fun_mk l_times h_times k_times) (fun _ _ _ _ _ _ us hl => match us, hl with | [_, _], _ => rfl),
    DAt.mk (PySem.W.mg_of X G a_is_amount) k_is_amount (fun_mk l_is_amount h_is_amount k_is_amount) (fun _ _ _ _ _ _ us hl => match us, hl with | [_], _ => rfl),
    DAt.mk (PySem.W.mg_of X G a_are_amounts) k_are_amounts (fun_mk l_are_amounts h_are_amounts k_are_amounts) (fun _ _ _ _ _ _ us hl => match us, hl with | [_, _], _ => rfl),
    DAt.mk (PySem.W.mg_of X G a_is_method) k_is_method (fun_mk l_is_method h_is_method k_is_method) (fun _ _ _ _ _ _ us hl => match us, hl with | [_, _], _ => rfl),
    DAt.mk (PySem.W.mg_of X G a_is_book) k_is_book (fun_mk l_is_book h_is_book k_is_book) (fun _ _ _ _ _ _ us hl => match us, hl with | [_], _ => rfl),
    DAt.mk (PySem.W.mg_of X G a_check_book) k_check_book (fun_mk l_check_book h_check_book k_check_book) (fun _ _ _ _ _ _ us hl => match us, hl with | [_], _ => rfl),
    DAt.mk (PySem.W.mg_of X G a_is_plan_of) k_is_plan_of (fun_mk l_is_plan_of h_is_plan_of k_is_plan_of) (fun _ _ _ _ _ _ us hl => match us, hl with | [_, _], _ => rfl),
    DAt.mk (PySem.W.mg_of X G a_check_plan) k_check_plan (fun_mk l_check_plan h_check_plan k_check_plan) (fun _ _ _ _ _ _ us hl => match us, hl with | [_, _], _ => rfl),
    DAt.mk (PySem.W.mg_of X G a_check_factor) k_check_factor (fun_mk l_check_factor h_check_factor k_check_factor) (fun _ _ _ _ _ _ us hl => match us, hl with | [_], _ => rfl),
    DAt.mk (PySem.W.mg_of X G a_made_by) k_made_by (fun_mk l_made_by h_made_by k_made_by) (fun _ _ _ _ _ _ us hl => match us, hl with | [_, _], _ => rfl),
    DAt.mk (PySem.W.mg_of X G a_used_by) k_used_by (fun_mk l_used_by h_used_by k_used_by) (fun _ _ _ _ _ _ us hl => match us, hl with | [_, _], _ => rfl),
    DAt.mk (PySem.W.mg_of X G a_net_of) k_net_of (fun_mk l_net_of h_net_of k_net_of) (fun _ _ _ _ _ _ us hl => match us, hl with | [_, _, _], _ => rfl),
    DAt.mk (PySem.W.mg_of X G a_net) k_net (fun_mk l_net h_net k_net) (fun _ _ _ _ _ _ us hl => match us, hl with | [_, _, _], _ => rfl),
    DAt.mk (PySem.W.mg_of X G a_dot) k_dot (fun_mk l_dot h_dot k_dot) (fun _ _ _ _ _ _ us hl => match us, hl with | [_, _], _ => rfl),
    DAt.mk (PySem.W.mg_of X G a_is_joint_method) k_is_joint_method (fun_mk l_is_joint_method h_is_joint_method k_is_joint_method) (fun _ _ _ _ _ _ us hl => match us, hl with | [_, _], _ => rfl),
    DAt.mk (PySem.W.mg_of X G a_is_joint) k_is_joint (fun_mk l_is_joint h_is_joint k_is_joint) (fun _ _ _ _ _ _ us hl => match us, hl with | [_], _ => rfl),
    DAt.mk (PySem.W.mg_of X G a_joint_of) k_joint_of (fun_mk l_joint_of h_joint_of k_joint_of) (fun _ _ _ _ _ _ us hl => match us, hl with | [_], _ => rfl),
    DAt.mk (PySem.W.mg_of X G a_check) k_check (fun_mk l_check h_check k_check) (fun _ _ _ _ _ _ us hl => match us, hl with | [_, _], _ => rfl),
    DAt.mk (PySem.W.mg_of X G a_net_of_method) k_net_of_method (fun_mk l_net_of_method h_net_of_method k_net_of_method) (fun _ _ _ _ _ _ us hl => match us, hl with | [_, _], _ => rfl),
    DAt.mk (PySem.W.mg_of X G a_net_rows) k_net_rows (fun_mk l_net_rows h_net_rows k_net_rows) (fun _ _ _ _ _ _ us hl => match us, hl with | [_, _], _ => rfl),
    DAt.mk (PySem.W.mg_of X G a_raw_net) k_raw_net (fun_mk l_raw_net h_raw_net k_raw_net) (fun _ _ _ _ _ _ us hl => match us, hl with | [_, _, _], _ => rfl),
    DAt.mk (PySem.W.mg_of X G a_joint_net) k_joint_net (fun_mk l_joint_net h_joint_net k_joint_net) (fun _ _ _ _ _ _ us hl => match us, hl with | [_, _, _], _ => rfl),
    DAt.mk (PySem.W.mg_of X G a__law_hand) k__law_hand (fun_mk l__law_hand h__law_hand k__law_hand) (fun _ _ _ _ _ _ us hl => match us, hl with | [_], _ => rfl),
    DAt.mk (PySem.W.mg_of X G a__law_draw) k__law_draw (fun_mk l__law_draw h__law_draw k__law_draw) (fun _ _ _ _ _ _ us hl => match us, hl with | [_, _], _ => rfl),
    DAt.mk (PySem.W.mg_of X G a__law_some) k__law_some (fun_mk l__law_some h__law_some k__law_some) (fun _ _ _ _ _ _ us hl => match us, hl with | [_, _], _ => rfl),
    DAt.mk (PySem.W.mg_of X G a__law_low) k__law_low (fun_mk l__law_low h__law_low k__law_low) (fun _ _ _ _ _ _ us hl => match us, hl with | [_, _], _ => rfl),
    DAt.mk (PySem.W.mg_of X G a__law_plus) k__law_plus (fun_mk l__law_plus h__law_plus k__law_plus) (fun _ _ _ _ _ _ us hl => match us, hl with | [_, _], _ => rfl),
    DAt.mk (PySem.W.mg_of X G a__law_minus) k__law_minus (fun_mk l__law_minus h__law_minus k__law_minus) (fun _ _ _ _ _ _ us hl => match us, hl with | [_, _], _ => rfl),
    DAt.mk (PySem.W.mg_of X G a__law_times) k__law_times (fun_mk l__law_times h__law_times k__law_times) (fun _ _ _ _ _ _ us hl => match us, hl with | [_, _], _ => rfl),
    DAt.mk (PySem.W.mg_of X G a__law_sum) k__law_sum (fun_mk l__law_sum h__law_sum k__law_sum) (fun _ _ _ _ _ _ us hl => match us, hl with | [_], _ => rfl),
    DAt.mk (PySem.W.mg_of X G a__law_amount) k__law_amount (fun_mk l__law_amount h__law_amount k__law_amount) (fun _ _ _ _ _ _ us hl => match us, hl with | [_], _ => rfl),
    DAt.mk (PySem.W.mg_of X G a__law_method) k__law_method (fun_mk l__law_method h__law_method k__law_method) (fun _ _ _ _ _ _ us hl => match us, hl with | [_, _], _ => rfl),
    DAt.mk (PySem.W.mg_of X G a__law_joint) k__law_joint (fun_mk l__law_joint h__law_joint k__law_joint) (fun _ _ _ _ _ _ us hl => match us, hl with | [_], _ => rfl),
    DAt.mk (PySem.W.mg_of X G a__law_net) k__law_net (fun_mk l__law_net h__law_net k__law_net) (fun _ _ _ _ _ _ us hl => match us, hl with | [_, _, _], _ => rfl),
    DAt.mk (PySem.W.mg_of X G a__law_factor) k__law_factor (fun_mk l__law_factor h__law_factor k__law_factor) (fun _ _ _ _ _ _ us hl => match us, hl with | [_], _ => rfl),
    DAt.mk (PySem.W.mg_of X G a__law_deep) k__law_deep (fun_mk l__law_deep h__law_deep k__law_deep) (fun _ _ _ _ _ _ us hl => match us, hl with | [_], _ => rfl),
    DAt.mk (PySem.W.mg_of X G a__law_odd) k__law_odd (fun_mk l__law_odd h__law_odd k__law_odd) (fun _ _ _ _ _ _ us hl => match us, hl with | [_], _ => rfl),
    DAt.mk (PySem.W.mg_of X G a__law_is) k__law_is (fun_mk l__law_is h__law_is k__law_is) (fun _ _ _ _ _ _ us hl => match us, hl with | [_, _], _ => rfl),
    DAt.mk (PySem.W.mg_of X G a__law_bent) k__law_bent (fun_mk l__law_bent h__law_bent k__law_bent) (fun _ _ _ _ _ _ us hl => match us, hl with | [_, _], _ => rfl),
    DAtL.mk (PySem.W.mg_of X G a_law) k_law l_law h_law (fun _ _ _ _ _ _ us hl => match us, hl with | [_], _ => rfl)⟩
set_option maxHeartbeats 4000000 in
theorem head_mk {P : Program} {w : World} {K : PySem.W.Frag} {h : Heap} {mg : Str → Option Value} {fa : Addr} (X : K.In h) (G : h.Ns mainGlobals mg) (hmg : mg "law" = some (.ref fa)) {ts : List Addr} (hTs : ∀ P ∈ ts, h.get? P = some (PySem.W.tabObj #[]))
    {C_NoBook : Addr}
    {C_NoPlan : Addr}
    {C_NoFactor : Addr}
    {C_TooMany : Addr}
    {C_NoJoint : Addr}
    {C_GoodsError : Addr}
    {NC_TooMany fI_TooMany : Addr} {nmC_TooMany qnC_TooMany : Str} {bsC_TooMany bmC_TooMany sbC_TooMany : List Value} {snC_TooMany : List Str} {abC_TooMany : Bool} {colC_TooMany : Option Bool} {ddC_TooMany odI_TooMany anI_TooMany : Option Addr} {k0C_TooMany k1C_TooMany k2C_TooMany k3C_TooMany k5C_TooMany : Option Value} {ocI_TooMany kVI_TooMany dcI_TooMany pmI_TooMany cdI_TooMany ctI_TooMany : Value} {slI_TooMany : Array (Option Value)}
    {ct_MOST_GOODS : Tok}
    {ct_MOST_METHODS : Tok}
    {ca_ZERO : Addr} {co_ZERO : Option Addr} {ci_ZERO : List Value} {cn_ZERO : Nat} {cs_ZERO : Array (Option Value)}
    {ct_MOST_JOINT : Tok}
    {ca_ONE : Addr} {co_ONE : Option Addr} {ci_ONE : List Value} {cn_ONE : Nat} {cs_ONE : Array (Option Value)}
    {f__law_word : Addr} {od__law_word an__law_word : Option Addr} {sl__law_word : Array (Option Value)} {oc__law_word kV__law_word dc__law_word pm__law_word ct__law_word : Value} {cd__law_word : Value}
    {f_is_integer : Addr} {od_is_integer an_is_integer : Option Addr} {sl_is_integer : Array (Option Value)} {oc_is_integer kV_is_integer dc_is_integer pm_is_integer ct_is_integer : Value} {cd_is_integer : Value}
    {f_is_within : Addr} {od_is_within an_is_within : Option Addr} {sl_is_within : Array (Option Value)} {oc_is_within kV_is_within dc_is_within pm_is_within ct_is_within : Value} {cd_is_within : Value}
    {f_is_sized : Addr} {od_is_sized an_is_sized : Option Addr} {sl_is_sized : Array (Option Value)} {oc_is_sized kV_is_sized dc_is_sized pm_is_sized ct_is_sized : Value} {cd_is_sized : Value}
    {f_common : Addr} {od_common an_common : Option Addr} {sl_common : Array (Option Value)} {oc_common kV_common dc_common pm_common ct_common : Value} {cd_common : Value}
    {f_share : Addr} {od_share an_share : Option Addr} {sl_share : Array (Option Value)} {oc_share kV_share dc_share pm_share ct_share : Value} {cd_share : Value}
    {f_is_share : Addr} {od_is_share an_is_share : Option Addr} {sl_is_share : Array (Option Value)} {oc_is_share kV_is_share dc_is_share pm_is_share ct_is_share : Value} {cd_is_share : Value}
    {f_plus : Addr} {od_plus an_plus : Option Addr} {sl_plus : Array (Option Value)} {oc_plus kV_plus dc_plus pm_plus ct_plus : Value} {cd_plus : Value}
    {f_minus : Addr} {od_minus an_minus : Option Addr} {sl_minus : Array (Option Value)} {oc_minus kV_minus dc_minus pm_minus ct_minus : Value} {cd_minus : Value}
    {f_times : Addr} {od_times an_times : Option Addr} {sl_times : Array (Option Value)} {oc_times kV_times dc_times pm_times ct_times : Value} {cd_times : Value}
    {f_is_amount : Addr} {od_is_amount an_is_amount : Option Addr} {sl_is_amount : Array (Option Value)} {oc_is_amount kV_is_amount dc_is_amount pm_is_amount ct_is_amount : Value} {cd_is_amount : Value}
    {f_are_amounts : Addr} {od_are_amounts an_are_amounts : Option Addr} {sl_are_amounts : Array (Option Value)} {oc_are_amounts kV_are_amounts dc_are_amounts pm_are_amounts ct_are_amounts : Value} {cd_are_amounts : Value}
    {f_is_method : Addr} {od_is_method an_is_method : Option Addr} {sl_is_method : Array (Option Value)} {oc_is_method kV_is_method dc_is_method pm_is_method ct_is_method : Value} {cd_is_method : Value}
    {f_is_book : Addr} {od_is_book an_is_book : Option Addr} {sl_is_book : Array (Option Value)} {oc_is_book kV_is_book dc_is_book pm_is_book ct_is_book : Value} {cd_is_book : Value}
    {f_check_book : Addr} {od_check_book an_check_book : Option Addr} {sl_check_book : Array (Option Value)} {oc_check_book kV_check_book dc_check_book pm_check_book ct_check_book : Value} {cd_check_book : Value}
    {f_is_plan_of : Addr} {od_is_plan_of an_is_plan_of : Option Addr} {sl_is_plan_of : Array (Option Value)} {oc_is_plan_of kV_is_plan_of dc_is_plan_of pm_is_plan_of ct_is_plan_of : Value} {cd_is_plan_of : Value}
    {f_check_plan : Addr} {od_check_plan an_check_plan : Option Addr} {sl_check_plan : Array (Option Value)} {oc_check_plan kV_check_plan dc_check_plan pm_check_plan ct_check_plan : Value} {cd_check_plan : Value}
    {f_check_factor : Addr} {od_check_factor an_check_factor : Option Addr} {sl_check_factor : Array (Option Value)} {oc_check_factor kV_check_factor dc_check_factor pm_check_factor ct_check_factor : Value} {cd_check_factor : Value}
    {f_made_by : Addr} {od_made_by an_made_by : Option Addr} {sl_made_by : Array (Option Value)} {oc_made_by kV_made_by dc_made_by pm_made_by ct_made_by : Value} {cd_made_by : Value}
    {f_used_by : Addr} {od_used_by an_used_by : Option Addr} {sl_used_by : Array (Option Value)} {oc_used_by kV_used_by dc_used_by pm_used_by ct_used_by : Value} {cd_used_by : Value}
    {f_net_of : Addr} {od_net_of an_net_of : Option Addr} {sl_net_of : Array (Option Value)} {oc_net_of kV_net_of dc_net_of pm_net_of ct_net_of : Value} {cd_net_of : Value}
    {f_net : Addr} {od_net an_net : Option Addr} {sl_net : Array (Option Value)} {oc_net kV_net dc_net pm_net ct_net : Value} {cd_net : Value}
    {f_dot : Addr} {od_dot an_dot : Option Addr} {sl_dot : Array (Option Value)} {oc_dot kV_dot dc_dot pm_dot ct_dot : Value} {cd_dot : Value}
    {f_is_joint_method : Addr} {od_is_joint_method an_is_joint_method : Option Addr} {sl_is_joint_method : Array (Option Value)} {oc_is_joint_method kV_is_joint_method dc_is_joint_method pm_is_joint_method ct_is_joint_method : Value} {cd_is_joint_method : Value}
    {f_is_joint : Addr} {od_is_joint an_is_joint : Option Addr} {sl_is_joint : Array (Option Value)} {oc_is_joint kV_is_joint dc_is_joint pm_is_joint ct_is_joint : Value} {cd_is_joint : Value}
    {f_joint_of : Addr} {od_joint_of an_joint_of : Option Addr} {sl_joint_of : Array (Option Value)} {oc_joint_of kV_joint_of dc_joint_of pm_joint_of ct_joint_of : Value} {cd_joint_of : Value}
    {f_check : Addr} {od_check an_check : Option Addr} {sl_check : Array (Option Value)} {oc_check kV_check dc_check pm_check ct_check : Value} {cd_check : Value}
    {f_net_of_method : Addr} {od_net_of_method an_net_of_method : Option Addr} {sl_net_of_method : Array (Option Value)} {oc_net_of_method kV_net_of_method dc_net_of_method pm_net_of_method ct_net_of_method : Value} {cd_net_of_method : Value}
    {f_net_rows : Addr} {od_net_rows an_net_rows : Option Addr} {sl_net_rows : Array (Option Value)} {oc_net_rows kV_net_rows dc_net_rows pm_net_rows ct_net_rows : Value} {cd_net_rows : Value}
    {f_raw_net : Addr} {od_raw_net an_raw_net : Option Addr} {sl_raw_net : Array (Option Value)} {oc_raw_net kV_raw_net dc_raw_net pm_raw_net ct_raw_net : Value} {cd_raw_net : Value}
    {f_joint_net : Addr} {od_joint_net an_joint_net : Option Addr} {sl_joint_net : Array (Option Value)} {oc_joint_net kV_joint_net dc_joint_net pm_joint_net ct_joint_net : Value} {cd_joint_net : Value}
    {f__law_hand : Addr} {od__law_hand an__law_hand : Option Addr} {sl__law_hand : Array (Option Value)} {oc__law_hand kV__law_hand dc__law_hand pm__law_hand ct__law_hand : Value} {cd__law_hand : Value}
    {f__law_draw : Addr} {od__law_draw an__law_draw : Option Addr} {sl__law_draw : Array (Option Value)} {oc__law_draw kV__law_draw dc__law_draw pm__law_draw ct__law_draw : Value} {cd__law_draw : Value}
    {f__law_some : Addr} {od__law_some an__law_some : Option Addr} {sl__law_some : Array (Option Value)} {oc__law_some kV__law_some dc__law_some pm__law_some ct__law_some : Value} {cd__law_some : Value}
    {f__law_low : Addr} {od__law_low an__law_low : Option Addr} {sl__law_low : Array (Option Value)} {oc__law_low kV__law_low dc__law_low pm__law_low ct__law_low : Value} {cd__law_low : Value}
    {f__law_plus : Addr} {od__law_plus an__law_plus : Option Addr} {sl__law_plus : Array (Option Value)} {oc__law_plus kV__law_plus dc__law_plus pm__law_plus ct__law_plus : Value} {cd__law_plus : Value}
    {f__law_minus : Addr} {od__law_minus an__law_minus : Option Addr} {sl__law_minus : Array (Option Value)} {oc__law_minus kV__law_minus dc__law_minus pm__law_minus ct__law_minus : Value} {cd__law_minus : Value}
    {f__law_times : Addr} {od__law_times an__law_times : Option Addr} {sl__law_times : Array (Option Value)} {oc__law_times kV__law_times dc__law_times pm__law_times ct__law_times : Value} {cd__law_times : Value}
    {f__law_sum : Addr} {od__law_sum an__law_sum : Option Addr} {sl__law_sum : Array (Option Value)} {oc__law_sum kV__law_sum dc__law_sum pm__law_sum ct__law_sum : Value} {cd__law_sum : Value}
    {f__law_amount : Addr} {od__law_amount an__law_amount : Option Addr} {sl__law_amount : Array (Option Value)} {oc__law_amount kV__law_amount dc__law_amount pm__law_amount ct__law_amount : Value} {cd__law_amount : Value}
    {f__law_method : Addr} {od__law_method an__law_method : Option Addr} {sl__law_method : Array (Option Value)} {oc__law_method kV__law_method dc__law_method pm__law_method ct__law_method : Value} {cd__law_method : Value}
    {f__law_joint : Addr} {od__law_joint an__law_joint : Option Addr} {sl__law_joint : Array (Option Value)} {oc__law_joint kV__law_joint dc__law_joint pm__law_joint ct__law_joint : Value} {cd__law_joint : Value}
    {f__law_net : Addr} {od__law_net an__law_net : Option Addr} {sl__law_net : Array (Option Value)} {oc__law_net kV__law_net dc__law_net pm__law_net ct__law_net : Value} {cd__law_net : Value}
    {f__law_factor : Addr} {od__law_factor an__law_factor : Option Addr} {sl__law_factor : Array (Option Value)} {oc__law_factor kV__law_factor dc__law_factor pm__law_factor ct__law_factor : Value} {cd__law_factor : Value}
    {f__law_deep : Addr} {od__law_deep an__law_deep : Option Addr} {sl__law_deep : Array (Option Value)} {oc__law_deep kV__law_deep dc__law_deep pm__law_deep ct__law_deep : Value} {cd__law_deep : Value}
    {f__law_odd : Addr} {od__law_odd an__law_odd : Option Addr} {sl__law_odd : Array (Option Value)} {oc__law_odd kV__law_odd dc__law_odd pm__law_odd ct__law_odd : Value} {cd__law_odd : Value}
    {f__law_is : Addr} {od__law_is an__law_is : Option Addr} {sl__law_is : Array (Option Value)} {oc__law_is kV__law_is dc__law_is pm__law_is ct__law_is : Value} {cd__law_is : Value}
    {f__law_bent : Addr} {od__law_bent an__law_bent : Option Addr} {sl__law_bent : Array (Option Value)} {oc__law_bent kV__law_bent dc__law_bent pm__law_bent ct__law_bent : Value} {cd__law_bent : Value}
    {f_law : Addr} {od_law an_law : Option Addr} {sl_law : Array (Option Value)} {oc_law kV_law dc_law pm_law ct_law : Value} {c_law : Addr}
    {t_law : Addr} {tx_law : Value} {ty_law : Option Addr} {tv_law : Array Value} {tz_law : Array (Option Value)}
    (m_NoBook : PySem.W.nsIn K mainGlobals "NoBook" = some (some (.ref C_NoBook))) (i_NoBook : ClsIn K C_NoBook)
    (m_NoPlan : PySem.W.nsIn K mainGlobals "NoPlan" = some (some (.ref C_NoPlan))) (i_NoPlan : ClsIn K C_NoPlan)
    (m_NoFactor : PySem.W.nsIn K mainGlobals "NoFactor" = some (some (.ref C_NoFactor))) (i_NoFactor : ClsIn K C_NoFactor)
    (m_TooMany : PySem.W.nsIn K mainGlobals "TooMany" = some (some (.ref C_TooMany))) (i_TooMany : ClsIn K C_TooMany)
    (m_NoJoint : PySem.W.nsIn K mainGlobals "NoJoint" = some (some (.ref C_NoJoint))) (i_NoJoint : ClsIn K C_NoJoint)
    (m_GoodsError : PySem.W.nsIn K mainGlobals "GoodsError" = some (some (.ref C_GoodsError))) (i_GoodsError : ClsIn K C_GoodsError)
    (u_NoBook_NoBook : PySem.W.subIn K (.ref C_NoBook) (.ref C_NoBook) = some (ancL "NoBook" "NoBook"))
    (u_NoBook_NoPlan : PySem.W.subIn K (.ref C_NoBook) (.ref C_NoPlan) = some (ancL "NoBook" "NoPlan"))
    (u_NoBook_NoFactor : PySem.W.subIn K (.ref C_NoBook) (.ref C_NoFactor) = some (ancL "NoBook" "NoFactor"))
    (u_NoBook_TooMany : PySem.W.subIn K (.ref C_NoBook) (.ref C_TooMany) = some (ancL "NoBook" "TooMany"))
    (u_NoBook_NoJoint : PySem.W.subIn K (.ref C_NoBook) (.ref C_NoJoint) = some (ancL "NoBook" "NoJoint"))
    (u_NoBook_GoodsError : PySem.W.subIn K (.ref C_NoBook) (.ref C_GoodsError) = some (ancL "NoBook" "GoodsError"))
    (u_NoPlan_NoBook : PySem.W.subIn K (.ref C_NoPlan) (.ref C_NoBook) = some (ancL "NoPlan" "NoBook"))
    (u_NoPlan_NoPlan : PySem.W.subIn K (.ref C_NoPlan) (.ref C_NoPlan) = some (ancL "NoPlan" "NoPlan"))
    (u_NoPlan_NoFactor : PySem.W.subIn K (.ref C_NoPlan) (.ref C_NoFactor) = some (ancL "NoPlan" "NoFactor"))
    (u_NoPlan_TooMany : PySem.W.subIn K (.ref C_NoPlan) (.ref C_TooMany) = some (ancL "NoPlan" "TooMany"))
    (u_NoPlan_NoJoint : PySem.W.subIn K (.ref C_NoPlan) (.ref C_NoJoint) = some (ancL "NoPlan" "NoJoint"))
    (u_NoPlan_GoodsError : PySem.W.subIn K (.ref C_NoPlan) (.ref C_GoodsError) = some (ancL "NoPlan" "GoodsError"))
    (u_NoFactor_NoBook : PySem.W.subIn K (.ref C_NoFactor) (.ref C_NoBook) = some (ancL "NoFactor" "NoBook"))
    (u_NoFactor_NoPlan : PySem.W.subIn K (.ref C_NoFactor) (.ref C_NoPlan) = some (ancL "NoFactor" "NoPlan"))
    (u_NoFactor_NoFactor : PySem.W.subIn K (.ref C_NoFactor) (.ref C_NoFactor) = some (ancL "NoFactor" "NoFactor"))
    (u_NoFactor_TooMany : PySem.W.subIn K (.ref C_NoFactor) (.ref C_TooMany) = some (ancL "NoFactor" "TooMany"))
    (u_NoFactor_NoJoint : PySem.W.subIn K (.ref C_NoFactor) (.ref C_NoJoint) = some (ancL "NoFactor" "NoJoint"))
    (u_NoFactor_GoodsError : PySem.W.subIn K (.ref C_NoFactor) (.ref C_GoodsError) = some (ancL "NoFactor" "GoodsError"))
    (u_TooMany_NoBook : PySem.W.subIn K (.ref C_TooMany) (.ref C_NoBook) = some (ancL "TooMany" "NoBook"))
    (u_TooMany_NoPlan : PySem.W.subIn K (.ref C_TooMany) (.ref C_NoPlan) = some (ancL "TooMany" "NoPlan"))
    (u_TooMany_NoFactor : PySem.W.subIn K (.ref C_TooMany) (.ref C_NoFactor) = some (ancL "TooMany" "NoFactor"))
    (u_TooMany_TooMany : PySem.W.subIn K (.ref C_TooMany) (.ref C_TooMany) = some (ancL "TooMany" "TooMany"))
    (u_TooMany_NoJoint : PySem.W.subIn K (.ref C_TooMany) (.ref C_NoJoint) = some (ancL "TooMany" "NoJoint"))
    (u_TooMany_GoodsError : PySem.W.subIn K (.ref C_TooMany) (.ref C_GoodsError) = some (ancL "TooMany" "GoodsError"))
    (u_NoJoint_NoBook : PySem.W.subIn K (.ref C_NoJoint) (.ref C_NoBook) = some (ancL "NoJoint" "NoBook"))
    (u_NoJoint_NoPlan : PySem.W.subIn K (.ref C_NoJoint) (.ref C_NoPlan) = some (ancL "NoJoint" "NoPlan"))
    (u_NoJoint_NoFactor : PySem.W.subIn K (.ref C_NoJoint) (.ref C_NoFactor) = some (ancL "NoJoint" "NoFactor"))
    (u_NoJoint_TooMany : PySem.W.subIn K (.ref C_NoJoint) (.ref C_TooMany) = some (ancL "NoJoint" "TooMany"))
    (u_NoJoint_NoJoint : PySem.W.subIn K (.ref C_NoJoint) (.ref C_NoJoint) = some (ancL "NoJoint" "NoJoint"))
    (u_NoJoint_GoodsError : PySem.W.subIn K (.ref C_NoJoint) (.ref C_GoodsError) = some (ancL "NoJoint" "GoodsError"))
    (x_NoBook : PySem.W.excIn K C_NoBook veB "ValueError.__new__" = true)
    (x_NoPlan : PySem.W.excIn K C_NoPlan veB "ValueError.__new__" = true)
    (x_NoFactor : PySem.W.excIn K C_NoFactor veB "ValueError.__new__" = true)
    (ce_TooMany : K.lookup C_TooMany = some (excClassObj nmC_TooMany qnC_TooMany C_TooMany NC_TooMany bsC_TooMany bmC_TooMany true snC_TooMany sbC_TooMany abC_TooMany colC_TooMany ddC_TooMany k0C_TooMany k1C_TooMany k2C_TooMany k3C_TooMany k5C_TooMany "ValueError.__new__"))
    (cr_TooMany : PySem.HandSPX.refsVE bmC_TooMany = true) (cs_TooMany : PySem.W.findIn K (.ref C_TooMany) "__setattr__" = some (some (.builtin "object.__setattr__"))) (ci_TooMany : PySem.W.findIn K (.ref C_TooMany) "__init__" = some (some (.ref fI_TooMany))) (ct_TooMany : PySem.W.typeIn K (.ref fI_TooMany) = some (.type "function")) (cn_TooMany : PySem.W.findIn K (.ref C_TooMany) "most" = some none)
    (cl_TooMany : K.lookup fI_TooMany = some ⟨ocI_TooMany, odI_TooMany, .func (PySem.W.fnOf "__init__" "TooMany.__init__" (defArgs sI_TooMany) (defBody sI_TooMany) (defScope sI_TooMany) .none kVI_TooMany dcI_TooMany pmI_TooMany anI_TooMany cdI_TooMany ctI_TooMany), slI_TooMany⟩) (ch_TooMany : PySem.W.codeIn K cdI_TooMany "TooMany.__init__" = true) (ck_TooMany : PySem.W.keepIn K (.ref fI_TooMany) = true)
    (x_NoJoint : PySem.W.excIn K C_NoJoint veB "ValueError.__new__" = true)
    (z_abs : PySem.W.nsIn K mainGlobals "abs" = some none)
    (z_all : PySem.W.nsIn K mainGlobals "all" = some none)
    (z_bool : PySem.W.nsIn K mainGlobals "bool" = some none)
    (z_int : PySem.W.nsIn K mainGlobals "int" = some none)
    (z_isinstance : PySem.W.nsIn K mainGlobals "isinstance" = some none)
    (z_len : PySem.W.nsIn K mainGlobals "len" = some none)
    (z_list : PySem.W.nsIn K mainGlobals "list" = some none)
    (z_range : PySem.W.nsIn K mainGlobals "range" = some none)
    (z_str : PySem.W.nsIn K mainGlobals "str" = some none)
    (z_tuple : PySem.W.nsIn K mainGlobals "tuple" = some none)
    (z_zip : PySem.W.nsIn K mainGlobals "zip" = some none)
    (ka_MOST_GOODS : PySem.W.nsIn K mainGlobals "MOST_GOODS" = some (some (.int 6 ct_MOST_GOODS)))
    (ka_MOST_METHODS : PySem.W.nsIn K mainGlobals "MOST_METHODS" = some (some (.int 20 ct_MOST_METHODS)))
    (ka_ZERO : PySem.W.nsIn K mainGlobals "ZERO" = some (some (.ref ca_ZERO))) (kl_ZERO : K.lookup ca_ZERO = some ⟨.type "tuple", co_ZERO, .seq ci_ZERO.toArray cn_ZERO, cs_ZERO⟩) (kv_ZERO : Vals [V.int 0, V.int 1] ci_ZERO)
    (ka_MOST_JOINT : PySem.W.nsIn K mainGlobals "MOST_JOINT" = some (some (.int 16 ct_MOST_JOINT)))
    (ka_ONE : PySem.W.nsIn K mainGlobals "ONE" = some (some (.ref ca_ONE))) (kl_ONE : K.lookup ca_ONE = some ⟨.type "tuple", co_ONE, .seq ci_ONE.toArray cn_ONE, cs_ONE⟩) (kv_ONE : Vals [V.int 1, V.int 1] ci_ONE)
    (a__law_word : PySem.W.nsIn K mainGlobals "_law_word" = some (some (.ref f__law_word))) (l__law_word : K.lookup f__law_word = some ⟨oc__law_word, od__law_word, .func (PySem.W.fnOf "_law_word" "_law_word" (defArgs s__law_word) (defBody s__law_word) (defScope s__law_word) .none kV__law_word dc__law_word pm__law_word an__law_word cd__law_word ct__law_word), sl__law_word⟩) (h__law_word : PySem.W.codeIn K cd__law_word "_law_word" = true) (k__law_word : PySem.W.keepIn K (.ref f__law_word) = true)
    (a_is_integer : PySem.W.nsIn K mainGlobals "is_integer" = some (some (.ref f_is_integer))) (l_is_integer : K.lookup f_is_integer = some ⟨oc_is_integer, od_is_integer, .func (PySem.W.fnOf "is_integer" "is_integer" (defArgs s_is_integer) (defBody s_is_integer) (defScope s_is_integer) .none kV_is_integer dc_is_integer pm_is_integer an_is_integer cd_is_integer ct_is_integer), sl_is_integer⟩) (h_is_integer : PySem.W.codeIn K cd_is_integer "is_integer" = true) (k_is_integer : PySem.W.keepIn K (.ref f_is_integer) = true)
    (a_is_within : PySem.W.nsIn K mainGlobals "is_within" = some (some (.ref f_is_within))) (l_is_within : K.lookup f_is_within = some ⟨oc_is_within, od_is_within, .func (PySem.W.fnOf "is_within" "is_within" (defArgs s_is_within) (defBody s_is_within) (defScope s_is_within) .none kV_is_within dc_is_within pm_is_within an_is_within cd_is_within ct_is_within), sl_is_within⟩) (h_is_within : PySem.W.codeIn K cd_is_within "is_within" = true) (k_is_within : PySem.W.keepIn K (.ref f_is_within) = true)
    (a_is_sized : PySem.W.nsIn K mainGlobals "is_sized" = some (some (.ref f_is_sized))) (l_is_sized : K.lookup f_is_sized = some ⟨oc_is_sized, od_is_sized, .func (PySem.W.fnOf "is_sized" "is_sized" (defArgs s_is_sized) (defBody s_is_sized) (defScope s_is_sized) .none kV_is_sized dc_is_sized pm_is_sized an_is_sized cd_is_sized ct_is_sized), sl_is_sized⟩) (h_is_sized : PySem.W.codeIn K cd_is_sized "is_sized" = true) (k_is_sized : PySem.W.keepIn K (.ref f_is_sized) = true)
    (a_common : PySem.W.nsIn K mainGlobals "common" = some (some (.ref f_common))) (l_common : K.lookup f_common = some ⟨oc_common, od_common, .func (PySem.W.fnOf "common" "common" (defArgs s_common) (defBody s_common) (defScope s_common) .none kV_common dc_common pm_common an_common cd_common ct_common), sl_common⟩) (h_common : PySem.W.codeIn K cd_common "common" = true) (k_common : PySem.W.keepIn K (.ref f_common) = true)
    (a_share : PySem.W.nsIn K mainGlobals "share" = some (some (.ref f_share))) (l_share : K.lookup f_share = some ⟨oc_share, od_share, .func (PySem.W.fnOf "share" "share" (defArgs s_share) (defBody s_share) (defScope s_share) .none kV_share dc_share pm_share an_share cd_share ct_share), sl_share⟩) (h_share : PySem.W.codeIn K cd_share "share" = true) (k_share : PySem.W.keepIn K (.ref f_share) = true)
    (a_is_share : PySem.W.nsIn K mainGlobals "is_share" = some (some (.ref f_is_share))) (l_is_share : K.lookup f_is_share = some ⟨oc_is_share, od_is_share, .func (PySem.W.fnOf "is_share" "is_share" (defArgs s_is_share) (defBody s_is_share) (defScope s_is_share) .none kV_is_share dc_is_share pm_is_share an_is_share cd_is_share ct_is_share), sl_is_share⟩) (h_is_share : PySem.W.codeIn K cd_is_share "is_share" = true) (k_is_share : PySem.W.keepIn K (.ref f_is_share) = true)
    (a_plus : PySem.W.nsIn K mainGlobals "plus" = some (some (.ref f_plus))) (l_plus : K.lookup f_plus = some ⟨oc_plus, od_plus, .func (PySem.W.fnOf "plus" "plus" (defArgs s_plus) (defBody s_plus) (defScope s_plus) .none kV_plus dc_plus pm_plus an_plus cd_plus ct_plus), sl_plus⟩) (h_plus : PySem.W.codeIn K cd_plus "plus" = true) (k_plus : PySem.W.keepIn K (.ref f_plus) = true)
    (a_minus : PySem.W.nsIn K mainGlobals "minus" = some (some (.ref f_minus))) (l_minus : K.lookup f_minus = some ⟨oc_minus, od_minus, .func (PySem.W.fnOf "minus" "minus" (defArgs s_minus) (defBody s_minus) (defScope s_minus) .none kV_minus dc_minus pm_minus an_minus cd_minus ct_minus), sl_minus⟩) (h_minus : PySem.W.codeIn K cd_minus "minus" = true) (k_minus : PySem.W.keepIn K (.ref f_minus) = true)
    (a_times : PySem.W.nsIn K mainGlobals "times" = some (some (.ref f_times))) (l_times : K.lookup f_times = some ⟨oc_times, od_times, .func (PySem.W.fnOf "times" "times" (defArgs s_times) (defBody s_times) (defScope s_times) .none kV_times dc_times pm_times an_times cd_times ct_times), sl_times⟩) (h_times : PySem.W.codeIn K cd_times "times" = true) (k_times : PySem.W.keepIn K (.ref f_times) = true)
    (a_is_amount : PySem.W.nsIn K mainGlobals "is_amount" = some (some (.ref f_is_amount))) (l_is_amount : K.lookup f_is_amount = some ⟨oc_is_amount, od_is_amount, .func (PySem.W.fnOf "is_amount" "is_amount" (defArgs s_is_amount) (defBody s_is_amount) (defScope s_is_amount) .none kV_is_amount dc_is_amount pm_is_amount an_is_amount cd_is_amount ct_is_amount), sl_is_amount⟩) (h_is_amount : PySem.W.codeIn K cd_is_amount "is_amount" = true) (k_is_amount : PySem.W.keepIn K (.ref f_is_amount) = true)
    (a_are_amounts : PySem.W.nsIn K mainGlobals "are_amounts" = some (some (.ref f_are_amounts))) (l_are_amounts : K.lookup f_are_amounts = some ⟨oc_are_amounts, od_are_amounts, .func (PySem.W.fnOf "are_amounts" "are_amounts" (defArgs s_are_amounts) (defBody s_are_amounts) (defScope s_are_amounts) .none kV_are_amounts dc_are_amounts pm_are_amounts an_are_amounts cd_are_amounts ct_are_amounts), sl_are_amounts⟩) (h_are_amounts : PySem.W.codeIn K cd_are_amounts "are_amounts" = true) (k_are_amounts : PySem.W.keepIn K (.ref f_are_amounts) = true)
    (a_is_method : PySem.W.nsIn K mainGlobals "is_method" = some (some (.ref f_is_method))) (l_is_method : K.lookup f_is_method = some ⟨oc_is_method, od_is_method, .func (PySem.W.fnOf "is_method" "is_method" (defArgs s_is_method) (defBody s_is_method) (defScope s_is_method) .none kV_is_method dc_is_method pm_is_method an_is_method cd_is_method ct_is_method), sl_is_method⟩) (h_is_method : PySem.W.codeIn K cd_is_method "is_method" = true) (k_is_method : PySem.W.keepIn K (.ref f_is_method) = true)
    (a_is_book : PySem.W.nsIn K mainGlobals "is_book" = some (some (.ref f_is_book))) (l_is_book : K.lookup f_is_book = some ⟨oc_is_book, od_is_book, .func (PySem.W.fnOf "is_book" "is_book" (defArgs s_is_book) (defBody s_is_book) (defScope s_is_book) .none kV_is_book dc_is_book pm_is_book an_is_book cd_is_book ct_is_book), sl_is_book⟩) (h_is_book : PySem.W.codeIn K cd_is_book "is_book" = true) (k_is_book : PySem.W.keepIn K (.ref f_is_book) = true)
    (a_check_book : PySem.W.nsIn K mainGlobals "check_book" = some (some (.ref f_check_book))) (l_check_book : K.lookup f_check_book = some ⟨oc_check_book, od_check_book, .func (PySem.W.fnOf "check_book" "check_book" (defArgs s_check_book) (defBody s_check_book) (defScope s_check_book) .none kV_check_book dc_check_book pm_check_book an_check_book cd_check_book ct_check_book), sl_check_book⟩) (h_check_book : PySem.W.codeIn K cd_check_book "check_book" = true) (k_check_book : PySem.W.keepIn K (.ref f_check_book) = true)
    (a_is_plan_of : PySem.W.nsIn K mainGlobals "is_plan_of" = some (some (.ref f_is_plan_of))) (l_is_plan_of : K.lookup f_is_plan_of = some ⟨oc_is_plan_of, od_is_plan_of, .func (PySem.W.fnOf "is_plan_of" "is_plan_of" (defArgs s_is_plan_of) (defBody s_is_plan_of) (defScope s_is_plan_of) .none kV_is_plan_of dc_is_plan_of pm_is_plan_of an_is_plan_of cd_is_plan_of ct_is_plan_of), sl_is_plan_of⟩) (h_is_plan_of : PySem.W.codeIn K cd_is_plan_of "is_plan_of" = true) (k_is_plan_of : PySem.W.keepIn K (.ref f_is_plan_of) = true)
    (a_check_plan : PySem.W.nsIn K mainGlobals "check_plan" = some (some (.ref f_check_plan))) (l_check_plan : K.lookup f_check_plan = some ⟨oc_check_plan, od_check_plan, .func (PySem.W.fnOf "check_plan" "check_plan" (defArgs s_check_plan) (defBody s_check_plan) (defScope s_check_plan) .none kV_check_plan dc_check_plan pm_check_plan an_check_plan cd_check_plan ct_check_plan), sl_check_plan⟩) (h_check_plan : PySem.W.codeIn K cd_check_plan "check_plan" = true) (k_check_plan : PySem.W.keepIn K (.ref f_check_plan) = true)
    (a_check_factor : PySem.W.nsIn K mainGlobals "check_factor" = some (some (.ref f_check_factor))) (l_check_factor : K.lookup f_check_factor = some ⟨oc_check_factor, od_check_factor, .func (PySem.W.fnOf "check_factor" "check_factor" (defArgs s_check_factor) (defBody s_check_factor) (defScope s_check_factor) .none kV_check_factor dc_check_factor pm_check_factor an_check_factor cd_check_factor ct_check_factor), sl_check_factor⟩) (h_check_factor : PySem.W.codeIn K cd_check_factor "check_factor" = true) (k_check_factor : PySem.W.keepIn K (.ref f_check_factor) = true)
    (a_made_by : PySem.W.nsIn K mainGlobals "made_by" = some (some (.ref f_made_by))) (l_made_by : K.lookup f_made_by = some ⟨oc_made_by, od_made_by, .func (PySem.W.fnOf "made_by" "made_by" (defArgs s_made_by) (defBody s_made_by) (defScope s_made_by) .none kV_made_by dc_made_by pm_made_by an_made_by cd_made_by ct_made_by), sl_made_by⟩) (h_made_by : PySem.W.codeIn K cd_made_by "made_by" = true) (k_made_by : PySem.W.keepIn K (.ref f_made_by) = true)
    (a_used_by : PySem.W.nsIn K mainGlobals "used_by" = some (some (.ref f_used_by))) (l_used_by : K.lookup f_used_by = some ⟨oc_used_by, od_used_by, .func (PySem.W.fnOf "used_by" "used_by" (defArgs s_used_by) (defBody s_used_by) (defScope s_used_by) .none kV_used_by dc_used_by pm_used_by an_used_by cd_used_by ct_used_by), sl_used_by⟩) (h_used_by : PySem.W.codeIn K cd_used_by "used_by" = true) (k_used_by : PySem.W.keepIn K (.ref f_used_by) = true)
    (a_net_of : PySem.W.nsIn K mainGlobals "net_of" = some (some (.ref f_net_of))) (l_net_of : K.lookup f_net_of = some ⟨oc_net_of, od_net_of, .func (PySem.W.fnOf "net_of" "net_of" (defArgs s_net_of) (defBody s_net_of) (defScope s_net_of) .none kV_net_of dc_net_of pm_net_of an_net_of cd_net_of ct_net_of), sl_net_of⟩) (h_net_of : PySem.W.codeIn K cd_net_of "net_of" = true) (k_net_of : PySem.W.keepIn K (.ref f_net_of) = true)
    (a_net : PySem.W.nsIn K mainGlobals "net" = some (some (.ref f_net))) (l_net : K.lookup f_net = some ⟨oc_net, od_net, .func (PySem.W.fnOf "net" "net" (defArgs s_net) (defBody s_net) (defScope s_net) .none kV_net dc_net pm_net an_net cd_net ct_net), sl_net⟩) (h_net : PySem.W.codeIn K cd_net "net" = true) (k_net : PySem.W.keepIn K (.ref f_net) = true)
    (a_dot : PySem.W.nsIn K mainGlobals "dot" = some (some (.ref f_dot))) (l_dot : K.lookup f_dot = some ⟨oc_dot, od_dot, .func (PySem.W.fnOf "dot" "dot" (defArgs s_dot) (defBody s_dot) (defScope s_dot) .none kV_dot dc_dot pm_dot an_dot cd_dot ct_dot), sl_dot⟩) (h_dot : PySem.W.codeIn K cd_dot "dot" = true) (k_dot : PySem.W.keepIn K (.ref f_dot) = true)
    (a_is_joint_method : PySem.W.nsIn K mainGlobals "is_joint_method" = some (some (.ref f_is_joint_method))) (l_is_joint_method : K.lookup f_is_joint_method = some ⟨oc_is_joint_method, od_is_joint_method, .func (PySem.W.fnOf "is_joint_method" "is_joint_method" (defArgs s_is_joint_method) (defBody s_is_joint_method) (defScope s_is_joint_method) .none kV_is_joint_method dc_is_joint_method pm_is_joint_method an_is_joint_method cd_is_joint_method ct_is_joint_method), sl_is_joint_method⟩) (h_is_joint_method : PySem.W.codeIn K cd_is_joint_method "is_joint_method" = true) (k_is_joint_method : PySem.W.keepIn K (.ref f_is_joint_method) = true)
    (a_is_joint : PySem.W.nsIn K mainGlobals "is_joint" = some (some (.ref f_is_joint))) (l_is_joint : K.lookup f_is_joint = some ⟨oc_is_joint, od_is_joint, .func (PySem.W.fnOf "is_joint" "is_joint" (defArgs s_is_joint) (defBody s_is_joint) (defScope s_is_joint) .none kV_is_joint dc_is_joint pm_is_joint an_is_joint cd_is_joint ct_is_joint), sl_is_joint⟩) (h_is_joint : PySem.W.codeIn K cd_is_joint "is_joint" = true) (k_is_joint : PySem.W.keepIn K (.ref f_is_joint) = true)
    (a_joint_of : PySem.W.nsIn K mainGlobals "joint_of" = some (some (.ref f_joint_of))) (l_joint_of : K.lookup f_joint_of = some ⟨oc_joint_of, od_joint_of, .func (PySem.W.fnOf "joint_of" "joint_of" (defArgs s_joint_of) (defBody s_joint_of) (defScope s_joint_of) .none kV_joint_of dc_joint_of pm_joint_of an_joint_of cd_joint_of ct_joint_of), sl_joint_of⟩) (h_joint_of : PySem.W.codeIn K cd_joint_of "joint_of" = true) (k_joint_of : PySem.W.keepIn K (.ref f_joint_of) = true)
    (a_check : PySem.W.nsIn K mainGlobals "check" = some (some (.ref f_check))) (l_check : K.lookup f_check = some ⟨oc_check, od_check, .func (PySem.W.fnOf "check" "check" (defArgs s_check) (defBody s_check) (defScope s_check) .none kV_check dc_check pm_check an_check cd_check ct_check), sl_check⟩) (h_check : PySem.W.codeIn K cd_check "check" = true) (k_check : PySem.W.keepIn K (.ref f_check) = true)
    (a_net_of_method : PySem.W.nsIn K mainGlobals "net_of_method" = some (some (.ref f_net_of_method))) (l_net_of_method : K.lookup f_net_of_method = some ⟨oc_net_of_method, od_net_of_method, .func (PySem.W.fnOf "net_of_method" "net_of_method" (defArgs s_net_of_method) (defBody s_net_of_method) (defScope s_net_of_method) .none kV_net_of_method dc_net_of_method pm_net_of_method an_net_of_method cd_net_of_method ct_net_of_method), sl_net_of_method⟩) (h_net_of_method : PySem.W.codeIn K cd_net_of_method "net_of_method" = true) (k_net_of_method : PySem.W.keepIn K (.ref f_net_of_method) = true)
    (a_net_rows : PySem.W.nsIn K mainGlobals "net_rows" = some (some (.ref f_net_rows))) (l_net_rows : K.lookup f_net_rows = some ⟨oc_net_rows, od_net_rows, .func (PySem.W.fnOf "net_rows" "net_rows" (defArgs s_net_rows) (defBody s_net_rows) (defScope s_net_rows) .none kV_net_rows dc_net_rows pm_net_rows an_net_rows cd_net_rows ct_net_rows), sl_net_rows⟩) (h_net_rows : PySem.W.codeIn K cd_net_rows "net_rows" = true) (k_net_rows : PySem.W.keepIn K (.ref f_net_rows) = true)
    (a_raw_net : PySem.W.nsIn K mainGlobals "raw_net" = some (some (.ref f_raw_net))) (l_raw_net : K.lookup f_raw_net = some ⟨oc_raw_net, od_raw_net, .func (PySem.W.fnOf "raw_net" "raw_net" (defArgs s_raw_net) (defBody s_raw_net) (defScope s_raw_net) .none kV_raw_net dc_raw_net pm_raw_net an_raw_net cd_raw_net ct_raw_net), sl_raw_net⟩) (h_raw_net : PySem.W.codeIn K cd_raw_net "raw_net" = true) (k_raw_net : PySem.W.keepIn K (.ref f_raw_net) = true)
    (a_joint_net : PySem.W.nsIn K mainGlobals "joint_net" = some (some (.ref f_joint_net))) (l_joint_net : K.lookup f_joint_net = some ⟨oc_joint_net, od_joint_net, .func (PySem.W.fnOf "joint_net" "joint_net" (defArgs s_joint_net) (defBody s_joint_net) (defScope s_joint_net) .none kV_joint_net dc_joint_net pm_joint_net an_joint_net cd_joint_net ct_joint_net), sl_joint_net⟩) (h_joint_net : PySem.W.codeIn K cd_joint_net "joint_net" = true) (k_joint_net : PySem.W.keepIn K (.ref f_joint_net) = true)
    (a__law_hand : PySem.W.nsIn K mainGlobals "_law_hand" = some (some (.ref f__law_hand))) (l__law_hand : K.lookup f__law_hand = some ⟨oc__law_hand, od__law_hand, .func (PySem.W.fnOf "_law_hand" "_law_hand" (defArgs s__law_hand) (defBody s__law_hand) (defScope s__law_hand) .none kV__law_hand dc__law_hand pm__law_hand an__law_hand cd__law_hand ct__law_hand), sl__law_hand⟩) (h__law_hand : PySem.W.codeIn K cd__law_hand "_law_hand" = true) (k__law_hand : PySem.W.keepIn K (.ref f__law_hand) = true)
    (a__law_draw : PySem.W.nsIn K mainGlobals "_law_draw" = some (some (.ref f__law_draw))) (l__law_draw : K.lookup f__law_draw = some ⟨oc__law_draw, od__law_draw, .func (PySem.W.fnOf "_law_draw" "_law_draw" (defArgs s__law_draw) (defBody s__law_draw) (defScope s__law_draw) .none kV__law_draw dc__law_draw pm__law_draw an__law_draw cd__law_draw ct__law_draw), sl__law_draw⟩) (h__law_draw : PySem.W.codeIn K cd__law_draw "_law_draw" = true) (k__law_draw : PySem.W.keepIn K (.ref f__law_draw) = true)
    (a__law_some : PySem.W.nsIn K mainGlobals "_law_some" = some (some (.ref f__law_some))) (l__law_some : K.lookup f__law_some = some ⟨oc__law_some, od__law_some, .func (PySem.W.fnOf "_law_some" "_law_some" (defArgs s__law_some) (defBody s__law_some) (defScope s__law_some) .none kV__law_some dc__law_some pm__law_some an__law_some cd__law_some ct__law_some), sl__law_some⟩) (h__law_some : PySem.W.codeIn K cd__law_some "_law_some" = true) (k__law_some : PySem.W.keepIn K (.ref f__law_some) = true)
    (a__law_low : PySem.W.nsIn K mainGlobals "_law_low" = some (some (.ref f__law_low))) (l__law_low : K.lookup f__law_low = some ⟨oc__law_low, od__law_low, .func (PySem.W.fnOf "_law_low" "_law_low" (defArgs s__law_low) (defBody s__law_low) (defScope s__law_low) .none kV__law_low dc__law_low pm__law_low an__law_low cd__law_low ct__law_low), sl__law_low⟩) (h__law_low : PySem.W.codeIn K cd__law_low "_law_low" = true) (k__law_low : PySem.W.keepIn K (.ref f__law_low) = true)
    (a__law_plus : PySem.W.nsIn K mainGlobals "_law_plus" = some (some (.ref f__law_plus))) (l__law_plus : K.lookup f__law_plus = some ⟨oc__law_plus, od__law_plus, .func (PySem.W.fnOf "_law_plus" "_law_plus" (defArgs s__law_plus) (defBody s__law_plus) (defScope s__law_plus) .none kV__law_plus dc__law_plus pm__law_plus an__law_plus cd__law_plus ct__law_plus), sl__law_plus⟩) (h__law_plus : PySem.W.codeIn K cd__law_plus "_law_plus" = true) (k__law_plus : PySem.W.keepIn K (.ref f__law_plus) = true)
    (a__law_minus : PySem.W.nsIn K mainGlobals "_law_minus" = some (some (.ref f__law_minus))) (l__law_minus : K.lookup f__law_minus = some ⟨oc__law_minus, od__law_minus, .func (PySem.W.fnOf "_law_minus" "_law_minus" (defArgs s__law_minus) (defBody s__law_minus) (defScope s__law_minus) .none kV__law_minus dc__law_minus pm__law_minus an__law_minus cd__law_minus ct__law_minus), sl__law_minus⟩) (h__law_minus : PySem.W.codeIn K cd__law_minus "_law_minus" = true) (k__law_minus : PySem.W.keepIn K (.ref f__law_minus) = true)
    (a__law_times : PySem.W.nsIn K mainGlobals "_law_times" = some (some (.ref f__law_times))) (l__law_times : K.lookup f__law_times = some ⟨oc__law_times, od__law_times, .func (PySem.W.fnOf "_law_times" "_law_times" (defArgs s__law_times) (defBody s__law_times) (defScope s__law_times) .none kV__law_times dc__law_times pm__law_times an__law_times cd__law_times ct__law_times), sl__law_times⟩) (h__law_times : PySem.W.codeIn K cd__law_times "_law_times" = true) (k__law_times : PySem.W.keepIn K (.ref f__law_times) = true)
    (a__law_sum : PySem.W.nsIn K mainGlobals "_law_sum" = some (some (.ref f__law_sum))) (l__law_sum : K.lookup f__law_sum = some ⟨oc__law_sum, od__law_sum, .func (PySem.W.fnOf "_law_sum" "_law_sum" (defArgs s__law_sum) (defBody s__law_sum) (defScope s__law_sum) .none kV__law_sum dc__law_sum pm__law_sum an__law_sum cd__law_sum ct__law_sum), sl__law_sum⟩) (h__law_sum : PySem.W.codeIn K cd__law_sum "_law_sum" = true) (k__law_sum : PySem.W.keepIn K (.ref f__law_sum) = true)
    (a__law_amount : PySem.W.nsIn K mainGlobals "_law_amount" = some (some (.ref f__law_amount))) (l__law_amount : K.lookup f__law_amount = some ⟨oc__law_amount, od__law_amount, .func (PySem.W.fnOf "_law_amount" "_law_amount" (defArgs s__law_amount) (defBody s__law_amount) (defScope s__law_amount) .none kV__law_amount dc__law_amount pm__law_amount an__law_amount cd__law_amount ct__law_amount), sl__law_amount⟩) (h__law_amount : PySem.W.codeIn K cd__law_amount "_law_amount" = true) (k__law_amount : PySem.W.keepIn K (.ref f__law_amount) = true)
    (a__law_method : PySem.W.nsIn K mainGlobals "_law_method" = some (some (.ref f__law_method))) (l__law_method : K.lookup f__law_method = some ⟨oc__law_method, od__law_method, .func (PySem.W.fnOf "_law_method" "_law_method" (defArgs s__law_method) (defBody s__law_method) (defScope s__law_method) .none kV__law_method dc__law_method pm__law_method an__law_method cd__law_method ct__law_method), sl__law_method⟩) (h__law_method : PySem.W.codeIn K cd__law_method "_law_method" = true) (k__law_method : PySem.W.keepIn K (.ref f__law_method) = true)
    (a__law_joint : PySem.W.nsIn K mainGlobals "_law_joint" = some (some (.ref f__law_joint))) (l__law_joint : K.lookup f__law_joint = some ⟨oc__law_joint, od__law_joint, .func (PySem.W.fnOf "_law_joint" "_law_joint" (defArgs s__law_joint) (defBody s__law_joint) (defScope s__law_joint) .none kV__law_joint dc__law_joint pm__law_joint an__law_joint cd__law_joint ct__law_joint), sl__law_joint⟩) (h__law_joint : PySem.W.codeIn K cd__law_joint "_law_joint" = true) (k__law_joint : PySem.W.keepIn K (.ref f__law_joint) = true)
    (a__law_net : PySem.W.nsIn K mainGlobals "_law_net" = some (some (.ref f__law_net))) (l__law_net : K.lookup f__law_net = some ⟨oc__law_net, od__law_net, .func (PySem.W.fnOf "_law_net" "_law_net" (defArgs s__law_net) (defBody s__law_net) (defScope s__law_net) .none kV__law_net dc__law_net pm__law_net an__law_net cd__law_net ct__law_net), sl__law_net⟩) (h__law_net : PySem.W.codeIn K cd__law_net "_law_net" = true) (k__law_net : PySem.W.keepIn K (.ref f__law_net) = true)
    (a__law_factor : PySem.W.nsIn K mainGlobals "_law_factor" = some (some (.ref f__law_factor))) (l__law_factor : K.lookup f__law_factor = some ⟨oc__law_factor, od__law_factor, .func (PySem.W.fnOf "_law_factor" "_law_factor" (defArgs s__law_factor) (defBody s__law_factor) (defScope s__law_factor) .none kV__law_factor dc__law_factor pm__law_factor an__law_factor cd__law_factor ct__law_factor), sl__law_factor⟩) (h__law_factor : PySem.W.codeIn K cd__law_factor "_law_factor" = true) (k__law_factor : PySem.W.keepIn K (.ref f__law_factor) = true)
    (a__law_deep : PySem.W.nsIn K mainGlobals "_law_deep" = some (some (.ref f__law_deep))) (l__law_deep : K.lookup f__law_deep = some ⟨oc__law_deep, od__law_deep, .func (PySem.W.fnOf "_law_deep" "_law_deep" (defArgs s__law_deep) (defBody s__law_deep) (defScope s__law_deep) .none kV__law_deep dc__law_deep pm__law_deep an__law_deep cd__law_deep ct__law_deep), sl__law_deep⟩) (h__law_deep : PySem.W.codeIn K cd__law_deep "_law_deep" = true) (k__law_deep : PySem.W.keepIn K (.ref f__law_deep) = true)
    (a__law_odd : PySem.W.nsIn K mainGlobals "_law_odd" = some (some (.ref f__law_odd))) (l__law_odd : K.lookup f__law_odd = some ⟨oc__law_odd, od__law_odd, .func (PySem.W.fnOf "_law_odd" "_law_odd" (defArgs s__law_odd) (defBody s__law_odd) (defScope s__law_odd) .none kV__law_odd dc__law_odd pm__law_odd an__law_odd cd__law_odd ct__law_odd), sl__law_odd⟩) (h__law_odd : PySem.W.codeIn K cd__law_odd "_law_odd" = true) (k__law_odd : PySem.W.keepIn K (.ref f__law_odd) = true)
    (a__law_is : PySem.W.nsIn K mainGlobals "_law_is" = some (some (.ref f__law_is))) (l__law_is : K.lookup f__law_is = some ⟨oc__law_is, od__law_is, .func (PySem.W.fnOf "_law_is" "_law_is" (defArgs s__law_is) (defBody s__law_is) (defScope s__law_is) .none kV__law_is dc__law_is pm__law_is an__law_is cd__law_is ct__law_is), sl__law_is⟩) (h__law_is : PySem.W.codeIn K cd__law_is "_law_is" = true) (k__law_is : PySem.W.keepIn K (.ref f__law_is) = true)
    (a__law_bent : PySem.W.nsIn K mainGlobals "_law_bent" = some (some (.ref f__law_bent))) (l__law_bent : K.lookup f__law_bent = some ⟨oc__law_bent, od__law_bent, .func (PySem.W.fnOf "_law_bent" "_law_bent" (defArgs s__law_bent) (defBody s__law_bent) (defScope s__law_bent) .none kV__law_bent dc__law_bent pm__law_bent an__law_bent cd__law_bent ct__law_bent), sl__law_bent⟩) (h__law_bent : PySem.W.codeIn K cd__law_bent "_law_bent" = true) (k__law_bent : PySem.W.keepIn K (.ref f__law_bent) = true)
    (a_law : PySem.W.nsIn K mainGlobals "law" = some (some (.ref f_law))) (l_law : K.lookup f_law = some ⟨oc_law, od_law, .func (PySem.W.fnOf "law" "law" (defArgs s_law) (defBody s_law) (defScope s_law) .none kV_law dc_law pm_law an_law (.ref c_law) ct_law), sl_law⟩) (h_law : PySem.W.codeIn K (.ref c_law) "law" = true) (k_law : PySem.W.keepIn K (.ref f_law) = true)
    (tc_law : K.lookup c_law = some ⟨tx_law, ty_law, .fields tv_law, tz_law⟩) (tp_law : tv_law[11]? = some (.ref t_law))
    (ti_law : PySem.W.codeHdIn K c_law t_law = true) (to_law : h.get? t_law = some (PySem.W.tabObj #[])) (tl_law : K.lookup t_law = none)
    (nt : [t_law].Nodup)
    : ∃ (_ : TabC) (cs : List (Addr × Addr)) (fd : FuncData), TbHead K h cs ∧ (∀ q ∈ TabC.tabs, ∃ c, (c, q.1) ∈ cs) ∧ (∀ (s : Shared) (u : Value), BindsTo s fd ⟨[u], []⟩ [("script", u)]) ∧ ∀ base : Heap, K.In base → base.Ns mainGlobals mg → (∀ p ∈ cs, LamX.TabB base mg p.1 p.2) → FnG P w K mg base (cmOf rowsL mg) 12 fa fd ["script"] m_law := by
  have FX : Fx K mg c_law := fx_mk X G m_NoBook i_NoBook m_NoPlan i_NoPlan m_NoFactor i_NoFactor m_TooMany i_TooMany m_NoJoint i_NoJoint m_GoodsError i_GoodsError u_NoBook_NoBook u_NoBook_NoPlan u_NoBook_NoFactor u_NoBook_TooMany u_NoBook_NoJoint u_NoBook_GoodsError u_NoPlan_NoBook u_NoPlan_NoPlan u_NoPlan_NoFactor u_NoPlan_TooMany u_NoPlan_NoJoint u_NoPlan_GoodsError u_NoFactor_NoBook u_NoFactor_NoPlan u_NoFactor_NoFactor u_NoFactor_TooMany u_NoFactor_NoJoint u_NoFactor_GoodsError u_TooMany_NoBook u_TooMany_NoPlan u_TooMany_NoFactor u_TooMany_TooMany u_TooMany_NoJoint u_TooMany_GoodsError u_NoJoint_NoBook u_NoJoint_NoPlan u_NoJoint_NoFactor u_NoJoint_TooMany u_NoJoint_NoJoint u_NoJoint_GoodsError x_NoBook x_NoPlan x_NoFactor ce_TooMany cr_TooMany cs_TooMany ci_TooMany ct_TooMany cn_TooMany cl_TooMany ch_TooMany ck_TooMany x_NoJoint z_abs z_all z_bool z_int z_isinstance z_len z_list z_range z_str z_tuple z_zip ka_MOST_GOODS ka_MOST_METHODS ka_ZERO kl_ZERO kv_ZERO ka_MOST_JOINT ka_ONE kl_ONE kv_ONE a__law_word l__law_word h__law_word k__law_word a_is_integer l_is_integer h_is_integer k_is_integer a_is_within l_is_within h_is_within k_is_within a_is_sized l_is_sized h_is_sized k_is_sized a_common l_common h_common k_common a_share l_share h_share k_share a_is_share l_is_share h_is_share k_is_share a_plus l_plus h_plus k_plus a_minus l_minus h_minus k_minus a_times l_times h_times k_times a_is_amount l_is_amount h_is_amount k_is_amount a_are_amounts l_are_amounts h_are_amounts k_are_amounts a_is_method l_is_method h_is_method k_is_method a_is_book l_is_book h_is_book k_is_book a_check_book l_check_book h_check_book k_check_book a_is_plan_of l_is_plan_of h_is_plan_of k_is_plan_of a_check_plan l_check_plan h_check_plan k_check_plan a_check_factor l_check_factor h_check_factor k_check_factor a_made_by l_made_by h_made_by k_made_by a_used_by l_used_by h_used_by k_used_by a_net_of l_net_of h_net_of k_net_of a_net l_net h_net k_net a_dot l_dot h_dot k_dot a_is_joint_method l_is_joint_method h_is_joint_method k_is_joint_method a_is_joint l_is_joint h_is_joint k_is_joint a_joint_of l_joint_of h_joint_of k_joint_of a_check l_check h_check k_check a_net_of_method l_net_of_method h_net_of_method k_net_of_method a_net_rows l_net_rows h_net_rows k_net_rows a_raw_net l_raw_net h_raw_net k_raw_net a_joint_net l_joint_net h_joint_net k_joint_net a__law_hand l__law_hand h__law_hand k__law_hand a__law_draw l__law_draw h__law_draw k__law_draw a__law_some l__law_some h__law_some k__law_some a__law_low l__law_low h__law_low k__law_low a__law_plus l__law_plus h__law_plus k__law_plus a__law_minus l__law_minus h__law_minus k__law_minus a__law_times l__law_times h__law_times k__law_times a__law_sum l__law_sum h__law_sum k__law_sum a__law_amount l__law_amount h__law_amount k__law_amount a__law_method l__law_method h__law_method k__law_method a__law_joint l__law_joint h__law_joint k__law_joint a__law_net l__law_net h__law_net k__law_net a__law_factor l__law_factor h__law_factor k__law_factor a__law_deep l__law_deep h__law_deep k__law_deep a__law_odd l__law_odd h__law_odd k__law_odd a__law_is l__law_is h__law_is k__law_is a__law_bent l__law_bent h__law_bent k__law_bent a_law l_law h_law k_law
  letI : TabC := ⟨[(t_law, ("law.<locals>.<lambda>" : Str))]⟩
  exact (ok_law FX rfl nt hmg).head (tbHead_cons X to_law tl_law ti_law TbHead.nil) (fun q hq => ⟨c_law, by rw [List.mem_singleton.mp hq]; exact .head _⟩)

end K47
namespace K47
open PySem PySem.Spec PyProof.Rows L2 DL FR HN FB FJ FW
local macro_rules | `(tactic| items_go) => `(tactic| simp only [wp_ok, wp_ex, wp_bind, wp_mC, wp_mV, wp_m1, wp_m2, wp_maN, wp_maC, wp_mL, wp_mT, wp_mTr, wp_and, wp_or, wp_not, wp_andV, wp_orV, wp_notV, wp_mIf, wp_chain, wp_sl, wp_moN, wp_moS, wp_isi, wp_isi2, wp_meth, wp_tup, wp_lst, wp_ref, wp_seq, wp_ret, wp_retN, wp_nx, wp_bk, wp_ct, wp_do, wp_set, wp_asg, wp_par, wp_par3, wp_aug, wp_ifS, wp_raise, wp_for, wp_gN, wp_gsN, wp_gsC, wp_gT, wp_gSub, wp_seqI, wp_argI, wp_lc, wp_defM, Wsq_nx, Wsq_rt, Wsq_bk, Wsq_ct, Wsq_xc, Wrt_nx, Wrt_rt, Wrt_xc, Wlp_nx, Wlp_ct, Wlp_bk, Wlp_rt, Wlp_xc, Wif_t, Wif_f, Wv_s, Wo_s, Wb_s, Wi_s, Wp2_s, Wp3_s, startE_at, wipeE, List.map_cons, List.map_nil, List.length_cons, List.length_nil, Nat.reduceAdd, Nat.reduceSub, List.reduceReplicate, List.cons_append, List.nil_append, List.set_cons_succ, List.set_cons_zero, List.getElem?_cons_succ, List.getElem?_cons_zero, decide_true, decide_false, Nat.reduceLeDiff, Nat.reduceEqDiff, Int.reduceEq, Int.reduceLT, Int.reduceLE, eq_self, Bool.not_true, Bool.not_false, Bool.or_true, Bool.true_or, Bool.or_false, Bool.false_or, Bool.and_true, Bool.true_and, Bool.and_false, Bool.false_and, addO_int, subO_int, negO_int, eqO_int, neO_int, eqO_str, neO_str, eqO_is, neO_is, eqO_si, ltO_int, leO_int, gtO_int, geO_int, ixO_tup, ixO_vl, FR.getI_0, FR.getI_1, FR.getI_2, FR.getI_3, FR.getI_4, FR.enc0, FR.enc1, FR.encM0, FR.encM1, FR.encM2, FR.encB0, FR.encB1, lenO_tup, lenO_vl, intO_int, tupleO_vl, tupleO_tup, asItm_tup, asItm_vl, finV_at, finR_at, rc_ref, rc_vl, ty_tt, ty_tv, ty_ti, ty_tb, ty_ts, ty_tn, ty_td, ty_tr, ty_it, ty_iv, ty_ii, ty_ib, ty_is, ty_in, ty_id, ty_bt, ty_bv, ty_bi, ty_bb, ty_bs, ty_bn, ty_bd, ty_lt, ty_lv, ty_li, ty_lb, ty_ls, ty_ln, ty_st, ty_sv, ty_si, ty_sb, ty_ss, ty_sn])
local macro_rules | `(tactic| news_at) => `(tactic| simp only [wp_ok, wp_ex, wp_bind, wp_mC, wp_mV, wp_m1, wp_m2, wp_maN, wp_maC, wp_mL, wp_mT, wp_mTr, wp_and, wp_or, wp_not, wp_andV, wp_orV, wp_notV, wp_mIf, wp_chain, wp_sl, wp_moN, wp_moS, wp_isi, wp_isi2, wp_meth, wp_tup, wp_lst, wp_ref, wp_seq, wp_ret, wp_retN, wp_nx, wp_bk, wp_ct, wp_do, wp_set, wp_asg, wp_par, wp_par3, wp_aug, wp_ifS, wp_raise, wp_for, wp_gN, wp_gsN, wp_gsC, wp_gT, wp_gSub, wp_seqI, wp_argI, wp_lc, wp_defM, Wsq_nx, Wsq_rt, Wsq_bk, Wsq_ct, Wsq_xc, Wrt_nx, Wrt_rt, Wrt_xc, Wlp_nx, Wlp_ct, Wlp_bk, Wlp_rt, Wlp_xc, Wif_t, Wif_f, Wv_s, Wo_s, Wb_s, Wi_s, Wp2_s, Wp3_s, startE_at, wipeE, List.map_cons, List.map_nil, List.length_cons, List.length_nil, Nat.reduceAdd, Nat.reduceSub, List.reduceReplicate, List.cons_append, List.nil_append, List.set_cons_succ, List.set_cons_zero, List.getElem?_cons_succ, List.getElem?_cons_zero, decide_true, decide_false, Nat.reduceLeDiff, Nat.reduceEqDiff, Int.reduceEq, Int.reduceLT, Int.reduceLE, eq_self, Bool.not_true, Bool.not_false, Bool.or_true, Bool.true_or, Bool.or_false, Bool.false_or, Bool.and_true, Bool.true_and, Bool.and_false, Bool.false_and, addO_int, subO_int, negO_int, eqO_int, neO_int, eqO_str, neO_str, eqO_is, neO_is, eqO_si, ltO_int, leO_int, gtO_int, geO_int, ixO_tup, ixO_vl, FR.getI_0, FR.getI_1, FR.getI_2, FR.getI_3, FR.getI_4, FR.enc0, FR.enc1, FR.encM0, FR.encM1, FR.encM2, FR.encB0, FR.encB1, lenO_tup, lenO_vl, intO_int, tupleO_vl, tupleO_tup, asItm_tup, asItm_vl, finV_at, finR_at, rc_ref, rc_vl, ty_tt, ty_tv, ty_ti, ty_tb, ty_ts, ty_tn, ty_td, ty_tr, ty_it, ty_iv, ty_ii, ty_ib, ty_is, ty_in, ty_id, ty_bt, ty_bv, ty_bi, ty_bb, ty_bs, ty_bn, ty_bd, ty_lt, ty_lv, ty_li, ty_lb, ty_ls, ty_ln, ty_st, ty_sv, ty_si, ty_sb, ty_ss, ty_sn, *])
theorem word_NoBook {fs : List (Str × D)} (S0 S J : DS) (o : DS → Ou D) (hl : S.length = S0.length) (hc : Cl S) (ho : o S0 = .ex ⟨"NoBook", fs⟩ (S ++ J)) : mWordA 4 1 (fun y => some (ancL y "GoodsError")) ms__law_word mr__law_word o S0 = .ok (.str "book") S := by
  have key : ∀ (a : ExA) (S : DS), ms__law_word a "NoBook" [none, some (.exo a "NoBook"), none, none] S = .ok (.rt (.str "book"), [none, some (.exo a "NoBook"), some (.vl [.bl true, .bl false, .bl false, .bl false, .bl false]), some (.vl [.str "book", .str "factor", .str "joint", .str "plan", .str "many"])]) (S ++ []) := by
    intro a S
    have a0 : ancL "NoBook" "NoBook" = true := by decide
    have a1 : ancL "NoBook" "NoFactor" = false := by decide
    have a2 : ancL "NoBook" "NoJoint" = false := by decide
    have a3 : ancL "NoBook" "NoPlan" = false := by decide
    have a4 : ancL "NoBook" "TooMany" = false := by decide
    refine Wp.eqs ?_
    unfold ms__law_word
    simp only [a0, a1, a2, a3, a4]
    items_go
    repeat (simp only [isE_at, List.getElem?_cons_succ, List.getElem?_cons_zero]; items_go)
    refine addvv_w (by simp) ?_
    items_go
    have ct : ∀ S, countO (.vl [.bl true, .bl false, .bl false, .bl false, .bl false]) [.bl true] S = .ok (.int 1) S := fun _ => rfl
    have ix : ∀ S, indexO (.vl [.bl true, .bl false, .bl false, .bl false, .bl false]) [.bl true] S = .ok (.int 0) S := fun _ => rfl
    rw [ct]; items_go
    rw [ix]; items_go
    first
      | (refine ixT_w (n := 0) rfl rfl ?_; simp)
      | simp
  refine word_exG (J' := []) (env' := [none, none, some (.vl [.bl true, .bl false, .bl false, .bl false, .bl false]), some (.vl [.str "book", .str "factor", .str "joint", .str "plan", .str "many"])]) ho hl (by decide) (fun a => ?_) hc
  show postO 1 (ms__law_word a "NoBook" [none, some (.exo a "NoBook"), none, none] (S ++ J)) = _
  rw [key]
  rfl
theorem word_NoFactor {fs : List (Str × D)} (S0 S J : DS) (o : DS → Ou D) (hl : S.length = S0.length) (hc : Cl S) (ho : o S0 = .ex ⟨"NoFactor", fs⟩ (S ++ J)) : mWordA 4 1 (fun y => some (ancL y "GoodsError")) ms__law_word mr__law_word o S0 = .ok (.str "factor") S := by
  have key : ∀ (a : ExA) (S : DS), ms__law_word a "NoFactor" [none, some (.exo a "NoFactor"), none, none] S = .ok (.rt (.str "factor"), [none, some (.exo a "NoFactor"), some (.vl [.bl false, .bl true, .bl false, .bl false, .bl false]), some (.vl [.str "book", .str "factor", .str "joint", .str "plan", .str "many"])]) (S ++ []) := by
    intro a S
    have a0 : ancL "NoFactor" "NoBook" = false := by decide
    have a1 : ancL "NoFactor" "NoFactor" = true := by decide
    have a2 : ancL "NoFactor" "NoJoint" = false := by decide
    have a3 : ancL "NoFactor" "NoPlan" = false := by decide
    have a4 : ancL "NoFactor" "TooMany" = false := by decide
    refine Wp.eqs ?_
    unfold ms__law_word
    simp only [a0, a1, a2, a3, a4]
    items_go
    repeat (simp only [isE_at, List.getElem?_cons_succ, List.getElem?_cons_zero]; items_go)
    refine addvv_w (by simp) ?_
    items_go
    have ct : ∀ S, countO (.vl [.bl false, .bl true, .bl false, .bl false, .bl false]) [.bl true] S = .ok (.int 1) S := fun _ => rfl
    have ix : ∀ S, indexO (.vl [.bl false, .bl true, .bl false, .bl false, .bl false]) [.bl true] S = .ok (.int 1) S := fun _ => rfl
    rw [ct]; items_go
    rw [ix]; items_go
    first
      | (refine ixT_w (n := 1) rfl rfl ?_; simp)
      | simp
  refine word_exG (J' := []) (env' := [none, none, some (.vl [.bl false, .bl true, .bl false, .bl false, .bl false]), some (.vl [.str "book", .str "factor", .str "joint", .str "plan", .str "many"])]) ho hl (by decide) (fun a => ?_) hc
  show postO 1 (ms__law_word a "NoFactor" [none, some (.exo a "NoFactor"), none, none] (S ++ J)) = _
  rw [key]
  rfl
theorem word_NoJoint {fs : List (Str × D)} (S0 S J : DS) (o : DS → Ou D) (hl : S.length = S0.length) (hc : Cl S) (ho : o S0 = .ex ⟨"NoJoint", fs⟩ (S ++ J)) : mWordA 4 1 (fun y => some (ancL y "GoodsError")) ms__law_word mr__law_word o S0 = .ok (.str "joint") S := by
  have key : ∀ (a : ExA) (S : DS), ms__law_word a "NoJoint" [none, some (.exo a "NoJoint"), none, none] S = .ok (.rt (.str "joint"), [none, some (.exo a "NoJoint"), some (.vl [.bl false, .bl false, .bl true, .bl false, .bl false]), some (.vl [.str "book", .str "factor", .str "joint", .str "plan", .str "many"])]) (S ++ []) := by
    intro a S
    have a0 : ancL "NoJoint" "NoBook" = false := by decide
    have a1 : ancL "NoJoint" "NoFactor" = false := by decide
    have a2 : ancL "NoJoint" "NoJoint" = true := by decide
    have a3 : ancL "NoJoint" "NoPlan" = false := by decide
    have a4 : ancL "NoJoint" "TooMany" = false := by decide
    refine Wp.eqs ?_
    unfold ms__law_word
    simp only [a0, a1, a2, a3, a4]
    items_go
    repeat (simp only [isE_at, List.getElem?_cons_succ, List.getElem?_cons_zero]; items_go)
    refine addvv_w (by simp) ?_
    items_go
    have ct : ∀ S, countO (.vl [.bl false, .bl false, .bl true, .bl false, .bl false]) [.bl true] S = .ok (.int 1) S := fun _ => rfl
    have ix : ∀ S, indexO (.vl [.bl false, .bl false, .bl true, .bl false, .bl false]) [.bl true] S = .ok (.int 2) S := fun _ => rfl
    rw [ct]; items_go
    rw [ix]; items_go
    first
      | (refine ixT_w (n := 2) rfl rfl ?_; simp)
      | simp
  refine word_exG (J' := []) (env' := [none, none, some (.vl [.bl false, .bl false, .bl true, .bl false, .bl false]), some (.vl [.str "book", .str "factor", .str "joint", .str "plan", .str "many"])]) ho hl (by decide) (fun a => ?_) hc
  show postO 1 (ms__law_word a "NoJoint" [none, some (.exo a "NoJoint"), none, none] (S ++ J)) = _
  rw [key]
  rfl
theorem word_NoPlan {fs : List (Str × D)} (S0 S J : DS) (o : DS → Ou D) (hl : S.length = S0.length) (hc : Cl S) (ho : o S0 = .ex ⟨"NoPlan", fs⟩ (S ++ J)) : mWordA 4 1 (fun y => some (ancL y "GoodsError")) ms__law_word mr__law_word o S0 = .ok (.str "plan") S := by
  have key : ∀ (a : ExA) (S : DS), ms__law_word a "NoPlan" [none, some (.exo a "NoPlan"), none, none] S = .ok (.rt (.str "plan"), [none, some (.exo a "NoPlan"), some (.vl [.bl false, .bl false, .bl false, .bl true, .bl false]), some (.vl [.str "book", .str "factor", .str "joint", .str "plan", .str "many"])]) (S ++ []) := by
    intro a S
    have a0 : ancL "NoPlan" "NoBook" = false := by decide
    have a1 : ancL "NoPlan" "NoFactor" = false := by decide
    have a2 : ancL "NoPlan" "NoJoint" = false := by decide
    have a3 : ancL "NoPlan" "NoPlan" = true := by decide
    have a4 : ancL "NoPlan" "TooMany" = false := by decide
    refine Wp.eqs ?_
    unfold ms__law_word
    simp only [a0, a1, a2, a3, a4]
    items_go
    repeat (simp only [isE_at, List.getElem?_cons_succ, List.getElem?_cons_zero]; items_go)
    refine addvv_w (by simp) ?_
    items_go
    have ct : ∀ S, countO (.vl [.bl false, .bl false, .bl false, .bl true, .bl false]) [.bl true] S = .ok (.int 1) S := fun _ => rfl
    have ix : ∀ S, indexO (.vl [.bl false, .bl false, .bl false, .bl true, .bl false]) [.bl true] S = .ok (.int 3) S := fun _ => rfl
    rw [ct]; items_go
    rw [ix]; items_go
    first
      | (refine ixT_w (n := 3) rfl rfl ?_; simp)
      | simp
  refine word_exG (J' := []) (env' := [none, none, some (.vl [.bl false, .bl false, .bl false, .bl true, .bl false]), some (.vl [.str "book", .str "factor", .str "joint", .str "plan", .str "many"])]) ho hl (by decide) (fun a => ?_) hc
  show postO 1 (ms__law_word a "NoPlan" [none, some (.exo a "NoPlan"), none, none] (S ++ J)) = _
  rw [key]
  rfl
theorem word_TooMany {fs : List (Str × D)} (S0 S J : DS) (o : DS → Ou D) (hl : S.length = S0.length) (hc : Cl S) (ho : o S0 = .ex ⟨"TooMany", fs⟩ (S ++ J)) : mWordA 4 1 (fun y => some (ancL y "GoodsError")) ms__law_word mr__law_word o S0 = .ok (.str "many") S := by
  have key : ∀ (a : ExA) (S : DS), ms__law_word a "TooMany" [none, some (.exo a "TooMany"), none, none] S = .ok (.rt (.str "many"), [none, some (.exo a "TooMany"), some (.vl [.bl false, .bl false, .bl false, .bl false, .bl true]), some (.vl [.str "book", .str "factor", .str "joint", .str "plan", .str "many"])]) (S ++ []) := by
    intro a S
    have a0 : ancL "TooMany" "NoBook" = false := by decide
    have a1 : ancL "TooMany" "NoFactor" = false := by decide
    have a2 : ancL "TooMany" "NoJoint" = false := by decide
    have a3 : ancL "TooMany" "NoPlan" = false := by decide
    have a4 : ancL "TooMany" "TooMany" = true := by decide
    refine Wp.eqs ?_
    unfold ms__law_word
    simp only [a0, a1, a2, a3, a4]
    items_go
    repeat (simp only [isE_at, List.getElem?_cons_succ, List.getElem?_cons_zero]; items_go)
    refine addvv_w (by simp) ?_
    items_go
    have ct : ∀ S, countO (.vl [.bl false, .bl false, .bl false, .bl false, .bl true]) [.bl true] S = .ok (.int 1) S := fun _ => rfl
    have ix : ∀ S, indexO (.vl [.bl false, .bl false, .bl false, .bl false, .bl true]) [.bl true] S = .ok (.int 4) S := fun _ => rfl
    rw [ct]; items_go
    rw [ix]; items_go
    first
      | (refine ixT_w (n := 4) rfl rfl ?_; simp)
      | simp
  refine word_exG (J' := []) (env' := [none, none, some (.vl [.bl false, .bl false, .bl false, .bl false, .bl true]), some (.vl [.str "book", .str "factor", .str "joint", .str "plan", .str "many"])]) ho hl (by decide) (fun a => ?_) hc
  show postO 1 (ms__law_word a "TooMany" [none, some (.exo a "TooMany"), none, none] (S ++ J)) = _
  rw [key]
  rfl
end K47

namespace K47
open PySem PySem.Spec PyProof.Rows L2 DL FR HN FB FJ FW DX
local macro_rules | `(tactic| items_go) => `(tactic| simp only [wp_ok, wp_ex, wp_bind, wp_mC, wp_mV, wp_m1, wp_m2, wp_maN, wp_maC, wp_mL, wp_mT, wp_mTr, wp_and, wp_or, wp_not, wp_andV, wp_orV, wp_notV, wp_mIf, wp_chain, wp_sl, wp_moN, wp_moS, wp_isi, wp_isi2, wp_meth, wp_tup, wp_lst, wp_ref, wp_seq, wp_ret, wp_retN, wp_nx, wp_bk, wp_ct, wp_do, wp_set, wp_asg, wp_par, wp_par3, wp_aug, wp_ifS, wp_raise, wp_for, wp_gN, wp_gsN, wp_gsC, wp_gT, wp_gSub, wp_seqI, wp_argI, wp_lc, wp_defM, Wsq_nx, Wsq_rt, Wsq_bk, Wsq_ct, Wsq_xc, Wrt_nx, Wrt_rt, Wrt_xc, Wlp_nx, Wlp_ct, Wlp_bk, Wlp_rt, Wlp_xc, Wif_t, Wif_f, Wv_s, Wo_s, Wb_s, Wi_s, Wp2_s, Wp3_s, startE_at, wipeE, List.map_cons, List.map_nil, List.length_cons, List.length_nil, Nat.reduceAdd, Nat.reduceSub, List.reduceReplicate, List.cons_append, List.nil_append, List.set_cons_succ, List.set_cons_zero, List.getElem?_cons_succ, List.getElem?_cons_zero, decide_true, decide_false, Nat.reduceLeDiff, Nat.reduceEqDiff, Int.reduceEq, Int.reduceLT, Int.reduceLE, eq_self, Bool.not_true, Bool.not_false, Bool.or_true, Bool.true_or, Bool.or_false, Bool.false_or, Bool.and_true, Bool.true_and, Bool.and_false, Bool.false_and, addO_int, subO_int, negO_int, eqO_int, neO_int, eqO_str, neO_str, eqO_is, neO_is, eqO_si, ltO_int, leO_int, gtO_int, geO_int, ixO_tup, ixO_vl, FR.getI_0, FR.getI_1, FR.getI_2, FR.getI_3, FR.getI_4, FR.enc0, FR.enc1, FR.encM0, FR.encM1, FR.encM2, FR.encB0, FR.encB1, lenO_tup, lenO_vl, intO_int, tupleO_vl, tupleO_tup, asItm_tup, asItm_vl, finV_at, finR_at, rc_ref, rc_vl, ty_tt, ty_tv, ty_ti, ty_tb, ty_ts, ty_tn, ty_td, ty_tr, ty_it, ty_iv, ty_ii, ty_ib, ty_is, ty_in, ty_id, ty_bt, ty_bv, ty_bi, ty_bb, ty_bs, ty_bn, ty_bd, ty_lt, ty_lv, ty_li, ty_lb, ty_ls, ty_ln, ty_st, ty_sv, ty_si, ty_sb, ty_ss, ty_sn])
local macro_rules | `(tactic| news_at) => `(tactic| simp only [wp_ok, wp_ex, wp_bind, wp_mC, wp_mV, wp_m1, wp_m2, wp_maN, wp_maC, wp_mL, wp_mT, wp_mTr, wp_and, wp_or, wp_not, wp_andV, wp_orV, wp_notV, wp_mIf, wp_chain, wp_sl, wp_moN, wp_moS, wp_isi, wp_isi2, wp_meth, wp_tup, wp_lst, wp_ref, wp_seq, wp_ret, wp_retN, wp_nx, wp_bk, wp_ct, wp_do, wp_set, wp_asg, wp_par, wp_par3, wp_aug, wp_ifS, wp_raise, wp_for, wp_gN, wp_gsN, wp_gsC, wp_gT, wp_gSub, wp_seqI, wp_argI, wp_lc, wp_defM, Wsq_nx, Wsq_rt, Wsq_bk, Wsq_ct, Wsq_xc, Wrt_nx, Wrt_rt, Wrt_xc, Wlp_nx, Wlp_ct, Wlp_bk, Wlp_rt, Wlp_xc, Wif_t, Wif_f, Wv_s, Wo_s, Wb_s, Wi_s, Wp2_s, Wp3_s, startE_at, wipeE, List.map_cons, List.map_nil, List.length_cons, List.length_nil, Nat.reduceAdd, Nat.reduceSub, List.reduceReplicate, List.cons_append, List.nil_append, List.set_cons_succ, List.set_cons_zero, List.getElem?_cons_succ, List.getElem?_cons_zero, decide_true, decide_false, Nat.reduceLeDiff, Nat.reduceEqDiff, Int.reduceEq, Int.reduceLT, Int.reduceLE, eq_self, Bool.not_true, Bool.not_false, Bool.or_true, Bool.true_or, Bool.or_false, Bool.false_or, Bool.and_true, Bool.true_and, Bool.and_false, Bool.false_and, addO_int, subO_int, negO_int, eqO_int, neO_int, eqO_str, neO_str, eqO_is, neO_is, eqO_si, ltO_int, leO_int, gtO_int, geO_int, ixO_tup, ixO_vl, FR.getI_0, FR.getI_1, FR.getI_2, FR.getI_3, FR.getI_4, FR.enc0, FR.enc1, FR.encM0, FR.encM1, FR.encM2, FR.encB0, FR.encB1, lenO_tup, lenO_vl, intO_int, tupleO_vl, tupleO_tup, asItm_tup, asItm_vl, finV_at, finR_at, rc_ref, rc_vl, ty_tt, ty_tv, ty_ti, ty_tb, ty_ts, ty_tn, ty_td, ty_tr, ty_it, ty_iv, ty_ii, ty_ib, ty_is, ty_in, ty_id, ty_bt, ty_bv, ty_bi, ty_bb, ty_bs, ty_bn, ty_bd, ty_lt, ty_lv, ty_li, ty_lb, ty_ls, ty_ln, ty_st, ty_sv, ty_si, ty_sb, ty_ss, ty_sn, *])
def cD : DC := ⟨1, 48271, 31, 2147483647, 6151, 40692, 2147483399, 1223, 52027, 2147483629, 2671, 69621, 2147483647, 32⟩
theorem cOk : cD.Ok := by constructor <;> exact ⟨by decide, by decide⟩
theorem draw_w : DrawW m_law_draw := drawB_w cOk
theorem some_w : SomeW m_law_some := someOf_w draw_w
theorem lowW : LowW m_law_low := @fun t b S h0 h Q X k => low_w S h0 h k
theorem e_plus : m_law_plus = plusOf m_law_low := rfl
theorem e_times : m_law_times = timesOf m_law_low := rfl
theorem e_sum : m_law_sum = sumF (plusOf m_law_low) := rfl
theorem e_amount : m_law_amount = amountF m_law_some := rfl
theorem e_method : m_law_method = methodF m_law_draw m_law_some := rfl
theorem e_is : m_law_is = isN 6 := rfl
theorem p_sized : m_is_sized = FR.is_sized := rfl
theorem p_within : m_is_within = FR.is_within := rfl
theorem p_amounts : m_are_amounts = FR.are_amounts := rfl
theorem p_amount : m_is_amount = FR.is_amount := rfl
theorem p_times : m_times = FR.times := rfl
theorem p_plus : m_plus = FR.plus := rfl
theorem p_minus : m_minus = FR.minus := rfl
theorem p_book : m_is_book = FR.is_book := rfl
theorem p_netof : m_net_of = FR.net_of := rfl
/-! joint books -/
structure JM where
  k : List Rat
  u : List Rat
  w : Rat
def encJM (m : JM) : D := .tup [encR m.k, encR m.u, enc m.w]
def encJ (n : Nat) (js : List JM) : D := .tup [.int (n : Int), .tup (js.map encJM)]
structure Jm (n : Nat) (m : JM) : Prop where
  k : Am 61 n m.k
  u : Am 61 n m.u
  w : 0 ≤ m.w
structure Jk (n : Nat) (js : List JM) : Prop where
  n0 : 1 ≤ n
  n1 : n ≤ 6
  l0 : 1 ≤ js.length
  l1 : js.length ≤ 16
  m : ∀ m ∈ js, Jm n m
def jmB (g : Int) : D → Bool
  | .tup [a, b, c] => amsB g a && (amsB g b && amB c)
  | _ => false
def jB : D → Bool
  | .tup [.int g, .tup ms] => (decide (1 ≤ g) && decide (g ≤ 6)) && ((decide (1 ≤ ms.length) && decide (ms.length ≤ 16)) && ms.all (jmB g))
  | _ => false
theorem jmB_t (g : Int) (a b c : D) : jmB g (.tup [a, b, c]) = (amsB g a && (amsB g b && amB c)) := rfl
theorem jB_t (g : Int) (ms : List D) : jB (.tup [.int g, .tup ms]) = ((decide (1 ≤ g) && decide (g ≤ 6)) && ((decide (1 ≤ ms.length) && decide (ms.length ≤ 16)) && ms.all (jmB g))) := rfl
section
variable {S : DS} {Q : D → DS → Prop} {X : Exn → DS → Prop} {d : D}
theorem jmethod_jw {g : Int} (hg : g ≤ 9000) (hp : pl d = true) (k : Q (.bl (jmB g d)) S) : Wp (m_is_joint_method [.int g, d] S) Q X := by
  unfold m_is_joint_method
  rw [p_sized, p_amounts, p_amount]
  items_go
  refine sized_w hp ?_
  cases d with
  | tup xs =>
    by_cases hl : xs.length = 3
    · obtain ⟨a, b, c, rfl⟩ := three_of hl
      simp only [pl, pls, Bool.and_eq_true] at hp
      unfold szB
      items_go
      refine amounts_jw hg hp.1 ?_
      rw [jmB_t] at k
      cases hw : amsB g a with
      | false =>
        items_go
        rw [hw] at k
        exact k
      | true =>
        items_go
        rw [hw, Bool.true_and] at k
        refine amounts_jw hg hp.2.1 ?_
        cases ha : amsB g b with
        | false =>
          items_go
          rw [ha] at k
          exact k
        | true =>
          items_go
          rw [ha, Bool.true_and] at k
          exact amount_jw hp.2.2.1 k
    · have e : szB 3 3 (.tup xs) = false := szB_n hl
      have e2 : jmB g (.tup xs) = false := by
        unfold jmB
        split
        · rename_i h
          cases h
          exact absurd rfl hl
        · rfl
      rw [e2] at k
      rw [e]
      items_go
      exact k
  | _ => exact k
theorem joint_jw (hp : pl d = true) (k : Q (.bl (jB d)) S) : Wp (m_is_joint [d] S) Q X := by
  unfold m_is_joint
  rw [p_sized, p_within]
  items_go
  refine sized_w hp ?_
  cases d with
  | tup xs =>
    by_cases hl : xs.length = 2
    · obtain ⟨a, b, rfl⟩ := two_of hl
      simp only [pl, pls, Bool.and_eq_true] at hp
      unfold szB
      items_go
      refine within_w hp.1 ?_
      cases a with
      | int g =>
        unfold wiB
        by_cases hg : (decide (1 ≤ g) && decide (g ≤ 6)) = true
        · simp only [hg]
          items_go
          refine sized_w hp.2.1 ?_
          cases b with
          | tup ms =>
            rw [szB_t]
            rw [jB_t] at k
            have el : (decide ((1 : Int) ≤ (ms.length : Int)) && decide ((ms.length : Int) ≤ 16)) = (decide (1 ≤ ms.length) && decide (ms.length ≤ 16)) := by
              congr 1 <;> exact decide_eq_decide.mpr (by omega)
            rw [el]
            by_cases hm : (decide (1 ≤ ms.length) && decide (ms.length ≤ 16)) = true
            · simp only [hm]
              items_go
              simp only [hg, hm, Bool.true_and] at k
              simp only [Bool.and_eq_true, decide_eq_true_eq] at hm hg
              refine wlc_map (fun x => D.bl (jmB g x)) (fun x => x) (List.map_id' ms).symm (by omega) (fun x hx => ?_) ?_
              · unfold Wce
                items_go
                exact jmethod_jw (by omega) (pls_mem hp.2.1 x hx) ⟨rfl, rfl⟩
              · items_go
                exact all_w (jmB g) ms k
            · simp only [Bool.not_eq_true] at hm
              simp only [hm]
              items_go
              simp only [hg, hm, Bool.true_and, Bool.false_and] at k
              exact k
          | _ => exact k
        · simp only [Bool.not_eq_true] at hg
          simp only [hg]
          items_go
          have e : jB (.tup [.int g, b]) = false := by
            unfold jB
            split
            · rename_i h
              cases h
              rw [hg]; rfl
            · rfl
          rw [e] at k
          exact k
      | _ => exact k
    · have e : szB 2 2 (.tup xs) = false := szB_n hl
      have e2 : jB (.tup xs) = false := by
        unfold jB
        split
        · rename_i h
          cases h
          exact absurd rfl hl
        · rfl
      rw [e2] at k
      rw [e]
      items_go
      exact k
  | _ => exact k
end
section
variable {S : DS} {Q : D → DS → Prop} {X : Exn → DS → Prop} {d : D}
theorem cbook_w (hp : pl d = true) (k : bkB d = true → Q .non S) (e : bkB d = false → X ⟨"NoBook", []⟩ S) : Wp (m_check_book [d] S) Q X := by
  unfold m_check_book
  rw [p_book]
  items_go
  refine book_jw hp ?_
  cases h : bkB d with
  | true =>
    items_go
    exact k h
  | false =>
    items_go
    exact e h
theorem net_w {kp n : Nat} {ms : List FR.Meth} {r : List Rat} (B : Bk 61 n ms) (A : Am kp ms.length r) (hk0 : 0 < kp) (hk : kp ≤ 150) {f : Rat} (hf : Bd 61 f) (f0 : 0 ≤ f) (hc : Cl S) (k : Q (encR (vec n (netQ f (ms.zip r)))) S) : Wp (m_net [encB n ms, encR r, enc f] S) Q X := by
  have l1 := B.l1
  unfold m_net
  items_go
  unfold m_check_plan
  items_go
  refine cbook_w (pl_encB n ms) (fun _ => ?_) (fun h => ?_)
  · items_go
    unfold m_is_plan_of
    rw [p_amounts]
    items_go
    rw [List.length_map]
    refine amounts_jw (by omega) (pl_encR r) ?_
    rw [ams_enc A]
    items_go
    unfold m_check_factor
    rw [p_amount]
    items_go
    refine amount_jw (pl_enc f) ?_
    rw [am_enc f0]
    items_go
    rw [p_netof]
    exact wp_eq (net_of_ok B A hk hk0 S hf hc) k
  · rw [bk_enc B] at h
    cases h
end
theorem pl_encJM (m : JM) : pl (encJM m) = true := pl_3 (pl_encR _) (pl_encR _) (pl_enc _)
theorem pl_encJ (n : Nat) (js : List JM) : pl (encJ n js) = true := pl_t fun x hx => by
  simp only [List.mem_cons, List.not_mem_nil, or_false] at hx
  rcases hx with rfl | rfl
  · rfl
  · exact pl_t fun y hy => by
      obtain ⟨m, _, rfl⟩ := List.mem_map.mp hy
      exact pl_encJM m
theorem Jm.j {n : Nat} {m : JM} (h : Jm n m) : jmB n (encJM m) = true := by
  unfold encJM
  rw [jmB_t, ams_enc h.k, ams_enc h.u, am_enc h.w]
  rfl
theorem Jk.j {n : Nat} {js : List JM} (h : Jk n js) : jB (encJ n js) = true := by
  have n0 := h.n0
  have n1 := h.n1
  have l0 := h.l0
  have l1 := h.l1
  unfold encJ
  rw [jB_t, List.length_map, decide_eq_true (show (1 : Int) ≤ (n : Int) by omega), decide_eq_true (show (n : Int) ≤ 6 by omega), decide_eq_true l0, decide_eq_true l1, List.all_map]
  have : js.all (jmB n ∘ encJM) = true := List.all_eq_true.mpr fun m hm => (h.m m hm).j
  rw [this]
  rfl
theorem under_encJM (j : Nat) (m : JM) : DL.under j (encJM m) = true := by simp [encJM, DL.under, unders, under_encR, under_enc]
theorem under_encJ (j n : Nat) (js : List JM) : DL.under j (encJ n js) = true := by
  have u1 := unders_map j encJM js fun m _ => under_encJM j m
  simp only [encJ, DL.under, unders, u1, Bool.true_and, Bool.and_true]
end K47

namespace K47
open PySem PySem.Spec PyProof.Rows L2 DL FR HN FB FJ FW DX
local macro_rules | `(tactic| items_go) => `(tactic| simp only [wp_ok, wp_ex, wp_bind, wp_mC, wp_mV, wp_m1, wp_m2, wp_maN, wp_maC, wp_mL, wp_mT, wp_mTr, wp_and, wp_or, wp_not, wp_andV, wp_orV, wp_notV, wp_mIf, wp_chain, wp_sl, wp_moN, wp_moS, wp_isi, wp_isi2, wp_meth, wp_tup, wp_lst, wp_ref, wp_seq, wp_ret, wp_retN, wp_nx, wp_bk, wp_ct, wp_do, wp_set, wp_asg, wp_par, wp_par3, wp_aug, wp_ifS, wp_raise, wp_for, wp_gN, wp_gsN, wp_gsC, wp_gT, wp_gSub, wp_seqI, wp_argI, wp_lc, wp_defM, Wsq_nx, Wsq_rt, Wsq_bk, Wsq_ct, Wsq_xc, Wrt_nx, Wrt_rt, Wrt_xc, Wlp_nx, Wlp_ct, Wlp_bk, Wlp_rt, Wlp_xc, Wif_t, Wif_f, Wv_s, Wo_s, Wb_s, Wi_s, Wp2_s, Wp3_s, startE_at, wipeE, List.map_cons, List.map_nil, List.length_cons, List.length_nil, Nat.reduceAdd, Nat.reduceSub, List.reduceReplicate, List.cons_append, List.nil_append, List.set_cons_succ, List.set_cons_zero, List.getElem?_cons_succ, List.getElem?_cons_zero, decide_true, decide_false, Nat.reduceLeDiff, Nat.reduceEqDiff, Int.reduceEq, Int.reduceLT, Int.reduceLE, eq_self, Bool.not_true, Bool.not_false, Bool.or_true, Bool.true_or, Bool.or_false, Bool.false_or, Bool.and_true, Bool.true_and, Bool.and_false, Bool.false_and, addO_int, subO_int, negO_int, eqO_int, neO_int, eqO_str, neO_str, eqO_is, neO_is, eqO_si, ltO_int, leO_int, gtO_int, geO_int, ixO_tup, ixO_vl, FR.getI_0, FR.getI_1, FR.getI_2, FR.getI_3, FR.getI_4, FR.enc0, FR.enc1, FR.encM0, FR.encM1, FR.encM2, FR.encB0, FR.encB1, lenO_tup, lenO_vl, intO_int, tupleO_vl, tupleO_tup, asItm_tup, asItm_vl, finV_at, finR_at, rc_ref, rc_vl, ty_tt, ty_tv, ty_ti, ty_tb, ty_ts, ty_tn, ty_td, ty_tr, ty_it, ty_iv, ty_ii, ty_ib, ty_is, ty_in, ty_id, ty_bt, ty_bv, ty_bi, ty_bb, ty_bs, ty_bn, ty_bd, ty_lt, ty_lv, ty_li, ty_lb, ty_ls, ty_ln, ty_st, ty_sv, ty_si, ty_sb, ty_ss, ty_sn])
local macro_rules | `(tactic| news_at) => `(tactic| simp only [wp_ok, wp_ex, wp_bind, wp_mC, wp_mV, wp_m1, wp_m2, wp_maN, wp_maC, wp_mL, wp_mT, wp_mTr, wp_and, wp_or, wp_not, wp_andV, wp_orV, wp_notV, wp_mIf, wp_chain, wp_sl, wp_moN, wp_moS, wp_isi, wp_isi2, wp_meth, wp_tup, wp_lst, wp_ref, wp_seq, wp_ret, wp_retN, wp_nx, wp_bk, wp_ct, wp_do, wp_set, wp_asg, wp_par, wp_par3, wp_aug, wp_ifS, wp_raise, wp_for, wp_gN, wp_gsN, wp_gsC, wp_gT, wp_gSub, wp_seqI, wp_argI, wp_lc, wp_defM, Wsq_nx, Wsq_rt, Wsq_bk, Wsq_ct, Wsq_xc, Wrt_nx, Wrt_rt, Wrt_xc, Wlp_nx, Wlp_ct, Wlp_bk, Wlp_rt, Wlp_xc, Wif_t, Wif_f, Wv_s, Wo_s, Wb_s, Wi_s, Wp2_s, Wp3_s, startE_at, wipeE, List.map_cons, List.map_nil, List.length_cons, List.length_nil, Nat.reduceAdd, Nat.reduceSub, List.reduceReplicate, List.cons_append, List.nil_append, List.set_cons_succ, List.set_cons_zero, List.getElem?_cons_succ, List.getElem?_cons_zero, decide_true, decide_false, Nat.reduceLeDiff, Nat.reduceEqDiff, Int.reduceEq, Int.reduceLT, Int.reduceLE, eq_self, Bool.not_true, Bool.not_false, Bool.or_true, Bool.true_or, Bool.or_false, Bool.false_or, Bool.and_true, Bool.true_and, Bool.and_false, Bool.false_and, addO_int, subO_int, negO_int, eqO_int, neO_int, eqO_str, neO_str, eqO_is, neO_is, eqO_si, ltO_int, leO_int, gtO_int, geO_int, ixO_tup, ixO_vl, FR.getI_0, FR.getI_1, FR.getI_2, FR.getI_3, FR.getI_4, FR.enc0, FR.enc1, FR.encM0, FR.encM1, FR.encM2, FR.encB0, FR.encB1, lenO_tup, lenO_vl, intO_int, tupleO_vl, tupleO_tup, asItm_tup, asItm_vl, finV_at, finR_at, rc_ref, rc_vl, ty_tt, ty_tv, ty_ti, ty_tb, ty_ts, ty_tn, ty_td, ty_tr, ty_it, ty_iv, ty_ii, ty_ib, ty_is, ty_in, ty_id, ty_bt, ty_bv, ty_bi, ty_bb, ty_bs, ty_bn, ty_bd, ty_lt, ty_lv, ty_li, ty_lb, ty_ls, ty_ln, ty_st, ty_sv, ty_si, ty_sb, ty_ss, ty_sn, *])
section
variable {S : DS} {Q : D → DS → Prop} {X : Exn → DS → Prop}
theorem neg_enc (q : Rat) : D.tup [.int (0 - q.num), .int (q.den : Nat)] = enc (-q) := by
  show D.tup [.int (0 - q.num), .int (q.den : Int)] = .tup [.int (-q).num, .int ((-q).den : Int)]
  rw [Rat.neg_num, Rat.neg_den, Int.zero_sub]
theorem lminus_w {p q : Rat} (h : Two p q) (k : Q (enc (p - q)) S) : Wp (m_law_minus [enc p, enc q] S) Q X := by
  unfold m_law_minus
  rw [e_plus]
  items_go
  rw [neg_enc]
  refine plus_w lowW h.neg ?_
  rw [← Rat.sub_eq_add_neg]
  exact k
theorem minus_w {p q : Rat} (h : Two p q) (k : Q (enc (p - q)) S) : Wp (FR.minus [enc p, enc q] S) Q X := wp_eq (minus_ok S h) k
theorem times_pw {p q : Rat} (h : Two p q) (k : Q (enc (p * q)) S) : Wp (FR.times [enc p, enc q] S) Q X := wp_eq (times_ok S h) k
theorem plus_pw {p q : Rat} (h : Two p q) (k : Q (enc (p + q)) S) : Wp (FR.plus [enc p, enc q] S) Q X := wp_eq (plus_ok S h) k
end
theorem dot_pw {S : DS} {Q : D → DS → Prop} {X : Exn → DS → Prop} {as bs : List Rat} {k : Nat} (ha : ∀ q ∈ as, Bd k q) (hb : ∀ q ∈ bs, Bd 61 q) (hk : k ≤ 400) (hl : as.length ≤ 20) (g : Q (enc (dotQ as bs)) S) : Wp (m_dot [.vl (as.map enc), encR bs] S) Q X := by
  unfold m_dot
  rw [p_plus, p_times]
  items_go
  have zz : ∀ S, zipO [.vl (as.map enc), encR bs] S = .ok ⟨(as.zip bs).map fun y => .tup [enc y.1, enc y.2], none⟩ S := fun S => MB.zip_vt enc enc _ _ S
  rw [zz]
  items_go
  have e0 : D.tup [.int 0, .int 1] = enc (sumQ (((as.zip bs).take 0).map fun x => x.1 * x.2)) := rfl
  rw [e0]
  refine wforA (fun y : Rat × Rat => D.tup [enc y.1, enc y.2]) (fun i env S1 => ∃ x3 x4, env = [some (.vl (as.map enc)), some (encR bs), some (enc (sumQ (((as.zip bs).take i).map fun x => x.1 * x.2))), x3, x4] ∧ S1 = S ∧ Bd (1 + (k + 62) * i) (sumQ (((as.zip bs).take i).map fun x => x.1 * x.2))) rfl ⟨_, _, rfl, rfl, bd0 (by omega)⟩ ?_ ?_
  · rintro i x hx env S1 ⟨x3, x4, rfl, rfl, hbd⟩
    have hm := List.mem_of_getElem? hx
    have hi : i < (as.zip bs).length := (List.getElem?_eq_some_iff.mp hx).1
    have hi2 : i < 20 := by rw [List.length_zip] at hi; omega
    have tk : (as.zip bs).take (i + 1) = (as.zip bs).take i ++ [x] := by
      rw [List.take_add_one, hx]
      rfl
    have step : sumQ (((as.zip bs).take (i + 1)).map fun x => x.1 * x.2) = sumQ (((as.zip bs).take i).map fun x => x.1 * x.2) + x.1 * x.2 := by
      rw [tk, List.map_append, sumQ_append]
      simp [sumQ, Rat.add_zero]
    have b1 := ha _ (List.of_mem_zip hm).1
    have b2 := hb _ (List.of_mem_zip hm).2
    have kk : (k + 62) * i ≤ 462 * 20 := Nat.mul_le_mul (by omega) (by omega)
    items_go
    refine times_pw (two_l b1 b2 (by omega) (by decide)) ?_
    items_go
    refine plus_pw (two_r hbd (b1.mul b2) (by omega) (by omega)) ?_
    items_go
    rw [← step]
    refine ⟨_, _, rfl, trivial, ?_⟩
    rw [step]
    exact (hbd.add (b1.mul b2)).mono (by rw [Nat.mul_succ]; omega)
  · rintro env S1 ⟨x3, x4, rfl, rfl, hbd⟩
    rw [List.take_length]
    items_go
    exact g
/-- what is net of good i, by the program's way and by the law's -/
def jnQ (f : Rat) (js : List JM) (r : List Rat) (i : Nat) : Rat := dotQ (js.map fun x => x.k.getD i 0 - f * x.u.getD i 0) r
def mkQ (js : List JM) (r : List Rat) (i : Nat) : Rat := sumQ ((js.zip r).map fun x => x.2 * x.1.k.getD i 0)
def usQ (js : List JM) (r : List Rat) (i : Nat) : Rat := sumQ ((js.zip r).map fun x => x.2 * x.1.u.getD i 0)
theorem jn_eq (f : Rat) (i : Nat) : ∀ (js : List JM) (r : List Rat), mkQ js r i - f * usQ js r i = jnQ f js r i
  | [], r => by simp [mkQ, usQ, jnQ, dotQ, sumQ]; grind
  | x :: js, [] => by simp [mkQ, usQ, jnQ, dotQ, sumQ]; grind
  | x :: js, a :: r => by
    have := jn_eq f i js r
    unfold mkQ usQ jnQ dotQ at this ⊢
    simp only [List.zip_cons_cons, List.map_cons, sumQ] at this ⊢
    grind
section
variable {n : Nat} {js : List JM} (J : Jk n js) {r : List Rat} (A : Am 61 js.length r) {f : Rat} (hf : Bd 61 f) {S : DS} {Q : D → DS → Prop} {X : Exn → DS → Prop}
include J A hf
theorem lnet_w (hc : Cl S) (k : Q (encR (vec n (jnQ f js r))) S) : Wp (m_law_net [encJ n js, encR r, enc f] S) Q X := by
  have l1 := J.l1
  have n1 := J.n1
  have rl := A.len
  unfold m_law_net
  rw [wp_defD, e_sum, e_times]
  unfold encJ
  items_go
  rw [rng_w (m := n) rfl (by omega)]
  items_go
  refine wforA (fun (i : Nat) => D.int (i : Int)) (fun i env S1 => ∃ x4 x5 x6, env = [some (.tup [.int (n : Int), .tup (js.map encJM)]), some (encR r), some (enc f), some (.ref S.length), x4, x5, x6, none, none] ∧
    S1 = S ++ [.lst ((vec i (jnQ f js r)).map enc)]) rfl ⟨none, none, none, rfl, by simp [vec]⟩ ?_ ?_
  · rintro i a ha env S1 ⟨x4, x5, x6, rfl, rfl⟩
    have hi : i < n := by
      have := (List.getElem?_eq_some_iff.mp ha).1
      simpa using this
    rw [List.getElem?_range hi] at ha
    cases ha
    have zr : ∀ S, zipO [.tup (js.map encJM), encR r] S = .ok ⟨(js.zip r).map fun x => .tup [encJM x.1, enc x.2], none⟩ S := fun S => MB.zip_tt encJM enc js r S
    have zl : (js.zip r).length ≤ 16 := by rw [List.length_zip]; omega
    have kb : ∀ q ∈ (js.zip r).map fun x => x.2 * x.1.k.getD i 0, Bd 122 q := fun q hq => by
      obtain ⟨x, hx, rfl⟩ := List.mem_map.mp hq
      exact (A.ok _ (List.of_mem_zip hx).2).2.mul (getD_ok (J.m _ (List.of_mem_zip hx).1).k (by decide) i).2
    have ub : ∀ q ∈ (js.zip r).map fun x => x.2 * x.1.u.getD i 0, Bd 122 q := fun q hq => by
      obtain ⟨x, hx, rfl⟩ := List.mem_map.mp hq
      exact (A.ok _ (List.of_mem_zip hx).2).2.mul (getD_ok (J.m _ (List.of_mem_zip hx).1).u (by decide) i).2
    have sk : Bd 1969 (mkQ js r i) := (Bd.sum kb).mono (by rw [List.length_map]; omega)
    have su : Bd 1969 (usQ js r i) := (Bd.sum ub).mono (by rw [List.length_map]; omega)
    items_go
    rw [zr]
    items_go
    refine wlc_map (fun x : JM × Rat => enc (x.2 * x.1.k.getD i 0)) (fun x => D.tup [encJM x.1, enc x.2]) rfl (by omega) (fun x hx => ?_) ?_
    · have M := J.m _ (List.of_mem_zip hx).1
      have er : encR x.1.k = .tup (x.1.k.map enc) := rfl
      unfold Wce encJM
      items_go
      rw [er]
      items_go
      rw [MB.row_get M.k hi]
      items_go
      exact times_w lowW (two_l (A.ok _ (List.of_mem_zip hx).2).2 (getD_ok M.k (by decide) i).2 (by decide) (by decide)) ⟨rfl, rfl⟩
    items_go
    have e1 : (js.zip r).map (fun x : JM × Rat => enc (x.2 * x.1.k.getD i 0)) = ((js.zip r).map fun x => x.2 * x.1.k.getD i 0).map enc := by rw [List.map_map]; rfl
    rw [e1]
    refine sum_w (addW lowW) (k := 122) (by decide) kb (by rw [List.length_map]; omega) ?_
    items_go
    rw [zr]
    items_go
    refine wlc_map (fun x : JM × Rat => enc (x.2 * x.1.u.getD i 0)) (fun x => D.tup [encJM x.1, enc x.2]) rfl (by omega) (fun x hx => ?_) ?_
    · have M := J.m _ (List.of_mem_zip hx).1
      have er : encR x.1.u = .tup (x.1.u.map enc) := rfl
      unfold Wce encJM
      items_go
      rw [er]
      items_go
      rw [MB.row_get M.u hi]
      items_go
      exact times_w lowW (two_l (A.ok _ (List.of_mem_zip hx).2).2 (getD_ok M.u (by decide) i).2 (by decide) (by decide)) ⟨rfl, rfl⟩
    items_go
    have e2 : (js.zip r).map (fun x : JM × Rat => enc (x.2 * x.1.u.getD i 0)) = ((js.zip r).map fun x => x.2 * x.1.u.getD i 0).map enc := by rw [List.map_map]; rfl
    rw [e2]
    refine sum_w (addW lowW) (k := 122) (by decide) ub (by rw [List.length_map]; omega) ?_
    items_go
    refine times_w lowW (two_l hf su (by decide) (by decide)) ?_
    items_go
    refine lminus_w (two_l sk (hf.mul su) (by decide) (by decide)) ?_
    items_go
    refine append_w (ys := (vec i (jnQ f js r)).map enc) (by simp) (by simp [vec_len]; omega) ?_
    items_go
    refine ⟨_, _, _, rfl, ?_⟩
    have ev : (vec (i + 1) (jnQ f js r)).map enc = (vec i (jnQ f js r)).map enc ++ [enc (jnQ f js r i)] := by
      unfold vec
      rw [List.range_succ, List.map_append, List.map_append]
      rfl
    have ej : sumQ ((js.zip r).map fun x => x.2 * x.1.k.getD i 0) - f * sumQ ((js.zip r).map fun x => x.2 * x.1.u.getD i 0) = jnQ f js r i := jn_eq f i js r
    rw [ev, ej]
    simp
  · rintro env S1 ⟨x4, x5, x6, rfl, rfl⟩
    rw [List.length_range]
    items_go
    refine tuple_ref (ys := (vec n (jnQ f js r)).map enc) (by simp) ?_
    items_go
    exact keep_w hc (fun j => under_encR j (vec n (jnQ f js r))) rfl k
/-- the program's sums -/
theorem rnet_w (k : Q (encR (vec n (jnQ f js r))) S) : Wp (m_raw_net [encJ n js, encR r, enc f] S) Q X := by
  have l1 := J.l1
  have n1 := J.n1
  have rl := A.len
  have nb : ∀ i, ∀ q ∈ js.map fun x => x.k.getD i 0 - f * x.u.getD i 0, Bd 184 q := fun i q hq => by
    obtain ⟨x, hx, rfl⟩ := List.mem_map.mp hq
    have M := J.m x hx
    rw [Rat.sub_eq_add_neg]
    exact (((getD_ok M.k (by decide) i).2).add (hf.mul (getD_ok M.u (by decide) i).2).neg).mono (by decide)
  unfold m_raw_net
  items_go
  unfold m_net_rows
  items_go
  unfold encJ
  items_go
  refine wlc_map (fun x : JM => D.vl ((vec n fun i => x.k.getD i 0 - f * x.u.getD i 0).map enc)) encJM rfl (by omega) (fun x hx => ?_) ?_
  · have M := J.m x hx
    have zz : ∀ S, zipO [encR x.k, encR x.u] S = .ok ⟨(x.k.zip x.u).map fun y => .tup [enc y.1, enc y.2], none⟩ S := fun S => zip_enc _ _ S
    unfold Wce m_net_of_method encJM
    rw [p_minus, p_times]
    items_go
    rw [zz]
    items_go
    refine wlc_map (fun y : Rat × Rat => enc (y.1 - f * y.2)) (fun y => D.tup [enc y.1, enc y.2]) rfl (by rw [List.length_zip, M.k.len, M.u.len]; omega) (fun y hy => ?_) ?_
    · have kb := M.k.bd _ (List.of_mem_zip hy).1
      have ub := M.u.bd _ (List.of_mem_zip hy).2
      unfold Wce
      items_go
      refine times_pw (two_l hf ub (by decide) (by decide)) ?_
      items_go
      exact minus_w (two_l kb (hf.mul ub) (by decide) (by decide)) ⟨rfl, rfl⟩
    items_go
    refine ⟨?_, trivial⟩
    have e : (x.k.zip x.u).map (fun y : Rat × Rat => enc (y.1 - f * y.2)) = (vec n fun i => x.k.getD i 0 - f * x.u.getD i 0).map enc := by
      have h0 := vec_zip (n := n) (f := fun i => x.k.getD i 0) M.u.len (fun a b => a - f * b)
      rw [← vec_self M.k.len] at h0
      rw [← h0, List.map_map]
      rfl
    rw [e]
  items_go
  rw [rng_w (m := n) rfl (by omega)]
  items_go
  refine wlc_map (fun i : Nat => D.vl ((js.map fun x => x.k.getD i 0 - f * x.u.getD i 0).map enc)) (fun (i : Nat) => D.int (i : Int)) rfl (by simp; omega) (fun i hi => ?_) ?_
  · have hi : i < n := by simpa using hi
    unfold Wce
    items_go
    refine wlc_map (fun x : JM => enc (x.k.getD i 0 - f * x.u.getD i 0)) (fun x => D.vl ((vec n fun i => x.k.getD i 0 - f * x.u.getD i 0).map enc)) rfl (by omega) (fun x hx => ?_) ?_
    · unfold Wce
      items_go
      rw [vec_at _ _ hi]
      items_go
      exact ⟨trivial, trivial⟩
    items_go
    refine ⟨?_, trivial⟩
    rw [List.map_map]
    rfl
  items_go
  refine wlc_map (fun i : Nat => enc (jnQ f js r i)) (fun (i : Nat) => D.vl ((js.map fun x => x.k.getD i 0 - f * x.u.getD i 0).map enc)) rfl (by simp; omega) (fun i hi => ?_) ?_
  · unfold Wce
    items_go
    exact dot_pw (nb i) A.bd (by decide) (by rw [List.length_map]; omega) ⟨rfl, rfl⟩
  items_go
  have ev : (List.range n).map (fun i => enc (jnQ f js r i)) = (vec n (jnQ f js r)).map enc := by
    unfold vec
    rw [List.map_map]
    rfl
  rw [ev]
  exact k
end
end K47

namespace K47
open PySem PySem.Spec PyProof.Rows L2 DL FR HN FB FJ FW DX
local macro_rules | `(tactic| items_go) => `(tactic| simp only [wp_ok, wp_ex, wp_bind, wp_mC, wp_mV, wp_m1, wp_m2, wp_maN, wp_maC, wp_mL, wp_mT, wp_mTr, wp_and, wp_or, wp_not, wp_andV, wp_orV, wp_notV, wp_mIf, wp_chain, wp_sl, wp_moN, wp_moS, wp_isi, wp_isi2, wp_meth, wp_tup, wp_lst, wp_ref, wp_seq, wp_ret, wp_retN, wp_nx, wp_bk, wp_ct, wp_do, wp_set, wp_asg, wp_par, wp_par3, wp_aug, wp_ifS, wp_raise, wp_for, wp_gN, wp_gsN, wp_gsC, wp_gT, wp_gSub, wp_seqI, wp_argI, wp_lc, wp_defM, Wsq_nx, Wsq_rt, Wsq_bk, Wsq_ct, Wsq_xc, Wrt_nx, Wrt_rt, Wrt_xc, Wlp_nx, Wlp_ct, Wlp_bk, Wlp_rt, Wlp_xc, Wif_t, Wif_f, Wv_s, Wo_s, Wb_s, Wi_s, Wp2_s, Wp3_s, startE_at, wipeE, List.map_cons, List.map_nil, List.length_cons, List.length_nil, Nat.reduceAdd, Nat.reduceSub, List.reduceReplicate, List.cons_append, List.nil_append, List.set_cons_succ, List.set_cons_zero, List.getElem?_cons_succ, List.getElem?_cons_zero, decide_true, decide_false, Nat.reduceLeDiff, Nat.reduceEqDiff, Int.reduceEq, Int.reduceLT, Int.reduceLE, eq_self, Bool.not_true, Bool.not_false, Bool.or_true, Bool.true_or, Bool.or_false, Bool.false_or, Bool.and_true, Bool.true_and, Bool.and_false, Bool.false_and, addO_int, subO_int, negO_int, eqO_int, neO_int, eqO_str, neO_str, eqO_is, neO_is, eqO_si, ltO_int, leO_int, gtO_int, geO_int, ixO_tup, ixO_vl, FR.getI_0, FR.getI_1, FR.getI_2, FR.getI_3, FR.getI_4, FR.enc0, FR.enc1, FR.encM0, FR.encM1, FR.encM2, FR.encB0, FR.encB1, lenO_tup, lenO_vl, intO_int, tupleO_vl, tupleO_tup, asItm_tup, asItm_vl, finV_at, finR_at, rc_ref, rc_vl, ty_tt, ty_tv, ty_ti, ty_tb, ty_ts, ty_tn, ty_td, ty_tr, ty_it, ty_iv, ty_ii, ty_ib, ty_is, ty_in, ty_id, ty_bt, ty_bv, ty_bi, ty_bb, ty_bs, ty_bn, ty_bd, ty_lt, ty_lv, ty_li, ty_lb, ty_ls, ty_ln, ty_st, ty_sv, ty_si, ty_sb, ty_ss, ty_sn])
local macro_rules | `(tactic| news_at) => `(tactic| simp only [wp_ok, wp_ex, wp_bind, wp_mC, wp_mV, wp_m1, wp_m2, wp_maN, wp_maC, wp_mL, wp_mT, wp_mTr, wp_and, wp_or, wp_not, wp_andV, wp_orV, wp_notV, wp_mIf, wp_chain, wp_sl, wp_moN, wp_moS, wp_isi, wp_isi2, wp_meth, wp_tup, wp_lst, wp_ref, wp_seq, wp_ret, wp_retN, wp_nx, wp_bk, wp_ct, wp_do, wp_set, wp_asg, wp_par, wp_par3, wp_aug, wp_ifS, wp_raise, wp_for, wp_gN, wp_gsN, wp_gsC, wp_gT, wp_gSub, wp_seqI, wp_argI, wp_lc, wp_defM, Wsq_nx, Wsq_rt, Wsq_bk, Wsq_ct, Wsq_xc, Wrt_nx, Wrt_rt, Wrt_xc, Wlp_nx, Wlp_ct, Wlp_bk, Wlp_rt, Wlp_xc, Wif_t, Wif_f, Wv_s, Wo_s, Wb_s, Wi_s, Wp2_s, Wp3_s, startE_at, wipeE, List.map_cons, List.map_nil, List.length_cons, List.length_nil, Nat.reduceAdd, Nat.reduceSub, List.reduceReplicate, List.cons_append, List.nil_append, List.set_cons_succ, List.set_cons_zero, List.getElem?_cons_succ, List.getElem?_cons_zero, decide_true, decide_false, Nat.reduceLeDiff, Nat.reduceEqDiff, Int.reduceEq, Int.reduceLT, Int.reduceLE, eq_self, Bool.not_true, Bool.not_false, Bool.or_true, Bool.true_or, Bool.or_false, Bool.false_or, Bool.and_true, Bool.true_and, Bool.and_false, Bool.false_and, addO_int, subO_int, negO_int, eqO_int, neO_int, eqO_str, neO_str, eqO_is, neO_is, eqO_si, ltO_int, leO_int, gtO_int, geO_int, ixO_tup, ixO_vl, FR.getI_0, FR.getI_1, FR.getI_2, FR.getI_3, FR.getI_4, FR.enc0, FR.enc1, FR.encM0, FR.encM1, FR.encM2, FR.encB0, FR.encB1, lenO_tup, lenO_vl, intO_int, tupleO_vl, tupleO_tup, asItm_tup, asItm_vl, finV_at, finR_at, rc_ref, rc_vl, ty_tt, ty_tv, ty_ti, ty_tb, ty_ts, ty_tn, ty_td, ty_tr, ty_it, ty_iv, ty_ii, ty_ib, ty_is, ty_in, ty_id, ty_bt, ty_bv, ty_bi, ty_bb, ty_bs, ty_bn, ty_bd, ty_lt, ty_lv, ty_li, ty_lb, ty_ls, ty_ln, ty_st, ty_sv, ty_si, ty_sb, ty_ss, ty_sn, *])
theorem e_odd : m_law_odd = oddA m_law_draw m_law_some := rfl
section
variable {h : List D} {R : DS} {Q : D → DS → Prop} {X : Exn → DS → Prop}
theorem factor_w (hh : Hand h) (k : ∀ q h', Hand h' → Dq q → Q (enc q) (.lst h' :: R)) : Wp (m_law_factor [.ref 0] (.lst h :: R)) Q X := by
  unfold m_law_factor
  items_go
  exact some_fr some_w hh (by decide) (by decide) (by decide) k
theorem joint_w (hh : Hand h) (hR : Cl R) (k : ∀ n js h', Hand h' → Jk n js → n ≤ 3 → Q (encJ n js) (.lst h' :: R)) : Wp (m_law_joint [.ref 0] (.lst h :: R)) Q X := by
  unfold m_law_joint
  rw [wp_defD]
  items_go
  refine draw_w hh (n := 3) (by decide) (by decide) rfl fun g h1 hh1 hg => ?_
  have eg : (1 : Int) + (g : Int) = ((1 + g : Nat) : Int) := by omega
  items_go
  rw [eg]
  generalize hn : 1 + g = n
  refine draw_w (R := R ++ [.lst []]) hh1 (n := 5) (by decide) (by decide) rfl fun q h2 hh2 hq => ?_
  items_go
  rw [rng_w (m := 1 + q) (by omega) (by omega)]
  items_go
  refine wforA (fun (i : Nat) => D.int (i : Int)) (fun i env S => ∃ x1 x4 x5 js h, env = [some (.ref 0), x1, some (.int (n : Int)), some (.ref (R.length + 1)), x4, x5, none] ∧ S = .lst h :: (R ++ [.lst (js.map encJM)]) ∧ Hand h ∧ js.length = i ∧ ∀ m ∈ js, Jm n m) rfl ⟨none, none, none, [], h2, rfl, rfl, hh2, rfl, fun m hm => absurd hm List.not_mem_nil⟩ ?_ ?_
  · rintro i a ha env S ⟨x1, x4, x5, js, h3, rfl, rfl, hh3, hl, hj⟩
    have hi : i < 1 + q := by
      have := (List.getElem?_eq_some_iff.mp ha).1
      simpa using this
    items_go
    rw [rng_w (m := n) rfl (by omega)]
    items_go
    refine wlc_draw enc Dq hh3 (by simp; omega) (fun d hd h hh => ?_) fun mk h4 hh4 hkl pk => ?_
    · unfold Wce
      items_go
      exact some_fr some_w hh (by decide) (by decide) (by decide) fun q h' hh' hq => ⟨q, h', rfl, rfl, hh', hq⟩
    rw [List.length_map, List.length_range] at hkl
    items_go
    rw [rng_w (m := n) rfl (by omega)]
    items_go
    refine wlc_draw enc Dq hh4 (by simp; omega) (fun d hd h hh => ?_) fun us h5 hh5 hul pu => ?_
    · unfold Wce
      items_go
      exact some_fr some_w hh (by decide) (by decide) (by decide) fun q h' hh' hq => ⟨q, h', rfl, rfl, hh', hq⟩
    rw [List.length_map, List.length_range] at hul
    items_go
    refine some_fr some_w hh5 (by decide) (by decide) (by decide) fun w h6 hh6 hw => ?_
    items_go
    refine append_w (ys := js.map encJM) (by simp) (by simp; omega) ?_
    items_go
    refine ⟨_, _, _, js ++ [⟨mk, us, w⟩], h6, rfl, ?_, hh6, by simp [hl], fun m hm => ?_⟩
    · simp [encJM, encR]
    · rcases List.mem_append.mp hm with hm | hm
      · exact hj m hm
      · rw [List.mem_singleton.mp hm]
        exact ⟨am_of hkl pk, am_of hul pu, hw.1⟩
  · rintro env S ⟨x1, x4, x5, js, h3, rfl, rfl, hh3, hl, hj⟩
    rw [List.length_range] at hl
    items_go
    refine tuple_ref (ys := js.map encJM) (by simp) ?_
    items_go
    exact keepH_w (h := h) (J := [_]) hh3 hR (fun j => under_encJ j n js) rfl (k n js h3 hh3 ⟨by omega, by omega, by omega, by omega, hj⟩ (by omega))
end
end K47

namespace K47
open PySem PySem.Spec PyProof.Rows L2 DL FR HN FB FJ FW DX
local macro_rules | `(tactic| items_go) => `(tactic| simp only [wp_ok, wp_ex, wp_bind, wp_mC, wp_mV, wp_m1, wp_m2, wp_maN, wp_maC, wp_mL, wp_mT, wp_mTr, wp_and, wp_or, wp_not, wp_andV, wp_orV, wp_notV, wp_mIf, wp_chain, wp_sl, wp_moN, wp_moS, wp_isi, wp_isi2, wp_meth, wp_tup, wp_lst, wp_ref, wp_seq, wp_ret, wp_retN, wp_nx, wp_bk, wp_ct, wp_do, wp_set, wp_asg, wp_par, wp_par3, wp_aug, wp_ifS, wp_raise, wp_for, wp_gN, wp_gsN, wp_gsC, wp_gT, wp_gSub, wp_seqI, wp_argI, wp_lc, wp_defM, Wsq_nx, Wsq_rt, Wsq_bk, Wsq_ct, Wsq_xc, Wrt_nx, Wrt_rt, Wrt_xc, Wlp_nx, Wlp_ct, Wlp_bk, Wlp_rt, Wlp_xc, Wif_t, Wif_f, Wv_s, Wo_s, Wb_s, Wi_s, Wp2_s, Wp3_s, startE_at, wipeE, List.map_cons, List.map_nil, List.length_cons, List.length_nil, Nat.reduceAdd, Nat.reduceSub, List.reduceReplicate, List.cons_append, List.nil_append, List.set_cons_succ, List.set_cons_zero, List.getElem?_cons_succ, List.getElem?_cons_zero, decide_true, decide_false, Nat.reduceLeDiff, Nat.reduceEqDiff, Int.reduceEq, Int.reduceLT, Int.reduceLE, eq_self, Bool.not_true, Bool.not_false, Bool.or_true, Bool.true_or, Bool.or_false, Bool.false_or, Bool.and_true, Bool.true_and, Bool.and_false, Bool.false_and, addO_int, subO_int, negO_int, eqO_int, neO_int, eqO_str, neO_str, eqO_is, neO_is, eqO_si, ltO_int, leO_int, gtO_int, geO_int, ixO_tup, ixO_vl, FR.getI_0, FR.getI_1, FR.getI_2, FR.getI_3, FR.getI_4, FR.enc0, FR.enc1, FR.encM0, FR.encM1, FR.encM2, FR.encB0, FR.encB1, lenO_tup, lenO_vl, intO_int, tupleO_vl, tupleO_tup, asItm_tup, asItm_vl, finV_at, finR_at, rc_ref, rc_vl, ty_tt, ty_tv, ty_ti, ty_tb, ty_ts, ty_tn, ty_td, ty_tr, ty_it, ty_iv, ty_ii, ty_ib, ty_is, ty_in, ty_id, ty_bt, ty_bv, ty_bi, ty_bb, ty_bs, ty_bn, ty_bd, ty_lt, ty_lv, ty_li, ty_lb, ty_ls, ty_ln, ty_st, ty_sv, ty_si, ty_sb, ty_ss, ty_sn])
local macro_rules | `(tactic| news_at) => `(tactic| simp only [wp_ok, wp_ex, wp_bind, wp_mC, wp_mV, wp_m1, wp_m2, wp_maN, wp_maC, wp_mL, wp_mT, wp_mTr, wp_and, wp_or, wp_not, wp_andV, wp_orV, wp_notV, wp_mIf, wp_chain, wp_sl, wp_moN, wp_moS, wp_isi, wp_isi2, wp_meth, wp_tup, wp_lst, wp_ref, wp_seq, wp_ret, wp_retN, wp_nx, wp_bk, wp_ct, wp_do, wp_set, wp_asg, wp_par, wp_par3, wp_aug, wp_ifS, wp_raise, wp_for, wp_gN, wp_gsN, wp_gsC, wp_gT, wp_gSub, wp_seqI, wp_argI, wp_lc, wp_defM, Wsq_nx, Wsq_rt, Wsq_bk, Wsq_ct, Wsq_xc, Wrt_nx, Wrt_rt, Wrt_xc, Wlp_nx, Wlp_ct, Wlp_bk, Wlp_rt, Wlp_xc, Wif_t, Wif_f, Wv_s, Wo_s, Wb_s, Wi_s, Wp2_s, Wp3_s, startE_at, wipeE, List.map_cons, List.map_nil, List.length_cons, List.length_nil, Nat.reduceAdd, Nat.reduceSub, List.reduceReplicate, List.cons_append, List.nil_append, List.set_cons_succ, List.set_cons_zero, List.getElem?_cons_succ, List.getElem?_cons_zero, decide_true, decide_false, Nat.reduceLeDiff, Nat.reduceEqDiff, Int.reduceEq, Int.reduceLT, Int.reduceLE, eq_self, Bool.not_true, Bool.not_false, Bool.or_true, Bool.true_or, Bool.or_false, Bool.false_or, Bool.and_true, Bool.true_and, Bool.and_false, Bool.false_and, addO_int, subO_int, negO_int, eqO_int, neO_int, eqO_str, neO_str, eqO_is, neO_is, eqO_si, ltO_int, leO_int, gtO_int, geO_int, ixO_tup, ixO_vl, FR.getI_0, FR.getI_1, FR.getI_2, FR.getI_3, FR.getI_4, FR.enc0, FR.enc1, FR.encM0, FR.encM1, FR.encM2, FR.encB0, FR.encB1, lenO_tup, lenO_vl, intO_int, tupleO_vl, tupleO_tup, asItm_tup, asItm_vl, finV_at, finR_at, rc_ref, rc_vl, ty_tt, ty_tv, ty_ti, ty_tb, ty_ts, ty_tn, ty_td, ty_tr, ty_it, ty_iv, ty_ii, ty_ib, ty_is, ty_in, ty_id, ty_bt, ty_bv, ty_bi, ty_bb, ty_bs, ty_bn, ty_bd, ty_lt, ty_lv, ty_li, ty_lb, ty_ls, ty_ln, ty_st, ty_sv, ty_si, ty_sb, ty_ss, ty_sn, *])
/-- a method that makes one of one good -/
def unitJ (n : Nat) (m : FR.Meth) : JM := ⟨vec n fun i => if i = m.g then 1 else 0, m.u, m.w⟩
section
variable {n : Nat} {ms : List FR.Meth} (B : Bk 61 n ms)
include B
theorem unit_ok (hl : ms.length ≤ 16) : Jk n (ms.map (unitJ n)) := ⟨B.n0, B.n1, by rw [List.length_map]; exact B.l0, by rw [List.length_map]; exact hl, fun m hm => by
  obtain ⟨x, hx, rfl⟩ := List.mem_map.mp hm
  refine ⟨⟨vec_len _ _, fun q hq => ?_⟩, B.u x hx, (B.w x hx).1⟩
  obtain ⟨i, _, rfl⟩ := vec_mem hq
  by_cases h : i = x.g
  · rw [if_pos h]
    exact ⟨by decide, bd1 (by decide)⟩
  · rw [if_neg h]
    exact ⟨by decide, bd0 (by decide)⟩⟩
theorem unit_net (f : Rat) (r : List Rat) {i : Nat} (hi : i < n) : jnQ f (ms.map (unitJ n)) r i = netQ f (ms.zip r) i := by
  rw [← jn_eq]
  unfold netQ
  have e1 : mkQ (ms.map (unitJ n)) r i = madeQ (ms.zip r) i := by
    unfold mkQ madeQ
    rw [List.zip_map_left, List.map_map]
    congr 1
    refine List.map_congr_left fun x hx => ?_
    simp only [Function.comp, Prod.map, unitJ, id]
    rw [List.getD_eq_getElem?_getD, vec_get _ hi]
    by_cases h : i = x.1.g
    · simp [h, Rat.mul_one]
    · rw [if_neg h, if_neg (fun z => h z.symm)]
      simp [Rat.mul_zero]
  have e2 : usQ (ms.map (unitJ n)) r i = usedQ (ms.zip r) i := by
    unfold usQ usedQ
    rw [List.zip_map_left, List.map_map]
    congr 1
  rw [e1, e2]
end
section
variable {S : DS} {Q : D → DS → Prop} {X : Exn → DS → Prop}
theorem one_at (n g j : Nat) : (if j = g then D.tup [.int 1, .int 1] else .tup [.int 0, .int 1]) = enc (if j = g then 1 else 0) := by
  by_cases h : j = g
  · rw [if_pos h, if_pos h]; rfl
  · rw [if_neg h, if_neg h]; rfl
theorem jof_w {n : Nat} {ms : List FR.Meth} (B : Bk 61 n ms) (hc : Cl S) (k : ms.length ≤ 16 → Q (encJ n (ms.map (unitJ n))) S) (e : 16 < ms.length → X ⟨"TooMany", [("most", .int 16)]⟩ S) : Wp (m_joint_of [encB n ms] S) Q X := by
  have n1 := B.n1
  have q1 := B.l1
  unfold m_joint_of
  rw [wp_defD]
  items_go
  refine cbook_w (pl_encB n ms) (fun _ => ?_) (fun h => by rw [bk_enc B] at h; cases h)
  items_go
  rw [List.length_map]
  by_cases hl : ms.length ≤ 16
  · rw [decide_eq_false (show ¬ ((ms.length : Nat) : Int) > 16 by omega)]
    items_go
    refine wforA FR.encM (fun i env S1 => ∃ x2 x3 x4, env = [some (encB n ms), some (.ref S.length), x2, x3, x4, none] ∧ S1 = S ++ [.lst ((ms.take i).map fun m => encJM (unitJ n m))]) rfl ⟨none, none, none, rfl, by simp⟩ ?_ ?_
    · rintro i m hm env S1 ⟨x2, x3, x4, rfl, rfl⟩
      have hi : i < ms.length := (List.getElem?_eq_some_iff.mp hm).1
      have tk : ms.take (i + 1) = ms.take i ++ [m] := by
        rw [List.take_add_one, hm]
        rfl
      unfold FR.encM
      items_go
      rw [rng_w (m := n) rfl (by omega)]
      items_go
      refine wlc_map (fun j : Nat => enc (if j = m.g then 1 else 0)) (fun (i : Nat) => D.int (i : Int)) rfl (by simp; omega) (fun j hj => ?_) ?_
      · unfold Wce
        items_go
        by_cases h : j = m.g
        · rw [decide_eq_true (show (j : Int) = (m.g : Int) by omega), if_pos h]
          items_go
          exact ⟨rfl, trivial⟩
        · rw [decide_eq_false (show ¬ (j : Int) = (m.g : Int) by omega), if_neg h]
          items_go
          exact ⟨rfl, trivial⟩
      items_go
      refine append_w (ys := (ms.take i).map fun m => encJM (unitJ n m)) (by simp) (by simp; omega) ?_
      items_go
      refine ⟨_, _, _, rfl, ?_⟩
      have ev : (List.range n).map (fun j => enc (if j = m.g then 1 else 0)) = (vec n fun i => if i = m.g then 1 else 0).map enc := by
        unfold vec
        rw [List.map_map]
        rfl
      rw [tk, ev, List.map_append]
      simp [encJM, unitJ, encR]
    · rintro env S1 ⟨x2, x3, x4, rfl, rfl⟩
      rw [List.take_length]
      items_go
      refine tuple_ref (ys := ms.map fun m => encJM (unitJ n m)) (by simp) ?_
      items_go
      have e : D.tup [.int (n : Int), .tup (ms.map fun m => encJM (unitJ n m))] = encJ n (ms.map (unitJ n)) := by
        unfold encJ
        rw [List.map_map]
        rfl
      rw [e]
      exact keep_w hc (fun j => under_encJ j n _) rfl (k hl)
  · rw [decide_eq_true (show ((ms.length : Nat) : Int) > 16 by omega)]
    items_go
    rw [wp_raiseF]
    items_go
    exact e (by omega)
theorem jof_bad {d : D} (hp : pl d = true) (h : bkB d = false) (e : X ⟨"NoBook", []⟩ S) : Wp (m_joint_of [d] S) Q X := by
  unfold m_joint_of
  rw [wp_defD]
  items_go
  refine cbook_w hp (fun h' => ?_) (fun _ => ?_)
  · rw [h] at h'
    cases h'
  · exact e
theorem jn_bad {d p f : D} (hp : pl d = true) (h : jB d = false) (e : X ⟨"NoJoint", []⟩ S) : Wp (m_joint_net [d, p, f] S) Q X := by
  unfold m_joint_net
  items_go
  refine joint_jw hp ?_
  rw [h]
  items_go
  exact e
section
variable {n : Nat} {js : List JM} (J : Jk n js)
include J
theorem jn_plan {p f : D} (hp : pl p = true) (h : amsB js.length p = false) (e : X ⟨"NoPlan", []⟩ S) : Wp (m_joint_net [encJ n js, p, f] S) Q X := by
  have l1 := J.l1
  have g1 : ∀ S, ixO (encJ n js) (.int 1) S = .ok (.tup (js.map encJM)) S := fun S => FR.getI_1 (.int (n : Int)) (.tup (js.map encJM)) [] S
  unfold m_joint_net
  rw [p_amounts]
  items_go
  refine joint_jw (pl_encJ n js) ?_
  rw [J.j]
  items_go
  rw [g1]
  items_go
  rw [List.length_map]
  refine amounts_jw (by omega) hp ?_
  rw [h]
  items_go
  exact e
theorem jn_chk {r : List Rat} (A : Am 61 js.length r) {f : D} (k : Wp (m_check [encJ n js, f] S) (fun _ S1 => Wp (m_raw_net [encJ n js, encR r, f] S1) Q X) X) : Wp (m_joint_net [encJ n js, encR r, f] S) Q X := by
  have l1 := J.l1
  have g1 : ∀ S, ixO (encJ n js) (.int 1) S = .ok (.tup (js.map encJM)) S := fun S => FR.getI_1 (.int (n : Int)) (.tup (js.map encJM)) [] S
  unfold m_joint_net
  rw [p_amounts]
  items_go
  refine joint_jw (pl_encJ n js) ?_
  rw [J.j]
  items_go
  rw [g1]
  items_go
  rw [List.length_map]
  refine amounts_jw (by omega) (pl_encR r) ?_
  rw [ams_enc A]
  items_go
  exact k
theorem chk_w {f : D} {Q : D → DS → Prop} (hp : pl f = true) (k : amB f = true → Q .non S) (e : amB f = false → X ⟨"NoFactor", []⟩ S) : Wp (m_check [encJ n js, f] S) Q X := by
  unfold m_check
  rw [p_amount]
  items_go
  refine joint_jw (pl_encJ n js) ?_
  rw [J.j]
  items_go
  refine amount_jw hp ?_
  cases h : amB f with
  | true =>
    items_go
    exact k h
  | false =>
    items_go
    exact e h
theorem jn_fac {r : List Rat} (A : Am 61 js.length r) {f : D} (hp : pl f = true) (h : amB f = false) (e : X ⟨"NoFactor", []⟩ S) : Wp (m_joint_net [encJ n js, encR r, f] S) Q X :=
  jn_chk J A (chk_w J hp (fun h' => absurd (h'.symm.trans h) (by decide)) fun _ => e)
theorem jn_w {r : List Rat} (A : Am 61 js.length r) {f : Rat} (hf : Bd 61 f) (f0 : 0 ≤ f) (k : Q (encR (vec n (jnQ f js r))) S) : Wp (m_joint_net [encJ n js, encR r, enc f] S) Q X :=
  jn_chk J A (chk_w J (pl_enc f) (fun _ => rnet_w J A hf k) fun h => absurd ((am_enc f0).symm.trans h) (by decide))
end
end
end K47

namespace K47
open PySem PySem.Spec PyProof.Rows L2 DL FR HN FB FJ FW DX
local macro_rules | `(tactic| items_go) => `(tactic| simp only [wp_ok, wp_ex, wp_bind, wp_mC, wp_mV, wp_m1, wp_m2, wp_maN, wp_maC, wp_mL, wp_mT, wp_mTr, wp_and, wp_or, wp_not, wp_andV, wp_orV, wp_notV, wp_mIf, wp_chain, wp_sl, wp_moN, wp_moS, wp_isi, wp_isi2, wp_meth, wp_tup, wp_lst, wp_ref, wp_seq, wp_ret, wp_retN, wp_nx, wp_bk, wp_ct, wp_do, wp_set, wp_asg, wp_par, wp_par3, wp_aug, wp_ifS, wp_raise, wp_for, wp_gN, wp_gsN, wp_gsC, wp_gT, wp_gSub, wp_seqI, wp_argI, wp_lc, wp_defM, Wsq_nx, Wsq_rt, Wsq_bk, Wsq_ct, Wsq_xc, Wrt_nx, Wrt_rt, Wrt_xc, Wlp_nx, Wlp_ct, Wlp_bk, Wlp_rt, Wlp_xc, Wif_t, Wif_f, Wv_s, Wo_s, Wb_s, Wi_s, Wp2_s, Wp3_s, startE_at, wipeE, List.map_cons, List.map_nil, List.length_cons, List.length_nil, Nat.reduceAdd, Nat.reduceSub, List.reduceReplicate, List.cons_append, List.nil_append, List.set_cons_succ, List.set_cons_zero, List.getElem?_cons_succ, List.getElem?_cons_zero, decide_true, decide_false, Nat.reduceLeDiff, Nat.reduceEqDiff, Int.reduceEq, Int.reduceLT, Int.reduceLE, eq_self, Bool.not_true, Bool.not_false, Bool.or_true, Bool.true_or, Bool.or_false, Bool.false_or, Bool.and_true, Bool.true_and, Bool.and_false, Bool.false_and, addO_int, subO_int, negO_int, eqO_int, neO_int, eqO_str, neO_str, eqO_is, neO_is, eqO_si, ltO_int, leO_int, gtO_int, geO_int, ixO_tup, ixO_vl, FR.getI_0, FR.getI_1, FR.getI_2, FR.getI_3, FR.getI_4, FR.enc0, FR.enc1, FR.encM0, FR.encM1, FR.encM2, FR.encB0, FR.encB1, lenO_tup, lenO_vl, intO_int, tupleO_vl, tupleO_tup, asItm_tup, asItm_vl, finV_at, finR_at, rc_ref, rc_vl, ty_tt, ty_tv, ty_ti, ty_tb, ty_ts, ty_tn, ty_td, ty_tr, ty_it, ty_iv, ty_ii, ty_ib, ty_is, ty_in, ty_id, ty_bt, ty_bv, ty_bi, ty_bb, ty_bs, ty_bn, ty_bd, ty_lt, ty_lv, ty_li, ty_lb, ty_ls, ty_ln, ty_st, ty_sv, ty_si, ty_sb, ty_ss, ty_sn])
local macro_rules | `(tactic| news_at) => `(tactic| simp only [wp_ok, wp_ex, wp_bind, wp_mC, wp_mV, wp_m1, wp_m2, wp_maN, wp_maC, wp_mL, wp_mT, wp_mTr, wp_and, wp_or, wp_not, wp_andV, wp_orV, wp_notV, wp_mIf, wp_chain, wp_sl, wp_moN, wp_moS, wp_isi, wp_isi2, wp_meth, wp_tup, wp_lst, wp_ref, wp_seq, wp_ret, wp_retN, wp_nx, wp_bk, wp_ct, wp_do, wp_set, wp_asg, wp_par, wp_par3, wp_aug, wp_ifS, wp_raise, wp_for, wp_gN, wp_gsN, wp_gsC, wp_gT, wp_gSub, wp_seqI, wp_argI, wp_lc, wp_defM, Wsq_nx, Wsq_rt, Wsq_bk, Wsq_ct, Wsq_xc, Wrt_nx, Wrt_rt, Wrt_xc, Wlp_nx, Wlp_ct, Wlp_bk, Wlp_rt, Wlp_xc, Wif_t, Wif_f, Wv_s, Wo_s, Wb_s, Wi_s, Wp2_s, Wp3_s, startE_at, wipeE, List.map_cons, List.map_nil, List.length_cons, List.length_nil, Nat.reduceAdd, Nat.reduceSub, List.reduceReplicate, List.cons_append, List.nil_append, List.set_cons_succ, List.set_cons_zero, List.getElem?_cons_succ, List.getElem?_cons_zero, decide_true, decide_false, Nat.reduceLeDiff, Nat.reduceEqDiff, Int.reduceEq, Int.reduceLT, Int.reduceLE, eq_self, Bool.not_true, Bool.not_false, Bool.or_true, Bool.true_or, Bool.or_false, Bool.false_or, Bool.and_true, Bool.true_and, Bool.and_false, Bool.false_and, addO_int, subO_int, negO_int, eqO_int, neO_int, eqO_str, neO_str, eqO_is, neO_is, eqO_si, ltO_int, leO_int, gtO_int, geO_int, ixO_tup, ixO_vl, FR.getI_0, FR.getI_1, FR.getI_2, FR.getI_3, FR.getI_4, FR.enc0, FR.enc1, FR.encM0, FR.encM1, FR.encM2, FR.encB0, FR.encB1, lenO_tup, lenO_vl, intO_int, tupleO_vl, tupleO_tup, asItm_tup, asItm_vl, finV_at, finR_at, rc_ref, rc_vl, ty_tt, ty_tv, ty_ti, ty_tb, ty_ts, ty_tn, ty_td, ty_tr, ty_it, ty_iv, ty_ii, ty_ib, ty_is, ty_in, ty_id, ty_bt, ty_bv, ty_bi, ty_bb, ty_bs, ty_bn, ty_bd, ty_lt, ty_lv, ty_li, ty_lb, ty_ls, ty_ln, ty_st, ty_sv, ty_si, ty_sb, ty_ss, ty_sn, *])
/-! things near to joint books that are none -/
def Bad (x : D) : Prop := jB x = false ∧ Pu x
theorem pu_2 {a b : D} (ha : Pu a) (hb : Pu b) : Pu (.tup [a, b]) := pu_t fun x hx => by
  simp only [List.mem_cons, List.not_mem_nil, or_false] at hx
  rcases hx with rfl | rfl
  · exact ha
  · exact hb
theorem pu_1 {a : D} (ha : Pu a) : Pu (.tup [a]) := pu_t fun x hx => by
  simp only [List.mem_cons, List.not_mem_nil, or_false] at hx
  subst hx
  exact ha
theorem pu_i (i : Int) : Pu (.int i) := ⟨rfl, fun _ => rfl⟩
theorem pu_e (q : Rat) : Pu (enc q) := ⟨rfl, fun _ => rfl⟩
theorem pu_M (m : JM) : Pu (encJM m) := ⟨pl_encJM m, fun j => under_encJM j m⟩
theorem j_in {g : Int} {ms : List D} {x : D} (hx : x ∈ ms) (h : jmB g x = false) : jB (.tup [.int g, .tup ms]) = false := by
  have : ms.all (jmB g) = false := List.all_eq_false.mpr ⟨x, hx, by rw [h]; simp⟩
  rw [jB_t, this]
  simp
theorem odd_j {d : D} (h : Odd d) : jB d = false := by
  have o := h.o
  cases d with
  | tup xs =>
    match xs with
    | [] => rfl
    | [_] =>
      unfold jB
      split
      · rename_i e
        cases e
      · rfl
    | _ :: _ :: _ => simp [odd] at o
  | _ => rfl
theorem rep_jm {n : Nat} (h : n ≤ 3) : jmB n (.tup (repL [D.tup [.bl true, .int 1]] n)) = false := by
  rcases (show n = 0 ∨ n = 1 ∨ n = 2 ∨ n = 3 by omega) with rfl | rfl | rfl | rfl <;> rfl
section
variable {n : Nat} {js : List JM} (J : Jk n js) (n3 : n ≤ 3) {h : List D} {R : DS} {Q : D → DS → Prop} {X : Exn → DS → Prop}
include J n3
theorem bent_w (hh : Hand h) (hR : Cl R) (k : ∀ x h', Hand h' → Bad x → Q x (.lst h' :: R)) : Wp (m_law_bent [.ref 0, encJ n js] (.lst h :: R)) Q X := by
  have l0 := J.l0
  have l1 := J.l1
  have n0 := J.n0
  obtain ⟨c, ct, rfl⟩ : ∃ c ct, js = c :: ct := by
    cases js with
    | nil => simp at l0
    | cons a b => exact ⟨a, b, rfl⟩
  have M := J.m c (List.mem_cons_self ..)
  obtain ⟨mk, us, w⟩ := c
  have kl := M.k.len
  have ul := M.u.len
  have ec : encJM ⟨mk, us, w⟩ = .tup [encR mk, encR us, enc w] := rfl
  unfold m_law_bent
  unfold encJ
  items_go
  rw [ec]
  items_go
  refine list_t ?_
  items_go
  refine list_t ?_
  items_go
  refine slLo (n := 1) rfl ?_
  items_go
  refine mulT_w (n := 17) rfl (by decide) (by decide) (by simp) ?_
  items_go
  refine addvv_w (by simp) ?_
  items_go
  refine slLo (n := 0) rfl ?_
  items_go
  refine addvv_w (by simp) ?_
  items_go
  show Wp (slO (.tup (mk.map enc)) _ _ _) _ _
  refine slHi (n := 1) rfl ?_
  items_go
  show Wp (addO (.tup (us.map enc)) _ _) _ _
  refine addtt_w (by simp; simp at ul; omega) ?_
  items_go
  refine addtt_w (by simp) ?_
  items_go
  refine addvv_w (by simp) ?_
  items_go
  show Wp (listO [.tup (mk.map enc)] _) _ _
  refine list_t ?_
  items_go
  refine mulT_w (n := n) rfl (by omega) (by omega) (by simp) ?_
  items_go
  rw [e_odd]
  refine oddA_w draw_w some_w hh fun z h1 hh1 oz => ?_
  items_go
  refine addvv_w (by simp) ?_
  items_go
  refine some_w (R := R) hh1 (by simp) (by simp) fun x h2 hh2 hx => ?_
  suffices B : Bad x from k x h2 hh2 B
  clear k
  have uM : ∀ x ∈ (⟨mk, us, w⟩ :: ct).map encJM, Pu x := fun x hx => by
    obtain ⟨m, _, rfl⟩ := List.mem_map.mp hx
    exact pu_M m
  have full : Pu (.tup ((⟨mk, us, w⟩ :: ct).map encJM)) := pu_t uM
  have uc : Pu (.tup [encR mk, encR us, enc w]) := pu_M ⟨mk, us, w⟩
  have qm1 : amB (.tup [.int (-1), .int 2]) = false := by decide
  have q24 : amB (.tup [.int 2, .int 4]) = false := by decide
  simp only [List.mem_cons, List.mem_append, List.not_mem_nil, or_false, List.cons_append, List.nil_append] at hx
  rcases hx with rfl | rfl | rfl | rfl | rfl | rfl | rfl | rfl | rfl | rfl | rfl | rfl | rfl | rfl | rfl | rfl | rfl | rfl
  · exact ⟨rfl, pu_v fun x hx => by
      simp only [List.mem_cons, List.not_mem_nil, or_false] at hx
      rcases hx with rfl | rfl
      · exact pu_i _
      · exact full⟩
  · exact ⟨rfl, pu_2 (pu_i _) (pu_v uM)⟩
  · refine ⟨?_, pu_2 (pu_i _) (pu_t fun x hx => absurd hx List.not_mem_nil)⟩
    rw [jB_t]
    simp
  · refine ⟨j_in (List.mem_cons_self ..) ?_, pu_2 (pu_i _) full⟩
    rw [jmB_t]
    have : amsB ((n : Int) + 1) (encR mk) = false := ams_len (k := n + 1) (by rw [List.length_map, kl]; omega)
    rw [this]
    rfl
  · refine ⟨?_, pu_2 (pu_i _) full⟩
    rw [jB_t]
    rfl
  · refine ⟨?_, pu_2 (pu_i _) full⟩
    rw [jB_t]
    rfl
  · refine ⟨?_, pu_2 (pu_i _) (pu_t fun x hx => ?_)⟩
    · rw [jB_t, rep_length]
      simp
    · have := repL_mem hx
      simp only [List.take_succ_cons, List.take_zero, List.mem_cons, List.not_mem_nil, or_false] at this
      subst this
      exact uc
  · exact ⟨j_in (List.mem_cons_self ..) rfl, pu_2 (pu_i _) (pu_1 (pu_2 (pu_R _) (pu_R _)))⟩
  · refine ⟨j_in (List.mem_cons_self ..) ?_, pu_2 (pu_i _) (pu_1 (pu_3 (pu_R _) (pu_R _) (pu_i _)))⟩
    rw [jmB_t, show amB (.int 1) = false from rfl]
    simp
  · refine ⟨j_in (List.mem_cons_self ..) ?_, pu_2 (pu_i _) (pu_1 (pu_3 (pu_R _) (pu_R _) ⟨rfl, fun _ => rfl⟩))⟩
    rw [jmB_t, qm1]
    simp
  · refine ⟨j_in (List.mem_cons_self ..) ?_, pu_2 (pu_i _) (pu_1 (pu_3 (pu_R _) (pu_R _) ⟨rfl, fun _ => rfl⟩))⟩
    rw [jmB_t, q24]
    simp
  · exact ⟨rfl, pu_2 ⟨rfl, fun _ => rfl⟩ (pu_t fun x hx => by simp at hx)⟩
  · refine ⟨j_in (List.mem_cons_self ..) ?_, pu_2 (pu_i _) (pu_1 (pu_3 (pu_t fun x hx => ?_) (pu_R _) (pu_e _)))⟩
    · rw [jmB_t]
      have : amsB (n : Int) (.tup ((mk.map enc).drop 1)) = false := ams_len (by rw [List.length_drop, List.length_map, kl]; omega)
      rw [this]
      rfl
    · obtain ⟨q, _, rfl⟩ := List.mem_map.mp (List.mem_of_mem_drop hx)
      exact pu_e q
  · refine ⟨j_in (List.mem_cons_self ..) ?_, pu_2 (pu_i _) (pu_1 (pu_3 (pu_R _) (pu_t fun x hx => ?_) (pu_e _)))⟩
    · rw [jmB_t]
      have : amsB (n : Int) (.tup (us.map enc ++ [.tup [.int 0, .int 1]])) = false := ams_len (by rw [List.length_append, List.length_map, ul]; simp)
      rw [this]
      simp
    · rcases List.mem_append.mp hx with hx | hx
      · obtain ⟨q, _, rfl⟩ := List.mem_map.mp hx
        exact pu_e q
      · rw [List.mem_singleton.mp hx]
        exact ⟨rfl, fun _ => rfl⟩
  · exact ⟨rfl, pu_3 (pu_i _) full (pu_i _)⟩
  · refine ⟨j_in (List.mem_cons_self ..) rfl, pu_2 (pu_i _) (pu_1 (pu_3 (pu_v fun x hx => ?_) (pu_R _) (pu_e _)))⟩
    obtain ⟨q, _, rfl⟩ := List.mem_map.mp hx
    exact pu_e q
  · refine ⟨j_in (List.mem_cons_self ..) (rep_jm n3), pu_2 (pu_i _) (pu_3 (pu_t fun x hx => ?_) (pu_R _) (pu_e _))⟩
    rw [rep_all hx]
    exact ⟨rfl, fun _ => rfl⟩
  · exact ⟨odd_j oz, oz.p, oz.u⟩
end
end K47

namespace K47
open PySem PySem.Spec PyProof.Rows L2 DL FR HN FB FJ FW DX
local macro_rules | `(tactic| items_go) => `(tactic| simp only [wp_ok, wp_ex, wp_bind, wp_mC, wp_mV, wp_m1, wp_m2, wp_maN, wp_maC, wp_mL, wp_mT, wp_mTr, wp_and, wp_or, wp_not, wp_andV, wp_orV, wp_notV, wp_mIf, wp_chain, wp_sl, wp_moN, wp_moS, wp_isi, wp_isi2, wp_meth, wp_tup, wp_lst, wp_ref, wp_seq, wp_ret, wp_retN, wp_nx, wp_bk, wp_ct, wp_do, wp_set, wp_asg, wp_par, wp_par3, wp_aug, wp_ifS, wp_raise, wp_for, wp_gN, wp_gsN, wp_gsC, wp_gT, wp_gSub, wp_seqI, wp_argI, wp_lc, wp_defM, Wsq_nx, Wsq_rt, Wsq_bk, Wsq_ct, Wsq_xc, Wrt_nx, Wrt_rt, Wrt_xc, Wlp_nx, Wlp_ct, Wlp_bk, Wlp_rt, Wlp_xc, Wif_t, Wif_f, Wv_s, Wo_s, Wb_s, Wi_s, Wp2_s, Wp3_s, startE_at, wipeE, List.map_cons, List.map_nil, List.length_cons, List.length_nil, Nat.reduceAdd, Nat.reduceSub, List.reduceReplicate, List.cons_append, List.nil_append, List.set_cons_succ, List.set_cons_zero, List.getElem?_cons_succ, List.getElem?_cons_zero, decide_true, decide_false, Nat.reduceLeDiff, Nat.reduceEqDiff, Int.reduceEq, Int.reduceLT, Int.reduceLE, eq_self, Bool.not_true, Bool.not_false, Bool.or_true, Bool.true_or, Bool.or_false, Bool.false_or, Bool.and_true, Bool.true_and, Bool.and_false, Bool.false_and, addO_int, subO_int, negO_int, eqO_int, neO_int, eqO_str, neO_str, eqO_is, neO_is, eqO_si, ltO_int, leO_int, gtO_int, geO_int, ixO_tup, ixO_vl, FR.getI_0, FR.getI_1, FR.getI_2, FR.getI_3, FR.getI_4, FR.enc0, FR.enc1, FR.encM0, FR.encM1, FR.encM2, FR.encB0, FR.encB1, lenO_tup, lenO_vl, intO_int, tupleO_vl, tupleO_tup, asItm_tup, asItm_vl, finV_at, finR_at, rc_ref, rc_vl, ty_tt, ty_tv, ty_ti, ty_tb, ty_ts, ty_tn, ty_td, ty_tr, ty_it, ty_iv, ty_ii, ty_ib, ty_is, ty_in, ty_id, ty_bt, ty_bv, ty_bi, ty_bb, ty_bs, ty_bn, ty_bd, ty_lt, ty_lv, ty_li, ty_lb, ty_ls, ty_ln, ty_st, ty_sv, ty_si, ty_sb, ty_ss, ty_sn])
local macro_rules | `(tactic| news_at) => `(tactic| simp only [wp_ok, wp_ex, wp_bind, wp_mC, wp_mV, wp_m1, wp_m2, wp_maN, wp_maC, wp_mL, wp_mT, wp_mTr, wp_and, wp_or, wp_not, wp_andV, wp_orV, wp_notV, wp_mIf, wp_chain, wp_sl, wp_moN, wp_moS, wp_isi, wp_isi2, wp_meth, wp_tup, wp_lst, wp_ref, wp_seq, wp_ret, wp_retN, wp_nx, wp_bk, wp_ct, wp_do, wp_set, wp_asg, wp_par, wp_par3, wp_aug, wp_ifS, wp_raise, wp_for, wp_gN, wp_gsN, wp_gsC, wp_gT, wp_gSub, wp_seqI, wp_argI, wp_lc, wp_defM, Wsq_nx, Wsq_rt, Wsq_bk, Wsq_ct, Wsq_xc, Wrt_nx, Wrt_rt, Wrt_xc, Wlp_nx, Wlp_ct, Wlp_bk, Wlp_rt, Wlp_xc, Wif_t, Wif_f, Wv_s, Wo_s, Wb_s, Wi_s, Wp2_s, Wp3_s, startE_at, wipeE, List.map_cons, List.map_nil, List.length_cons, List.length_nil, Nat.reduceAdd, Nat.reduceSub, List.reduceReplicate, List.cons_append, List.nil_append, List.set_cons_succ, List.set_cons_zero, List.getElem?_cons_succ, List.getElem?_cons_zero, decide_true, decide_false, Nat.reduceLeDiff, Nat.reduceEqDiff, Int.reduceEq, Int.reduceLT, Int.reduceLE, eq_self, Bool.not_true, Bool.not_false, Bool.or_true, Bool.true_or, Bool.or_false, Bool.false_or, Bool.and_true, Bool.true_and, Bool.and_false, Bool.false_and, addO_int, subO_int, negO_int, eqO_int, neO_int, eqO_str, neO_str, eqO_is, neO_is, eqO_si, ltO_int, leO_int, gtO_int, geO_int, ixO_tup, ixO_vl, FR.getI_0, FR.getI_1, FR.getI_2, FR.getI_3, FR.getI_4, FR.enc0, FR.enc1, FR.encM0, FR.encM1, FR.encM2, FR.encB0, FR.encB1, lenO_tup, lenO_vl, intO_int, tupleO_vl, tupleO_tup, asItm_tup, asItm_vl, finV_at, finR_at, rc_ref, rc_vl, ty_tt, ty_tv, ty_ti, ty_tb, ty_ts, ty_tn, ty_td, ty_tr, ty_it, ty_iv, ty_ii, ty_ib, ty_is, ty_in, ty_id, ty_bt, ty_bv, ty_bi, ty_bb, ty_bs, ty_bn, ty_bd, ty_lt, ty_lv, ty_li, ty_lb, ty_ls, ty_ln, ty_st, ty_sv, ty_si, ty_sb, ty_ss, ty_sn, *])
theorem bad_plan {k : Nat} {r : List Rat} (A : Am 61 k r) (k0 : 0 < k) {x : D} (h : x ∈ [D.tup ((r.map enc).take (r.length - 1)), .vl (r.map enc), .tup (r.map enc ++ [.tup [.int 0, .int 1]]), .non, .tup (repL [.tup [.int 2, .int 4]] k), .tup (repL [.tup [.int (-1), .int 1]] k)]) : amsB k x = false ∧ Pu x := by
  have pm : ∀ y ∈ r.map enc, Pu y := fun y hy => by
    obtain ⟨q, _, rfl⟩ := List.mem_map.mp hy
    exact pu_e q
  simp only [List.mem_cons, List.not_mem_nil, or_false] at h
  rcases h with rfl | rfl | rfl | rfl | rfl | rfl
  · refine ⟨ams_len ?_, pu_t fun y hy => pm y (List.mem_of_mem_take hy)⟩
    rw [List.length_take, List.length_map, A.len]
    omega
  · exact ⟨rfl, pu_v pm⟩
  · refine ⟨ams_len (by rw [List.length_append, List.length_map, A.len]; simp), pu_t fun y hy => ?_⟩
    rcases List.mem_append.mp hy with hy | hy
    · exact pm y hy
    · rw [List.mem_singleton.mp hy]
      exact ⟨rfl, fun _ => rfl⟩
  · exact ⟨rfl, rfl, fun _ => rfl⟩
  · exact ⟨ams_bad (rep_mem k0) (by decide), pu_t fun y hy => by rw [rep_all hy]; exact ⟨rfl, fun _ => rfl⟩⟩
  · exact ⟨ams_bad (rep_mem k0) (by decide), pu_t fun y hy => by rw [rep_all hy]; exact ⟨rfl, fun _ => rfl⟩⟩
theorem bad_fac {x : D} (h : x ∈ [D.tup [.int 1, .int 0], .tup [.int (-1), .int 2], .int 1, .non, .tup [.int 2, .int 4], .tup [.bl true, .int 1], .vl [.int 1, .int 2]]) : amB x = false ∧ Pu x := by
  simp only [List.mem_cons, List.not_mem_nil, or_false] at h
  rcases h with rfl | rfl | rfl | rfl | rfl | rfl | rfl
  · exact ⟨by decide, rfl, fun _ => rfl⟩
  · exact ⟨by decide, rfl, fun _ => rfl⟩
  · exact ⟨rfl, rfl, fun _ => rfl⟩
  · exact ⟨rfl, rfl, fun _ => rfl⟩
  · exact ⟨by decide, rfl, fun _ => rfl⟩
  · exact ⟨rfl, rfl, fun _ => rfl⟩
  · exact ⟨rfl, rfl, fun _ => rfl⟩
theorem bad_book {n g : Nat} {js : List JM} {ms : List FR.Meth} (J : Jk n js) {x : D} (h : x ∈ [encJ n js, .non, .tup [.int (g : Int), .tup []], .tup [.int 0, .tup (ms.map FR.encM)]]) : bkB x = false ∧ Pu x := by
  have l0 := J.l0
  simp only [List.mem_cons, List.not_mem_nil, or_false] at h
  rcases h with rfl | rfl | rfl | rfl
  · refine ⟨?_, pl_encJ n js, fun j => under_encJ j n js⟩
    obtain ⟨c, ct, rfl⟩ : ∃ c ct, js = c :: ct := by
      cases js with
      | nil => simp at l0
      | cons a b => exact ⟨a, b, rfl⟩
    unfold encJ
    rw [bkB_t, List.map_cons, List.all_cons, show meB (n : Int) (encJM c) = false from rfl]
    simp
  · exact ⟨rfl, rfl, fun _ => rfl⟩
  · refine ⟨?_, rfl, fun _ => rfl⟩
    rw [bkB_t]
    simp
  · refine ⟨?_, pu_2 (pu_i 0) (pu_t fun y hy => ?_)⟩
    · rw [bkB_t]
      rfl
    · obtain ⟨m, _, rfl⟩ := List.mem_map.mp hy
      exact ⟨pl_encM m, fun j => under_encM j m⟩
theorem repL_map {α β : Type} (f : α → β) (xs : List α) (k : Nat) : repL (xs.map f) k = (repL xs k).map f := by
  unfold repL
  rw [List.map_flatten, List.map_replicate]
theorem wide_ok {n : Nat} {ms : List FR.Meth} (B : Bk 61 n ms) {k : Nat} (h1 : 1 ≤ k) (h2 : k ≤ 20) : Bk 61 n ((repL ms 20).take k) ∧ ((repL ms 20).take k).length = k := by
  have q0 := B.l0
  have e : ((repL ms 20).take k).length = k := by
    rw [List.length_take, rep_length]
    omega
  have mem : ∀ m ∈ (repL ms 20).take k, m ∈ ms := fun m hm => by
    have := List.mem_of_mem_take hm
    unfold repL at this
    obtain ⟨l, hl, hy⟩ := List.mem_flatten.mp this
    rw [(List.mem_replicate.mp hl).2] at hy
    exact hy
  exact ⟨⟨B.n0, B.n1, by omega, by omega, fun m hm => B.g m (mem m hm), fun m hm => B.u m (mem m hm), fun m hm => B.w m (mem m hm)⟩, e⟩
theorem sfs_of {k : Nat} : ∀ {xs : List D}, (∀ x ∈ xs, sf k x = true) → sfs k xs = true
  | [], _ => rfl
  | x :: xs, h => by
    rw [sfs, h x (List.mem_cons_self ..), sfs_of fun y hy => h y (List.mem_cons_of_mem _ hy)]
    rfl
theorem sf_J {n : Nat} {js : List JM} (J : Jk n js) : sf 5 (encJ n js) = true := by
  have l1 := J.l1
  have n1 := J.n1
  have e1 : sfs 3 (js.map encJM) = true := sfs_of fun x hx => by
    obtain ⟨m, hm, rfl⟩ := List.mem_map.mp hx
    have M := J.m m hm
    show (decide ((3 : Nat) ≤ 9000) && (sf 2 (encR m.k) && (sf 2 (encR m.u) && (sf 2 (enc m.w) && sfs 2 [])))) = true
    rw [sf_encR 0 (by rw [M.k.len]; omega), sf_encR 0 (by rw [M.u.len]; omega), sf_enc 1]
    rfl
  show (decide ((2 : Nat) ≤ 9000) && (sf 4 (.int (n : Int)) && ((decide ((js.map encJM).length ≤ 9000) && sfs 3 (js.map encJM)) && sfs 4 []))) = true
  rw [e1, decide_eq_true (show (js.map encJM).length ≤ 9000 by rw [List.length_map]; omega)]
  rfl
theorem law_w (ns : List Int) (hl : ns.length ≤ 63) : Wp (m_law [.fz (ns.map D.int)] []) (fun d _ => d = .bl true) noE := by
  have r5 : ∀ S, rng1O [.int 5] S = .ok ⟨(List.range 5).map fun (i : Nat) => D.int (i : Int), none⟩ S := fun S => rng_w (m := 5) rfl (by decide) S
  have it : ∀ S, isnO (.bl true) (.bl true) S = .ok (.bl false) S := fun _ => rfl
  have iff' : ∀ S, isnO (.bl false) (.bl false) S = .ok (.bl false) S := fun _ => rfl
  have it1 : ∀ S, intO [.bl true] S = .ok (.int 1) S := fun _ => rfl
  have if0 : ∀ S, intO [.bl false] S = .ok (.int 0) S := fun _ => rfl
  have eh : m_law_hand = handOf 97 5 := rfl
  unfold m_law
  rw [wp_defD]
  items_go
  rw [eh]
  refine handOf_w ns hl ⟨by decide, by decide⟩ fun h hh => ?_
  items_go
  rw [r5]
  items_go
  refine wforA (fun (i : Nat) => D.int (i : Int)) (fun i env S => ∃ x2 x3 x4 x5 x6 x7 x8 x9 x10 x11 x12 x13 x14 x15 x16 x17 x18 x19 x20 x21 h R, env = [some (.fz (ns.map D.int)), some (.ref 0), x2, x3, x4, x5, x6, x7, x8, x9, x10, x11, x12, x13, x14, x15, x16, x17, x18, x19, x20, x21] ∧ S = .lst h :: R ∧ Hand h ∧ Cl R) rfl
    ⟨_, _, _, _, _, _, _, _, _, _, _, _, _, _, _, _, _, _, _, _, h, [], rfl, rfl, hh, Cl.nil⟩ ?_ ?_
  · rintro i a _ env S ⟨x2, x3, x4, x5, x6, x7, x8, x9, x10, x11, x12, x13, x14, x15, x16, x17, x18, x19, x20, x21, h, R, rfl, rfl, hh, hR⟩
    items_go
    refine joint_w hh hR fun n js h1 hh1 J n3 => ?_
    have l0 := J.l0
    have l1 := J.l1
    have n0 := J.n0
    have g1 : ∀ S, ixO (encJ n js) (.int 1) S = .ok (.tup (js.map encJM)) S := fun S => FR.getI_1 (.int (n : Int)) (.tup (js.map encJM)) [] S
    items_go
    refine factor_w hh1 fun f h2 hh2 hf => ?_
    items_go
    rw [g1]
    items_go
    refine wlc_draw enc Dq hh2 (by simp; omega) (fun d hd h hh => ?_) fun r h3 hh3 hrl pr => ?_
    · unfold Wce
      items_go
      rw [e_amount]
      exact amount_w some_w hh fun q h' hh' hq => ⟨q, h', rfl, rfl, hh', hq⟩
    rw [List.length_map] at hrl
    have A : Am 61 js.length r := am_of hrl pr
    have c3 : Cl (.lst h3 :: R) := Cl.hand hh3 hR
    items_go
    refine joint_jw (pl_encJ n js) ?_
    rw [J.j]
    items_go
    rw [it]
    items_go
    show Wp (m_joint_net [encJ n js, encR r, enc f] _) _ _
    refine jn_w J A hf.2 hf.1 ?_
    items_go
    show Wp (m_law_net [encJ n js, encR r, enc f] _) _ _
    refine lnet_w J A hf.2 c3 ?_
    items_go
    rw [e_is]
    refine is_w 5 (sf_encR 3 (by rw [vec_len]; omega)) ?_
    items_go
    refine bent_w J n3 hh3 hR fun wrong h4 hh4 bx => ?_
    items_go
    refine joint_jw bx.2.1 ?_
    rw [bx.1]
    items_go
    rw [iff']
    items_go
    refine word_wS (fs := []) word_NoJoint (Cl.hand hh4 hR) ?_ ?_
    · items_go
      exact jn_bad bx.2.1 bx.1 ⟨rfl, [], by simp⟩
    items_go
    refine slM1 ?_
    items_go
    refine list_t ?_
    items_go
    refine addtt_w (by simp; omega) ?_
    items_go
    rw [List.length_map]
    refine mulT_w (n := js.length) (by rw [hrl]) (by omega) (by omega) (by simp) ?_
    items_go
    refine mulT_w (n := js.length) (by rw [hrl]) (by omega) (by omega) (by simp) ?_
    items_go
    refine some_w (R := R) hh4 (by simp) (by simp) fun bad h5 hh5 hbad => ?_
    obtain ⟨p1, p2⟩ := bad_plan A (by omega) hbad
    items_go
    refine some_w (R := R) hh5 (by simp) (by simp) fun od h6 hh6 hod => ?_
    obtain ⟨f1, f2⟩ := bad_fac hod
    items_go
    refine word_wS (fs := []) word_NoPlan (Cl.hand hh6 hR) ?_ ?_
    · items_go
      exact jn_plan J p2.1 p1 ⟨rfl, [], by simp⟩
    items_go
    refine word_wS (fs := []) word_NoFactor (Cl.hand hh6 hR) ?_ ?_
    · items_go
      show Wp (m_joint_net [encJ n js, encR r, od] _) _ _
      exact jn_fac J A f2.1 f1 ⟨rfl, [], by simp⟩
    items_go
    refine draw_w hh6 (n := 4) (by decide) (by decide) rfl fun gd h7 hh7 hgd => ?_
    items_go
    have eg : (1 : Int) + (gd : Int) = ((1 + gd : Nat) : Int) := by omega
    rw [eg]
    generalize hg : 1 + gd = g
    have gg : 1 ≤ g ∧ g ≤ 4 := by omega
    refine some_w (R := R) hh7 (by simp) (by simp) fun my h8 hh8 hmy => ?_
    obtain ⟨many, rfl, m1, m16⟩ : ∃ many : Nat, my = .int (many : Int) ∧ 1 ≤ many ∧ many ≤ 16 := by
      simp only [List.mem_cons, List.not_mem_nil, or_false] at hmy
      rcases hmy with rfl | rfl | rfl
      · exact ⟨1, rfl, by decide, by decide⟩
      · exact ⟨3, rfl, by decide, by decide⟩
      · exact ⟨16, rfl, by decide, by decide⟩
    items_go
    rw [rng_w (m := many) rfl (by omega)]
    items_go
    refine wlc_draw FR.encM (Dm g) hh8 (by simp; omega) (fun d hd h hh => ?_) fun ms h9 hh9 hml pm => ?_
    · unfold Wce
      items_go
      rw [e_method]
      exact method_w draw_w some_w hh (n := g) (by omega) (by omega) rfl fun m h' hh' hm => ⟨m, h', rfl, rfl, hh', hm⟩
    rw [List.length_map, List.length_range] at hml
    have B : Bk 61 g ms := ⟨by omega, by omega, by omega, by omega, fun m hm => (pm m hm).g, fun m hm => (pm m hm).u, fun m hm => (pm m hm).w⟩
    items_go
    refine wforA FR.encM (fun i env S => ∃ x14 x15 x16 x19 x20 x21, env = [some (.fz (ns.map D.int)), some (.ref 0), some (.int (a : Int)), some (encR r), some wrong, some bad, some od, some (encB g ms), some (.ref (R.length + 1)), x9, some (encJ n js), some (enc f), some (.int (g : Int)), some (.int (many : Int)), x14, x15, x16, x17, x18, x19, x20, x21] ∧ S = .lst h9 :: (R ++ [.lst ((ms.take i).map fun m => encJM (unitJ g m))])) rfl ⟨_, _, _, _, _, _, rfl, by simp⟩ ?_ ?_
    · rintro i m hm env S ⟨x14, x15, x16, x19, x20, x21, rfl, rfl⟩
      have hi : i < ms.length := (List.getElem?_eq_some_iff.mp hm).1
      have tk : ms.take (i + 1) = ms.take i ++ [m] := by
        rw [List.take_add_one, hm]
        rfl
      unfold FR.encM
      items_go
      rw [rng_w (m := g) rfl (by omega)]
      items_go
      refine wlc_map (fun j : Nat => enc (if j = m.g then 1 else 0)) (fun (i : Nat) => D.int (i : Int)) rfl (by simp; omega) (fun j hj => ?_) ?_
      · unfold Wce
        items_go
        by_cases h : j = m.g
        · rw [decide_eq_true (show (m.g : Int) = (j : Int) by omega), if_pos h, it1]
          items_go
          exact ⟨rfl, trivial⟩
        · rw [decide_eq_false (show ¬ (m.g : Int) = (j : Int) by omega), if_neg h, if0]
          items_go
          exact ⟨rfl, trivial⟩
      items_go
      refine append_w (ys := (ms.take i).map fun m => encJM (unitJ g m)) (by simp) (by simp; omega) ?_
      items_go
      refine ⟨_, _, _, _, _, _, rfl, ?_⟩
      have ev : (List.range g).map (fun j => enc (if j = m.g then 1 else 0)) = (vec g fun i => if i = m.g then 1 else 0).map enc := by
        unfold vec
        rw [List.map_map]
        rfl
      rw [tk, ev, List.map_append]
      simp [encJM, unitJ, encR]
    rintro env S ⟨x14, x15, x16, x19, x20, x21, rfl, rfl⟩
    rw [List.take_length]
    have hR2 : Cl (R ++ [.lst (ms.map fun m => encJM (unitJ g m))]) := cl_app hR (Cl.cons (fun j => unders_map j _ ms fun m _ => under_encJM j _) Cl.nil)
    have U := unit_ok B (by omega)
    items_go
    refine jof_w B (Cl.hand hh9 hR2) (fun _ => ?_) (fun hx => absurd hx (by omega))
    items_go
    rw [rng_w (m := many) rfl (by omega)]
    items_go
    refine wlc_draw enc Dq hh9 (by rw [List.length_map, List.length_range]; omega) (fun d hd h hh => ?_) fun am ha hha hal pa => ?_
    · unfold Wce
      items_go
      rw [e_amount]
      exact amount_w some_w hh fun q h' hh' hq => ⟨q, h', rfl, rfl, hh', hq⟩
    rw [List.length_map, List.length_range] at hal
    have A2 : Am 61 ms.length am := am_of (by omega) pa
    have A3 : Am 61 (ms.map (unitJ g)).length am := by rw [List.length_map]; exact A2
    items_go
    refine tuple_ref (ys := ms.map fun m => encJM (unitJ g m)) (by simp) ?_
    items_go
    have eJ : D.tup [.int (g : Int), .tup (ms.map fun m => encJM (unitJ g m))] = encJ g (ms.map (unitJ g)) := by
      unfold encJ
      rw [List.map_map]
      rfl
    rw [eJ]
    refine is_w 5 (sf_J U) ?_
    items_go
    show Wp (m_joint_net [encJ g (ms.map (unitJ g)), encR am, enc f] _) _ _
    refine jn_w U A3 hf.2 hf.1 ?_
    items_go
    show Wp (m_net [encB g ms, encR am, enc f] _) _ _
    refine net_w B A2 (by decide) (by decide) hf.2 hf.1 (Cl.hand hha hR2) ?_
    rw [vec_congr fun i hi => unit_net B f am hi]
    items_go
    refine is_w 5 (sf_encR 3 (by rw [vec_len]; omega)) ?_
    items_go
    refine mulT_w (n := 20) rfl (by decide) (by decide) (by simp; omega) ?_
    items_go
    refine draw_w (R := R ++ [.lst (ms.map fun m => encJM (unitJ g m))]) hha (n := 4) (by decide) (by decide) rfl fun wd hb hhb hwd => ?_
    items_go
    refine slLo (n := 17 + wd) (by omega) ?_
    items_go
    have ew : D.tup [.int (g : Int), .tup ((repL (ms.map FR.encM) 20).take (17 + wd))] = encB g ((repL ms 20).take (17 + wd)) := by
      unfold encB
      rw [repL_map, List.map_take]
    rw [ew]
    obtain ⟨W1, W2⟩ := wide_ok B (k := 17 + wd) (by omega) (by omega)
    refine word_wS (fs := [("most", .int 16)]) word_TooMany (Cl.hand hhb hR2) ?_ ?_
    · items_go
      exact jof_w W1 (Cl.hand hhb hR2) (fun hx => absurd hx (by rw [W2]; omega)) fun _ => ⟨rfl, [], by simp⟩
    items_go
    refine word_wG (fs := []) word_NoBook ?_
    items_go
    refine some_w hhb (by simp) (by simp) fun bb hc hhc hbb => ?_
    obtain ⟨k1, k2⟩ := bad_book J hbb
    items_go
    refine jof_bad k2.1 k1 ?_
    refine ⟨rfl, _, [], (List.append_nil _).symm, rfl, Cl.hand hhc hR2, ?_⟩
    items_go
    exact ⟨_, _, _, _, _, _, _, _, _, _, _, _, _, _, _, _, _, _, _, _, hc, _, rfl, rfl, hhc, hR2⟩
  · rintro env S ⟨x2, x3, x4, x5, x6, x7, x8, x9, x10, x11, x12, x13, x14, x15, x16, x17, x18, x19, x20, x21, h, R, rfl, rfl, hh, hR⟩
    items_go
    exact ⟨⟨rfl, by simp⟩, trivial⟩
theorem law_true (ns : List Int) (hl : ns.length ≤ 63) : ∃ S', m_law [.fz (ns.map D.int)] [] = .ok (.bl true) S' := by
  obtain ⟨d, S', e, rfl⟩ := (law_w ns hl).get
  exact ⟨S', e⟩
end K47

open PySem PySem.W PyProof.Rows
set_option maxHeartbeats 0 in
theorem PySem.Challenge.cw_everyprice_k47_whole_joint_books_and_net_holds : PySem.Challenge.rw_everyprice_k47_whole_joint_books_and_net.Holds := by
  w_on; o_law; k_head; (case hw => w_witness2)
  k_fill
  refine DL.walk_ofD (l := PySem.Challenge.rw_everyprice_k47_whole_joint_books_and_net) (n := 63) (k := 12) (x := "script") (cm := fun _ mg => DL.cmOf K47.rowsL mg) (mf := fun _ _ => K47.m_law) rfl (by decide) rfl ⟨rfl, by decide, by decide⟩ (fun w h Y => PySem.W.km_in_of Y) ?F (fun _ _ ns hl => K47.law_true ns hl)
  case F =>
    intro w mg fa h Y KX G hmg
    have hT := PySem.W.km_tabs_of Y
    refine' K47.head_mk KX G hmg hT ?m_NoBook ?i_NoBook ?m_NoPlan ?i_NoPlan ?m_NoFactor ?i_NoFactor ?m_TooMany ?i_TooMany ?m_NoJoint ?i_NoJoint ?m_GoodsError ?i_GoodsError ?u_NoBook_NoBook ?u_NoBook_NoPlan ?u_NoBook_NoFactor ?u_NoBook_TooMany ?u_NoBook_NoJoint ?u_NoBook_GoodsError ?u_NoPlan_NoBook ?u_NoPlan_NoPlan ?u_NoPlan_NoFactor ?u_NoPlan_TooMany ?u_NoPlan_NoJoint ?u_NoPlan_GoodsError ?u_NoFactor_NoBook ?u_NoFactor_NoPlan ?u_NoFactor_NoFactor ?u_NoFactor_TooMany ?u_NoFactor_NoJoint ?u_NoFactor_GoodsError ?u_TooMany_NoBook ?u_TooMany_NoPlan ?u_TooMany_NoFactor ?u_TooMany_TooMany ?u_TooMany_NoJoint ?u_TooMany_GoodsError ?u_NoJoint_NoBook ?u_NoJoint_NoPlan ?u_NoJoint_NoFactor ?u_NoJoint_TooMany ?u_NoJoint_NoJoint ?u_NoJoint_GoodsError ?x_NoBook ?x_NoPlan ?x_NoFactor ?ce_TooMany ?cr_TooMany ?cs_TooMany ?ci_TooMany ?ct_TooMany ?cn_TooMany ?cl_TooMany ?ch_TooMany ?ck_TooMany ?x_NoJoint ?z_abs ?z_all ?z_bool ?z_int ?z_isinstance ?z_len ?z_list ?z_range ?z_str ?z_tuple ?z_zip ?ka_MOST_GOODS ?ka_MOST_METHODS ?ka_ZERO ?kl_ZERO ?kv_ZERO ?ka_MOST_JOINT ?ka_ONE ?kl_ONE ?kv_ONE ?a__law_word ?l__law_word ?h__law_word ?k__law_word ?a_is_integer ?l_is_integer ?h_is_integer ?k_is_integer ?a_is_within ?l_is_within ?h_is_within ?k_is_within ?a_is_sized ?l_is_sized ?h_is_sized ?k_is_sized ?a_common ?l_common ?h_common ?k_common ?a_share ?l_share ?h_share ?k_share ?a_is_share ?l_is_share ?h_is_share ?k_is_share ?a_plus ?l_plus ?h_plus ?k_plus ?a_minus ?l_minus ?h_minus ?k_minus ?a_times ?l_times ?h_times ?k_times ?a_is_amount ?l_is_amount ?h_is_amount ?k_is_amount ?a_are_amounts ?l_are_amounts ?h_are_amounts ?k_are_amounts ?a_is_method ?l_is_method ?h_is_method ?k_is_method ?a_is_book ?l_is_book ?h_is_book ?k_is_book ?a_check_book ?l_check_book ?h_check_book ?k_check_book ?a_is_plan_of ?l_is_plan_of ?h_is_plan_of ?k_is_plan_of ?a_check_plan ?l_check_plan ?h_check_plan ?k_check_plan ?a_check_factor ?l_check_factor ?h_check_factor ?k_check_factor ?a_made_by ?l_made_by ?h_made_by ?k_made_by ?a_used_by ?l_used_by ?h_used_by ?k_used_by ?a_net_of ?l_net_of ?h_net_of ?k_net_of ?a_net ?l_net ?h_net ?k_net ?a_dot ?l_dot ?h_dot ?k_dot ?a_is_joint_method ?l_is_joint_method ?h_is_joint_method ?k_is_joint_method ?a_is_joint ?l_is_joint ?h_is_joint ?k_is_joint ?a_joint_of ?l_joint_of ?h_joint_of ?k_joint_of ?a_check ?l_check ?h_check ?k_check ?a_net_of_method ?l_net_of_method ?h_net_of_method ?k_net_of_method ?a_net_rows ?l_net_rows ?h_net_rows ?k_net_rows ?a_raw_net ?l_raw_net ?h_raw_net ?k_raw_net ?a_joint_net ?l_joint_net ?h_joint_net ?k_joint_net ?a__law_hand ?l__law_hand ?h__law_hand ?k__law_hand ?a__law_draw ?l__law_draw ?h__law_draw ?k__law_draw ?a__law_some ?l__law_some ?h__law_some ?k__law_some ?a__law_low ?l__law_low ?h__law_low ?k__law_low ?a__law_plus ?l__law_plus ?h__law_plus ?k__law_plus ?a__law_minus ?l__law_minus ?h__law_minus ?k__law_minus ?a__law_times ?l__law_times ?h__law_times ?k__law_times ?a__law_sum ?l__law_sum ?h__law_sum ?k__law_sum ?a__law_amount ?l__law_amount ?h__law_amount ?k__law_amount ?a__law_method ?l__law_method ?h__law_method ?k__law_method ?a__law_joint ?l__law_joint ?h__law_joint ?k__law_joint ?a__law_net ?l__law_net ?h__law_net ?k__law_net ?a__law_factor ?l__law_factor ?h__law_factor ?k__law_factor ?a__law_deep ?l__law_deep ?h__law_deep ?k__law_deep ?a__law_odd ?l__law_odd ?h__law_odd ?k__law_odd ?a__law_is ?l__law_is ?h__law_is ?k__law_is ?a__law_bent ?l__law_bent ?h__law_bent ?k__law_bent ?a_law ?l_law ?h_law ?k_law ?tc_law ?tp_law ?ti_law ?to_law ?tl_law ?nt
    (case m_NoBook => k_is)
    (case i_NoBook => exact ⟨⟨by k_is, by k_is, by k_is, by k_is, by k_is, by k_is, by k_is, by k_is⟩, by k_is, by k_is, by k_is⟩)
    (case m_NoPlan => k_is)
    (case i_NoPlan => exact ⟨⟨by k_is, by k_is, by k_is, by k_is, by k_is, by k_is, by k_is, by k_is⟩, by k_is, by k_is, by k_is⟩)
    (case m_NoFactor => k_is)
    (case i_NoFactor => exact ⟨⟨by k_is, by k_is, by k_is, by k_is, by k_is, by k_is, by k_is, by k_is⟩, by k_is, by k_is, by k_is⟩)
    (case m_TooMany => k_is)
    (case i_TooMany => exact ⟨⟨by k_is, by k_is, by k_is, by k_is, by k_is, by k_is, by k_is, by k_is⟩, by k_is, by k_is, by k_is⟩)
    (case m_NoJoint => k_is)
    (case i_NoJoint => exact ⟨⟨by k_is, by k_is, by k_is, by k_is, by k_is, by k_is, by k_is, by k_is⟩, by k_is, by k_is, by k_is⟩)
    (case m_GoodsError => k_is)
    (case i_GoodsError => exact ⟨⟨by k_is, by k_is, by k_is, by k_is, by k_is, by k_is, by k_is, by k_is⟩, by k_is, by k_is, by k_is⟩)
    (case u_NoBook_NoBook => k_is)
    (case u_NoBook_NoPlan => k_is)
    (case u_NoBook_NoFactor => k_is)
    (case u_NoBook_TooMany => k_is)
    (case u_NoBook_NoJoint => k_is)
    (case u_NoBook_GoodsError => k_is)
    (case u_NoPlan_NoBook => k_is)
    (case u_NoPlan_NoPlan => k_is)
    (case u_NoPlan_NoFactor => k_is)
    (case u_NoPlan_TooMany => k_is)
    (case u_NoPlan_NoJoint => k_is)
    (case u_NoPlan_GoodsError => k_is)
    (case u_NoFactor_NoBook => k_is)
    (case u_NoFactor_NoPlan => k_is)
    (case u_NoFactor_NoFactor => k_is)
    (case u_NoFactor_TooMany => k_is)
    (case u_NoFactor_NoJoint => k_is)
    (case u_NoFactor_GoodsError => k_is)
    (case u_TooMany_NoBook => k_is)
    (case u_TooMany_NoPlan => k_is)
    (case u_TooMany_NoFactor => k_is)
    (case u_TooMany_TooMany => k_is)
    (case u_TooMany_NoJoint => k_is)
    (case u_TooMany_GoodsError => k_is)
    (case u_NoJoint_NoBook => k_is)
    (case u_NoJoint_NoPlan => k_is)
    (case u_NoJoint_NoFactor => k_is)
    (case u_NoJoint_TooMany => k_is)
    (case u_NoJoint_NoJoint => k_is)
    (case u_NoJoint_GoodsError => k_is)
    (case x_NoBook => kernel_rfl)
    (case x_NoPlan => kernel_rfl)
    (case x_NoFactor => kernel_rfl)
    (case ce_TooMany => k_is)
    (case cr_TooMany => first | rfl | kernel_rfl | decide)
    (case cs_TooMany => k_is)
    (case ci_TooMany => k_is)
    (case ct_TooMany => k_is)
    (case cn_TooMany => k_is)
    (case cl_TooMany => k_is)
    (case ch_TooMany => k_is)
    (case ck_TooMany => k_is)
    (case x_NoJoint => kernel_rfl)
    (case z_abs => k_is)
    (case z_all => k_is)
    (case z_bool => k_is)
    (case z_int => k_is)
    (case z_isinstance => k_is)
    (case z_len => k_is)
    (case z_list => k_is)
    (case z_range => k_is)
    (case z_str => k_is)
    (case z_tuple => k_is)
    (case z_zip => k_is)
    (case ka_MOST_GOODS => k_is)
    (case ka_MOST_METHODS => k_is)
    (case ka_ZERO => k_is)
    (case kl_ZERO => k_is)
    (case kv_ZERO => repeat (first | exact .nil | refine .cons ⟨_, rfl⟩ ?_))
    (case ka_MOST_JOINT => k_is)
    (case ka_ONE => k_is)
    (case kl_ONE => k_is)
    (case kv_ONE => repeat (first | exact .nil | refine .cons ⟨_, rfl⟩ ?_))
    (case a__law_word => k_is)
    (case l__law_word => k_is)
    (case h__law_word => k_is)
    (case k__law_word => k_is)
    (case a_is_integer => k_is)
    (case l_is_integer => k_is)
    (case h_is_integer => k_is)
    (case k_is_integer => k_is)
    (case a_is_within => k_is)
    (case l_is_within => k_is)
    (case h_is_within => k_is)
    (case k_is_within => k_is)
    (case a_is_sized => k_is)
    (case l_is_sized => k_is)
    (case h_is_sized => k_is)
    (case k_is_sized => k_is)
    (case a_common => k_is)
    (case l_common => k_is)
    (case h_common => k_is)
    (case k_common => k_is)
    (case a_share => k_is)
    (case l_share => k_is)
    (case h_share => k_is)
    (case k_share => k_is)
    (case a_is_share => k_is)
    (case l_is_share => k_is)
    (case h_is_share => k_is)
    (case k_is_share => k_is)
    (case a_plus => k_is)
    (case l_plus => k_is)
    (case h_plus => k_is)
    (case k_plus => k_is)
    (case a_minus => k_is)
    (case l_minus => k_is)
    (case h_minus => k_is)
    (case k_minus => k_is)
    (case a_times => k_is)
    (case l_times => k_is)
    (case h_times => k_is)
    (case k_times => k_is)
    (case a_is_amount => k_is)
    (case l_is_amount => k_is)
    (case h_is_amount => k_is)
    (case k_is_amount => k_is)
    (case a_are_amounts => k_is)
    (case l_are_amounts => k_is)
    (case h_are_amounts => k_is)
    (case k_are_amounts => k_is)
    (case a_is_method => k_is)
    (case l_is_method => k_is)
    (case h_is_method => k_is)
    (case k_is_method => k_is)
    (case a_is_book => k_is)
    (case l_is_book => k_is)
    (case h_is_book => k_is)
    (case k_is_book => k_is)
    (case a_check_book => k_is)
    (case l_check_book => k_is)
    (case h_check_book => k_is)
    (case k_check_book => k_is)
    (case a_is_plan_of => k_is)
    (case l_is_plan_of => k_is)
    (case h_is_plan_of => k_is)
    (case k_is_plan_of => k_is)
    (case a_check_plan => k_is)
    (case l_check_plan => k_is)
    (case h_check_plan => k_is)
    (case k_check_plan => k_is)
    (case a_check_factor => k_is)
    (case l_check_factor => k_is)
    (case h_check_factor => k_is)
    (case k_check_factor => k_is)
    (case a_made_by => k_is)
    (case l_made_by => k_is)
    (case h_made_by => k_is)
    (case k_made_by => k_is)
    (case a_used_by => k_is)
    (case l_used_by => k_is)
    (case h_used_by => k_is)
    (case k_used_by => k_is)
    (case a_net_of => k_is)
    (case l_net_of => k_is)
    (case h_net_of => k_is)
    (case k_net_of => k_is)
    (case a_net => k_is)
    (case l_net => k_is)
    (case h_net => k_is)
    (case k_net => k_is)
    (case a_dot => k_is)
    (case l_dot => k_is)
    (case h_dot => k_is)
    (case k_dot => k_is)
    (case a_is_joint_method => k_is)
    (case l_is_joint_method => k_is)
    (case h_is_joint_method => k_is)
    (case k_is_joint_method => k_is)
    (case a_is_joint => k_is)
    (case l_is_joint => k_is)
    (case h_is_joint => k_is)
    (case k_is_joint => k_is)
    (case a_joint_of => k_is)
    (case l_joint_of => k_is)
    (case h_joint_of => k_is)
    (case k_joint_of => k_is)
    (case a_check => k_is)
    (case l_check => k_is)
    (case h_check => k_is)
    (case k_check => k_is)
    (case a_net_of_method => k_is)
    (case l_net_of_method => k_is)
    (case h_net_of_method => k_is)
    (case k_net_of_method => k_is)
    (case a_net_rows => k_is)
    (case l_net_rows => k_is)
    (case h_net_rows => k_is)
    (case k_net_rows => k_is)
    (case a_raw_net => k_is)
    (case l_raw_net => k_is)
    (case h_raw_net => k_is)
    (case k_raw_net => k_is)
    (case a_joint_net => k_is)
    (case l_joint_net => k_is)
    (case h_joint_net => k_is)
    (case k_joint_net => k_is)
    (case a__law_hand => k_is)
    (case l__law_hand => k_is)
    (case h__law_hand => k_is)
    (case k__law_hand => k_is)
    (case a__law_draw => k_is)
    (case l__law_draw => k_is)
    (case h__law_draw => k_is)
    (case k__law_draw => k_is)
    (case a__law_some => k_is)
    (case l__law_some => k_is)
    (case h__law_some => k_is)
    (case k__law_some => k_is)
    (case a__law_low => k_is)
    (case l__law_low => k_is)
    (case h__law_low => k_is)
    (case k__law_low => k_is)
    (case a__law_plus => k_is)
    (case l__law_plus => k_is)
    (case h__law_plus => k_is)
    (case k__law_plus => k_is)
    (case a__law_minus => k_is)
    (case l__law_minus => k_is)
    (case h__law_minus => k_is)
    (case k__law_minus => k_is)
    (case a__law_times => k_is)
    (case l__law_times => k_is)
    (case h__law_times => k_is)
    (case k__law_times => k_is)
    (case a__law_sum => k_is)
    (case l__law_sum => k_is)
    (case h__law_sum => k_is)
    (case k__law_sum => k_is)
    (case a__law_amount => k_is)
    (case l__law_amount => k_is)
    (case h__law_amount => k_is)
    (case k__law_amount => k_is)
    (case a__law_method => k_is)
    (case l__law_method => k_is)
    (case h__law_method => k_is)
    (case k__law_method => k_is)
    (case a__law_joint => k_is)
    (case l__law_joint => k_is)
    (case h__law_joint => k_is)
    (case k__law_joint => k_is)
    (case a__law_net => k_is)
    (case l__law_net => k_is)
    (case h__law_net => k_is)
    (case k__law_net => k_is)
    (case a__law_factor => k_is)
    (case l__law_factor => k_is)
    (case h__law_factor => k_is)
    (case k__law_factor => k_is)
    (case a__law_deep => k_is)
    (case l__law_deep => k_is)
    (case h__law_deep => k_is)
    (case k__law_deep => k_is)
    (case a__law_odd => k_is)
    (case l__law_odd => k_is)
    (case h__law_odd => k_is)
    (case k__law_odd => k_is)
    (case a__law_is => k_is)
    (case l__law_is => k_is)
    (case h__law_is => k_is)
    (case k__law_is => k_is)
    (case a__law_bent => k_is)
    (case l__law_bent => k_is)
    (case h__law_bent => k_is)
    (case k__law_bent => k_is)
    (case a_law => k_is)
    (case l_law => k_is)
    (case h_law => k_is)
    (case k_law => k_is)
    (case tc_law => k_is)
    (case tp_law => rfl)
    (case ti_law => kernel_rfl)
    (case to_law => exact hT _ (by k_mem))
    (case tl_law => kernel_rfl)
    (case nt => decide)

