import PyProof.Rows.All
import Wide.All
import OpenK.AllK
import Wide.FinOn
import HandS.ForMost
import HandS.ForExc
import HandS.Wide
import HandS.TupAny
import HandS.Style
import HandS.IsInst
import HandS.Deep
import HandS.TupMul
import KE.GoesNew
import KE.GoesMore
import HandS.WordsExc
import HandS.More
import PyProof.ReprRoads
import PyProof.ReprLen
import KE.KDictZip
import PyProof.ListNew
import PySem.Challenge.RW_everyprice_k23_whole_shops_led
set_option Elab.async false
set_option linter.all false
set_option maxRecDepth 100000
set_option exponentiation.threshold 500000
namespace DL
open PySem PySem.Spec PyProof.Rows L2

/-! data, mutable lists, outcomes -/
inductive D where
  | non | bl (b : Bool) | int (i : Int) | str (x : Str) | tup (xs : List D) | vl (xs : List D) | fz (xs : List D) | ref (p : Nat) | dct
structure Exn where
  cls : Str
  fs : List (Str × D)
inductive DO where
  | lst (xs : List D)
abbrev DS := List DO
abbrev DE := List (Option D)
inductive Ou (α : Type) where
  | ok (a : α) (S : DS) | ex (x : Exn) (S : DS) | no
def Ou.bind {α β : Type} (m : Ou α) (f : α → DS → Ou β) : Ou β := match m with
  | .ok a S => f a S
  | .ex x S => .ex x S
  | .no => .no
@[simp] theorem bind_ok {α β : Type} (a : α) (S : DS) (f : α → DS → Ou β) : (Ou.ok a S).bind f = f a S := (rfl)
@[simp] theorem bind_ex {α β : Type} (x : Exn) (S : DS) (f : α → DS → Ou β) : (Ou.ex x S).bind f = .ex x S := (rfl)
@[simp] theorem bind_no {α β : Type} (f : α → DS → Ou β) : (Ou.no : Ou α).bind f = .no := (rfl)

/-! how data lie in the heap. al: the addresses of the mutable lists, by number; xl: lists under construction -/
mutual
inductive Rep (K : PySem.W.Frag) (xl al : List Addr) (H : Hp) : D → V → Prop where
  | non : Rep K xl al H .non .non
  | bl (b : Bool) : Rep K xl al H (.bl b) (.bl b)
  | int (i : Int) : Rep K xl al H (.int i) (.int i)
  | str (x : Str) : Rep K xl al H (.str x) (.str x)
  | tup {xs : List D} {vs : List V} {a : Addr} : SqT K H a vs → Reps K xl al H xs vs → Rep K xl al H (.tup xs) (.ref a)
  | vl {xs : List D} {vs : List V} {a : Addr} : H a = some (.lst vs) → a ∉ al → a ∉ xl → Reps K xl al H xs vs → Rep K xl al H (.vl xs) (.ref a)
  | fz {xs : List D} {vs : List V} {a : Addr} {o : Obj} : H a = some (.frz o (.lst vs)) → a ∉ al → Reps K xl al H xs vs → Rep K xl al H (.fz xs) (.ref a)
  | fzK {xs : List D} {vs : List V} {a : Addr} {o : Obj} : K.lookup a = some o → o.cls = .type "list" → (∀ H, SqL K H a vs) → Reps K xl al H xs vs → Rep K xl al H (.fz xs) (.ref a)
  | ref {p : Nat} {a : Addr} : al[p]? = some a → Rep K xl al H (.ref p) (.ref a)
  | dct {kvs : List (Key × V)} {a : Addr} : H a = some (.dK kvs) → a ∉ al → Rep K xl al H .dct (.ref a)
inductive Reps (K : PySem.W.Frag) (xl al : List Addr) (H : Hp) : List D → List V → Prop where
  | nil : Reps K xl al H [] []
  | cons {d : D} {v : V} {ds : List D} {vs : List V} : Rep K xl al H d v → Reps K xl al H ds vs → Reps K xl al H (d :: ds) (v :: vs)
end

structure Ext (al : List Addr) (H : Hp) (al' : List Addr) (H' : Hp) : Prop where
  pre : ∃ more, al' = al ++ more
  fr : ∀ a o, a ∉ al → H a = some o → H' a = some o
  tup : ∀ a vs, Rd H a (.tup vs) → Rd H' a (.tup vs)
  new : ∀ a, a ∈ al' → a ∉ al → H a = none
theorem Ext.refl (al : List Addr) (H : Hp) : Ext al H al H := ⟨⟨[], by simp⟩, fun _ _ _ h => h, fun _ _ h => h, fun _ h n => absurd h n⟩
theorem Ext.trans {al al1 al2 : List Addr} {H H1 H2 : Hp} (e : Ext al H al1 H1) (f : Ext al1 H1 al2 H2) : Ext al H al2 H2 := by
  refine ⟨?_, fun a o n h => ?_, fun a vs h => f.tup a vs (e.tup a vs h), fun a h n => ?_⟩
  · obtain ⟨m1, e1⟩ := e.pre
    obtain ⟨m2, e2⟩ := f.pre
    exact ⟨m1 ++ m2, by rw [e2, e1, List.append_assoc]⟩
  · refine f.fr a o (fun h1 => ?_) (e.fr a o n h)
    have := e.new a h1 n
    rw [h] at this; cases this
  · by_cases h1 : a ∈ al1
    · exact e.new a h1 n
    · cases q : H a with
      | none => rfl
      | some o =>
        have := f.new a h h1
        rw [e.fr a o n q] at this; cases this
theorem Ext.get {al al' : List Addr} {H H' : Hp} (e : Ext al H al' H') {p : Nat} {a : Addr} (h : al[p]? = some a) : al'[p]? = some a := by
  obtain ⟨m, rfl⟩ := e.pre
  have hl : p < al.length := by
    by_cases hl : p < al.length
    · exact hl
    · rw [List.getElem?_eq_none (by omega)] at h; cases h
  rw [List.getElem?_append_left hl]
  exact h
theorem rd_some {H : Hp} {a : Addr} {u : HO} (h : Rd H a u) : ∃ o, H a = some o := by
  rcases h with h | ⟨o, h⟩
  · exact ⟨_, h⟩
  · exact ⟨_, h⟩

section
variable {K : PySem.W.Frag} {xl xl' al al' : List Addr} {H H' : Hp}
theorem Ext.sqt (e : Ext al H al' H') {a : Addr} {vs : List V} (h : SqT K H a vs) : SqT K H' a vs := by
  rcases h with h | h
  · exact .inl (e.tup a vs h)
  · exact .inr h
theorem Ext.rd (e : Ext al H al' H') {a : Addr} {u : HO} (n : a ∉ al) (h : Rd H a u) : Rd H' a u := by
  rcases h with h | ⟨o, h⟩
  · exact .inl (e.fr _ _ n h)
  · exact .inr ⟨o, e.fr _ _ n h⟩
theorem Ext.nin (e : Ext al H al' H') {a : Addr} {u : HO} (n : a ∉ al) (h : H a = some u) : a ∉ al' := fun m => by
  rw [e.new a m n] at h; cases h
mutual
theorem Rep.mono (e : Ext al H al' H') : ∀ {d : D} {v : V}, Rep K xl al H d v → Rep K xl al' H' d v
  | _, _, .non => .non
  | _, _, .bl b => .bl b
  | _, _, .int i => .int i
  | _, _, .str x => .str x
  | _, _, .tup h r => .tup (e.sqt h) (r.mono e)
  | _, _, .vl h n n' r => .vl (e.fr _ _ n h) (e.nin n h) n' (r.mono e)
  | _, _, .fz h n r => .fz (e.fr _ _ n h) (e.nin n h) (r.mono e)
  | _, _, .fzK k c h r => .fzK k c h (r.mono e)
  | _, _, .ref h => .ref (e.get h)
  | _, _, .dct h n => .dct (e.fr _ _ n h) (e.nin n h)
theorem Reps.mono (e : Ext al H al' H') : ∀ {ds : List D} {vs : List V}, Reps K xl al H ds vs → Reps K xl al' H' ds vs
  | _, _, .nil => .nil
  | _, _, .cons h r => .cons (h.mono e) (r.mono e)
end
mutual
/-- fewer lists under construction -/
theorem Rep.less (s : ∀ a, a ∈ xl' → a ∈ xl) : ∀ {d : D} {v : V}, Rep K xl al H d v → Rep K xl' al H d v
  | _, _, .non => .non
  | _, _, .bl b => .bl b
  | _, _, .int i => .int i
  | _, _, .str x => .str x
  | _, _, .tup h r => .tup h (r.less s)
  | _, _, .vl h n n' r => .vl h n (fun m => n' (s _ m)) (r.less s)
  | _, _, .fz h n r => .fz h n (r.less s)
  | _, _, .fzK k c h r => .fzK k c h (r.less s)
  | _, _, .ref h => .ref h
  | _, _, .dct h n => .dct h n
theorem Reps.less (s : ∀ a, a ∈ xl' → a ∈ xl) : ∀ {ds : List D} {vs : List V}, Reps K xl al H ds vs → Reps K xl' al H ds vs
  | _, _, .nil => .nil
  | _, _, .cons h r => .cons (h.less s) (r.less s)
end
mutual
/-- a new list under construction: no data speak of it -/
theorem Rep.more {q : Addr} (hq : H q = none) : ∀ {d : D} {v : V}, Rep K xl al H d v → Rep K (q :: xl) al H d v
  | _, _, .non => .non
  | _, _, .bl b => .bl b
  | _, _, .int i => .int i
  | _, _, .str x => .str x
  | _, _, .tup h r => .tup h (r.more hq)
  | _, _, .vl h n n' r => .vl h n (fun m => by
      rcases List.mem_cons.mp m with e | m
      · subst e
        rw [hq] at h; cases h
      · exact n' m) (r.more hq)
  | _, _, .fz h n r => .fz h n (r.more hq)
  | _, _, .fzK k c h r => .fzK k c h (r.more hq)
  | _, _, .ref h => .ref h
  | _, _, .dct h n => .dct h n
theorem Reps.more {q : Addr} (hq : H q = none) : ∀ {ds : List D} {vs : List V}, Reps K xl al H ds vs → Reps K (q :: xl) al H ds vs
  | _, _, .nil => .nil
  | _, _, .cons h r => .cons (h.more hq) (r.more hq)
end
mutual
/-- the list under construction at q has grown -/
theorem Rep.atx {q : Addr} {us us' : List V} (hq : H q = some (.lst us)) (hm : q ∈ xl) : ∀ {d : D} {v : V}, Rep K xl al H d v → Rep K xl al (upd H q (.lst us')) d v
  | _, _, .non => .non
  | _, _, .bl b => .bl b
  | _, _, .int i => .int i
  | _, _, .str x => .str x
  | _, _, .tup (a := a) (vs := vs) h r => .tup (by
      rcases h with h | h
      · refine .inl ?_
        rcases h with h | ⟨o, h⟩
        · exact .inl (by rw [upd_ne (ne_of h hq (by intro z; cases z))]; exact h)
        · exact .inr ⟨o, by rw [upd_ne (ne_of h hq (by intro z; cases z))]; exact h⟩
      · exact .inr h) (r.atx hq hm)
  | _, _, .vl (a := a) h n n' r => .vl (by
      have ne : a ≠ q := fun e => n' (e ▸ hm)
      rw [upd_ne ne]; exact h) n n' (r.atx hq hm)
  | _, _, .fz (a := a) h n r => .fz (by rw [upd_ne (ne_of h hq (by intro z; cases z))]; exact h) n (r.atx hq hm)
  | _, _, .fzK k c h r => .fzK k c h (r.atx hq hm)
  | _, _, .ref h => .ref h
  | _, _, .dct h n => .dct (by rw [upd_ne (ne_of h hq (by intro z; cases z))]; exact h) n
theorem Reps.atx {q : Addr} {us us' : List V} (hq : H q = some (.lst us)) (hm : q ∈ xl) : ∀ {ds : List D} {vs : List V}, Reps K xl al H ds vs → Reps K xl al (upd H q (.lst us')) ds vs
  | _, _, .nil => .nil
  | _, _, .cons h r => .cons (h.atx hq hm) (r.atx hq hm)
end
theorem Reps.length : ∀ {ds : List D} {vs : List V}, Reps K xl al H ds vs → ds.length = vs.length
  | _, _, .nil => rfl
  | _, _, .cons _ r => by rw [List.length_cons, List.length_cons, r.length]
theorem Reps.get : ∀ {ds : List D} {vs : List V} {i : Nat} {d : D}, Reps K xl al H ds vs → ds[i]? = some d → ∃ v, vs[i]? = some v ∧ Rep K xl al H d v
  | _, _, _, _, .nil, e => by simp at e
  | _, _, 0, _, .cons h _, e => by
    simp at e; subst e
    exact ⟨_, rfl, h⟩
  | _, _, i + 1, _, .cons _ r, e => by
    obtain ⟨v, h1, h2⟩ := r.get (i := i) (by simpa using e)
    exact ⟨v, by simpa using h1, h2⟩
theorem Reps.getV : ∀ {ds : List D} {vs : List V} {i : Nat} {v : V}, Reps K xl al H ds vs → vs[i]? = some v → ∃ d, ds[i]? = some d ∧ Rep K xl al H d v
  | _, _, _, _, .nil, e => by simp at e
  | _, _, 0, _, .cons h _, e => by
    simp at e; subst e
    exact ⟨_, rfl, h⟩
  | _, _, i + 1, _, .cons _ r, e => by
    obtain ⟨v, h1, h2⟩ := r.getV (i := i) (by simpa using e)
    exact ⟨v, by simpa using h1, h2⟩
theorem Reps.append : ∀ {ds es : List D} {vs ws : List V}, Reps K xl al H ds vs → Reps K xl al H es ws → Reps K xl al H (ds ++ es) (vs ++ ws)
  | _, _, _, _, .nil, s => s
  | _, _, _, _, .cons h r, s => .cons h (r.append s)
theorem Reps.set {d : D} {v : V} (h : Rep K xl al H d v) : ∀ {ds : List D} {vs : List V} (i : Nat), Reps K xl al H ds vs → Reps K xl al H (ds.set i d) (vs.set i v)
  | _, _, _, .nil => .nil
  | _, _, 0, .cons _ r => .cons h r
  | _, _, i + 1, .cons q r => .cons q (r.set h i)
theorem Reps.take : ∀ {ds : List D} {vs : List V} (n : Nat), Reps K xl al H ds vs → Reps K xl al H (ds.take n) (vs.take n)
  | _, _, 0, _ => .nil
  | _, _, _ + 1, .nil => .nil
  | _, _, n + 1, .cons h r => .cons h (r.take n)
theorem Reps.drop : ∀ {ds : List D} {vs : List V} (n : Nat), Reps K xl al H ds vs → Reps K xl al H (ds.drop n) (vs.drop n)
  | _, _, 0, r => r
  | _, _, _ + 1, .nil => .nil
  | _, _, n + 1, .cons h r => r.drop n
theorem Reps.reverse : ∀ {ds : List D} {vs : List V}, Reps K xl al H ds vs → Reps K xl al H ds.reverse vs.reverse
  | _, _, .nil => .nil
  | _, _, .cons h r => by
    rw [List.reverse_cons, List.reverse_cons]
    exact r.reverse.append (.cons h .nil)

/-- the state lies in the heap -/
structure Wd (K : PySem.W.Frag) (xl : List Addr) (S : DS) (al : List Addr) (H : Hp) : Prop where
  nd : al.Nodup
  len : al.length = S.length
  ob : ∀ (p : Nat) (xs : List D), S[p]? = some (DO.lst xs) → ∃ a vs, al[p]? = some a ∧ H a = some (.lst vs) ∧ Reps K xl al H xs vs
  xs : ∀ a, a ∈ xl → a ∉ al ∧ H a ≠ none
theorem Wd.at {S : DS} (w : Wd K xl S al H) {a : Addr} (h : a ∈ al) : ∃ (p : Nat) (vs : List V), al[p]? = some a ∧ H a = some (.lst vs) := by
  obtain ⟨p, hp, e⟩ := List.mem_iff_getElem.mp h
  have hS : p < S.length := by rw [← w.len]; exact hp
  have e' : al[p]? = some a := by rw [List.getElem?_eq_getElem hp, e]
  obtain ⟨xs, ex⟩ : ∃ xs, S[p]? = some (DO.lst xs) := by
    rw [List.getElem?_eq_getElem hS]
    cases S[p] with
    | lst xs => exact ⟨xs, rfl⟩
  obtain ⟨a', vs, h1, h2, _⟩ := w.ob p xs ex
  rw [e'] at h1; cases h1
  exact ⟨p, vs, e', h2⟩
theorem Wd.new {S : DS} (w : Wd K xl S al H) {p : Addr} (hp : H p = none) : p ∉ al ∧ p ∉ xl := by
  refine ⟨fun h => ?_, fun h => ?_⟩
  · obtain ⟨_, _, _, e⟩ := w.at h
    rw [hp] at e; cases e
  · exact (w.xs p h).2 hp
theorem ext_new {p : Addr} {o : HO} (hp : H p = none) : Ext al H al (upd H p o) := by
  refine ⟨⟨[], by simp⟩, fun a o' _ h => ?_, fun a vs h => ?_, fun a h n => absurd h n⟩
  · rw [upd_ne (ne_of_none h hp)]; exact h
  · rcases h with h | ⟨o', h⟩
    · exact .inl (by rw [upd_ne (ne_of_none h hp)]; exact h)
    · exact .inr ⟨o', by rw [upd_ne (ne_of_none h hp)]; exact h⟩
/-- the lists as they stood -/
theorem Wd.keep {S : DS} (w : Wd K xl S al H) (e : Ext al H al H') (k : ∀ a, a ∈ al → H' a = H a) : Wd K xl S al H' := by
  refine ⟨w.nd, w.len, fun p xs h => ?_, fun a h => ⟨(w.xs a h).1, ?_⟩⟩
  · obtain ⟨a, vs, h1, h2, h3⟩ := w.ob p xs h
    exact ⟨a, vs, h1, by rw [k a (List.mem_of_getElem? h1)]; exact h2, h3.mono e⟩
  · obtain ⟨h1, h2⟩ := w.xs a h
    cases q : H a with
    | none => exact absurd q h2
    | some o =>
      rw [e.fr a o h1 q]
      intro z; cases z
theorem Wd.put {S : DS} {p : Addr} {o : HO} (w : Wd K xl S al H) (hp : H p = none) : Wd K xl S al (upd H p o) :=
  w.keep (ext_new hp) fun a h => upd_ne fun e => (w.new hp).1 (e ▸ h)
theorem Rep.newTup {S : DS} {p : Addr} {xs : List D} {vs : List V} (hp : H p = none) (r : Reps K xl al H xs vs) : Rep K xl al (upd H p (.tup vs)) (.tup xs) (.ref p) :=
  .tup (.inl (.inl upd_same)) (r.mono (ext_new hp))
theorem Rep.newLst {S : DS} {p : Addr} {xs : List D} {vs : List V} (w : Wd K xl S al H) (hp : H p = none) (r : Reps K xl al H xs vs) : Rep K xl al (upd H p (.lst vs)) (.vl xs) (.ref p) :=
  .vl upd_same (w.new hp).1 (w.new hp).2 (r.mono (ext_new hp))
theorem ext_ref {S : DS} {p : Addr} {o : HO} (w : Wd K xl S al H) (hp : H p = none) : Ext al H (al ++ [p]) (upd H p o) := by
  refine ⟨⟨[p], rfl⟩, fun a o' _ h => ?_, fun a vs h => ?_, fun a h n => ?_⟩
  · rw [upd_ne (ne_of_none h hp)]; exact h
  · rcases h with h | ⟨o', h⟩
    · exact .inl (by rw [upd_ne (ne_of_none h hp)]; exact h)
    · exact .inr ⟨o', by rw [upd_ne (ne_of_none h hp)]; exact h⟩
  · rcases List.mem_append.mp h with h | h
    · exact absurd h n
    · rw [List.mem_singleton.mp h]; exact hp
theorem Wd.addRef {S : DS} {p : Addr} {xs : List D} {vs : List V} (w : Wd K xl S al H) (hp : H p = none) (r : Reps K xl al H xs vs) : Wd K xl (S ++ [.lst xs]) (al ++ [p]) (upd H p (.lst vs)) := by
  have e := ext_ref (o := .lst vs) w hp
  obtain ⟨n1, n2⟩ := w.new hp
  refine ⟨?_, by simp [w.len], fun q ys h => ?_, fun a h => ?_⟩
  · rw [List.nodup_append]
    exact ⟨w.nd, by simp, fun a ha b hb z => by rw [List.mem_singleton.mp hb] at z; exact n1 (z ▸ ha)⟩
  · by_cases hq : q < S.length
    · rw [List.getElem?_append_left hq] at h
      obtain ⟨a, ws, h1, h2, h3⟩ := w.ob q ys h
      refine ⟨a, ws, e.get h1, ?_, h3.mono e⟩
      rw [upd_ne (ne_of_none h2 hp)]; exact h2
    · have hq2 : q = S.length := by
        by_cases z : q < (S ++ [DO.lst xs]).length
        · simp at z; omega
        · rw [List.getElem?_eq_none (by omega)] at h; cases h
      subst hq2
      rw [List.getElem?_append_right (Nat.le_refl _), Nat.sub_self] at h
      simp at h; subst h
      refine ⟨p, vs, ?_, upd_same, r.mono e⟩
      rw [← w.len, List.getElem?_append_right (Nat.le_refl _), Nat.sub_self]; rfl
  · obtain ⟨h1, h2⟩ := w.xs a h
    refine ⟨fun z => ?_, ?_⟩
    · rcases List.mem_append.mp z with z | z
      · exact h1 z
      · rw [List.mem_singleton.mp z] at h; exact n2 h
    · unfold upd
      split
      · intro z; cases z
      · exact h2
theorem ext_write {a : Addr} {vs ws : List V} (ha : a ∈ al) (h : H a = some (.lst vs)) : Ext al H al (upd H a (.lst ws)) := by
  refine ⟨⟨[], by simp⟩, fun b o n q => ?_, fun b us q => ?_, fun b h n => absurd h n⟩
  · rw [upd_ne (show b ≠ a from fun e => n (e ▸ ha))]; exact q
  · rcases q with q | ⟨o, q⟩
    · exact .inl (by rw [upd_ne (ne_of q h (by intro z; cases z))]; exact q)
    · exact .inr ⟨o, by rw [upd_ne (ne_of q h (by intro z; cases z))]; exact q⟩
theorem Wd.write {S : DS} {p : Nat} {a : Addr} {xs ys : List D} {vs ws : List V} (w : Wd K xl S al H) (hS : S[p]? = some (DO.lst xs)) (ha : al[p]? = some a) (h : H a = some (.lst vs)) (r : Reps K xl al H ys ws) :
    Wd K xl (S.set p (.lst ys)) al (upd H a (.lst ws)) := by
  have e : Ext al H al (upd H a (.lst ws)) := ext_write (List.mem_of_getElem? ha) h
  refine ⟨w.nd, by simp [w.len], fun q zs hz => ?_, fun b hb => ?_⟩
  · by_cases hq : q = p
    · subst hq
      have : q < S.length := by
        by_cases z : q < S.length
        · exact z
        · rw [List.getElem?_eq_none (by omega)] at hS; cases hS
      rw [List.getElem?_set_self this] at hz
      cases hz
      exact ⟨a, ws, ha, upd_same, r.mono e⟩
    · rw [List.getElem?_set_ne (Ne.symm hq)] at hz
      obtain ⟨b, us, h1, h2, h3⟩ := w.ob q zs hz
      refine ⟨b, us, h1, ?_, h3.mono e⟩
      rw [upd_ne (show b ≠ a from fun z => hq (nd_ix w.nd h1 (z ▸ ha)))]; exact h2
  · obtain ⟨h1, h2⟩ := w.xs b hb
    refine ⟨h1, ?_⟩
    unfold upd
    split
    · intro z; cases z
    · exact h2
theorem Wd.list {S : DS} {p : Nat} {xs : List D} (w : Wd K xl S al H) (h : S[p]? = some (DO.lst xs)) : ∃ a vs, al[p]? = some a ∧ H a = some (.lst vs) ∧ Reps K xl al H xs vs := w.ob p xs h
end

/-! the slots -/
structure EnvR (K : PySem.W.Frag) (xl al : List Addr) (H : Hp) (env : DE) (σ : L2.St) : Prop where
  len : env.length = σ.length
  at' : ∀ (i : Nat) d, env[i]? = some (some d) → ∃ v, σ[i]? = some (some v) ∧ Rep K xl al H d v
section
variable {K : PySem.W.Frag} {xl xl' al al' : List Addr} {H H' : Hp} {env : DE} {σ : L2.St}
theorem EnvR.mono (r : EnvR K xl al H env σ) (e : Ext al H al' H') : EnvR K xl al' H' env σ := ⟨r.len, fun i d h => by
  obtain ⟨v, h1, h2⟩ := r.at' i d h
  exact ⟨v, h1, h2.mono e⟩⟩
theorem EnvR.less (r : EnvR K xl al H env σ) (s : ∀ a, a ∈ xl' → a ∈ xl) : EnvR K xl' al H env σ := ⟨r.len, fun i d h => by
  obtain ⟨v, h1, h2⟩ := r.at' i d h
  exact ⟨v, h1, h2.less s⟩⟩
theorem EnvR.more {q : Addr} (hq : H q = none) (r : EnvR K xl al H env σ) : EnvR K (q :: xl) al H env σ := ⟨r.len, fun i d h => by
  obtain ⟨v, h1, h2⟩ := r.at' i d h
  exact ⟨v, h1, h2.more hq⟩⟩
theorem EnvR.atx {q : Addr} {us us' : List V} (hq : H q = some (.lst us)) (hm : q ∈ xl) (r : EnvR K xl al H env σ) : EnvR K xl al (upd H q (.lst us')) env σ := ⟨r.len, fun i d h => by
  obtain ⟨v, h1, h2⟩ := r.at' i d h
  exact ⟨v, h1, h2.atx hq hm⟩⟩
theorem EnvR.set {d : D} {v : V} (r : EnvR K xl al H env σ) (h : Rep K xl al H d v) (i : Nat) : EnvR K xl al H (env.set i (some d)) (σ.set i (some v)) := by
  refine ⟨by rw [List.length_set, List.length_set, r.len], fun j e h1 => ?_⟩
  by_cases hj : j = i
  · subst hj
    by_cases hl : j < env.length
    · rw [List.getElem?_set_self hl] at h1
      cases h1
      exact ⟨v, by rw [List.getElem?_set_self (by rw [← r.len]; exact hl)], h⟩
    · rw [List.getElem?_eq_none (by rw [List.length_set]; omega)] at h1; cases h1
  · rw [List.getElem?_set_ne (Ne.symm hj)] at h1
    obtain ⟨w, h2, h3⟩ := r.at' j e h1
    exact ⟨w, by rw [List.getElem?_set_ne (Ne.symm hj)]; exact h2, h3⟩
theorem EnvR.wipe (r : EnvR K xl al H env σ) (i : Nat) : EnvR K xl al H (env.set i none) (σ.set i none) := by
  refine ⟨by rw [List.length_set, List.length_set, r.len], fun j e h1 => ?_⟩
  by_cases hj : j = i
  · subst hj
    by_cases hl : j < env.length
    · rw [List.getElem?_set_self hl] at h1
      cases h1
    · rw [List.getElem?_eq_none (by rw [List.length_set]; omega)] at h1; cases h1
  · rw [List.getElem?_set_ne (Ne.symm hj)] at h1
    obtain ⟨w, h2, h3⟩ := r.at' j e h1
    exact ⟨w, by rw [List.getElem?_set_ne (Ne.symm hj)]; exact h2, h3⟩
end
end DL

namespace DL
open PySem PySem.Spec PyProof.Rows L2

abbrev ME := DE → DS → Ou D
abbrev MT := DE → DS → Ou Bool
abbrev MA := DE → DS → Ou (List D)
inductive Fl where
  | nx | rt (d : D) | bk | ct | xc (x : Exn)
abbrev MS := DE → DS → Ou (Fl × DE)
abbrev MG := D → DE → DS → Ou DE
abbrev MI := DE → DS → Ou (List D)
abbrev CM := Str → Option Addr
abbrev WH := Value → Option Addr → Hp → Prop

def XRep (K : PySem.W.Frag) (cm : CM) (xl al : List Addr) (H : Hp) (x : Exn) (cls : Value) (dx : Option Addr) : Prop :=
  (∃ C, cm x.cls = some C ∧ cls = .ref C) ∧ (x.fs = [] → dx = none)

/-- what is wanted of an outcome -/
def Post (K : PySem.W.Frag) (cm : CM) (xl : List Addr) (W : WH) {α : Type} (R : α → DS → List Addr → Hp → Prop) (o : Ou α) (al : List Addr) (H : Hp) : Prop :=
  match o with
  | .ok a S' => ∀ al' H', Ext al H al' H' → Wd K xl S' al' H' → R a S' al' H'
  | .ex x S' => ∀ al' H' cls dx, Ext al H al' H' → Wd K xl S' al' H' → XRep K cm xl al' H' x cls dx → W cls dx H'
  | .no => False
section
variable {K : PySem.W.Frag} {cm : CM} {xl : List Addr} {W : WH} {α β : Type}
theorem Post.mono {R : α → DS → List Addr → Hp → Prop} {o : Ou α} {al al1 : List Addr} {H H1 : Hp} (e : Ext al H al1 H1) (h : Post K cm xl W R o al H) : Post K cm xl W R o al1 H1 := by
  cases o with
  | ok a S => exact fun al' H' e' w => h al' H' (e.trans e') w
  | ex x S => exact fun al' H' cls dx e' w z => h al' H' cls dx (e.trans e') w z
  | no => exact h
theorem Post.imp {R R' : α → DS → List Addr → Hp → Prop} {o : Ou α} {al : List Addr} {H : Hp} (h : Post K cm xl W R o al H)
    (i : ∀ a S' al' H', Ext al H al' H' → Wd K xl S' al' H' → R a S' al' H' → R' a S' al' H') : Post K cm xl W R' o al H := by
  cases o with
  | ok a S => exact fun al' H' e w => i a S al' H' e w (h al' H' e w)
  | ex x S => exact h
  | no => exact h
theorem Post.bind {R : β → DS → List Addr → Hp → Prop} {o : Ou α} {f : α → DS → Ou β} {al : List Addr} {H : Hp} (h : Post K cm xl W R (o.bind f) al H) :
    Post K cm xl W (fun a S1 al1 H1 => Post K cm xl W R (f a S1) al1 H1) o al H := by
  cases o with
  | ok a S => exact fun al' H' e _ => Post.mono e h
  | ex x S => exact h
  | no => exact h
theorem Post.here {R : α → DS → List Addr → Hp → Prop} {a : α} {S : DS} {al : List Addr} {H : Hp} (w : Wd K xl S al H) (h : Post K cm xl W R (.ok a S) al H) : R a S al H := h al H (Ext.refl _ _) w
end

abbrev RE (K : PySem.W.Frag) (xl : List Addr) (Q : VK) : D → DS → List Addr → Hp → Prop := fun d _ al' H' => ∀ v, Rep K xl al' H' d v → Q v H'
abbrev RT (Q : Bool → Hp → Prop) : Bool → DS → List Addr → Hp → Prop := fun b _ _ H' => Q b H'
abbrev RA (K : PySem.W.Frag) (xl : List Addr) (Q : List V → Hp → Prop) : List D → DS → List Addr → Hp → Prop := fun ds _ al' H' => ∀ vs, Reps K xl al' H' ds vs → Q vs H'
abbrev RG (K : PySem.W.Frag) (xl : List Addr) (Q : L2.St → Hp → Prop) : DE → DS → List Addr → Hp → Prop := fun env' _ al' H' => ∀ σ', EnvR K xl al' H' env' σ' → Q σ' H'
abbrev noW : WH := fun _ _ _ => False
def RS (K : PySem.W.Frag) (cm : CM) (xl : List Addr) (W : WX) (D0 : Ends) : Fl × DE → DS → List Addr → Hp → Prop := fun r _ al' H' => ∀ σ', EnvR K xl al' H' r.2 σ' → match r.1 with
  | .xc x => ∀ cls dx, XRep K cm xl al' H' x cls dx → W cls dx σ' H'
  | .nx => D0.nx σ' H'
  | .rt d => ∀ v, Rep K xl al' H' d v → D0.rt v H'
  | .bk => D0.bk σ' H'
  | .ct => D0.ct σ' H'

theorem Post.hereT {K : PySem.W.Frag} {cm : CM} {xl : List Addr} {W : WH} {Q : Bool → Hp → Prop} {b : Bool} {S : DS} {al : List Addr} {H : Hp} (w : Wd K xl S al H) (h : Post K cm xl W (RT Q) (.ok b S) al H) : Q b H := h al H (Ext.refl _ _) w
/-! a reading told by a function -/
def DenE (K : PySem.W.Frag) (cm : CM) (W : WX) (t : TE) (m : ME) : Prop := ∀ xl al σ H S env (Q : VK), Wd K xl S al H → EnvR K xl al H env σ → Post K cm xl (fun c d H' => W c d σ H') (RE K xl Q) (m env S) al H → t σ H Q
def DenT (K : PySem.W.Frag) (cm : CM) (W : WX) (t : TT) (m : MT) : Prop := ∀ xl al σ H S env (Q : Bool → Hp → Prop), Wd K xl S al H → EnvR K xl al H env σ → Post K cm xl (fun c d H' => W c d σ H') (RT Q) (m env S) al H → t σ H Q
def DenA (K : PySem.W.Frag) (cm : CM) (W : WX) (t : TA) (m : MA) : Prop := ∀ xl al σ H S env (Q : List V → Hp → Prop), Wd K xl S al H → EnvR K xl al H env σ → Post K cm xl (fun c d H' => W c d σ H') (RA K xl Q) (m env S) al H → t σ H Q
def DenG (K : PySem.W.Frag) (cm : CM) (t : TG) (m : MG) : Prop := ∀ xl al σ H S env d v (Q : L2.St → Hp → Prop), Wd K xl S al H → EnvR K xl al H env σ → Rep K xl al H d v → Post K cm xl noW (RG K xl Q) (m d env S) al H → t v σ H Q
def DenS (K : PySem.W.Frag) (cm : CM) (W : WX) (t : TS) (m : MS) : Prop := ∀ xl al σ H S env (D0 : Ends), Wd K xl S al H → EnvR K xl al H env σ →
  Post K cm xl noW (RS K cm xl W D0) (m env S) al H → t D0 σ H

def EOk (X : Cx) (cm : CM) (W : WX) (e : Expr) (m : ME) : Prop := ∃ t, PE X e t ∧ DenE X.K cm W t m
def TOk (X : Cx) (cm : CM) (W : WX) (e : Expr) (m : MT) : Prop := ∃ t, PT X e t ∧ DenT X.K cm W t m
def AOk (X : Cx) (cm : CM) (W : WX) (es : List Expr) (m : MA) : Prop := ∃ t, PA X es t ∧ DenA X.K cm W t m
def GOk (X : Cx) (cm : CM) (e : Expr) (m : MG) : Prop := ∃ t, PG X e t ∧ DenG X.K cm t m
def SOk (X : Cx) (cm : CM) (W : WX) (st : Stmt) (m : MS) : Prop := ∃ t, PS X st t ∧ DenS X.K cm W t m
def SsOk (X : Cx) (cm : CM) (W : WX) (sts : List Stmt) (m : MS) : Prop := ∃ t, PSs X sts t ∧ DenS X.K cm W t m
end DL

namespace DL
open PySem PySem.Spec PyProof.Rows L2

/-! combinators -/
def mC (d : D) : ME := fun _ S => .ok d S
def mV (i : Nat) : ME := fun env S => match env[i]? with
  | some (some d) => .ok d S
  | _ => .no
def m1 (f : D → DS → Ou D) (a : ME) : ME := fun env S => (a env S).bind f
def m2 (f : D → D → DS → Ou D) (a b : ME) : ME := fun env S => (a env S).bind fun x S1 => (b env S1).bind fun y S2 => f x y S2
def maN : MA := fun _ S => .ok [] S
def maC (a : ME) (r : MA) : MA := fun env S => (a env S).bind fun x S1 => (r env S1).bind fun xs S2 => .ok (x :: xs) S2
def mL (f : List D → DS → Ou D) (a : MA) : ME := fun env S => (a env S).bind f
def mT (a : ME) : MT := fun env S => (a env S).bind fun d S1 => match d with
  | .bl b => .ok b S1
  | _ => .no
def mAnd (a b : MT) : MT := fun env S => (a env S).bind fun c S1 => if c = true then b env S1 else .ok false S1
def mOr (a b : MT) : MT := fun env S => (a env S).bind fun c S1 => if c = true then .ok true S1 else b env S1
def mNot (a : MT) : MT := fun env S => (a env S).bind fun c S1 => .ok (!c) S1
def mAndV (a b : ME) : ME := fun env S => (a env S).bind fun d S1 => match d with
  | .bl c => if c = true then b env S1 else .ok (.bl false) S1
  | _ => .no
def mOrV (a b : ME) : ME := fun env S => (a env S).bind fun d S1 => match d with
  | .bl c => if c = true then .ok (.bl true) S1 else b env S1
  | _ => .no
def mNotV (a : ME) : ME := fun env S => (a env S).bind fun d S1 => match d with
  | .bl c => .ok (.bl (!c)) S1
  | _ => .no
def mIf (c : MT) (a b : ME) : ME := fun env S => (c env S).bind fun k S1 => if k = true then a env S1 else b env S1
def mChain (f g : D → D → DS → Ou D) (a b c : ME) : ME := fun env S => (a env S).bind fun x S1 => (b env S1).bind fun y S2 => (f x y S2).bind fun k S3 => match k with
  | .bl k => if k = true then (c env S3).bind fun z S4 => g y z S4 else .ok (.bl false) S3
  | _ => .no

section
variable {X : Cx} {cm : CM} {W : WX} {a b c e : Expr} {es : List Expr} {ma mb mc : ME} {pos : Pos}

/-! names, constants -/
theorem e_int {i : Int} {j : Nat} : EOk X cm W (.Constant (.int i) j pos) (mC (.int i)) := ⟨_, pe_int, fun xl al σ H S env Q w _ p => p.here w _ (.int i)⟩
theorem e_bl {i : Bool} {j : Nat} : EOk X cm W (.Constant (.bool i) j pos) (mC (.bl i)) := ⟨_, pe_bl, fun xl al σ H S env Q w _ p => p.here w _ (.bl i)⟩
theorem e_non {j : Nat} : EOk X cm W (.Constant .none j pos) (mC .non) := ⟨_, pe_non, fun xl al σ H S env Q w _ p => p.here w _ .non⟩
theorem e_str {x : Str} {j : Nat} : EOk X cm W (.Constant (.str x) j pos) (mC (.str x)) := ⟨_, pe_str, fun xl al σ H S env Q w _ p => p.here w _ (.str x)⟩
theorem e_var (i : Nat) {x : Str} (hN : X.N[i]? = some x := by rfl) (hv : Vis X.env.scope x := by first | exact Or.inl rfl | exact Or.inr (Or.inl rfl) | exact Or.inr (Or.inr rfl)) (hd : (x == ("__debug__" : Str)) = false := by decide)
    (hcd : (x == ("__classdict__" : Str)) = false := by decide) : EOk X cm W (.Name x pos) (mV i) := by
  refine ⟨_, pe_var hN hv hd hcd, fun xl al σ H S env Q w r p => ?_⟩
  unfold mV at p
  split at p
  · rename_i d e
    obtain ⟨v, h1, h2⟩ := r.at' i d e
    exact ⟨v, h1, p.here w v h2⟩
  · exact p.elim
/-- a constant of the module -/
theorem e_glob {x : Str} {d : D} {v : V} {u : Value} (hg : Gl X x) (hm : X.mg x = some u) (r : RelV v u) (h : ∀ xl al H, Rep X.K xl al H d v) (hd : (x == ("__debug__" : Str)) = false := by decide) : EOk X cm W (.Name x pos) (mC d) :=
  ⟨_, pe_glob hg hm r hd, fun xl al σ H S env Q w _ p => p.here w _ (h xl al H)⟩

/-! operators -/
def DenR2 (K : PySem.W.Frag) (cm : CM) (r : R2) (op : D → D → DS → Ou D) : Prop := ∀ xl al H S x y v u (Q : VK) (W0 : WH), Wd K xl S al H → Rep K xl al H x v → Rep K xl al H y u → Post K cm xl W0 (RE K xl Q) (op x y S) al H → r v u H Q
def DenR1 (K : PySem.W.Frag) (cm : CM) (r : V → Hp → VK → Prop) (op : D → DS → Ou D) : Prop := ∀ xl al H S x v (Q : VK) (W0 : WH), Wd K xl S al H → Rep K xl al H x v → Post K cm xl W0 (RE K xl Q) (op x S) al H → r v H Q
def DenRL (K : PySem.W.Frag) (cm : CM) (r : List V → Hp → VK → Prop) (op : List D → DS → Ou D) : Prop := ∀ xl al H S xs vs (Q : VK) (W0 : WH), Wd K xl S al H → Reps K xl al H xs vs → Post K cm xl W0 (RE K xl Q) (op xs S) al H → r vs H Q
def OOk (X : Cx) (cm : CM) (f : Value → Value → Sem Value) (op : D → D → DS → Ou D) : Prop := ∃ r, OpR X f r ∧ DenR2 X.K cm r op
def UOk (X : Cx) (cm : CM) (f : Value → Sem Value) (op : D → DS → Ou D) : Prop := ∃ r, UnR X f r ∧ DenR1 X.K cm r op
def IOk (X : Cx) (cm : CM) (op : D → D → DS → Ou D) : Prop := ∃ r, IxR X r ∧ DenR2 X.K cm r op
def COk (X : Cx) (cm : CM) (f : Value) (op : List D → DS → Ou D) : Prop := ∃ r, CallR X f r ∧ DenRL X.K cm r op

theorem den2 {r : R2} {op : D → D → DS → Ou D} {ta tb : TE} (dr : DenR2 X.K cm r op) (da : DenE X.K cm W ta ma) (db : DenE X.K cm W tb mb) : DenE X.K cm W (tOp r ta tb) (m2 op ma mb) := fun xl al σ H S env Q w e p => by
  refine da xl al σ H S env _ w e (p.bind.imp fun x S1 al1 H1 e1 w1 p1 v rv => ?_)
  refine db xl al1 σ H1 S1 env _ w1 (e.mono e1) (p1.bind.imp fun y S2 al2 H2 e2 w2 p2 u ru => ?_)
  exact dr xl al2 H2 S2 x y v u Q _ w2 (rv.mono e2) ru p2
theorem e_op {op : Operator} {f : D → D → DS → Ou D} (h : OOk X cm (binaryOp op) f) (ha : EOk X cm W a ma) (hb : EOk X cm W b mb) : EOk X cm W (.BinOp a op b pos) (m2 f ma mb) := by
  obtain ⟨r, hr, dr⟩ := h
  obtain ⟨ta, pa, da⟩ := ha
  obtain ⟨tb, pb, db⟩ := hb
  exact ⟨_, pe_op hr pa pb, den2 dr da db⟩
theorem e_un {op : UnaryOp} {f : D → DS → Ou D} (h : UOk X cm (unaryOp op) f) (ha : EOk X cm W a ma) : EOk X cm W (.UnaryOp op a pos) (m1 f ma) := by
  obtain ⟨r, hr, dr⟩ := h
  obtain ⟨ta, pa, da⟩ := ha
  refine ⟨_, pe_un hr pa, fun xl al σ H S env Q w e p => ?_⟩
  exact da xl al σ H S env _ w e (p.bind.imp fun x S1 al1 H1 e1 w1 p1 v rv => dr xl al1 H1 S1 x v Q _ w1 rv p1)
theorem e_cmp {op : CmpOp} {f : D → D → DS → Ou D} (h : OOk X cm (compareOp op) f) (ha : EOk X cm W a ma) (hb : EOk X cm W b mb) (hm : behindInMarks op b = false := by first | exact nomark _ | rfl) : EOk X cm W (.Compare a [op] [b] pos) (m2 f ma mb) := by
  obtain ⟨r, hr, dr⟩ := h
  obtain ⟨ta, pa, da⟩ := ha
  obtain ⟨tb, pb, db⟩ := hb
  exact ⟨_, pe_cmpR hr pa pb hm, den2 dr da db⟩
theorem e_chain {op op' : CmpOp} {f g : D → D → DS → Ou D} (h : OOk X cm (compareOp op) f) (h' : OOk X cm (compareOp op') g) (ha : EOk X cm W a ma) (hb : EOk X cm W b mb) (hc : EOk X cm W c mc)
    (hm : lastMarks [op, op'] [b, c] = false := by with_unfolding_all rfl) : EOk X cm W (.Compare a [op, op'] [b, c] pos) (mChain f g ma mb mc) := by
  obtain ⟨r, hr, dr⟩ := h
  obtain ⟨r', hr', dr'⟩ := h'
  obtain ⟨ta, pa, da⟩ := ha
  obtain ⟨tb, pb, db⟩ := hb
  obtain ⟨tc, pc, dc⟩ := hc
  refine ⟨_, pe_chain hr hr' pa pb pc hm, fun xl al σ H S env Q w e p => ?_⟩
  refine da xl al σ H S env _ w e (p.bind.imp fun x S1 al1 H1 e1 w1 p1 v rv => ?_)
  refine db xl al1 σ H1 S1 env _ w1 (e.mono e1) (p1.bind.imp fun y S2 al2 H2 e2 w2 p2 u ru => ?_)
  refine dr xl al2 H2 S2 x y v u _ _ w2 (rv.mono e2) ru (p2.bind.imp fun k S3 al3 H3 e3 w3 p3 kv rk => ?_)
  cases k with
  | bl k =>
    cases rk
    refine ⟨k, rfl, ?_⟩
    cases k with
    | true =>
      have p4 : Post X.K cm xl (fun c d H' => W c d σ H') (RE X.K xl Q) ((mc env S3).bind fun z S4 => g y z S4) al3 H3 := p3
      exact dc xl al3 σ H3 S3 env _ w3 (((e.mono e1).mono e2).mono e3) (p4.bind.imp fun z S4 al4 H4 e4 w4 p4 zv rz => dr' xl al4 H4 S4 y z u zv Q _ w4 ((ru.mono e3).mono e4) rz p4)
    | false => exact Post.here w3 p3 _ (.bl false)
  | _ => exact p3.elim

/-! tests -/
theorem t_val (h : EOk X cm W e ma) (he : ∀ whole, isTrue e X.env whole = (do let v ← whole; standAt e.pos; holding [v] (truthy v)) := by intro _; rfl) : TOk X cm W e (mT ma) := by
  obtain ⟨t, p, d⟩ := h
  refine ⟨_, pt_val p he, fun xl al σ H S env Q w r q => ?_⟩
  refine d xl al σ H S env _ w r (q.bind.imp fun x S1 al1 H1 e1 w1 p1 v rv => ?_)
  cases x with
  | bl k =>
    cases rv
    exact ⟨k, rfl, p1.here w1⟩
  | _ => exact p1.elim
theorem t_cmp {op : CmpOp} {f : D → D → DS → Ou D} (h : OOk X cm (compareOp op) f) (ha : EOk X cm W a ma) (hb : EOk X cm W b mb) (hm : behindInMarks op b = false := by first | exact nomark _ | rfl) : TOk X cm W (.Compare a [op] [b] pos) (mT (m2 f ma mb)) := by
  obtain ⟨r, hr, dr⟩ := h
  obtain ⟨ta, pa, da⟩ := ha
  obtain ⟨tb, pb, db⟩ := hb
  refine ⟨_, pt_cmpR hr pa pb hm, fun xl al σ H S env Q w r q => ?_⟩
  refine den2 dr da db xl al σ H S env _ w r (q.bind.imp fun x S1 al1 H1 e1 w1 p1 v rv => ?_)
  cases x with
  | bl k =>
    cases rv
    exact ⟨k, rfl, p1.here w1⟩
  | _ => exact p1.elim
theorem t_chain {op op' : CmpOp} {f g : D → D → DS → Ou D} (h : OOk X cm (compareOp op) f) (h' : OOk X cm (compareOp op') g) (ha : EOk X cm W a ma) (hb : EOk X cm W b mb) (hc : EOk X cm W c mc)
    (hm : lastMarks [op, op'] [b, c] = false := by with_unfolding_all rfl) : TOk X cm W (.Compare a [op, op'] [b, c] pos) (mT (mChain f g ma mb mc)) := by
  obtain ⟨r, hr, dr⟩ := h
  obtain ⟨r', hr', dr'⟩ := h'
  obtain ⟨ta, pa, da⟩ := ha
  obtain ⟨tb, pb, db⟩ := hb
  obtain ⟨tc, pc, dc⟩ := hc
  refine ⟨_, pt_chain hr hr' pa pb pc hm, fun xl al σ H S env Q w e p => ?_⟩
  replace p := p.bind
  refine da xl al σ H S env _ w e (p.bind.imp fun x S1 al1 H1 e1 w1 p1 v rv => ?_)
  refine db xl al1 σ H1 S1 env _ w1 (e.mono e1) (p1.bind.imp fun y S2 al2 H2 e2 w2 p2 u ru => ?_)
  refine dr xl al2 H2 S2 x y v u _ _ w2 (rv.mono e2) ru (p2.bind.imp fun k S3 al3 H3 e3 w3 p3 kv rk => ?_)
  cases k with
  | bl k =>
    cases rk
    refine ⟨k, rfl, ?_⟩
    cases k with
    | true =>
      have p4 : Post X.K cm xl (fun c d H' => W c d σ H') _ ((mc env S3).bind fun z S4 => g y z S4) al3 H3 := p3
      refine dc xl al3 σ H3 S3 env _ w3 (((e.mono e1).mono e2).mono e3) (p4.bind.imp fun z S4 al4 H4 e4 w4 p4 zv rz => dr' xl al4 H4 S4 y z u zv _ _ w4 ((ru.mono e3).mono e4) rz (p4.imp fun q S5 al5 H5 e5 w5 p5 qv rq => ?_))
      cases q with
      | bl q =>
        cases rq
        exact ⟨q, rfl, Post.here w5 p5⟩
      | _ => exact p5.elim
    | false => exact ⟨false, rfl, Post.here w3 (Post.here w3 p3)⟩
  | _ => exact p3.elim
theorem t_not {mt : MT} (h : TOk X cm W a mt) : TOk X cm W (.UnaryOp .Not a pos) (mNot mt) := by
  obtain ⟨t, p, d⟩ := h
  refine ⟨_, pt_not p, fun xl al σ H S env Q w r q => ?_⟩
  exact d xl al σ H S env _ w r (q.bind.imp fun x S1 al1 H1 e1 w1 p1 => Post.hereT w1 p1)
/-- whatever its 'whole' is -/
def WOk (X : Cx) (cm : CM) (W : WX) (e : Expr) (m : MT) : Prop := ∃ t, PW X e t ∧ DenT X.K cm W t m
theorem WOk.t {mt : MT} (h : WOk X cm W e mt) : TOk X cm W e mt := by
  obtain ⟨t, p, d⟩ := h
  exact ⟨t, p.pt, d⟩
theorem w_and1 {mt : MT} (h : TOk X cm W a mt) : WOk X cm W (.BoolOp .And [a] pos) mt := by
  obtain ⟨t, p, d⟩ := h
  exact ⟨t, pw_and1 p, d⟩
theorem w_or1 {mt : MT} (h : TOk X cm W a mt) : WOk X cm W (.BoolOp .Or [a] pos) mt := by
  obtain ⟨t, p, d⟩ := h
  exact ⟨t, pw_or1 p, d⟩
theorem w_and {mt mu : MT} (h : TOk X cm W a mt) (h' : WOk X cm W (.BoolOp .And (b :: es) pos) mu) : WOk X cm W (.BoolOp .And (a :: b :: es) pos) (mAnd mt mu) := by
  obtain ⟨t, p, d⟩ := h
  obtain ⟨t', p', d'⟩ := h'
  refine ⟨_, pw_and p p', fun xl al σ H S env Q w r q => ?_⟩
  refine d xl al σ H S env _ w r (q.bind.imp fun x S1 al1 H1 e1 w1 p1 => ?_)
  cases x with
  | true => exact d' xl al1 σ H1 S1 env Q w1 (r.mono e1) p1
  | false => exact Post.hereT w1 p1
theorem w_or {mt mu : MT} (h : TOk X cm W a mt) (h' : WOk X cm W (.BoolOp .Or (b :: es) pos) mu) : WOk X cm W (.BoolOp .Or (a :: b :: es) pos) (mOr mt mu) := by
  obtain ⟨t, p, d⟩ := h
  obtain ⟨t', p', d'⟩ := h'
  refine ⟨_, pw_or p p', fun xl al σ H S env Q w r q => ?_⟩
  refine d xl al σ H S env _ w r (q.bind.imp fun x S1 al1 H1 e1 w1 p1 => ?_)
  cases x with
  | false => exact d' xl al1 σ H1 S1 env Q w1 (r.mono e1) p1
  | true => exact Post.hereT w1 p1
/-! and, or, not as values -/
theorem e_one {op : BoolOp} (h : EOk X cm W a ma) : EOk X cm W (.BoolOp op [a] pos) ma := by
  obtain ⟨t, p, d⟩ := h
  exact ⟨t, pe_one p, d⟩
theorem e_and (h : EOk X cm W a ma) (h' : EOk X cm W (.BoolOp .And (b :: es) pos) mb) : EOk X cm W (.BoolOp .And (a :: b :: es) pos) (mAndV ma mb) := by
  obtain ⟨t, p, d⟩ := h
  obtain ⟨t', p', d'⟩ := h'
  refine ⟨_, pe_and p p', fun xl al σ H S env Q w r q => ?_⟩
  refine d xl al σ H S env _ w r (q.bind.imp fun x S1 al1 H1 e1 w1 p1 v rv => ?_)
  cases x with
  | bl c =>
    cases rv
    refine ⟨c, rfl, ?_⟩
    cases c with
    | true => exact d' xl al1 σ H1 S1 env Q w1 (r.mono e1) p1
    | false => exact Post.here w1 p1 _ (.bl false)
  | _ => exact p1.elim
theorem e_or (h : EOk X cm W a ma) (h' : EOk X cm W (.BoolOp .Or (b :: es) pos) mb) : EOk X cm W (.BoolOp .Or (a :: b :: es) pos) (mOrV ma mb) := by
  obtain ⟨t, p, d⟩ := h
  obtain ⟨t', p', d'⟩ := h'
  refine ⟨_, pe_or p p', fun xl al σ H S env Q w r q => ?_⟩
  refine d xl al σ H S env _ w r (q.bind.imp fun x S1 al1 H1 e1 w1 p1 v rv => ?_)
  cases x with
  | bl c =>
    cases rv
    refine ⟨c, rfl, ?_⟩
    cases c with
    | false => exact d' xl al1 σ H1 S1 env Q w1 (r.mono e1) p1
    | true => exact Post.here w1 p1 _ (.bl true)
  | _ => exact p1.elim
theorem e_not (h : EOk X cm W a ma) : EOk X cm W (.UnaryOp .Not a pos) (mNotV ma) := by
  obtain ⟨t, p, d⟩ := h
  refine ⟨_, pe_not p, fun xl al σ H S env Q w r q => ?_⟩
  refine d xl al σ H S env _ w r (q.bind.imp fun x S1 al1 H1 e1 w1 p1 v rv => ?_)
  cases x with
  | bl c =>
    cases rv
    exact ⟨c, rfl, p1.here w1 _ (.bl _)⟩
  | _ => exact p1.elim
theorem e_if {mt : MT} (hc : TOk X cm W c mt) (ha : EOk X cm W a ma) (hb : EOk X cm W b mb) : EOk X cm W (.IfExp c a b pos) (mIf mt ma mb) := by
  obtain ⟨tc, pc, dc⟩ := hc
  obtain ⟨ta, pa, da⟩ := ha
  obtain ⟨tb, pb, db⟩ := hb
  refine ⟨_, pe_ifExp pc pa pb, fun xl al σ H S env Q w r q => ?_⟩
  refine dc xl al σ H S env _ w r (q.bind.imp fun x S1 al1 H1 e1 w1 p1 => ?_)
  cases x with
  | true => exact da xl al1 σ H1 S1 env Q w1 (r.mono e1) p1
  | false => exact db xl al1 σ H1 S1 env Q w1 (r.mono e1) p1

/-! argument lists, displays, calls of built-ins -/
theorem a_nil : AOk X cm W [] maN := ⟨_, pa_nil, fun xl al σ H S env Q w r p => p.here w [] .nil⟩
theorem a_cons {mr : MA} (h : EOk X cm W e ma) (hr : AOk X cm W es mr) (hs : starEach (e :: es) X.env = (false, eval e X.env) :: starEach es X.env := by rfl) : AOk X cm W (e :: es) (maC ma mr) := by
  obtain ⟨t, p, d⟩ := h
  obtain ⟨t', p', d'⟩ := hr
  refine ⟨_, pa_cons p p' hs, fun xl al σ H S env Q w r q => ?_⟩
  refine d xl al σ H S env _ w r (q.bind.imp fun x S1 al1 H1 e1 w1 p1 v rv => ?_)
  refine d' xl al1 σ H1 S1 env _ w1 (r.mono e1) (p1.bind.imp fun xs S2 al2 H2 e2 w2 p2 vs rvs => ?_)
  exact p2.here w2 _ (.cons (rv.mono e2) rvs)
def tupO (xs : List D) (S : DS) : Ou D := if xs.length ≤ 1000 then .ok (.tup xs) S else .no
def lstO (xs : List D) (S : DS) : Ou D := if xs.length ≤ 1000 then .ok (.vl xs) S else .no
def refO (xs : List D) (S : DS) : Ou D := if xs.length ≤ 1000 then .ok (.ref S.length) (S ++ [.lst xs]) else .no
theorem le1000 {n : Nat} (h : n ≤ 1000) : n ≤ sizeLine := Nat.le_trans h (by decide)
theorem e_tup {mr : MA} {k : Nat} (h : AOk X cm W es mr) : EOk X cm W (.Tuple es k pos) (mL tupO mr) := by
  obtain ⟨t, p, d⟩ := h
  refine ⟨_, pe_tup p, fun xl al σ H S env Q w r q => ?_⟩
  refine d xl al σ H S env _ w r (q.bind.imp fun xs S1 al1 H1 e1 w1 p1 vs rvs => ?_)
  unfold tupO at p1
  split at p1
  · rename_i hl
    refine ⟨le1000 (rvs.length ▸ hl), fun a ha => ?_⟩
    exact p1 al1 _ (ext_new ha) (w1.put ha) _ (Rep.newTup (S := S1) ha rvs)
  · exact p1.elim
theorem e_lst {mr : MA} (h : AOk X cm W es mr) : EOk X cm W (.List es pos) (mL lstO mr) := by
  obtain ⟨t, p, d⟩ := h
  refine ⟨_, pe_lst p, fun xl al σ H S env Q w r q => ?_⟩
  refine d xl al σ H S env _ w r (q.bind.imp fun xs S1 al1 H1 e1 w1 p1 vs rvs => ?_)
  unfold lstO at p1
  split at p1
  · rename_i hl
    refine ⟨le1000 (rvs.length ▸ hl), fun a ha => ?_⟩
    exact p1 al1 _ (ext_new ha) (w1.put ha) _ (Rep.newLst w1 ha rvs)
  · exact p1.elim
theorem Rep.newRef {K : PySem.W.Frag} {xl al : List Addr} {S : DS} {H : Hp} {a : Addr} (w : Wd K xl S al H) : Rep K xl (al ++ [a]) H (.ref S.length) (.ref a) := by
  refine .ref ?_
  rw [← w.len, List.getElem?_append_right (Nat.le_refl _), Nat.sub_self]; rfl
theorem Rep.newRef' {K : PySem.W.Frag} {xl al : List Addr} {S : DS} {H H' : Hp} {a : Addr} (w : Wd K xl S al H) : Rep K xl (al ++ [a]) H' (.ref S.length) (.ref a) := by
  refine .ref ?_
  rw [← w.len, List.getElem?_append_right (Nat.le_refl _), Nat.sub_self]; rfl
/-- a list that will be changed -/
theorem e_ref {mr : MA} (h : AOk X cm W es mr) : EOk X cm W (.List es pos) (mL refO mr) := by
  obtain ⟨t, p, d⟩ := h
  refine ⟨_, pe_lst p, fun xl al σ H S env Q w r q => ?_⟩
  refine d xl al σ H S env _ w r (q.bind.imp fun xs S1 al1 H1 e1 w1 p1 vs rvs => ?_)
  unfold refO at p1
  split at p1
  · rename_i hl
    refine ⟨le1000 (rvs.length ▸ hl), fun a ha => ?_⟩
    exact p1 (al1 ++ [a]) _ (ext_ref w1 ha) (w1.addRef ha rvs) _ (Rep.newRef' w1)
  · exact p1.elim
theorem e_callB {x : Str} {id : String} {p : Pos} {f : List D → DS → Ou D} {mr : MA} (hc : COk X cm (.builtin id) f) (hg : Gl X x) (hm : X.mg x = none) (hv : bootBuiltins x = some (.builtin id)) (ha : AOk X cm W (e :: es) mr) (hn : x ≠ "__name__" := by decide) (hdb : (x == ("__debug__" : Str)) = false := by decide)
    (he : starEach (e :: es) X.env = (false, eval e X.env) :: starEach es X.env := by rfl) (hpl : (backTo pos (starEach es X.env)).any (·.1) = false := by rfl) : EOk X cm W (.Call (.Name x p) (e :: es) [] pos) (mL f mr) := by
  obtain ⟨r, hr, dr⟩ := hc
  obtain ⟨t, pt, d⟩ := ha
  refine ⟨_, pe_callB hr hg hm hv pt hn hdb he hpl, fun xl al σ H S env Q w e p => ?_⟩
  exact d xl al σ H S env _ w e (p.bind.imp fun xs S1 al1 H1 e1 w1 p1 vs rvs => dr xl al1 H1 S1 xs vs Q _ w1 rvs p1)
theorem e_callTy {x : Str} {T : String} {p : Pos} {f : List D → DS → Ou D} {mr : MA} (hc : COk X cm (.type T) f) (hg : Gl X x) (hm : X.mg x = none) (hv : bootBuiltins x = some (.type T)) (ha : AOk X cm W (e :: es) mr) (hn : x ≠ "__name__" := by decide) (hdb : (x == ("__debug__" : Str)) = false := by decide)
    (he : starEach (e :: es) X.env = (false, eval e X.env) :: starEach es X.env := by rfl) (hpl : (backTo pos (starEach es X.env)).any (·.1) = false := by rfl) : EOk X cm W (.Call (.Name x p) (e :: es) [] pos) (mL f mr) := by
  obtain ⟨r, hr, dr⟩ := hc
  obtain ⟨t, pt, d⟩ := ha
  refine ⟨_, pe_callTy hr hg hm hv pt hn hdb he hpl, fun xl al σ H S env Q w e p => ?_⟩
  exact d xl al σ H S env _ w e (p.bind.imp fun xs S1 al1 H1 e1 w1 p1 vs rvs => dr xl al1 H1 S1 xs vs Q _ w1 rvs p1)
/-! subscripts -/
theorem e_ix {f : D → D → DS → Ou D} (h : IOk X cm f) (ha : EOk X cm W a ma) (hb : EOk X cm W b mb) (hs : PlainIx b := by exact fun _ _ => rfl) : EOk X cm W (.Subscript a b pos) (m2 f ma mb) := by
  obtain ⟨r, hr, dr⟩ := h
  obtain ⟨ta, pa, da⟩ := ha
  obtain ⟨tb, pb, db⟩ := hb
  exact ⟨_, pe_ix hr pa pb hs, den2 dr da db⟩
/-- a part of a slice -/
abbrev MO := DE → DS → Ou (Option Int)
def moN : MO := fun _ S => .ok none S
def moS (a : ME) : MO := fun env S => (a env S).bind fun d S1 => match d with
  | .int i => .ok (some i) S1
  | _ => .no
def POk (X : Cx) (cm : CM) (W : WX) (e : Option Expr) (m : MO) : Prop := ∃ t, PO X e t ∧ ∀ xl al σ H S env (Q : Option Int → Hp → Prop), Wd X.K xl S al H → EnvR X.K xl al H env σ → Post X.K cm xl (fun c d H' => W c d σ H') (fun o _ _ H' => Q o H') (m env S) al H → t σ H Q
theorem p_none : POk X cm W none moN := ⟨_, po_none, fun xl al σ H S env Q w r p => p.here w⟩
theorem p_some (h : EOk X cm W e ma) : POk X cm W (some e) (moS ma) := by
  obtain ⟨t, p, d⟩ := h
  refine ⟨_, po_some p, fun xl al σ H S env Q w r q => ?_⟩
  refine d xl al σ H S env _ w r (q.bind.imp fun x S1 al1 H1 e1 w1 p1 v rv => ?_)
  cases x with
  | int i =>
    cases rv
    exact ⟨i, rfl, p1.here w1⟩
  | _ => exact p1.elim
def mSl (f : D → Option Int → Option Int → DS → Ou D) (a : ME) (lo hi : MO) : ME := fun env S => (a env S).bind fun x S1 => (lo env S1).bind fun l S2 => (hi env S2).bind fun u S3 => f x l u S3
def LOk (X : Cx) (cm : CM) (f : D → Option Int → Option Int → DS → Ou D) : Prop := ∃ r, SlR X r ∧ ∀ xl al H S x v lo hi (Q : VK) (W0 : WH), Wd X.K xl S al H → Rep X.K xl al H x v → Post X.K cm xl W0 (RE X.K xl Q) (f x lo hi S) al H → r v lo hi H Q
theorem e_slice {f : D → Option Int → Option Int → DS → Ou D} {lo hi : Option Expr} {ml mh : MO} {p2 : Pos} (h : LOk X cm f) (ha : EOk X cm W a ma) (hl : POk X cm W lo ml) (hu : POk X cm W hi mh) : EOk X cm W (.Subscript a (.Slice lo hi none p2) pos) (mSl f ma ml mh) := by
  obtain ⟨r, hr, dr⟩ := h
  obtain ⟨ta, pa, da⟩ := ha
  obtain ⟨tl, pl, dl⟩ := hl
  obtain ⟨th, ph, dh⟩ := hu
  refine ⟨_, pe_slice hr pa pl ph, fun xl al σ H S env Q w e p => ?_⟩
  refine da xl al σ H S env _ w e (p.bind.imp fun x S1 al1 H1 e1 w1 p1 v rv => ?_)
  refine dl xl al1 σ H1 S1 env _ w1 (e.mono e1) (p1.bind.imp fun l S2 al2 H2 e2 w2 p2 => ?_)
  refine dh xl al2 σ H2 S2 env _ w2 ((e.mono e1).mono e2) (p2.bind.imp fun u S3 al3 H3 e3 w3 p3 => ?_)
  exact dr xl al3 H3 S3 x v l u Q _ w3 ((rv.mono e2).mono e3) p3
end
end DL

namespace DL
open PySem PySem.Spec PyProof.Rows L2

/-! what the operators do with data -/
instance (i j : Int) : Decidable (CMul i j) := by unfold CMul; infer_instance
instance (i j : Int) : Decidable (CMulW i j) := by unfold CMulW; infer_instance
instance (i j : Int) : Decidable (CPow i j) := by unfold CPow; infer_instance
def CMulA (i j : Int) : Prop := CMul i j ∨ CMulW i j
instance (i j : Int) : Decidable (CMulA i j) := by unfold CMulA; infer_instance
def addO (x y : D) (S : DS) : Ou D := match x, y with
  | .int i, .int j => .ok (.int (i + j)) S
  | .str a, .str b => if a.length + b.length ≤ sizeLine then .ok (.str (a ++ b)) S else .no
  | .tup a, .tup b => if a.length + b.length ≤ sizeLine then .ok (.tup (a ++ b)) S else .no
  | .vl a, .vl b => if a.length + b.length ≤ sizeLine then .ok (.vl (a ++ b)) S else .no
  | _, _ => .no
def subO (x y : D) (S : DS) : Ou D := match x, y with
  | .int i, .int j => .ok (.int (i - j)) S
  | _, _ => .no
def repL {α : Type} (xs : List α) (k : Nat) : List α := (List.replicate k xs).flatten
def mulO (x y : D) (S : DS) : Ou D := match x, y with
  | .int i, .int j => if CMulA i j then .ok (.int (i * j)) S else .no
  | .tup xs, .int k => if xs ≠ [] ∧ 2 ≤ k ∧ k ≤ 1000 ∧ xs.length ≤ 1000 then .ok (.tup (repL xs k.toNat)) S else .no
  | .vl xs, .int k => if -(2 ^ 63) ≤ k ∧ k < 2 ^ 63 ∧ xs.length * k.toNat ≤ sizeLine then .ok (.vl (repL xs k.toNat)) S else .no
  | _, _ => .no
/-- [..] * n that will be changed -/
def mulR (x y : D) (S : DS) : Ou D := match x, y with
  | .vl xs, .int k => if -(2 ^ 63) ≤ k ∧ k < 2 ^ 63 ∧ xs.length * k.toNat ≤ sizeLine then .ok (.ref S.length) (S ++ [.lst (repL xs k.toNat)]) else .no
  | _, _ => .no
def modO (x y : D) (S : DS) : Ou D := match x, y with
  | .int i, .int j => if j ≠ 0 then .ok (.int (i.fmod j)) S else .no
  | _, _ => .no
def fdivO (x y : D) (S : DS) : Ou D := match x, y with
  | .int i, .int j => if j ≠ 0 ∧ Builtin.divisionGoesByPylong i j = false then .ok (.int (i.fdiv j)) S else .no
  | _, _ => .no
def powO (x y : D) (S : DS) : Ou D := match x, y with
  | .int i, .int j => if CPow i j then .ok (.int (i ^ j.toNat)) S else .no
  | _, _ => .no
def shlO (x y : D) (S : DS) : Ou D := match x, y with
  | .int i, .int j => if CPow i j then .ok (.int (i * 2 ^ j.toNat)) S else .no
  | _, _ => .no
def negO (x : D) (S : DS) : Ou D := match x with
  | .int i => .ok (.int (-i)) S
  | _ => .no

section
variable {X : Cx} {cm : CM} {xl al : List Addr} {H : Hp} {S : DS}
theorem rep_ref_lst {K : PySem.W.Frag} {xs : List D} {v : V} (h : Rep K xl al H (.vl xs) v) : ∃ a vs, v = .ref a ∧ H a = some (.lst vs) ∧ a ∉ al ∧ a ∉ xl ∧ Reps K xl al H xs vs := by
  cases h with
  | vl h n n' r => exact ⟨_, _, rfl, h, n, n', r⟩
theorem rep_tup {K : PySem.W.Frag} {xs : List D} {v : V} (h : Rep K xl al H (.tup xs) v) : ∃ a vs, v = .ref a ∧ SqT K H a vs ∧ Reps K xl al H xs vs := by
  cases h with
  | tup h r => exact ⟨_, _, rfl, h, r⟩
theorem Reps.rep {K : PySem.W.Frag} {xs : List D} {vs : List V} (r : Reps K xl al H xs vs) : ∀ k : Nat, Reps K xl al H (repL xs k) (List.replicate k vs).flatten
  | 0 => .nil
  | k + 1 => by
    show Reps K xl al H (List.replicate (k + 1) xs).flatten _
    rw [List.replicate_succ, List.flatten_cons, List.replicate_succ, List.flatten_cons]
    exact r.append (Reps.rep r k)
theorem o_add : OOk X cm (binaryOp .Add) addO := by
  refine ⟨_, op_add.or (op_add_str.or (op_catA.or op_cat)), fun xl al H S x y v u Q W0 w rv ru p => ?_⟩
  unfold addO at p
  split at p
  · cases rv; cases ru
    exact .inl ⟨_, _, rfl, rfl, p.here w _ (.int _)⟩
  · cases rv; cases ru
    split at p
    · rename_i hl
      exact .inr (.inl ⟨_, _, rfl, rfl, hl, p.here w _ (.str _)⟩)
    · exact p.elim
  · obtain ⟨a, vs, rfl, ha, r1⟩ := rep_tup rv
    obtain ⟨b, us, rfl, hb, r2⟩ := rep_tup ru
    split at p
    · rename_i hl
      refine .inr (.inr (.inl ⟨a, b, vs, us, rfl, rfl, ha, hb, by rw [← r1.length, ← r2.length]; exact hl, fun e => ?_, fun e e2 => ?_, fun e e2 q hq => ?_⟩))
      · subst e
        cases r1
        exact p.here w _ (.tup hb r2)
      · subst e2
        cases r2
        rw [List.append_nil] at p
        exact p.here w _ (.tup ha r1)
      · exact p al _ (ext_new hq) (w.put hq) _ (Rep.newTup (S := S) hq (r1.append r2))
    · exact p.elim
  · obtain ⟨a, vs, rfl, ha, na, nxa, r1⟩ := rep_ref_lst rv
    obtain ⟨b, us, rfl, hb, nb, nxb, r2⟩ := rep_ref_lst ru
    split at p
    · rename_i hl
      refine .inr (.inr (.inr ⟨a, b, vs, us, rfl, rfl, ha, hb, by rw [← r1.length, ← r2.length]; exact hl, fun q hq => ?_⟩))
      exact p al _ (ext_new hq) (w.put hq) _ (Rep.newLst w hq (r1.append r2))
    · exact p.elim
  · exact p.elim
theorem o_sub : OOk X cm (binaryOp .Sub) subO := by
  refine ⟨_, op_sub, fun xl al H S x y v u Q W0 w rv ru p => ?_⟩
  unfold subO at p
  split at p
  · cases rv; cases ru
    exact ⟨_, _, rfl, rfl, p.here w _ (.int _)⟩
  · exact p.elim
theorem op_mulA : OpR X (binaryOp .Mult) (rI CMulA fun i j => .int (i * j)) := opI fun _ _ _ _ _ _ _ hc q => mul_int q (hc.elim CMul.ok CMulW.ok)
theorem rep_len {α : Type} (xs : List α) (k : Nat) : (repL xs k).length = k * xs.length := by
  unfold repL
  induction k with
  | zero => simp
  | succ k ih => rw [List.replicate_succ, List.flatten_cons, List.length_append, ih, Nat.succ_mul, Nat.add_comm]
theorem o_mul : OOk X cm (binaryOp .Mult) mulO := by
  refine ⟨_, op_mulA.or (op_repT.or op_rep), fun xl al H S x y v u Q W0 w rv ru p => ?_⟩
  unfold mulO at p
  split at p
  · cases rv; cases ru
    split at p
    · rename_i hc
      exact .inl ⟨_, _, rfl, rfl, hc, p.here w _ (.int _)⟩
    · exact p.elim
  · obtain ⟨a, vs, rfl, ha, r1⟩ := rep_tup rv
    cases ru
    split at p
    · rename_i hc
      obtain ⟨h1, h2, h3, h4⟩ := hc
      refine .inr (.inl ⟨a, _, vs, rfl, rfl, ha, fun e => ?_, h2, h3, by rw [← r1.length]; exact h4, fun q hq => ?_⟩)
      · subst e
        cases r1
        exact h1 rfl
      · exact p al _ (ext_new hq) (w.put hq) _ (Rep.newTup (S := S) hq (r1.rep _))
    · exact p.elim
  · obtain ⟨a, vs, rfl, ha, na, nxa, r1⟩ := rep_ref_lst rv
    cases ru
    split at p
    · rename_i hc
      obtain ⟨h1, h2, h3⟩ := hc
      refine .inr (.inr ⟨a, _, vs, rfl, rfl, ha, h1, h2, by rw [← r1.length]; exact h3, fun q hq => ?_⟩)
      exact p al _ (ext_new hq) (w.put hq) _ (Rep.newLst w hq (r1.rep _))
    · exact p.elim
  · exact p.elim
theorem o_mulR : OOk X cm (binaryOp .Mult) mulR := by
  refine ⟨_, op_rep, fun xl al H S x y v u Q W0 w rv ru p => ?_⟩
  unfold mulR at p
  split at p
  · obtain ⟨a, vs, rfl, ha, na, nxa, r1⟩ := rep_ref_lst rv
    cases ru
    split at p
    · rename_i hc
      obtain ⟨h1, h2, h3⟩ := hc
      refine ⟨a, _, vs, rfl, rfl, ha, h1, h2, by rw [← r1.length]; exact h3, fun q hq => ?_⟩
      exact p (al ++ [q]) _ (ext_ref w hq) (w.addRef hq (r1.rep _)) _ (Rep.newRef' w)
    · exact p.elim
  · exact p.elim
theorem op_fdivP : OpR X (binaryOp .FloorDiv) (rI (fun i j => j ≠ 0 ∧ Builtin.divisionGoesByPylong i j = false) fun i j => .int (i.fdiv j)) := opI fun _ _ _ _ _ _ _ hc q => floordiv_int hc.1 q (.inl hc.2)
theorem o_mod : OOk X cm (binaryOp .Mod) modO := by
  refine ⟨_, op_modN, fun xl al H S x y v u Q W0 w rv ru p => ?_⟩
  unfold modO at p
  split at p
  · cases rv; cases ru
    split at p
    · rename_i hc
      exact ⟨_, _, rfl, rfl, hc, p.here w _ (.int _)⟩
    · exact p.elim
  · exact p.elim
theorem o_fdiv : OOk X cm (binaryOp .FloorDiv) fdivO := by
  refine ⟨_, op_fdivP, fun xl al H S x y v u Q W0 w rv ru p => ?_⟩
  unfold fdivO at p
  split at p
  · cases rv; cases ru
    split at p
    · rename_i hc
      exact ⟨_, _, rfl, rfl, hc, p.here w _ (.int _)⟩
    · exact p.elim
  · exact p.elim
theorem o_pow : OOk X cm (binaryOp .Pow) powO := by
  refine ⟨_, op_pow, fun xl al H S x y v u Q W0 w rv ru p => ?_⟩
  unfold powO at p
  split at p
  · cases rv; cases ru
    split at p
    · rename_i hc
      exact ⟨_, _, rfl, rfl, hc, p.here w _ (.int _)⟩
    · exact p.elim
  · exact p.elim
theorem o_shl : OOk X cm (binaryOp .LShift) shlO := by
  refine ⟨_, op_shl, fun xl al H S x y v u Q W0 w rv ru p => ?_⟩
  unfold shlO at p
  split at p
  · cases rv; cases ru
    split at p
    · rename_i hc
      exact ⟨_, _, rfl, rfl, hc, p.here w _ (.int _)⟩
    · exact p.elim
  · exact p.elim
theorem u_neg : UOk X cm (unaryOp .USub) negO := by
  refine ⟨_, un_neg, fun xl al H S x v Q W0 w rv p => ?_⟩
  unfold negO at p
  split at p
  · cases rv
    exact ⟨_, rfl, p.here w _ (.int _)⟩
  · exact p.elim
end

/-! comparisons -/
mutual
/-- as plain data -/
def toPy : D → Option PyData
  | .non => some .none
  | .bl b => some (.bool b)
  | .int i => some (.int i)
  | .str x => some (.str x)
  | .tup xs => (toPys xs).map .tuple
  | .vl xs => (toPys xs).map .list
  | .fz xs => (toPys xs).map .list
  | .ref _ => none
  | .dct => none
def toPys : List D → Option (List PyData)
  | [] => some []
  | x :: xs => match toPy x, toPys xs with
    | some d, some ds => some (d :: ds)
    | _, _ => none
end
section
variable {K : PySem.W.Frag} {xl al : List Addr} {H : Hp}
mutual
theorem Rep.dp : ∀ {d : D} {v : V} {q : PyData}, Rep K xl al H d v → toPy d = some q → Dp K H v q
  | _, _, _, .non, e => by simp only [toPy] at e; cases e; exact .non
  | _, _, _, .bl b, e => by simp only [toPy] at e; cases e; exact .bl b
  | _, _, _, .int i, e => by simp only [toPy] at e; cases e; exact .int i
  | _, _, _, .str x, e => by simp only [toPy] at e; cases e; exact .str x
  | _, _, _, .tup h r, e => by
    simp only [toPy, Option.map_eq_some_iff] at e
    obtain ⟨ds, e1, rfl⟩ := e
    exact .tup h (r.dps e1)
  | _, _, _, .vl h _ _ r, e => by
    simp only [toPy, Option.map_eq_some_iff] at e
    obtain ⟨ds, e1, rfl⟩ := e
    exact .lst (.inl (.inl h)) (r.dps e1)
  | _, _, _, .fz h _ r, e => by
    simp only [toPy, Option.map_eq_some_iff] at e
    obtain ⟨ds, e1, rfl⟩ := e
    exact .lst (.inl (.inr ⟨_, h⟩)) (r.dps e1)
  | _, _, _, .fzK _ _ h r, e => by
    simp only [toPy, Option.map_eq_some_iff] at e
    obtain ⟨ds, e1, rfl⟩ := e
    exact .lst (h H) (r.dps e1)
  | _, _, _, .ref h, e => by simp only [toPy] at e; cases e
  | _, _, _, .dct _ _, e => by simp only [toPy] at e; cases e
theorem Reps.dps : ∀ {ds : List D} {vs : List V} {qs : List PyData}, Reps K xl al H ds vs → toPys ds = some qs → DpAll K H vs qs
  | _, _, _, .nil, e => by simp only [toPys] at e; cases e; exact .nil
  | _, _, _, .cons h r, e => by
    simp only [toPys] at e
    split at e
    · rename_i e1 e2
      cases e
      exact .cons (h.dp e1) (r.dps e2)
    · cases e
end
end
/-- .. a list that may be changed, as it stands -/
def toPyS (S : DS) (d : D) : Option PyData := match d with
  | .ref p => match S[p]? with
    | some (DO.lst xs) => (toPys xs).map .list
    | none => none
  | d => toPy d
theorem toPyS_dp {K : PySem.W.Frag} {xl al : List Addr} {H : Hp} {S : DS} {d : D} {v : V} {q : PyData} (w : Wd K xl S al H) (r : Rep K xl al H d v) (h : toPyS S d = some q) : Dp K H v q := by
  unfold toPyS at h
  split at h
  · rename_i p
    split at h
    · rename_i xs e
      cases r with
      | ref ha =>
        obtain ⟨a, us, h1, h2, h3⟩ := w.list e
        rw [ha] at h1; cases h1
        cases hq : toPys xs with
        | none => rw [hq] at h; cases h
        | some qs =>
          rw [hq] at h
          cases h
          exact .lst (SqL.of h2) (h3.dps hq)
    · cases h
  · exact r.dp h
def scalD (x y : D) : Option Bool := match x, y with
  | .int i, .int j => some (decide (i = j))
  | .str i, .str j => some (decide (i = j))
  | .bl i, .bl j => some (decide (i = j))
  | .non, .non => some true
  | .int _, .str _ => some false
  | .str _, .int _ => some false
  | .bl _, .str _ => some false
  | .str _, .bl _ => some false
  | .non, .int _ => some false
  | .int _, .non => some false
  | .non, .str _ => some false
  | .str _, .non => some false
  | .non, .bl _ => some false
  | .bl _, .non => some false
  | _, _ => none
def eqP (x y : D) : Option Bool := match toPy x, toPy y with
  | some a, some b => if SeqAt.shaped a = true ∧ SeqAt.shaped b = true then some (PyData.eqv a b) else none
  | _, _ => none
def eqB (x y : D) : Option Bool := match scalD x y with
  | some b => some b
  | none => eqP x y
/-- .. with lists that may be changed -/
def eqS (S : DS) (x y : D) : Option Bool := match toPyS S x, toPyS S y with
  | some a, some b => if SeqAt.shaped a = true ∧ SeqAt.shaped b = true then some (PyData.eqv a b) else none
  | _, _ => none
def eqO (x y : D) (S : DS) : Ou D := match eqB x y with
  | some b => .ok (.bl b) S
  | none => match eqS S x y with
    | some b => .ok (.bl b) S
    | none => .no
def neO (x y : D) (S : DS) : Ou D := match eqB x y with
  | some b => .ok (.bl (!b)) S
  | none => match eqS S x y with
    | some b => .ok (.bl (!b)) S
    | none => .no
def cmpO (f : Int → Int → Bool) (x y : D) (S : DS) : Ou D := match x, y with
  | .int i, .int j => .ok (.bl (f i j)) S
  | _, _ => .no
abbrev ltO := cmpO fun i j => decide (i < j)
abbrev leO := cmpO fun i j => decide (i ≤ j)
abbrev gtO := cmpO fun i j => decide (j < i)
abbrev geO := cmpO fun i j => decide (j ≤ i)
def isO (x y : D) (S : DS) : Ou D := match x, y with
  | .non, .non => .ok (.bl true) S
  | _, .non => .ok (.bl false) S
  | .bl a, .bl b => .ok (.bl (decide (a = b))) S
  | _, _ => .no
def isnO (x y : D) (S : DS) : Ou D := match x, y with
  | .non, .non => .ok (.bl false) S
  | _, .non => .ok (.bl true) S
  | .bl a, .bl b => .ok (.bl (!decide (a = b))) S
  | _, _ => .no
section
variable {X : Cx} {cm : CM}
theorem scalD_rep {K : PySem.W.Frag} {xl al : List Addr} {H : Hp} {x y : D} {v u : V} {b : Bool} (h : scalD x y = some b) (rv : Rep K xl al H x v) (ru : Rep K xl al H y u) : scal v u = true ∧ decide (v = u) = b := by
  unfold scalD at h
  split at h <;> first | (cases h; cases rv; cases ru; exact ⟨rfl, by simp⟩) | cases h
theorem eqP_rep {K : PySem.W.Frag} {xl al : List Addr} {H : Hp} {x y : D} {v u : V} {b : Bool} (h : eqP x y = some b) (rv : Rep K xl al H x v) (ru : Rep K xl al H y u) :
    ∃ p q, Dp K H v p ∧ Dp K H u q ∧ SeqAt.shaped p = true ∧ SeqAt.shaped q = true ∧ PyData.eqv p q = b := by
  unfold eqP at h
  split at h
  · rename_i a b e1 e2
    split at h
    · rename_i hs
      cases h
      exact ⟨a, b, rv.dp e1, ru.dp e2, hs.1, hs.2, rfl⟩
    · cases h
  · cases h
theorem eqS_rep {K : PySem.W.Frag} {xl al : List Addr} {H : Hp} {S : DS} {x y : D} {v u : V} {b : Bool} (w : Wd K xl S al H) (h : eqS S x y = some b) (rv : Rep K xl al H x v) (ru : Rep K xl al H y u) :
    ∃ p q, Dp K H v p ∧ Dp K H u q ∧ SeqAt.shaped p = true ∧ SeqAt.shaped q = true ∧ PyData.eqv p q = b := by
  unfold eqS at h
  split at h
  · rename_i a b e1 e2
    split at h
    · rename_i hs
      cases h
      exact ⟨a, b, toPyS_dp w rv e1, toPyS_dp w ru e2, hs.1, hs.2, rfl⟩
    · cases h
  · cases h
theorem o_eq (hu : X.A.units + 64 < cLine) : OOk X cm (compareOp .Eq) eqO := by
  refine ⟨_, op_eq.or (op_eqD hu), fun xl al H S x y v u Q W0 w rv ru p => ?_⟩
  unfold eqO at p
  split at p
  · rename_i b hb
    unfold eqB at hb
    split at hb
    · rename_i b' h
      cases hb
      obtain ⟨h1, rfl⟩ := scalD_rep h rv ru
      exact .inl ⟨h1, p.here w _ (.bl _)⟩
    · obtain ⟨a, c, h1, h2, h3, h4, rfl⟩ := eqP_rep hb rv ru
      exact .inr ⟨a, c, h1, h2, h3, h4, p.here w _ (.bl _)⟩
  · split at p
    · rename_i b hb
      obtain ⟨a, c, h1, h2, h3, h4, rfl⟩ := eqS_rep w hb rv ru
      exact .inr ⟨a, c, h1, h2, h3, h4, p.here w _ (.bl _)⟩
    · exact p.elim
theorem o_ne (hu : X.A.units + 64 < cLine) : OOk X cm (compareOp .NotEq) neO := by
  refine ⟨_, op_ne.or (op_neD hu), fun xl al H S x y v u Q W0 w rv ru p => ?_⟩
  unfold neO at p
  split at p
  · rename_i b hb
    unfold eqB at hb
    split at hb
    · rename_i b' h
      cases hb
      obtain ⟨h1, rfl⟩ := scalD_rep h rv ru
      exact .inl ⟨h1, p.here w _ (.bl _)⟩
    · obtain ⟨a, c, h1, h2, h3, h4, rfl⟩ := eqP_rep hb rv ru
      exact .inr ⟨a, c, h1, h2, h3, h4, p.here w _ (.bl _)⟩
  · split at p
    · rename_i b hb
      obtain ⟨a, c, h1, h2, h3, h4, rfl⟩ := eqS_rep w hb rv ru
      exact .inr ⟨a, c, h1, h2, h3, h4, p.here w _ (.bl _)⟩
    · exact p.elim
theorem o_cmp {op : CmpOp} {f : Int → Int → Bool} (h : OpR X (compareOp op) (rI0 fun i j => .bl (f i j))) : OOk X cm (compareOp op) (cmpO f) := by
  refine ⟨_, h, fun xl al H S x y v u Q W0 w rv ru p => ?_⟩
  unfold cmpO at p
  split at p
  · cases rv; cases ru
    exact ⟨_, _, rfl, rfl, p.here w _ (.bl _)⟩
  · exact p.elim
theorem o_lt : OOk X cm (compareOp .Lt) ltO := o_cmp op_lt
theorem o_le : OOk X cm (compareOp .LtE) leO := o_cmp op_le
theorem o_gt : OOk X cm (compareOp .Gt) gtO := o_cmp op_gt
theorem o_ge : OOk X cm (compareOp .GtE) geO := o_cmp op_ge
theorem o_is : OOk X cm (compareOp .Is) isO := by
  refine ⟨_, op_isN.or op_isBl, fun xl al H S x y v u Q W0 w rv ru p => ?_⟩
  unfold isO at p
  split at p
  · cases rv; cases ru
    exact .inl ⟨rfl, p.here w _ (.bl _)⟩
  · rename_i h
    cases ru
    refine .inl ⟨rfl, ?_⟩
    have hn : decide (v = V.non) = false := decide_eq_false fun e => by
      subst e
      cases rv
      exact h rfl
    rw [hn]
    exact p.here w _ (.bl _)
  · cases rv; cases ru
    exact .inr ⟨_, _, rfl, rfl, p.here w _ (.bl _)⟩
  · exact p.elim
theorem o_isn : OOk X cm (compareOp .IsNot) isnO := by
  refine ⟨_, op_notN.or op_notBl, fun xl al H S x y v u Q W0 w rv ru p => ?_⟩
  unfold isnO at p
  split at p
  · cases rv; cases ru
    exact .inl ⟨rfl, p.here w _ (.bl _)⟩
  · rename_i h
    cases ru
    refine .inl ⟨rfl, ?_⟩
    have hn : decide (v = V.non) = false := decide_eq_false fun e => by
      subst e
      cases rv
      exact h rfl
    rw [hn]
    exact p.here w _ (.bl _)
  · cases rv; cases ru
    exact .inr ⟨_, _, rfl, rfl, p.here w _ (.bl _)⟩
  · exact p.elim
end

/-! subscripts, slices -/
def getI (xs : List D) (i : Int) (S : DS) : Ou D := match atI xs i with
  | some d => .ok d S
  | none => .no
def ixO (x y : D) (S : DS) : Ou D := match x, y with
  | .tup xs, .int i => getI xs i S
  | .vl xs, .int i => getI xs i S
  | .fz xs, .int i => getI xs i S
  | .ref p, .int i => match S[p]? with
    | some (DO.lst xs) => getI xs i S
    | none => .no
  | _, _ => .no
theorem atI_rep {K : PySem.W.Frag} {xl al : List Addr} {H : Hp} {xs : List D} {vs : List V} (r : Reps K xl al H xs vs) {i : Int} {d : D} (h : atI xs i = some d) : ∃ v, atI vs i = some v ∧ Rep K xl al H d v := by
  unfold atI at h ⊢
  rw [r.length] at h
  cases e : ixN vs.length i with
  | none => rw [e] at h; cases h
  | some j =>
    rw [e] at h
    exact r.get h
section
variable {X : Cx} {cm : CM}
theorem getI_ok {K : PySem.W.Frag} {xl al : List Addr} {H : Hp} {S : DS} {Q : VK} {W0 : WH} {xs : List D} {vs : List V} {i : Int} (w : Wd K xl S al H) (r : Reps K xl al H xs vs) (p : Post K cm xl W0 (RE K xl Q) (getI xs i S) al H) :
    ∃ v, atI vs i = some v ∧ Q v H := by
  unfold getI at p
  split at p
  · rename_i d e
    obtain ⟨v, h1, h2⟩ := atI_rep r e
    exact ⟨v, h1, p.here w _ h2⟩
  · exact p.elim
theorem i_seq : IOk X cm ixO := by
  refine ⟨_, ix_list.or ix_tup, fun xl al H S x y v u Q W0 w rv ru p => ?_⟩
  unfold ixO at p
  split at p
  · obtain ⟨a, vs, rfl, ha, r1⟩ := rep_tup rv
    cases ru
    obtain ⟨z, h1, h2⟩ := getI_ok w r1 p
    exact .inr ⟨a, vs, _, z, rfl, rfl, ha, h1, h2⟩
  · obtain ⟨a, vs, rfl, ha, na, nxa, r1⟩ := rep_ref_lst rv
    cases ru
    obtain ⟨z, h1, h2⟩ := getI_ok w r1 p
    exact .inl ⟨a, vs, _, z, rfl, rfl, SqL.of ha, h1, h2⟩
  · cases ru
    cases rv with
    | fz h n r =>
      obtain ⟨z, h1, h2⟩ := getI_ok w r p
      exact .inl ⟨_, _, _, z, rfl, rfl, .inl (.inr ⟨_, h⟩), h1, h2⟩
    | fzK k c h r =>
      obtain ⟨z, h1, h2⟩ := getI_ok w r p
      exact .inl ⟨_, _, _, z, rfl, rfl, h H, h1, h2⟩
  · cases ru
    split at p
    · rename_i xs e
      cases rv with
      | ref h =>
        obtain ⟨a, vs, h1, h2, h3⟩ := w.list e
        rw [h] at h1; cases h1
        obtain ⟨z, h4, h5⟩ := getI_ok w h3 p
        exact .inl ⟨_, _, _, z, rfl, rfl, SqL.of h2, h4, h5⟩
    · exact p.elim
  · exact p.elim
end
def cutD (xs : List D) (lo hi : Option Int) : List D := (xs.drop (HT.sIx xs.length 0 lo)).take (HT.sIx xs.length xs.length hi - HT.sIx xs.length 0 lo)
theorem Reps.cut {K : PySem.W.Frag} {xl al : List Addr} {H : Hp} {xs : List D} {vs : List V} (r : Reps K xl al H xs vs) (lo hi : Option Int) : Reps K xl al H (cutD xs lo hi) (cutV vs lo hi) := by
  unfold cutD cutV
  rw [r.length]
  exact (r.drop _).take _
def slO (x : D) (lo hi : Option Int) (S : DS) : Ou D := match x with
  | .tup xs => .ok (.tup (cutD xs lo hi)) S
  | .vl xs => .ok (.vl (cutD xs lo hi)) S
  | .fz xs => .ok (.vl (cutD xs lo hi)) S
  | .ref p => match S[p]? with
    | some (DO.lst xs) => .ok (.vl (cutD xs lo hi)) S
    | none => .no
  | .str z => if z.length ≤ sizeLine then .ok (.str (cutS z lo hi)) S else .no
  | _ => .no
section
variable {X : Cx} {cm : CM}
theorem l_seq : LOk X cm slO := by
  refine ⟨_, sl_list.or (sl_tupA.or sl_str), fun xl al H S x v lo hi Q W0 w rv p => ?_⟩
  unfold slO at p
  split at p
  · obtain ⟨a, vs, rfl, ha, r1⟩ := rep_tup rv
    refine .inr (.inl ⟨a, vs, rfl, ha, fun hw => ?_, fun _ q hq => ?_⟩)
    · have r2 := r1.cut lo hi
      have e : cutV vs lo hi = vs := by
        unfold cutV
        rw [hw.1, hw.2]
        simp
      rw [e] at r2
      exact p.here w _ (.tup ha r2)
    · exact p al _ (ext_new hq) (w.put hq) _ (Rep.newTup (S := S) hq (r1.cut lo hi))
  · obtain ⟨a, vs, rfl, ha, na, nxa, r1⟩ := rep_ref_lst rv
    refine .inl ⟨a, vs, rfl, SqL.of ha, fun q hq => ?_⟩
    exact p al _ (ext_new hq) (w.put hq) _ (Rep.newLst w hq (r1.cut lo hi))
  · cases rv with
    | fz h n r =>
      refine .inl ⟨_, _, rfl, .inl (.inr ⟨_, h⟩), fun q hq => ?_⟩
      exact p al _ (ext_new hq) (w.put hq) _ (Rep.newLst w hq (r.cut lo hi))
    | fzK k c h r =>
      refine .inl ⟨_, _, rfl, h H, fun q hq => ?_⟩
      exact p al _ (ext_new hq) (w.put hq) _ (Rep.newLst w hq (r.cut lo hi))
  · split at p
    · rename_i xs e
      cases rv with
      | ref h =>
        obtain ⟨a, vs, h1, h2, h3⟩ := w.list e
        rw [h] at h1; cases h1
        refine .inl ⟨_, vs, rfl, SqL.of h2, fun q hq => ?_⟩
        exact p al _ (ext_new hq) (w.put hq) _ (Rep.newLst w hq (h3.cut lo hi))
    · exact p.elim
  · cases rv
    split at p
    · rename_i hl
      exact .inr (.inr ⟨_, rfl, hl, p.here w _ (.str _)⟩)
    · exact p.elim
  · exact p.elim
end

/-! built-in functions -/
def lenO (xs : List D) (S : DS) : Ou D := match xs with
  | [.tup ys] => .ok (.int ys.length) S
  | [.vl ys] => .ok (.int ys.length) S
  | [.fz ys] => .ok (.int ys.length) S
  | [.ref p] => match S[p]? with
    | some (DO.lst ys) => .ok (.int ys.length) S
    | none => .no
  | [.str z] => if z.length ≤ sizeLine then .ok (.int z.length) S else .no
  | _ => .no
def absO (xs : List D) (S : DS) : Ou D := match xs with
  | [.int i] => .ok (.int (if i < 0 then -i else i)) S
  | _ => .no
def intO (xs : List D) (S : DS) : Ou D := match xs with
  | [.int i] => .ok (.int i) S
  | [.bl k] => .ok (.int (if k then 1 else 0)) S
  | _ => .no
def tupleO (xs : List D) (S : DS) : Ou D := match xs with
  | [.tup ys] => .ok (.tup ys) S
  | [.vl ys] => .ok (.tup ys) S
  | [.fz ys] => .ok (.tup ys) S
  | [.ref p] => match S[p]? with
    | some (DO.lst ys) => .ok (.tup ys) S
    | none => .no
  | _ => .no
def listO (xs : List D) (S : DS) : Ou D := match xs with
  | [.tup ys] => .ok (.vl ys) S
  | [.vl ys] => .ok (.vl ys) S
  | [.fz ys] => .ok (.vl ys) S
  | [.ref p] => match S[p]? with
    | some (DO.lst ys) => .ok (.vl ys) S
    | none => .no
  | _ => .no
def asBls : List D → Option (List Bool)
  | [] => some []
  | .bl b :: r => (asBls r).map (b :: ·)
  | _ => none
def asInts : List D → Option (List Int)
  | [] => some []
  | .int i :: r => (asInts r).map (i :: ·)
  | _ => none
def blsO (f : List Bool → Bool) (xs : List D) (S : DS) : Ou D := match xs with
  | [.vl ys] => match asBls ys with
    | some bs => .ok (.bl (f bs)) S
    | none => .no
  | _ => .no
abbrev allO := blsO fun bs => bs.all id
abbrev anyO := blsO fun bs => bs.any id
def sumO (xs : List D) (S : DS) : Ou D := match xs with
  | [.vl ys] => match asInts ys with
    | some ns => .ok (.int ns.sum) S
    | none => .no
  | _ => .no
def min2O (xs : List D) (S : DS) : Ou D := match xs with
  | [.int i, .int j] => .ok (.int (if j < i then j else i)) S
  | _ => .no
def max2O (xs : List D) (S : DS) : Ou D := match xs with
  | [.int i, .int j] => .ok (.int (if j > i then j else i)) S
  | _ => .no
section
variable {X : Cx} {cm : CM} {K : PySem.W.Frag} {xl al : List Addr} {H : Hp}
theorem reps1 {d : D} {vs : List V} (r : Reps K xl al H [d] vs) : ∃ v, vs = [v] ∧ Rep K xl al H d v := by
  cases r with
  | cons h r => cases r; exact ⟨_, rfl, h⟩
theorem reps2 {d e : D} {vs : List V} (r : Reps K xl al H [d, e] vs) : ∃ v u, vs = [v, u] ∧ Rep K xl al H d v ∧ Rep K xl al H e u := by
  cases r with
  | cons h r =>
    obtain ⟨u, rfl, h2⟩ := reps1 r
    exact ⟨_, _, rfl, h, h2⟩
theorem asBls_rep : ∀ {ds : List D} {vs : List V} {bs : List Bool}, Reps K xl al H ds vs → asBls ds = some bs → vs = bs.map V.bl
  | _, _, _, .nil, e => by simp only [asBls] at e; cases e; rfl
  | _, _, _, .cons h r, e => by
    cases h <;> simp only [asBls] at e <;> try (cases e)
    rw [Option.map_eq_some_iff] at e
    obtain ⟨bs, e1, rfl⟩ := e
    rw [List.map_cons, asBls_rep r e1]
theorem asInts_rep : ∀ {ds : List D} {vs : List V} {ns : List Int}, Reps K xl al H ds vs → asInts ds = some ns → vs = ns.map V.int
  | _, _, _, .nil, e => by simp only [asInts] at e; cases e; rfl
  | _, _, _, .cons h r, e => by
    cases h <;> simp only [asInts] at e <;> try (cases e)
    rw [Option.map_eq_some_iff] at e
    obtain ⟨bs, e1, rfl⟩ := e
    rw [List.map_cons, asInts_rep r e1]
theorem c_len : COk X cm (.builtin "len") lenO := by
  refine ⟨_, call_len_seq.or call_len_str, fun xl al H S xs vs Q W0 w rs p => ?_⟩
  unfold lenO at p
  split at p
  · obtain ⟨v, rfl, rv⟩ := reps1 rs
    obtain ⟨a, us, rfl, ha, r1⟩ := rep_tup rv
    refine .inl ⟨a, us, rfl, .inr ha, ?_⟩
    rw [← r1.length]
    exact p.here w _ (.int _)
  · obtain ⟨v, rfl, rv⟩ := reps1 rs
    obtain ⟨a, us, rfl, ha, na, nxa, r1⟩ := rep_ref_lst rv
    refine .inl ⟨a, us, rfl, .inl (SqL.of ha), ?_⟩
    rw [← r1.length]
    exact p.here w _ (.int _)
  · obtain ⟨v, rfl, rv⟩ := reps1 rs
    cases rv with
    | fz h n r =>
      refine .inl ⟨_, _, rfl, .inl (.inl (.inr ⟨_, h⟩)), ?_⟩
      rw [← r.length]
      exact p.here w _ (.int _)
    | fzK k c h r =>
      refine .inl ⟨_, _, rfl, .inl (h H), ?_⟩
      rw [← r.length]
      exact p.here w _ (.int _)
  · obtain ⟨v, rfl, rv⟩ := reps1 rs
    split at p
    · rename_i ys e
      cases rv with
      | ref h =>
        obtain ⟨a, us, h1, h2, h3⟩ := w.list e
        rw [h] at h1; cases h1
        refine .inl ⟨_, _, rfl, .inl (SqL.of h2), ?_⟩
        rw [← h3.length]
        exact p.here w _ (.int _)
    · exact p.elim
  · obtain ⟨v, rfl, rv⟩ := reps1 rs
    cases rv
    split at p
    · rename_i hl
      exact .inr ⟨_, rfl, hl, p.here w _ (.int _)⟩
    · exact p.elim
  · exact p.elim
theorem c_abs : COk X cm (.builtin "abs") absO := by
  refine ⟨_, call_abs, fun xl al H S xs vs Q W0 w rs p => ?_⟩
  unfold absO at p
  split at p
  · obtain ⟨v, rfl, rv⟩ := reps1 rs
    cases rv
    exact ⟨_, rfl, p.here w _ (.int _)⟩
  · exact p.elim
theorem c_int : COk X cm (.type "int") intO := by
  refine ⟨_, call_int1, fun xl al H S xs vs Q W0 w rs p => ?_⟩
  unfold intO at p
  split at p
  · obtain ⟨v, rfl, rv⟩ := reps1 rs
    cases rv
    exact .inl ⟨_, rfl, p.here w _ (.int _)⟩
  · obtain ⟨v, rfl, rv⟩ := reps1 rs
    cases rv
    exact .inr ⟨_, rfl, p.here w _ (.int _)⟩
  · exact p.elim
theorem c_tuple : COk X cm (.type "tuple") tupleO := by
  refine ⟨_, call_tuple_of, fun xl al H S xs vs Q W0 w rs p => ?_⟩
  unfold tupleO at p
  split at p
  · obtain ⟨v, rfl, rv⟩ := reps1 rs
    obtain ⟨a, us, rfl, ha, r1⟩ := rep_tup rv
    exact ⟨a, us, rfl, .inr ⟨ha, p.here w _ (.tup ha r1)⟩⟩
  · obtain ⟨v, rfl, rv⟩ := reps1 rs
    obtain ⟨a, us, rfl, ha, na, nxa, r1⟩ := rep_ref_lst rv
    exact ⟨a, us, rfl, .inl ⟨SqL.of ha, fun q hq => p al _ (ext_new hq) (w.put hq) _ (Rep.newTup (S := S) hq r1)⟩⟩
  · obtain ⟨v, rfl, rv⟩ := reps1 rs
    cases rv with
    | fz h n r => exact ⟨_, _, rfl, .inl ⟨.inl (.inr ⟨_, h⟩), fun q hq => p al _ (ext_new hq) (w.put hq) _ (Rep.newTup (S := S) hq r)⟩⟩
    | fzK k c h r => exact ⟨_, _, rfl, .inl ⟨h H, fun q hq => p al _ (ext_new hq) (w.put hq) _ (Rep.newTup (S := S) hq r)⟩⟩
  · obtain ⟨v, rfl, rv⟩ := reps1 rs
    split at p
    · rename_i ys e
      cases rv with
      | ref h =>
        obtain ⟨a, us, h1, h2, h3⟩ := w.list e
        rw [h] at h1; cases h1
        exact ⟨_, _, rfl, .inl ⟨SqL.of h2, fun q hq => p al _ (ext_new hq) (w.put hq) _ (Rep.newTup (S := S) hq h3)⟩⟩
    · exact p.elim
  · exact p.elim
theorem c_list : COk X cm (.type "list") listO := by
  refine ⟨_, call_list_of, fun xl al H S xs vs Q W0 w rs p => ?_⟩
  unfold listO at p
  split at p
  · obtain ⟨v, rfl, rv⟩ := reps1 rs
    obtain ⟨a, us, rfl, ha, r1⟩ := rep_tup rv
    exact ⟨a, us, rfl, .inr ha, fun q hq => p al _ (ext_new hq) (w.put hq) _ (Rep.newLst w hq r1)⟩
  · obtain ⟨v, rfl, rv⟩ := reps1 rs
    obtain ⟨a, us, rfl, ha, na, nxa, r1⟩ := rep_ref_lst rv
    exact ⟨a, us, rfl, .inl (SqL.of ha), fun q hq => p al _ (ext_new hq) (w.put hq) _ (Rep.newLst w hq r1)⟩
  · obtain ⟨v, rfl, rv⟩ := reps1 rs
    cases rv with
    | fz h n r => exact ⟨_, _, rfl, .inl (.inl (.inr ⟨_, h⟩)), fun q hq => p al _ (ext_new hq) (w.put hq) _ (Rep.newLst w hq r)⟩
    | fzK k c h r => exact ⟨_, _, rfl, .inl (h H), fun q hq => p al _ (ext_new hq) (w.put hq) _ (Rep.newLst w hq r)⟩
  · obtain ⟨v, rfl, rv⟩ := reps1 rs
    split at p
    · rename_i ys e
      cases rv with
      | ref h =>
        obtain ⟨a, us, h1, h2, h3⟩ := w.list e
        rw [h] at h1; cases h1
        exact ⟨_, _, rfl, .inl (SqL.of h2), fun q hq => p al _ (ext_new hq) (w.put hq) _ (Rep.newLst w hq h3)⟩
    · exact p.elim
  · exact p.elim
theorem c_bls {id : String} {f : List Bool → Bool} (h : CallR X (.builtin id) (fun vs H Q => ∃ (a : Addr) (bs : List Bool), vs = [V.ref a] ∧ SqL X.K H a (bs.map V.bl) ∧ Q (.bl (f bs)) H)) : COk X cm (.builtin id) (blsO f) := by
  refine ⟨_, h, fun xl al H S xs vs Q W0 w rs p => ?_⟩
  unfold blsO at p
  split at p
  · obtain ⟨v, rfl, rv⟩ := reps1 rs
    obtain ⟨a, us, rfl, ha, na, nxa, r1⟩ := rep_ref_lst rv
    split at p
    · rename_i bs e
      rw [asBls_rep r1 e] at ha
      exact ⟨a, bs, rfl, SqL.of ha, p.here w _ (.bl _)⟩
    · exact p.elim
  · exact p.elim
theorem c_all (hc : X.calm = true) : COk X cm (.builtin "all") allO := c_bls (cr_all hc)
theorem c_any (hc : X.calm = true) : COk X cm (.builtin "any") anyO := c_bls (cr_any hc)
theorem c_sum (hc : X.calm = true) : COk X cm (.builtin "sum") sumO := by
  refine ⟨_, cr_sum hc, fun xl al H S xs vs Q W0 w rs p => ?_⟩
  unfold sumO at p
  split at p
  · obtain ⟨v, rfl, rv⟩ := reps1 rs
    obtain ⟨a, us, rfl, ha, na, nxa, r1⟩ := rep_ref_lst rv
    split at p
    · rename_i bs e
      rw [asInts_rep r1 e] at ha
      exact ⟨a, bs, rfl, SqL.of ha, p.here w _ (.int _)⟩
    · exact p.elim
  · exact p.elim
theorem c_min2 (hc : X.calm = true) : COk X cm (.builtin "min") min2O := by
  refine ⟨_, call_min2 hc, fun xl al H S xs vs Q W0 w rs p => ?_⟩
  unfold min2O at p
  split at p
  · obtain ⟨v, u, rfl, rv, ru⟩ := reps2 rs
    cases rv; cases ru
    exact ⟨_, _, rfl, p.here w _ (.int _)⟩
  · exact p.elim
theorem c_max2 (hc : X.calm = true) : COk X cm (.builtin "max") max2O := by
  refine ⟨_, call_max2 hc, fun xl al H S xs vs Q W0 w rs p => ?_⟩
  unfold max2O at p
  split at p
  · obtain ⟨v, u, rfl, rv, ru⟩ := reps2 rs
    cases rv; cases ru
    exact ⟨_, _, rfl, p.here w _ (.int _)⟩
  · exact p.elim
end
end DL

namespace DL
open PySem PySem.Spec PyProof.Rows L2

/-! from an expression's outcome to a statement's -/
def lift {α : Type} (o : Ou α) (env : DE) (f : α → DS → Ou (Fl × DE)) : Ou (Fl × DE) := match o with
  | .ok a S => f a S
  | .ex x S => .ok (.xc x, env) S
  | .no => .no
@[simp] theorem lift_ok {α : Type} (a : α) (S : DS) (env : DE) (f : α → DS → Ou (Fl × DE)) : lift (.ok a S) env f = f a S := (rfl)
@[simp] theorem lift_ex {α : Type} (x : Exn) (S : DS) (env : DE) (f : α → DS → Ou (Fl × DE)) : lift (.ex x S) env f = .ok (.xc x, env) S := (rfl)
@[simp] theorem lift_no {α : Type} (env : DE) (f : α → DS → Ou (Fl × DE)) : lift .no env f = .no := (rfl)
section
variable {K : PySem.W.Frag} {cm : CM} {xl al : List Addr} {H : Hp} {W : WX} {D0 : Ends} {env : DE} {σ : L2.St} {α : Type}
theorem Post.lift {o : Ou α} {f : α → DS → Ou (Fl × DE)} (h : Post K cm xl noW (RS K cm xl W D0) (DL.lift o env f) al H) (r : EnvR K xl al H env σ) :
    Post K cm xl (fun c d H' => W c d σ H') (fun a S1 al1 H1 => Post K cm xl noW (RS K cm xl W D0) (f a S1) al1 H1) o al H := by
  cases o with
  | ok a S => exact fun al' H' e _ => Post.mono e h
  | ex x S => exact fun al' H' cls dx e w z => h al' H' e w σ (r.mono e) cls dx z
  | no => exact h
theorem Post.wk {R : α → DS → List Addr → Hp → Prop} {o : Ou α} {W0 : WH} (h : Post K cm xl noW R o al H) : Post K cm xl W0 R o al H := by
  cases o with
  | ok a S => exact h
  | ex x S => exact fun al' H' cls dx e w z => (h al' H' cls dx e w z).elim
  | no => exact h
end

def mRet (a : ME) : MS := fun env S => lift (a env S) env fun d S1 => .ok (.rt d, env) S1
def mRetN : MS := fun env S => .ok (.rt .non, env) S
def mNx : MS := fun env S => .ok (.nx, env) S
def mBk : MS := fun env S => .ok (.bk, env) S
def mCt : MS := fun env S => .ok (.ct, env) S
def mNever : MS := fun _ _ => .no
def mDo (a : ME) : MS := fun env S => lift (a env S) env fun _ S1 => .ok (.nx, env) S1
def mSet (i : Nat) (a : ME) : MS := fun env S => lift (a env S) env fun d S1 => .ok (.nx, env.set i (some d)) S1
def mAsg (g : MG) (a : ME) : MS := fun env S => lift (a env S) env fun d S1 => (g d env S1).bind fun env' S2 => .ok (.nx, env') S2
def mPar (i j : Nat) (a : MA) : MS := fun env S => lift (a env S) env fun ds S1 => match ds with
  | [x, y] => .ok (.nx, (env.set i (some x)).set j (some y)) S1
  | _ => .no
def mAug (i : Nat) (f : D → D → DS → Ou D) (a : ME) : MS := fun env S => match env[i]? with
  | some (some x) => lift (a env S) env fun y S1 => lift (f x y S1) env fun z S2 => .ok (.nx, env.set i (some z)) S2
  | _ => .no
def mIfS (c : MT) (a b : MS) : MS := fun env S => lift (c env S) env fun k S1 => if k = true then a env S1 else b env S1
def mSeq (a b : MS) : MS := fun env S => (a env S).bind fun r S1 => match r.1 with
  | .nx => b r.2 S1
  | f => .ok (f, r.2) S1

section
variable {X : Cx} {cm : CM} {W : WX} {a b c e : Expr} {es : List Expr} {ma mb mc : ME} {pos : Pos} {st : Stmt} {sts : List Stmt} {ms mr : MS}
theorem s_ret (h : EOk X cm W e ma) : SOk X cm W (.Return (some e) pos) (mRet ma) := by
  obtain ⟨t, p, d⟩ := h
  refine ⟨_, ps_ret p, fun xl al σ H S env D0 w r q => ?_⟩
  refine d xl al σ H S env _ w r ((q.lift r).imp fun x S1 al1 H1 e1 w1 p1 v rv => ?_)
  exact p1.here w1 σ (r.mono e1) v rv
theorem s_retN : SOk X cm W (.Return none pos) mRetN := ⟨_, ps_retN, fun xl al σ H S env D0 w r q => q.here w σ r _ .non⟩
theorem s_pass : SOk X cm W (.Pass pos) mNx := ⟨_, ps_pass, fun xl al σ H S env D0 w r q => q.here w σ r⟩
theorem s_break : SOk X cm W (.Break pos) mBk := ⟨_, ps_break, fun xl al σ H S env D0 w r q => q.here w σ r⟩
theorem s_continue : SOk X cm W (.Continue pos) mCt := ⟨_, ps_continue, fun xl al σ H S env D0 w r q => q.here w σ r⟩
theorem s_never : SOk X cm W st mNever := ⟨_, ps_never, fun xl al σ H S env D0 w r q => q.elim⟩
theorem s_do (h : EOk X cm W e ma) (hs : swapsWith e none pos.line X.env = pure false := by rfl) : SOk X cm W (.Expr e pos) (mDo ma) := by
  obtain ⟨t, p, d⟩ := h
  refine ⟨_, ps_expr p hs, fun xl al σ H S env D0 w r q => ?_⟩
  refine d xl al σ H S env _ w r ((q.lift r).imp fun x S1 al1 H1 e1 w1 p1 v rv => ?_)
  exact p1.here w1 σ (r.mono e1)
theorem s_set {i : Nat} {x : Str} {pos' : Pos} (hN : X.N.Nodup) (h : EOk X cm W e ma) (hi : X.N[i]? = some x := by rfl) (hx : Loc X.env.scope x := by first | exact Or.inl rfl | exact Or.inr rfl) (hs : swapsWith e (some (.Name x pos')) pos.line X.env = pure false := by rfl)
    (hf : X.fn x = true ∨ X.env.scope.names.lookup x = some .local := by first | exact .inl rfl | exact .inr rfl | assumption) : SOk X cm W (.Assign [.Name x pos'] e pos) (mSet i ma) := by
  obtain ⟨t, p, d⟩ := h
  refine ⟨_, ps_set hN hi hx p hs hf, fun xl al σ H S env D0 w r q => ?_⟩
  refine d xl al σ H S env _ w r ((q.lift r).imp fun x S1 al1 H1 e1 w1 p1 v rv => ?_)
  exact p1.here w1 _ ((r.mono e1).set rv i)
theorem s_asg {tg : Expr} {mg : MG} (h : EOk X cm W e ma) (hg : GOk X cm tg mg) (hs : swapsWithSole [tg] e pos.line X.env = pure false := by rfl) (hw : swappedStores [tg] e X.env = pure none := by rfl)
    (h1 : (assignEach [tg] X.env).map (·.2) = [assign tg X.env] := by rfl) : SOk X cm W (.Assign [tg] e pos) (mAsg mg ma) := by
  obtain ⟨t, p, d⟩ := h
  obtain ⟨tg', pg, dg⟩ := hg
  refine ⟨_, ps_asg p pg hs hw h1, fun xl al σ H S env D0 w r q => ?_⟩
  refine d xl al σ H S env _ w r ((q.lift r).imp fun x S1 al1 H1 e1 w1 p1 v rv => ?_)
  refine dg xl al1 σ H1 S1 env x v _ w1 (r.mono e1) rv (p1.bind.imp fun env' S2 al2 H2 e2 w2 p2 σ' r' => ?_)
  exact p2.here w2 σ' r'
theorem s_par {i j : Nat} {x y : Str} {px py pt : Pos} {kt k2 pt2} {mp : MA} (hc : X.calm = true) (hN : X.N.Nodup) (ha : AOk X cm W [a, b] mp) (hw : swappedStores [.Tuple [.Name x px, .Name y py] kt pt] (.Tuple [a, b] k2 pt2) X.env = pure (some [x, y]))
    (hi : X.N[i]? = some x := by rfl) (hj : X.N[j]? = some y := by rfl) (hij : i ≠ j := by decide) (hx : X.env.scope.names.lookup x = some .local := by rfl) (hy : X.env.scope.names.lookup y = some .local := by rfl)
    (hs : swapsWithSole [.Tuple [.Name x px, .Name y py] kt pt] (.Tuple [a, b] k2 pt2) pos.line X.env = pure false := by rfl) :
    SOk X cm W (.Assign [.Tuple [.Name x px, .Name y py] kt pt] (.Tuple [a, b] k2 pt2) pos) (mPar i j mp) := by
  obtain ⟨t, p, d⟩ := ha
  refine ⟨_, ps_par hc hN hi hj hij hx hy p hw hs, fun xl al σ H S env D0 w r q => ?_⟩
  refine d xl al σ H S env _ w r ((q.lift r).imp fun xs S1 al1 H1 e1 w1 p1 vs rvs => ?_)
  split at p1
  · obtain ⟨v, u, rfl, rv, ru⟩ := reps2 rvs
    exact ⟨v, u, rfl, p1.here w1 _ (((r.mono e1).set rv i).set ru j)⟩
  · exact p1.elim
theorem s_aug {i : Nat} {x : Str} {op : Operator} {f : D → D → DS → Ou D} {pos' : Pos} (hN : X.N.Nodup) (ho : OOk X cm (inplaceOp op) f) (h : EOk X cm W e ma) (hi : X.N[i]? = some x := by rfl) (hx : Loc X.env.scope x := by first | exact Or.inl rfl | exact Or.inr rfl)
    (hf : X.fn x = true ∨ X.env.scope.names.lookup x = some .local := by first | exact .inl rfl | exact .inr rfl | assumption) : SOk X cm W (.AugAssign (.Name x pos') op e pos) (mAug i f ma) := by
  obtain ⟨t, p, d⟩ := h
  obtain ⟨r0, hr, dr⟩ := ho
  refine ⟨_, ps_aug hN hi hx p (show PIp X op r0 from hr) hf, fun xl al σ H S env D0 w r q => ?_⟩
  unfold mAug at q
  split at q
  · rename_i x0 e0
    obtain ⟨v0, h0, rv0⟩ := r.at' i x0 e0
    refine ⟨v0, h0, ?_⟩
    refine d xl al σ H S env _ w r ((q.lift r).imp fun y S1 al1 H1 e1 w1 p1 v rv => ?_)
    refine dr xl al1 H1 S1 x0 y v0 v _ _ w1 (rv0.mono e1) rv ((p1.lift (r.mono e1)).imp fun z S2 al2 H2 e2 w2 p2 u ru => ?_)
    exact p2.here w2 _ (((r.mono e1).mono e2).set ru i)
  · exact q.elim
theorem s_if {mt : MT} {ta tb : List Stmt} (hc : TOk X cm W c mt) (ha : SsOk X cm W ta ms) (hb : SsOk X cm W tb mr) : SOk X cm W (.If c ta tb pos) (mIfS mt ms mr) := by
  obtain ⟨tc, pc, dc⟩ := hc
  obtain ⟨t1, p1, d1⟩ := ha
  obtain ⟨t2, p2, d2⟩ := hb
  refine ⟨_, ps_if pc p1 p2, fun xl al σ H S env D0 w r q => ?_⟩
  refine dc xl al σ H S env _ w r ((q.lift r).imp fun k S1 al1 H1 e1 w1 q1 => ?_)
  cases k with
  | true => exact d1 xl al1 σ H1 S1 env D0 w1 (r.mono e1) q1
  | false => exact d2 xl al1 σ H1 S1 env D0 w1 (r.mono e1) q1
theorem ss_nil : SsOk X cm W [] mNx := ⟨_, pss_nil, fun xl al σ H S env D0 w r q => q.here w σ r⟩
theorem ss_one (h : SOk X cm W st ms) : SsOk X cm W [st] ms := by
  obtain ⟨t, p, d⟩ := h
  exact ⟨_, pss_one p, d⟩
theorem ss_cons (h : SOk X cm W st ms) (h' : SsOk X cm W sts mr) : SsOk X cm W (st :: sts) (mSeq ms mr) := by
  obtain ⟨t, p, d⟩ := h
  obtain ⟨t', p', d'⟩ := h'
  refine ⟨_, pss_cons p p', fun xl al σ H S env D0 w r q => ?_⟩
  refine d xl al σ H S env { D0 with nx := t' D0 } w r (q.bind.imp fun z S1 al1 H1 e1 w1 q1 σ' r' => ?_)
  obtain ⟨f, env1⟩ := z
  cases f with
  | nx => exact d' xl al1 σ' H1 S1 env1 D0 w1 r' q1
  | rt d => exact Post.here w1 q1 σ' r'
  | bk => exact Post.here w1 q1 σ' r'
  | ct => exact Post.here w1 q1 σ' r'
  | xc x => exact Post.here w1 q1 σ' r'
end

/-! targets; vs: the slots that they store -/
def Agr (vs : List Nat) (σ' σ : L2.St) : Prop := σ'.length = σ.length ∧ ∀ j : Nat, j ∉ vs → σ'[j]? = σ[j]?
def DenGA (K : PySem.W.Frag) (cm : CM) (t : TG) (m : MG) (vs : List Nat) : Prop := ∀ xl al σ H S env d v (Q : L2.St → Hp → Prop), Wd K xl S al H → EnvR K xl al H env σ → Rep K xl al H d v →
  Post K cm xl noW (fun env' _ al' H' => ∀ σ', EnvR K xl al' H' env' σ' → Agr vs σ' σ → Q σ' H') (m d env S) al H → t v σ H Q
def GAOk (X : Cx) (cm : CM) (e : Expr) (m : MG) (vs : List Nat) : Prop := ∃ t, PG X e t ∧ DenGA X.K cm t m vs
def DenGsA (K : PySem.W.Frag) (cm : CM) (t : TGs) (m : List D → DE → DS → Ou DE) (vs : List Nat) : Prop := ∀ xl al σ H S env ds us (Q : L2.St → Hp → Prop), Wd K xl S al H → EnvR K xl al H env σ → Reps K xl al H ds us →
  Post K cm xl noW (fun env' _ al' H' => ∀ σ', EnvR K xl al' H' env' σ' → Agr vs σ' σ → Q σ' H') (m ds env S) al H → t us σ H Q
def GsAOk (X : Cx) (cm : CM) (es : List Expr) (m : List D → DE → DS → Ou DE) (vs : List Nat) : Prop := ∃ t, PGs X es t ∧ DenGsA X.K cm t m vs
def gN (i : Nat) : MG := fun d env S => .ok (env.set i (some d)) S
def gsN : List D → DE → DS → Ou DE := fun ds env S => match ds with
  | [] => .ok env S
  | _ => .no
def gsC (g : MG) (r : List D → DE → DS → Ou DE) : List D → DE → DS → Ou DE := fun ds env S => match ds with
  | d :: ds => (g d env S).bind fun env1 S1 => r ds env1 S1
  | _ => .no
def gT (n : Nat) (r : List D → DE → DS → Ou DE) : MG := fun d env S => match d with
  | .tup ds => if ds.length = n then r ds env S else .no
  | _ => .no
section
variable {X : Cx} {cm : CM} {W : WX} {e : Expr} {es : List Expr} {pos : Pos} {mg : MG} {vs ws : List Nat}
theorem GAOk.g (h : GAOk X cm e mg vs) : GOk X cm e mg := by
  obtain ⟨t, p, d⟩ := h
  exact ⟨t, p, fun xl al σ H S env d0 v Q w r rv q => d xl al σ H S env d0 v Q w r rv (q.imp fun env' S' al' H' e1 w1 p1 σ' r' _ => p1 σ' r')⟩
theorem ga_name {i : Nat} {x : Str} (hN : X.N.Nodup) (hi : X.N[i]? = some x := by rfl) (hx : Loc X.env.scope x := by first | exact Or.inl rfl | exact Or.inr rfl) (hf : X.fn x = true ∨ X.env.scope.names.lookup x = some .local := by first | exact .inl rfl | exact .inr rfl | assumption) :
    GAOk X cm (.Name x pos) (gN i) [i] := by
  refine ⟨_, pg_name hN hi hx hf, fun xl al σ H S env d v Q w r rv q => ?_⟩
  refine q.here w _ (r.set rv i) ⟨List.length_set, fun j hj => ?_⟩
  rw [List.getElem?_set_ne]
  intro z
  exact hj (by simp [z])
theorem gas_nil : GsAOk X cm [] gsN [] := by
  refine ⟨_, pgs_nil, fun xl al σ H S env ds us Q w r rs q => ?_⟩
  unfold gsN at q
  split at q
  · cases rs
    exact ⟨rfl, q.here w _ r ⟨rfl, fun _ _ => rfl⟩⟩
  · exact q.elim
theorem gas_cons {mr : List D → DE → DS → Ou DE} (h : GAOk X cm e mg vs) (h' : GsAOk X cm es mr ws) (hs : (assignEach (e :: es) X.env).map (·.2) = assign e X.env :: (assignEach es X.env).map (·.2) := by rfl) : GsAOk X cm (e :: es) (gsC mg mr) (vs ++ ws) := by
  obtain ⟨t, p, d⟩ := h
  obtain ⟨t', p', d'⟩ := h'
  refine ⟨_, pgs_cons p p' hs, fun xl al σ H S env ds us Q w r rs q => ?_⟩
  unfold gsC at q
  split at q
  · cases rs with
    | cons rv rs =>
      refine ⟨_, _, rfl, ?_⟩
      refine d xl al σ H S env _ _ _ w r rv (q.bind.imp fun env1 S1 al1 H1 e1 w1 q1 σ1 r1 a1 => ?_)
      refine d' xl al1 σ1 H1 S1 env1 _ _ _ w1 r1 (rs.mono e1) (q1.imp fun env2 S2 al2 H2 e2 w2 q2 σ2 r2 a2 => ?_)
      refine q2 σ2 r2 ⟨a2.1.trans a1.1, fun j hj => ?_⟩
      rw [List.mem_append, not_or] at hj
      exact (a2.2 j hj.2).trans (a1.2 j hj.1)
  · exact q.elim
theorem ga_tup {mr : List D → DE → DS → Ou DE} {n k : Nat} (hc : X.calm = true) (h : GsAOk X cm es mr vs) (hn : (assignEach es X.env).length = n := by rfl) (hst : (assignEach es X.env).findIdx? (·.1) = none := by rfl) : GAOk X cm (.Tuple es k pos) (gT n mr) vs := by
  obtain ⟨t, p, d⟩ := h
  refine ⟨_, pg_tup hc p hn hst, fun xl al σ H S env d0 v Q w r rv q => ?_⟩
  unfold gT at q
  split at q
  · obtain ⟨a, us, rfl, ha, r1⟩ := rep_tup rv
    split at q
    · rename_i hl
      refine ⟨a, us, rfl, ha, r1.length ▸ hl, ?_⟩
      exact d xl al σ H S env _ us Q w r r1 q
    · exact q.elim
  · exact q.elim
end
/-! o[i] = v -/
def gSubM (o i : ME) (f : D → D → D → DS → Ou Unit) : MG := fun v env S => (o env S).bind fun x S1 => (i env S1).bind fun k S2 => (f x k v S2).bind fun _ S3 => .ok env S3
def setO (x k v : D) (S : DS) : Ou Unit := match x, k with
  | .ref p, .int i => match S[p]? with
    | some (DO.lst xs) => match ixN xs.length i with
      | some j => .ok () (S.set p (.lst (xs.set j v)))
      | none => .no
    | none => .no
  | _, _ => .no
section
variable {X : Cx} {cm : CM} {o i : Expr} {mo mi : ME} {pos : Pos}
theorem g_sub (ho : EOk X cm (fun _ _ _ _ => False) o mo) (hi : EOk X cm (fun _ _ _ _ => False) i mi)
    (ha : ∀ v, assign (.Subscript o i pos) X.env v = (do
      let ov ← holding [v] (eval o X.env)
      let iv ← holding [v, ov] (eval i X.env)
      standAt pos
      holding [v, ov, iv] (setItem ov iv v)
      release [v, ov, iv] []) := by intro _; rfl) : GOk X cm (.Subscript o i pos) (gSubM mo mi setO) := by
  obtain ⟨to, po, dn⟩ := ho
  obtain ⟨ti, pi, di⟩ := hi
  refine ⟨_, pg_sub po pi set_list ha, fun xl al σ H S env d v Q w r rv q => ?_⟩
  refine dn xl al σ H S env _ w r (q.bind.imp fun x S1 al1 H1 e1 w1 q1 xv rx => ?_)
  refine di xl al1 σ H1 S1 env _ w1 (r.mono e1) (q1.bind.imp fun k S2 al2 H2 e2 w2 q2 kv rk => ?_)
  unfold setO at q2
  split at q2
  · rename_i p n
    split at q2
    · rename_i xs hS
      split at q2
      · rename_i j hj
        cases rk
        have rx2 := rx.mono e2
        cases rx2 with
        | ref h =>
          obtain ⟨a, us, h1, h2, h3⟩ := w2.list hS
          rw [h] at h1; cases h1
          have rv2 := (rv.mono e1).mono e2
          refine ⟨_, us, _, j, rfl, rfl, h2, by rw [← h3.length]; exact hj, ?_⟩
          exact q2 al2 _ (ext_write (List.mem_of_getElem? h) h2) (w2.write hS h h2 (h3.set rv2 j)) _ (((r.mono e1).mono e2).mono (ext_write (List.mem_of_getElem? h) h2))
      · exact q2.elim
    · exact q2.elim
  · exact q2.elim
end
end DL

namespace DL
open PySem PySem.Spec PyProof.Rows L2

/-! what is walked: its items, as they stood; a list that may be changed must stand still -/
structure Itm where
  items : List D
  g : Option (Nat × List D)
def Itm.okB (it : Itm) (S : DS) : Prop := match it.g with
  | none => True
  | some p => S[p.1]? = some (DO.lst p.2)
open Classical in
noncomputable def Itm.gate {α : Type} (it : Itm) (S : DS) (k : Ou α) : Ou α := if it.okB S then k else .no
theorem gate_none {α : Type} (xs : List D) (S : DS) (k : Ou α) : (Itm.mk xs none).gate S k = k := if_pos True.intro
theorem gate_some {α : Type} (xs ys : List D) (p : Nat) (S : DS) (k : Ou α) (h : S[p]? = some (DO.lst ys)) : (Itm.mk xs (some (p, ys))).gate S k = k := if_pos (show (Itm.mk xs (some (p, ys))).okB S from h)
theorem Post.gate {K : PySem.W.Frag} {cm : CM} {xl al : List Addr} {H : Hp} {W0 : WH} {α : Type} {R : α → DS → List Addr → Hp → Prop} {it : Itm} {S : DS} {k : Ou α} (p : Post K cm xl W0 R (it.gate S k) al H) : it.okB S ∧ Post K cm xl W0 R k al H := by
  unfold Itm.gate at p
  split at p
  · rename_i h
    exact ⟨h, p⟩
  · exact p.elim
abbrev MIt := DE → DS → Ou Itm
def NewOnly (H H' : Hp) : Prop := ∀ a o, H a = some o → H' a = some o
theorem NewOnly.ext {al : List Addr} {H H' : Hp} (n : NewOnly H H') : Ext al H al H' := ⟨⟨[], by simp⟩, fun a o _ h => n a o h, fun a vs h => by
  rcases h with h | ⟨o, h⟩
  · exact .inl (n _ _ h)
  · exact .inr ⟨o, n _ _ h⟩, fun a h q => absurd h q⟩
theorem NewOnly.wd {K : PySem.W.Frag} {xl al : List Addr} {S : DS} {H H' : Hp} (n : NewOnly H H') (w : Wd K xl S al H) : Wd K xl S al H' := w.keep n.ext fun a h => by
  obtain ⟨_, _, _, e⟩ := w.at h
  rw [e, n a _ e]
/-- J gives the items, from (al1, H1) on -/
def Yields (K : PySem.W.Frag) (xl al1 : List Addr) (H1 : Hp) (it : Itm) (J : It) : Prop := ∀ xl' S' al' H', Ext al1 H1 al' H' → (∀ q, q ∈ xl' → q ∈ xl ∨ H1 q = none) → Wd K xl' S' al' H' → it.okB S' →
  (∀ (i : Nat) d, it.items[i]? = some d → J.go i H' ∧ ∀ x H'', J.yld i H' x H'' → NewOnly H' H'' ∧ Rep K xl' al' H'' d x) ∧ J.stop it.items.length H'
def IOk' (X : Cx) (cm : CM) (W : WX) (tg iter : Expr) (m : MIt) : Prop := ∃ wi, PI X tg iter wi ∧ ∀ xl al σ H S env (R : It → Hp → Prop), Wd X.K xl S al H → EnvR X.K xl al H env σ →
  Post X.K cm xl (fun c d H' => W c d σ H') (fun it S1 al1 H1 => ∀ J, Yields X.K xl al1 H1 it J → R J H1) (m env S) al H → wi σ H R

/-! for -/
noncomputable def forL (g : MG) (body : MS) (it : Itm) : List D → DE → DS → Ou (Fl × DE)
  | [], env, S => it.gate S (.ok (.nx, env) S)
  | d :: r, env, S => it.gate S ((g d env S).bind fun env1 S1 => (body env1 S1).bind fun q S2 => match q.1 with
    | .nx => forL g body it r q.2 S2
    | .ct => forL g body it r q.2 S2
    | .bk => .ok (.nx, q.2) S2
    | f => .ok (f, q.2) S2)
noncomputable def mFor (mi : MIt) (g : MG) (body : MS) : MS := fun env S => lift (mi env S) env fun it S1 => forL g body it it.items env S1
section
variable {X : Cx} {cm : CM} {W : WX} {pos : Pos}
theorem s_for {tg iter : Expr} {body : List Stmt} {mi : MIt} {mg : MG} {mb : MS} (hp : PassesOwn (model X.prog X.w) X.A X.env X.xe) (hc : X.calm = true) (hi : IOk' X cm W tg iter mi) (hg : GOk X cm tg mg) (hb : SsOk X cm W body mb)
    (hs : ∀ x, foldedSetIterable iter X.env x = pure x := by intro _; rfl) : SOk X cm W (.For tg iter body [] pos) (mFor mi mg mb) := by
  obtain ⟨wi, pi, di⟩ := hi
  obtain ⟨tgt, pg, dg⟩ := hg
  obtain ⟨tb, pb, db⟩ := hb
  refine ⟨_, ps_for hp hc pi pg pb hs, fun xl al σ H S env D0 w r q => ?_⟩
  refine di xl al σ H S env _ w r ((q.lift r).imp fun it S1 al1 H1 e1 w1 q1 J hJ => ?_)
  refine ⟨fun i m σ' H' => m = it.items.length - i ∧ i ≤ it.items.length ∧ ∃ al' S' env', Ext al1 H1 al' H' ∧ Wd X.K xl S' al' H' ∧ EnvR X.K xl al' H' env' σ' ∧ Post X.K cm xl noW (RS X.K cm xl W D0) (forL mg mb it (it.items.drop i) env' S') al' H',
    ⟨_, rfl, Nat.zero_le _, al1, S1, env, Ext.refl _ _, w1, r.mono e1, by rw [List.drop_zero]; exact q1⟩, ?_⟩
  rintro i m σ' H' ⟨rfl, hi, al', S', env', e', w', r', p'⟩
  by_cases hlt : i < it.items.length
  · refine .inr ?_
    rw [List.drop_eq_getElem_cons hlt] at p'
    unfold forL at p'
    obtain ⟨ok, p'⟩ := p'.gate
    obtain ⟨hy, _⟩ := hJ xl S' al' H' e' (fun q h => .inl h) w' ok
    obtain ⟨go, yld⟩ := hy i _ (List.getElem?_eq_getElem hlt)
    refine ⟨go, fun σ'' H'' => ∃ al'' S'' env'', Ext al1 H1 al'' H'' ∧ Wd X.K xl S'' al'' H'' ∧ EnvR X.K xl al'' H'' env'' σ'' ∧ Post X.K cm xl noW (RS X.K cm xl W D0) (forL mg mb it (it.items.drop (i + 1)) env'' S'') al'' H'',
      fun σ'' H'' hN => ⟨it.items.length - (i + 1), by omega, rfl, hlt, hN⟩, fun x H'' hyx => ?_⟩
    obtain ⟨no, rx⟩ := yld x H'' hyx
    have w2 := no.wd w'
    have e2 : Ext al1 H1 al' H'' := e'.trans no.ext
    refine dg xl al' σ' H'' S' env' _ x _ w2 (r'.mono no.ext) rx ((Post.mono no.ext p').bind.imp fun env1 S3 al3 H3 e3 w3 p3 σ3 r3 => ?_)
    refine db xl al3 σ3 H3 S3 env1 _ w3 r3 (p3.bind.imp fun z S4 al4 H4 e4 w4 p4 σ4 r4 => ?_)
    obtain ⟨f, env4⟩ := z
    have e5 : Ext al1 H1 al4 H4 := (e2.trans e3).trans e4
    cases f with
    | nx => exact ⟨al4, S4, env4, e5, w4, r4, p4⟩
    | ct => exact ⟨al4, S4, env4, e5, w4, r4, p4⟩
    | bk => exact Post.here w4 p4 σ4 r4
    | rt d => exact Post.here w4 p4 σ4 r4
    | xc x => exact Post.here w4 p4 σ4 r4
  · have ei : i = it.items.length := by omega
    subst ei
    rw [List.drop_length] at p'
    unfold forL at p'
    obtain ⟨ok, p'⟩ := p'.gate
    obtain ⟨_, hs⟩ := hJ xl S' al' H' e' (fun q h => .inl h) w' ok
    exact .inl ⟨hs, Post.here w' p' σ' r'⟩
end

/-! while -/
def whileL (c : MT) (body : MS) : Nat → DE → DS → Ou (Fl × DE)
  | 0, _, _ => .no
  | n + 1, env, S => lift (c env S) env fun k S1 => if k = true then (body env S1).bind fun q S2 => match q.1 with
    | .nx => whileL c body n q.2 S2
    | .ct => whileL c body n q.2 S2
    | .bk => .ok (.nx, q.2) S2
    | f => .ok (f, q.2) S2 else .ok (.nx, env) S1
theorem whileL_step {c : MT} {body : MS} : ∀ (n : Nat) (env : DE) (S : DS), whileL c body n env S ≠ .no → whileL c body (n + 1) env S = whileL c body n env S
  | 0, _, _, h => absurd rfl h
  | n + 1, env, S, h => by
    unfold whileL at h
    rw [whileL]
    conv => rhs; rw [whileL]
    cases hc : c env S with
    | no => rfl
    | ex x S1 => rfl
    | ok k S1 =>
      rw [hc] at h
      simp only [lift_ok] at h ⊢
      cases k with
      | false => rfl
      | true =>
        simp only [if_true] at h ⊢
        cases hb : body env S1 with
        | no => rfl
        | ex x S2 => rfl
        | ok q S2 =>
          obtain ⟨f, env2⟩ := q
          rw [hb] at h
          simp only [bind_ok] at h ⊢
          cases f with
          | nx => exact whileL_step n env2 S2 h
          | ct => exact whileL_step n env2 S2 h
          | bk => rfl
          | rt d => rfl
          | xc x => rfl
theorem whileL_mono {c : MT} {body : MS} {n m : Nat} {env : DE} {S : DS} (h : whileL c body n env S ≠ .no) (hm : n ≤ m) : whileL c body m env S = whileL c body n env S := by
  induction hm with
  | refl => rfl
  | step _ ih => rw [whileL_step _ _ _ (by rw [ih]; exact h), ih]
open Classical in
/-- the loop, run to its end -/
noncomputable def mWhile (c : MT) (body : MS) : MS := fun env S => if h : ∃ n, whileL c body n env S ≠ .no then whileL c body h.choose env S else .no
theorem mWhile_of {c : MT} {body : MS} {n : Nat} {env : DE} {S : DS} (h : whileL c body n env S ≠ .no) : mWhile c body env S = whileL c body n env S := by
  unfold mWhile
  have hx : ∃ n, whileL c body n env S ≠ .no := ⟨n, h⟩
  rw [dif_pos hx]
  rcases Nat.le_total n hx.choose with l | l
  · exact whileL_mono h l
  · exact (whileL_mono hx.choose_spec l).symm
theorem mWhile_no {c : MT} {body : MS} {env : DE} {S : DS} (h : ∀ n, whileL c body n env S = .no) : mWhile c body env S = .no := by
  unfold mWhile
  rw [dif_neg (fun ⟨n, q⟩ => q (h n))]
/-- one turn -/
theorem mWhile_eq (c : MT) (body : MS) (env : DE) (S : DS) : mWhile c body env S = lift (c env S) env fun k S1 => if k = true then (body env S1).bind fun q S2 => match q.1 with
    | .nx => mWhile c body q.2 S2
    | .ct => mWhile c body q.2 S2
    | .bk => .ok (.nx, q.2) S2
    | f => .ok (f, q.2) S2 else .ok (.nx, env) S1 := by
  have key : ∀ n, whileL c body (n + 1) env S = lift (c env S) env fun k S1 => if k = true then (body env S1).bind fun q S2 => match q.1 with
    | .nx => whileL c body n q.2 S2
    | .ct => whileL c body n q.2 S2
    | .bk => .ok (.nx, q.2) S2
    | f => .ok (f, q.2) S2 else .ok (.nx, env) S1 := fun n => rfl
  cases hc : c env S with
  | no => exact mWhile_no fun n => by cases n with
    | zero => rfl
    | succ n => rw [key, hc]; rfl
  | ex x S1 =>
    have e : whileL c body 1 env S = .ok (.xc x, env) S1 := by rw [key, hc]; rfl
    rw [mWhile_of (n := 1) (by rw [e]; exact fun z => nomatch z), e]; rfl
  | ok k S1 =>
    simp only [lift_ok]
    cases k with
    | false =>
      have e : whileL c body 1 env S = .ok (.nx, env) S1 := by rw [key, hc]; rfl
      rw [mWhile_of (n := 1) (by rw [e]; exact fun z => nomatch z), e]; rfl
    | true =>
      simp only [if_true]
      cases hb : body env S1 with
      | no => exact mWhile_no fun n => by cases n with
        | zero => rfl
        | succ n => rw [key, hc]; simp only [lift_ok, if_true, hb]; rfl
      | ex x S2 =>
        have e : whileL c body 1 env S = .ex x S2 := by rw [key, hc]; simp only [lift_ok, if_true, hb]; rfl
        rw [mWhile_of (n := 1) (by rw [e]; exact fun z => nomatch z), e]; rfl
      | ok q S2 =>
        obtain ⟨f, env2⟩ := q
        simp only [bind_ok]
        have key2 : ∀ n, whileL c body (n + 1) env S = match f with
            | .nx => whileL c body n env2 S2
            | .ct => whileL c body n env2 S2
            | .bk => .ok (.nx, env2) S2
            | f => .ok (f, env2) S2 := fun n => by rw [key, hc]; simp only [lift_ok, if_true, hb]; cases f <;> rfl
        have rec' : (∀ n, whileL c body (n + 1) env S = whileL c body n env2 S2) → mWhile c body env S = mWhile c body env2 S2 := fun hr => by
          by_cases hx : ∃ n, whileL c body n env2 S2 ≠ .no
          · obtain ⟨n, hn⟩ := hx
            rw [mWhile_of (n := n + 1) (by rw [hr]; exact hn), hr, mWhile_of hn]
          · have hx' : ∀ n, whileL c body n env2 S2 = .no := fun n => Classical.byContradiction fun z => hx ⟨n, z⟩
            rw [mWhile_no hx']
            exact mWhile_no fun n => by cases n with
              | zero => rfl
              | succ n => rw [hr, hx']
        cases f with
        | nx => exact rec' key2
        | ct => exact rec' key2
        | bk => rw [mWhile_of (n := 1) (by rw [key2]; exact fun z => nomatch z), key2]
        | rt d => rw [mWhile_of (n := 1) (by rw [key2]; exact fun z => nomatch z), key2]
        | xc x => rw [mWhile_of (n := 1) (by rw [key2]; exact fun z => nomatch z), key2]
section
variable {X : Cx} {cm : CM} {W : WX} {pos : Pos}
theorem s_while {c : Expr} {body : List Stmt} {mc : MT} {mb : MS} (hp : PassesOwn (model X.prog X.w) X.A X.env X.xe) (hc : TOk X cm W c mc) (hb : SsOk X cm W body mb) : SOk X cm W (.While c body [] pos) (mWhile mc mb) := by
  obtain ⟨tc, pc, dc⟩ := hc
  obtain ⟨tb, pb, db⟩ := hb
  refine ⟨_, ps_while hp pc pb, fun xl al σ H S env D0 w r q => ?_⟩
  by_cases hx : ∃ n, whileL mc mb n env S ≠ .no
  · obtain ⟨n, hn⟩ := hx
    rw [mWhile_of hn] at q
    refine ⟨fun m σ' H' => ∃ al' S' env', Wd X.K xl S' al' H' ∧ EnvR X.K xl al' H' env' σ' ∧ Post X.K cm xl noW (RS X.K cm xl W D0) (whileL mc mb m env' S') al' H', ⟨n, al, S, env, w, r, q⟩, ?_⟩
    rintro m σ' H' ⟨al', S', env', w', r', p'⟩
    cases m with
    | zero => exact p'.elim
    | succ m =>
      unfold whileL at p'
      refine dc xl al' σ' H' S' env' _ w' r' ((p'.lift r').imp fun k S1 al1 H1 e1 w1 q1 => ?_)
      cases k with
      | false => exact Post.here w1 q1 σ' (r'.mono e1)
      | true =>
        refine ⟨fun σ'' H'' => ∃ al'' S'' env'', Wd X.K xl S'' al'' H'' ∧ EnvR X.K xl al'' H'' env'' σ'' ∧ Post X.K cm xl noW (RS X.K cm xl W D0) (whileL mc mb m env'' S'') al'' H'', fun σ'' H'' hN => ⟨m, Nat.lt_succ_self _, hN⟩, ?_⟩
        have q2 : Post X.K cm xl noW (RS X.K cm xl W D0) ((mb env' S1).bind _) al1 H1 := q1
        refine db xl al1 σ' H1 S1 env' _ w1 (r'.mono e1) (q2.bind.imp fun z S4 al4 H4 e4 w4 p4 σ4 r4 => ?_)
        obtain ⟨f, env4⟩ := z
        cases f with
        | nx => exact ⟨al4, S4, env4, w4, r4, p4⟩
        | ct => exact ⟨al4, S4, env4, w4, r4, p4⟩
        | bk => exact Post.here w4 p4 σ4 r4
        | rt d => exact Post.here w4 p4 σ4 r4
        | xc x => exact Post.here w4 p4 σ4 r4
  · rw [mWhile_no fun n => Classical.byContradiction fun z => hx ⟨n, z⟩] at q
    exact q.elim
end

/-! comprehensions -/
abbrev noX : WX := fun _ _ _ _ => False
/-- an exception on the way: not told -/
def Ou.bindN {α β : Type} (m : Ou α) (f : α → DS → Ou β) : Ou β := match m with
  | .ok a S => f a S
  | _ => .no
@[simp] theorem bindN_ok {α β : Type} (a : α) (S : DS) (f : α → DS → Ou β) : (Ou.ok a S).bindN f = f a S := (rfl)
theorem bindN_bind {α β γ : Type} (o : Ou α) (f : α → DS → Ou β) (g : β → DS → Ou γ) : ((o.bindN f).bind g) = o.bindN fun a S => (f a S).bind g := by cases o <;> rfl
theorem Post.bindN {K : PySem.W.Frag} {cm : CM} {xl xl' al al0 : List Addr} {H H0 : Hp} {W0 : WH} {α β : Type} {R : β → DS → List Addr → Hp → Prop} {R' : α → DS → List Addr → Hp → Prop} {o : Ou α} {f : α → DS → Ou β}
    (p : Post K cm xl W0 R (o.bindN f) al0 H0) (k : ∀ a S1 al1 H1, Ext al H al1 H1 → Wd K xl' S1 al1 H1 → Post K cm xl W0 R (f a S1) al0 H0 → R' a S1 al1 H1) : Post K cm xl' noW R' o al H := by
  cases o with
  | ok a S => exact fun al1 H1 e w => k a S al1 H1 e w p
  | ex x S => exact p.elim
  | no => exact p.elim
def wipeE (env : DE) : List Nat → DE
  | [] => env
  | i :: vs => (wipeE env vs).set i none
noncomputable def lcL (g : MG) (tt : MT) (el : ME) (env : DE) (it : Itm) : List D → List D → DS → Ou (List D)
  | [], acc, S => it.gate S (.ok acc S)
  | d :: r, acc, S => it.gate S ((g d env S).bindN fun env1 S1 => (tt env1 S1).bindN fun b S2 => if b = true then (el env1 S2).bindN fun y S3 => lcL g tt el env it r (acc ++ [y]) S3 else lcL g tt el env it r acc S2)
noncomputable def lcM (mi : MIt) (g : MG) (tt : MT) (el : ME) (vs : List Nat) (fin : List D → DS → Ou D) : ME := fun env S => (mi env S).bind fun it S1 => if it.items.length ≤ sizeLine then (lcL g tt el (wipeE env vs) it it.items [] S1).bind fin else .no
def finV (xs : List D) (S : DS) : Ou D := .ok (.vl xs) S
def finR (xs : List D) (S : DS) : Ou D := .ok (.ref S.length) (S ++ [.lst xs])
def mYes : MT := fun _ S => .ok true S
def TsOk (X : Cx) (cm : CM) (W : WX) (es : List Expr) (m : MT) : Prop := ∃ t, PTs X es t ∧ DenT X.K cm W t m
theorem ts_nil {X : Cx} {cm : CM} {W : WX} : TsOk X cm W [] mYes := ⟨_, pts_nil, fun xl al σ H S env Q w r p => Post.hereT w p⟩
theorem ts_one {X : Cx} {cm : CM} {W : WX} {c : Expr} {m : MT} (h : TOk X cm W c m) : TsOk X cm W [c] m := by
  obtain ⟨t, p, d⟩ := h
  exact ⟨_, pts_one p, d⟩
theorem EnvR.wipes {K : PySem.W.Frag} {xl al : List Addr} {H : Hp} {env : DE} {σ : L2.St} (r : EnvR K xl al H env σ) : ∀ (vs : List Nat), EnvR K xl al H (wipeE env vs) (L2.wipe σ vs)
  | [] => r
  | i :: vs => (EnvR.wipes r vs).wipe i
theorem set_agr {σ' σ : L2.St} (i : Nat) (hl : σ'.length = σ.length) (h : ∀ j : Nat, j ≠ i → σ'[j]? = σ[j]?) : σ'.set i none = σ.set i none := by
  refine List.ext_getElem? fun j => ?_
  by_cases e : j = i
  · subst e
    by_cases hj : j < σ.length
    · rw [List.getElem?_set_self hj, List.getElem?_set_self (by rw [hl]; exact hj)]
    · rw [List.getElem?_eq_none (by rw [List.length_set]; omega), List.getElem?_eq_none (by rw [List.length_set]; omega)]
  · rw [List.getElem?_set_ne (Ne.symm e), List.getElem?_set_ne (Ne.symm e)]
    exact h j e
theorem wipe_get {σ : L2.St} {j : Nat} : ∀ {vs : List Nat}, j ∉ vs → (L2.wipe σ vs)[j]? = σ[j]? := fun h => wipe_out h
theorem wipe_get2 {σ' σ : L2.St} (hl : σ'.length = σ.length) {j : Nat} : ∀ {vs : List Nat}, j ∈ vs → (L2.wipe σ' vs)[j]? = (L2.wipe σ vs)[j]?
  | i :: vs, h => by
    show ((L2.wipe σ' vs).set i none)[j]? = ((L2.wipe σ vs).set i none)[j]?
    have hw : (L2.wipe σ' vs).length = (L2.wipe σ vs).length := by rw [wipe_length, wipe_length, hl]
    by_cases e : j = i
    · subst e
      by_cases hj : j < (L2.wipe σ vs).length
      · rw [List.getElem?_set_self hj, List.getElem?_set_self (by omega)]
      · rw [List.getElem?_eq_none (by rw [List.length_set]; omega), List.getElem?_eq_none (by rw [List.length_set]; omega)]
    · rw [List.getElem?_set_ne (Ne.symm e), List.getElem?_set_ne (Ne.symm e)]
      exact wipe_get2 hl ((List.mem_cons.mp h).resolve_left e)
theorem wipe_agr {vs : List Nat} {σ' σ : L2.St} (a : Agr vs σ' σ) : L2.wipe σ' vs = L2.wipe σ vs := by
  refine List.ext_getElem? fun j => ?_
  by_cases h : j ∈ vs
  · exact wipe_get2 a.1 h
  · rw [wipe_get h, wipe_get h]
    exact a.2 j h
theorem wipe_wipe (vs : List Nat) (σ : L2.St) : L2.wipe (L2.wipe σ vs) vs = L2.wipe σ vs := wipe_agr ⟨wipe_length σ vs, fun j hj => wipe_out hj⟩

/-- the made list, handed on -/
def FinOk (K : PySem.W.Frag) (cm : CM) (fin : List D → DS → Ou D) : Prop := ∀ xl al1 H1 al H S acc us (D0 : Addr) (Q : VK) (W0 : WH), Ext al1 H1 al H → H1 D0 = none → Wd K xl S al H → H D0 = some (.lst us) → D0 ∉ al → D0 ∉ xl → Reps K (D0 :: xl) al H acc us → Wd K (D0 :: xl) S al H →
  Post K cm xl W0 (RE K xl Q) (fin acc S) al1 H1 → Q (.ref D0) H
/-- the reading of a comprehension -/
theorem den_lcAt {X : Cx} {cm : CM} {W : WX} {wi : TI} {g : TG} {tt : TT} {te : TE} {vs : List Nat} {mi : MIt} {mg : MG} {mt : MT} {me : ME} {fin : List D → DS → Ou D}
    {xl al : List Addr} {σ : L2.St} {H : Hp} {S : DS} {env : DE} (w : Wd X.K xl S al H) (r : EnvR X.K xl al H env σ)
    (di : ∀ (R : It → Hp → Prop), Post X.K cm xl (fun c d H' => W c d σ H') (fun it S1 al1 H1 => ∀ J, Yields X.K xl al1 H1 it J → R J H1) (mi env S) al H → wi σ H R)
    (dg : DenGA X.K cm g mg vs) (dt : DenT X.K cm noX tt mt) (de : DenE X.K cm noX te me)
    (hfin : FinOk X.K cm fin) (Q : VK) (q : Post X.K cm xl (fun c d H' => W c d σ H') (RE X.K xl Q) (lcM mi mg mt me vs fin env S) al H) : tLc wi g tt te vs σ H Q := by
  refine di _ (q.bind.imp fun it S1 al1 H1 e1 w1 q1 J hJ => ?_)
  split at q1
  case isFalse => exact q1.elim
  rename_i hlen
  intro D0 hD0
  obtain ⟨nD1, nD2⟩ := w1.new hD0
  have r1 := r.mono e1
  let WW : WH := fun c d H' => W c d σ H'
  let I : List D → List Addr → DS → Hp → Prop := fun acc al' S' H' => Ext al1 H1 al' H' ∧ Wd X.K (D0 :: xl) S' al' H' ∧ ∃ us, H' D0 = some (.lst us) ∧ Reps X.K (D0 :: xl) al' H' acc us
  have keyEnv : ∀ {al' H'}, Ext al1 H1 al' H' → EnvR X.K (D0 :: xl) al' H' (wipeE env vs) (L2.wipe σ vs) := fun e => ((r1.more hD0).mono e).wipes vs
  have start : I [] al1 S1 (upd H1 D0 (.lst [])) := by
    refine ⟨ext_new hD0, ?_, [], upd_same, .nil⟩
    have w2 := w1.put (o := .lst []) hD0
    refine ⟨w2.nd, w2.len, fun p xs h => ?_, fun a h => ?_⟩
    · obtain ⟨a, us, h1, h2, h3⟩ := w1.ob p xs h
      refine ⟨a, us, h1, ?_, (h3.more hD0).mono (ext_new hD0)⟩
      rw [upd_ne (ne_of_none h2 hD0)]; exact h2
    · rcases List.mem_cons.mp h with e | h
      · subst e
        exact ⟨nD1, by rw [upd_same]; exact fun z => nomatch z⟩
      · exact w2.xs a h
  have weak : ∀ {al' S' H'}, Wd X.K (D0 :: xl) S' al' H' → Wd X.K xl S' al' H' := fun w => ⟨w.nd, w.len, fun p xs h => by
    obtain ⟨a, us, h1, h2, h3⟩ := w.ob p xs h
    exact ⟨a, us, h1, h2, h3.less fun a h => List.mem_cons_of_mem _ h⟩, fun a h => w.xs a (List.mem_cons_of_mem _ h)⟩
  refine ⟨fun i m H' => m = it.items.length - i ∧ i ≤ it.items.length ∧ ∃ acc al' S', acc.length ≤ i ∧ I acc al' S' H' ∧ Post X.K cm xl WW (RE X.K xl Q) ((lcL mg mt me (wipeE env vs) it (it.items.drop i) acc S').bind fin) al1 H1,
    ⟨_, rfl, Nat.zero_le _, [], al1, S1, Nat.le_refl _, start, by rw [List.drop_zero]; exact q1⟩, ?_⟩
  rintro i m H' ⟨rfl, hi, acc, al', S', hacc, ⟨e', w', us, hD', hus⟩, p'⟩
  have hxl : ∀ q, q ∈ D0 :: xl → q ∈ xl ∨ H1 q = none := fun q h => (List.mem_cons.mp h).elim (fun e => .inr (e ▸ hD0)) .inl
  by_cases hlt : i < it.items.length
  · refine .inr ?_
    rw [List.drop_eq_getElem_cons hlt] at p'
    unfold lcL at p'
    have p2 : it.okB S' ∧ Post X.K cm xl WW (RE X.K xl Q) (((mg it.items[i] (wipeE env vs) S').bindN fun env1 S1 => (mt env1 S1).bindN fun b S2 => if b = true then (me env1 S2).bindN fun y S3 => lcL mg mt me (wipeE env vs) it (it.items.drop (i + 1)) (acc ++ [y]) S3 else lcL mg mt me (wipeE env vs) it (it.items.drop (i + 1)) acc S2).bind fin) al1 H1 := by
      unfold Itm.gate at p'
      split at p'
      · rename_i h
        exact ⟨h, p'⟩
      · exact p'.elim
    obtain ⟨ok, p2⟩ := p2
    obtain ⟨hy, _⟩ := hJ (D0 :: xl) S' al' H' e' hxl w' ok
    obtain ⟨go, yld⟩ := hy i _ (List.getElem?_eq_getElem hlt)
    refine ⟨go, fun H'' => ∃ acc al'' S'', acc.length ≤ i + 1 ∧ I acc al'' S'' H'' ∧ Post X.K cm xl WW (RE X.K xl Q) ((lcL mg mt me (wipeE env vs) it (it.items.drop (i + 1)) acc S'').bind fin) al1 H1,
      fun H'' hN => ⟨it.items.length - (i + 1), by omega, rfl, hlt, hN⟩, fun x H'' hyx => ?_⟩
    obtain ⟨no, rx⟩ := yld x H'' hyx
    have w2 := no.wd w'
    have e2 : Ext al1 H1 al' H'' := e'.trans no.ext
    have hD2 : H'' D0 = some (.lst us) := no _ _ hD'
    rw [bindN_bind] at p2
    refine dg (D0 :: xl) al' (L2.wipe σ vs) H'' S' (wipeE env vs) _ x _ w2 (keyEnv e2) rx (p2.bindN fun env1 S3 al3 H3 e3 w3 p3 σ3 r3 a3 => ?_)
    refine ⟨(wipe_agr a3).trans (wipe_wipe vs σ), ?_⟩
    rw [bindN_bind] at p3
    refine dt (D0 :: xl) al3 σ3 H3 S3 env1 _ w3 r3 (p3.bindN fun b S4 al4 H4 e4 w4 p4 => ?_)
    have eA : Ext al' H'' al4 H4 := e3.trans e4
    have nD3 : ∀ {al5 H5 S5}, Wd X.K (D0 :: xl) S5 al5 H5 → D0 ∉ al5 := fun w => (w.xs D0 (by simp)).1
    cases b with
    | true =>
      rw [if_pos rfl, bindN_bind] at p4
      show te σ3 H4 _
      refine de (D0 :: xl) al4 σ3 H4 S4 env1 _ w4 (r3.mono e4) (p4.bindN fun y S5 al5 H5 e5 w5 p5 v rv => ?_)
      have eB : Ext al' H'' al5 H5 := eA.trans e5
      have hD5 : H5 D0 = some (.lst us) := eB.fr _ _ (nD3 w2) hD2
      have hus5 : Reps X.K (D0 :: xl) al5 H5 acc us := (hus.mono no.ext).mono eB
      refine ⟨us, hD5, ?_, acc ++ [y], al5, S5, ?_, ⟨?_, ?_, us ++ [v], upd_same, ?_⟩, ?_⟩
      · rw [← hus.length]; omega
      · rw [List.length_append, List.length_singleton]; omega
      · refine ⟨(e2.trans eB).pre, fun a o n h => ?_, fun a ws h => ?_, (e2.trans eB).new⟩
        · rw [upd_ne (ne_of_none h hD0)]; exact (e2.trans eB).fr a o n h
        · obtain ⟨o, ho⟩ := rd_some h
          have := (e2.trans eB).tup a ws h
          rcases this with z | ⟨o', z⟩
          · exact .inl (by rw [upd_ne (ne_of_none ho hD0)]; exact z)
          · exact .inr ⟨o', by rw [upd_ne (ne_of_none ho hD0)]; exact z⟩
      · refine ⟨w5.nd, w5.len, fun p xs h => ?_, fun a h => ⟨(w5.xs a h).1, ?_⟩⟩
        · obtain ⟨a, ws, h1, h2, h3⟩ := w5.ob p xs h
          refine ⟨a, ws, h1, ?_, h3.atx hD5 (by simp)⟩
          have ne : a ≠ D0 := fun z => nD3 w5 (z ▸ List.mem_of_getElem? h1)
          rw [upd_ne ne]; exact h2
        · unfold upd
          split
          · exact fun z => nomatch z
          · exact (w5.xs a h).2
      · exact (hus5.append (.cons rv .nil)).atx hD5 (by simp)
      · exact p5
    | false =>
      rw [if_neg Bool.false_ne_true] at p4
      exact ⟨acc, al4, S4, by omega, ⟨e2.trans eA, w4, us, eA.fr _ _ (nD3 w2) hD2, (hus.mono no.ext).mono eA⟩, p4⟩
  · have ei : i = it.items.length := by omega
    subst ei
    rw [List.drop_length] at p'
    unfold lcL at p'
    have p2 : it.okB S' ∧ Post X.K cm xl WW (RE X.K xl Q) (fin acc S') al1 H1 := by
      unfold Itm.gate at p'
      split at p'
      · rename_i h
        exact ⟨h, p'⟩
      · exact p'.elim
    obtain ⟨ok, p2⟩ := p2
    obtain ⟨_, hs⟩ := hJ (D0 :: xl) S' al' H' e' hxl w' ok
    have nD3 : D0 ∉ al' := fun h => (w'.xs D0 (by simp)).1 h
    exact .inl ⟨hs, hfin xl al1 H1 al' H' S' acc us D0 Q _ e' hD0 (weak w') hD' nD3 nD2 hus w' p2⟩
theorem den_lc {X : Cx} {cm : CM} {W : WX} {wi : TI} {g : TG} {tt : TT} {te : TE} {vs : List Nat} {mi : MIt} {mg : MG} {mt : MT} {me : ME} {fin : List D → DS → Ou D}
    (di : ∀ xl al σ H S env (R : It → Hp → Prop), Wd X.K xl S al H → EnvR X.K xl al H env σ → Post X.K cm xl (fun c d H' => W c d σ H') (fun it S1 al1 H1 => ∀ J, Yields X.K xl al1 H1 it J → R J H1) (mi env S) al H → wi σ H R)
    (dg : DenGA X.K cm g mg vs) (dt : DenT X.K cm noX tt mt) (de : DenE X.K cm noX te me)
    (hfin : FinOk X.K cm fin) :
    DenE X.K cm W (tLc wi g tt te vs) (lcM mi mg mt me vs fin) := fun xl al σ H S env Q w r q => den_lcAt w r (fun R => di xl al σ H S env R w r) dg dt de hfin Q q
end DL

namespace DL
open PySem PySem.Spec PyProof.Rows L2

/-! a list or a tuple, by a flag -/
def SqV (K : PySem.W.Frag) (k : Bool) (H : Hp) (a : Addr) (vs : List V) : Prop := match k with
  | true => SqL K H a vs
  | false => SqT K H a vs
def IsS (k : Bool) (h : Heap) (a : Addr) (items : Array Value) : Prop := match k with
  | true => h.IsList a items
  | false => h.IsTuple a items
def ItAt (k : Bool) (h : Heap) (it a : Addr) (i : Nat) : Prop := match k with
  | true => h.IsListIter it a i
  | false => h.IsTupleIter it a i
def itO (k : Bool) (a : Addr) : Obj := match k with
  | true => { cls := .type "list_iterator", data := .fields #[.ref a, .int 0 0] }
  | false => { cls := .type "tuple_iterator", data := .fields #[.ref a, .int 0 0] }
theorem src {X : Cx} {pins : List (Addr × Obj)} {σ : L2.St} {H : Hp} {s : Shared} {k : Bool} {a : Addr} {vs : List V} (I : Inv X pins σ H s) (h : SqV X.K k H a vs) :
    ∃ its : List Value, Vals vs its ∧ IsS k s.heap a its.toArray := by
  cases k with
  | true =>
    obtain ⟨its, r, p, _⟩ := I.list h
    exact ⟨its, r, p.isList⟩
  | false =>
    obtain ⟨its, r, p, _⟩ := I.tuple h
    exact ⟨its, r, p⟩
theorem src_inj {X : Cx} {pins : List (Addr × Obj)} {σ : L2.St} {H : Hp} {s : Shared} {k : Bool} {a : Addr} {vs us : List V} (I : Inv X pins σ H s) (h : SqV X.K k H a vs) (h' : SqV X.K k H a us) : vs = us := by
  cases k with
  | true => exact I.list_inj h h'
  | false => exact I.tuple_inj h h'
theorem IsS.lt {k : Bool} {h : Heap} {a : Addr} {items : Array Value} (x : IsS k h a items) : a < h.objs.size := by
  cases k with
  | true => obtain ⟨o, e, _⟩ := (show h.IsList a items from x); exact Heap.lt_size e
  | false => obtain ⟨o, e, _⟩ := (show h.IsTuple a items from x); exact Heap.lt_size e
theorem drawsK {prog : Program} {w : World} {A : Around} (k : Bool) (hh : A.handled = none) (it a : Addr) (hne : a ≠ it) (items : Array Value) :
    Draws prog w A it [it, a] items.size (fun i v => items[i]? = some v) (fun i h => ItAt k h it a i ∧ IsS k h a items) := by
  cases k with
  | true => exact Draws.list hh it a hne items
  | false => exact Draws.tuple hh it a hne items
theorem beginsK (k : Bool) (a : Addr) (items : Array Value) : Begins (.ref a) (itO k a) (fun h => IsS k h a items) := by
  cases k with
  | true => exact begins_list a items
  | false => exact begins_tuple a items
theorem ItAt.live {k : Bool} {h : Heap} {it a : Addr} {i : Nat} (x : ItAt k h it a i) : ∃ o, h.get? it = some o ∧ ∀ v, o.data ≠ .cell v := by
  cases k with
  | true => obtain ⟨o, e, c, d⟩ := (show h.IsListIter it a i from x); exact ⟨o, e, fun v z => by rw [d] at z; cases z⟩
  | false => obtain ⟨o, e, c, d⟩ := (show h.IsTupleIter it a i from x); exact ⟨o, e, fun v z => by rw [d] at z; cases z⟩
theorem ItAt.keep {k : Bool} {h h' : Heap} {it a : Addr} {i : Nat} (x : ItAt k h it a i) (e : ∀ o, h.get? it = some o → h'.get? it = some o) : ItAt k h' it a i := by
  cases k with
  | true => exact Heap.IsListIter.at (show h.IsListIter it a i from x) e
  | false => exact Heap.IsTupleIter.at (show h.IsTupleIter it a i from x) e
theorem itO_at {k : Bool} {h : Heap} {it a : Addr} (e : h.get? it = some (itO k a)) : ItAt k h it a 0 := by
  cases k with
  | true => exact ⟨_, e, rfl, rfl⟩
  | false => exact ⟨_, e, rfl, rfl⟩

/-! x in s -/
def SeqIt (K : PySem.W.Frag) (k : Bool) (a : Addr) : It := match k with
  | true => Itl K a
  | false => Itt K a
def iSeqD (K : PySem.W.Frag) (tl : TE) : TI := fun σ H R => tl σ H fun x H1 => ∃ a k, x = .ref a ∧ (∃ vs, SqV K k H1 a vs) ∧ R (SeqIt K k a) H1
theorem pi_seqD {X : Cx} {tg l : Expr} {tl : TE} (hl : PE X l tl) : PI X tg l (iSeqD X.K tl) := by
  refine ⟨fun pins s σ H R I h => thn (hl.run pins s σ H _ I h) fun v s1 ⟨x, H1, I1, r1, a, k, e, ⟨xs, hq⟩, q⟩ => ?_⟩
  subst e
  cases r1
  have new : ∀ o, Inv X pins σ H1 { s1 with heap := s1.heap.push o } := fun o => I1.kept (t' := s1.toks) fun _ _ e => Heap.get?_push_of_some _ e
  have fp : ∀ b, b ∈ [s1.heap.objs.size] → FpOk X pins H1 b := fun b hb => by
    rw [List.mem_singleton.mp hb]
    exact I1.fpOk (Nat.le_refl _) (I1.hok.fresh (Nat.le_refl _))
  cases k with
  | true =>
    obtain ⟨its, rv, p, _⟩ := I1.list hq
    exact wpAny_pyIter_list p.isList ⟨_, _, _, _, H1, rfl, new _, turn_list a _, ⟨_, Heap.get?_push_size _ rfl, rfl, rfl⟩, fp, q⟩
  | false =>
    obtain ⟨its, rv, p, _⟩ := I1.tuple hq
    exact wpAny_pyIter_tuple (show s1.heap.IsTuple a its.toArray from p) ⟨_, _, _, _, H1, rfl, new _, turn_tuple a _, ⟨_, Heap.get?_push_size _ rfl, rfl, rfl⟩, fp, q⟩

/-! enumerate -/
def ItE (K : PySem.W.Frag) (k : Bool) (a : Addr) (n0 : Int) : It :=
  ⟨fun i H => ∃ vs x, SqV K k H a vs ∧ vs[i]? = some x,
   fun i H v H' => ∃ T x, v = .ref T ∧ H T = none ∧ H' = upd H T (.tup [.int (n0 + (i : Int)), x]) ∧ ∀ vs, SqV K k H a vs → vs[i]? = some x,
   fun i H => ∃ vs, SqV K k H a vs ∧ i = vs.length⟩
theorem turn_enumK {P : Program} {w : World} {K : PySem.W.Frag} {elts : List Expr} {kk : Nat} {tpos : Pos} {k : Bool} {a e it : Addr} {n0 : Int} (h1 : e ≠ it) (h2 : e ∉ [it, a]) (h3 : a ≠ it) :
    Turn P w K (.Tuple elts kk tpos) (ItE K k a n0) [e, it] e (fun i h => (∃ old, IsEnum h e it (n0 + (i : Int)) old) ∧ ItAt k h it a i) where
  mem := by simp
  obj := fun i h st b hb => by
    obtain ⟨⟨old, he⟩, hi⟩ := st
    rcases (show b = e ∨ b = it by simpa using hb) with rfl | rfl
    · exact ⟨_, he, fun v z => nomatch z⟩
    · exact hi.live
  keep := fun i h h' st q => by
    obtain ⟨⟨old, he⟩, hi⟩ := st
    exact ⟨⟨old, q e (by simp) _ he⟩, hi.keep fun o z => q it (by simp) o z⟩
  item := by
    intro X hP hw hK hc i pins s σ H E I hf st hg
    subst hP hw hK
    obtain ⟨vs, x, hq, hx⟩ := hg
    obtain ⟨its, rv, hs⟩ := src I hq
    obtain ⟨u, hu, ru⟩ := rv.get hx
    have hi : i < its.toArray.size := by
      have := (List.getElem?_eq_some_iff.mp hu).1
      simpa using this
    refine (GoesN.enumFrom n0 (drawsK k (by exact I.ok.hd hc) it a h3 its.toArray) e h1 h2 (by simp)).goes i s _ E hi ⟨st.1, st.2, hs⟩ fun v h' tk hY st' hk htk => ?_
    obtain ⟨T, t, x0, rfl, hT, hx0, hTup⟩ := hY
    have ex : x0 = u := by
      rw [List.getElem?_toArray, hu] at hx0
      exact (Option.some.inj hx0).symm
    subst ex
    have new : ObjOk X.prog X.w (upd H T (.tup [.int (n0 + (i : Int)), x])) h' T (.tup [.int (n0 + (i : Int)), x]) :=
      ⟨by show 2 ≤ sizeLine; decide, [.int (n0 + (i : Int)) t, x0], .cons ⟨_, rfl⟩ (.cons ru .nil), hTup⟩
    refine ⟨.ref T, _, I.turnedNew (t' := tk) (ch := [e, it]) hk hf hT new, rfl, ⟨T, x, rfl, I.hok.fresh hT, rfl, fun us hus => by rw [src_inj I hus hq]; exact hx⟩, ⟨st'.1, st'.2.1⟩, fun b hb => ?_⟩
    have hbl : b < s.heap.objs.size := by
      rcases (show b = e ∨ b = it by simpa using hb) with rfl | rfl
      · obtain ⟨⟨_, he⟩, _⟩ := st; exact Heap.lt_size he
      · obtain ⟨_, z, _⟩ := st.2.live; exact Heap.lt_size z
    rw [upd_ne (Nat.ne_of_lt (Nat.lt_of_lt_of_le hbl hT))]
    exact (hf b hb).1
  done := by
    intro X hP hw hK hc i pins s σ H E I hf st hg
    subst hP hw hK
    obtain ⟨vs, hq, hn⟩ := hg
    obtain ⟨its, rv, hs⟩ := src I hq
    have hi : i = its.toArray.size := by rw [hn, rv.length, List.size_toArray]
    subst hi
    exact (GoesN.enumFrom n0 (drawsK k (by exact I.ok.hd hc) it a h3 its.toArray) e h1 h2 (by simp) (elts := elts) (x1 := kk) (pos := tpos)).stops s _ E ⟨st.1, st.2, hs⟩ fun h' tk hk htk => I.turnedL (t' := tk) (ch := [e, it]) (fun c o hb q => hk c o hb q) hf
  self := fun A i s Q E st h => by
    obtain ⟨⟨_, he⟩, _⟩ := st
    exact wpAny_pyIter_enum he h
theorem enum_new1 {v : Value} {ob : Obj} {G : Heap → Prop} (B : Begins v ob G) :
    Meets (Builtin.«enumerate.__new__» ⟨[.type "enumerate", v], []⟩) (fun _ R s => G s.heap ∧
      R (.ok (.ret (.ref (s.heap.push ob).objs.size))) { s with heap := (s.heap.push ob).push { cls := .type "enumerate", data := .fields #[.none, .bool false, .ref s.heap.objs.size, rawInt 0, .none, .none] } }) := by
  refine .of_wp fun prog w A R s h => ?_
  obtain ⟨hp, g, d, tk, os⟩ := s
  obtain ⟨hG, h⟩ := h
  have hsub := sub_enumerate
  have begin_ : ∀ {A' : Around} {E : Value → Shared → Prop} {Q : Value → Shared → Prop}, Q (.ref hp.objs.size) ⟨hp.push ob, g, d, tk, os⟩ → wpAny (model prog w) A' (pyIter v) Q E ⟨hp, g, d, tk, os⟩ := fun q => B.iter _ _ _ _ ⟨hp, g, d, tk, os⟩ _ hG q
  wp_walk using begin_
  refine wpAny_stack_any fun st => wpAny_pure ?_
  split
  · rename_i c _ _ _ _ _
    cases (c == Value.type "enumerate") <;> (wp_walk using begin_; exact ⟨_, rfl, h⟩)
  · wp_walk using begin_
    exact ⟨_, rfl, h⟩
def iEnumD (K : PySem.W.Frag) (ta : TA) : TI := fun σ H R => ta σ H fun vs H1 => ∃ a k, vs = [.ref a] ∧ (∃ us, SqV K k H1 a us) ∧ R (ItE K k a 0) H1
theorem pi_enumD {X : Cx} {e : Expr} {ta : TA} {p pos tpos : Pos} {elts : List Expr} {kk : Nat} (hg : Gl X "enumerate") (hm : X.mg "enumerate" = none) (ha : PA X [e] ta) (hs : starEach [e] X.env = [(false, eval e X.env)] := by rfl) :
    PI X (.Tuple elts kk tpos) (.Call (.Name "enumerate" p) [e] [] pos) (iEnumD X.K ta) := by
  refine ⟨fun pins s σ H R I h => Call_ (ld_blt I hg hm boot_enumerate (PyProof.Rows.callWith_type1 (thn (ha.run pos pins s σ H _ I h) fun us s1 ⟨vs, H1, I1, r1, a, k, ex, ⟨xs, hq⟩, q⟩ => ?_) hs rfl))⟩
  subst ex
  cases r1 with
  | cons r rr =>
    cases rr
    cases r
    obtain ⟨its, rv, hS⟩ := src I1 hq
    refine callType_new F.called_enumerate (by decide) (F.typeCall_enumerate_1 _) (F.newCall_enumerate_1 _) (fun obj => F.args_object_init_2 obj _) F.entry_enumerate_new (enum_new1 (beginsK k a its.toArray)) ⟨hS, ?_⟩
    have z1 : (s1.heap.push (itO k a)).objs.size = s1.heap.objs.size + 1 := Heap.size_push ..
    show _ ∧ _
    rw [z1]
    have he := Heap.get?_push_size (s1.heap.push (itO k a)) (o := { cls := .type "enumerate", data := .fields #[.none, .bool false, .ref s1.heap.objs.size, rawInt 0, .none, .none] }) rfl
    rw [z1] at he
    have hit : ItAt k ((s1.heap.push (itO k a)).push { cls := .type "enumerate", data := .fields #[.none, .bool false, .ref s1.heap.objs.size, rawInt 0, .none, .none] }) s1.heap.objs.size a 0 :=
      itO_at (Heap.get?_push_of_some _ (Heap.get?_push_size _ (by cases k <;> rfl)))
    refine ⟨⟨_, he, rfl⟩, wpAny_pyIter_enum he ?_⟩
    have hne : a ≠ s1.heap.objs.size := Nat.ne_of_lt hS.lt
    refine ⟨s1.heap.objs.size + 1, [s1.heap.objs.size + 1, s1.heap.objs.size], _, _, H1, rfl, I1.kept (t' := s1.toks) (fun b o z => Heap.get?_push_of_some _ (Heap.get?_push_of_some _ z)),
      turn_enumK (Nat.succ_ne_self _) ?_ hne, ⟨⟨.none, he⟩, hit⟩, fun b hb => ?_, q⟩
    · intro z
      rcases (show s1.heap.objs.size + 1 = s1.heap.objs.size ∨ s1.heap.objs.size + 1 = a by simpa using z) with z | z
      · exact Nat.succ_ne_self _ z
      · exact absurd hS.lt (by rw [← z]; exact Nat.not_lt.mpr (Nat.le_succ _))
    · have hle : s1.heap.objs.size ≤ b := by
        rcases (show b = s1.heap.objs.size + 1 ∨ b = s1.heap.objs.size by simpa using hb) with z | z
        · rw [z]; exact Nat.le_succ _
        · rw [z]; exact Nat.le_refl _
      exact I1.fpOk hle (I1.hok.fresh hle)

/-! zip of two -/
def ItZ (K : PySem.W.Frag) (k1 k2 : Bool) (a b : Addr) : It :=
  ⟨fun i H => ∃ vs us x y, SqV K k1 H a vs ∧ SqV K k2 H b us ∧ vs[i]? = some x ∧ us[i]? = some y,
   fun i H v H' => ∃ T x y, v = .ref T ∧ H T = none ∧ H' = upd H T (.tup [x, y]) ∧ (∀ vs, SqV K k1 H a vs → vs[i]? = some x) ∧ ∀ us, SqV K k2 H b us → us[i]? = some y,
   fun i H => ∃ vs us, SqV K k1 H a vs ∧ SqV K k2 H b us ∧ i = min vs.length us.length⟩
theorem turn_zipK {P : Program} {w : World} {K : PySem.W.Frag} {elts : List Expr} {kk : Nat} {tpos : Pos} {k1 k2 : Bool} {a b z TI TO i1 i2 : Addr} (S : ZipSep2 z TI TO i1 i2 [i1, a] [i2, b]) (h1 : a ≠ i1) (h2 : b ≠ i2) :
    Turn P w K (.Tuple elts kk tpos) (ItZ K k1 k2 a b) [z, TI, TO, i1, i2] z (fun i h => IsZip h z TI TO .none ∧ IsTupOf2 h TI (.ref i1) (.ref i2) ∧ (∃ a1 a2, IsTupOf2 h TO a1 a2) ∧ ItAt k1 h i1 a i ∧ ItAt k2 h i2 b i) where
  mem := by simp
  obj := fun i h st c hcm => by
    obtain ⟨hz, hTI, ⟨x, y, hTO⟩, g1, g2⟩ := st
    rcases (show c = z ∨ c = TI ∨ c = TO ∨ c = i1 ∨ c = i2 by simpa using hcm) with rfl | rfl | rfl | rfl | rfl
    · exact ⟨_, hz, fun v q => nomatch q⟩
    · exact ⟨_, hTI, fun v q => nomatch q⟩
    · exact ⟨_, hTO, fun v q => nomatch q⟩
    · exact g1.live
    · exact g2.live
  keep := fun i h h' st q => by
    obtain ⟨hz, hTI, ⟨x, y, hTO⟩, g1, g2⟩ := st
    exact ⟨q z (by simp) _ hz, q TI (by simp) _ hTI, ⟨x, y, q TO (by simp) _ hTO⟩, g1.keep fun o e => q i1 (by simp) o e, g2.keep fun o e => q i2 (by simp) o e⟩
  item := by
    intro X hP hw hK hc i pins s σ H E I hf st hg
    subst hP hw hK
    obtain ⟨vs, us, x, y, hqx, hqy, hx, hy⟩ := hg
    obtain ⟨its, rv, hs1⟩ := src I hqx
    obtain ⟨its2, rv2, hs2⟩ := src I hqy
    obtain ⟨u, hu, ru⟩ := rv.get hx
    obtain ⟨u2, hu2, ru2⟩ := rv2.get hy
    have hi : i < min its.toArray.size its2.toArray.size := by
      have := (List.getElem?_eq_some_iff.mp hu).1
      have := (List.getElem?_eq_some_iff.mp hu2).1
      simp only [List.size_toArray]
      omega
    obtain ⟨hz, hTI, hTO, g1, g2⟩ := st
    refine (GoesN.zip2 S (drawsK k1 (by exact I.ok.hd hc) i1 a h1 its.toArray) (drawsK k2 (by exact I.ok.hd hc) i2 b h2 its2.toArray)).goes i s _ E hi ⟨hz, hTI, hTO, ⟨g1, hs1⟩, g2, hs2⟩ fun v h' tk hY st' hk htk => ?_
    obtain ⟨T, x0, y0, rfl, hT, hx0, hy0, hTup⟩ := hY
    have ex : x0 = u := by
      rw [List.getElem?_toArray, hu] at hx0
      exact (Option.some.inj hx0).symm
    have ey : y0 = u2 := by
      rw [List.getElem?_toArray, hu2] at hy0
      exact (Option.some.inj hy0).symm
    subst ex ey
    have new : ObjOk X.prog X.w (upd H T (.tup [x, y])) h' T (.tup [x, y]) := ⟨by show 2 ≤ sizeLine; decide, [x0, y0], .cons ru (.cons ru2 .nil), hTup⟩
    refine ⟨.ref T, _, I.turnedNew (t' := tk) (ch := [z, TI, TO, i1, i2]) (fun c o hb q => hk c o (fun m => hb ?_) q) hf hT new, rfl,
      ⟨T, x, y, rfl, I.hok.fresh hT, rfl, fun l hl => by rw [src_inj I hl hqx]; exact hx, fun l hl => by rw [src_inj I hl hqy]; exact hy⟩, ⟨st'.1, st'.2.1, st'.2.2.1, st'.2.2.2.1.1, st'.2.2.2.2.1⟩, fun c hcm => ?_⟩
    · rcases (show c = z ∨ c = TO ∨ c = i1 ∨ c = i2 by simpa using m) with e | e | e | e <;> simp [e]
    · have hbl : c < s.heap.objs.size := by
        rcases (show c = z ∨ c = TI ∨ c = TO ∨ c = i1 ∨ c = i2 by simpa using hcm) with e | e | e | e | e
        · rw [e]; exact Heap.lt_size hz
        · rw [e]; exact Heap.lt_size hTI
        · obtain ⟨_, _, q⟩ := hTO; rw [e]; exact Heap.lt_size q
        · obtain ⟨_, q, _⟩ := g1.live; rw [e]; exact Heap.lt_size q
        · obtain ⟨_, q, _⟩ := g2.live; rw [e]; exact Heap.lt_size q
      rw [upd_ne (Nat.ne_of_lt (Nat.lt_of_lt_of_le hbl hT))]
      exact (hf c hcm).1
  done := by
    intro X hP hw hK hc i pins s σ H E I hf st hg
    subst hP hw hK
    obtain ⟨vs, us, hqx, hqy, hn⟩ := hg
    obtain ⟨its, rv, hs1⟩ := src I hqx
    obtain ⟨its2, rv2, hs2⟩ := src I hqy
    have hi : i = min its.toArray.size its2.toArray.size := by rw [hn, rv.length, rv2.length, List.size_toArray, List.size_toArray]
    subst hi
    obtain ⟨hz, hTI, hTO, g1, g2⟩ := st
    refine (GoesN.zip2 S (drawsK k1 (by exact I.ok.hd hc) i1 a h1 its.toArray) (drawsK k2 (by exact I.ok.hd hc) i2 b h2 its2.toArray) (elts := elts) (x1 := kk) (pos := tpos)).stops s _ E ⟨hz, hTI, hTO, ⟨g1, hs1⟩, g2, hs2⟩ fun h' tk hk htk =>
      I.turnedL (t' := tk) (ch := [z, TI, TO, i1, i2]) (fun c o hb q => hk c o (fun m => hb ?_) q) hf
    rcases (show c = z ∨ c = TO ∨ c = i1 ∨ c = i2 by simpa using m) with e | e | e | e <;> simp [e]
  self := fun A i s Q E st h => wpAny_pyIter_zip st.1 h
def iZipD (K : PySem.W.Frag) (ta : TA) : TI := fun σ H R => ta σ H fun vs H1 => ∃ a b k1 k2, vs = [.ref a, .ref b] ∧ (∃ us, SqV K k1 H1 a us) ∧ (∃ us, SqV K k2 H1 b us) ∧ R (ItZ K k1 k2 a b) H1
theorem pi_zipD {X : Cx} {e e2 : Expr} {ta : TA} {p pos tpos : Pos} {elts : List Expr} {kk : Nat} (hg : Gl X "zip") (hm : X.mg "zip" = none) (ha : PA X [e, e2] ta)
    (hs : starEach [e, e2] X.env = (false, eval e X.env) :: starEach [e2] X.env := by rfl) (hpl : (backTo pos (starEach [e2] X.env)).any (·.1) = false := by rfl) :
    PI X (.Tuple elts kk tpos) (.Call (.Name "zip" p) [e, e2] [] pos) (iZipD X.K ta) := by
  refine ⟨fun pins s σ H R I h => Call_ (ld_blt I hg hm PyProof.Rows.boot_zip (PyProof.Rows.callWith_type1 (thn (ha.run pos pins s σ H _ I h) fun us s1 ⟨vs, H1, I1, r1, a, b, k1, k2, ex, ⟨xs, hqx⟩, ⟨ys, hqy⟩, q⟩ => ?_) hs hpl))⟩
  subst ex
  cases r1 with
  | cons r rr =>
    cases rr with
    | cons r' rr =>
      cases rr
      cases r
      cases r'
      obtain ⟨its, rv, hS1⟩ := src I1 hqx
      obtain ⟨its2, rv2, hS2⟩ := src I1 hqy
      refine zip_begins2 (beginsK k1 a its.toArray) (beginsK k2 b its2.toArray) hS1 hS2 fun h' hz hTI hTO g1 g2 hsz hk => wpAny_pyIter_zip hz ?_
      refine ⟨s1.heap.objs.size + 4, [s1.heap.objs.size + 4, s1.heap.objs.size + 2, s1.heap.objs.size + 3, s1.heap.objs.size, s1.heap.objs.size + 1], _, _, H1, rfl, I1.kept (t' := s1.toks) hk,
        turn_zipK (zip_sep2 (fp1 := [a]) (fp2 := [b]) (fun c hcm => by rw [List.mem_singleton.mp hcm]; exact hS1.lt) (fun c hcm => by rw [List.mem_singleton.mp hcm]; exact hS2.lt)) (Nat.ne_of_lt hS1.lt) (Nat.ne_of_lt (Nat.lt_succ_of_lt hS2.lt)),
        ⟨hz, hTI, ⟨_, _, hTO⟩, itO_at g1, itO_at g2⟩, fun c hcm => ?_, q⟩
      have hle : s1.heap.objs.size ≤ c := by
        rcases (show c = s1.heap.objs.size + 4 ∨ c = s1.heap.objs.size + 2 ∨ c = s1.heap.objs.size + 3 ∨ c = s1.heap.objs.size ∨ c = s1.heap.objs.size + 1 by simpa using hcm) with e | e | e | e | e <;> rw [e] <;> first | exact Nat.le_refl _ | exact Nat.le_add_right _ _
      exact I1.fpOk hle (I1.hok.fresh hle)
end DL

namespace DL
open PySem PySem.Spec PyProof.Rows L2

section
variable {K : PySem.W.Frag} {xl xl' al al' : List Addr} {H : Hp}
mutual
theorem Rep.chg (s : ∀ q, q ∈ xl' → q ∈ xl ∨ H q = none) : ∀ {d : D} {v : V}, Rep K xl al H d v → Rep K xl' al H d v
  | _, _, .non => .non
  | _, _, .bl b => .bl b
  | _, _, .int i => .int i
  | _, _, .str x => .str x
  | _, _, .tup h r => .tup h (r.chg s)
  | _, _, .vl h n n' r => .vl h n (fun m => (s _ m).elim n' fun z => by rw [z] at h; cases h) (r.chg s)
  | _, _, .fz h n r => .fz h n (r.chg s)
  | _, _, .fzK k c h r => .fzK k c h (r.chg s)
  | _, _, .ref h => .ref h
  | _, _, .dct h n => .dct h n
theorem Reps.chg (s : ∀ q, q ∈ xl' → q ∈ xl ∨ H q = none) : ∀ {ds : List D} {vs : List V}, Reps K xl al H ds vs → Reps K xl' al H ds vs
  | _, _, .nil => .nil
  | _, _, .cons h r => .cons (h.chg s) (r.chg s)
end
end

/-! what is walked -/
def refItm (p : Nat) (S : DS) : Ou Itm := match S[p]? with
  | some (DO.lst xs) => .ok ⟨xs, some (p, xs)⟩ S
  | none => .no
def asItm (d : D) (S : DS) : Ou Itm := match d with
  | .tup xs => .ok ⟨xs, none⟩ S
  | .vl xs => .ok ⟨xs, none⟩ S
  | .fz xs => .ok ⟨xs, none⟩ S
  | .ref p => refItm p S
  | _ => .no
def mSeqI (a : ME) : MIt := fun env S => (a env S).bind asItm
def rangeD (lo : Int) (n : Nat) : List D := (List.range n).map fun (i : Nat) => D.int (lo + (i : Int))
def rng1O (xs : List D) (S : DS) : Ou Itm := match xs with
  | [.int j] => if -(2 ^ 62) ≤ j ∧ j < 2 ^ 62 then .ok ⟨rangeD 0 j.toNat, none⟩ S else .no
  | _ => .no
def rng2O (xs : List D) (S : DS) : Ou Itm := match xs with
  | [.int i, .int j] => if -(2 ^ 62) ≤ i ∧ i < 2 ^ 62 ∧ -(2 ^ 62) ≤ j ∧ j < 2 ^ 62 then .ok ⟨rangeD i (j - i).toNat, none⟩ S else .no
  | _ => .no
def enumD : Nat → List D → List D
  | _, [] => []
  | n, x :: xs => .tup [.int (n : Int), x] :: enumD (n + 1) xs
def zipD : List D → List D → List D
  | x :: xs, y :: ys => .tup [x, y] :: zipD xs ys
  | _, _ => []
def asSeq (d : D) : Option (List D) := match d with
  | .tup xs => some xs
  | .vl xs => some xs
  | _ => none
def enumR (p : Nat) (S : DS) : Ou Itm := match S[p]? with
  | some (DO.lst xs) => .ok ⟨enumD 0 xs, some (p, xs)⟩ S
  | none => .no
def enumO (xs : List D) (S : DS) : Ou Itm := match xs with
  | [.tup ys] => .ok ⟨enumD 0 ys, none⟩ S
  | [.vl ys] => .ok ⟨enumD 0 ys, none⟩ S
  | [.ref p] => enumR p S
  | _ => .no
def zipO (xs : List D) (S : DS) : Ou Itm := match xs with
  | [d, e] => match asSeq d, asSeq e with
    | some ys, some zs => .ok ⟨zipD ys zs, none⟩ S
    | _, _ => .no
  | _ => .no
def mArgI (f : List D → DS → Ou Itm) (a : MA) : MIt := fun env S => (a env S).bind f

theorem enumD_get : ∀ (n : Nat) (xs : List D) (i : Nat), (enumD n xs)[i]? = (xs[i]?).map fun x => .tup [.int ((n + i : Nat) : Int), x]
  | _, [], i => by simp [enumD]
  | n, x :: xs, 0 => by simp [enumD]
  | n, x :: xs, i + 1 => by
    rw [enumD, List.getElem?_cons_succ, List.getElem?_cons_succ, enumD_get (n + 1) xs i]
    rw [show n + 1 + i = n + (i + 1) by omega]
theorem enumD_len : ∀ (n : Nat) (xs : List D), (enumD n xs).length = xs.length
  | _, [] => rfl
  | n, x :: xs => by rw [enumD, List.length_cons, List.length_cons, enumD_len]
theorem zipD_get : ∀ (xs ys : List D) (i : Nat) (d : D), (zipD xs ys)[i]? = some d → ∃ x y, xs[i]? = some x ∧ ys[i]? = some y ∧ d = .tup [x, y]
  | [], _, _, _, h => by simp [zipD] at h
  | _ :: _, [], _, _, h => by simp [zipD] at h
  | x :: xs, y :: ys, 0, d, h => by
    simp [zipD] at h
    exact ⟨x, y, rfl, rfl, h.symm⟩
  | x :: xs, y :: ys, i + 1, d, h => by
    rw [zipD, List.getElem?_cons_succ] at h
    obtain ⟨x', y', h1, h2, h3⟩ := zipD_get xs ys i d h
    exact ⟨x', y', by simpa using h1, by simpa using h2, h3⟩
theorem zipD_len : ∀ (xs ys : List D), (zipD xs ys).length = min xs.length ys.length
  | [], ys => by simp [zipD]
  | _ :: _, [] => by simp [zipD]
  | x :: xs, y :: ys => by rw [zipD, List.length_cons, List.length_cons, List.length_cons, zipD_len]; omega

section
variable {X : Cx} {cm : CM} {W : WX} {tg e e2 : Expr} {ma : ME} {mm : MA}
/-- a sequence's place, told for later -/
theorem seq_later {K : PySem.W.Frag} {xl al1 : List Addr} {H1 : Hp} {d : D} {v : V} {ys : List D} (h : asSeq d = some ys) (r : Rep K xl al1 H1 d v) :
    ∃ a k us, v = .ref a ∧ SqV K k H1 a us ∧ Reps K xl al1 H1 ys us ∧ ∀ al' H', Ext al1 H1 al' H' → SqV K k H' a us := by
  cases r with
  | tup h0 r =>
    simp only [asSeq, Option.some.injEq] at h
    subst h
    exact ⟨_, false, _, rfl, h0, r, fun al' H' e => e.sqt h0⟩
  | vl h0 n n' r =>
    simp only [asSeq, Option.some.injEq] at h
    subst h
    exact ⟨_, true, _, rfl, SqL.of h0, r, fun al' H' e => SqL.of (e.fr _ _ n h0)⟩
  | _ => simp [asSeq] at h
theorem sqv_at {K : PySem.W.Frag} {k : Bool} {a : Addr} {H : Hp} {us : List V} (h : SqV K k H a us) (J : It) (hJ : J = SeqIt K k a) {i : Nat} {v : V} (hv : us[i]? = some v) : J.go i H ∧ ∀ x H'', J.yld i H x H'' → H'' = H ∧ x = v := by
  subst hJ
  cases k with
  | true =>
    refine ⟨⟨us, v, h, hv⟩, fun x H'' y => ?_⟩
    obtain ⟨e, y⟩ := y
    have := y us h
    rw [hv] at this
    exact ⟨e, (Option.some.inj this).symm⟩
  | false =>
    refine ⟨⟨us, v, h, hv⟩, fun x H'' y => ?_⟩
    obtain ⟨e, y⟩ := y
    have := y us h
    rw [hv] at this
    exact ⟨e, (Option.some.inj this).symm⟩
theorem sqv_end {K : PySem.W.Frag} {k : Bool} {a : Addr} {H : Hp} {us : List V} (h : SqV K k H a us) : (SeqIt K k a).stop us.length H := by
  cases k with
  | true => exact ⟨us, h, Nat.le_refl _⟩
  | false => exact ⟨us, h, Nat.le_refl _⟩
theorem yields_static {K : PySem.W.Frag} {xl al1 : List Addr} {H1 : Hp} {k : Bool} {a : Addr} {us : List V} {ys : List D} (r : Reps K xl al1 H1 ys us) (l : ∀ al' H', Ext al1 H1 al' H' → SqV K k H' a us) : Yields K xl al1 H1 ⟨ys, none⟩ (SeqIt K k a) := by
  intro xl' S' al' H' e hx w _
  have hS := l al' H' e
  refine ⟨fun i d hd => ?_, ?_⟩
  · obtain ⟨v, hv, rv⟩ := r.get hd
    obtain ⟨g, y⟩ := sqv_at hS _ rfl hv
    refine ⟨g, fun x H'' hy => ?_⟩
    obtain ⟨e1, e2⟩ := y x H'' hy
    subst e1 e2
    exact ⟨fun _ _ h => h, (rv.chg hx).mono e⟩
  · have := sqv_end hS
    rw [← r.length] at this
    exact this
theorem it_seq (h : EOk X cm W e ma) : IOk' X cm W tg e (mSeqI ma) := by
  obtain ⟨t, p, d⟩ := h
  refine ⟨_, pi_seqD p, fun xl al σ H S env R w r q => ?_⟩
  refine d xl al σ H S env _ w r (q.bind.imp fun x S1 al1 H1 e1 w1 p1 v rv => ?_)
  cases x with
  | tup xs =>
    obtain ⟨a, k, us, rfl, hS, r1, l⟩ := seq_later (d := .tup xs) rfl rv
    exact ⟨a, k, rfl, ⟨us, hS⟩, p1.here w1 _ (yields_static r1 l)⟩
  | vl xs =>
    obtain ⟨a, k, us, rfl, hS, r1, l⟩ := seq_later (d := .vl xs) rfl rv
    exact ⟨a, k, rfl, ⟨us, hS⟩, p1.here w1 _ (yields_static r1 l)⟩
  | fz xs =>
    cases rv with
    | fz h n r1 => exact ⟨_, true, rfl, ⟨_, show SqL X.K H1 _ _ from .inl (.inr ⟨_, h⟩)⟩, p1.here w1 _ (yields_static (k := true) r1 fun al' H' e => show SqL X.K H' _ _ from .inl (.inr ⟨_, e.fr _ _ n h⟩))⟩
    | fzK k c h r1 => exact ⟨_, true, rfl, ⟨_, show SqL X.K H1 _ _ from h H1⟩, p1.here w1 _ (yields_static (k := true) r1 fun al' H' e => show SqL X.K H' _ _ from h H')⟩
  | ref n =>
    replace p1 : Post X.K cm xl (fun c d H' => W c d σ H') (fun it S1 al1 H1 => ∀ (J : It), Yields X.K xl al1 H1 it J → R J H1) (refItm n S1) al1 H1 := p1
    unfold refItm at p1
    split at p1
    · rename_i xs hS
      cases rv with
      | ref ha =>
        rename_i a
        obtain ⟨a', us, h1, h2, h3⟩ := w1.list hS
        rw [ha] at h1; cases h1
        refine ⟨a, true, rfl, ⟨us, show SqL X.K H1 a us from SqL.of h2⟩, p1.here w1 _ ?_⟩
        intro xl' S' al' H' e hx w' ok
        obtain ⟨b, us', g1, g2, g3⟩ := w'.list (show S'[n]? = some (DO.lst xs) from ok)
        rw [e.get ha] at g1; cases g1
        have hS' : SqV X.K true H' a us' := SqL.of g2
        refine ⟨fun i d hd => ?_, ?_⟩
        · obtain ⟨v, hv, rv⟩ := g3.get hd
          obtain ⟨g, y⟩ := sqv_at hS' _ rfl hv
          refine ⟨g, fun x H'' hy => ?_⟩
          obtain ⟨e1, e2⟩ := y x H'' hy
          subst e1 e2
          exact ⟨fun _ _ h => h, rv⟩
        · have := sqv_end hS'
          rw [← g3.length] at this
          exact this
    · exact p1.elim
  | _ => exact p1.elim
theorem range_yields {K : PySem.W.Frag} {xl al1 : List Addr} {H1 : Hp} {lo : Int} {n : Nat} : Yields K xl al1 H1 ⟨rangeD lo n, none⟩ (Itr lo n) := by
  intro xl' S' al' H' e hx w _
  refine ⟨fun i d hd => ?_, ?_⟩
  · have hl : i < n := by
      have := (List.getElem?_eq_some_iff.mp hd).1
      simpa [rangeD] using this
    refine ⟨hl, fun x H'' hy => ?_⟩
    obtain ⟨e1, e2⟩ := hy
    subst e1 e2
    have ed : d = .int (lo + (i : Int)) := by
      have : (rangeD lo n)[i]? = some d := hd
      unfold rangeD at this
      rw [List.getElem?_map, List.getElem?_range hl] at this
      exact (Option.some.inj this).symm
    subst ed
    exact ⟨fun _ _ h => h, .int _⟩
  · show n ≤ (rangeD lo n).length
    simp [rangeD]
theorem it_range1 {p pos : Pos} (hg : Gl X "range") (hm : X.mg "range" = none) (ha : AOk X cm W [e] mm) (hs : starEach [e] X.env = [(false, eval e X.env)] := by rfl) : IOk' X cm W tg (.Call (.Name "range" p) [e] [] pos) (mArgI rng1O mm) := by
  obtain ⟨t, pt, d⟩ := ha
  refine ⟨_, pi_range1 hg hm pt hs, fun xl al σ H S env R w r q => ?_⟩
  refine d xl al σ H S env _ w r (q.bind.imp fun xs S1 al1 H1 e1 w1 p1 vs rs => ?_)
  unfold rng1O at p1
  split at p1
  · obtain ⟨v, rfl, rv⟩ := reps1 rs
    cases rv
    split at p1
    · rename_i hc
      exact ⟨_, rfl, hc.1, hc.2, p1.here w1 _ range_yields⟩
    · exact p1.elim
  · exact p1.elim
theorem it_range2 {p pos : Pos} (hg : Gl X "range") (hm : X.mg "range" = none) (ha : AOk X cm W [e, e2] mm) (hs : starEach [e, e2] X.env = [(false, eval e X.env), (false, eval e2 X.env)] := by rfl) (hs2 : starEach [e2] X.env = [(false, eval e2 X.env)] := by rfl) : IOk' X cm W tg (.Call (.Name "range" p) [e, e2] [] pos) (mArgI rng2O mm) := by
  obtain ⟨t, pt, d⟩ := ha
  refine ⟨_, pi_range2 hg hm pt hs hs2, fun xl al σ H S env R w r q => ?_⟩
  refine d xl al σ H S env _ w r (q.bind.imp fun xs S1 al1 H1 e1 w1 p1 vs rs => ?_)
  unfold rng2O at p1
  split at p1
  · obtain ⟨v, u, rfl, rv, ru⟩ := reps2 rs
    cases rv; cases ru
    split at p1
    · rename_i hc
      exact ⟨_, _, rfl, hc, p1.here w1 _ range_yields⟩
    · exact p1.elim
  · exact p1.elim
theorem enum_yields {K : PySem.W.Frag} {xl al1 : List Addr} {H1 : Hp} {k : Bool} {a : Addr} {us : List V} {ys : List D} (r : Reps K xl al1 H1 ys us) (l : ∀ al' H', Ext al1 H1 al' H' → SqV K k H' a us) : Yields K xl al1 H1 ⟨enumD 0 ys, none⟩ (ItE K k a 0) := by
  intro xl' S' al' H' e hx w _
  have hS := l al' H' e
  refine ⟨fun i d hd => ?_, ?_⟩
  · have hd' : (enumD 0 ys)[i]? = some d := hd
    rw [enumD_get, Option.map_eq_some_iff] at hd'
    obtain ⟨y, hy, rfl⟩ := hd'
    obtain ⟨v, hv, rv⟩ := r.get hy
    refine ⟨⟨us, v, hS, hv⟩, fun x H'' hyx => ?_⟩
    obtain ⟨T, x0, rfl, nT, rfl, hx0⟩ := hyx
    have ex : x0 = v := by
      have := hx0 us hS
      rw [hv] at this
      exact (Option.some.inj this).symm
    subst ex
    refine ⟨fun b o h => by rw [upd_ne (ne_of_none h nT)]; exact h, ?_⟩
    have : Reps K xl' al' H' [.int ((0 + i : Nat) : Int), y] [.int (0 + (i : Int)), x0] := .cons (by rw [Nat.zero_add, Int.zero_add]; exact .int _) (.cons ((rv.chg hx).mono e) .nil)
    exact Rep.newTup (S := S') nT this
  · show (ItE K k a 0).stop (enumD 0 ys).length H'
    rw [enumD_len]
    exact ⟨us, hS, r.length⟩
theorem enum_at {K : PySem.W.Frag} {xl' al' : List Addr} {H' : Hp} {S' : DS} {k : Bool} {a : Addr} {us : List V} {ys : List D} (hS : SqV K k H' a us) (r : Reps K xl' al' H' ys us) :
    (∀ (i : Nat) d, (enumD 0 ys)[i]? = some d → (ItE K k a 0).go i H' ∧ ∀ x H'', (ItE K k a 0).yld i H' x H'' → NewOnly H' H'' ∧ Rep K xl' al' H'' d x) ∧ (ItE K k a 0).stop (enumD 0 ys).length H' := by
  refine ⟨fun i d hd' => ?_, ?_⟩
  · rw [enumD_get, Option.map_eq_some_iff] at hd'
    obtain ⟨y, hy, rfl⟩ := hd'
    obtain ⟨v, hv, rv⟩ := r.get hy
    refine ⟨⟨us, v, hS, hv⟩, fun x H'' hyx => ?_⟩
    obtain ⟨T, x0, rfl, nT, rfl, hx0⟩ := hyx
    have ex : x0 = v := by
      have := hx0 us hS
      rw [hv] at this
      exact (Option.some.inj this).symm
    subst ex
    refine ⟨fun b o h => by rw [upd_ne (ne_of_none h nT)]; exact h, ?_⟩
    have : Reps K xl' al' H' [.int ((0 + i : Nat) : Int), y] [.int (0 + (i : Int)), x0] := .cons (by rw [Nat.zero_add, Int.zero_add]; exact .int _) (.cons rv .nil)
    exact Rep.newTup (S := S') nT this
  · rw [enumD_len]
    exact ⟨us, hS, r.length⟩
theorem it_enum {p pos tpos : Pos} {elts : List Expr} {kk : Nat} (hg : Gl X "enumerate") (hm : X.mg "enumerate" = none) (ha : AOk X cm W [e] mm) (hs : starEach [e] X.env = [(false, eval e X.env)] := by rfl) : IOk' X cm W (.Tuple elts kk tpos) (.Call (.Name "enumerate" p) [e] [] pos) (mArgI enumO mm) := by
  obtain ⟨t, pt, d⟩ := ha
  refine ⟨_, pi_enumD hg hm pt hs, fun xl al σ H S env R w r q => ?_⟩
  refine d xl al σ H S env _ w r (q.bind.imp fun xs S1 al1 H1 e1 w1 p1 vs rs => ?_)
  unfold enumO at p1
  split at p1
  · obtain ⟨v, rfl, rv⟩ := reps1 rs
    obtain ⟨a, k, us, rfl, hS, r1, l⟩ := seq_later (d := .tup _) rfl rv
    exact ⟨a, k, rfl, ⟨us, hS⟩, p1.here w1 _ (enum_yields r1 l)⟩
  · obtain ⟨v, rfl, rv⟩ := reps1 rs
    obtain ⟨a, k, us, rfl, hS, r1, l⟩ := seq_later (d := .vl _) rfl rv
    exact ⟨a, k, rfl, ⟨us, hS⟩, p1.here w1 _ (enum_yields r1 l)⟩
  · obtain ⟨v, rfl, rv⟩ := reps1 rs
    unfold enumR at p1
    split at p1
    · rename_i n _ xs hS
      cases rv with
      | ref ha =>
        rename_i a
        obtain ⟨a', us, h1, h2, h3⟩ := w1.list hS
        rw [ha] at h1; cases h1
        refine ⟨a, true, rfl, ⟨us, show SqL X.K H1 a us from SqL.of h2⟩, p1.here w1 _ ?_⟩
        intro xl' S' al' H' e hx w' ok
        obtain ⟨b, us', g1, g2, g3⟩ := w'.list (show S'[n]? = some (DO.lst xs) from ok)
        rw [e.get ha] at g1; cases g1
        exact enum_at (S' := S') (show SqV X.K true H' a us' from SqL.of g2) g3
    · exact p1.elim
  · exact p1.elim
theorem zip_yields {K : PySem.W.Frag} {xl al1 : List Addr} {H1 : Hp} {k1 k2 : Bool} {a b : Addr} {us vs : List V} {ys zs : List D} (r : Reps K xl al1 H1 ys us) (l : ∀ al' H', Ext al1 H1 al' H' → SqV K k1 H' a us) (r2 : Reps K xl al1 H1 zs vs) (l2 : ∀ al' H', Ext al1 H1 al' H' → SqV K k2 H' b vs) :
    Yields K xl al1 H1 ⟨zipD ys zs, none⟩ (ItZ K k1 k2 a b) := by
  intro xl' S' al' H' e hx w _
  have hS := l al' H' e
  have hS2 := l2 al' H' e
  refine ⟨fun i d hd => ?_, ?_⟩
  · obtain ⟨y, z, hy, hz, rfl⟩ := zipD_get ys zs i d hd
    obtain ⟨v, hv, rv⟩ := r.get hy
    obtain ⟨u, hu, ru⟩ := r2.get hz
    refine ⟨⟨us, vs, v, u, hS, hS2, hv, hu⟩, fun x H'' hyx => ?_⟩
    obtain ⟨T, x0, y0, rfl, nT, rfl, hx0, hy0⟩ := hyx
    have ex : x0 = v := by
      have := hx0 us hS
      rw [hv] at this
      exact (Option.some.inj this).symm
    have ey : y0 = u := by
      have := hy0 vs hS2
      rw [hu] at this
      exact (Option.some.inj this).symm
    subst ex ey
    refine ⟨fun b o h => by rw [upd_ne (ne_of_none h nT)]; exact h, ?_⟩
    exact Rep.newTup (S := S') nT (.cons ((rv.chg hx).mono e) (.cons ((ru.chg hx).mono e) .nil))
  · show (ItZ K k1 k2 a b).stop (zipD ys zs).length H'
    rw [zipD_len]
    exact ⟨us, vs, hS, hS2, by rw [r.length, r2.length]⟩
theorem it_zip {p pos tpos : Pos} {elts : List Expr} {kk : Nat} (hg : Gl X "zip") (hm : X.mg "zip" = none) (ha : AOk X cm W [e, e2] mm)
    (hs : starEach [e, e2] X.env = (false, eval e X.env) :: starEach [e2] X.env := by rfl) (hpl : (backTo pos (starEach [e2] X.env)).any (·.1) = false := by rfl) : IOk' X cm W (.Tuple elts kk tpos) (.Call (.Name "zip" p) [e, e2] [] pos) (mArgI zipO mm) := by
  obtain ⟨t, pt, d⟩ := ha
  refine ⟨_, pi_zipD hg hm pt hs hpl, fun xl al σ H S env R w r q => ?_⟩
  refine d xl al σ H S env _ w r (q.bind.imp fun xs S1 al1 H1 e1 w1 p1 vs rs => ?_)
  unfold zipO at p1
  split at p1
  · obtain ⟨v, u, rfl, rv, ru⟩ := reps2 rs
    split at p1
    · rename_i ys zs hd he
      obtain ⟨a, k, us, rfl, hS, r1, l⟩ := seq_later hd rv
      obtain ⟨b, k2, us2, rfl, hS2, r2, l2⟩ := seq_later he ru
      exact ⟨a, b, k, k2, rfl, ⟨us, hS⟩, ⟨us2, hS2⟩, p1.here w1 _ (zip_yields r1 l r2 l2)⟩
    · exact p1.elim
  · exact p1.elim
end

/-! comprehensions as expressions -/
section
variable {X : Cx} {cm : CM} {W : WX}
theorem finV_ok {K : PySem.W.Frag} : FinOk K cm finV := fun xl al1 H1 al H S acc us D0 Q W0 e _ w h n1 n2 r _ p =>
  p al H e w _ (.vl h n1 n2 (r.less fun a h => List.mem_cons_of_mem _ h))
mutual
theorem Rep.join {K : PySem.W.Frag} {xl al : List Addr} {H : Hp} {q : Addr} {us : List V} (hq : H q = some (.lst us)) : ∀ {d : D} {v : V}, Rep K (q :: xl) al H d v → Rep K xl (al ++ [q]) H d v
  | _, _, .non => .non
  | _, _, .bl b => .bl b
  | _, _, .int i => .int i
  | _, _, .str x => .str x
  | _, _, .tup h r => .tup h (r.join hq)
  | _, _, .vl h n n' r => .vl h (fun m => (List.mem_append.mp m).elim n fun z => n' (by rw [List.mem_singleton.mp z]; exact List.mem_cons_self)) (fun m => n' (List.mem_cons_of_mem _ m)) (r.join hq)
  | _, _, .fz h n r => .fz h (fun m => (List.mem_append.mp m).elim n fun z => by rw [List.mem_singleton.mp z, hq] at h; cases h) (r.join hq)
  | _, _, .fzK k c h r => .fzK k c h (r.join hq)
  | _, _, .ref (p := p) h => .ref (by
      have hl : p < al.length := by
        by_cases z : p < al.length
        · exact z
        · rw [List.getElem?_eq_none (by omega)] at h; cases h
      rw [List.getElem?_append_left hl]; exact h)
  | _, _, .dct h n => .dct h fun m => (List.mem_append.mp m).elim n fun z => by rw [List.mem_singleton.mp z, hq] at h; cases h
theorem Reps.join {K : PySem.W.Frag} {xl al : List Addr} {H : Hp} {q : Addr} {us : List V} (hq : H q = some (.lst us)) : ∀ {ds : List D} {vs : List V}, Reps K (q :: xl) al H ds vs → Reps K xl (al ++ [q]) H ds vs
  | _, _, .nil => .nil
  | _, _, .cons h r => .cons (h.join hq) (r.join hq)
end
theorem finR_ok {K : PySem.W.Frag} : FinOk K cm finR := by
  intro xl al1 H1 al H S acc us D0 Q W0 e h1 w h n1 n2 r w' p
  refine p (al ++ [D0]) H ⟨?_, e.fr, e.tup, fun a ha na => ?_⟩ ⟨?_, by simp [w.len], fun q xs hx => ?_, fun a ha => ⟨fun m => ?_, (w.xs a ha).2⟩⟩ _ (Rep.newRef' w)
  · obtain ⟨m, em⟩ := e.pre
    exact ⟨m ++ [D0], by rw [em, List.append_assoc]⟩
  · rcases List.mem_append.mp ha with z | z
    · exact e.new a z na
    · rw [List.mem_singleton.mp z]; exact h1
  · rw [List.nodup_append]
    exact ⟨w.nd, by simp, fun a ha b hb z => by rw [List.mem_singleton.mp hb] at z; exact n1 (z ▸ ha)⟩
  · by_cases hq : q < S.length
    · rw [List.getElem?_append_left hq] at hx
      obtain ⟨a, ws, g1, g2, g3⟩ := w'.ob q xs hx
      exact ⟨a, ws, by rw [List.getElem?_append_left (by rw [w.len]; exact hq)]; exact g1, g2, g3.join h⟩
    · have hq2 : q = S.length := by
        by_cases z : q < (S ++ [DO.lst acc]).length
        · simp at z; omega
        · rw [List.getElem?_eq_none (by omega)] at hx; cases hx
      subst hq2
      rw [List.getElem?_append_right (Nat.le_refl _), Nat.sub_self] at hx
      simp at hx; subst hx
      refine ⟨D0, us, ?_, h, r.join h⟩
      rw [← w.len, List.getElem?_append_right (Nat.le_refl _), Nat.sub_self]; rfl
  · rcases List.mem_append.mp m with z | z
    · exact (w.xs a ha).1 z
    · rw [List.mem_singleton.mp z] at ha; exact n2 ha
theorem lc_den {elt tg : Expr} {ifs : List Expr} {scope : Scope} {own : List (Str × Nat)} {wi : TI} {mi : MIt} {mg : MG} {mt : MT} {me : ME} {fin : List D → DS → Ou D}
    (di : ∀ xl al σ H S env (R : It → Hp → Prop), Wd X.K xl S al H → EnvR X.K xl al H env σ → Post X.K cm xl (fun c d H' => W c d σ H') (fun it S1 al1 H1 => ∀ J, Yields X.K xl al1 H1 it J → R J H1) (mi env S) al H → wi σ H R)
    (hfin : FinOk X.K cm fin)
    (hg : ∀ (s : Shared) (H : Hp) (C : Addr) (cl : List (Str × Addr)) (fp : List Addr), GAOk (X.blk s H scope (compEnvC scope cl C X.env) fp) cm tg mg (own.map (·.2)))
    (ht : ∀ (s : Shared) (H : Hp) (C : Addr) (cl : List (Str × Addr)) (fp : List Addr), TsOk (X.blk s H scope (compEnvC scope cl C X.env) fp) cm noX ifs mt)
    (he : ∀ (s : Shared) (H : Hp) (C : Addr) (cl : List (Str × Addr)) (fp : List Addr), EOk (X.blk s H scope (compEnvC scope cl C X.env) fp) cm noX elt me) :
    ∃ g tt te, (∀ (s : Shared) (H : Hp) (C : Addr) (cl : List (Str × Addr)) (fp : List Addr), PG (X.blk s H scope (compEnvC scope cl C X.env) fp) tg g) ∧
      (∀ (s : Shared) (H : Hp) (C : Addr) (cl : List (Str × Addr)) (fp : List Addr), PTs (X.blk s H scope (compEnvC scope cl C X.env) fp) ifs tt) ∧
      (∀ (s : Shared) (H : Hp) (C : Addr) (cl : List (Str × Addr)) (fp : List Addr), PE (X.blk s H scope (compEnvC scope cl C X.env) fp) elt te) ∧
      DenE X.K cm W (tLc wi g tt te (own.map (·.2))) (lcM mi mg mt me (own.map (·.2)) fin) := by
  let G := fun (s : Shared) (H : Hp) (C : Addr) (cl : List (Str × Addr)) (fp : List Addr) => (hg s H C cl fp).choose
  let T := fun (s : Shared) (H : Hp) (C : Addr) (cl : List (Str × Addr)) (fp : List Addr) => (ht s H C cl fp).choose
  let E := fun (s : Shared) (H : Hp) (C : Addr) (cl : List (Str × Addr)) (fp : List Addr) => (he s H C cl fp).choose
  refine ⟨fun v σ H' Q => ∀ s H C cl fp, G s H C cl fp v σ H' Q, fun σ H' Q => ∀ s H C cl fp, T s H C cl fp σ H' Q, fun σ H' Q => ∀ s H C cl fp, E s H C cl fp σ H' Q, fun s H C cl fp => ⟨fun pins s' σ H' v u Q I r h => ?_⟩,
    fun s H C cl fp => ⟨fun pins s' σ H' Q I h => ?_⟩, fun s H C cl fp => ⟨fun pins s' σ H' Q I h => ?_⟩, ?_⟩
  · exact (hg s H C cl fp).choose_spec.1.run pins s' σ H' v u Q I r (h s H C cl fp)
  · exact (ht s H C cl fp).choose_spec.1.run pins s' σ H' Q I (h s H C cl fp)
  · exact (he s H C cl fp).choose_spec.1.run pins s' σ H' Q I (h s H C cl fp)
  · refine den_lc di (fun xl al σ H S env d v Q w r rv p s H0 C cl fp => ?_) (fun xl al σ H S env Q w r p s H0 C cl fp => ?_) (fun xl al σ H S env Q w r p s H0 C cl fp => ?_) hfin
    · exact (hg s H0 C cl fp).choose_spec.2 xl al σ H S env d v Q w r rv p
    · exact (ht s H0 C cl fp).choose_spec.2 xl al σ H S env Q w r p
    · exact (he s H0 C cl fp).choose_spec.2 xl al σ H S env Q w r p
theorem e_lc {elt tg iter : Expr} {ifs : List Expr} {scope : Scope} {own : List (Str × Nat)} {pos : Pos} {mi : MIt} {mg : MG} {mt : MT} {me : ME} {fin : List D → DS → Ou D} (hc : X.calm = true) (hN : X.N.Nodup) (hi : IOk' X cm W tg iter mi) (ok : BlkOk X.N X.env.scope scope own) (hfin : FinOk X.K cm fin)
    (hg : ∀ (s : Shared) (H : Hp) (C : Addr) (cl : List (Str × Addr)) (fp : List Addr), GAOk (X.blk s H scope (compEnvC scope cl C X.env) fp) cm tg mg (own.map (·.2)))
    (ht : ∀ (s : Shared) (H : Hp) (C : Addr) (cl : List (Str × Addr)) (fp : List Addr), TsOk (X.blk s H scope (compEnvC scope cl C X.env) fp) cm noX ifs mt)
    (he : ∀ (s : Shared) (H : Hp) (C : Addr) (cl : List (Str × Addr)) (fp : List Addr), EOk (X.blk s H scope (compEnvC scope cl C X.env) fp) cm noX elt me) (hs : ∀ x, foldedSetIterable iter X.env x = pure x := by intro _; rfl) :
    EOk X cm W (.ListComp elt [⟨tg, iter, ifs, 0⟩] scope pos) (lcM mi mg mt me (own.map (·.2)) fin) := by
  obtain ⟨wi, pi, di⟩ := hi
  obtain ⟨g, tt, te, h1, h2, h3, h4⟩ := lc_den di hfin hg ht he
  exact ⟨_, pe_lc hc hN pi ok h1 h2 h3 hs, h4⟩
/-- y = [..] on one line, y a plain local -/
theorem s_setLc {i : Nat} {y : Str} {py spos : Pos} {elt tg iter : Expr} {ifs : List Expr} {scope : Scope} {own : List (Str × Nat)} {pos : Pos} {mi : MIt} {mg : MG} {mt : MT} {me : ME} {fin : List D → DS → Ou D} (hc : X.calm = true) (hN : X.N.Nodup)
    (hsw : swapsWith (.ListComp elt [⟨tg, iter, ifs, 0⟩] scope pos) (some (.Name y py)) spos.line X.env = pure true) (hi : IOk' X cm W tg iter mi) (ok : BlkOk X.N X.env.scope scope own) (hfin : FinOk X.K cm fin)
    (hg : ∀ (s : Shared) (H : Hp) (C : Addr) (cl : List (Str × Addr)) (fp : List Addr), GAOk (X.blk s H scope (compEnvC scope cl C X.env) fp) cm tg mg (own.map (·.2)))
    (ht : ∀ (s : Shared) (H : Hp) (C : Addr) (cl : List (Str × Addr)) (fp : List Addr), TsOk (X.blk s H scope (compEnvC scope cl C X.env) fp) cm noX ifs mt)
    (he : ∀ (s : Shared) (H : Hp) (C : Addr) (cl : List (Str × Addr)) (fp : List Addr), EOk (X.blk s H scope (compEnvC scope cl C X.env) fp) cm noX elt me)
    (hy : X.N[i]? = some y := by rfl) (hyl : X.env.scope.names.lookup y = some .local := by rfl) (hs : ∀ x, foldedSetIterable iter X.env x = pure x := by intro _; rfl) :
    SOk X cm W (.Assign [.Name y py] (.ListComp elt [⟨tg, iter, ifs, 0⟩] scope pos) spos) (mSet i (lcM mi mg mt me (own.map (·.2)) fin)) := by
  obtain ⟨wi, pi, di⟩ := hi
  obtain ⟨g, tt, te, h1, h2, h3, h4⟩ := lc_den di hfin hg ht he
  refine ⟨_, ps_setLc hc hN hy hyl hsw pi ok h1 h2 h3 hs, fun xl al σ H S env D0 w r q => ?_⟩
  refine h4 xl al σ H S env _ w r ((q.lift r).imp fun x S1 al1 H1 e1 w1 p1 v rv => ?_)
  exact p1.here w1 _ ((r.mono e1).set rv i)
end
end DL

namespace DL
open PySem PySem.Spec PyProof.Rows L2

/-! methods of built-in types -/
inductive RcT where
  | lst | str
def RcT.name : RcT → String
  | .lst => "list"
  | .str => "str"
def RcT.ok : RcT → D → Bool
  | .lst, .ref _ => true
  | .lst, .vl _ => true
  | .lst, .fz _ => true
  | .str, .str _ => true
  | _, _ => false
def mMeth (T : RcT) (f : D → List D → DS → Ou D) (o : ME) (a : MA) : ME := fun env S => (o env S).bind fun x S1 => if T.ok x = true then (a env S1).bind fun xs S2 => f x xs S2 else .no
def mMeth0 (T : RcT) (f : D → List D → DS → Ou D) (o : ME) : ME := fun env S => (o env S).bind fun x S1 => if T.ok x = true then f x [] S1 else .no
def MtOk (X : Cx) (cm : CM) (id : String) (op : D → List D → DS → Ou D) : Prop := ∃ r, MtR X id r ∧ ∀ xl al H S x v xs vs (Q : VK) (W0 : WH), Wd X.K xl S al H → Rep X.K xl al H x v → Reps X.K xl al H xs vs → Post X.K cm xl W0 (RE X.K xl Q) (op x xs S) al H → r v vs H Q
section
variable {X : Cx} {cm : CM} {W : WX} {o e : Expr} {es : List Expr} {mo : ME} {mm : MA} {name : Str} {apos cpos : Pos} {id : String} {f : D → List D → DS → Ou D}
theorem recv {K : PySem.W.Frag} {xl al : List Addr} {H : Hp} {S : DS} {x : D} {v : V} {T : RcT} (w : Wd K xl S al H) (r : Rep K xl al H x v) (h : T.ok x = true) : tyV K T.name v H := by
  cases T with
  | lst =>
    cases r with
    | vl h0 _ _ _ => exact .inl ⟨rfl, _, SqL.of h0⟩
    | fz h0 _ _ => exact .inl ⟨rfl, _, .inl (.inr ⟨_, h0⟩)⟩
    | fzK _ _ h0 _ => exact .inl ⟨rfl, _, h0 H⟩
    | ref h0 =>
      obtain ⟨_, us, _, hu⟩ := w.at (List.mem_of_getElem? h0)
      exact .inl ⟨rfl, us, SqL.of hu⟩
    | _ => simp [RcT.ok] at h
  | str =>
    cases r with
    | str x => rfl
    | _ => simp [RcT.ok] at h
theorem e_meth (T : RcT) (pa : PlainAttrs T.name) (slot : Slot T.name name id) (hty : typeOf (.builtin id) = pure (.type "method_descriptor")) (hm : MtOk X cm id f) (ho : EOk X cm W o mo) (ha : AOk X cm W (e :: es) mm)
    (hbase : attributeBase o name X.env (eval o X.env) = eval o X.env := by rfl)
    (hfew : ((backTo cpos (starEach (e :: es) X.env)).all (fun x => !x.1) && (backToKw cpos (keywordEach [] X.env)).all (fun x => x.1.isSome)
      && decide ((e :: es).length + ([] : List Keyword).length + (if ([] : List Keyword).isEmpty then 0 else 1) < 30)) = true := by rfl)
    (hline : (apos.endLine == cpos.line) = true := by rfl) (hs : starEach (e :: es) X.env = (false, eval e X.env) :: starEach es X.env := by rfl) (hplain : (backTo cpos (starEach es X.env)).any (·.1) = false := by rfl) :
    EOk X cm W (.Call (.Attribute o name apos) (e :: es) [] cpos) (mMeth T f mo mm) := by
  obtain ⟨r, hr, dr⟩ := hm
  obtain ⟨t, p, d⟩ := ho
  obtain ⟨t', p', d'⟩ := ha
  refine ⟨_, pe_bm pa slot hty hr p p' hbase hfew hline hs hplain, fun xl al σ H S env Q w r q => ?_⟩
  refine d xl al σ H S env _ w r (q.bind.imp fun x S1 al1 H1 e1 w1 p1 v rv => ?_)
  split at p1
  · rename_i hT
    refine ⟨recv w1 rv hT, ?_⟩
    exact d' xl al1 σ H1 S1 env _ w1 (r.mono e1) (p1.bind.imp fun xs S2 al2 H2 e2 w2 p2 vs rs => dr xl al2 H2 S2 x v xs vs Q _ w2 (rv.mono e2) rs p2)
  · exact p1.elim
theorem e_meth0 (T : RcT) (pa : PlainAttrs T.name) (slot : Slot T.name name id) (hty : typeOf (.builtin id) = pure (.type "method_descriptor")) (hm : MtOk X cm id f) (ho : EOk X cm W o mo)
    (hbase : attributeBase o name X.env (eval o X.env) = eval o X.env := by rfl) (hline : (apos.endLine == cpos.line) = true := by rfl) : EOk X cm W (.Call (.Attribute o name apos) [] [] cpos) (mMeth0 T f mo) := by
  obtain ⟨r, hr, dr⟩ := hm
  obtain ⟨t, p, d⟩ := ho
  refine ⟨_, pe_bm0 pa slot hty hr p hbase hline, fun xl al σ H S env Q w r q => ?_⟩
  refine d xl al σ H S env _ w r (q.bind.imp fun x S1 al1 H1 e1 w1 p1 v rv => ?_)
  split at p1
  · rename_i hT
    exact ⟨recv w1 rv hT, dr xl al1 H1 S1 x v [] [] Q _ w1 rv .nil p1⟩
  · exact p1.elim
end
def appendO (x : D) (xs : List D) (S : DS) : Ou D := match x, xs with
  | .ref p, [y] => match S[p]? with
    | some (DO.lst ys) => if ys.length < sizeLine then .ok .non (S.set p (.lst (ys ++ [y]))) else .no
    | none => .no
  | _, _ => .no
def insertO (x : D) (xs : List D) (S : DS) : Ou D := match x, xs with
  | .ref p, [.int i, y] => match S[p]? with
    | some (DO.lst ys) => if ys.length < sizeLine ∧ 0 ≤ i ∧ i < 2 ^ 63 then .ok .non (S.set p (.lst (ys.take i.toNat ++ [y] ++ ys.drop i.toNat))) else .no
    | none => .no
  | _, _ => .no
def extendO (x : D) (xs : List D) (S : DS) : Ou D := match x, xs with
  | .ref p, [.vl zs] => match S[p]? with
    | some (DO.lst ys) => if ys.length + zs.length ≤ sizeLine then .ok .non (S.set p (.lst (ys ++ zs))) else .no
    | none => .no
  | _, _ => .no
section
variable {X : Cx} {cm : CM}
theorem mm_append : MtOk X cm "list.append" appendO := by
  refine ⟨_, mt_append, fun xl al H S x v xs vs Q W0 w rv rs p => ?_⟩
  unfold appendO at p
  split at p
  · obtain ⟨u, rfl, ru⟩ := reps1 rs
    split at p
    · rename_i ys hS
      split at p
      · rename_i hl
        cases rv with
        | ref ha =>
          obtain ⟨a, us, h1, h2, h3⟩ := w.list hS
          rw [ha] at h1; cases h1
          refine ⟨_, us, u, rfl, rfl, h2, by rw [← h3.length]; exact hl, ?_⟩
          exact p al _ (ext_write (List.mem_of_getElem? ha) h2) (w.write hS ha h2 (h3.append (.cons ru .nil))) _ .non
      · exact p.elim
    · exact p.elim
  · exact p.elim
theorem mm_insert : MtOk X cm "list.insert" insertO := by
  refine ⟨_, mt_insert, fun xl al H S x v xs vs Q W0 w rv rs p => ?_⟩
  unfold insertO at p
  split at p
  · obtain ⟨z, u, rfl, rz, ru⟩ := reps2 rs
    cases rz
    split at p
    · rename_i ys hS
      split at p
      · rename_i hl
        cases rv with
        | ref ha =>
          obtain ⟨a, us, h1, h2, h3⟩ := w.list hS
          rw [ha] at h1; cases h1
          refine ⟨_, us, _, u, rfl, rfl, h2, by rw [← h3.length]; exact hl.1, hl.2.1, hl.2.2, ?_⟩
          exact p al _ (ext_write (List.mem_of_getElem? ha) h2) (w.write hS ha h2 (((h3.take _).append (.cons ru .nil)).append (h3.drop _))) _ .non
      · exact p.elim
    · exact p.elim
  · exact p.elim
theorem mm_extend : MtOk X cm "list.extend" extendO := by
  refine ⟨_, mt_extend, fun xl al H S x v xs vs Q W0 w rv rs p => ?_⟩
  unfold extendO at p
  split at p
  · obtain ⟨u, rfl, ru⟩ := reps1 rs
    obtain ⟨b, zs, rfl, hb, nb, nxb, r2⟩ := rep_ref_lst ru
    split at p
    · rename_i ys hS
      split at p
      · rename_i hl
        cases rv with
        | ref ha =>
          obtain ⟨a, us, h1, h2, h3⟩ := w.list hS
          rw [ha] at h1; cases h1
          refine ⟨_, b, us, zs, rfl, rfl, h2, hb, by rw [← h3.length, ← r2.length]; exact hl, ?_⟩
          exact p al _ (ext_write (List.mem_of_getElem? ha) h2) (w.write hS ha h2 (h3.append r2)) _ .non
      · exact p.elim
    · exact p.elim
  · exact p.elim
end

/-! isinstance -/
def tyName : D → String
  | .non => "NoneType"
  | .bl _ => "bool"
  | .int _ => "int"
  | .str _ => "str"
  | .tup _ => "tuple"
  | .vl _ => "list"
  | .fz _ => "list"
  | .ref _ => "list"
  | .dct => "dict"
def isTy (T : String) (d : D) : Option Bool := match T, d with
  | "int", .int _ => some true
  | "int", .bl _ => some true
  | "int", _ => some false
  | "bool", .bl _ => some true
  | "bool", _ => some false
  | "str", .str _ => some true
  | "str", _ => some false
  | "tuple", .tup _ => some true
  | "tuple", _ => some false
  | "list", .vl _ => some true
  | "list", .fz _ => some true
  | "list", .ref _ => some true
  | "list", _ => some false
  | "dict", .dct => some true
  | "dict", _ => some false
  | _, _ => none
def isiM (T : String) (a : ME) : ME := fun env S => (a env S).bind fun d S1 => match isTy T d with
  | some b => .ok (.bl b) S1
  | none => .no
def isiM2 (T U : String) (a : ME) : ME := fun env S => (a env S).bind fun d S1 => match isTy T d, isTy U d with
  | some b, some c => .ok (.bl (b || c)) S1
  | _, _ => .no
theorem isTy_kit {K : PySem.W.Frag} {T : String} {d : D} {b : Bool} (h : isTy T d = some b) : PySem.W.kitOne K (.type (tyName d)) (.type T) = some b := by
  refine kit_ty ?_
  unfold isTy at h
  split at h <;> first
    | (cases h; simp only [tyName]; decide +kernel)
    | (cases h; cases d <;> first | (simp only [tyName]; decide +kernel) | simp_all)
    | cases h
theorem rep_ty {K : PySem.W.Frag} {xl al : List Addr} {H : Hp} {S : DS} {d : D} {v : V} (w : Wd K xl S al H) (r : Rep K xl al H d v) : TyX K H v (.type (tyName d)) := by
  cases r with
  | non => exact .base .non
  | bl b => exact .base (.bl b)
  | int i => exact .base (.int i)
  | str x => exact .base (.str x)
  | tup h r =>
    rcases h with (h | ⟨o, h⟩) | ⟨o, its, n, hk, hc, hd, hz, hv⟩
    · exact .base (.tup h)
    · exact .fTuple h
    · exact .kTuple hk hc
  | vl h _ _ _ => exact .base (.lst h)
  | fz h _ _ => exact .base (.frz h)
  | fzK k c _ _ => exact .kList k c
  | ref h =>
    obtain ⟨_, us, _, hu⟩ := w.at (List.mem_of_getElem? h)
    exact .base (.lst hu)
  | dct h n => exact .base (.dK h)
section
variable {X : Cx} {cm : CM} {W : WX} {e : Expr} {me : ME} {p p2 p3 pos tp : Pos} {T U : String} {xT xU : Str}
theorem e_isi (hg : Gl X "isinstance") (hm : X.mg "isinstance" = none) (hgT : Gl X xT) (hmT : X.mg xT = none) (hvT : bootBuiltins xT = some (.type T)) (he : EOk X cm W e me) (hnT : xT ≠ "__name__" := by decide) (hdT : (xT == ("__debug__" : Str)) = false := by decide)
    (hs1 : starEach [e, .Name xT p2] X.env = (false, eval e X.env) :: starEach [.Name xT p2] X.env := by rfl) (hs2 : starEach [.Name xT p2] X.env = (false, eval (.Name xT p2) X.env) :: starEach [] X.env := by rfl)
    (hpl : (backTo pos (starEach [.Name xT p2] X.env)).any (·.1) = false := by rfl) : EOk X cm W (.Call (.Name "isinstance" p) [e, .Name xT p2] [] pos) (isiM T me) := by
  obtain ⟨t, pt, d⟩ := he
  refine ⟨_, pe_callB call_isi hg hm PyProof.Rows.boot_isinstance (pa_cons pt (pa_cons (pe_bltn (v := .ty T) hgT hmT hvT rfl hnT hdT) pa_nil hs2) hs1) (by decide) (by decide) hs1 hpl, fun xl al σ H S env Q w r q => ?_⟩
  refine d xl al σ H S env _ w r (q.bind.imp fun x S1 al1 H1 e1 w1 p1 v rv => ?_)
  split at p1
  · rename_i b hb
    exact ⟨v, .ty T, _, _, b, rfl, .ty T, rep_ty w1 rv, isTy_kit hb, p1.here w1 _ (.bl b)⟩
  · exact p1.elim
theorem e_isi2 {k : Nat} (hg : Gl X "isinstance") (hm : X.mg "isinstance" = none) (hgT : Gl X xT) (hmT : X.mg xT = none) (hvT : bootBuiltins xT = some (.type T)) (hgU : Gl X xU) (hmU : X.mg xU = none) (hvU : bootBuiltins xU = some (.type U)) (he : EOk X cm W e me)
    (hnT : xT ≠ "__name__" := by decide) (hdT : (xT == ("__debug__" : Str)) = false := by decide) (hnU : xU ≠ "__name__" := by decide) (hdU : (xU == ("__debug__" : Str)) = false := by decide)
    (hsa : starEach [.Name xT p2, .Name xU p3] X.env = (false, eval (.Name xT p2) X.env) :: starEach [.Name xU p3] X.env := by rfl) (hsb : starEach [.Name xU p3] X.env = (false, eval (.Name xU p3) X.env) :: starEach [] X.env := by rfl)
    (hs1 : starEach [e, .Tuple [.Name xT p2, .Name xU p3] k tp] X.env = (false, eval e X.env) :: starEach [.Tuple [.Name xT p2, .Name xU p3] k tp] X.env := by rfl) (hs2 : starEach [.Tuple [.Name xT p2, .Name xU p3] k tp] X.env = (false, eval (.Tuple [.Name xT p2, .Name xU p3] k tp) X.env) :: starEach [] X.env := by rfl)
    (hpl : (backTo pos (starEach [.Tuple [.Name xT p2, .Name xU p3] k tp] X.env)).any (·.1) = false := by rfl) : EOk X cm W (.Call (.Name "isinstance" p) [e, .Tuple [.Name xT p2, .Name xU p3] k tp] [] pos) (isiM2 T U me) := by
  obtain ⟨t, pt, d⟩ := he
  refine ⟨_, pe_callB call_isiT hg hm PyProof.Rows.boot_isinstance (pa_cons pt (pa_cons (pe_tup (pa_cons (pe_bltn (v := .ty T) hgT hmT hvT rfl hnT hdT) (pa_cons (pe_bltn (v := .ty U) hgU hmU hvU rfl hnU hdU) pa_nil hsb) hsa)) pa_nil hs2) hs1) (by decide) (by decide) hs1 hpl,
    fun xl al σ H S env Q w r q => ?_⟩
  refine d xl al σ H S env _ w r (q.bind.imp fun x S1 al1 H1 e1 w1 p1 v rv => ?_)
  refine ⟨by show 2 ≤ sizeLine; decide, fun a ha => ?_⟩
  split at p1
  · rename_i b c hb hc
    refine ⟨v, a, [.ty T, .ty U], _, [.type T, .type U], b || c, rfl, upd_same, .cons (.ty T) (.cons (.ty U) .nil), rep_ty (w1.put (o := .tup [.ty T, .ty U]) ha) (rv.mono (ext_new ha)), ?_, ?_⟩
    · refine kitAny_cons (isTy_kit hb) (fun e => kitAny_cons (isTy_kit hc) (fun e2 => ?_) fun e2 => ?_) fun e => ?_
      · rw [e, e2]; exact kitAny_nil
      · rw [e2, Bool.or_true]
      · rw [e, Bool.true_or]
    · exact p1 al1 _ (ext_new ha) (w1.put ha) _ (.bl _)
  · exact p1.elim
end

/-! repr, str -/
def reprO (xs : List D) (S : DS) : Ou D := match xs with
  | [d] => match toPyS S d with
    | some q => if q.showable = true ∧ SeqAt.shaped q = true ∧ q.shown.length ≤ sizeLine then .ok (.str q.shown) S else .no
    | none => .no
  | _ => .no
def strO (xs : List D) (S : DS) : Ou D := match xs with
  | [.int i] => if i.natAbs.log2 < 1920 then .ok (.str (toString i)) S else .no
  | _ => .no
def rRepr (K : PySem.W.Frag) : List V → Hp → VK → Prop := fun xs H Q => ∃ v q, xs = [v] ∧ Dp K H v q ∧ q.showable = true ∧ SeqAt.shaped q = true ∧ q.shown.length ≤ sizeLine ∧ Q (.str q.shown) H
section
variable {X : Cx} {cm : CM}
theorem call_reprD (hg : X.A.guards = some []) (hu : X.A.units + 65 < cLine) : CallR X (.builtin "repr") (rRepr X.K) := by
  intro pins s σ H xs us Q I r h
  obtain ⟨v, q, rfl, hd, h1, h2, h3, hq⟩ := h
  obtain ⟨u, rfl, ru⟩ := vals1 r
  have fin : ∀ (h' : Heap) (t : Tok) (tk : Nat), (∀ b o, s.heap.get? b = some o → h'.get? b = some o) → EP X pins σ Q (.str q.shown t) { s with heap := h', toks := tk } := fun h' t tk hk => ⟨.str q.shown, H, I.kept hk, ⟨t, rfl⟩, hq⟩
  have one : ∀ {t : Tok}, EP X pins σ Q (.str q.shown t) { s with toks := s.toks + 1 } := fun {t} => ⟨.str q.shown, H, I.tok _, ⟨t, rfl⟩, hq⟩
  have isRef : ∀ a, u = .ref a → wpAny (model X.prog X.w) X.A (call (.builtin "repr") [.ref a]) (EP X pins σ Q) X.xe s := fun a e => by
    subst e
    obtain ⟨as, R⟩ := Dp.reads I q v _ hd ru
    refine repr_of_reads' R h1 (PyData.noDict_hsm (PyData.hasDict_of_canLay q (SeqAt.canLay_of_shaped h2))) hg ?_ (fun _ _ e => e) (fun h' t tk hk => fin h' t tk hk) h3
    have := SeqAt.depth_of_shaped h2
    omega
  cases hd with
  | non => cases ru; exact PySem.P.repr_of_none one
  | bl b => cases ru; exact PySem.P.repr_of_bool one
  | int i =>
    obtain ⟨t, rfl⟩ := ru
    exact PySem.P.repr_of_int (by simpa [PyData.showable] using h1) one
  | str x =>
    obtain ⟨t, rfl⟩ := ru
    exact PySem.P.repr_of_str one h3
  | lst ha _ => cases ru; exact isRef _ rfl
  | tup ha _ => cases ru; exact isRef _ rfl
theorem c_repr (hg : X.A.guards = some []) (hu : X.A.units + 65 < cLine) : COk X cm (.builtin "repr") reprO := by
  refine ⟨_, call_reprD hg hu, fun xl al H S xs vs Q W0 w rs p => ?_⟩
  unfold reprO at p
  split at p
  · obtain ⟨v, rfl, rv⟩ := reps1 rs
    split at p
    · rename_i q hq
      split at p
      · rename_i hc
        exact ⟨v, q, rfl, toPyS_dp w rv hq, hc.1, hc.2.1, hc.2.2, p.here w _ (.str _)⟩
      · exact p.elim
    · exact p.elim
  · exact p.elim
theorem c_str : COk X cm (.type "str") strO := by
  refine ⟨_, call_str_int, fun xl al H S xs vs Q W0 w rs p => ?_⟩
  unfold strO at p
  split at p
  · obtain ⟨v, rfl, rv⟩ := reps1 rs
    cases rv
    split at p
    · rename_i hc
      exact ⟨_, rfl, hc, p.here w _ (.str _)⟩
    · exact p.elim
  · exact p.elim
end
end DL

namespace DL
open PySem PySem.Spec PyProof.Rows L2

/-! a def's promise -/
structure FnG (P : Program) (w : World) (K : PySem.W.Frag) (mg : Str → Option Value) (base : Heap) (cm : CM) (k : Nat) (f : Addr) (fd : FuncData) (ps : List Str) (mf : List D → DS → Ou D) : Prop where
  len : ∀ ds S, mf ds S ≠ .no → ds.length = ps.length
  run : ∀ (A : Around) (outer : List Env) (s : Shared) (H : Hp) (args : Args) (us : List Value) (vs : List V) (Q : VK) (E : XK) (xl al : List Addr) (S : DS) (ds : List D), Room k A → A.guards = some [] → Env0 P w K mg base A outer s H →
    BindsTo s fd args (ps.zip us) → Vals vs us → Wd K xl S al H → Reps K xl al H ds vs → Post K cm xl E (RE K xl Q) (mf ds S) al H → codeAny (model P w) A (.call (.ref f) args) (CR (L2.CX P w) outer P w H s Q E) s
theorem FnG.mono {P : Program} {w : World} {K : PySem.W.Frag} {mg : Str → Option Value} {base : Heap} {cm : CM} {j k : Nat} {f : Addr} {fd : FuncData} {ps : List Str} {mf : List D → DS → Ou D} (F : FnG P w K mg base cm j f fd ps mf) (h : j ≤ k) : FnG P w K mg base cm k f fd ps mf :=
  ⟨F.len, fun A outer s H args us vs Q E xl al S ds hr => F.run A outer s H args us vs Q E xl al S ds (hr.mono h)⟩
/-- a def that stands at a name -/
structure FnC (P : Program) (w : World) (K : PySem.W.Frag) (mg : Str → Option Value) (base : Heap) (cm : CM) (k : Nat) (x : Str) (mf : List D → DS → Ou D) : Prop where
  ex : ∃ f fd ps, mg x = some (.ref f) ∧ PySem.W.keepIn K (.ref f) = true ∧ Binds K fd ps [] ∧ FnG P w K mg base cm k f fd ps mf ∧ ∃ oc od sl, K.lookup f = some ⟨oc, od, .func fd, sl⟩
theorem FnC.mono {P : Program} {w : World} {K : PySem.W.Frag} {mg : Str → Option Value} {base : Heap} {cm : CM} {j k : Nat} {x : Str} {mf : List D → DS → Ou D} (F : FnC P w K mg base cm j x mf) (h : j ≤ k) : FnC P w K mg base cm k x mf := by
  obtain ⟨f, fd, ps, h1, h2, h3, h4, h5⟩ := F.ex
  exact ⟨f, fd, ps, h1, h2, h3, h4.mono h, h5⟩
/-- what stands around a body -/
structure Ctx (X : Cx) (W : WX) (k : Nat) : Prop where
  tk : Takes X W
  gd : X.A.guards = some []
  rm : Room k X.A
  calm : X.calm = true
  nd : X.N.Nodup
  po : PassesOwn (model X.prog X.w) X.A X.env X.xe
section
variable {X : Cx} {cm : CM} {W : WX} {j k : Nat}
theorem Ctx.un (C : Ctx X W k) : X.A.units + 64 < cLine := C.rm.units
theorem Ctx.un1 (C : Ctx X W k) : X.A.units + 65 < cLine := by have := C.rm.un; omega
theorem Ctx.blk (C : Ctx X W k) (s : Shared) (H : Hp) (scope : Scope) (cenv : Env) (fp : List Addr) : Ctx (X.blk s H scope cenv fp) noX k :=
  ⟨takes0, C.gd, C.rm, C.calm, C.nd, PassesOwn.never⟩
theorem run_G {x : Str} {f : Addr} {fd : FuncData} {ps : List Str} {mf : List D → DS → Ou D} (C : Ctx X W k) (F : FnG X.prog X.w X.K X.mg X.base cm j f fd ps mf) (hj : j ≤ k) (hb : Binds X.K fd ps []) {pins : List (Addr × Obj)} {σ : L2.St} {H : Hp} {s : Shared} {Q : VK} {us : List Value} {vs : List V}
    {xl al : List Addr} {S : DS} {ds : List D} (I : Inv X pins σ H s) (r : Vals vs us) (w : Wd X.K xl S al H) (rd : Reps X.K xl al H ds vs) (p : Post X.K cm xl (fun c d H' => W c d σ H') (RE X.K xl Q) (mf ds S) al H) :
    wpAny (model X.prog X.w) X.A (call (.ref f) us) (EP X pins σ Q) X.xe s := by
  have hne : mf ds S ≠ .no := fun z => by rw [z] at p; exact p
  have hl : us.length = ps.length := by rw [← r.length, ← rd.length]; exact F.len ds S hne
  have b := hb s us I.kIn (by rw [List.append_nil]; exact hl)
  rw [List.append_nil] at b
  refine wpAny_call (codeAny_mono (F.run X.A X.stack s H ⟨us, []⟩ us vs Q (fun c d H' => W c d σ H') xl al S ds (C.rm.mono hj) C.gd I.env0 b r w rd p) fun fl s' hq => ?_)
  cases fl with
  | error e => exact C.tk e s' (XE.of_call I (fun _ _ _ h => h) hq)
  | ok fl =>
    cases fl with
    | ret u => exact I.after hq
    | next => exact False.elim hq
    | brk => exact False.elim hq
    | cont => exact False.elim hq
/-- a call, as data -/
def tG (K : PySem.W.Frag) (cm : CM) (W : WX) (mf : List D → DS → Ou D) (t : TA) : TE := fun σ H Q => t σ H fun vs H1 => ∃ xl al S ds, Wd K xl S al H1 ∧ Reps K xl al H1 ds vs ∧ Post K cm xl (fun c d H' => W c d σ H') (RE K xl Q) (mf ds S) al H1
theorem e_call {x : Str} {mf : List D → DS → Ou D} {p pos : Pos} {e : Expr} {es : List Expr} {ma : MA} (C : Ctx X W k) (F : FnC X.prog X.w X.K X.mg X.base cm j x mf) (hj : j ≤ k) (hg : Gl X x) (ha : AOk X cm W (e :: es) ma) (hdb : (x == ("__debug__" : Str)) = false := by decide)
    (he : starEach (e :: es) X.env = (false, eval e X.env) :: starEach es X.env := by rfl) (hpl : (backTo pos (starEach es X.env)).any (·.1) = false := by rfl) : EOk X cm W (.Call (.Name x p) (e :: es) [] pos) (mL mf ma) := by
  obtain ⟨f, fd, ps, hm, hk, hb, G, _⟩ := F.ex
  obtain ⟨t, pt, d⟩ := ha
  refine ⟨tG X.K cm W mf t, ⟨fun pins s σ H Q I h => wpAny_Call_Name_kw (ld_glob I hg hm ?_ hdb)⟩, fun xl al σ H S env Q w r q => ?_⟩
  · refine PySem.W.callWith_K (h₀ := X.base) I.ok.mod.kin hk (thn (pt.run pos pins s σ H _ I h) fun us s1 ⟨vs, H1, I1, r, q⟩ => ⟨I1.kIn, ?_⟩) he hpl
    obtain ⟨xl, al, S, ds, w, rd, p⟩ := q
    exact run_G (x := x) C G hj hb I1 r w rd p
  · exact d xl al σ H S env _ w r (q.bind.imp fun xs S1 al1 H1 e1 w1 p1 vs rs => ⟨xl, al1, S1, xs, w1, rs, p1⟩)
theorem e_call0 {x : Str} {mf : List D → DS → Ou D} {p pos : Pos} (C : Ctx X W k) (F : FnC X.prog X.w X.K X.mg X.base cm j x mf) (hj : j ≤ k) (hg : Gl X x) (hdb : (x == ("__debug__" : Str)) = false := by decide) : EOk X cm W (.Call (.Name x p) [] [] pos) (mL mf maN) := by
  obtain ⟨f, fd, ps, hm, hk, hb, G, _⟩ := F.ex
  refine ⟨tG X.K cm W mf tNil, ⟨fun pins s σ H Q I h => wpAny_Call_Name_kw (ld_glob I hg hm ?_ hdb)⟩, fun xl al σ H S env Q w r q => ?_⟩
  · refine PySem.W.callWith_K0 I.kIn hk ?_
    obtain ⟨xl, al, S, ds, w, rd, p⟩ := h
    exact run_G (x := x) C G hj hb I .nil w rd p
  · exact ⟨xl, al, S, [], w, .nil, q⟩
end

/-! a def's body -/
mutual
/-- speaks of none of the lists from n on -/
def under (n : Nat) : D → Bool
  | .tup xs => unders n xs
  | .vl xs => unders n xs
  | .fz xs => unders n xs
  | .ref p => decide (p < n)
  | _ => true
def unders (n : Nat) : List D → Bool
  | [] => true
  | x :: xs => under n x && unders n xs
end
def underO (n : Nat) : DO → Bool
  | .lst xs => unders n xs
def dropO (n : Nat) (o : Ou D) : Ou D := match o with
  | .ok d S => if under n d = true ∧ (S.take n).all (underO n) = true then .ok d (S.take n) else .no
  | o => o
def retO (o : Ou (Fl × DE)) : Ou D := match o with
  | .ok (.rt d, _) S => .ok d S
  | .ok (.nx, _) S => .ok .non S
  | .ok (.xc x, _) S => .ex x S
  | _ => .no
def startE (N : Nat) (ds : List D) : DE := ds.map some ++ List.replicate (N - ds.length) none
def defM (n N : Nat) (body : MS) : List D → DS → Ou D := fun ds S => if ds.length = n then retO (body (startE N ds) S) else .no
/-- its own lists forgotten at the end -/
def defD (n N : Nat) (body : MS) : List D → DS → Ou D := fun ds S => if ds.length = n then dropO S.length (retO (body (startE N ds) S)) else .no
section
variable {K : PySem.W.Frag} {cm : CM} {xl al al' : List Addr} {H H' : Hp} {S : DS}
mutual
theorem Rep.cut (e : Ext al H al' H') : ∀ {d : D} {v : V}, Rep K xl al' H' d v → under al.length d = true → Rep K xl al H' d v
  | _, _, .non, _ => .non
  | _, _, .bl b, _ => .bl b
  | _, _, .int i, _ => .int i
  | _, _, .str x, _ => .str x
  | _, _, .tup h r, u => .tup h (r.cutd e (by simpa [under] using u))
  | _, _, .vl h n n' r, u => .vl h (fun m => n (by obtain ⟨more, q⟩ := e.pre; rw [q]; exact List.mem_append_left _ m)) n' (r.cutd e (by simpa [under] using u))
  | _, _, .fz h n r, u => .fz h (fun m => n (by obtain ⟨more, q⟩ := e.pre; rw [q]; exact List.mem_append_left _ m)) (r.cutd e (by simpa [under] using u))
  | _, _, .fzK k c h r, u => .fzK k c h (r.cutd e (by simpa [under] using u))
  | _, _, .ref (p := p) h, u => .ref (by
      obtain ⟨more, q⟩ := e.pre
      have hl : p < al.length := by simpa [under] using u
      rw [q, List.getElem?_append_left hl] at h
      exact h)
  | _, _, .dct h n, _ => .dct h fun m => n (by obtain ⟨more, q⟩ := e.pre; rw [q]; exact List.mem_append_left _ m)
theorem Reps.cutd (e : Ext al H al' H') : ∀ {ds : List D} {vs : List V}, Reps K xl al' H' ds vs → unders al.length ds = true → Reps K xl al H' ds vs
  | _, _, .nil, _ => .nil
  | _, _, .cons h r, u => by
    rw [unders, Bool.and_eq_true] at u
    exact .cons (h.cut e u.1) (r.cutd e u.2)
end
theorem Ext.cut (e : Ext al H al' H') : Ext al H al H' := ⟨⟨[], by simp⟩, e.fr, e.tup, fun a h n => absurd h n⟩
theorem Wd.cut {S' : DS} (w0 : Wd K xl S al H) (e : Ext al H al' H') (w : Wd K xl S' al' H') (u : (S'.take S.length).all (underO S.length) = true) : Wd K xl (S'.take S.length) al H' := by
  obtain ⟨more, q⟩ := e.pre
  have hl : S.length ≤ S'.length := by
    have := w.len
    rw [q, List.length_append, w0.len] at this
    omega
  refine ⟨w0.nd, by rw [List.length_take, w0.len]; omega, fun p xs h => ?_, fun a h => ⟨(w0.xs a h).1, (w.xs a h).2⟩⟩
  have hp : p < S.length := by
    by_cases z : p < S.length
    · exact z
    · rw [List.getElem?_eq_none (by rw [List.length_take]; omega)] at h; cases h
  have hu := List.all_eq_true.mp u _ (List.mem_of_getElem? h)
  rw [List.getElem?_take_of_lt hp] at h
  obtain ⟨a, vs, h1, h2, h3⟩ := w.ob p xs h
  rw [q, List.getElem?_append_left (by rw [w0.len]; exact hp)] at h1
  refine ⟨a, vs, h1, h2, h3.cutd e ?_⟩
  rw [w0.len]
  exact hu
theorem Post.drop {E : WH} {Q : VK} {o : Ou D} (w : Wd K xl S al H) (p : Post K cm xl E (RE K xl Q) (dropO S.length o) al H) : Post K cm xl E (RE K xl Q) o al H := by
  cases o with
  | ok d S' =>
    unfold dropO at p
    intro al' H' e w' v rv
    simp only at p
    split at p
    · rename_i hu
      exact p al H' e.cut (w.cut e w' hu.2) v (rv.cut e (by rw [w.len]; exact hu.1))
    · exact p.elim
  | ex x S' => exact p
  | no => exact p
theorem start_env {N : List Str} {ds : List D} {vs : List V} (r : Reps K xl al H ds vs) : EnvR K xl al H (startE N.length ds) (L2.start N vs) := by
  unfold startE L2.start
  refine ⟨by simp [r.length], fun i d h => ?_⟩
  by_cases hi : i < ds.length
  · rw [List.getElem?_append_left (by simpa using hi), List.getElem?_map] at h
    cases e : ds[i]? with
    | none => rw [e] at h; cases h
    | some d' =>
      rw [e] at h; cases h
      obtain ⟨v, hv, rv⟩ := r.get e
      refine ⟨v, ?_, rv⟩
      rw [List.getElem?_append_left (by rw [List.length_map, ← r.length]; exact hi), List.getElem?_map, hv]
      rfl
  · rw [List.getElem?_append_right (by simpa using Nat.le_of_not_lt hi), List.getElem?_replicate] at h
    split at h <;> cases h
theorem Post.ret {E : XK} {Q : VK} {o : Ou (Fl × DE)} (p : Post K cm xl E (RE K xl Q) (retO o) al H) : Post K cm xl noW (RS K cm xl (fun c d _ H' => E c d H') { nx := fun _ H' => Q .non H', rt := Q }) o al H := by
  cases o with
  | ok z S' =>
    obtain ⟨f, env'⟩ := z
    cases f with
    | nx => exact fun al' H' e w σ' r => p al' H' e w _ .non
    | rt d => exact fun al' H' e w σ' r v rv => p al' H' e w v rv
    | bk => exact p.elim
    | ct => exact p.elim
    | xc x => exact fun al' H' e w σ' r cls dx z => p al' H' cls dx e w z
  | ex x S' => exact p.elim
  | no => exact p.elim
end

section
variable {P : Program} {w : World} {K : PySem.W.Frag} {mg : Str → Option Value} {base : Heap} {cm : CM}
/-- a def of the text, by its body -/
theorem fnG_of {x qual : Str} {st : Stmt} {f : Addr} {fd : FuncData} {N ps : List Str} {k : Nat} {mb : MS} {mf : List D → DS → Ou D} (F : Fun K x qual st f fd) (Sc : FnScope N ps (defScope st)) (hlen : ∀ ds S, mf ds S ≠ .no → ds.length = ps.length)
    (hmf : ∀ xl al H S ds (Q : VK) (E : XK), Wd K xl S al H → Post K cm xl E (RE K xl Q) (mf ds S) al H → Post K cm xl E (RE K xl Q) (retO (mb (startE N.length ds) S)) al H)
    (body : ∀ (cdv : Value) (A : Around) (outer : List Env) (s : Shared) (H : Hp) (E : XK), Ctx (cxOf (L2.CX P w) P w K mg base N qual (defScope st) f cdv A outer s H E) (fun c d _ H => E c d H) k →
      SsOk (cxOf (L2.CX P w) P w K mg base N qual (defScope st) f cdv A outer s H E) cm (fun c d _ H => E c d H) (defBody st) mb) :
    FnG P w K mg base cm (k + 1) f fd ps mf := by
  obtain ⟨oc, od, kV, doc, pm, an, cdv, ct, osl, rfl, lk, hcd⟩ := F.ex
  refine ⟨hlen, fun A outer s H args us vs Q E xl al S ds hr hgd e0 hb rv wd rd p => ?_⟩
  have hne : mf ds S ≠ .no := fun z => by rw [z] at p; exact p
  have hl : vs.length = ps.length := by rw [← rd.length]; exact hlen ds S hne
  have stays : ∀ b o, base.get? b = some o → s.heap.get? b = some o := fun b o e => (e0.bs b o e).1
  have KX : K.In s.heap := e0.mod.kin.keeps stays
  have hkind : ∀ y ∈ ps.zip us, (defScope st).names.lookup y.1 = some .local ∨ ((defScope st).names.lookup y.1 = some .cell ∧ ((cellsFrom (s.heap.objs.size + 1) (defScope st).names []).lookup y.1).isSome = true) := by
    rintro ⟨n, v⟩ hy
    exact (Sc.par n (List.of_mem_zip hy).1).imp id fun q => ⟨q, PySem.W.cellsFrom_some _ _ _ (.inl q)⟩
  refine codeAny_call_function hr.depth (KX _ _ lk) rfl Sc.co Sc.gen rfl (PySem.W.codeRec_of KX hcd) (hb _ _ _ _ (wpAny_newFunctionEnv_cells Sc.kind hkind fun env he s1 x => ?_))
  subst he
  refine ⟨(e0.mod.nolimit.keeps stays).keeps x.toInCall.keep, codeAny_func ?_⟩
  let X : Cx := cxOf (L2.CX P w) P w K mg base N qual (defScope st) f cdv A outer s H E
  have C : Ctx X (fun c d _ H => E c d H) k := ⟨takes_of (E := E) rfl rfl rfl rfl, hgd, hr.deeper _, rfl, Sc.nd, passes_of rfl⟩
  obtain ⟨t, ht, hd⟩ := body cdv A outer s H E C
  have I : Inv X [] (L2.start N vs) H s1 := inv_start Sc hr.hd e0 hl rv x
  have q : t { nx := fun _ H' => Q .non H', rt := Q } (L2.start N vs) H := hd xl al _ H S (startE N.length ds) _ wd (start_env rd) (Post.ret (hmf xl al H S ds Q E wd p))
  refine wpAny_mono (ht.run [] s1 _ H _ I q) (fun fl s' hs => ?_) fun _ _ z => z
  have fin : ∀ {σ' : L2.St} {H' : Hp} {v : V} {u : Value}, Inv X [] σ' H' s' → RelV v u → Q v H' → CE outer P w H s Q u s' := fun J rv q => ⟨_, _, J.os, J.bare, J.base, J.hok, rv, q⟩
  cases fl with
  | ret u => obtain ⟨v, σ', H', J, rv, q⟩ := hs; exact fin J rv q
  | next => obtain ⟨σ', H', J, q⟩ := hs; exact fin (v := V.non) (u := Value.none) J rfl q
  | brk => obtain ⟨_, _, _, q⟩ := hs; exact False.elim q
  | cont => obtain ⟨_, _, _, q⟩ := hs; exact False.elim q
theorem defM_len {n N : Nat} {body : MS} : ∀ ds S, defM n N body ds S ≠ .no → ds.length = n := fun ds S h => Classical.byContradiction fun z => h (if_neg z)
theorem defD_len {n N : Nat} {body : MS} : ∀ ds S, defD n N body ds S ≠ .no → ds.length = n := fun ds S h => Classical.byContradiction fun z => h (if_neg z)
theorem defM_post {n N : Nat} {mb : MS} : ∀ xl al H S ds (Q : VK) (E : XK), Wd K xl S al H → Post K cm xl E (RE K xl Q) (defM n N mb ds S) al H → Post K cm xl E (RE K xl Q) (retO (mb (startE N ds) S)) al H := fun xl al H S ds Q E _ p => by
  unfold defM at p
  split at p
  · exact p
  · exact p.elim
theorem defD_post {n N : Nat} {mb : MS} : ∀ xl al H S ds (Q : VK) (E : XK), Wd K xl S al H → Post K cm xl E (RE K xl Q) (defD n N mb ds S) al H → Post K cm xl E (RE K xl Q) (retO (mb (startE N ds) S)) al H := fun xl al H S ds Q E wd p => by
  unfold defD at p
  split at p
  · exact Post.drop wd p
  · exact p.elim
end
end DL

namespace DL
open PySem PySem.Spec PyProof.Rows L2

theorem reps_ints {K : PySem.W.Frag} {xl al : List Addr} {H : Hp} : ∀ ns : List Int, Reps K xl al H (ns.map D.int) (ns.map V.int)
  | [] => .nil
  | n :: r => .cons (.int n) (reps_ints r)
theorem wd_nil {K : PySem.W.Frag} {H : Hp} : Wd K [] [] [] H := ⟨List.nodup_nil, rfl, fun p xs h => by simp at h, fun a h => by simp at h⟩

/-- the law's call, behind the top -/
theorem law_callD {P : Program} {w : World} {K : PySem.W.Frag} {mg mb : Str → Option Value} {cm : CM} {k : Nat} {fa a : Addr} {fd : FuncData} {x : Str} {mf : List D → DS → Ou D} {s1 : Shared} {vs : List Value} {ns : List Int}
    (KX : K.In s1.heap) (hns : s1.heap.Ns mainGlobals mg) (hb : s1.heap.Ns builtinsNs mb) (hbb : ∀ x : Str, x ≠ "__name__" → mb x = bootBuiltins x) (hlim : s1.heap.NoLimit) (hg : s1.gens = #[])
    (ha : s1.heap.get? a = some { cls := .type "list", data := .seq vs.toArray }) (hi : IntsAre vs ns) (hl : ns.length ≤ sizeLine) (hr : Room k callerA)
    (F : ∀ base : Heap, K.In base → base.Ns mainGlobals mg → FnG P w K mg base cm k fa fd [x] mf) (hbind : ∀ (s : Shared) (u : Value), BindsTo s fd ⟨[u], []⟩ [(x, u)])
    (hp : ∃ S', mf [.fz (ns.map D.int)] [] = .ok (.bl true) S') :
    codeAny (model P w) callerA (.call (.ref fa) ⟨[.ref a], []⟩) (fun r s' => r = .ok (.ret (.bool true)) ∧ OldK s1.heap s'.heap ∧ s'.os = s1.os ∧ AllBare s'.gens) s1 := by
  have rv := vals_ints hi
  have lenV := hi.length
  -- one heap: the script frozen, or of the module
  have main : ∀ H : Hp, (∀ b o, H b = some o → b = a ∧ o = .frz { cls := .type "list", data := .seq vs.toArray } (.lst (ns.map V.int))) → (∀ o, H a = some o → K.lookup a = none) →
      Rep K [] [] H (.fz (ns.map D.int)) (.ref a) →
      codeAny (model P w) callerA (.call (.ref fa) ⟨[.ref a], []⟩) (fun r s' => r = .ok (.ret (.bool true)) ∧ OldK s1.heap s'.heap ∧ s'.os = s1.os ∧ AllBare s'.gens) s1 := by
    intro H hH hK hrep
    have hok : HOk P w H s1.heap := fun b o e => by
      obtain ⟨rfl, rfl⟩ := hH b o e
      exact ⟨ha, by rw [List.length_map]; exact hl, vs, _, rv, ha⟩
    have notD : ∀ {b : Addr} {o : Obj} {es : Array DictEntry} {ep : Nat}, s1.heap.get? b = some o → o.data = .dict es ep → H b = none := fun {b o es ep} e d => by
      cases q : H b with
      | none => rfl
      | some u =>
        obtain ⟨rfl, _⟩ := hH b u q
        rw [ha] at e
        cases e
        exact nomatch (show Data.seq vs.toArray _ = Data.dict es ep from d)
    have nsK : ∀ {b : Addr} {m : Str → Option Value}, s1.heap.Ns b m → (hidT s1.heap H).Ns b m := by
      rintro b m ⟨o, es, ep, e, d, r⟩
      exact ⟨o, es, ep, hidT_get e (notD e d), d, r⟩
    have hKb : K.In (hidT s1.heap H) := fun b o e => hidT_get (KX b o e) (by
      cases q : H b with
      | none => rfl
      | some u =>
        obtain ⟨rfl, _⟩ := hH b u q
        rw [hK u q] at e
        cases e)
    obtain ⟨mc, l1, l2⟩ := hlim
    have e0 : Env0 P w K mg (hidT s1.heap H) callerA [] s1 H := ⟨rfl, ⟨hKb, nsK hns, ⟨mb, nsK hb, hbb⟩, mc, nsK l1, l2⟩, fun b o e => of_hidT e, Nat.le_of_eq (hidT_size _ _), trivial, fun b z => absurd (show b ∈ ([] : List Addr) from z) (by simp), hok, .of_eq hg⟩
    obtain ⟨S', hS'⟩ := hp
    have post : Post K cm [] (fun _ _ _ => False) (RE K [] fun v _ => v = .bl true) (mf [.fz (ns.map D.int)] []) [] H := by
      rw [hS']
      intro al' H' e w' v rv
      cases rv
      rfl
    refine codeAny_mono ((F _ hKb (nsK hns)).run callerA [] s1 H ⟨[.ref a], []⟩ [.ref a] [.ref a] _ _ [] [] [] [.fz (ns.map D.int)] hr rfl e0 (hbind s1 (.ref a)) (.cons rfl .nil) wd_nil (.cons hrep .nil) post) fun r s' h => ?_
    cases r with
    | error e =>
      obtain ⟨_, _, _, _, _, _, _, _, _, _, _, _, z⟩ := h
      exact z.elim
    | ok fl =>
      cases fl with
      | next => exact False.elim h
      | brk => exact False.elim h
      | cont => exact False.elim h
      | ret u =>
        obtain ⟨v, H', os, bare, un, hok', r', rfl⟩ := h
        obtain rfl : u = Value.bool true := r'
        refine ⟨rfl, OldK.of_keep fun b o e => ?_, os, bare⟩
        cases q : H b with
        | none => exact un.keep b o e q (fun z => absurd (show b ∈ ([] : List Addr) from z) (by simp)) (by simp)
        | some u =>
          obtain ⟨rfl, rfl⟩ := hH b u q
          obtain ⟨e2, _⟩ := hok' b _ (un.frzs b _ _ q)
          rw [ha] at e
          cases e
          exact e2
  cases hk : K.lookup a with
  | some o =>
    have e := KX a o hk
    rw [ha] at e
    cases e
    have hS : ∀ H, SqL K H a (ns.map V.int) := fun H => .inr ⟨_, vs.toArray, _, hk, rfl, rfl, rfl, by rw [List.size_toArray, lenV]; exact hl, by simpa using rv⟩
    exact main (fun _ => none) (fun b u z => nomatch z) (fun o z => nomatch z) (.fzK hk rfl hS (reps_ints ns))
  | none =>
    refine main (fun b => if b = a then some (.frz { cls := .type "list", data := .seq vs.toArray } (.lst (ns.map V.int))) else none) (fun b u z => ?_) (fun _ _ => hk) (.fz (if_pos rfl) (by simp) (reps_ints ns))
    by_cases hb : b = a
    · subst hb
      exact ⟨rfl, (Option.some.inj ((if_pos rfl).symm.trans z)).symm⟩
    · exact nomatch ((if_neg hb).symm.trans z)

/-- the goal that the head leaves, from the law's function -/
theorem walk_ofD {l : PySem.W.OpenLaw} {n k : Nat} {q : Program} {loose : List Str} {XP : (Str → Option Value) → Heap → Prop} {YP : World → Heap → Prop} {d : DefRec} {K : Params → PySem.W.Frag} {cm : World → (Str → Option Value) → CM} {mf : World → (Str → Option Value) → List D → DS → Ou D} {x : Str}
    (hn : l.most = some n) (hn2 : n ≤ sizeLine) (hdf : d.params.defaults = []) (hr : Room k callerA)
    (hY : ∀ (w : World) (h : Heap), YP w h → (K w.params).In h)
    (F : ∀ (w : World) (mg : Str → Option Value) (fa : Addr) (h : Heap), (K w.params).In h → h.Ns mainGlobals mg → mg d.name = some (.ref fa) →
      ∃ fd : FuncData, (∀ (s : Shared) (u : Value), BindsTo s fd ⟨[u], []⟩ [(x, u)]) ∧
        ∀ base : Heap, (K w.params).In base → base.Ns mainGlobals mg → FnG l.prog w (K w.params) mg base (cm w mg) k fa fd [x] (mf w mg))
    (hlaw : ∀ (w : World) (mg : Str → Option Value) (ns : List Int), ns.length ≤ n → ∃ S', mf w mg [.fz (ns.map D.int)] [] = .ok (.bl true) S') :
    PySem.W.WalkO q loose XP YP l.row.toRowW d [] (fun f vs => PySem.call f vs) := by
  refine Att.attach_call hn hdf fun w s₀ s1 mg mb fa o pm cd doc a vs ns G Y ho hd hcd hmg hobj hints hlen hg => ?_
  have KX := hY w _ Y
  obtain ⟨fd, hb, hF⟩ := F w mg fa _ KX G.T.g hmg
  exact law_callD KX G.T.g G.T.b G.T.builtins G.T.nolimit hg hobj hints (Nat.le_trans hlen hn2) hr hF hb (hlaw w mg ns hlen)
end DL

namespace DL
open PySem PySem.Spec PyProof.Rows L2

theorem Ctx.nox {X : Cx} {W : WX} {k : Nat} (C : Ctx X W k) : Ctx X noX k := ⟨takes0, C.gd, C.rm, C.calm, C.nd, C.po⟩

/-! constants and defs of the module -/
structure CAt (K : PySem.W.Frag) (mg : Str → Option Value) (x : Str) (d : D) : Prop where
  ex : ∃ v u, mg x = some u ∧ RelV v u ∧ ∀ xl al H, Rep K xl al H d v
theorem CAt.int {K : PySem.W.Frag} {mg : Str → Option Value} {x : Str} {i : Int} {t : Tok} (h : mg x = some (.int i t)) : CAt K mg x (.int i) := ⟨.int i, _, h, ⟨_, rfl⟩, fun _ _ _ => .int i⟩
theorem CAt.str {K : PySem.W.Frag} {mg : Str → Option Value} {x : Str} {i : Str} {t : Tok} (h : mg x = some (.str i t)) : CAt K mg x (.str i) := ⟨.str i, _, h, ⟨_, rfl⟩, fun _ _ _ => .str i⟩
theorem CAt.tup {K : PySem.W.Frag} {mg : Str → Option Value} {x : Str} {a : Addr} {co : Option Addr} {ci : List Value} {cn : Nat} {cs : Array (Option Value)} {vs : List V} {ds : List D} (h : mg x = some (.ref a))
    (kl : K.lookup a = some ⟨.type "tuple", co, .seq ci.toArray cn, cs⟩) (kv : Vals vs ci) (r : ∀ {xl al H}, Reps K xl al H ds vs) (hl : vs.length ≤ sizeLine := by decide) : CAt K mg x (.tup ds) :=
  ⟨.ref a, _, h, rfl, fun xl al H => .tup (.inr ⟨_, ci.toArray, cn, kl, rfl, rfl, by rw [List.size_toArray, ← kv.length]; exact hl, by simpa using kv⟩) r⟩
theorem e_const {X : Cx} {cm : CM} {W : WX} {x : Str} {d : D} {pos : Pos} (hg : Gl X x) (h : CAt X.K X.mg x d) (hd : (x == ("__debug__" : Str)) = false := by decide) : EOk X cm W (.Name x pos) (mC d) := by
  obtain ⟨v, u, h1, h2, h3⟩ := h.ex
  exact e_glob hg h1 h2 h3 hd
structure DAt (K : PySem.W.Frag) (mg : Str → Option Value) (x name : Str) (st : Stmt) (ps : List Str) : Prop where of ::
  ex : ∃ f fd, mg x = some (.ref f) ∧ PySem.W.keepIn K (.ref f) = true ∧ Fun K name name st f fd ∧ ∀ us : List Value, us.length = ps.length → bindArgs fd ⟨us, []⟩ = pure (ps.zip us)
theorem DAt.mk {K : PySem.W.Frag} {mg : Str → Option Value} {x name : Str} {st : Stmt} {ps : List Str} {f : Addr} {fd : FuncData} (h : mg x = some (.ref f)) (k : PySem.W.keepIn K (.ref f) = true) (F : Fun K name name st f fd)
    (hb : ∀ (kV doc pm : Value) (an : Option Addr) (cdv ct : Value) (us : List Value), us.length = ps.length → bindArgs (PySem.W.fnOf name name (defArgs st) (defBody st) (defScope st) .none kV doc pm an cdv ct) ⟨us, []⟩ = pure (ps.zip us)) : DAt K mg x name st ps := by
  refine ⟨f, fd, h, k, F, ?_⟩
  obtain ⟨oc, od, kV, doc, pm, an, cdv, ct, osl, rfl, lk, hcd⟩ := F.ex
  exact hb kV doc pm an cdv ct
section
variable {P : Program} {w : World} {K : PySem.W.Frag} {mg : Str → Option Value} {base : Heap} {cm : CM} {x name : Str} {st : Stmt} {ps N : List Str} {k : Nat} {mb : MS}
theorem DAt.okM (G : DAt K mg x name st ps) (Sc : FnScope N ps (defScope st))
    (body : ∀ (f : Addr) (cdv : Value) (A : Around) (outer : List Env) (s : Shared) (H : Hp) (E : XK), Ctx (cxOf (L2.CX P w) P w K mg base N name (defScope st) f cdv A outer s H E) (fun c d _ H => E c d H) k →
      SsOk (cxOf (L2.CX P w) P w K mg base N name (defScope st) f cdv A outer s H E) cm (fun c d _ H => E c d H) (defBody st) mb) : FnC P w K mg base cm (k + 1) x (defM ps.length N.length mb) := by
  obtain ⟨f, fd, h1, h2, F, hb⟩ := G.ex
  obtain ⟨oc, od, kV, doc, pm, an, cdv, ct, osl, rfl, lk, hcd⟩ := F.ex
  exact ⟨f, _, ps, h1, h2, .all hb, fnG_of F Sc defM_len defM_post (body f), ⟨_, _, _, lk⟩⟩
theorem DAt.okD (G : DAt K mg x name st ps) (Sc : FnScope N ps (defScope st))
    (body : ∀ (f : Addr) (cdv : Value) (A : Around) (outer : List Env) (s : Shared) (H : Hp) (E : XK), Ctx (cxOf (L2.CX P w) P w K mg base N name (defScope st) f cdv A outer s H E) (fun c d _ H => E c d H) k →
      SsOk (cxOf (L2.CX P w) P w K mg base N name (defScope st) f cdv A outer s H E) cm (fun c d _ H => E c d H) (defBody st) mb) : FnC P w K mg base cm (k + 1) x (defD ps.length N.length mb) := by
  obtain ⟨f, fd, h1, h2, F, hb⟩ := G.ex
  obtain ⟨oc, od, kV, doc, pm, an, cdv, ct, osl, rfl, lk, hcd⟩ := F.ex
  exact ⟨f, _, ps, h1, h2, .all hb, fnG_of F Sc defD_len defD_post (body f), ⟨_, _, _, lk⟩⟩
/-- the law's own function, for walk_ofD -/
def LawF (P : Program) (w : World) (K : PySem.W.Frag) (mg : Str → Option Value) (cm : CM) (k : Nat) (fa : Addr) (y : Str) (mf : List D → DS → Ou D) : Prop :=
  ∃ fd : FuncData, (∀ (s : Shared) (u : Value), BindsTo s fd ⟨[u], []⟩ [(y, u)]) ∧ ∀ base : Heap, K.In base → base.Ns mainGlobals mg → FnG P w K mg base cm k fa fd [y] mf
theorem DAt.lawM {y : Str} {fa : Addr} (G : DAt K mg x name st [y]) (Sc : FnScope N [y] (defScope st))
    (body : ∀ (base : Heap) (f : Addr) (cdv : Value) (A : Around) (outer : List Env) (s : Shared) (H : Hp) (E : XK), Ctx (cxOf (L2.CX P w) P w K mg base N name (defScope st) f cdv A outer s H E) (fun c d _ H => E c d H) k →
      SsOk (cxOf (L2.CX P w) P w K mg base N name (defScope st) f cdv A outer s H E) cm (fun c d _ H => E c d H) (defBody st) mb) (hm : mg x = some (.ref fa)) : LawF P w K mg cm (k + 1) fa y (defM [y].length N.length mb) := by
  obtain ⟨f, fd, h1, h2, F, hb⟩ := G.ex
  rw [hm] at h1; cases h1
  obtain ⟨oc, od, kV, doc, pm, an, cdv, ct, osl, rfl, lk, hcd⟩ := F.ex
  exact ⟨_, fun s u => .of_eq (hb [u] rfl), fun base hK hN => fnG_of F Sc defM_len defM_post (body base fa)⟩
theorem DAt.lawD {y : Str} {fa : Addr} (G : DAt K mg x name st [y]) (Sc : FnScope N [y] (defScope st))
    (body : ∀ (base : Heap) (f : Addr) (cdv : Value) (A : Around) (outer : List Env) (s : Shared) (H : Hp) (E : XK), Ctx (cxOf (L2.CX P w) P w K mg base N name (defScope st) f cdv A outer s H E) (fun c d _ H => E c d H) k →
      SsOk (cxOf (L2.CX P w) P w K mg base N name (defScope st) f cdv A outer s H E) cm (fun c d _ H => E c d H) (defBody st) mb) (hm : mg x = some (.ref fa)) : LawF P w K mg cm (k + 1) fa y (defD [y].length N.length mb) := by
  obtain ⟨f, fd, h1, h2, F, hb⟩ := G.ex
  rw [hm] at h1; cases h1
  obtain ⟨oc, od, kV, doc, pm, an, cdv, ct, osl, rfl, lk, hcd⟩ := F.ex
  exact ⟨_, fun s u => .of_eq (hb [u] rfl), fun base hK hN => fnG_of F Sc defD_len defD_post (body base fa)⟩
end

/-! in, not in -/
def inD (x y : D) : Option Bool := match toPy x, toPy y with
  | some d, some (.list ds) => if SeqAt.shaped d = true ∧ SeqAt.shaped (.list ds) = true then some (ds.any fun z => PyData.eqv z d) else none
  | some d, some (.tuple ds) => if SeqAt.shaped d = true ∧ SeqAt.shaped (.list ds) = true then some (ds.any fun z => PyData.eqv z d) else none
  | _, _ => none
def inO (x y : D) (S : DS) : Ou D := match inD x y with
  | some b => .ok (.bl b) S
  | none => .no
def ninO (x y : D) (S : DS) : Ou D := match inD x y with
  | some b => .ok (.bl (!b)) S
  | none => .no
section
variable {X : Cx} {cm : CM}
theorem room_in1 {d : PyData} {ds : List PyData} (sd : SeqAt.shaped d = true) (hu : X.A.units + 65 < cLine) : X.A.units + 1 + min (PyData.depthAll ds) d.depth < cLine := room_in_shaped sd hu
theorem op_inT (neg : Bool) (hu : X.A.units + 65 < cLine) : OpR X (compareOp (if neg then .NotIn else .In)) (fun x y H Q => ∃ d ds, Dp X.K H x d ∧ (Dp X.K H y (.list ds) ∨ Dp X.K H y (.tuple ds)) ∧ SeqAt.shaped d = true ∧ SeqAt.shaped (.list ds) = true ∧ Q (.bl (if neg then !(ds.any fun z => PyData.eqv z d) else ds.any fun z => PyData.eqv z d)) H) := by
  intro pins s σ H x y v u Q I rx ry h
  obtain ⟨d, ds, hd, he, sd, se, q⟩ := h
  obtain ⟨as, r1⟩ := Dp.reads I d x v hd rx
  rcases he with he | he
  · obtain ⟨bs, r2⟩ := Dp.reads I (.list ds) y u he ry
    cases neg with
    | false => exact SeqAt.in_list_reads r2 r1 (SeqAt.canLay_of_shaped se) (SeqAt.canLay_of_shaped sd) (room_in_shaped sd hu) ⟨.bl _, H, I, rfl, q⟩
    | true => exact SeqAt.notIn_list_reads r2 r1 (SeqAt.canLay_of_shaped se) (SeqAt.canLay_of_shaped sd) (room_in_shaped sd hu) ⟨.bl _, H, I, rfl, q⟩
  · obtain ⟨bs, r2⟩ := Dp.reads I (.tuple ds) y u he ry
    cases neg with
    | false => exact SeqAt.in_tuple_reads r2 r1 (SeqAt.canLay_of_shaped se) (SeqAt.canLay_of_shaped sd) (room_in_shaped sd hu) ⟨.bl _, H, I, rfl, q⟩
    | true => exact SeqAt.notIn_tuple_reads r2 r1 (SeqAt.canLay_of_shaped se) (SeqAt.canLay_of_shaped sd) (room_in_shaped sd hu) ⟨.bl _, H, I, rfl, q⟩
theorem inD_rep {K : PySem.W.Frag} {xl al : List Addr} {H : Hp} {x y : D} {v u : V} {b : Bool} (h : inD x y = some b) (rv : Rep K xl al H x v) (ru : Rep K xl al H y u) :
    ∃ d ds, Dp K H v d ∧ (Dp K H u (.list ds) ∨ Dp K H u (.tuple ds)) ∧ SeqAt.shaped d = true ∧ SeqAt.shaped (.list ds) = true ∧ b = ds.any fun z => PyData.eqv z d := by
  unfold inD at h
  split at h
  · rename_i d ds e1 e2
    split at h
    · rename_i hs
      cases h
      exact ⟨d, ds, rv.dp e1, .inl (ru.dp e2), hs.1, hs.2, rfl⟩
    · cases h
  · rename_i d ds e1 e2
    split at h
    · rename_i hs
      cases h
      exact ⟨d, ds, rv.dp e1, .inr (ru.dp e2), hs.1, hs.2, rfl⟩
    · cases h
  · cases h
theorem o_in (hu : X.A.units + 65 < cLine) : OOk X cm (compareOp .In) inO := by
  refine ⟨_, op_inT false hu, fun xl al H S x y v u Q W0 w rv ru p => ?_⟩
  unfold inO at p
  split at p
  · rename_i b e
    obtain ⟨d, ds, h1, h2, h3, h4, rfl⟩ := inD_rep e rv ru
    exact ⟨d, ds, h1, h2, h3, h4, p.here w _ (.bl _)⟩
  · exact p.elim
theorem o_nin (hu : X.A.units + 65 < cLine) : OOk X cm (compareOp .NotIn) ninO := by
  refine ⟨_, op_inT true hu, fun xl al H S x y v u Q W0 w rv ru p => ?_⟩
  unfold ninO at p
  split at p
  · rename_i b e
    obtain ⟨d, ds, h1, h2, h3, h4, rfl⟩ := inD_rep e rv ru
    exact ⟨d, ds, h1, h2, h3, h4, p.here w _ (.bl _)⟩
  · exact p.elim
end

/-! a list made to be changed, from another -/
def listR (xs : List D) (S : DS) : Ou D := match xs with
  | [.tup ys] => .ok (.ref S.length) (S ++ [.lst ys])
  | [.vl ys] => .ok (.ref S.length) (S ++ [.lst ys])
  | [.fz ys] => .ok (.ref S.length) (S ++ [.lst ys])
  | [.ref p] => match S[p]? with
    | some (DO.lst ys) => .ok (.ref S.length) (S ++ [.lst ys])
    | none => .no
  | _ => .no
theorem c_listR {X : Cx} {cm : CM} : COk X cm (.type "list") listR := by
  refine ⟨_, call_list_of, fun xl al H S xs vs Q W0 w rs p => ?_⟩
  unfold listR at p
  split at p
  · obtain ⟨v, rfl, rv⟩ := reps1 rs
    obtain ⟨a, us, rfl, ha, r1⟩ := rep_tup rv
    exact ⟨a, us, rfl, .inr ha, fun q hq => p _ _ (ext_ref w hq) (w.addRef hq r1) _ (Rep.newRef' w)⟩
  · obtain ⟨v, rfl, rv⟩ := reps1 rs
    obtain ⟨a, us, rfl, ha, na, nxa, r1⟩ := rep_ref_lst rv
    exact ⟨a, us, rfl, .inl (SqL.of ha), fun q hq => p _ _ (ext_ref w hq) (w.addRef hq r1) _ (Rep.newRef' w)⟩
  · obtain ⟨v, rfl, rv⟩ := reps1 rs
    cases rv with
    | fz h n r => exact ⟨_, _, rfl, .inl (.inl (.inr ⟨_, h⟩)), fun q hq => p _ _ (ext_ref w hq) (w.addRef hq r) _ (Rep.newRef' w)⟩
    | fzK k c h r => exact ⟨_, _, rfl, .inl (h H), fun q hq => p _ _ (ext_ref w hq) (w.addRef hq r) _ (Rep.newRef' w)⟩
  · obtain ⟨v, rfl, rv⟩ := reps1 rs
    split at p
    · rename_i ys e
      cases rv with
      | ref h =>
        obtain ⟨a, us, h1, h2, h3⟩ := w.list e
        rw [h] at h1; cases h1
        exact ⟨_, _, rfl, .inl (SqL.of h2), fun q hq => p _ _ (ext_ref w hq) (w.addRef hq h3) _ (Rep.newRef' w)⟩
    · exact p.elim
  · exact p.elim

/-! x += y, x -= y -/
def iaddO (x y : D) (S : DS) : Ou D := match x, y with
  | .int i, .int j => .ok (.int (i + j)) S
  | .str a, .str b => if a.length + b.length ≤ sizeLine then .ok (.str (a ++ b)) S else .no
  | _, _ => .no
section
variable {X : Cx} {cm : CM}
theorem o_iadd : OOk X cm (inplaceOp .Add) iaddO := by
  refine ⟨_, iop_add.or iop_add_str, fun xl al H S x y v u Q W0 w rv ru p => ?_⟩
  unfold iaddO at p
  split at p
  · cases rv; cases ru
    exact .inl ⟨_, _, rfl, rfl, p.here w _ (.int _)⟩
  · split at p
    · rename_i hl
      cases rv; cases ru
      exact .inr ⟨_, _, rfl, rfl, hl, p.here w _ (.str _)⟩
    · exact p.elim
  · exact p.elim
theorem o_isub : OOk X cm (inplaceOp .Sub) subO := by
  refine ⟨_, iop_sub, fun xl al H S x y v u Q W0 w rv ru p => ?_⟩
  unfold subO at p
  split at p
  · cases rv; cases ru
    exact ⟨_, _, rfl, rfl, p.here w _ (.int _)⟩
  · exact p.elim
end

/-! truth -/
def truD (S : DS) : D → Option Bool
  | .non => some false
  | .bl b => some b
  | .int i => some (i != 0)
  | .str y => if y.length ≤ sizeLine then some ((y.length : Int) != 0) else none
  | .tup xs => some (!xs.isEmpty)
  | .vl xs => some (!xs.isEmpty)
  | .fz xs => some (!xs.isEmpty)
  | .ref p => match S[p]? with
    | some (DO.lst xs) => some (!xs.isEmpty)
    | none => none
  | .dct => none
def mTr (a : ME) : MT := fun env S => (a env S).bind fun d S1 => match truD S1 d with
  | some b => .ok b S1
  | none => .no
theorem Reps.isE {K : PySem.W.Frag} {xl al : List Addr} {H : Hp} {ds : List D} {vs : List V} (r : Reps K xl al H ds vs) : (!vs.isEmpty) = !ds.isEmpty := by cases r <;> rfl
theorem t_tru {X : Cx} {cm : CM} {W : WX} {e : Expr} {ma : ME} (h : EOk X cm W e ma) (he : ∀ whole, isTrue e X.env whole = (do let v ← whole; standAt e.pos; holding [v] (truthy v)) := by intro _; rfl) : TOk X cm W e (mTr ma) := by
  obtain ⟨t, p, d⟩ := h
  refine ⟨_, pt_truth p he, fun xl al σ H S env Q w r q => ?_⟩
  refine d xl al σ H S env _ w r (q.bind.imp fun x S1 al1 H1 e1 w1 p1 v rv => ?_)
  split at p1
  · rename_i b hb
    refine ⟨b, ?_, p1.here w1⟩
    unfold truD at hb
    split at hb
    · cases rv; cases hb; rfl
    · cases rv; cases hb; rfl
    · cases rv; cases hb; rfl
    · split at hb
      · rename_i hl
        cases rv; cases hb
        exact ⟨hl, rfl⟩
      · cases hb
    · obtain ⟨a, us, rfl, ha, r1⟩ := rep_tup rv
      cases hb
      exact .inr (.inl ⟨us, ha, r1.isE.symm⟩)
    · obtain ⟨a, us, rfl, ha, na, nxa, r1⟩ := rep_ref_lst rv
      cases hb
      exact .inl ⟨us, SqL.of ha, r1.isE.symm⟩
    · cases rv with
      | fz h n r => cases hb; exact .inl ⟨_, .inl (.inr ⟨_, h⟩), r.isE.symm⟩
      | fzK k c h r => cases hb; exact .inl ⟨_, h H1, r.isE.symm⟩
    · split at hb
      · rename_i xs e
        cases hb
        cases rv with
        | ref h =>
          obtain ⟨a, us, h1, h2, h3⟩ := w1.list e
          rw [h] at h1; cases h1
          exact .inl ⟨us, SqL.of h2, h3.isE.symm⟩
      · cases hb
    · cases hb
  · exact p1.elim

/-! a, b, c = x, y, z -/
def mPar3 (i j l : Nat) (a : MA) : MS := fun env S => lift (a env S) env fun ds S1 => match ds with
  | [x, y, z] => .ok (.nx, ((env.set i (some x)).set j (some y)).set l (some z)) S1
  | _ => .no
theorem reps3 {K : PySem.W.Frag} {xl al : List Addr} {H : Hp} {d e f : D} {vs : List V} (r : Reps K xl al H [d, e, f] vs) : ∃ v u t, vs = [v, u, t] ∧ Rep K xl al H d v ∧ Rep K xl al H e u ∧ Rep K xl al H f t := by
  cases r with
  | cons h r =>
    obtain ⟨u, t, rfl, h2, h3⟩ := reps2 r
    exact ⟨_, _, _, rfl, h, h2, h3⟩
theorem s_par3 {X : Cx} {cm : CM} {W : WX} {i j l : Nat} {x y z : Str} {a b c : Expr} {px py pz pt pos : Pos} {kt k2 pt2} {mp : MA} (hc : X.calm = true) (hN : X.N.Nodup) (ha : AOk X cm W [a, b, c] mp)
    (hw : swappedStores [.Tuple [.Name x px, .Name y py, .Name z pz] kt pt] (.Tuple [a, b, c] k2 pt2) X.env = pure (some [x, y, z]))
    (hi : X.N[i]? = some x := by rfl) (hj : X.N[j]? = some y := by rfl) (hl : X.N[l]? = some z := by rfl) (hij : i ≠ j := by decide) (hil : i ≠ l := by decide) (hjl : j ≠ l := by decide)
    (hx : X.env.scope.names.lookup x = some .local := by rfl) (hy : X.env.scope.names.lookup y = some .local := by rfl) (hz : X.env.scope.names.lookup z = some .local := by rfl)
    (hs : swapsWithSole [.Tuple [.Name x px, .Name y py, .Name z pz] kt pt] (.Tuple [a, b, c] k2 pt2) pos.line X.env = pure false := by rfl) :
    SOk X cm W (.Assign [.Tuple [.Name x px, .Name y py, .Name z pz] kt pt] (.Tuple [a, b, c] k2 pt2) pos) (mPar3 i j l mp) := by
  obtain ⟨t, p, d⟩ := ha
  refine ⟨_, ps_par3 hc hN hi hj hl hij hil hjl hx hy hz p hw hs, fun xl al σ H S env D0 w r q => ?_⟩
  refine d xl al σ H S env _ w r ((q.lift r).imp fun xs S1 al1 H1 e1 w1 p1 vs rvs => ?_)
  split at p1
  · obtain ⟨v, u, s, rfl, rv, ru, rs⟩ := reps3 rvs
    exact ⟨v, u, s, rfl, p1.here w1 _ ((((r.mono e1).set rv i).set ru j).set rs l)⟩
  · exact p1.elim
end DL

namespace DL
open PySem PySem.Spec PyProof.Rows L2

/-! ### a zip as a value: its five objects, tracked until it is walked -/
def zH (H : Hp) (k1 k2 : Bool) (a b m : Nat) : Hp := fun (c : Nat) =>
  if c = m then some (.ext fun h => ItAt k1 h m a 0)
  else if c = m + 1 then some (.ext fun h => ItAt k2 h (m + 1) b 0)
  else if c = m + 2 then some (.ext fun h => IsTupOf2 h (m + 2) (.ref m) (.ref (m + 1)))
  else if c = m + 3 then some (.ext fun h => ∃ x y, IsTupOf2 h (m + 3) x y)
  else if c = m + 4 then some (.ext fun h => IsZip h (m + 4) (m + 2) (m + 3) .none)
  else H c
def zD (H : Hp) (m : Nat) : Hp := fun (c : Nat) => if m ≤ c ∧ c < m + 5 then none else H c
theorem zH_out {H : Hp} {k1 k2 : Bool} {a b m c : Nat} (h : ¬ (m ≤ c ∧ c < m + 5)) : zH H k1 k2 a b m c = H c := by
  unfold zH
  rw [if_neg (by omega), if_neg (by omega), if_neg (by omega), if_neg (by omega), if_neg (by omega)]
theorem zH_in {H : Hp} {k1 k2 : Bool} {a b m c : Nat} (h : m ≤ c ∧ c < m + 5) : ∃ φ, zH H k1 k2 a b m c = some (.ext φ) := by
  unfold zH
  split
  · exact ⟨_, rfl⟩
  split
  · exact ⟨_, rfl⟩
  split
  · exact ⟨_, rfl⟩
  split
  · exact ⟨_, rfl⟩
  split
  · exact ⟨_, rfl⟩
  · omega
theorem zD_out {H : Hp} {m c : Nat} (h : ¬ (m ≤ c ∧ c < m + 5)) : zD H m c = H c := if_neg h
theorem zD_in {H : Hp} {m c : Nat} (h : m ≤ c ∧ c < m + 5) : zD H m c = none := if_pos h
theorem zD_zH {H : Hp} {k1 k2 : Bool} {a b m : Nat} (h : ∀ c : Nat, m ≤ c ∧ c < m + 5 → H c = none) : zD (zH H k1 k2 a b m) m = H := by
  funext c
  by_cases hc : m ≤ c ∧ c < m + 5
  · rw [zD_in hc, h c hc]
  · rw [zD_out hc, zH_out hc]
theorem in_five {m c : Nat} (h : c = m + 4 ∨ c = m + 2 ∨ c = m + 3 ∨ c = m ∨ c = m + 1) : m ≤ c ∧ c < m + 5 := by omega
section
variable {X : Cx} {pins : List (Addr × Obj)} {σ : L2.St} {H : Hp} {s : Shared}
theorem zH_at {k1 k2 : Bool} {a b m : Nat} : zH H k1 k2 a b m m = some (.ext fun h => ItAt k1 h m a 0) ∧ zH H k1 k2 a b m (m + 1) = some (.ext fun h => ItAt k2 h (m + 1) b 0) ∧
    zH H k1 k2 a b m (m + 2) = some (.ext fun h => IsTupOf2 h (m + 2) (.ref m) (.ref (m + 1))) ∧ zH H k1 k2 a b m (m + 3) = some (.ext fun h => ∃ x y, IsTupOf2 h (m + 3) x y) ∧
    zH H k1 k2 a b m (m + 4) = some (.ext fun h => IsZip h (m + 4) (m + 2) (m + 3) .none) := by
  refine ⟨?_, ?_, ?_, ?_, ?_⟩ <;> unfold zH
  · rw [if_pos rfl]
  · rw [if_neg (by omega), if_pos rfl]
  · rw [if_neg (by omega), if_neg (by omega), if_pos rfl]
  · rw [if_neg (by omega), if_neg (by omega), if_neg (by omega), if_pos rfl]
  · rw [if_neg (by omega), if_neg (by omega), if_neg (by omega), if_neg (by omega), if_pos rfl]
theorem tupOf2_keep {h1 h2 : Heap} {T : Addr} {x y : Value} (q : IsTupOf2 h1 T x y) (k : ∀ o, h1.get? T = some o → h2.get? T = some o) : IsTupOf2 h2 T x y := k _ q
theorem inv_zlay {h' : Heap} {t' : Nat} {k1 k2 : Bool} {a b m : Nat} (I : Inv X pins σ H s) (k : ∀ c u, s.heap.get? c = some u → h'.get? c = some u) (hm : s.heap.objs.size ≤ m)
    (h1 : ItAt k1 h' m a 0) (h2 : ItAt k2 h' (m + 1) b 0) (h3 : IsTupOf2 h' (m + 2) (.ref m) (.ref (m + 1))) (h4 : ∃ x y, IsTupOf2 h' (m + 3) x y) (h5 : IsZip h' (m + 4) (m + 2) (m + 3) .none) :
    Inv X pins σ (zH H k1 k2 a b m) { s with heap := h', toks := t' } := by
  have old : ∀ (c : Nat) u, H c = some u → ¬ (m ≤ c ∧ c < m + 5) := fun c u e z => by
    have : (c : Nat) < s.heap.objs.size := (I.hok c u e).lt
    omega
  have oldh : ∀ (c : Nat) o, s.heap.get? c = some o → ¬ (m ≤ c ∧ c < m + 5) := fun c o e z => by
    have : (c : Nat) < s.heap.objs.size := Heap.lt_size e
    omega
  refine I.un ⟨fun c o e _ _ _ => k c o e, fun c o e _ _ _ => ⟨o.slots, k c o e⟩, fun c o e n _ => by rw [zH_out (oldh c o e)]; exact n, fun c o e _ => ⟨o, k c o e⟩, fun c xs e => by rw [zH_out (old c _ e)]; exact e,
    fun c o u e => by rw [zH_out (old c _ e)]; exact e, fun c ps e => ⟨#[], by rw [zH_out (old c _ e), e]; simp⟩⟩ ?_
  intro (c : Nat) u e
  by_cases hc : m ≤ c ∧ c < m + 5
  · obtain ⟨z0, z1, z2, z3, z4⟩ := zH_at (H := H) (k1 := k1) (k2 := k2) (a := a) (b := b) (m := m)
    rcases (show c = m ∨ c = m + 1 ∨ c = m + 2 ∨ c = m + 3 ∨ c = m + 4 by omega) with rfl | rfl | rfl | rfl | rfl
    · rw [z0] at e; cases e
      obtain ⟨o, q, _⟩ := h1.live
      exact ⟨h1, ⟨o, q⟩, fun g g' x e => x.keep e⟩
    · rw [z1] at e; cases e
      obtain ⟨o, q, _⟩ := h2.live
      exact ⟨h2, ⟨o, q⟩, fun g g' x e => x.keep e⟩
    · rw [z2] at e; cases e
      exact ⟨h3, ⟨_, h3⟩, fun g g' x e => tupOf2_keep x e⟩
    · rw [z3] at e; cases e
      obtain ⟨x, y, q⟩ := h4
      exact ⟨⟨x, y, q⟩, ⟨_, q⟩, fun g g' ⟨x, y, q⟩ e => ⟨x, y, tupOf2_keep q e⟩⟩
    · rw [z4] at e; cases e
      exact ⟨h5, ⟨_, h5⟩, fun g g' x e => e _ x⟩
  · rw [zH_out hc] at e
    refine (I.hok c u e).stay (fun b v _ q => k b v q) (fun b q => ?_) fun b xs q => ?_
    · rw [zH_out (old b _ q)]; exact q
    · rw [zH_out (old b _ q)]; exact q
theorem inv_zdrop {m : Nat} (I : Inv X pins σ H s) (h : ∀ c : Nat, m ≤ c ∧ c < m + 5 → ∃ φ, H c = some (.ext φ)) : Inv X pins σ (zD H m) s := by
  have other : ∀ (b : Nat) u, H b = some u → (∀ ψ, u ≠ .ext ψ) → zD H m b = some u := fun b u e n => by
    rw [zD_out fun z => by
      obtain ⟨φ, q⟩ := h b z
      rw [q] at e
      exact n φ (Option.some.inj e).symm]
    exact e
  have non : ∀ (b : Nat), H b = Option.none → zD H m b = Option.none := fun b e => by
    by_cases hb : m ≤ b ∧ b < m + 5
    · exact zD_in hb
    · rw [zD_out hb]; exact e
  have hok : HOk X.prog X.w (zD H m) s.heap := fun b u e => by
    have hb : ¬ (m ≤ (b : Nat) ∧ (b : Nat) < m + 5) := fun z => by
      rw [zD_in z] at e
      cases e
    rw [zD_out hb] at e
    exact (I.hok b u e).stay (fun _ _ _ z => z) (fun c z => other c _ z fun _ w => (nomatch w)) fun c xs z => other c _ z fun _ w => (nomatch w)
  have u : Un X.fs [] H (zD H m) s.heap s.heap := ⟨fun _ _ e _ _ _ => e, fun _ o e _ _ _ => ⟨o.slots, e⟩, fun b _ _ z _ => non b z, fun _ o e _ => ⟨o, e⟩, fun b xs z => other b _ z fun _ w => (nomatch w),
    fun b o x z => other b _ z fun _ w => (nomatch w), fun b ps z => ⟨#[], by rw [other b _ z fun _ w => (nomatch w)]; simp⟩⟩
  exact I.un (t' := s.toks) u hok
theorem inv_zfp {m c : Nat} (I : Inv X pins σ H s) (hc : m ≤ c ∧ c < m + 5) {u : HO} (h : H c = some u) (hn : X.s_0.heap.objs.size ≤ m) : FpOk X pins (zD H m) c := by
  refine ⟨zD_in hc, fun z => ?_, fun z => ?_, .inr (Nat.le_trans hn hc.1), fun x q e z => ?_, fun p hp z => ?_⟩
  · rw [z, I.free] at h
    cases h
  · obtain ⟨_, o, ho, _⟩ := I.ok.funs.mem z
    exact absurd (Nat.lt_of_lt_of_le (Heap.lt_size ho) (Nat.le_trans hn hc.1)) (Nat.lt_irrefl _)
  · have q := I.freeC x q e
    rw [z, h] at q
    cases q
  · have q := (I.pin p hp).2.1
    rw [z, h] at q
    cases q
end
/-- zip(e, e2), told as a value -/
def tZipV (K : PySem.W.Frag) (n : Nat) (ta : TA) : TE := fun σ H Q => ta σ H fun vs H1 => ∃ a b k1 k2, vs = [.ref a, .ref b] ∧ (∃ us, SqV K k1 H1 a us) ∧ (∃ us, SqV K k2 H1 b us) ∧
  ∀ m : Nat, (∀ c : Nat, m ≤ c ∧ c < m + 5 → H1 c = none) → n ≤ m → a < m → b < m → Q (.ref (m + 4)) (zH H1 k1 k2 a b m)
theorem pe_zipV {X : Cx} {e e2 : Expr} {ta : TA} {p pos : Pos} (hg : Gl X "zip") (hm : X.mg "zip" = none) (ha : PA X [e, e2] ta)
    (hs : starEach [e, e2] X.env = (false, eval e X.env) :: starEach [e2] X.env := by rfl) (hpl : (backTo pos (starEach [e2] X.env)).any (·.1) = false := by rfl) :
    PE X (.Call (.Name "zip" p) [e, e2] [] pos) (tZipV X.K X.s_0.heap.objs.size ta) := by
  refine ⟨fun pins s σ H Q I h => wpAny_Call_Name_kw (ld_blt I hg hm PyProof.Rows.boot_zip (PyProof.Rows.callWith_type1 (thn (ha.run pos pins s σ H _ I h) fun us s1 ⟨vs, H1, I1, r1, a, b, k1, k2, ex, ⟨xs, hqx⟩, ⟨ys, hqy⟩, q⟩ => ?_) hs hpl))⟩
  subst ex
  cases r1 with
  | cons r rr =>
    cases rr with
    | cons r' rr =>
      cases rr
      cases r
      cases r'
      obtain ⟨its, rv, hS1⟩ := src I1 hqx
      obtain ⟨its2, rv2, hS2⟩ := src I1 hqy
      refine zip_begins2 (beginsK k1 a its.toArray) (beginsK k2 b its2.toArray) hS1 hS2 fun h' hz hTI hTO g1 g2 hsz hk => ?_
      refine ⟨.ref (s1.heap.objs.size + 4), zH H1 k1 k2 a b s1.heap.objs.size, inv_zlay (t' := s1.toks) I1 hk (Nat.le_refl _) (itO_at g1) (itO_at g2) hTI ⟨_, _, hTO⟩ hz, rfl, q _ (fun c hc => I1.hok.fresh hc.1) I1.sz hS1.lt hS2.lt⟩
/-- a name that holds such a zip, walked -/
def iZipV (K : PySem.W.Frag) (n : Nat) (k : Nat) : TI := fun σ H R => ∃ (a b : Nat) (k1 k2 : Bool) (m : Nat) (H0 : Hp), σ[k]? = some (some (.ref (m + 4))) ∧ H = zH H0 k1 k2 a b m ∧ (∀ c : Nat, m ≤ c ∧ c < m + 5 → H0 c = none) ∧ n ≤ m ∧ a < m ∧ b < m ∧ R (ItZ K k1 k2 a b) H0
theorem pi_zipV {X : Cx} {k : Nat} {x : Str} {p tpos : Pos} {elts : List Expr} {kk : Nat} (hN : X.N[k]? = some x) (hv : Vis X.env.scope x) (hd : (x == ("__debug__" : Str)) = false := by decide) (hcd : (x == ("__classdict__" : Str)) = false := by decide) :
    PI X (.Tuple elts kk tpos) (.Name x p) (iZipV X.K X.s_0.heap.objs.size k) := by
  refine ⟨fun pins s σ H R I h => ?_⟩
  obtain ⟨a, b, k1, k2, m, H0, hs, hH, hn, hm, ham, hbm, q⟩ := h
  refine thn ((pe_var (pos := p) (i := k) hN hv hd hcd).run pins s σ H (fun v H1 => v = .ref (m + 4) ∧ H1 = H) I ⟨.ref (m + 4), hs, rfl, rfl⟩) fun u s1 ⟨v, H1, I1, r1, ev, eH⟩ => ?_
  subst ev
  subst eH
  subst hH
  cases r1
  obtain ⟨z0, z1, z2, z3, z4⟩ := zH_at (H := H0) (k1 := k1) (k2 := k2) (a := a) (b := b) (m := m)
  have g0 := (I1.hok _ _ z0).1
  have g1 := (I1.hok _ _ z1).1
  have g2 := (I1.hok _ _ z2).1
  have g3 := (I1.hok _ _ z3).1
  have g4 := (I1.hok _ _ z4).1
  have I2 := inv_zdrop I1 fun c hc => zH_in hc
  rw [zD_zH hn] at I2
  refine wpAny_pyIter_zip g4 ?_
  refine ⟨m + 4, [m + 4, m + 2, m + 3, m, m + 1], _, _, H0, rfl, I2,
    turn_zipK (zip_sep2 (fp1 := [a]) (fp2 := [b]) (fun c hcm => by rw [List.mem_singleton.mp hcm]; exact ham) (fun c hcm => by rw [List.mem_singleton.mp hcm]; exact hbm)) (Nat.ne_of_lt ham) (Nat.ne_of_lt (Nat.lt_succ_of_lt hbm)),
    ⟨g4, g2, g3, g0, g1⟩, fun c hcm => ?_, q⟩
  have hc : m ≤ (c : Nat) ∧ (c : Nat) < m + 5 := in_five (by simpa using hcm)
  obtain ⟨φ, hφ⟩ := zH_in (H := H0) (k1 := k1) (k2 := k2) (a := a) (b := b) hc
  have := inv_zfp I1 hc hφ hm
  rw [zD_zH hn] at this
  exact this

/-! y = zip(e, e2); return tuple([elt for .. in y]) -/
noncomputable def mZipRet (i : Nat) (ma : MA) (mg : MG) (me : ME) (vs : List Nat) : MS := fun env S => lift (ma env S) env fun xs S1 => mRet (mL tupleO (maC (lcM (fun _ S => zipO xs S) mg mYes me vs finV) maN)) (env.set i none) S1
theorem EnvR.blur {K : PySem.W.Frag} {xl al : List Addr} {H : Hp} {env : DE} {σ : L2.St} (r : EnvR K xl al H env σ) (i : Nat) (v : Option V) : EnvR K xl al H (env.set i none) (σ.set i v) := by
  refine ⟨by rw [List.length_set, List.length_set, r.len], fun j d h => ?_⟩
  by_cases e : j = i
  · subst e
    by_cases hj : j < env.length
    · rw [List.getElem?_set_self hj] at h; cases h
    · rw [List.getElem?_eq_none (by rw [List.length_set]; omega)] at h; cases h
  · rw [List.getElem?_set_ne (Ne.symm e)] at h ⊢
    exact r.at' j d h
theorem zipO_ok {xs : List D} {S S' : DS} {it : Itm} (h : zipO xs S = .ok it S') : ∃ d e ys zs, xs = [d, e] ∧ asSeq d = some ys ∧ asSeq e = some zs ∧ it = ⟨zipD ys zs, none⟩ ∧ S' = S := by
  unfold zipO at h
  split at h
  · rename_i d e
    split at h
    · rename_i ys zs h1 h2
      cases h
      exact ⟨d, e, ys, zs, rfl, h1, h2, rfl, rfl⟩
    · cases h
  · cases h
theorem zipO_ex {xs : List D} {S S' : DS} {x : Exn} (h : zipO xs S = .ex x S') : False := by
  unfold zipO at h
  split at h
  · split at h <;> cases h
  · cases h
theorem ps_setL {X : Cx} {i : Nat} {x : Str} {e : Expr} {te : TE} {pos' pos : Pos} (hN : X.N.Nodup) (hi : X.N[i]? = some x) (hx : Loc X.env.scope x) (he : PE X e te) (hs : swapsWith e (some (.Name x pos')) pos.line X.env = pure false)
    (hf : X.fn x = true ∨ X.env.scope.names.lookup x = some .local) : PS X (.Assign [.Name x pos'] e pos) (fun D σ H => te σ H fun v H1 => i < σ.length → D.nx (σ.set i (some v)) H1) := by
  refine ⟨fun pins s σ H D I h => ?_⟩
  refine wpAny_Assign_Name (thn (he.run pins s σ H _ I h) fun v s1 ⟨y, H1, I1, r1, q1⟩ => ?_) hs
  exact store_ok I1 hN hi hx r1 (fun s2 I2 => ⟨_, H1, I2, q1 (by rw [I1.len]; exact (List.getElem?_eq_some_iff.mp hi).1)⟩) hf
theorem ss_zipRet {X : Cx} {cm : CM} {W : WX} {i : Nat} {y : Str} {py p pos spos p2 tp cpos rpos lpos tpos : Pos} {kk : Nat} {e e2 elt : Expr} {elts : List Expr} {scope : Scope} {own : List (Str × Nat)} {ma : MA} {mg : MG} {me : ME}
    (hc : X.calm = true) (hN : X.N.Nodup) (hz : Gl X "zip") (hzm : X.mg "zip" = none) (ht : Gl X "tuple") (htm : X.mg "tuple" = none) (ha : AOk X cm W [e, e2] ma) (ok : BlkOk X.N X.env.scope scope own)
    (hg : ∀ (s : Shared) (H : Hp) (C : Addr) (cl : List (Str × Addr)) (fp : List Addr), GAOk (X.blk s H scope (compEnvC scope cl C X.env) fp) cm (.Tuple elts kk tpos) mg (own.map (·.2)))
    (he : ∀ (s : Shared) (H : Hp) (C : Addr) (cl : List (Str × Addr)) (fp : List Addr), EOk (X.blk s H scope (compEnvC scope cl C X.env) fp) cm noX elt me)
    (hi : X.N[i]? = some y := by rfl) (hx : Loc X.env.scope y := by first | exact Or.inl rfl | exact Or.inr rfl) (hv : Vis X.env.scope y := by first | exact Or.inl rfl | exact Or.inr (Or.inl rfl) | exact Or.inr (Or.inr rfl))
    (hd : (y == ("__debug__" : Str)) = false := by decide) (hcd : (y == ("__classdict__" : Str)) = false := by decide)
    (hs : starEach [e, e2] X.env = (false, eval e X.env) :: starEach [e2] X.env := by rfl) (hpl : (backTo pos (starEach [e2] X.env)).any (·.1) = false := by rfl)
    (hsw : swapsWith (.Call (.Name "zip" p) [e, e2] [] pos) (some (.Name y py)) spos.line X.env = pure false := by rfl) (hf : X.fn y = true ∨ X.env.scope.names.lookup y = some .local := by first | exact .inl rfl | exact .inr rfl | assumption)
    (hfs : ∀ x, foldedSetIterable (.Name y p2) X.env x = pure x := by intro _; rfl) :
    SsOk X cm W [.Assign [.Name y py] (.Call (.Name "zip" p) [e, e2] [] pos) spos, .Return (some (.Call (.Name "tuple" tp) [.ListComp elt [⟨.Tuple elts kk tpos, .Name y p2, [], 0⟩] scope lpos] [] cpos)) rpos]
      (mZipRet i ma mg me (own.map (·.2))) := by
  obtain ⟨ta, pa, da⟩ := ha
  obtain ⟨rt, ct, dt⟩ := c_tuple (X := X) (cm := cm)
  let G := fun (s : Shared) (H : Hp) (C : Addr) (cl : List (Str × Addr)) (fp : List Addr) => (hg s H C cl fp).choose
  let E := fun (s : Shared) (H : Hp) (C : Addr) (cl : List (Str × Addr)) (fp : List Addr) => (he s H C cl fp).choose
  obtain ⟨tt, ptt, dtt⟩ : ∃ tt : TT, (∀ X : Cx, PTs X [] tt) ∧ DenT X.K cm noX tt mYes := ⟨_, fun X => pts_nil, fun xl al σ H S env Q w r p => Post.hereT w p⟩
  obtain ⟨gg, pg, dg⟩ : ∃ gg : TG, (∀ (s : Shared) (H : Hp) (C : Addr) (cl : List (Str × Addr)) (fp : List Addr), PG (X.blk s H scope (compEnvC scope cl C X.env) fp) (.Tuple elts kk tpos) gg) ∧ DenGA X.K cm gg mg (own.map (·.2)) :=
    ⟨fun v σ H' Q => ∀ s H C cl fp, G s H C cl fp v σ H' Q, fun s H C cl fp => ⟨fun pins s' σ H' v u Q I r h => (hg s H C cl fp).choose_spec.1.run pins s' σ H' v u Q I r (h s H C cl fp)⟩,
      fun xl al σ H S env d v Q w r rv p s H0 C cl fp => (hg s H0 C cl fp).choose_spec.2 xl al σ H S env d v Q w r rv p⟩
  obtain ⟨ee, pee, de⟩ : ∃ ee : TE, (∀ (s : Shared) (H : Hp) (C : Addr) (cl : List (Str × Addr)) (fp : List Addr), PE (X.blk s H scope (compEnvC scope cl C X.env) fp) elt ee) ∧ DenE X.K cm noX ee me :=
    ⟨fun σ H' Q => ∀ s H C cl fp, E s H C cl fp σ H' Q, fun s H C cl fp => ⟨fun pins s' σ H' Q I h => (he s H C cl fp).choose_spec.1.run pins s' σ H' Q I (h s H C cl fp)⟩,
      fun xl al σ H S env Q w r p s H0 C cl fp => (he s H0 C cl fp).choose_spec.2 xl al σ H S env Q w r p⟩
  refine ⟨_, pss_cons (ps_setL hN hi hx (pe_zipV hz hzm pa hs hpl) hsw hf) (pss_one (ps_ret (pe_callTy ct ht htm (by decide +kernel) (pa_cons (pe_lc hc hN (pi_zipV hi hv hd hcd) ok pg (fun _ _ _ _ _ => ptt _) pee hfs) pa_nil)))), fun xl al σ H S env D0 w r q => ?_⟩
  refine da xl al σ H S env _ w r ((q.lift r).imp fun xs S1 al1 H1 e1 w1 p1 vs rvs => ?_)
  have fact : ∃ d1 d2 ys zs, xs = [d1, d2] ∧ asSeq d1 = some ys ∧ asSeq d2 = some zs ∧ zipO xs S1 = .ok ⟨zipD ys zs, none⟩ S1 := by
    cases hzo : zipO xs S1 with
    | ok it S2 =>
      obtain ⟨d1, d2, ys, zs, rfl, h1, h2, rfl, rfl⟩ := zipO_ok hzo
      exact ⟨d1, d2, ys, zs, rfl, h1, h2, rfl⟩
    | ex x S2 => exact (zipO_ex hzo).elim
    | no =>
      exfalso
      unfold mRet mL maC lcM at p1
      simp only [hzo] at p1
      exact p1
  obtain ⟨d1, d2, ys, zs, rfl, h1, h2, hzo⟩ := fact
  obtain ⟨u1, u2, rfl, ru1, ru2⟩ := reps2 rvs
  obtain ⟨a, k1, us1, rfl, hS1, r1, l1⟩ := seq_later h1 ru1
  obtain ⟨b, k2, us2, rfl, hS2, r2, l2⟩ := seq_later h2 ru2
  refine ⟨a, b, k1, k2, rfl, ⟨us1, hS1⟩, ⟨us2, hS2⟩, fun m hn hm ham hbm hil => ?_⟩
  have r' : EnvR X.K xl al1 H1 (env.set i none) (σ.set i (some (.ref (m + 4)))) := (r.mono e1).blur i _
  refine ⟨a, b, k1, k2, m, H1, List.getElem?_set_self hil, rfl, hn, hm, ham, hbm, ?_⟩
  have p2 := (p1.lift (W := W) r').bind.bind
  show tLc (fun _ H R => R (ItZ X.K k1 k2 a b) H) gg tt ee (own.map (·.2)) (σ.set i (some (.ref (m + 4)))) H1 (fun x H1 => tNil (σ.set i (some (.ref (m + 4)))) H1 fun xs H2 => rt (x :: xs) H2 D0.rt)
  refine den_lcAt (W := W) (mi := fun _ S => zipO [d1, d2] S) w1 r' (fun R pR => ?_) dg dtt de finV_ok _ (p2.imp fun x S3 al3 H3 e3 w3 p3 v rv => ?_)
  · rw [hzo] at pR
    exact pR.here w1 _ (zip_yields r1 l1 r2 l2)
  · have p4 : Post X.K cm xl (fun c d H' => W c d (σ.set i (some (.ref (m + 4)))) H') (fun d S4 al4 H4 => Post X.K cm xl noW (RS X.K cm xl W D0) (.ok (.rt d, env.set i none) S4) al4 H4) (tupleO [x] S3) al3 H3 := (p3.bind.here w3).here w3
    refine dt xl al3 H3 S3 [x] [v] _ _ w3 (.cons rv .nil) (p4.imp fun z S5 al5 H5 e5 w5 p5 zv rz => ?_)
    exact p5.here w5 _ ((r'.mono e3).mono e5) zv rz
end DL

namespace DL
open PySem PySem.Spec PyProof.Rows L2

/-! ### list(zip(..)): the model's own loop -/
section
variable {prog : Program} {w : World} {A : Around} {E : Value → Shared → Prop} {s : Shared} {z TI TO T i1 i2 : Addr} {fp1 fp2 : List Addr} {n1 n2 i : Nat} {P1 P2 : Nat → Value → Prop} {St1 St2 : Nat → Heap → Prop} {f : Bool} {oT : Obj}
theorem zh_item {Q : Value → Shared → Prop} (S : ZipSep2 z TI TO i1 i2 fp1 fp2) (D1 : Draws prog w A i1 fp1 n1 P1 St1) (D2 : Draws prog w A i2 fp2 n2 P2 St2)
    (hz : IsZipHeld s.heap z TI TO T f) (hT : s.heap.get? T = some oT) (hTI : IsTupOf2 s.heap TI (.ref i1) (.ref i2)) (st1 : St1 i s.heap) (st2 : St2 i s.heap) (hlt1 : i < n1) (hlt2 : i < n2)
    (hQ : ∀ x1 x2 h' tk, P1 i x1 → P2 i x2 → IsZipHeld h' z TI TO T true → St1 (i + 1) h' → St2 (i + 1) h' → IsTupOf2 h' s.heap.objs.size x1 x2 → h'.objs.size = s.heap.objs.size + 1 →
      (∀ c o, c ≠ z → c ≠ i1 → c ≠ i2 → s.heap.get? c = some o → h'.get? c = some o) → Q (.ref s.heap.objs.size) { s with heap := h', toks := tk }) :
    wpAny (model prog w) A (Builtin.«zip.__next__» ⟨[.ref z], []⟩) (fun fin s' => ∃ v, fin = .done (.ret v) ∧ Q v s') E s := by
  obtain ⟨hp, g, d, tk0, os⟩ := s
  show wpAny _ _ (field (.ref z) 2 >>= _) _ _ _
  refine wpAny_bind (wpAny_field hz rfl (x := .bool false) rfl ?_)
  show wpAny _ _ (field (.ref z) 3 >>= _) _ _ _
  refine wpAny_bind (wpAny_field hz rfl (x := .ref TI) rfl ?_)
  refine wpAny_bind (wpAny_seqItems hTI rfl ?_)
  show wpAny _ _ (Builtin.SmallTypes.ownedTupleIsFree (.ref z) >>= _) _ _ _
  refine wpAny_bind (wpAny_tupleHeld_zip hz hT fun h₁ hz₁ hs₁ => ?_)
  replace hs₁ : Heap.SameBut z hp h₁ := hs₁
  simp only [Bool.false_eq_true, if_false]
  refine wpAny_bind ?_
  rw [← Array.forIn_toList]
  simp only [List.forIn_cons, List.forIn_nil]
  refine wpAny_bind (wpAny_bind (wpAny_holding ?_))
  show wpAny _ _ (Builtin.SmallTypes.nextOf (.ref i1) >>= _) _ _ ⟨h₁, g, d, tk0, os⟩
  refine wpAny_bind (D1.item i _ _ _ hlt1 (D1.over st1 hs₁ S.zf1) fun x1 h₂ tk1 hx1 sn1 hs₂ => wpAny_pure ?_)
  replace hs₂ : Heap.SameBut i1 h₁ h₂ := hs₂
  refine wpAny_pure ?_
  refine wpAny_bind (wpAny_bind (wpAny_holding ?_))
  show wpAny _ _ (Builtin.SmallTypes.nextOf (.ref i2) >>= _) _ _ ⟨h₂, g, d, tk1, os⟩
  refine wpAny_bind (D2.item i _ _ _ hlt2 (D2.over (D2.over st2 hs₁ S.zf2) hs₂ S.sep1_2) fun x2 h₃ tk2 hx2 sn2 hs₃ => wpAny_pure ?_)
  replace hs₃ : Heap.SameBut i2 h₂ h₃ := hs₃
  refine wpAny_pure (wpAny_pure ?_)
  show wpAny _ _ (newTuple [x1, x2] >>= _) _ _ _
  refine wpAny_bind (wpAny_newTuple ?_)
  have hsz : h₃.objs.size = hp.objs.size := by rw [hs₃.1, hs₂.1, hs₁.1]
  have hz₃ : IsZipHeld h₃ z TI TO T true := hs₃.extBut _ _ S.zi2 (hs₂.extBut _ _ S.zi1 hz₁)
  have hk : ∀ c o, c ≠ z → c ≠ i1 → c ≠ i2 → hp.get? c = some o → h₃.get? c = some o := fun c o c1 c2 c3 e => hs₃.extBut _ _ c3 (hs₂.extBut _ _ c2 (hs₁.extBut _ _ c1 e))
  refine wpAny_pure ⟨_, rfl, ?_⟩
  show Q (.ref h₃.objs.size) _
  have hp4 : IsTupOf2 (h₃.push { cls := .type "tuple", data := .seq #[x1, x2] }) h₃.objs.size x1 x2 := Heap.get?_push_size _ rfl
  have hz4 : (h₃.push { cls := .type "tuple", data := .seq #[x1, x2] }).objs.size = h₃.objs.size + 1 := Heap.size_push ..
  have s1' : St1 (i + 1) (h₃.push { cls := .type "tuple", data := .seq #[x1, x2] }) := D1.frame _ _ _ (D1.over sn1 hs₃ S.sep2_1) fun b _ o e => Heap.get?_push_of_some _ e
  have s2' : St2 (i + 1) (h₃.push { cls := .type "tuple", data := .seq #[x1, x2] }) := D2.frame _ _ _ sn2 fun b _ o e => Heap.get?_push_of_some _ e
  rw [hsz] at hp4 hz4 ⊢
  exact hQ x1 x2 _ tk2 hx1 hx2 (Heap.get?_push_of_some _ hz₃) s1' s2' hp4 hz4 fun c o c1 c2 c3 e => Heap.get?_push_of_some _ (hk c o c1 c2 c3 e)
theorem zh_end {Q : Fin → Shared → Prop} (S : ZipSep2 z TI TO i1 i2 fp1 fp2) (D1 : Draws prog w A i1 fp1 n1 P1 St1) (D2 : Draws prog w A i2 fp2 n2 P2 St2)
    (hz : IsZipHeld s.heap z TI TO T f) (hT : s.heap.get? T = some oT) (hTI : IsTupOf2 s.heap TI (.ref i1) (.ref i2)) (st1 : St1 i s.heap) (st2 : St2 i s.heap) (hle1 : i ≤ n1) (hle2 : i ≤ n2) (hend : i = n1 ∨ i = n2)
    (hE : ∀ h' tk e, (∀ c o, c ≠ z → c ≠ i1 → c ≠ i2 → s.heap.get? c = some o → h'.get? c = some o) → (∃ o, h'.get? e = some o ∧ o.cls = .type "StopIteration") → E (.ref e) { s with heap := h', toks := tk }) :
    wpAny (model prog w) A (Builtin.«zip.__next__» ⟨[.ref z], []⟩) Q E s := by
  obtain ⟨hp, g, d, tk0, os⟩ := s
  show wpAny _ _ (field (.ref z) 2 >>= _) _ _ _
  refine wpAny_bind (wpAny_field hz rfl (x := .bool false) rfl ?_)
  show wpAny _ _ (field (.ref z) 3 >>= _) _ _ _
  refine wpAny_bind (wpAny_field hz rfl (x := .ref TI) rfl ?_)
  refine wpAny_bind (wpAny_seqItems hTI rfl ?_)
  show wpAny _ _ (Builtin.SmallTypes.ownedTupleIsFree (.ref z) >>= _) _ _ _
  refine wpAny_bind (wpAny_tupleHeld_zip hz hT fun h₁ hz₁ hs₁ => ?_)
  replace hs₁ : Heap.SameBut z hp h₁ := hs₁
  simp only [Bool.false_eq_true, if_false]
  refine wpAny_bind ?_
  rw [← Array.forIn_toList]
  simp only [List.forIn_cons, List.forIn_nil]
  refine wpAny_bind (wpAny_bind (wpAny_holding ?_))
  show wpAny _ _ (Builtin.SmallTypes.nextOf (.ref i1) >>= _) _ _ ⟨h₁, g, d, tk0, os⟩
  by_cases hlt1 : i < n1
  · refine wpAny_bind (D1.item i _ _ _ hlt1 (D1.over st1 hs₁ S.zf1) fun x1 h₂ tk1 hx1 sn1 hs₂ => wpAny_pure ?_)
    replace hs₂ : Heap.SameBut i1 h₁ h₂ := hs₂
    refine wpAny_pure ?_
    refine wpAny_bind (wpAny_bind (wpAny_holding ?_))
    show wpAny _ _ (Builtin.SmallTypes.nextOf (.ref i2) >>= _) _ _ ⟨h₂, g, d, tk1, os⟩
    have hi2 : i = n2 := by omega
    refine wpAny_bind (D2.done ⟨h₂, g, d, tk1, os⟩ _ _ (by rw [← hi2]; exact (D2.over (D2.over st2 hs₁ S.zf2) hs₂ S.sep1_2)) fun q e hq he => ?_)
    replace hq : Heap.ExtBut i2 h₂ q := hq
    exact hE q tk1 e (fun c o c1 c2 c3 x => hq _ _ c3 (hs₂.extBut _ _ c2 (hs₁.extBut _ _ c1 x))) he
  · have hi1 : i = n1 := by omega
    refine wpAny_bind (D1.done ⟨h₁, g, d, tk0, os⟩ _ _ (by rw [← hi1]; exact (D1.over st1 hs₁ S.zf1)) fun q e hq he => ?_)
    replace hq : Heap.ExtBut i1 h₁ q := hq
    exact hE q tk0 e (fun c o c1 c2 c3 x => hq _ _ c2 (hs₁.extBut _ _ c1 x)) he
theorem zh_next_item {Q : Option Value → Shared → Prop} (S : ZipSep2 z TI TO i1 i2 fp1 fp2) (D1 : Draws prog w A.in1 i1 fp1 n1 P1 St1) (D2 : Draws prog w A.in1 i2 fp2 n2 P2 St2)
    (hz : IsZipHeld s.heap z TI TO T f) (hT : s.heap.get? T = some oT) (hTI : IsTupOf2 s.heap TI (.ref i1) (.ref i2)) (st1 : St1 i s.heap) (st2 : St2 i s.heap) (hlt1 : i < n1) (hlt2 : i < n2)
    (hQ : ∀ x1 x2 h' tk, P1 i x1 → P2 i x2 → IsZipHeld h' z TI TO T true → St1 (i + 1) h' → St2 (i + 1) h' → IsTupOf2 h' s.heap.objs.size x1 x2 → h'.objs.size = s.heap.objs.size + 1 →
      (∀ c o, c ≠ z → c ≠ i1 → c ≠ i2 → s.heap.get? c = some o → h'.get? c = some o) → Q (some (.ref s.heap.objs.size)) { s with heap := h', toks := tk }) :
    wpAny (model prog w) A (pyNext (.ref z)) Q E s := by
  have hTy : s.TypeIs (.ref z) "zip" := ⟨_, hz, rfl⟩
  unfold pyNext
  exact wpAny_bind (wpAny_attempt (wpAny_callSpecial?_slot (name := Str.ofString "__next__") hTy F.slot_zip_next
    (wpAny_call_entry F.slot_zip_next hTy F.entry_zip_next
      (zh_item S D1 D2 hz hT hTI st1 st2 hlt1 hlt2 fun x1 x2 h' tk y1 y2 b1 d1 d2 b5 b6 b7 => wpAny_pure (hQ x1 x2 h' tk y1 y2 b1 d1 d2 b5 b6 b7)) (F.args_zip_next_1 _))))
theorem zh_next_end {Q : Option Value → Shared → Prop} (S : ZipSep2 z TI TO i1 i2 fp1 fp2) (D1 : Draws prog w A.in1 i1 fp1 n1 P1 St1) (D2 : Draws prog w A.in1 i2 fp2 n2 P2 St2)
    (hz : IsZipHeld s.heap z TI TO T f) (hT : s.heap.get? T = some oT) (hTI : IsTupOf2 s.heap TI (.ref i1) (.ref i2)) (st1 : St1 i s.heap) (st2 : St2 i s.heap) (hle1 : i ≤ n1) (hle2 : i ≤ n2) (hend : i = n1 ∨ i = n2)
    (hQ : ∀ h' tk, (∀ c o, c ≠ z → c ≠ i1 → c ≠ i2 → s.heap.get? c = some o → h'.get? c = some o) → Q none { s with heap := h', toks := tk }) : wpAny (model prog w) A (pyNext (.ref z)) Q E s := by
  have hTy : s.TypeIs (.ref z) "zip" := ⟨_, hz, rfl⟩
  unfold pyNext
  refine wpAny_bind (wpAny_attempt (wpAny_callSpecial?_slot (name := Str.ofString "__next__") hTy F.slot_zip_next
    (wpAny_call_entry F.slot_zip_next hTy F.entry_zip_next (zh_end S D1 D2 hz hT hTI st1 st2 hle1 hle2 hend fun h' tk e hk he => ?_) (F.args_zip_next_1 _))))
  obtain ⟨o, ho, hc⟩ := he
  refine wpAny_bind (wpAny_isInstance (T := "StopIteration") (b := true) ⟨o, ho, hc⟩ isSubtype_stop ?_)
  exact wpAny_pure (hQ _ _ hk)
end

/-- the tuples made so far lie behind the list at N -/
structure LZ (xs ys : Array Value) (N i : Nat) (acc : Array Value) (h : Heap) : Prop where
  acc : acc = ((List.range i).map fun j => Value.ref (N + 1 + j)).toArray
  tup : ∀ j, j < i → ∃ x y, xs[j]? = some x ∧ ys[j]? = some y ∧ IsTupOf2 h (N + 1 + j) x y
def ZSt (z TI TO N : Nat) (i : Nat) (h : Heap) : Prop := (i = 0 ∧ IsZip h z TI TO .none ∧ ∃ a1 a2, IsTupOf2 h TO a1 a2) ∨ (0 < i ∧ ∃ f, IsZipHeld h z TI TO (N + 1) f)
section
variable {prog : Program} {w : World} {A : Around} {R : Result → Shared → Prop} {k1 k2 : Bool} {a b z TI TO i1 i2 N : Nat} {xs ys : Array Value}
theorem lz_loop (hh : A.handled = none) (ZS : ZipSep2 z TI TO i1 i2 [i1, a] [i2, b]) (h1 : a ≠ i1) (h2 : b ≠ i2) (lz : z < N) (lI : TI < N) (lO : TO < N) (l1 : i1 < N) (l2 : i2 < N) (la : a < N) (lb : b < N) (hn : min xs.size ys.size ≤ sizeLine) :
    ∀ (k i : Nat) (s : Shared) (acc : Array Value) (c : Nat), min xs.size ys.size - i = k → i ≤ min xs.size ys.size → ZSt z TI TO N i s.heap → IsTupOf2 s.heap TI (.ref i1) (.ref i2) → ItAt k1 s.heap i1 a i → IsS k1 s.heap a xs → ItAt k2 s.heap i2 b i → IsS k2 s.heap b ys →
      s.heap.get? N = some { cls := .type "list", dict := none, data := .seq acc c, slots := #[] } → LZ xs ys N i acc s.heap → s.heap.objs.size = N + 1 + i →
      (∀ h' tk acc' c', (∀ (b : Nat) o, b < N → b ≠ z → b ≠ TO → b ≠ i1 → b ≠ i2 → s.heap.get? b = some o → h'.get? b = some o) → h'.get? N = some { cls := .type "list", dict := none, data := .seq acc' c', slots := #[] } →
        LZ xs ys N (min xs.size ys.size) acc' h' → R (.ok (.ret .none)) { s with heap := h', toks := tk }) →
      codeAny (model prog w) A (.builtin "list.extend.loop" ⟨[.ref N, .ref z, .none], []⟩) R s := by
  have D1 := drawsK (prog := prog) (w := w) (A := A.in1.in1) k1 (by exact hh) i1 a h1 xs
  have D2 := drawsK (prog := prog) (w := w) (A := A.in1.in1) k2 (by exact hh) i2 b h2 ys
  intro k
  induction k with
  | zero =>
    intro i s acc c hk hi hz hTI g1 s1 g2 s2 hS hL hsz hR
    have hend : i = xs.size ∨ i = ys.size := by omega
    refine codeAny_builtin F.entry_extend_loop ?_
    rw [Around.under_plainId F.plain_extend_loop _]
    show wpAny _ A.in1 (pyNext (.ref z) >>= _) _ _ s
    have ei : i = min xs.size ys.size := by omega
    rcases hz with ⟨h0, hz, a1, a2, hTO⟩ | ⟨h0, f, hz⟩
    · refine wpAny_bind (wpAny_pyNext_zipD2_end ZS D1 D2 hz hTI hTO ⟨g1, s1⟩ ⟨g2, s2⟩ (by omega) (by omega) hend fun h' tk hkk0 => ?_)
      have hkk : ∀ (c : Nat) (o : Obj), c ≠ z → c ≠ TO → c ≠ i1 → c ≠ i2 → s.heap.get? c = some o → h'.get? c = some o := hkk0
      refine wpAny_pure (hR h' tk acc c (fun b o _ n1 n2 n3 n4 e => hkk b o n1 n2 n3 n4 e) (hkk N _ (by omega) (by omega) (by omega) (by omega) hS) ?_)
      rw [← ei]
      refine ⟨hL.acc, fun j hj => absurd hj (by omega)⟩
    · obtain ⟨x0, y0, _, _, hT⟩ := hL.tup 0 h0
      refine wpAny_bind (zh_next_end ZS D1 D2 hz hT hTI ⟨g1, s1⟩ ⟨g2, s2⟩ (by omega) (by omega) hend fun h' tk hkk0 => ?_)
      have hkk : ∀ (c : Nat) (o : Obj), c ≠ z → c ≠ i1 → c ≠ i2 → s.heap.get? c = some o → h'.get? c = some o := hkk0
      refine wpAny_pure (hR h' tk acc c (fun b o _ n1 n2 n3 n4 e => hkk b o n1 n3 n4 e) (hkk N _ (by omega) (by omega) (by omega) hS) ?_)
      rw [← ei]
      refine ⟨hL.acc, fun j hj => ?_⟩
      obtain ⟨x, y, e1, e2, e3⟩ := hL.tup j hj
      exact ⟨x, y, e1, e2, hkk _ _ (by omega) (by omega) (by omega) e3⟩
  | succ k ih =>
    intro i s acc c hk hi hz hTI g1 s1 g2 s2 hS hL hsz hR
    have lt1 : i < xs.size := by omega
    have lt2 : i < ys.size := by omega
    refine codeAny_builtin F.entry_extend_loop ?_
    rw [Around.under_plainId F.plain_extend_loop _]
    show wpAny _ A.in1 (pyNext (.ref z) >>= _) _ _ s
    have key : ∀ x1 x2 h' tk, xs[i]? = some x1 → ys[i]? = some x2 → (∃ f, IsZipHeld h' z TI TO (N + 1) f) → ItAt k1 h' i1 a (i + 1) → IsS k1 h' a xs → ItAt k2 h' i2 b (i + 1) → IsS k2 h' b ys → IsTupOf2 h' s.heap.objs.size x1 x2 → h'.objs.size = s.heap.objs.size + 1 →
        (∀ (c : Nat) o, c ≠ z → c ≠ TO → c ≠ i1 → c ≠ i2 → s.heap.get? c = some o → h'.get? c = some o) →
        wpAny (model prog w) A.in1 (updateSeq N (·.push (.ref s.heap.objs.size)) >>= fun _ => again (.builtin "list.extend.loop" ⟨[.ref N, .ref z, .none], []⟩))
          (fun fin s' => match fin with | .done f => R (.ok f) s' | .again c' => c'.quiet = true ∧ codeAny (model prog w) A c' R s') (fun e s' => R (.error e) s') { s with heap := h', toks := tk } := by
      intro x1 x2 h' tk e1 e2 ⟨f, hz'⟩ g1' s1' g2' s2' hT' hsz' hkk
      have hS' := hkk N _ (by omega) (by omega) (by omega) (by omega) hS
      have accsz : acc.size = i := by rw [hL.acc]; simp
      refine wpAny_bind ?_
      refine wpAny_updateSeq (s := { s with heap := h', toks := tk }) hS' rfl (wpAny_pure ⟨plainId_quiet F.plain_extend_loop _, ?_⟩) (by rw [accsz]; omega) (by show (acc.push _).size ≤ sizeLine + 1; rw [Array.size_push, accsz]; omega)
      have sb := Heap.SameBut.update h' N (Obj.mapSeq (·.push (Value.ref s.heap.objs.size)))
      have oth : ∀ (b : Nat) o, b ≠ N → h'.get? b = some o → (h'.update N (Obj.mapSeq (·.push (Value.ref s.heap.objs.size)))).get? b = some o := fun b o hb e => (Heap.get?_update_other _ _ (Ne.symm hb)).trans e
      refine ih (i + 1) { s with heap := h'.update N (Obj.mapSeq (·.push (Value.ref s.heap.objs.size))), toks := tk } (acc.push (.ref s.heap.objs.size)) _ (by omega) (by omega) (.inr ⟨by omega, f, oth z _ (by omega) hz'⟩) (oth TI _ (by omega) (hkk TI _ ZS.TIz ZS.TITO ZS.TIi1 ZS.TIi2 hTI))
        (g1'.keep fun o e => oth i1 o (by omega) e) ?_ (g2'.keep fun o e => oth i2 o (by omega) e) ?_ (Heap.get?_update_self _ hS' rfl) ?_ (by show (h'.update N _).objs.size = _; rw [sb.1, hsz', hsz]; omega) fun h2 tk2 acc' c' hk2 hS2 hL2 => ?_
      · exact (D1.frame (i + 1) _ _ ⟨g1', s1'⟩ fun b hb o e => oth b o (by
          rcases (show b = i1 ∨ b = a by simpa using hb) with z | z <;> rw [z] <;> omega) e).2
      · exact (D2.frame (i + 1) _ _ ⟨g2', s2'⟩ fun c hb o e => oth c o (by
          rcases (show c = i2 ∨ c = b by simpa using hb) with z | z <;> rw [z] <;> omega) e).2
      · refine ⟨?_, fun j hj => ?_⟩
        · rw [hL.acc, List.range_succ, List.map_append, hsz]
          simp
        · by_cases hj2 : j < i
          · obtain ⟨x, y, q1, q2, q3⟩ := hL.tup j hj2
            exact ⟨x, y, q1, q2, oth _ _ (by omega) (hkk _ _ (by omega) (by omega) (by omega) (by omega) q3)⟩
          · have ej : j = i := by omega
            subst ej
            refine ⟨x1, x2, e1, e2, oth _ _ (by omega) ?_⟩
            rw [← hsz]
            exact hT'
      · exact hR h2 tk2 acc' c' (fun b o hb n1 n2 n3 n4 e => hk2 b o hb n1 n2 n3 n4 (oth b o (by omega) (hkk b o n1 n2 n3 n4 e))) hS2 hL2
    rcases hz with ⟨h0, hz, a1, a2, hTO⟩ | ⟨h0, f, hz⟩
    · subst h0
      refine wpAny_bind (wpAny_pyNext_zipD2_item ZS D1 D2 hz hTI hTO ⟨g1, s1⟩ ⟨g2, s2⟩ lt1 lt2 fun x1 x2 h' tk p1 p2 b1 b2 d1 d2 b5 b6 b7 => ?_)
      refine key x1 x2 h' tk p1 p2 ⟨false, ?_⟩ d1.1 d1.2 d2.1 d2.2 b5 b6 b7
      rw [hsz] at b1
      exact b1
    · obtain ⟨x0, y0, _, _, hT⟩ := hL.tup 0 h0
      refine wpAny_bind (zh_next_item ZS D1 D2 hz hT hTI ⟨g1, s1⟩ ⟨g2, s2⟩ lt1 lt2 fun x1 x2 h' tk p1 p2 b1 d1 d2 b5 b6 b7 => ?_)
      exact key x1 x2 h' tk p1 p2 ⟨true, b1⟩ d1.1 d1.2 d2.1 d2.2 b5 b6 fun c o n1 _ n3 n4 e => b7 c o n1 n3 n4 e
end

theorem zip_no_len : typeLookup (.type "zip") "__len__" = pure none := am_miss_of_fast (by decide +kernel)
theorem zip_no_hint : typeLookup (.type "zip") "__length_hint__" = pure none := am_miss_of_fast (by decide +kernel)
section
variable {prog : Program} {w : World} {A : Around} {R : Result → Shared → Prop} {k1 k2 : Bool} {a b z TI TO i1 i2 N : Nat} {xs ys : Array Value} {s : Shared}
/-- what is wanted behind the loop -/
abbrev LzEnd (xs ys : Array Value) (z TO i1 i2 N : Nat) (h : Heap) (P : Heap → Nat → Array Value → Nat → Prop) : Prop :=
  ∀ (h' : Heap) (tk : Nat) (acc' : Array Value) (c' : Nat), (∀ (b : Nat) o, b < N → b ≠ z → b ≠ TO → b ≠ i1 → b ≠ i2 → h.get? b = some o → h'.get? b = some o) → h'.get? N = some { cls := .type "list", dict := none, data := .seq acc' c', slots := #[] } →
    LZ xs ys N (min xs.size ys.size) acc' h' → P h' tk acc' c'
theorem lz_extend (hh : A.handled = none) (ZS : ZipSep2 z TI TO i1 i2 [i1, a] [i2, b]) (h1 : a ≠ i1) (h2 : b ≠ i2) (lz : z < N) (lI : TI < N) (lO : TO < N) (l1 : i1 < N) (l2 : i2 < N) (la : a < N) (lb : b < N) (hn : min xs.size ys.size ≤ sizeLine)
    (hz : IsZip s.heap z TI TO .none) (hTO : ∃ a1 a2, IsTupOf2 s.heap TO a1 a2) (hTI : IsTupOf2 s.heap TI (.ref i1) (.ref i2)) (g1 : ItAt k1 s.heap i1 a 0) (s1 : IsS k1 s.heap a xs) (g2 : ItAt k2 s.heap i2 b 0) (s2 : IsS k2 s.heap b ys)
    (hS : s.heap.get? N = some { cls := .type "list", data := .seq #[] }) (hsz : s.heap.objs.size = N + 1)
    (hR : LzEnd xs ys z TO i1 i2 N s.heap fun h' tk _ _ => R (.ok (.ret .none)) { s with heap := h', toks := tk }) :
    wpAny (model prog w) A.in1 (Builtin.List.listExtendWith (.ref N) (.ref z) .none)
      (fun fin s' => match fin with | .done f => R (.ok f) s' | .again c' => c'.quiet = true ∧ codeAny (model prog w) A c' R s') (fun e s' => R (.error e) s') s := by
  have hTy : s.TypeIs (.ref z) "zip" := ⟨_, hz, rfl⟩
  have hNz : N ≠ z := Nat.ne_of_gt lz
  unfold Builtin.List.listExtendWith
  refine wpAny_bind (wpAny_typeOf hTy ?_)
  have q1 : Builtin.List.listSameRef (.ref N) (.ref z) = false := by simp [Builtin.List.listSameRef, hNz]
  have q2 : (Value.type "zip" == Value.type "list") = false := by decide
  have q3 : (Value.type "zip" == Value.type "tuple") = false := by decide
  simp only [q1, q2, q3, Bool.or_false, Bool.false_eq_true, if_false]
  refine wpAny_bind (wpAny_pyIter_zip hz ?_)
  refine wpAny_bind (wpAny_holding ?_)
  unfold Builtin.List.listLengthHint
  refine wpAny_bind (wpAny_specialOf hTy zip_no_len ?_)
  show wpAny _ A.in1 (specialOf (Value.ref z) (Str.ofString "__length_hint__") >>= _) _ _ _
  refine wpAny_bind (wpAny_specialOf hTy zip_no_hint ?_)
  refine wpAny_pure ?_
  have end1 : ∀ h2 : Heap, (∀ (c : Nat) (o : Obj), c ≠ N → s.heap.get? c = some o → h2.get? c = some o) → h2.objs.size = N + 1 → (∃ c, h2.get? N = some { cls := .type "list", dict := none, data := .seq #[] c, slots := #[] }) →
      codeAny (model prog w) A (.builtin "list.extend.loop" ⟨[.ref N, .ref z, .none], []⟩) R { s with heap := h2 } := by
    intro h2' oth hsz2 ⟨c, hN⟩
    have o2 : ∀ {cx : Nat} {o : Obj}, cx < N → s.heap.get? cx = some o → h2'.get? cx = some o := fun {cx o} l e => oth cx o (by omega) e
    refine lz_loop hh ZS h1 h2 lz lI lO l1 l2 la lb hn (min xs.size ys.size - 0) 0 _ #[] c rfl (Nat.zero_le _) (.inl ⟨rfl, o2 lz hz, ?_⟩) (o2 lI hTI) (g1.keep fun o e => o2 l1 e) ?_ (g2.keep fun o e => o2 l2 e) ?_ hN ⟨rfl, fun j hj => absurd hj (by omega)⟩ hsz2 fun h' tk acc' c' k e L => ?_
    · obtain ⟨x, y, e⟩ := hTO
      exact ⟨x, y, o2 lO e⟩
    · exact ((drawsK (prog := prog) (w := w) (A := A) k1 hh i1 a h1 xs).frame 0 _ _ ⟨g1, s1⟩ fun c hb o e => o2 (by
        rcases (show c = i1 ∨ c = a by simpa using hb) with z | z <;> rw [z] <;> assumption) e).2
    · exact ((drawsK (prog := prog) (w := w) (A := A) k2 hh i2 b h2 ys).frame 0 _ _ ⟨g2, s2⟩ fun c hb o e => o2 (by
        rcases (show c = i2 ∨ c = b by simpa using hb) with z | z <;> rw [z] <;> assumption) e).2
    · exact hR h' tk acc' c' (fun b o l n1 n2 n3 n4 e => k b o l n1 n2 n3 n4 (o2 l e)) e L
  show wpAny _ A.in1 (rule "list.extend.makes-room" >>= fun _ => Builtin.List.listTouch (.ref N) >>= fun _ =>
    again (.builtin "list.extend.loop" ⟨[.ref N, .ref z, .none], []⟩)) _ _ _
  refine wpAny_bind (wpAny_rule ?_)
  refine wpAny_bind ?_
  show wpAny _ A.in1 (updateSeq N (·.push .none) >>= fun _ => updateSeq N (·.pop)) _ _ _
  refine wpAny_bind (wpAny_updateSeq hS rfl ?_)
  have hS₂ := Heap.get?_update_self (Obj.mapSeq (·.push Value.none)) hS rfl
  refine wpAny_updateSeq (hz := by seq_fits) hS₂ rfl ?_
  have hS₃ := Heap.get?_update_self (Obj.mapSeq (·.pop)) hS₂ rfl
  have sb1 := Heap.SameBut.update s.heap N (Obj.mapSeq (·.push Value.none))
  have sb2 := Heap.SameBut.update (s.heap.update N (Obj.mapSeq (·.push Value.none))) N (Obj.mapSeq (·.pop))
  exact wpAny_pure ⟨plainId_quiet F.plain_extend_loop _, end1 _ (fun c o hc e => (Heap.get?_update_other _ _ (Ne.symm hc)).trans ((Heap.get?_update_other _ _ (Ne.symm hc)).trans e)) (by rw [sb2.1, sb1.1]; exact hsz) ⟨_, hS₃⟩⟩
theorem lz_init (hh : A.handled = none) (ZS : ZipSep2 z TI TO i1 i2 [i1, a] [i2, b]) (h1 : a ≠ i1) (h2 : b ≠ i2) (lz : z < N) (lI : TI < N) (lO : TO < N) (l1 : i1 < N) (l2 : i2 < N) (la : a < N) (lb : b < N) (hn : min xs.size ys.size ≤ sizeLine)
    (hz : IsZip s.heap z TI TO .none) (hTO : ∃ a1 a2, IsTupOf2 s.heap TO a1 a2) (hTI : IsTupOf2 s.heap TI (.ref i1) (.ref i2)) (g1 : ItAt k1 s.heap i1 a 0) (s1 : IsS k1 s.heap a xs) (g2 : ItAt k2 s.heap i2 b 0) (s2 : IsS k2 s.heap b ys)
    (hS : s.heap.get? N = some { cls := .type "list", data := .seq #[] }) (hsz : s.heap.objs.size = N + 1)
    (hR : LzEnd xs ys z TO i1 i2 N s.heap fun h' tk _ _ => R (.ok (.ret .none)) { s with heap := h', toks := tk }) :
    wpAny (model prog w) A.in1 (Builtin.«list.__init__» ⟨[.ref N, .ref z], []⟩)
      (fun fin s' => match fin with | .done f => R (.ok f) s' | .again c' => c'.quiet = true ∧ codeAny (model prog w) A c' R s') (fun e s' => R (.error e) s') s := by
  show wpAny _ A.in1 (do let old ← Builtin.List.listItems (.ref N); Builtin.List.listUpdate (.ref N) (fun _ => #[]); letGo old.toList.reverse; Builtin.List.listExtendWith (.ref N) (.ref z) .none) _ _ s
  refine wpAny_bind ?_
  unfold Builtin.List.listItems
  refine wpAny_bind (wpAny_seqItems hS rfl (wpAny_pure ?_))
  show wpAny _ A.in1 (updateSeq N (fun _ => #[]) >>= fun _ => letGo (#[] : Array Value).toList.reverse >>= fun _ => Builtin.List.listExtendWith (.ref N) (.ref z) .none) _ _ s
  refine wpAny_bind (wpAny_updateSeq hS rfl ?_)
  have hS₂ := Heap.get?_update_self (Obj.mapSeq (fun _ => (#[] : Array Value))) hS rfl
  have o2 : ∀ {c : Nat} {o : Obj}, c < N → s.heap.get? c = some o → (s.heap.update N (Obj.mapSeq (fun _ => (#[] : Array Value)))).get? c = some o :=
    fun {c o} hb e => (Heap.get?_update_other _ _ (Nat.ne_of_gt hb)).trans e
  have sb := Heap.SameBut.update s.heap N (Obj.mapSeq (fun _ => (#[] : Array Value)))
  refine wpAny_bind (wpAny_letGo ?_)
  refine lz_extend (s := { s with heap := s.heap.update N (Obj.mapSeq (fun _ => (#[] : Array Value))) }) hh ZS h1 h2 lz lI lO l1 l2 la lb hn (o2 lz hz) ?_ (o2 lI hTI) (g1.keep fun o e => o2 l1 e) ?_ (g2.keep fun o e => o2 l2 e) ?_ hS₂ (by show (s.heap.update N _).objs.size = _; rw [sb.1]; exact hsz) fun h' tk acc' c' k e L => hR h' tk acc' c' (fun b o l n1 n2 n3 n4 e => k b o l n1 n2 n3 n4 (o2 l e)) e L
  · obtain ⟨x, y, e⟩ := hTO
    exact ⟨x, y, o2 lO e⟩
  · exact ((drawsK (prog := prog) (w := w) (A := A) k1 hh i1 a h1 xs).frame 0 _ _ ⟨g1, s1⟩ fun c hb o e => o2 (by
      rcases (show c = i1 ∨ c = a by simpa using hb) with z | z <;> rw [z] <;> assumption) e).2
  · exact ((drawsK (prog := prog) (w := w) (A := A) k2 hh i2 b h2 ys).frame 0 _ _ ⟨g2, s2⟩ fun c hb o e => o2 (by
      rcases (show c = i2 ∨ c = b by simpa using hb) with z | z <;> rw [z] <;> assumption) e).2
end
section
variable {prog : Program} {w : World} {A : Around} {E : Value → Shared → Prop} {k1 k2 : Bool} {a b z TI TO i1 i2 : Nat} {xs ys : Array Value} {s : Shared}
theorem call_list_zip {Q : Value → Shared → Prop} (hh : A.handled = none) (ZS : ZipSep2 z TI TO i1 i2 [i1, a] [i2, b]) (h1 : a ≠ i1) (h2 : b ≠ i2) (hn : min xs.size ys.size ≤ sizeLine)
    (hz : IsZip s.heap z TI TO .none) (hTO : ∃ a1 a2, IsTupOf2 s.heap TO a1 a2) (hTI : IsTupOf2 s.heap TI (.ref i1) (.ref i2)) (g1 : ItAt k1 s.heap i1 a 0) (s1 : IsS k1 s.heap a xs) (g2 : ItAt k2 s.heap i2 b 0) (s2 : IsS k2 s.heap b ys)
    (hQ : LzEnd xs ys z TO i1 i2 s.heap.objs.size s.heap fun h' tk _ _ => Q (.ref s.heap.objs.size) { s with heap := h', toks := tk }) :
    wpAny (model prog w) A (call (.type "list") [.ref z]) Q E s := by
  obtain ⟨x0, y0, eTO⟩ := id hTO
  have lz : z < s.heap.objs.size := Heap.lt_size hz
  have lI : TI < s.heap.objs.size := Heap.lt_size hTI
  have lO : TO < s.heap.objs.size := Heap.lt_size eTO
  have l1 : i1 < s.heap.objs.size := by obtain ⟨o, e, _⟩ := g1.live; exact Heap.lt_size e
  have l2 : i2 < s.heap.objs.size := by obtain ⟨o, e, _⟩ := g2.live; exact Heap.lt_size e
  refine callType_codes (Q₁ := fun obj s₁ => obj = .ref s.heap.objs.size ∧ s₁ = { s with heap := s.heap.push { cls := .type "list", data := .seq #[] } }) F.called_list (F.typeCall_list_1 _) F.entry_list_init
    (code_list_new _ ⟨rfl, rfl⟩) fun obj s₁ h₁ => ?_
  obtain ⟨rfl, rfl⟩ := h₁
  have hS : (s.heap.push { cls := .type "list", data := .seq #[] }).get? s.heap.objs.size = some { cls := .type "list", data := .seq #[] } := Heap.get?_push_size _ rfl
  have o2 : ∀ {c : Nat} {o : Obj}, s.heap.get? c = some o → (s.heap.push { cls := .type "list", data := .seq #[] }).get? c = some o := fun e => Heap.get?_push_of_some _ e
  refine ⟨⟨_, hS, rfl⟩, F.args_list_init_2 _ _, lz_init (A := A.in1) hh ZS h1 h2 lz lI lO l1 l2 s1.lt s2.lt hn (o2 hz) ⟨x0, y0, o2 eTO⟩ (o2 hTI) (g1.keep fun o e => o2 e) ?_ (g2.keep fun o e => o2 e) ?_ hS (Heap.size_push ..) fun h' tk acc' c' k e L => ⟨rfl, hQ h' tk acc' c' (fun b o l n1 n2 n3 n4 e => k b o l n1 n2 n3 n4 (o2 e)) e L⟩⟩
  · exact ((drawsK (prog := prog) (w := w) (A := A) k1 hh i1 a h1 xs).frame 0 _ _ ⟨g1, s1⟩ fun c hb o e => o2 e).2
  · exact ((drawsK (prog := prog) (w := w) (A := A) k2 hh i2 b h2 ys).frame 0 _ _ ⟨g2, s2⟩ fun c hb o e => o2 e).2
end
end DL

namespace DL
open PySem PySem.Spec PyProof.Rows L2
section
variable {X : Cx} {pins : List (Addr × Obj)} {σ : L2.St} {H H' : Hp} {s : Shared} {h' : Heap}
/-- records of ours have turned, and new objects are laid -/
theorem inv_news {t' : Nat} {ch : List Addr} (I : Inv X pins σ H s) (k : ∀ b o, b ∉ ch → s.heap.get? b = some o → h'.get? b = some o) (hf : ∀ b ∈ ch, FpOk X pins H b)
    (old : ∀ c : Nat, c < s.heap.objs.size → H' c = H c) (new : ∀ (c : Nat) u, s.heap.objs.size ≤ c → H' c = some u → ObjOk X.prog X.w H' h' c u) : Inv X pins σ H' { s with heap := h', toks := t' } := by
  have nit : ∀ b u, H b = some u → b ∉ ch := fun b u e z => by
    have q := (hf b z).1
    rw [q] at e; cases e
  have ol : ∀ b u, H b = some u → H' b = some u := fun b u e => (old b (I.hok b u e).lt).trans e
  refine I.step (g' := s.gens) (d' := s.drawn) (ch := ch) (fun b hb => ⟨(hf b hb).2.2.2.1, (hf b hb).2.1, (hf b hb).2.2.2.2.1, (hf b hb).2.2.2.2.2⟩) (fun b o _ _ hc e _ => k b o hc e) (fun b o _ _ hc e _ => ⟨o.slots, k b o hc e⟩)
    (fun b o _ e n => (old b (Heap.lt_size e)).trans n) (fun b o hc e => ⟨o, k b o hc e⟩) (fun b xs e => ol b _ e) (fun b o u e => ol b _ e) (fun b ps e => ⟨#[], by rw [ol b _ e]; simp⟩) (fun m hm => ?_) (fun b u e => ?_) I.bare
  · obtain ⟨o, es, ep, ho, r⟩ := hm
    exact ⟨o, es, ep, k _ o (fun z => (hf _ z).2.1 rfl) ho, r⟩
  · by_cases hb : (b : Nat) < s.heap.objs.size
    · rw [old b hb] at e
      refine (I.hok b u e).stay (fun c v hc q => k c v ?_ q) (fun c q => ol c _ q) fun c xs q => ol c _ q
      rcases hc with z | z
      · rw [z]; exact nit b u e
      · exact nit c _ z
    · exact new b u (Nat.le_of_not_lt hb) e
end
/-- the list of the pairs at N, its tuples behind it -/
def zlH (H : Hp) (us vs : List V) (N : Nat) : Hp := fun (c : Nat) =>
  if c = N then some (.lst ((List.range (min us.length vs.length)).map fun j => V.ref (N + 1 + j)))
  else if N < c ∧ c ≤ N + min us.length vs.length then (match us[c - N - 1]?, vs[c - N - 1]? with
    | some x, some y => some (.tup [x, y])
    | _, _ => none)
  else H c
theorem zlH_at {H : Hp} {us vs : List V} {N : Nat} : zlH H us vs N N = some (.lst ((List.range (min us.length vs.length)).map fun j => V.ref (N + 1 + j))) := if_pos rfl
theorem zlH_tup {H : Hp} {us vs : List V} {N j : Nat} {x y : V} (hx : us[j]? = some x) (hy : vs[j]? = some y) : zlH H us vs N (N + 1 + j) = some (.tup [x, y]) := by
  have h1 := (List.getElem?_eq_some_iff.mp hx).1
  have h2 := (List.getElem?_eq_some_iff.mp hy).1
  unfold zlH
  rw [if_neg (by omega), if_pos (by omega), show N + 1 + j - N - 1 = j by omega, hx, hy]
theorem zlH_lo {H : Hp} {us vs : List V} {N c : Nat} (h : c < N) : zlH H us vs N c = H c := by
  unfold zlH
  rw [if_neg (by omega), if_neg (by omega)]
def rListZip (K : PySem.W.Frag) (n : Nat) : List V → Hp → VK → Prop := fun xs H Q => ∃ (a b : Nat) (k1 k2 : Bool) (m : Nat) (H0 : Hp) (us vs : List V), xs = [.ref (m + 4)] ∧ H = zH H0 k1 k2 a b m ∧ (∀ c : Nat, m ≤ c ∧ c < m + 5 → H0 c = none) ∧ n ≤ m ∧ a < m ∧ b < m ∧
  SqV K k1 H0 a us ∧ SqV K k2 H0 b vs ∧ min us.length vs.length ≤ sizeLine ∧ ∀ N : Nat, (∀ c : Nat, N ≤ c → H0 c = none) → Q (.ref N) (zlH H0 us vs N)
theorem vals_refs (f : Nat → Nat) : ∀ l : List Nat, Vals (l.map fun j => V.ref (f j)) (l.map fun j => Value.ref (f j))
  | [] => .nil
  | j :: l => .cons rfl (vals_refs f l)
theorem call_listZip {X : Cx} (hc : X.calm = true) : CallR X (.type "list") (rListZip X.K X.s_0.heap.objs.size) := by
  intro pins s σ H xs us Q I r h
  obtain ⟨a, b, k1, k2, m, H0, xu, xv, rfl, rfl, hn, hm, ham, hbm, hS1, hS2, hmin, q⟩ := h
  obtain ⟨u, rfl, ru⟩ := vals1 r
  cases ru
  obtain ⟨z0, z1, z2, z3, z4⟩ := zH_at (H := H0) (k1 := k1) (k2 := k2) (a := a) (b := b) (m := m)
  have g0 := (I.hok _ _ z0).1
  have g1 := (I.hok _ _ z1).1
  have g2 := (I.hok _ _ z2).1
  have g3 := (I.hok _ _ z3).1
  have g4 := (I.hok _ _ z4).1
  have I2 := inv_zdrop I fun c hc => zH_in hc
  rw [zD_zH hn] at I2
  have fp : ∀ c : Nat, m ≤ c ∧ c < m + 5 → FpOk X pins H0 c := fun c hc => by
    obtain ⟨φ, hφ⟩ := zH_in (H := H0) (k1 := k1) (k2 := k2) (a := a) (b := b) hc
    have := inv_zfp I hc hφ hm
    rw [zD_zH hn] at this
    exact this
  obtain ⟨its, rv, hs1⟩ := src I2 hS1
  obtain ⟨its2, rv2, hs2⟩ := src I2 hS2
  have e1 : its.toArray.size = xu.length := by rw [List.size_toArray]; exact rv.length.symm
  have e2 : its2.toArray.size = xv.length := by rw [List.size_toArray]; exact rv2.length.symm
  refine call_list_zip (k1 := k1) (k2 := k2) (I.ok.hd hc) (zip_sep2 (fp1 := [a]) (fp2 := [b]) (fun c hcm => by rw [List.mem_singleton.mp hcm]; exact ham) (fun c hcm => by rw [List.mem_singleton.mp hcm]; exact hbm)) (Nat.ne_of_lt ham) (Nat.ne_of_lt (Nat.lt_succ_of_lt hbm))
    (by rw [e1, e2]; exact hmin) g4 g3 g2 g0 hs1 g1 hs2 fun h' tk acc' c' kk eN L => ?_
  rw [e1, e2] at L
  refine ⟨.ref s.heap.objs.size, zlH H0 xu xv s.heap.objs.size, inv_news (t' := tk) (ch := [m + 4, m + 3, m, m + 1]) I2 (fun c o hc e => ?_) (fun c hc => fp c (in_five (by
    rcases (show (c : Nat) = m + 4 ∨ (c : Nat) = m + 3 ∨ (c : Nat) = m ∨ (c : Nat) = m + 1 by simpa using hc) with z | z | z | z <;> simp [z]))) (fun c hc => zlH_lo hc) (fun c u hc e => ?_), rfl, q _ fun c hc => I2.hok.fresh hc⟩
  · exact kk c o (Heap.lt_size e) (fun z => hc (by simp [z])) (fun z => hc (by simp [z])) (fun z => hc (by simp [z])) (fun z => hc (by simp [z])) e
  · by_cases h1 : c = s.heap.objs.size
    · subst h1
      rw [zlH_at] at e
      cases e
      refine ⟨by simpa using hmin, _, c', vals_refs (fun j => s.heap.objs.size + 1 + j) _, ?_⟩
      rw [eN, L.acc]
    · by_cases h2 : c ≤ s.heap.objs.size + min xu.length xv.length
      · obtain ⟨j, rfl⟩ : ∃ j, c = s.heap.objs.size + 1 + j := ⟨c - s.heap.objs.size - 1, by omega⟩
        have lx : j < xu.length := by omega
        have ly : j < xv.length := by omega
        rw [zlH_tup (List.getElem?_eq_getElem lx) (List.getElem?_eq_getElem ly)] at e
        cases e
        obtain ⟨x', y', q1, q2, q3⟩ := L.tup j (by omega)
        obtain ⟨v1, w1, r1⟩ := rv.get (List.getElem?_eq_getElem lx)
        obtain ⟨v2, w2, r2⟩ := rv2.get (List.getElem?_eq_getElem ly)
        rw [List.getElem?_toArray, w1] at q1
        rw [List.getElem?_toArray, w2] at q2
        have q1' := Option.some.inj q1
        have q2' := Option.some.inj q2
        subst q1' q2'
        exact ⟨by show 2 ≤ sizeLine; decide, [v1, v2], .cons r1 (.cons r2 .nil), ⟨_, q3, rfl, _, rfl⟩⟩
      · exfalso
        unfold zlH at e
        rw [if_neg h1, if_neg (by omega)] at e
        rw [I2.hok.fresh hc] at e
        cases e
theorem Reps.of_get {K : PySem.W.Frag} {xl al : List Addr} {H : Hp} : ∀ {ds : List D} {vs : List V}, ds.length = vs.length → (∀ (i : Nat) (d : D), ds[i]? = some d → ∃ v, vs[i]? = some v ∧ Rep K xl al H d v) → Reps K xl al H ds vs
  | [], [], _, _ => .nil
  | d :: ds, v :: vs, hl, h => by
    obtain ⟨u, e, r⟩ := h 0 d rfl
    simp at e; subst e
    exact .cons r (Reps.of_get (by simpa using hl) fun i d hd => by
      obtain ⟨u, e, r⟩ := h (i + 1) d (by simpa using hd)
      exact ⟨u, by simpa using e, r⟩)
def listZipO (xs : List D) (S : DS) : Ou D := match xs with
  | [d, e] => match asSeq d, asSeq e with
    | some ys, some zs => if min ys.length zs.length ≤ 9000 then .ok (.vl (zipD ys zs)) S else .no
    | _, _ => .no
  | _ => .no
theorem e_listZip {X : Cx} {cm : CM} {W : WX} {p p2 pos pos2 : Pos} {e e2 : Expr} {mm : MA} (hc : X.calm = true) (hl : Gl X "list") (hlm : X.mg "list" = none) (hg : Gl X "zip") (hm : X.mg "zip" = none) (ha : AOk X cm W [e, e2] mm)
    (hs : starEach [e, e2] X.env = (false, eval e X.env) :: starEach [e2] X.env := by rfl) (hpl : (backTo pos2 (starEach [e2] X.env)).any (·.1) = false := by rfl) :
    EOk X cm W (.Call (.Name "list" p) [.Call (.Name "zip" p2) [e, e2] [] pos2] [] pos) (mL listZipO mm) := by
  obtain ⟨t, pt, d⟩ := ha
  refine ⟨_, pe_callTy (call_listZip hc) hl hlm (by decide +kernel) (pa_cons (pe_zipV hg hm pt hs hpl) pa_nil), fun xl al σ H S env Q w r q => ?_⟩
  refine d xl al σ H S env _ w r (q.bind.imp fun xs S1 al1 H1 e1 w1 p1 vs rvs => ?_)
  unfold listZipO at p1
  split at p1
  · rename_i d1 d2
    split at p1
    · rename_i ys zs h1 h2
      split at p1
      · rename_i hmin
        obtain ⟨u1, u2, rfl, ru1, ru2⟩ := reps2 rvs
        obtain ⟨a, k1, us1, rfl, hS1, r1, l1⟩ := seq_later h1 ru1
        obtain ⟨b, k2, us2, rfl, hS2, r2, l2⟩ := seq_later h2 ru2
        refine ⟨a, b, k1, k2, rfl, ⟨us1, hS1⟩, ⟨us2, hS2⟩, fun m hn hm ham hbm => ?_⟩
        refine ⟨a, b, k1, k2, m, H1, us1, us2, rfl, rfl, hn, hm, ham, hbm, hS1, hS2, by rw [← r1.length, ← r2.length]; exact Nat.le_trans hmin (by decide), fun N hN => ?_⟩
        have lo : ∀ (c : Nat) u, H1 c = some u → c < N := fun c u e => Nat.lt_of_not_le fun z => by rw [hN c z] at e; cases e
        have keep : ∀ (c : Nat) u, H1 c = some u → zlH H1 us1 us2 N c = some u := fun c u e => (zlH_lo (lo c u e)).trans e
        have ex : Ext al1 H1 al1 (zlH H1 us1 us2 N) := ⟨⟨[], by simp⟩, fun c o _ e => keep c o e, fun c ws e => by
          rcases e with e | ⟨o, e⟩
          · exact .inl (keep c _ e)
          · exact .inr ⟨o, keep c _ e⟩, fun c h n => absurd h n⟩
        have w2 : Wd X.K xl S1 al1 (zlH H1 us1 us2 N) := w1.keep ex fun c hc => by
          obtain ⟨_, _, _, e⟩ := w1.at hc
          rw [keep c _ e, e]
        have nN := w1.new (hN N (Nat.le_refl _))
        refine p1 al1 _ ex w2 _ (.vl zlH_at nN.1 nN.2 (Reps.of_get ?_ fun i d hd => ?_))
        · rw [zipD_len, List.length_map, List.length_range, r1.length, r2.length]
        · obtain ⟨x, y, hx, hy, rfl⟩ := zipD_get ys zs i d hd
          obtain ⟨v1, e1, s1⟩ := r1.get hx
          obtain ⟨v2, e2, s2⟩ := r2.get hy
          have l1 := (List.getElem?_eq_some_iff.mp e1).1
          have l2 := (List.getElem?_eq_some_iff.mp e2).1
          refine ⟨.ref (N + 1 + i), by rw [List.getElem?_map, List.getElem?_range (by omega)]; rfl, .tup (.inl (.inl (zlH_tup e1 e2))) (.cons (s1.mono ex) (.cons (s2.mono ex) .nil))⟩
      · exact p1.elim
    · exact p1.elim
  · exact p1.elim

/-- a def that calls itself, at the depth 0: nothing is said -/
theorem DAt.ok0 {P : Program} {w : World} {K : PySem.W.Frag} {mg : Str → Option Value} {base : Heap} {cm : CM} {x name : Str} {st : Stmt} {ps : List Str} {k : Nat} (G : DAt K mg x name st ps) : FnC P w K mg base cm k x (fun _ _ => .no) := by
  obtain ⟨f, fd, h1, h2, F, hb⟩ := G.ex
  obtain ⟨oc, od, kV, doc, pm, an, cdv, ct, osl, rfl, lk, hcd⟩ := F.ex
  exact ⟨f, _, ps, h1, h2, .all hb, ⟨fun ds S h => absurd rfl h, fun _ _ _ _ _ _ _ _ _ _ _ _ _ _ _ _ _ _ _ _ p => p.elim⟩, ⟨_, _, _, lk⟩⟩
end DL

namespace DL
open PySem PySem.Spec PyProof.Rows L2
/-! t[::-1] -/
section
variable {prog : Program} {w : World} {A : Around} {E : Value → Shared → Prop} {s : Shared}
theorem sliceApplied_rev {sl : Addr} {t : Tok} {n : Nat} {Q : Int × Int × Nat → Shared → Prop} (hs : s.heap.IsSliceOf sl .none .none (.int (-1) t))
    (h : Q ((n : Int) - 1, -1, n) s) : wpAny (model prog w) A (Builtin.Slice.sliceApplied (.ref sl) (pure (n : Int))) Q E s := by
  obtain ⟨os, hos, hcs, hds⟩ := id hs
  unfold Builtin.Slice.sliceApplied Builtin.Slice.sliceFields
  refine wpAny_bind (wpAny_bind (wpAny_field hos hds (x := .none) rfl (wpAny_bind (wpAny_field hos hds (x := .none) rfl (wpAny_bind (wpAny_field hos hds (x := .int (-1) t) rfl (wpAny_pure ?_)))))))
  refine wpAny_bind (slicePart_int ?_)
  show wpAny _ _ (if ((-1 : Int) == 0) = true then _ else _) _ _ s
  rw [if_neg (by decide)]
  refine wpAny_bind (slicePart_none (wpAny_bind (slicePart_none (wpAny_bind (wpAny_pure ?_)))))
  show wpAny _ _ (match Builtin.Slice.sliceAdjust none none (-1) (n : Int) with | (lo, hi) => pure (lo, (-1 : Int), Builtin.Slice.slicePlaces lo hi (-1))) _ _ s
  have e1 : Builtin.Slice.sliceAdjust none none (-1) (n : Int) = ((n : Int) - 1, -1) := rfl
  rw [e1]
  have e2 : Builtin.Slice.slicePlaces ((n : Int) - 1) (-1) (-1) = n := by
    unfold Builtin.Slice.slicePlaces
    have h1 : ¬ ((-1 : Int) > 0) := by omega
    have h2 : (((n : Int) - 1 - -1 - 1) / (- -1)) = (n : Int) - 1 := by
      rw [show (- -1 : Int) = 1 from rfl, Int.ediv_one]; omega
    simp only [h1, if_false, h2]
    split <;> omega
  show wpAny _ _ (pure ((n : Int) - 1, (-1 : Int), Builtin.Slice.slicePlaces ((n : Int) - 1) (-1) (-1))) _ _ s
  rw [e2]
  exact wpAny_pure h
theorem pick_rev (xs : Array Value) : ((List.range xs.size).filterMap fun (m : Nat) => xs[(((xs.size : Int) - 1) + (m : Int) * (-1)).toNat]?) = xs.toList.reverse := by
  have e : ∀ (l : List Nat), (∀ m ∈ l, m < xs.size) → (l.filterMap fun (m : Nat) => xs[(((xs.size : Int) - 1) + (m : Int) * (-1)).toNat]?) = l.map fun m => xs.toList.reverse.getD m .none := by
    intro l
    induction l with
    | nil => exact fun _ => rfl
    | cons m l ih =>
      intro h
      have hm := h m (List.mem_cons_self ..)
      have e1 : (((xs.size : Int) - 1) + (m : Int) * (-1)).toNat = xs.size - 1 - m := by omega
      have hx : xs[xs.size - 1 - m]? = some (xs.toList.reverse.getD m .none) := by
        rw [List.getD_eq_getElem?_getD, List.getElem?_reverse (by simpa using hm), Array.length_toList, Array.getElem?_toList, Array.getElem?_eq_getElem (by omega)]
        rfl
      rw [List.filterMap_cons, e1, hx, List.map_cons, ih fun k hk => h k (List.mem_cons_of_mem _ hk)]
  rw [e _ fun m hm => by simpa using hm]
  refine List.ext_getElem? fun i => ?_
  by_cases hi : i < xs.size
  · have hl : i < xs.toList.reverse.length := by simpa using hi
    rw [List.getElem?_map, List.getElem?_range hi, Option.map_some, List.getD_eq_getElem?_getD, List.getElem?_eq_getElem hl]
    rfl
  · rw [List.getElem?_eq_none (by simp; omega), List.getElem?_eq_none (by simp; omega)]
theorem getItem_rev {t sl : Addr} {items : Array Value} {tk : Tok} {Q : Value → Shared → Prop} (ht : IsTup s.heap t items) (hs : s.heap.IsSliceOf sl .none .none (.int (-1) tk))
    (h : Q (.ref s.heap.objs.size) { s with heap := s.heap.push { cls := .type "tuple", data := .seq items.toList.reverse.toArray } })
    (hsz : items.size ≤ sizeLine) : wpAny (model prog w) A (getItem (.ref t) (.ref sl)) Q E s := by
  have htake : sizeOk (.seq items.toList.reverse.toArray) := by
    show items.toList.reverse.toArray.size ≤ sizeLine
    rw [List.size_toArray, List.length_reverse, Array.length_toList]
    exact hsz
  obtain ⟨os, hos, hcs, hds⟩ := id hs
  have hTs : s.TypeIs (.ref sl) "slice" := ⟨os, hos, hcs⟩
  unfold getItem
  try with_reducible refine wpAny_holding ?_
  first | refine wpAny_bind (wpAny_pure ?_) | skip
  refine wpAny_bind (wpAny_sequenceKey ht.typeIs (by decide) ?_)
  refine wpAny_bind (wpAny_callSpecial?_slot (name := Str.ofString "__getitem__") ht.typeIs PyProof.Rows.slot_tuple_getitem
    (wpAny_call_entry PyProof.Rows.slot_tuple_getitem ht.typeIs entry_tuple_getitem ?_ (args_tuple_getitem _ _)))
  show wpAny _ _ (Builtin.Tuple.tupleItemsOf (.ref t) >>= _) _ _ s
  refine wpAny_bind (tupleItemsOf_ ht ?_)
  refine wpAny_bind (wpAny_typeOf hTs ?_)
  rw [if_pos (by decide)]
  refine wpAny_bind (sliceApplied_rev hs ?_)
  have hno : ¬ ((((items.size : Int) - 1 : Int) == 0 && (-1 : Int) == 1 && items.size == items.size) = true) := by
    intro q
    rw [Bool.and_eq_true, Bool.and_eq_true] at q
    exact absurd q.1.2 (by decide)
  show wpAny _ _ (if (((items.size : Int) - 1 : Int) == 0 && (-1 : Int) == 1 && items.size == items.size) = true then _ else _) _ _ s
  rw [if_neg hno, pick_rev]
  first
    | exact wpAny_bind (m := Builtin.Tuple.tupleExact _) (wpAny_newObj_type (wpAny_pure ⟨_, rfl, wpAny_pure h⟩) htake)
    | exact wpAny_bind (m := Builtin.Tuple.tupleExact _) (wpAny_newObj_type (wpAny_bind (wpAny_pure (wpAny_pure ⟨_, rfl, wpAny_pure h⟩))) htake)
end
section
variable {X : Cx} {cm : CM} {W : WX} {pos p2 : Pos}
def tRev (K : PySem.W.Frag) (te ts : TE) : TE := fun σ H Q => te σ H fun x H1 => ts σ H1 fun y H2 => y = .int (-1) ∧ ∃ a xs, x = .ref a ∧ SqT K H2 a xs ∧ ∀ p, H2 p = none → Q (.ref p) (upd H2 p (.tup xs.reverse))
/-- t[::-1] -/
theorem pe_rev {e st : Expr} {te ts : TE} (he : PE X e te) (hs : PE X st ts) : PE X (.Subscript e (.Slice none none (some st) p2) pos) (tRev X.K te ts) := by
  refine ⟨fun pins s σ H Q I h => ?_⟩
  refine Subscript_ (thn (he.run pins s σ H _ I h) fun v s1 ⟨x, H1, I1, r1, q1⟩ => ?_)
  refine wpAny_Slice ?_
  rw [evalPart_none]
  refine wpAny_pure (wpAny_pure ?_)
  rw [evalPart_some]
  refine thn (hs.run pins s1 σ H1 _ I1 q1) fun u s3 ⟨y, H3, I3, r3, ey, a, xs, ex, hx, q3⟩ => ?_
  subst ey ex
  obtain ⟨t, rfl⟩ := r3
  cases r1
  have I4 : Inv X pins σ H3 { s3 with heap := s3.heap.push { cls := .type "slice", data := .fields #[.none, .none, .int (-1) t] } } := I3.kept (t' := s3.toks) fun b ob q => Heap.get?_push_of_some _ q
  obtain ⟨its, r, ht, hz⟩ := I4.tuple hx
  have hlen : its.toArray.size = xs.length := by rw [List.size_toArray]; exact r.length.symm
  show wpAny (model X.prog X.w) X.A (subscriptTail e (.Slice none none (some st) p2) (.ref a) (.ref s3.heap.objs.size)) (EP X pins σ Q) X.xe { s3 with heap := s3.heap.push { cls := .type "slice", data := .fields #[.none, .none, .int (-1) t] } }
  refine tail_any (ops := [.ref a, .ref s3.heap.objs.size]) ht.typeIs PyProof.Rows.slot_tuple_getitem.lookup ?_ (by with_unfolding_all rfl)
  refine getItem_rev ht (Heap.IsSliceOf.new ..) ?_ (by rw [hlen]; exact hz)
  refine ⟨.ref _, _, I4.laid (t' := s3.toks) (o := .tup xs.reverse) (fun b ob q => Heap.get?_push_of_some _ q) (Nat.le_refl _) ?_, rfl, q3 _ (I4.hok.fresh (Nat.le_refl _))⟩
  exact ⟨by rw [List.length_reverse]; exact hz, _, r.reverse, IsTup.new _ _⟩
def revO (x : D) (st : D) (S : DS) : Ou D := match x, st with
  | .tup xs, .int (-1) => .ok (.tup xs.reverse) S
  | _, _ => .no
theorem e_rev {e st : Expr} {ma ms : ME} (ha : EOk X cm W e ma) (hs : EOk X cm W st ms) : EOk X cm W (.Subscript e (.Slice none none (some st) p2) pos) (m2 revO ma ms) := by
  obtain ⟨ta, pa, da⟩ := ha
  obtain ⟨tb, pb, db⟩ := hs
  refine ⟨_, pe_rev pa pb, fun xl al σ H S env Q w r q => ?_⟩
  refine da xl al σ H S env _ w r (q.bind.imp fun x S1 al1 H1 e1 w1 p1 v rv => ?_)
  refine db xl al1 σ H1 S1 env _ w1 (r.mono e1) (p1.bind.imp fun y S2 al2 H2 e2 w2 p2 u ru => ?_)
  unfold revO at p2
  split at p2
  · obtain ⟨a, vs, rfl, ha, r1⟩ := rep_tup (rv.mono e2)
    cases ru
    refine ⟨rfl, a, vs, rfl, ha, fun q hq => ?_⟩
    exact p2 al2 _ (ext_new hq) (w2.put hq) _ (Rep.newTup (S := S2) hq r1.reverse)
  · exact p2.elim
def mDct : ME := fun _ S => .ok .dct S
theorem e_dct0 : EOk X cm W (.Dict [] [] pos) mDct := by
  refine ⟨_, pe_dnewK, fun xl al σ H S env Q w r p => fun q hq => ?_⟩
  exact p al _ (ext_new hq) (w.put hq) _ (.dct upd_same (w.new hq).1)
end
end DL

namespace DL
open PySem PySem.Spec PyProof.Rows L2

/-! ### plain reckoning with the printed functions: what stands first is worked out first -/
section
variable {α β : Type} {f : D → D → DS → Ou D} {a b c : ME} {env : DE} {S : DS}
@[simp] theorem mC_at (d : D) : mC d env S = .ok d S := (rfl)
@[simp] theorem mV_at (i : Nat) : mV i env S = match env[i]? with
  | some (some d) => .ok d S
  | _ => .no := (rfl)
@[simp] theorem m1_at (f : D → DS → Ou D) : m1 f a env S = (a env S).bind f := (rfl)
def m2K (f : D → D → DS → Ou D) (b : ME) (env : DE) (o : Ou D) : Ou D := o.bind fun x S1 => (b env S1).bind fun y S2 => f x y S2
def m2J (f : D → D → DS → Ou D) (x : D) (o : Ou D) : Ou D := o.bind fun y S2 => f x y S2
@[simp] theorem m2_at : m2 f a b env S = m2K f b env (a env S) := (rfl)
@[simp] theorem m2K_ok (x : D) : m2K f b env (.ok x S) = m2J f x (b env S) := (rfl)
@[simp] theorem m2J_ok (x y : D) : m2J f x (.ok y S) = f x y S := (rfl)
@[simp] theorem maN_at : maN env S = .ok [] S := (rfl)
def maK (r : MA) (env : DE) (o : Ou D) : Ou (List D) := o.bind fun x S1 => (r env S1).bind fun xs S2 => .ok (x :: xs) S2
def maJ (x : D) (o : Ou (List D)) : Ou (List D) := o.bind fun xs S2 => .ok (x :: xs) S2
@[simp] theorem maC_at (r : MA) : maC a r env S = maK r env (a env S) := (rfl)
@[simp] theorem maK_ok (r : MA) (x : D) : maK r env (.ok x S) = maJ x (r env S) := (rfl)
@[simp] theorem maJ_ok (x : D) (xs : List D) : maJ x (.ok xs S) = .ok (x :: xs) S := (rfl)
@[simp] theorem mL_at (f : List D → DS → Ou D) (r : MA) : mL f r env S = (r env S).bind f := (rfl)
def tK (o : Ou D) : Ou Bool := o.bind fun d S1 => match d with
  | .bl b => .ok b S1
  | _ => .no
@[simp] theorem mT_at : mT a env S = tK (a env S) := (rfl)
@[simp] theorem tK_ok (b : Bool) : tK (.ok (.bl b) S) = .ok b S := (rfl)
def truK (o : Ou D) : Ou Bool := o.bind fun d S1 => match truD S1 d with
  | some b => .ok b S1
  | none => .no
@[simp] theorem mTr_at : mTr a env S = truK (a env S) := (rfl)
@[simp] theorem truK_ok (d : D) : truK (.ok d S) = match truD S d with
  | some b => .ok b S
  | none => .no := (rfl)
def andK (b : MT) (env : DE) (o : Ou Bool) : Ou Bool := o.bind fun c S1 => if c = true then b env S1 else .ok false S1
def orK (b : MT) (env : DE) (o : Ou Bool) : Ou Bool := o.bind fun c S1 => if c = true then .ok true S1 else b env S1
def notK (o : Ou Bool) : Ou Bool := o.bind fun c S1 => .ok (!c) S1
@[simp] theorem mAnd_at (p q : MT) : mAnd p q env S = andK q env (p env S) := (rfl)
@[simp] theorem andK_t (q : MT) : andK q env (.ok true S) = q env S := (rfl)
@[simp] theorem andK_f (q : MT) : andK q env (.ok false S) = .ok false S := (rfl)
theorem andK_ok (q : MT) (k : Bool) : andK q env (.ok k S) = if k = true then q env S else .ok false S := (rfl)
@[simp] theorem mOr_at (p q : MT) : mOr p q env S = orK q env (p env S) := (rfl)
@[simp] theorem orK_t (q : MT) : orK q env (.ok true S) = .ok true S := (rfl)
@[simp] theorem orK_f (q : MT) : orK q env (.ok false S) = q env S := (rfl)
theorem orK_ok (q : MT) (k : Bool) : orK q env (.ok k S) = if k = true then .ok true S else q env S := (rfl)
@[simp] theorem mNot_at (p : MT) : mNot p env S = notK (p env S) := (rfl)
@[simp] theorem notK_ok (k : Bool) : notK (.ok k S) = .ok (!k) S := (rfl)
def andVK (b : ME) (env : DE) (o : Ou D) : Ou D := o.bind fun d S1 => match d with
  | .bl c => if c = true then b env S1 else .ok (.bl false) S1
  | _ => .no
def orVK (b : ME) (env : DE) (o : Ou D) : Ou D := o.bind fun d S1 => match d with
  | .bl c => if c = true then .ok (.bl true) S1 else b env S1
  | _ => .no
def notVK (o : Ou D) : Ou D := o.bind fun d S1 => match d with
  | .bl c => .ok (.bl (!c)) S1
  | _ => .no
@[simp] theorem mAndV_at : mAndV a b env S = andVK b env (a env S) := (rfl)
@[simp] theorem andVK_t : andVK b env (.ok (.bl true) S) = b env S := (rfl)
@[simp] theorem andVK_f : andVK b env (.ok (.bl false) S) = .ok (.bl false) S := (rfl)
theorem andVK_ok (k : Bool) : andVK b env (.ok (.bl k) S) = if k = true then b env S else .ok (.bl false) S := (rfl)
@[simp] theorem mOrV_at : mOrV a b env S = orVK b env (a env S) := (rfl)
@[simp] theorem orVK_t : orVK b env (.ok (.bl true) S) = .ok (.bl true) S := (rfl)
@[simp] theorem orVK_f : orVK b env (.ok (.bl false) S) = b env S := (rfl)
theorem orVK_ok (k : Bool) : orVK b env (.ok (.bl k) S) = if k = true then .ok (.bl true) S else b env S := (rfl)
@[simp] theorem mNotV_at : mNotV a env S = notVK (a env S) := (rfl)
@[simp] theorem notVK_ok (k : Bool) : notVK (.ok (.bl k) S) = .ok (.bl (!k)) S := (rfl)
def ifK (a b : ME) (env : DE) (o : Ou Bool) : Ou D := o.bind fun k S1 => if k = true then a env S1 else b env S1
@[simp] theorem mIf_at (p : MT) : mIf p a b env S = ifK a b env (p env S) := (rfl)
@[simp] theorem ifK_t : ifK a b env (.ok true S) = a env S := (rfl)
@[simp] theorem ifK_f : ifK a b env (.ok false S) = b env S := (rfl)
theorem ifK_ok (k : Bool) : ifK a b env (.ok k S) = if k = true then a env S else b env S := (rfl)
def chK (f g : D → D → DS → Ou D) (b c : ME) (env : DE) (o : Ou D) : Ou D := o.bind fun x S1 => (b env S1).bind fun y S2 => (f x y S2).bind fun k S3 => match k with
  | .bl k => if k = true then (c env S3).bind fun z S4 => g y z S4 else .ok (.bl false) S3
  | _ => .no
def chJ (f g : D → D → DS → Ou D) (c : ME) (env : DE) (x : D) (o : Ou D) : Ou D := o.bind fun y S2 => (f x y S2).bind fun k S3 => match k with
  | .bl k => if k = true then (c env S3).bind fun z S4 => g y z S4 else .ok (.bl false) S3
  | _ => .no
def chI (g : D → D → DS → Ou D) (c : ME) (env : DE) (y : D) (o : Ou D) : Ou D := o.bind fun k S3 => match k with
  | .bl k => if k = true then (c env S3).bind fun z S4 => g y z S4 else .ok (.bl false) S3
  | _ => .no
variable {g : D → D → DS → Ou D}
@[simp] theorem mChain_at : mChain f g a b c env S = chK f g b c env (a env S) := (rfl)
@[simp] theorem chK_ok (x : D) : chK f g b c env (.ok x S) = chJ f g c env x (b env S) := (rfl)
@[simp] theorem chJ_ok (x y : D) : chJ f g c env x (.ok y S) = chI g c env y (f x y S) := (rfl)
@[simp] theorem chI_t (y : D) : chI g c env y (.ok (.bl true) S) = m2J g y (c env S) := (rfl)
@[simp] theorem chI_f (y : D) : chI g c env y (.ok (.bl false) S) = .ok (.bl false) S := (rfl)
theorem chI_ok (y : D) (k : Bool) : chI g c env y (.ok (.bl k) S) = if k = true then m2J g y (c env S) else .ok (.bl false) S := by cases k <;> rfl
def slK (f : D → Option Int → Option Int → DS → Ou D) (lo hi : MO) (env : DE) (o : Ou D) : Ou D := o.bind fun x S1 => (lo env S1).bind fun l S2 => (hi env S2).bind fun u S3 => f x l u S3
def slJ (f : D → Option Int → Option Int → DS → Ou D) (hi : MO) (env : DE) (x : D) (o : Ou (Option Int)) : Ou D := o.bind fun l S2 => (hi env S2).bind fun u S3 => f x l u S3
def slI (f : D → Option Int → Option Int → DS → Ou D) (x : D) (l : Option Int) (o : Ou (Option Int)) : Ou D := o.bind fun u S3 => f x l u S3
variable {h : D → Option Int → Option Int → DS → Ou D} {lo hi : MO}
@[simp] theorem mSl_at : mSl h a lo hi env S = slK h lo hi env (a env S) := (rfl)
@[simp] theorem slK_ok (x : D) : slK h lo hi env (.ok x S) = slJ h hi env x (lo env S) := (rfl)
@[simp] theorem slJ_ok (x : D) (l : Option Int) : slJ h hi env x (.ok l S) = slI h x l (hi env S) := (rfl)
@[simp] theorem slI_ok (x : D) (l u : Option Int) : slI h x l (.ok u S) = h x l u S := (rfl)
@[simp] theorem moN_at : moN env S = .ok none S := (rfl)
def moK (o : Ou D) : Ou (Option Int) := o.bind fun d S1 => match d with
  | .int i => .ok (some i) S1
  | _ => .no
@[simp] theorem moS_at : moS a env S = moK (a env S) := (rfl)
@[simp] theorem moK_ok (i : Int) : moK (.ok (.int i) S) = .ok (some i) S := (rfl)
def isiK (T : String) (o : Ou D) : Ou D := o.bind fun d S1 => match isTy T d with
  | some b => .ok (.bl b) S1
  | none => .no
def isi2K (T U : String) (o : Ou D) : Ou D := o.bind fun d S1 => match isTy T d, isTy U d with
  | some b, some c => .ok (.bl (b || c)) S1
  | _, _ => .no
@[simp] theorem isiM_at (T : String) : isiM T a env S = isiK T (a env S) := (rfl)
@[simp] theorem isiK_ok (T : String) (d : D) : isiK T (.ok d S) = match isTy T d with
  | some b => .ok (.bl b) S
  | none => .no := (rfl)
@[simp] theorem isiM2_at (T U : String) : isiM2 T U a env S = isi2K T U (a env S) := (rfl)
@[simp] theorem isi2K_ok (T U : String) (d : D) : isi2K T U (.ok d S) = match isTy T d, isTy U d with
  | some b, some c => .ok (.bl (b || c)) S
  | _, _ => .no := (rfl)
def methK (T : RcT) (f : D → List D → DS → Ou D) (r : MA) (env : DE) (o : Ou D) : Ou D := o.bind fun x S1 => if T.ok x = true then (r env S1).bind fun xs S2 => f x xs S2 else .no
def methJ (f : D → List D → DS → Ou D) (x : D) (o : Ou (List D)) : Ou D := o.bind fun xs S2 => f x xs S2
@[simp] theorem mMeth_at (T : RcT) (f : D → List D → DS → Ou D) (r : MA) : mMeth T f a r env S = methK T f r env (a env S) := (rfl)
@[simp] theorem methK_ok (T : RcT) (f : D → List D → DS → Ou D) (r : MA) (x : D) : methK T f r env (.ok x S) = if T.ok x = true then methJ f x (r env S) else .no := (rfl)
@[simp] theorem methJ_ok (f : D → List D → DS → Ou D) (x : D) (xs : List D) : methJ f x (.ok xs S) = f x xs S := (rfl)
/-! statements -/
def retK (env : DE) (o : Ou D) : Ou (Fl × DE) := lift o env fun d S1 => .ok (.rt d, env) S1
def setK (i : Nat) (env : DE) (o : Ou D) : Ou (Fl × DE) := lift o env fun d S1 => .ok (.nx, env.set i (some d)) S1
def doK (env : DE) (o : Ou D) : Ou (Fl × DE) := lift o env fun _ S1 => .ok (.nx, env) S1
def gK (o : Ou DE) : Ou (Fl × DE) := o.bind fun env' S2 => .ok (.nx, env') S2
def asgK (g : MG) (env : DE) (o : Ou D) : Ou (Fl × DE) := lift o env fun d S1 => gK (g d env S1)
def parK (i j : Nat) (env : DE) (o : Ou (List D)) : Ou (Fl × DE) := lift o env fun ds S1 => match ds with
  | [x, y] => .ok (.nx, (env.set i (some x)).set j (some y)) S1
  | _ => .no
def par3K (i j l : Nat) (env : DE) (o : Ou (List D)) : Ou (Fl × DE) := lift o env fun ds S1 => match ds with
  | [x, y, z] => .ok (.nx, ((env.set i (some x)).set j (some y)).set l (some z)) S1
  | _ => .no
def ifSK (p q : MS) (env : DE) (o : Ou Bool) : Ou (Fl × DE) := lift o env fun k S1 => if k = true then p env S1 else q env S1
def seqK (b : MS) (o : Ou (Fl × DE)) : Ou (Fl × DE) := o.bind fun r S1 => match r.1 with
  | .nx => b r.2 S1
  | f => .ok (f, r.2) S1
variable {i j l : Nat} {p q : MS} {d x y z : D} {env' : DE} {r : MA} {mt : MT} {mg : MG}
@[simp] theorem mRet_at : mRet a env S = retK env (a env S) := (rfl)
@[simp] theorem retK_ok : retK env (.ok d S) = .ok (.rt d, env) S := (rfl)
@[simp] theorem mRetN_at : mRetN env S = .ok (.rt .non, env) S := (rfl)
@[simp] theorem mNx_at : mNx env S = .ok (.nx, env) S := (rfl)
@[simp] theorem mBk_at : mBk env S = .ok (.bk, env) S := (rfl)
@[simp] theorem mCt_at : mCt env S = .ok (.ct, env) S := (rfl)
@[simp] theorem mDo_at : mDo a env S = doK env (a env S) := (rfl)
@[simp] theorem doK_ok : doK env (.ok d S) = .ok (.nx, env) S := (rfl)
@[simp] theorem mSet_at : mSet i a env S = setK i env (a env S) := (rfl)
@[simp] theorem setK_ok : setK i env (.ok d S) = .ok (.nx, env.set i (some d)) S := (rfl)
@[simp] theorem mAsg_at : mAsg mg a env S = asgK mg env (a env S) := (rfl)
@[simp] theorem asgK_ok : asgK mg env (.ok d S) = gK (mg d env S) := (rfl)
@[simp] theorem gK_ok : gK (.ok env' S) = .ok (.nx, env') S := (rfl)
@[simp] theorem mPar_at : mPar i j r env S = parK i j env (r env S) := (rfl)
@[simp] theorem parK_ok : parK i j env (.ok [x, y] S) = .ok (.nx, (env.set i (some x)).set j (some y)) S := (rfl)
@[simp] theorem mPar3_at : mPar3 i j l r env S = par3K i j l env (r env S) := (rfl)
@[simp] theorem par3K_ok : par3K i j l env (.ok [x, y, z] S) = .ok (.nx, ((env.set i (some x)).set j (some y)).set l (some z)) S := (rfl)
@[simp] theorem mIfS_at : mIfS mt p q env S = ifSK p q env (mt env S) := (rfl)
@[simp] theorem ifSK_t : ifSK p q env (.ok true S) = p env S := (rfl)
@[simp] theorem ifSK_f : ifSK p q env (.ok false S) = q env S := (rfl)
theorem ifSK_ok (k : Bool) : ifSK p q env (.ok k S) = if k = true then p env S else q env S := (rfl)
@[simp] theorem mSeq_at : mSeq p q env S = seqK q (p env S) := (rfl)
@[simp] theorem seqK_nx : seqK q (.ok (.nx, env) S) = q env S := (rfl)
@[simp] theorem seqK_rt : seqK q (.ok (.rt d, env) S) = .ok (.rt d, env) S := (rfl)
@[simp] theorem seqK_bk : seqK q (.ok (.bk, env) S) = .ok (.bk, env) S := (rfl)
@[simp] theorem seqK_ct : seqK q (.ok (.ct, env) S) = .ok (.ct, env) S := (rfl)
@[simp] theorem seqK_xc (x : Exn) : seqK q (.ok (.xc x, env) S) = .ok (.xc x, env) S := (rfl)
def augK (i : Nat) (f : D → D → DS → Ou D) (env : DE) (x : D) (o : Ou D) : Ou (Fl × DE) := lift o env fun y S1 => setK i env (f x y S1)
@[simp] theorem mAug_at : mAug i f a env S = match env[i]? with
  | some (some x) => augK i f env x (a env S)
  | _ => .no := (rfl)
@[simp] theorem augK_ok : augK i f env x (.ok y S) = setK i env (f x y S) := (rfl)
@[simp] theorem retO_rt : retO (.ok (.rt d, env) S) = .ok d S := (rfl)
@[simp] theorem retO_nx : retO (.ok (.nx, env) S) = .ok .non S := (rfl)
theorem defM_at (n N : Nat) (ds : List D) : defM n N p ds S = if ds.length = n then retO (p (startE N ds) S) else .no := (rfl)
theorem defD_at (n N : Nat) (ds : List D) : defD n N p ds S = if ds.length = n then dropO S.length (retO (p (startE N ds) S)) else .no := (rfl)
@[simp] theorem gN_at : gN i d env S = .ok (env.set i (some d)) S := (rfl)
@[simp] theorem gsN_at : gsN [] env S = .ok env S := (rfl)
def gsK (r : List D → DE → DS → Ou DE) (ds : List D) (o : Ou DE) : Ou DE := o.bind fun env1 S1 => r ds env1 S1
@[simp] theorem gsC_at (r : List D → DE → DS → Ou DE) (ds : List D) : gsC mg r (d :: ds) env S = gsK r ds (mg d env S) := (rfl)
@[simp] theorem gsK_ok (r : List D → DE → DS → Ou DE) (ds : List D) : gsK r ds (.ok env S) = r ds env S := (rfl)
@[simp] theorem gT_at (n : Nat) (r : List D → DE → DS → Ou DE) (ds : List D) : gT n r (.tup ds) env S = if ds.length = n then r ds env S else .no := (rfl)
def gSubK (i : ME) (f : D → D → D → DS → Ou Unit) (v : D) (env : DE) (o : Ou D) : Ou DE := o.bind fun x S1 => (i env S1).bind fun k S2 => (f x k v S2).bind fun _ S3 => .ok env S3
def gSubJ (f : D → D → D → DS → Ou Unit) (v : D) (env : DE) (x : D) (o : Ou D) : Ou DE := o.bind fun k S2 => (f x k v S2).bind fun _ S3 => .ok env S3
def gSubI (env : DE) (o : Ou Unit) : Ou DE := o.bind fun _ S3 => .ok env S3
variable {sf : D → D → D → DS → Ou Unit}
@[simp] theorem gSubM_at : gSubM a b sf d env S = gSubK b sf d env (a env S) := (rfl)
@[simp] theorem gSubK_ok : gSubK b sf d env (.ok x S) = gSubJ sf d env x (b env S) := (rfl)
@[simp] theorem gSubJ_ok : gSubJ sf d env x (.ok y S) = gSubI env (sf x y d S) := (rfl)
@[simp] theorem gSubI_ok : gSubI env (.ok () S) = .ok env S := (rfl)
/-! loops -/
noncomputable def forK (mg : MG) (p : MS) (env : DE) (o : Ou Itm) : Ou (Fl × DE) := lift o env fun it S1 => forL mg p it it.items env S1
@[simp] theorem mFor_at (mi : MIt) : mFor mi mg p env S = forK mg p env (mi env S) := (rfl)
@[simp] theorem forK_ok (it : Itm) : forK mg p env (.ok it S) = forL mg p it it.items env S := (rfl)
@[simp] theorem mSeqI_at : mSeqI a env S = (a env S).bind asItm := (rfl)
@[simp] theorem mArgI_at (f : List D → DS → Ou Itm) : mArgI f r env S = (r env S).bind f := (rfl)
@[simp] theorem asItm_tup (xs : List D) : asItm (.tup xs) S = .ok ⟨xs, none⟩ S := (rfl)
@[simp] theorem asItm_vl (xs : List D) : asItm (.vl xs) S = .ok ⟨xs, none⟩ S := (rfl)
@[simp] theorem asItm_fz (xs : List D) : asItm (.fz xs) S = .ok ⟨xs, none⟩ S := (rfl)
/-- one turn of a for -/
def turn (mg : MG) (p : MS) (d : D) (env : DE) (S : DS) : Ou (Fl × DE) := (mg d env S).bind fun env1 S1 => p env1 S1
def turnK (p : MS) (o : Ou DE) : Ou (Fl × DE) := o.bind fun env1 S1 => p env1 S1
@[simp] theorem turn_at : turn mg p d env S = turnK p (mg d env S) := (rfl)
@[simp] theorem turnK_ok : turnK p (.ok env S) = p env S := (rfl)
noncomputable def forN (mg : MG) (p : MS) (it : Itm) (r : List D) (o : Ou (Fl × DE)) : Ou (Fl × DE) := o.bind fun q S2 => match q.1 with
    | .nx => forL mg p it r q.2 S2
    | .ct => forL mg p it r q.2 S2
    | .bk => .ok (.nx, q.2) S2
    | f => .ok (f, q.2) S2
variable {it : Itm}
theorem forL_nil (h : it.g = none) : forL mg p it [] env S = .ok (.nx, env) S := by
  obtain ⟨xs, g⟩ := it
  cases h
  exact gate_none _ _ _
theorem forL_cons (h : it.g = none) (r : List D) : forL mg p it (d :: r) env S = forN mg p it r (turn mg p d env S) := by
  obtain ⟨xs, g⟩ := it
  cases h
  have e : forL mg p ⟨xs, none⟩ (d :: r) env S = (mg d env S).bind fun env1 S1 => (p env1 S1).bind fun q S2 => match q.1 with
    | .nx => forL mg p ⟨xs, none⟩ r q.2 S2
    | .ct => forL mg p ⟨xs, none⟩ r q.2 S2
    | .bk => .ok (.nx, q.2) S2
    | f => .ok (f, q.2) S2 := gate_none _ _ _
  rw [e]
  unfold forN turn
  cases mg d env S <;> rfl
@[simp] theorem forN_nx (r : List D) : forN mg p it r (.ok (.nx, env) S) = forL mg p it r env S := (rfl)
@[simp] theorem forN_ct (r : List D) : forN mg p it r (.ok (.ct, env) S) = forL mg p it r env S := (rfl)
@[simp] theorem forN_bk (r : List D) : forN mg p it r (.ok (.bk, env) S) = .ok (.nx, env) S := (rfl)
@[simp] theorem forN_rt (r : List D) : forN mg p it r (.ok (.rt d, env) S) = .ok (.rt d, env) S := (rfl)
@[simp] theorem forN_xc (r : List D) (x : Exn) : forN mg p it r (.ok (.xc x, env) S) = .ok (.xc x, env) S := (rfl)
/-- the first item that answers -/
theorem forL_find (hg : it.g = none) {E : DE → Prop} {f : D → Option D} {S : DS} : ∀ (ds : List D) (env : DE), E env →
    (∀ d ∈ ds, ∀ env, E env → ∃ env', E env' ∧ turn mg p d env S = match f d with
      | none => .ok (.nx, env') S
      | some x => .ok (.rt x, env') S) → ∃ env', E env' ∧ forL mg p it ds env S = match ds.findSome? f with
      | none => .ok (.nx, env') S
      | some x => .ok (.rt x, env') S
  | [], env, he, _ => ⟨env, he, forL_nil hg⟩
  | d :: ds, env, he, h => by
    obtain ⟨env1, h1, e1⟩ := h d (List.mem_cons_self ..) env he
    rw [forL_cons hg, e1, List.findSome?_cons]
    cases f d with
    | none => exact forL_find hg ds env1 h1 fun d hd => h d (List.mem_cons_of_mem _ hd)
    | some x => exact ⟨env1, h1, rfl⟩
/-- a for that goes to its end, or returns what Q says -/
theorem forL_inv (hg : it.g = none) {I : Nat → DE → DS → Prop} {Q : D → DS → Prop} : ∀ (ds : List D) (k : Nat) (env : DE) (S : DS), I k env S →
    (∀ i d, ds[i]? = some d → ∀ env S, I (k + i) env S → (∃ env' S', turn mg p d env S = .ok (.nx, env') S' ∧ I (k + i + 1) env' S') ∨ (∃ x env' S', turn mg p d env S = .ok (.rt x, env') S' ∧ Q x S')) →
    (∃ env' S', forL mg p it ds env S = .ok (.nx, env') S' ∧ I (k + ds.length) env' S') ∨ (∃ x env' S', forL mg p it ds env S = .ok (.rt x, env') S' ∧ Q x S')
  | [], k, env, S, he, _ => .inl ⟨env, S, forL_nil hg, he⟩
  | d :: ds, k, env, S, he, h => by
    rw [forL_cons hg]
    rcases h 0 d rfl env S he with ⟨env1, S1, e1, h1⟩ | ⟨x, env1, S1, e1, h1⟩
    · rw [e1, forN_nx]
      have := forL_inv hg (I := I) (Q := Q) ds (k + 1) env1 S1 h1 fun i d hd env S hi => by
        have := h (i + 1) d (by simpa using hd) env S (by rw [show k + (i + 1) = k + 1 + i by omega]; exact hi)
        rw [show k + (i + 1) = k + 1 + i by omega] at this
        exact this
      rw [show k + (d :: ds).length = k + 1 + ds.length by simp; omega]
      exact this
    · exact .inr ⟨x, env1, S1, by rw [e1, forN_rt], h1⟩
/-- .. that always goes to its end -/
theorem forL_all (hg : it.g = none) {I : Nat → DE → DS → Prop} (ds : List D) (k : Nat) (env : DE) (S : DS) (h0 : I k env S)
    (h : ∀ i d, ds[i]? = some d → ∀ env S, I (k + i) env S → ∃ env' S', turn mg p d env S = .ok (.nx, env') S' ∧ I (k + i + 1) env' S') :
    ∃ env' S', forL mg p it ds env S = .ok (.nx, env') S' ∧ I (k + ds.length) env' S' := by
  rcases forL_inv hg (Q := fun _ _ => False) ds k env S h0 fun i d hd env S hi => .inl (h i d hd env S hi) with h | ⟨_, _, _, _, h⟩
  · exact h
  · exact h.elim
/-! comprehensions -/
noncomputable def lcK (g : MG) (tt : MT) (el : ME) (vs : List Nat) (fin : List D → DS → Ou D) (env : DE) (o : Ou Itm) : Ou D := o.bind fun it S1 => if it.items.length ≤ sizeLine then (lcL g tt el (wipeE env vs) it it.items [] S1).bind fin else .no
variable {tt : MT} {el : ME} {vs : List Nat} {fin : List D → DS → Ou D}
@[simp] theorem lcM_at (mi : MIt) : lcM mi mg tt el vs fin env S = lcK mg tt el vs fin env (mi env S) := (rfl)
theorem lcK_ok : lcK mg tt el vs fin env (.ok it S) = if it.items.length ≤ sizeLine then (lcL mg tt el (wipeE env vs) it it.items [] S).bind fin else .no := (rfl)
@[simp] theorem mYes_at : mYes env S = .ok true S := (rfl)
@[simp] theorem finV_at (xs : List D) : finV xs S = .ok (.vl xs) S := (rfl)
@[simp] theorem finR_at (xs : List D) : finR xs S = .ok (.ref S.length) (S ++ [.lst xs]) := (rfl)
/-- one item of a comprehension without tests -/
def cell (g : MG) (el : ME) (d : D) (env : DE) (S : DS) : Ou D := (g d env S).bind fun env1 S1 => el env1 S1
def cellK (el : ME) (o : Ou DE) : Ou D := o.bind fun env1 S1 => el env1 S1
@[simp] theorem cell_at : cell mg el d env S = cellK el (mg d env S) := (rfl)
@[simp] theorem cellK_ok : cellK el (.ok env S) = el env S := (rfl)
theorem lcL_nil (h : it.g = none) (acc : List D) : lcL mg tt el env it [] acc S = .ok acc S := by
  obtain ⟨xs, g⟩ := it
  cases h
  exact gate_none _ _ _
theorem lcL_cons (h : it.g = none) (r acc : List D) {y : D} {S' : DS} (e : cell mg el d env S = .ok y S') : lcL mg mYes el env it (d :: r) acc S = lcL mg mYes el env it r (acc ++ [y]) S' := by
  obtain ⟨xs, g⟩ := it
  cases h
  have e1 : lcL mg mYes el env ⟨xs, none⟩ (d :: r) acc S = (mg d env S).bindN fun env1 S1 => (mYes env1 S1).bindN fun b S2 => if b = true then (el env1 S2).bindN fun y S3 => lcL mg mYes el env ⟨xs, none⟩ r (acc ++ [y]) S3 else lcL mg mYes el env ⟨xs, none⟩ r acc S2 := gate_none _ _ _
  rw [e1]
  unfold cell at e
  cases h : mg d env S with
  | ok env1 S1 =>
    rw [h] at e
    have e : el env1 S1 = .ok y S' := e
    simp [e]
  | ex x S1 => rw [h] at e; cases e
  | no => rw [h] at e; cases e
/-- every item by itself, the state untouched -/
theorem lcL_map (hg : it.g = none) {f : D → D} : ∀ (ds acc : List D), (∀ d ∈ ds, cell mg el d env S = .ok (f d) S) → lcL mg mYes el env it ds acc S = .ok (acc ++ ds.map f) S
  | [], acc, _ => by rw [lcL_nil hg, List.map_nil, List.append_nil]
  | d :: ds, acc, h => by
    rw [lcL_cons hg ds acc (h d (List.mem_cons_self ..)), lcL_map hg ds _ fun d hd => h d (List.mem_cons_of_mem _ hd), List.map_cons, List.append_assoc]
    rfl
/-- .. with a state that is kept in I; P: what is said of the item made at i -/
theorem lcL_inv (hg : it.g = none) {I : DS → Prop} {P : Nat → D → Prop} : ∀ (ds acc : List D) (k : Nat) (S : DS), I S → (∀ i d, ds[i]? = some d → ∀ S, I S → ∃ y S', cell mg el d env S = .ok y S' ∧ I S' ∧ P (k + i) y) →
    ∃ ys S', lcL mg mYes el env it ds acc S = .ok (acc ++ ys) S' ∧ I S' ∧ ys.length = ds.length ∧ ∀ i y, ys[i]? = some y → P (k + i) y
  | [], acc, k, S, hi, _ => ⟨[], S, by rw [lcL_nil hg, List.append_nil], hi, rfl, fun i y h => by simp at h⟩
  | d :: ds, acc, k, S, hi, h => by
    obtain ⟨y, S1, e1, h1, p1⟩ := h 0 d rfl S hi
    obtain ⟨ys, S2, e2, h2, l2, p2⟩ := lcL_inv hg (P := P) ds (acc ++ [y]) (k + 1) S1 h1 fun i d hd S hs => by
      have := h (i + 1) d (by simpa using hd) S hs
      rw [show k + (i + 1) = k + 1 + i by omega] at this
      exact this
    refine ⟨y :: ys, S2, by rw [lcL_cons hg ds acc e1, e2, List.append_assoc]; rfl, h2, by simp [l2], fun i z hz => ?_⟩
    cases i with
    | zero => simp at hz; subst hz; exact p1
    | succ i =>
      have := p2 i z (by simpa using hz)
      rw [show k + (i + 1) = k + 1 + i by omega]
      exact this
end
end DL

namespace DL
open PySem PySem.Spec PyProof.Rows L2

@[simp] theorem startE_at (N : Nat) (ds : List D) : startE N ds = ds.map some ++ List.replicate (N - ds.length) none := (rfl)
@[simp] theorem addO_int (i j : Int) (S : DS) : addO (.int i) (.int j) S = .ok (.int (i + j)) S := (rfl)
@[simp] theorem subO_int (i j : Int) (S : DS) : subO (.int i) (.int j) S = .ok (.int (i - j)) S := (rfl)
@[simp] theorem negO_int (i : Int) (S : DS) : negO (.int i) S = .ok (.int (-i)) S := (rfl)
@[simp] theorem modO_int (i j : Int) (S : DS) : modO (.int i) (.int j) S = if j ≠ 0 then .ok (.int (i.fmod j)) S else .no := (rfl)
@[simp] theorem cmpO_int (f : Int → Int → Bool) (i j : Int) (S : DS) : cmpO f (.int i) (.int j) S = .ok (.bl (f i j)) S := (rfl)
@[simp] theorem eqO_int (i j : Int) (S : DS) : eqO (.int i) (.int j) S = .ok (.bl (decide (i = j))) S := (rfl)
@[simp] theorem neO_int (i j : Int) (S : DS) : neO (.int i) (.int j) S = .ok (.bl (!decide (i = j))) S := (rfl)
@[simp] theorem eqO_str (i j : Str) (S : DS) : eqO (.str i) (.str j) S = .ok (.bl (decide (i = j))) S := (rfl)
@[simp] theorem neO_str (i j : Str) (S : DS) : neO (.str i) (.str j) S = .ok (.bl (!decide (i = j))) S := (rfl)
@[simp] theorem eqO_is (i : Int) (j : Str) (S : DS) : eqO (.int i) (.str j) S = .ok (.bl false) S := (rfl)
@[simp] theorem neO_is (i : Int) (j : Str) (S : DS) : neO (.int i) (.str j) S = .ok (.bl true) S := (rfl)
@[simp] theorem eqO_si (i : Int) (j : Str) (S : DS) : eqO (.str j) (.int i) S = .ok (.bl false) S := (rfl)
@[simp] theorem ixO_tup (xs : List D) (i : Int) (S : DS) : ixO (.tup xs) (.int i) S = getI xs i S := (rfl)
@[simp] theorem ixO_vl (xs : List D) (i : Int) (S : DS) : ixO (.vl xs) (.int i) S = getI xs i S := (rfl)
@[simp] theorem ixO_ref (p : Nat) (i : Int) (S : DS) : ixO (.ref p) (.int i) S = match S[p]? with
    | some (DO.lst xs) => getI xs i S
    | none => .no := (rfl)
theorem ixN_nat {n : Nat} {i : Int} (h0 : 0 ≤ i) (h1 : i < n) : ixN n i = some i.toNat := by
  unfold ixN
  rw [if_pos h0, if_pos h1]
theorem getI_nat {xs : List D} {i : Int} {d : D} {S : DS} (h0 : 0 ≤ i) (h : xs[i.toNat]? = some d) : getI xs i S = .ok d S := by
  have hl : i.toNat < xs.length := by
    by_cases z : i.toNat < xs.length
    · exact z
    · rw [List.getElem?_eq_none (by omega)] at h; cases h
  have e : atI xs i = some d := by
    unfold atI
    rw [ixN_nat h0 (by omega)]
    exact h
  unfold getI
  rw [e]
theorem getI_neg {xs : List D} {i : Int} {d : D} {S : DS} (h1 : i < 0) (h2 : -(xs.length : Int) ≤ i) (h : xs[(i + xs.length).toNat]? = some d) : getI xs i S = .ok d S := by
  have e : atI xs i = some d := by
    unfold atI ixN
    rw [if_neg (by omega), if_pos h2]
    exact h
  unfold getI
  rw [e]

/-! data that may be shown: ints of at most k digits -/
mutual
def okD (k : Nat) : D → Bool
  | .non => true
  | .bl _ => true
  | .int i => decide (i.natAbs < 10 ^ k)
  | .str x => PyData.strOk x
  | .tup xs => okDs k xs
  | .vl xs => okDs k xs
  | .fz xs => okDs k xs
  | .ref _ => false
  | .dct => false
def okDs (k : Nat) : List D → Bool
  | [] => true
  | x :: xs => okD k x && okDs k xs
end
mutual
def pyD : D → PyData
  | .non => .none
  | .bl b => .bool b
  | .int i => .int i
  | .str x => .str x
  | .tup xs => .tuple (pyDs xs)
  | .vl xs => .list (pyDs xs)
  | .fz xs => .list (pyDs xs)
  | .ref _ => .none
  | .dct => .none
def pyDs : List D → List PyData
  | [] => []
  | x :: xs => pyD x :: pyDs xs
end
mutual
def dep : D → Nat
  | .tup xs => deps xs + 1
  | .vl xs => deps xs + 1
  | .fz xs => deps xs + 1
  | _ => 0
def deps : List D → Nat
  | [] => 0
  | x :: xs => max (dep x) (deps xs)
end
mutual
def siz (k : Nat) : D → Nat
  | .int _ => 4 * k
  | .str x => x.cps.size
  | .tup xs => sizs k xs
  | .vl xs => sizs k xs
  | .fz xs => sizs k xs
  | _ => 0
def sizs (k : Nat) : List D → Nat
  | [] => 0
  | x :: xs => siz k x + 1 + sizs k xs
end
structure PyOk (k : Nat) (d : D) : Prop where
  py : toPy d = some (pyD d)
  lay : (pyD d).canLay0 = true
  dp : (pyD d).depth = dep d
  wt : (pyD d).weight ≤ siz k d
  sh : (pyD d).intsShort (k + 1) = true
  sw : k ≤ 570 → (pyD d).showable = true
structure PysOk (k : Nat) (ds : List D) : Prop where
  py : toPys ds = some (pyDs ds)
  lay : PyData.canLayAll0 (pyDs ds) = true
  dp : PyData.depthAll (pyDs ds) = deps ds
  wt : PyData.weightAll (pyDs ds) ≤ sizs k ds
  sh : PyData.intsShortAll (k + 1) (pyDs ds) = true
  sw : k ≤ 570 → PyData.showableAll (pyDs ds) = true
theorem pow_10_2 (k : Nat) : (10 : Nat) ^ k ≤ 2 ^ (4 * k) := by
  rw [Nat.pow_mul]
  exact Nat.pow_le_pow_left (by decide) k
theorem log_lt {n k : Nat} (h : n < 10 ^ k) (h0 : n ≠ 0) : n.log2 < 4 * k := (Nat.log2_lt h0).mpr (Nat.lt_of_lt_of_le h (pow_10_2 k))
theorem log_1920 {n k : Nat} (hk : k ≤ 570) (h : n < 10 ^ k) : n.log2 < 1920 := by
  by_cases h0 : n = 0
  · subst h0; decide
  · refine (Nat.log2_lt h0).mpr (Nat.lt_of_lt_of_le h ?_)
    refine Nat.le_trans (Nat.pow_le_pow_right (by decide) hk) (by decide +kernel)
mutual
theorem ok_py {k : Nat} (hk : 0 < k) : ∀ {d : D}, okD k d = true → PyOk k d
  | .non, _ => ⟨rfl, rfl, rfl, Nat.le_refl _, rfl, fun _ => rfl⟩
  | .bl _, _ => ⟨rfl, rfl, rfl, Nat.le_refl _, rfl, fun _ => rfl⟩
  | .int i, h => by
    have h' : i.natAbs < 10 ^ k := by simpa [okD] using h
    refine ⟨rfl, rfl, rfl, ?_, ?_, fun hk => ?_⟩
    · show (if i == 0 then 0 else i.natAbs.log2 + 1) ≤ 4 * k
      split
      · omega
      · rename_i h0
        have := log_lt h' (by simpa using h0)
        omega
    · have e := int_text_length_le10 hk h'
      show decide ((Str.ofString (toString i)).length ≤ k + 1) = true
      rw [PySem.ofString_length]
      exact decide_eq_true e
    · exact decide_eq_true (log_1920 hk h')
  | .str x, h => ⟨rfl, h, rfl, Nat.le_refl _, rfl, fun _ => rfl⟩
  | .tup xs, h => by
    have q := oks_py hk (ds := xs) (by simpa [okD] using h)
    exact ⟨by simp [toPy, q.py, pyD], by simpa [pyD, PyData.canLay0] using q.lay, by simp [pyD, PyData.depth, q.dp, dep], by simpa [pyD, PyData.weight, siz] using q.wt, by simpa [pyD, PyData.intsShort] using q.sh, fun z => by simpa [pyD, PyData.showable] using q.sw z⟩
  | .vl xs, h => by
    have q := oks_py hk (ds := xs) (by simpa [okD] using h)
    exact ⟨by simp [toPy, q.py, pyD], by simpa [pyD, PyData.canLay0] using q.lay, by simp [pyD, PyData.depth, q.dp, dep], by simpa [pyD, PyData.weight, siz] using q.wt, by simpa [pyD, PyData.intsShort] using q.sh, fun z => by simpa [pyD, PyData.showable] using q.sw z⟩
  | .fz xs, h => by
    have q := oks_py hk (ds := xs) (by simpa [okD] using h)
    exact ⟨by simp [toPy, q.py, pyD], by simpa [pyD, PyData.canLay0] using q.lay, by simp [pyD, PyData.depth, q.dp, dep], by simpa [pyD, PyData.weight, siz] using q.wt, by simpa [pyD, PyData.intsShort] using q.sh, fun z => by simpa [pyD, PyData.showable] using q.sw z⟩
  | .ref _, h => by simp [okD] at h
  | .dct, h => by simp [okD] at h
theorem oks_py {k : Nat} (hk : 0 < k) : ∀ {ds : List D}, okDs k ds = true → PysOk k ds
  | [], _ => ⟨rfl, rfl, rfl, Nat.le_refl _, rfl, fun _ => rfl⟩
  | x :: xs, h => by
    rw [okDs, Bool.and_eq_true] at h
    have p := ok_py hk h.1
    have q := oks_py hk h.2
    refine ⟨by simp [toPys, p.py, q.py, pyDs], by simp [pyDs, PyData.canLayAll0, p.lay, q.lay], by simp [pyDs, PyData.depthAll, p.dp, q.dp, deps], ?_, by simp [pyDs, PyData.intsShortAll, p.sh, q.sh], fun z => by simp [pyDs, PyData.showableAll, p.sw z, q.sw z]⟩
    have h1 := p.wt
    have h2 := q.wt
    simp only [pyDs, PyData.weightAll, sizs]
    omega
end
theorem shaped_of {k : Nat} {d : D} (q : PyOk k d) (h : dep d ≤ 64) : SeqAt.shaped (pyD d) = true := by
  unfold SeqAt.shaped
  rw [q.lay, q.dp]
  simpa using h
theorem eqP_ok {k : Nat} {x y : D} (p : PyOk k x) (q : PyOk k y) (hx : dep x ≤ 64) (hy : dep y ≤ 64) : eqP x y = some (PyData.eqv (pyD x) (pyD y)) := by
  unfold eqP
  rw [p.py, q.py]
  exact if_pos ⟨shaped_of p hx, shaped_of q hy⟩
theorem repr_ok {k : Nat} {d : D} {S : DS} (hk : 7 ≤ k) (hk2 : k ≤ 570) (h : okD k d = true) (hd : dep d ≤ 64) (hs : (k + 3) * siz k d + (k + 1) ≤ sizeLine) : reprO [d] S = .ok (.str (pyD d).shown) S := by
  have q := ok_py (by omega) h
  have e0 : toPyS S d = toPy d := by cases d <;> first | rfl | (simp [okD] at h)
  show (match toPyS S d with
    | some q => if q.showable = true ∧ SeqAt.shaped q = true ∧ q.shown.length ≤ sizeLine then Ou.ok (D.str q.shown) S else .no
    | none => .no) = _
  rw [e0, q.py]
  refine if_pos ⟨q.sw hk2, shaped_of q hd, ?_⟩
  have h1 := PyData.shown_le (k + 1) (by omega) (pyD d) (PyData.leavesShort_of_canLay0 (k + 1) (pyD d) q.lay q.sh)
  have h2 : (k + 1 + 2) * (pyD d).weight ≤ (k + 3) * siz k d := Nat.mul_le_mul_left _ q.wt
  omega
/-- a list that may be changed, as it stands -/
theorem repr_ref {k : Nat} {xs : List D} {p : Nat} {S : DS} (hS : S[p]? = some (.lst xs)) (hk : 7 ≤ k) (hk2 : k ≤ 570) (h : okD k (.vl xs) = true) (hd : dep (.vl xs) ≤ 64) (hs : (k + 3) * siz k (.vl xs) + (k + 1) ≤ sizeLine) : reprO [.ref p] S = .ok (.str (pyD (.vl xs)).shown) S := by
  rw [← repr_ok (S := S) hk hk2 h hd hs]
  have e : toPyS S (.ref p) = toPyS S (.vl xs) := by
    show (match S[p]? with
      | some (DO.lst xs) => (toPys xs).map PyData.list
      | none => none) = _
    rw [hS]
    rfl
  unfold reprO
  simp only [e]
/-- a thing is equal to itself -/
theorem eqP_self {k : Nat} {x : D} (hk : 0 < k) (h : okD k x = true) (hd : dep x ≤ 64) : eqP x x = some true := by
  have p := ok_py hk h
  rw [eqP_ok p p hd hd, SeqAt.eqv_refl _ p.lay]
theorem eqB_self {k : Nat} {x : D} (hk : 0 < k) (h : okD k x = true) (hd : dep x ≤ 64) : eqB x x = some true := by
  unfold eqB
  split
  · rename_i b e
    unfold scalD at e; cases x <;> simp at e <;> (cases e; simp_all)
  · exact eqP_self hk h hd
theorem eqO_self {k : Nat} {x : D} {S : DS} (hk : 0 < k) (h : okD k x = true) (hd : dep x ≤ 64) : eqO x x S = .ok (.bl true) S := by
  unfold eqO
  rw [eqB_self hk h hd]
theorem neO_self {k : Nat} {x : D} {S : DS} (hk : 0 < k) (h : okD k x = true) (hd : dep x ≤ 64) : neO x x S = .ok (.bl false) S := by
  unfold neO
  rw [eqB_self hk h hd]
  rfl
/-- pairs of ints -/
theorem eqP_pair (a b c d : Int) : eqP (.tup [.int a, .int b]) (.tup [.int c, .int d]) = some (decide (a = c) && decide (b = d)) := by
  unfold eqP
  simp [toPy, toPys, SeqAt.shaped, PyData.canLay0, PyData.canLayAll0, PyData.depth, PyData.depthAll, PyData.eqv, PyData.eqvAll]
  rfl
theorem eqO_pair (a b c d : Int) (S : DS) : eqO (.tup [.int a, .int b]) (.tup [.int c, .int d]) S = .ok (.bl (decide (a = c) && decide (b = d))) S := by
  unfold eqO eqB
  rw [show scalD (.tup [.int a, .int b]) (.tup [.int c, .int d]) = none from rfl, eqP_pair]
theorem neO_pair (a b c d : Int) (S : DS) : neO (.tup [.int a, .int b]) (.tup [.int c, .int d]) S = .ok (.bl (!(decide (a = c) && decide (b = d)))) S := by
  unfold neO eqB
  rw [show scalD (.tup [.int a, .int b]) (.tup [.int c, .int d]) = none from rfl, eqP_pair]
end DL

namespace DL
open PySem PySem.Spec PyProof.Rows L2
section
variable {α : Type} {mg : MG} {p : MS} {el : ME} {it : Itm} {env : DE} {S : DS}
/-- a comprehension over a list that is known -/
theorem lcL_F (hg : it.g = none) (g f : α → D) (as : List α) : ∀ (acc : List D), (∀ a ∈ as, cell mg el (g a) env S = .ok (f a) S) → lcL mg mYes el env it (as.map g) acc S = .ok (acc ++ as.map f) S := by
  induction as with
  | nil => exact fun acc _ => by rw [List.map_nil, lcL_nil hg, List.map_nil, List.append_nil]
  | cons a as ih =>
    intro acc h
    rw [List.map_cons, lcL_cons hg _ acc (h a (List.mem_cons_self ..)), ih _ fun b hb => h b (List.mem_cons_of_mem _ hb), List.map_cons, List.append_assoc]
    rfl
theorem lcK_F {vs : List Nat} {fin : List D → DS → Ou D} (g f : α → D) (as : List α) (hl : as.length ≤ sizeLine) (h : ∀ a ∈ as, cell mg el (g a) (wipeE env vs) S = .ok (f a) S) :
    lcK mg mYes el vs fin env (.ok ⟨as.map g, none⟩ S) = fin (as.map f) S := by
  rw [lcK_ok, if_pos (by rw [List.length_map]; exact hl), lcL_F rfl g f as [] h]
  rfl
theorem forL_F (hg : it.g = none) {E : DE → Prop} {S : DS} (g : α → D) (f : α → Option D) (as : List α) : ∀ (env : DE), E env →
    (∀ a ∈ as, ∀ env, E env → ∃ env', E env' ∧ turn mg p (g a) env S = match f a with
      | none => .ok (.nx, env') S
      | some x => .ok (.rt x, env') S) → ∃ env', E env' ∧ forL mg p it (as.map g) env S = match as.findSome? f with
      | none => .ok (.nx, env') S
      | some x => .ok (.rt x, env') S := by
  induction as with
  | nil => exact fun env he _ => ⟨env, he, forL_nil hg⟩
  | cons a as ih =>
    intro env he h
    obtain ⟨env1, h1, e1⟩ := h a (List.mem_cons_self ..) env he
    rw [List.map_cons, forL_cons hg, e1, List.findSome?_cons]
    cases f a with
    | none => exact ih env1 h1 fun d hd => h d (List.mem_cons_of_mem _ hd)
    | some x => exact ⟨env1, h1, rfl⟩
theorem rng1_nat (n : Nat) (h : n < 2 ^ 62) : rng1O [.int n] S = .ok ⟨(List.range n).map fun (i : Nat) => D.int (i : Int), none⟩ S := by
  have e : rng1O [.int n] S = if -(2 ^ 62) ≤ (n : Int) ∧ (n : Int) < 2 ^ 62 then .ok ⟨rangeD 0 (n : Int).toNat, none⟩ S else .no := rfl
  rw [e, if_pos ⟨by omega, by omega⟩]
  unfold rangeD
  simp
theorem getI_map (g : α → D) (as : List α) (i : Nat) {a : α} (h : as[i]? = some a) : getI (as.map g) (i : Int) S = .ok (g a) S := getI_nat (by omega) (by simp [h])
theorem asBls_true (as : List α) : asBls (as.map fun _ => D.bl true) = some (as.map fun _ => true) := by
  induction as with
  | nil => rfl
  | cons a as ih => simp [asBls, ih]
theorem all_true (as : List α) : allO [.vl (as.map fun _ => D.bl true)] S = .ok (.bl true) S := by
  show (match asBls (as.map fun _ => D.bl true) with
    | some bs => Ou.ok (D.bl (bs.all id)) S
    | none => .no) = _
  rw [asBls_true]
  simp
theorem lenO_tup (xs : List D) : lenO [.tup xs] S = .ok (.int xs.length) S := rfl
theorem lenO_vl (xs : List D) : lenO [.vl xs] S = .ok (.int xs.length) S := rfl
theorem tupO_le {xs : List D} (h : xs.length ≤ 1000) : tupO xs S = .ok (.tup xs) S := if_pos h
theorem lstO_le {xs : List D} (h : xs.length ≤ 1000) : lstO xs S = .ok (.vl xs) S := if_pos h
theorem tupleO_vl (xs : List D) : tupleO [.vl xs] S = .ok (.tup xs) S := rfl
theorem tupleO_tup (xs : List D) : tupleO [.tup xs] S = .ok (.tup xs) S := rfl
theorem intO_int (i : Int) : intO [.int i] S = .ok (.int i) S := rfl
theorem absO_nat (n : Nat) : absO [.int (n : Int)] S = .ok (.int (n : Int)) S := by
  have e : absO [.int (n : Int)] S = .ok (.int (if (n : Int) < 0 then -(n : Int) else n)) S := rfl
  rw [e, if_neg (by omega)]
theorem zipD_map {β : Type} (g : α → D) (f : β → D) : ∀ (as : List α) (bs : List β), zipD (as.map g) (bs.map f) = (as.zip bs).map fun x => .tup [g x.1, f x.2]
  | [], _ => by simp [zipD]
  | _ :: _, [] => by simp [zipD]
  | a :: as, b :: bs => by
    rw [List.map_cons, List.map_cons, zipD, List.zip_cons_cons, List.map_cons, zipD_map g f as bs]
theorem zipO_tup (xs ys : List D) : zipO [.tup xs, .tup ys] S = .ok ⟨zipD xs ys, none⟩ S := rfl
theorem okDs_map (K : Nat) (g : α → D) : ∀ as : List α, (∀ a ∈ as, okD K (g a) = true) → okDs K (as.map g) = true
  | [], _ => rfl
  | a :: as, h => by
    rw [List.map_cons, okDs, h a (List.mem_cons_self ..), okDs_map K g as fun b hb => h b (List.mem_cons_of_mem _ hb)]
    rfl
theorem deps_map (m : Nat) (g : α → D) : ∀ as : List α, (∀ a ∈ as, dep (g a) ≤ m) → deps (as.map g) ≤ m
  | [], _ => Nat.zero_le _
  | a :: as, h => by
    rw [List.map_cons, deps]
    exact Nat.max_le.mpr ⟨h a (List.mem_cons_self ..), deps_map m g as fun b hb => h b (List.mem_cons_of_mem _ hb)⟩
theorem sizs_map (K m : Nat) (g : α → D) : ∀ as : List α, (∀ a ∈ as, siz K (g a) ≤ m) → sizs K (as.map g) ≤ (m + 1) * as.length
  | [], _ => Nat.zero_le _
  | a :: as, h => by
    have h1 := h a (List.mem_cons_self ..)
    have h2 := sizs_map K m g as fun b hb => h b (List.mem_cons_of_mem _ hb)
    rw [List.map_cons, sizs, List.length_cons, Nat.mul_succ]
    omega
end
end DL

namespace FR
open PySem PySem.Spec PyProof.Rows L2 DL
/-! fractions in lowest terms: a Rat -/
def enc (q : Rat) : D := .tup [.int q.num, .int (q.den : Nat)]
theorem getI_0 (x : D) (xs : List D) (S : DS) : getI (x :: xs) 0 S = .ok x S := getI_nat (by decide) rfl
theorem getI_1 (x y : D) (xs : List D) (S : DS) : getI (x :: y :: xs) 1 S = .ok y S := getI_nat (by decide) rfl
theorem getI_2 (x y z : D) (xs : List D) (S : DS) : getI (x :: y :: z :: xs) 2 S = .ok z S := getI_nat (by decide) rfl
theorem getI_3 (x y z u : D) (xs : List D) (S : DS) : getI (x :: y :: z :: u :: xs) 3 S = .ok u S := getI_nat (by decide) rfl
theorem getI_4 (x y z u v : D) (xs : List D) (S : DS) : getI (x :: y :: z :: u :: v :: xs) 4 S = .ok v S := getI_nat (by decide) rfl
theorem enc0 (q : Rat) (S : DS) : ixO (enc q) (.int 0) S = .ok (.int q.num) S := getI_0 (.int q.num) [.int (q.den : Nat)] S
theorem enc1 (q : Rat) (S : DS) : ixO (enc q) (.int 1) S = .ok (.int (q.den : Nat)) S := getI_1 (.int q.num) (.int (q.den : Nat)) [] S
theorem enc_zero : enc 0 = .tup [.int 0, .int 1] := rfl
theorem enc_one : enc 1 = .tup [.int 1, .int 1] := rfl
theorem neO_enc (p q : Rat) (S : DS) : neO (enc p) (enc q) S = .ok (.bl (!decide (p = q))) S := by
  have e : decide (p = q) = (decide (p.num = q.num) && decide ((p.den : Int) = (q.den : Int))) := by
    rw [Bool.eq_iff_iff]
    simp only [decide_eq_true_eq, Bool.and_eq_true]
    exact ⟨fun h => by subst h; exact ⟨rfl, rfl⟩, fun ⟨h1, h2⟩ => Rat.ext h1 (by omega)⟩
  rw [e]
  exact neO_pair ..
theorem eqO_enc (p q : Rat) (S : DS) : eqO (enc p) (enc q) S = .ok (.bl (decide (p = q))) S := by
  have e : decide (p = q) = (decide (p.num = q.num) && decide ((p.den : Int) = (q.den : Int))) := by
    rw [Bool.eq_iff_iff]
    simp only [decide_eq_true_eq, Bool.and_eq_true]
    exact ⟨fun h => by subst h; exact ⟨rfl, rfl⟩, fun ⟨h1, h2⟩ => Rat.ext h1 (by omega)⟩
  rw [e]
  exact eqO_pair ..
/-! sizes: below 2 ^ k -/
structure Bd (k : Nat) (q : Rat) : Prop where
  n : q.num.natAbs < 2 ^ k
  d : q.den < 2 ^ k
theorem Bd.mono {j k : Nat} {q : Rat} (h : Bd j q) (hk : j ≤ k) : Bd k q :=
  ⟨Nat.lt_of_lt_of_le h.n (Nat.pow_le_pow_right (by decide) hk), Nat.lt_of_lt_of_le h.d (Nat.pow_le_pow_right (by decide) hk)⟩
theorem den_pos (q : Rat) : 0 < q.den := Nat.pos_of_ne_zero q.den_nz
theorem mul_lt {a b j k : Nat} (h1 : a < 2 ^ j) (h2 : b < 2 ^ k) : a * b < 2 ^ (j + k) := by
  rw [Nat.pow_add]
  exact Nat.mul_lt_mul_of_lt_of_le h1 (Nat.le_of_lt h2) (Nat.pos_of_ne_zero (by intro z; rw [z] at h2; omega))
theorem natAbs_add_lt {a b : Int} {k : Nat} (h1 : a.natAbs < 2 ^ k) (h2 : b.natAbs < 2 ^ k) : (a + b).natAbs < 2 ^ (k + 1) := by
  rw [Nat.pow_succ]
  omega
theorem mkRat_bd {t : Int} {b k : Nat} (h0 : 0 < b) (ht : t.natAbs < 2 ^ k) (hb : b < 2 ^ k) : Bd k (mkRat t b) := by
  refine ⟨?_, ?_⟩
  · rw [Rat.num_mkRat, if_neg (by omega)]
    exact Nat.lt_of_le_of_lt (by rw [Int.natAbs_ediv_of_dvd (Int.ofNat_dvd_left.mpr (Nat.gcd_dvd_right ..))]; exact Nat.div_le_self ..) ht
  · rw [Rat.den_mkRat, if_neg (by omega)]
    exact Nat.lt_of_le_of_lt (Nat.div_le_self ..) hb
theorem add_mk (p q : Rat) : p + q = mkRat (p.num * q.den + q.num * p.den) (p.den * q.den) := by
  conv => lhs; rw [← Rat.mkRat_self p, ← Rat.mkRat_self q]
  rw [Rat.mkRat_add_mkRat _ _ p.den_nz q.den_nz]
theorem mul_mk (p q : Rat) : p * q = mkRat (p.num * q.num) (p.den * q.den) := by
  conv => lhs; rw [← Rat.mkRat_self p, ← Rat.mkRat_self q]
  rw [Rat.mkRat_mul_mkRat]
theorem Bd.add {j k : Nat} {p q : Rat} (hp : Bd j p) (hq : Bd k q) : Bd (j + k + 1) (p + q) := by
  rw [add_mk]
  refine mkRat_bd (Nat.mul_pos (den_pos p) (den_pos q)) (natAbs_add_lt ?_ ?_) (Nat.lt_of_lt_of_le (mul_lt hp.d hq.d) (Nat.pow_le_pow_right (by decide) (by omega)))
  · rw [Int.natAbs_mul]; exact mul_lt hp.n (by simpa using hq.d)
  · rw [Int.natAbs_mul, Nat.mul_comm]; exact mul_lt (by simpa using hp.d) hq.n
theorem Bd.mul {j k : Nat} {p q : Rat} (hp : Bd j p) (hq : Bd k q) : Bd (j + k) (p * q) := by
  rw [mul_mk]
  exact mkRat_bd (Nat.mul_pos (den_pos p) (den_pos q)) (by rw [Int.natAbs_mul]; exact mul_lt hp.n hq.n) (mul_lt hp.d hq.d)
theorem Bd.neg {k : Nat} {q : Rat} (h : Bd k q) : Bd k (-q) := ⟨by rw [Rat.neg_num, Int.natAbs_neg]; exact h.n, by rw [Rat.neg_den]; exact h.d⟩
theorem Bd.sub {j k : Nat} {p q : Rat} (hp : Bd j p) (hq : Bd k q) : Bd (j + k + 1) (p - q) := by
  rw [Rat.sub_eq_add_neg]
  exact hp.add hq.neg
theorem bd0 {k : Nat} (h : 0 < k) : Bd k 0 := ⟨Nat.two_pow_pos k, Nat.one_lt_two_pow (by omega)⟩
theorem bd1 {k : Nat} (h : 0 < k) : Bd k 1 := ⟨Nat.one_lt_two_pow (by omega), Nat.one_lt_two_pow (by omega)⟩
/-! ints -/
theorem fdiv_small {i j : Int} (h : j.natAbs < 2 ^ 9000) : Builtin.divisionGoesByPylong i j = false := by
  unfold Builtin.divisionGoesByPylong
  have e : ¬ ((if (j == 0) = true then 0 else j.natAbs.log2 / 30 + 1) > 300) := by
    split
    · omega
    · rename_i h0
      have := (Nat.log2_lt (n := j.natAbs) (k := 9000) (by simpa using h0)).mpr h
      omega
  simp only [decide_eq_false e, Bool.false_and]
theorem fdiv_le {i j : Int} (h : i.natAbs ≤ j.natAbs) : Builtin.divisionGoesByPylong i j = false := by
  unfold Builtin.divisionGoesByPylong
  have e : ¬ ((if (i == 0) = true then 0 else i.natAbs.log2 / 30 + 1) > (if (j == 0) = true then 0 else j.natAbs.log2 / 30 + 1) + 150) := by
    have hl : i.natAbs.log2 ≤ j.natAbs.log2 := by
      by_cases z : i.natAbs = 0
      · rw [z]; exact Nat.zero_le _
      · by_cases zj : j.natAbs = 0
        · omega
        · exact (Nat.le_log2 zj).mpr (Nat.le_trans (Nat.log2_self_le z) h)
    by_cases zi : i = 0
    · rw [zi]; simp
    · have zj : j ≠ 0 := by intro z; rw [z] at h; simp at h; exact zi h
      rw [if_neg (by simpa using zi), if_neg (by simpa using zj)]
      have := Nat.div_le_div_right (c := 30) hl
      omega
  simp only [decide_eq_false e, Bool.and_false]
theorem fdivO_of {a b : Int} (S : DS) (h0 : 0 < b) (h : Builtin.divisionGoesByPylong a b = false) : fdivO (.int a) (.int b) S = .ok (.int (a / b)) S := by
  have e : fdivO (.int a) (.int b) S = if b ≠ 0 ∧ Builtin.divisionGoesByPylong a b = false then .ok (.int (a.fdiv b)) S else .no := rfl
  rw [e, if_pos ⟨by omega, h⟩, Int.fdiv_eq_ediv_of_nonneg _ (by omega)]
theorem mul_int {a b : Int} (S : DS) (h : a.natAbs < 2 ^ 400000) (h2 : b.natAbs < 2 ^ 400000) : mulO (.int a) (.int b) S = .ok (.int (a * b)) S := by
  have e : mulO (.int a) (.int b) S = if CMulA a b then .ok (.int (a * b)) S else .no := rfl
  rw [e, if_pos]
  refine .inr ?_
  have l : ∀ n : Nat, n < 2 ^ 400000 → n.log2 ≤ 400000 := fun n h => by
    by_cases h0 : n = 0
    · subst h0; decide
    · exact Nat.le_of_lt ((Nat.log2_lt h0).mpr h)
  have h3 := l _ h
  have h4 := l _ h2
  show a.natAbs.log2 + b.natAbs.log2 < 1000000
  omega
theorem lt4 {n k : Nat} (h : n < 2 ^ k) (hk : k ≤ 400000) : n < 2 ^ 400000 := Nat.lt_of_lt_of_le h (Nat.pow_le_pow_right (by decide) hk)
/-! ### the greatest common divisor -/
abbrev cW : MT := mT (m2 neO (mV 1) (mC (.int 0)))
abbrev cB : MS := mPar 0 1 (maC (mV 1) (maC (m2 modO (mV 0) (mV 1)) maN))
theorem while_f {c : MT} {p : MS} {env : DE} {S : DS} (h : c env S = .ok false S) : mWhile c p env S = .ok (.nx, env) S := by
  rw [mWhile_eq]
  rw [h]
  rfl
theorem gcd_emod (a b : Int) : Int.gcd (a % b) b = Int.gcd a b := by
  apply Nat.dvd_antisymm
  · have h1 : ((Int.gcd (a % b) b : Nat) : Int) ∣ a % b := Int.gcd_dvd_left ..
    have h2 : ((Int.gcd (a % b) b : Nat) : Int) ∣ b := Int.gcd_dvd_right ..
    have h3 : ((Int.gcd (a % b) b : Nat) : Int) ∣ a := by
      have := Int.dvd_add h1 (Int.dvd_mul_of_dvd_left (c := a / b) h2)
      rwa [Int.emod_add_mul_ediv a b] at this
    exact Int.ofNat_dvd.mp (Int.dvd_coe_gcd h3 h2)
  · have h1 : ((Int.gcd a b : Nat) : Int) ∣ a := Int.gcd_dvd_left ..
    have h2 : ((Int.gcd a b : Nat) : Int) ∣ b := Int.gcd_dvd_right ..
    have h3 : ((Int.gcd a b : Nat) : Int) ∣ a % b := by
      rw [Int.emod_def]
      exact Int.dvd_sub h1 (Int.dvd_mul_of_dvd_left h2)
    exact Int.ofNat_dvd.mp (Int.dvd_coe_gcd h3 h2)
/-- one % other, other above 0 -/
theorem fmod_nat (a : Int) {b : Nat} (h : 0 < b) : ∃ n : Nat, a.fmod b = n ∧ n < b ∧ Nat.gcd n b = Nat.gcd a.natAbs b := by
  refine ⟨(a % b).toNat, ?_, ?_, ?_⟩
  · have := Int.emod_nonneg a (b := (b : Int)) (by omega)
    rw [Int.fmod_eq_emod_of_nonneg _ (by omega)]
    omega
  · have := Int.emod_lt_of_pos a (b := (b : Int)) (by omega)
    omega
  · have h1 := Int.emod_nonneg a (b := (b : Int)) (by omega)
    have e := gcd_emod a (b : Int)
    have e2 : (a % (b : Int)).natAbs = (a % b).toNat := by omega
    unfold Int.gcd at e
    rw [e2] at e
    simpa using e
theorem common_loop (S : DS) : ∀ (b a : Nat), mWhile cW cB [some (.int a), some (.int b)] S = .ok (.nx, [some (.int (Nat.gcd a b : Nat)), some (.int 0)]) S := by
  intro b
  induction b using Nat.strongRecOn with
  | _ b ih =>
    intro a
    rw [mWhile_eq]
    by_cases h0 : b = 0
    · subst h0
      simp
    · have e : ((b : Int) = 0) = False := by simp [h0]
      obtain ⟨n, en, hn, hg⟩ := fmod_nat a (b := b) (by omega)
      have := ih n hn b
      simp [h0, en]
      rw [this]
      rw [Nat.gcd_comm b n, hg]
      simp
noncomputable def common : List D → DS → Ou D := defM 2 2
    (mSeq (mWhile (mT (m2 neO (mV 1) (mC (.int 0))))
    (mPar 0 1 (maC (mV 1) (maC (m2 modO (mV 0) (mV 1)) maN))))
    (mRet (mL absO (maC (mV 0) maN))))
theorem common_ok (a : Int) {b : Nat} (h : 0 < b) (S : DS) : common [.int a, .int (b : Nat)] S = .ok (.int (Nat.gcd a.natAbs b : Nat)) S := by
  obtain ⟨n, en, hn, hg⟩ := fmod_nat a h
  have l := common_loop S n b
  have e : ((b : Int) = 0) = False := by simp; omega
  have w : mWhile cW cB [some (.int a), some (.int b)] S = .ok (.nx, [some (.int (Nat.gcd b n : Nat)), some (.int 0)]) S := by
    rw [mWhile_eq]
    simp [show ¬ b = 0 by omega, en]
    rw [l]
  simp only [common, defM_at]
  simp
  rw [w]
  rw [← hg, Nat.gcd_comm n b]
  simp [absO, show ¬ ((Nat.gcd b n : Nat) : Int) < 0 by omega]
noncomputable def share : List D → DS → Ou D := defM 2 3
    (mSeq (mSet 2 (mL common (maC (mV 0) (maC (mV 1) maN))))
    (mSeq (mIfS (mT (m2 ltO (mV 1) (mC (.int 0))))
    (mSet 2 (m1 negO (mV 2)))
    mNx)
    (mRet (mL tupO (maC (m2 fdivO (mV 0) (mV 2)) (maC (m2 fdivO (mV 1) (mV 2)) maN))))))
/-- the division of both by their greatest divisor is a plain one -/
def Div (t : Int) (b : Nat) : Prop := Builtin.divisionGoesByPylong t (Nat.gcd t.natAbs b : Nat) = false ∧ Builtin.divisionGoesByPylong (b : Nat) (Nat.gcd t.natAbs b : Nat) = false
theorem div_small {t : Int} {b : Nat} (h : Nat.gcd t.natAbs b < 2 ^ 9000) : Div t b := ⟨fdiv_small (by rw [Int.natAbs_natCast]; exact h), fdiv_small (by rw [Int.natAbs_natCast]; exact h)⟩
theorem div_zero (b : Nat) : Div 0 b := by
  unfold Div
  rw [Int.natAbs_zero, Nat.gcd_zero_left]
  exact ⟨fdiv_le (by simp), fdiv_le (Nat.le_refl _)⟩
theorem share_ok {t : Int} {b : Nat} (S : DS) (h0 : 0 < b) (h : Div t b) : share [.int t, .int (b : Nat)] S = .ok (enc (mkRat t b)) S := by
  have hg : 0 < Nat.gcd t.natAbs b := Nat.gcd_pos_of_pos_right _ h0
  have d1 := fdivO_of (a := t) (b := (Nat.gcd t.natAbs b : Nat)) S (by omega) h.1
  have d2 := fdivO_of (a := (b : Nat)) (b := (Nat.gcd t.natAbs b : Nat)) S (by omega) h.2
  have e : enc (mkRat t b) = .tup [.int (t / (Nat.gcd t.natAbs b : Nat)), .int ((b : Int) / (Nat.gcd t.natAbs b : Nat))] := by
    unfold enc
    rw [Rat.num_mkRat, Rat.den_mkRat, if_neg (by omega), if_neg (by omega), Nat.gcd_comm b]
    rfl
  have c : ¬ (b : Int) < 0 := by omega
  rw [e]
  simp only [share, defM_at]
  simp [common_ok t h0, c, d1, d2, tupO]
end FR

namespace FR
open PySem PySem.Spec PyProof.Rows L2 DL
theorem gcd_plus {a c : Int} {b d : Nat} (h : a.natAbs.Coprime b) (hd : 0 < d) : Nat.gcd (a * d + c * b).natAbs (b * d) ≤ d * d := by
  have g1 : ((Nat.gcd (a * d + c * b).natAbs (b * d) : Nat) : Int) ∣ a * d + c * b := by
    have := Nat.gcd_dvd_left (a * d + c * b).natAbs (b * d)
    exact Int.ofNat_dvd_left.mpr this
  have g2 : ((Nat.gcd (a * d + c * b).natAbs (b * d) : Nat) : Int) ∣ (b : Int) * d := by
    have := Int.ofNat_dvd.mpr (Nat.gcd_dvd_right (a * d + c * b).natAbs (b * d))
    simpa using this
  generalize Nat.gcd (a * d + c * b).natAbs (b * d) = g at *
  have g3 : (g : Int) ∣ a * (d * d) := by
    have e : a * ((d : Int) * d) = (a * d + c * b) * d - b * d * c := by grind
    rw [e]
    exact Int.dvd_sub (Int.dvd_mul_of_dvd_left g1) (Int.dvd_mul_of_dvd_left g2)
  have g4 : (g : Int) ∣ (b : Int) * (d * d) := by
    rw [← Int.mul_assoc]
    exact Int.dvd_mul_of_dvd_left g2
  have n3 : g ∣ a.natAbs * (d * d) := by
    have := Int.natAbs_dvd_natAbs.mpr g3
    simpa [Int.natAbs_mul] using this
  have n4 : g ∣ b * (d * d) := by
    have := Int.natAbs_dvd_natAbs.mpr g4
    simpa [Int.natAbs_mul] using this
  have n5 : g ∣ d * d := by
    have := Nat.dvd_gcd n3 n4
    rw [Nat.gcd_mul_right, h.gcd_eq_one, Nat.one_mul] at this
    exact this
  exact Nat.le_of_dvd (Nat.mul_pos hd hd) n5
theorem gcd_times {a c : Int} {b d : Nat} (h : a.natAbs.Coprime b) (h2 : c.natAbs.Coprime d) (hd : 0 < d) (hc : c ≠ 0) : Nat.gcd (a * c).natAbs (b * d) ≤ c.natAbs * d := by
  have c0 : 0 < c.natAbs := by omega
  have n1 := Nat.gcd_dvd_left (a * c).natAbs (b * d)
  have n2 := Nat.gcd_dvd_right (a * c).natAbs (b * d)
  rw [Int.natAbs_mul] at *
  generalize Nat.gcd (a.natAbs * c.natAbs) (b * d) = g at *
  have n3 : g ∣ a.natAbs * (c.natAbs * d) := by
    rw [← Nat.mul_assoc]
    exact Nat.dvd_mul_right_of_dvd n1 d
  have n4 : g ∣ b * (c.natAbs * d) := by
    rw [Nat.mul_comm c.natAbs d, ← Nat.mul_assoc]
    exact Nat.dvd_mul_right_of_dvd n2 _
  have n5 : g ∣ c.natAbs * d := by
    have := Nat.dvd_gcd n3 n4
    rw [Nat.gcd_mul_right, h.gcd_eq_one, Nat.one_mul] at this
    exact this
  exact Nat.le_of_dvd (Nat.mul_pos c0 hd) n5
theorem pow9 {g d e : Nat} (h : g ≤ d * e) (hd : d < 2 ^ 4500) (he : e < 2 ^ 4500) : g < 2 ^ 9000 := Nat.lt_of_le_of_lt h (mul_lt (j := 4500) (k := 4500) hd he)
/-- the sizes that the operators let: one of the two is small -/
structure Two (p q : Rat) : Prop where
  a : Bd 400000 p
  b : Bd 400000 q
  s : Bd 4500 p ∨ Bd 4500 q
theorem two_r {j k : Nat} {p q : Rat} (hp : Bd j p) (hq : Bd k q) (hj : j ≤ 400000) (hk : k ≤ 4500) : Two p q := ⟨hp.mono hj, hq.mono (by omega), .inr (hq.mono hk)⟩
theorem two_l {j k : Nat} {p q : Rat} (hp : Bd j p) (hq : Bd k q) (hj : j ≤ 4500) (hk : k ≤ 400000) : Two p q := ⟨hp.mono (by omega), hq.mono hk, .inl (hp.mono hj)⟩
theorem Two.symm {p q : Rat} (h : Two p q) : Two q p := ⟨h.b, h.a, h.s.symm⟩
theorem div_plus {p q : Rat} (h : Two p q) : Div (p.num * q.den + q.num * p.den) (p.den * q.den) := by
  refine div_small ?_
  rcases h.s with s | s
  · have e := gcd_plus (a := q.num) (c := p.num) (b := q.den) (d := p.den) q.reduced (den_pos p)
    rw [Int.add_comm, Nat.mul_comm q.den] at e
    exact pow9 e s.d s.d
  · exact pow9 (gcd_plus p.reduced (den_pos q)) s.d s.d
theorem div_times {p q : Rat} (h : Two p q) : Div (p.num * q.num) (p.den * q.den) := by
  by_cases z : p.num * q.num = 0
  · rw [z]; exact div_zero _
  have zp : p.num ≠ 0 := fun e => z (by rw [e, Int.zero_mul])
  have zq : q.num ≠ 0 := fun e => z (by rw [e, Int.mul_zero])
  refine div_small ?_
  rcases h.s with s | s
  · have e := gcd_times (a := q.num) (c := p.num) (b := q.den) (d := p.den) q.reduced p.reduced (den_pos p) zp
    rw [Int.mul_comm, Nat.mul_comm q.den] at e
    exact pow9 e s.n s.d
  · exact pow9 (gcd_times p.reduced q.reduced (den_pos q) zq) s.n s.d
section
variable {p q : Rat} (S : DS)
theorem m_nd (h : Two p q) : mulO (.int p.num) (.int (q.den : Nat)) S = .ok (.int (p.num * q.den)) S := mul_int S h.a.n (by rw [Int.natAbs_natCast]; exact h.b.d)
theorem m_nn (h : Two p q) : mulO (.int p.num) (.int q.num) S = .ok (.int (p.num * q.num)) S := mul_int S h.a.n h.b.n
theorem m_dd (h : Two p q) : mulO (.int (p.den : Nat)) (.int (q.den : Nat)) S = .ok (.int ((p.den * q.den : Nat) : Int)) S := by
  rw [mul_int S (by rw [Int.natAbs_natCast]; exact h.a.d) (by rw [Int.natAbs_natCast]; exact h.b.d), Int.natCast_mul]
noncomputable def plus : List D → DS → Ou D := defM 2 2
    (mSeq (mIfS (mT (m2 eqO (m2 ixO (mV 0) (mC (.int 1))) (m2 ixO (mV 1) (mC (.int 1)))))
    (mRet (mL share (maC (m2 addO (m2 ixO (mV 0) (mC (.int 0))) (m2 ixO (mV 1) (mC (.int 0)))) (maC (m2 ixO (mV 0) (mC (.int 1))) maN))))
    mNx)
    (mRet (mL share (maC (m2 addO (m2 mulO (m2 ixO (mV 0) (mC (.int 0))) (m2 ixO (mV 1) (mC (.int 1)))) (m2 mulO (m2 ixO (mV 1) (mC (.int 0))) (m2 ixO (mV 0) (mC (.int 1))))) (maC (m2 mulO (m2 ixO (mV 0) (mC (.int 1))) (m2 ixO (mV 1) (mC (.int 1)))) maN)))))
theorem plus_ok (h : Two p q) : plus [enc p, enc q] S = .ok (enc (p + q)) S := by
  simp only [plus, defM_at]
  by_cases e : p.den = q.den
  · have sm : p + q = mkRat (p.num + q.num) p.den := by
      rw [add_mk, ← e, ← Int.add_mul, Rat.mkRat_eq_iff (Nat.mul_ne_zero p.den_nz p.den_nz) p.den_nz]
      grind
    have dv : Div (p.num + q.num) p.den := by
      refine div_small ?_
      have g : Nat.gcd (p.num + q.num).natAbs p.den ≤ p.den := Nat.gcd_le_right _ (den_pos p)
      rcases h.s with s | s
      · exact Nat.lt_of_le_of_lt g (Nat.lt_of_lt_of_le s.d (Nat.pow_le_pow_right (by decide) (by decide)))
      · rw [e] at g ⊢
        exact Nat.lt_of_le_of_lt g (Nat.lt_of_lt_of_le s.d (Nat.pow_le_pow_right (by decide) (by decide)))
    have so := share_ok S (den_pos p) dv
    rw [← sm] at so
    simp only [mSeq_at, mIfS_at, mT_at, m2_at, mV_at, mC_at, m2K_ok, m2J_ok, startE_at, List.map_cons, List.map_nil, List.length_cons, List.length_nil, Nat.reduceAdd, Nat.reduceSub, List.reduceReplicate, if_true, List.cons_append, List.nil_append, List.getElem?_cons_zero, List.getElem?_cons_succ, enc0, enc1, eqO_int]
    rw [e]
    simp only [decide_true, tK_ok, ifSK_t, mRet_at, mL_at, maC_at, maN_at, maK_ok, maJ_ok, m2_at, mV_at, mC_at, m2K_ok, m2J_ok, List.getElem?_cons_zero, List.getElem?_cons_succ, enc0, enc1, addO_int, bind_ok, so, retK_ok, seqK_rt, retO_rt]
  · have e' : ((p.den : Int) = (q.den : Int)) = False := eq_false (by omega)
    have so := share_ok S (Nat.mul_pos (den_pos p) (den_pos q)) (div_plus h)
    rw [← add_mk] at so
    simp only [mSeq_at, mIfS_at, mT_at, m2_at, mV_at, mC_at, m2K_ok, m2J_ok, startE_at, List.map_cons, List.map_nil, List.length_cons, List.length_nil, Nat.reduceAdd, Nat.reduceSub, List.reduceReplicate, if_true, List.cons_append, List.nil_append, List.getElem?_cons_zero, List.getElem?_cons_succ, enc0, enc1, eqO_int, e', decide_false, tK_ok, ifSK_f, mNx_at, seqK_nx, mRet_at, mL_at, maC_at, maN_at, maK_ok, maJ_ok, addO_int, bind_ok, m_nd S h, m_nd S h.symm, m_dd S h, so, retK_ok, retO_rt]
noncomputable def times : List D → DS → Ou D := defM 2 2
    (mRet (mL share (maC (m2 mulO (m2 ixO (mV 0) (mC (.int 0))) (m2 ixO (mV 1) (mC (.int 0)))) (maC (m2 mulO (m2 ixO (mV 0) (mC (.int 1))) (m2 ixO (mV 1) (mC (.int 1)))) maN))))
theorem times_ok (h : Two p q) : times [enc p, enc q] S = .ok (enc (p * q)) S := by
  have so := share_ok S (Nat.mul_pos (den_pos p) (den_pos q)) (div_times h)
  rw [← mul_mk] at so
  simp only [times, defM_at]
  simp only [m2_at, mV_at, mC_at, m2K_ok, m2J_ok, startE_at, List.map_cons, List.map_nil, List.length_cons, List.length_nil, Nat.reduceAdd, Nat.reduceSub, List.reduceReplicate, if_true, List.cons_append, List.nil_append, List.getElem?_cons_zero, List.getElem?_cons_succ, enc0, enc1, mRet_at, mL_at, maC_at, maN_at, maK_ok, maJ_ok, bind_ok, m_nn S h, m_dd S h, so, retK_ok, retO_rt]
noncomputable def minus : List D → DS → Ou D := defM 2 2
    (mRet (mL plus (maC (mV 0) (maC (mL tupO (maC (m1 negO (m2 ixO (mV 1) (mC (.int 0)))) (maC (m2 ixO (mV 1) (mC (.int 1))) maN))) maN))))
theorem Two.neg {p q : Rat} (h : Two p q) : Two p (-q) := ⟨h.a, h.b.neg, h.s.imp id fun z => z.neg⟩
theorem minus_ok (h : Two p q) : minus [enc p, enc q] S = .ok (enc (p - q)) S := by
  have so := plus_ok S h.neg
  rw [← Rat.sub_eq_add_neg] at so
  have en : enc (-q) = .tup [.int (-q.num), .int (q.den : Nat)] := by unfold enc; rw [Rat.neg_num, Rat.neg_den]
  rw [en] at so
  simp only [minus, defM_at]
  simp [enc0, enc1, tupO, so]
end
/-! tests -/
section
variable (S : DS)
noncomputable def is_integer : List D → DS → Ou D := defM 1 1
    (mRet (mAndV (isiM "int" (mV 0)) (mNotV (isiM "bool" (mV 0)))))
noncomputable def is_within : List D → DS → Ou D := defM 3 3
    (mRet (mAndV (mL is_integer (maC (mV 0) maN)) (mChain leO leO (mV 1) (mV 0) (mV 2))))
noncomputable def is_sized : List D → DS → Ou D := defM 3 3
    (mRet (mAndV (isiM "tuple" (mV 0)) (mChain leO leO (mV 1) (mL lenO (maC (mV 0) maN)) (mV 2))))
noncomputable def is_share : List D → DS → Ou D := defM 1 1
    (mSeq (mIfS (mOr (mNot (mT (mL is_sized (maC (mV 0) (maC (mC (.int 2)) (maC (mC (.int 2)) maN)))))) (mOr (mNot (mT (mL is_integer (maC (m2 ixO (mV 0) (mC (.int 0))) maN)))) (mNot (mT (mL is_integer (maC (m2 ixO (mV 0) (mC (.int 1))) maN))))))
    (mRet (mC (.bl false)))
    mNx)
    (mRet (mAndV (m2 gtO (m2 ixO (mV 0) (mC (.int 1))) (mC (.int 0))) (m2 eqO (mL common (maC (m2 ixO (mV 0) (mC (.int 0))) (maC (m2 ixO (mV 0) (mC (.int 1))) maN))) (mC (.int 1))))))
noncomputable def is_amount : List D → DS → Ou D := defM 1 1
    (mRet (mAndV (mL is_share (maC (mV 0) maN)) (m2 geO (m2 ixO (mV 0) (mC (.int 0))) (mC (.int 0)))))
noncomputable def are_amounts : List D → DS → Ou D := defM 2 3
    (mRet (mAndV (mL is_sized (maC (mV 0) (maC (mV 1) (maC (mV 1) maN)))) (mL allO (maC (lcM (mSeqI (mV 0)) (gN 2) mYes (mL is_amount (maC (mV 2) maN)) [2] finV) maN))))
theorem integer_ok (i : Int) : is_integer [.int i] S = .ok (.bl true) S := by
  simp only [is_integer, defM_at]
  simp [isTy]
theorem within_ok (i lo hi : Int) : is_within [.int i, .int lo, .int hi] S = .ok (.bl (decide (lo ≤ i) && decide (i ≤ hi))) S := by
  simp only [is_within, defM_at]
  by_cases h : lo ≤ i
  · simp [integer_ok, h]
  · simp [integer_ok, h]
theorem sized_ok (xs : List D) (lo hi : Int) : is_sized [.tup xs, .int lo, .int hi] S = .ok (.bl (decide (lo ≤ (xs.length : Int)) && decide ((xs.length : Int) ≤ hi))) S := by
  simp only [is_sized, defM_at]
  by_cases h : lo ≤ (xs.length : Int)
  · simp [isTy, lenO_tup, h]
  · simp [isTy, lenO_tup, h]
theorem is_share_ok (q : Rat) : is_share [enc q] S = .ok (.bl true) S := by
  have h0 : (0 : Int) < (q.den : Int) := by have := den_pos q; omega
  have sz : is_sized [enc q, .int 2, .int 2] S = .ok (.bl true) S := sized_ok S _ 2 2
  have c := common_ok q.num (den_pos q) S
  rw [q.reduced.gcd_eq_one] at c
  simp only [is_share, defM_at]
  simp [sz, enc0, enc1, integer_ok, den_pos q, c]
theorem is_amount_ok {q : Rat} (h : 0 ≤ q) : is_amount [enc q] S = .ok (.bl true) S := by
  have h0 : (0 : Int) ≤ q.num := Rat.num_nonneg.mpr h
  simp only [is_amount, defM_at]
  simp [is_share_ok, enc0, h0]
def encR (r : List Rat) : D := .tup (r.map enc)
theorem are_amounts_ok {r : List Rat} (h : ∀ q ∈ r, 0 ≤ q) (hl : r.length ≤ 9000) : are_amounts [encR r, .int (r.length : Nat)] S = .ok (.bl true) S := by
  have sz : is_sized [encR r, .int (r.length : Nat), .int (r.length : Nat)] S = .ok (.bl true) S := by
    have := sized_ok S (r.map enc) (r.length : Nat) (r.length : Nat)
    rw [List.length_map] at this
    have e : encR r = .tup (r.map enc) := rfl
    rw [e, this]
    simp
  have it : asItm (encR r) S = .ok ⟨r.map enc, none⟩ S := rfl
  simp only [are_amounts, defM_at]
  simp [sz, it]
  rw [lcK_F enc (fun _ => D.bl true) r (Nat.le_trans hl (by decide)) fun q hq => by simp [wipeE, is_amount_ok S (h q hq)]]
  simp [all_true]
end
end FR

namespace FR
open PySem PySem.Spec PyProof.Rows L2 DL
/-! sums -/
def sumQ : List Rat → Rat
  | [] => 0
  | q :: qs => q + sumQ qs
theorem sumQ_append (xs ys : List Rat) : sumQ (xs ++ ys) = sumQ xs + sumQ ys := by
  induction xs with
  | nil => simp [sumQ, Rat.zero_add]
  | cons x xs ih => rw [List.cons_append, sumQ, sumQ, ih, Rat.add_assoc]
theorem Bd.sum {k : Nat} : ∀ {qs : List Rat}, (∀ q ∈ qs, Bd k q) → Bd (1 + (k + 1) * qs.length) (sumQ qs)
  | [], _ => bd0 (by omega)
  | q :: qs, h => by
    have h1 := h q (List.mem_cons_self ..)
    have h2 := Bd.sum fun r hr => h r (List.mem_cons_of_mem q hr)
    have h3 := h1.add h2
    refine h3.mono ?_
    rw [List.length_cons, Nat.mul_succ]
    omega
section
variable {mg : MG} {p : MS} {env : DE} {S : DS} {it : Itm} {d : D}
theorem forL_nil' (h : it.okB S) : forL mg p it [] env S = .ok (.nx, env) S := by
  obtain ⟨xs, g⟩ := it
  show Itm.gate ⟨xs, g⟩ S _ = _
  unfold Itm.gate
  exact if_pos h
theorem forL_cons' (h : it.okB S) (r : List D) : forL mg p it (d :: r) env S = forN mg p it r (turn mg p d env S) := by
  obtain ⟨xs, g⟩ := it
  have e : forL mg p ⟨xs, g⟩ (d :: r) env S = (mg d env S).bind fun env1 S1 => (p env1 S1).bind fun q S2 => match q.1 with
    | .nx => forL mg p ⟨xs, g⟩ r q.2 S2
    | .ct => forL mg p ⟨xs, g⟩ r q.2 S2
    | .bk => .ok (.nx, q.2) S2
    | f => .ok (f, q.2) S2 := by
    show Itm.gate ⟨xs, g⟩ S _ = _
    unfold Itm.gate
    exact if_pos h
  rw [e]
  unfold forN turn
  cases mg d env S <;> rfl
end
abbrev AddOk (add : List D → DS → Ou D) : Prop := ∀ {p q : Rat} (S : DS), Two p q → add [enc p, enc q] S = .ok (enc (p + q)) S
noncomputable def summedOf (add : List D → DS → Ou D) (z0 : ME) : List D → DS → Ou D := defM 1 3
    (mSeq (mSet 1 z0)
    (mSeq (mFor (mSeqI (mV 0)) (gN 2)
    (mSet 1 (mL add (maC (mV 1) (maC (mV 2) maN)))))
    (mRet (mV 1))))
theorem sum_loop {add : List D → DS → Ou D} (hadd : AddOk add) {it : Itm} {S : DS} (hok : it.okB S) {k : Nat} (hk : k ≤ 4500) (x : Option D) : ∀ (qs : List Rat) (K : Nat) (z : Rat) (y : Option D), Bd K z → (∀ q ∈ qs, Bd k q) → K + (k + 1) * qs.length ≤ 400000 →
    ∃ y', forL (gN 2) (mSet 1 (mL add (maC (mV 1) (maC (mV 2) maN)))) it (qs.map enc) [x, some (enc z), y] S = .ok (.nx, [x, some (enc (z + sumQ qs)), y']) S := by
  intro qs
  induction qs with
  | nil => exact fun K z y _ _ _ => ⟨y, by rw [List.map_nil, forL_nil' hok, sumQ, Rat.add_zero]⟩
  | cons q qs ih =>
    intro K z y hz hq hl
    rw [List.length_cons, Nat.mul_succ] at hl
    have h1 := hq q (List.mem_cons_self ..)
    obtain ⟨y', e⟩ := ih (K + k + 1) (z + q) (some (enc q)) (hz.add h1) (fun r hr => hq r (List.mem_cons_of_mem _ hr)) (by omega)
    refine ⟨y', ?_⟩
    have ha := hadd S (two_r hz h1 (by omega) hk)
    rw [List.map_cons, forL_cons' hok]
    simp [ha]
    rw [e, sumQ, Rat.add_assoc]
theorem summedOf_ok {add : List D → DS → Ou D} (hadd : AddOk add) {z0 : ME} (hz0 : ∀ env S, z0 env S = .ok (enc 0) S) {k : Nat} (hk : k ≤ 4500) {qs : List Rat} (hq : ∀ q ∈ qs, Bd k q) (hl : 1 + (k + 1) * qs.length ≤ 400000) {d : D} {it : Itm} {S : DS} (hi : asItm d S = .ok it S)
    (hit : it.items = qs.map enc) (hok : it.okB S) : summedOf add z0 [d] S = .ok (enc (sumQ qs)) S := by
  obtain ⟨y', e⟩ := sum_loop hadd hok hk (some d) qs 1 0 none (bd0 (by decide)) hq hl
  simp only [summedOf, defM_at]
  rw [startE_at]
  simp only [List.map_cons, List.map_nil, List.length_cons, List.length_nil, Nat.reduceAdd, Nat.reduceSub, List.reduceReplicate, if_true, List.cons_append, List.nil_append, mSeq_at, mSet_at, hz0, setK_ok, List.set_cons_succ, List.set_cons_zero, seqK_nx, mFor_at, mSeqI_at, mV_at, List.getElem?_cons_zero, bind_ok, hi, forK_ok, hit, e, mRet_at, List.getElem?_cons_succ, retK_ok, retO_rt, Rat.zero_add]
theorem sum_vl {add : List D → DS → Ou D} (hadd : AddOk add) {z0 : ME} (hz0 : ∀ env S, z0 env S = .ok (enc 0) S) {k : Nat} (hk : k ≤ 4500) {qs : List Rat} (hq : ∀ q ∈ qs, Bd k q) (hl : 1 + (k + 1) * qs.length ≤ 400000) (S : DS) : summedOf add z0 [.vl (qs.map enc)] S = .ok (enc (sumQ qs)) S :=
  summedOf_ok hadd hz0 hk hq hl (it := ⟨qs.map enc, none⟩) rfl rfl True.intro
theorem sum_ref {add : List D → DS → Ou D} (hadd : AddOk add) {z0 : ME} (hz0 : ∀ env S, z0 env S = .ok (enc 0) S) {k : Nat} (hk : k ≤ 4500) {qs : List Rat} (hq : ∀ q ∈ qs, Bd k q) (hl : 1 + (k + 1) * qs.length ≤ 400000) {S : DS} {p : Nat} (hS : S[p]? = some (.lst (qs.map enc))) : summedOf add z0 [.ref p] S = .ok (enc (sumQ qs)) S := by
  refine summedOf_ok hadd hz0 hk hq hl (it := ⟨qs.map enc, some (p, qs.map enc)⟩) ?_ rfl hS
  show refItm p S = _
  unfold refItm
  simp only [hS]
noncomputable def summed : List D → DS → Ou D := summedOf plus (mC (.tup [(.int 0), (.int 1)]))
theorem plus_add : AddOk plus := fun S h => plus_ok S h
theorem summed_vl {k : Nat} (hk : k ≤ 4500) {qs : List Rat} (hq : ∀ q ∈ qs, Bd k q) (hl : 1 + (k + 1) * qs.length ≤ 400000) (S : DS) : summed [.vl (qs.map enc)] S = .ok (enc (sumQ qs)) S := sum_vl plus_add (fun _ _ => rfl) hk hq hl S
/-! products summed -/
def dotQ (as bs : List Rat) : Rat := sumQ ((as.zip bs).map fun x => x.1 * x.2)
theorem dot_bds {j k : Nat} {as bs : List Rat} (ha : ∀ q ∈ as, Bd j q) (hb : ∀ q ∈ bs, Bd k q) : ∀ q ∈ (as.zip bs).map fun x => x.1 * x.2, Bd (j + k) q := by
  intro q hq
  obtain ⟨x, hx, rfl⟩ := List.mem_map.mp hq
  exact (ha _ (List.of_mem_zip hx).1).mul (hb _ (List.of_mem_zip hx).2)
theorem Bd.dot {j k n : Nat} {as bs : List Rat} (ha : ∀ q ∈ as, Bd j q) (hb : ∀ q ∈ bs, Bd k q) (hn : as.length ≤ n) : Bd (1 + (j + k + 1) * n) (dotQ as bs) := by
  refine (Bd.sum (dot_bds ha hb)).mono ?_
  have : ((as.zip bs).map fun x => x.1 * x.2).length ≤ n := by simp; omega
  have := Nat.mul_le_mul_left (j + k + 1) this
  omega
theorem zip_enc (as bs : List Rat) (S : DS) : zipO [encR as, encR bs] S = .ok ⟨(as.zip bs).map fun x => .tup [enc x.1, enc x.2], none⟩ S := by
  show Ou.ok (Itm.mk (zipD (as.map enc) (bs.map enc)) none) S = _
  rw [zipD_map]
abbrev MulOk (mul : List D → DS → Ou D) : Prop := ∀ {p q : Rat} (S : DS), Two p q → mul [enc p, enc q] S = .ok (enc (p * q)) S
theorem times_mul : MulOk times := fun S h => times_ok S h
theorem dot_items {mul : List D → DS → Ou D} (hm : MulOk mul) {i j a b : Nat} {vs : List Nat} {env : DE} {S : DS} {as bs : List Rat} {ja jb : Nat} (ha : ∀ q ∈ as, Bd ja q) (hb : ∀ q ∈ bs, Bd jb q) (hja : ja ≤ 400000) (hjb : jb ≤ 400000) (hs : ja ≤ 4500 ∨ jb ≤ 4500) (hl : as.length ≤ 9000) {e1 e2 : ME}
    (h1 : e1 env S = .ok (encR as) S) (h2 : e2 env S = .ok (encR bs) S) (hij : ∀ x y, (((wipeE env vs).set i (some x)).set j (some y))[a]? = some (some x) ∧ (((wipeE env vs).set i (some x)).set j (some y))[b]? = some (some y)) :
    lcM (mArgI zipO (maC e1 (maC e2 maN))) (gT 2 (gsC (gN i) (gsC (gN j) gsN))) mYes (mL mul (maC (mV a) (maC (mV b) maN))) vs finV env S = .ok (.vl (((as.zip bs).map fun x => x.1 * x.2).map enc)) S := by
  simp only [lcM_at, mArgI_at, maC_at, maN_at, h1, h2, maK_ok, maJ_ok, bind_ok, zip_enc]
  rw [lcK_F (fun x : Rat × Rat => D.tup [enc x.1, enc x.2]) (fun x => enc (x.1 * x.2)) (as.zip bs) (Nat.le_trans (by simp; omega) (show 9000 ≤ sizeLine by decide)) ?_, finV_at, List.map_map]
  · rfl
  · intro x hx
    have b1 := ha _ (List.of_mem_zip hx).1
    have b2 := hb _ (List.of_mem_zip hx).2
    have tw : Two x.1 x.2 := ⟨b1.mono hja, b2.mono hjb, hs.imp (fun z => b1.mono z) fun z => b2.mono z⟩
    obtain ⟨q1, q2⟩ := hij (enc x.1) (enc x.2)
    simp [q1, q2, hm S tw]
noncomputable def worth : List D → DS → Ou D := defM 2 4
    (mRet (mL summed (maC (lcM (mArgI zipO (maC (mV 0) (maC (mV 1) maN))) (gT 2 (gsC (gN 2) (gsC (gN 3) gsN))) mYes (mL times (maC (mV 2) (maC (mV 3) maN))) [2, 3] finV) maN)))
theorem worth_ok {as bs : List Rat} {ja jb : Nat} (ha : ∀ q ∈ as, Bd ja q) (hb : ∀ q ∈ bs, Bd jb q) (hs : ja + jb ≤ 4500) (hn : as.length ≤ 60) (S : DS) : worth [encR as, encR bs] S = .ok (enc (dotQ as bs)) S := by
  have zl : ((as.zip bs).map fun x => x.1 * x.2).length ≤ 60 := by simp; omega
  have zm := Nat.mul_le_mul (show ja + jb + 1 ≤ 4501 by omega) zl
  have di := dot_items times_mul (i := 2) (j := 3) (a := 2) (b := 3) (vs := [2, 3]) (env := [some (encR as), some (encR bs), none, none]) (S := S) ha hb (by omega) (by omega) (.inl (by omega)) (by omega) (e1 := mV 0) (e2 := mV 1) rfl rfl (fun x y => ⟨rfl, rfl⟩)
  have sm := summed_vl (k := ja + jb) hs (dot_bds ha hb) (by omega) S
  simp only [worth, defM_at]
  rw [startE_at]
  simp only [List.map_cons, List.map_nil, List.length_cons, List.length_nil, Nat.reduceAdd, Nat.reduceSub, List.reduceReplicate, if_true, List.cons_append, List.nil_append, mRet_at, mL_at, maC_at, maN_at]
  rw [di]
  simp only [maK_ok, maN_at, maJ_ok, bind_ok, sm, retK_ok, retO_rt]
  rfl
/-! books -/
structure Meth where
  g : Nat
  u : List Rat
  w : Rat
def encM (m : Meth) : D := .tup [.int (m.g : Nat), encR m.u, enc m.w]
def encB (n : Nat) (ms : List Meth) : D := .tup [.int (n : Nat), .tup (ms.map encM)]
/-- amounts: n of them, none below 0 -/
structure Am (k n : Nat) (r : List Rat) : Prop where
  len : r.length = n
  ok : ∀ q ∈ r, 0 ≤ q ∧ Bd k q
theorem Am.bd {k n : Nat} {r : List Rat} (h : Am k n r) : ∀ q ∈ r, Bd k q := fun q hq => (h.ok q hq).2
structure Bk (k n : Nat) (ms : List Meth) : Prop where
  n0 : 1 ≤ n
  n1 : n ≤ 6
  l0 : 1 ≤ ms.length
  l1 : ms.length ≤ 20
  g : ∀ m ∈ ms, m.g < n
  u : ∀ m ∈ ms, Am k n m.u
  w : ∀ m ∈ ms, 0 ≤ m.w ∧ Bd k m.w
noncomputable def is_method : List D → DS → Ou D := defM 2 2
    (mSeq (mIfS (mOr (mNot (mT (mL is_sized (maC (mV 1) (maC (mC (.int 3)) (maC (mC (.int 3)) maN)))))) (mNot (mT (mL is_within (maC (m2 ixO (mV 1) (mC (.int 0))) (maC (mC (.int 0)) (maC (m2 subO (mV 0) (mC (.int 1))) maN)))))))
    (mRet (mC (.bl false)))
    mNx)
    (mRet (mAndV (mL are_amounts (maC (m2 ixO (mV 1) (mC (.int 1))) (maC (mV 0) maN))) (mL is_amount (maC (m2 ixO (mV 1) (mC (.int 2))) maN)))))
noncomputable def is_book : List D → DS → Ou D := defM 1 2
    (mSeq (mIfS (mOr (mNot (mT (mL is_sized (maC (mV 0) (maC (mC (.int 2)) (maC (mC (.int 2)) maN)))))) (mNot (mT (mL is_within (maC (m2 ixO (mV 0) (mC (.int 0))) (maC (mC (.int 1)) (maC (mC (.int 6)) maN)))))))
    (mRet (mC (.bl false)))
    mNx)
    (mRet (mAndV (mL is_sized (maC (m2 ixO (mV 0) (mC (.int 1))) (maC (mC (.int 1)) (maC (mC (.int 20)) maN)))) (mL allO (maC (lcM (mSeqI (m2 ixO (mV 0) (mC (.int 1)))) (gN 1) mYes (mL is_method (maC (m2 ixO (mV 0) (mC (.int 0))) (maC (mV 1) maN))) [1] finV) maN)))))
noncomputable def check_book : List D → DS → Ou D := defM 1 1
    (mIfS (mNot (mT (mL is_book (maC (mV 0) maN))))
    mNever
    mNx)
noncomputable def is_plan_of : List D → DS → Ou D := defM 2 2
    (mRet (mL are_amounts (maC (mV 1) (maC (mL lenO (maC (m2 ixO (mV 0) (mC (.int 1))) maN)) maN))))
noncomputable def is_plan : List D → DS → Ou D := defM 2 2
    (mSeq (mDo (mL check_book (maC (mV 0) maN)))
    (mRet (mL is_plan_of (maC (mV 0) (maC (mV 1) maN)))))
noncomputable def check_plan : List D → DS → Ou D := defM 2 2
    (mSeq (mDo (mL check_book (maC (mV 0) maN)))
    (mIfS (mNot (mT (mL is_plan_of (maC (mV 0) (maC (mV 1) maN)))))
    mNever
    mNx))
noncomputable def check_factor : List D → DS → Ou D := defM 1 1
    (mIfS (mNot (mT (mL is_amount (maC (mV 0) maN))))
    mNever
    mNx)
noncomputable def check_prices : List D → DS → Ou D := defM 2 2
    (mIfS (mNot (mT (mL are_amounts (maC (mV 1) (maC (m2 ixO (mV 0) (mC (.int 0))) maN)))))
    mNever
    mNx)
section
variable {k n : Nat} {ms : List Meth} (S : DS)
theorem encM0 (m : Meth) : ixO (encM m) (.int 0) S = .ok (.int (m.g : Nat)) S := getI_0 (.int (m.g : Nat)) [encR m.u, enc m.w] S
theorem encM1 (m : Meth) : ixO (encM m) (.int 1) S = .ok (encR m.u) S := getI_1 (.int (m.g : Nat)) (encR m.u) [enc m.w] S
theorem encM2 (m : Meth) : ixO (encM m) (.int 2) S = .ok (enc m.w) S := getI_2 (.int (m.g : Nat)) (encR m.u) (enc m.w) [] S
theorem encB0 (n : Nat) (ms : List Meth) : ixO (encB n ms) (.int 0) S = .ok (.int (n : Nat)) S := getI_0 (.int (n : Nat)) [.tup (ms.map encM)] S
theorem encB1 (n : Nat) (ms : List Meth) : ixO (encB n ms) (.int 1) S = .ok (.tup (ms.map encM)) S := getI_1 (.int (n : Nat)) (.tup (ms.map encM)) [] S
theorem amounts_ok {r : List Rat} (h : Am k n r) (hn : n ≤ 9000) : are_amounts [encR r, .int (n : Nat)] S = .ok (.bl true) S := by
  have := are_amounts_ok S (fun q hq => (h.ok q hq).1) (by rw [h.len]; exact hn)
  rw [h.len] at this
  exact this
theorem is_method_ok (h : Bk k n ms) {m : Meth} (hm : m ∈ ms) : is_method [.int (n : Nat), encM m] S = .ok (.bl true) S := by
  have sz : is_sized [encM m, .int 3, .int 3] S = .ok (.bl true) S := sized_ok S _ 3 3
  have wi := within_ok S (m.g : Nat) 0 ((n : Int) - 1)
  have g := h.g m hm
  rw [show (decide ((0 : Int) ≤ ((m.g : Nat) : Int)) && decide (((m.g : Nat) : Int) ≤ (n : Int) - 1)) = true by simp; omega] at wi
  have am := amounts_ok S (h.u m hm) (by have := h.n1; omega)
  have w := is_amount_ok S (h.w m hm).1
  simp only [is_method, defM_at]
  simp [sz, encM0, encM1, encM2, wi, am, w]
theorem is_book_ok (h : Bk k n ms) : is_book [encB n ms] S = .ok (.bl true) S := by
  have sz : is_sized [encB n ms, .int 2, .int 2] S = .ok (.bl true) S := sized_ok S _ 2 2
  have h1 := h.n0
  have h2 := h.n1
  have h3 := h.l0
  have h4 := h.l1
  have wi := within_ok S (n : Nat) 1 6
  rw [show (decide ((1 : Int) ≤ ((n : Nat) : Int)) && decide (((n : Nat) : Int) ≤ 6)) = true by simp; omega] at wi
  have sz2 := sized_ok S (ms.map encM) 1 20
  rw [List.length_map, show (decide ((1 : Int) ≤ ((ms.length : Nat) : Int)) && decide (((ms.length : Nat) : Int) ≤ 20)) = true by simp; omega] at sz2
  simp only [is_book, defM_at]
  simp [sz, encB0, encB1, wi, sz2]
  rw [lcK_F encM (fun _ => D.bl true) ms (Nat.le_trans h4 (by decide)) fun m hm => by simp [wipeE, encB0, is_method_ok S h hm]]
  simp [all_true]
theorem check_book_ok (h : Bk k n ms) : check_book [encB n ms] S = .ok .non S := by
  simp only [check_book, defM_at]
  simp [is_book_ok S h]
theorem is_plan_of_ok {kp : Nat} {r : List Rat} (h : Bk k n ms) (hr : Am kp ms.length r) : is_plan_of [encB n ms, encR r] S = .ok (.bl true) S := by
  have h4 := h.l1
  have am := amounts_ok S hr (by omega)
  have ln : lenO [.tup (ms.map encM)] S = .ok (.int (ms.length : Nat)) S := by rw [lenO_tup, List.length_map]
  simp only [is_plan_of, defM_at]
  simp [encB1, ln, am]
theorem is_plan_ok {kp : Nat} {r : List Rat} (h : Bk k n ms) (hr : Am kp ms.length r) : is_plan [encB n ms, encR r] S = .ok (.bl true) S := by
  simp only [is_plan, defM_at]
  simp [check_book_ok S h, is_plan_of_ok S h hr]
theorem check_plan_ok {kp : Nat} {r : List Rat} (h : Bk k n ms) (hr : Am kp ms.length r) : check_plan [encB n ms, encR r] S = .ok .non S := by
  simp only [check_plan, defM_at]
  simp [check_book_ok S h, is_plan_of_ok S h hr]
theorem check_factor_ok {q : Rat} (h : 0 ≤ q) : check_factor [enc q] S = .ok .non S := by
  simp only [check_factor, defM_at]
  simp [is_amount_ok S h]
theorem check_prices_ok {kp : Nat} {r : List Rat} (h : Bk k n ms) (hr : Am kp n r) : check_prices [encB n ms, encR r] S = .ok .non S := by
  have am := amounts_ok S hr (by have := h.n1; omega)
  simp only [check_prices, defM_at]
  simp [encB0, am]
end
end FR

namespace FR
open PySem PySem.Spec PyProof.Rows L2 DL
/-! states -/
theorem unders_map {α : Type} (n : Nat) (g : α → D) : ∀ as : List α, (∀ a ∈ as, under n (g a) = true) → unders n (as.map g) = true
  | [], _ => rfl
  | a :: as, h => by
    rw [List.map_cons, unders, h a (List.mem_cons_self ..), unders_map n g as fun b hb => h b (List.mem_cons_of_mem _ hb)]
    rfl
theorem under_enc (n : Nat) (q : Rat) : under n (enc q) = true := rfl
theorem under_encR (n : Nat) (r : List Rat) : under n (encR r) = true := unders_map n enc r fun q _ => under_enc n q
/-- no list of the state speaks of another -/
def Cl (S : DS) : Prop := ∀ n, S.all (underO n) = true
theorem Cl.app {S : DS} (h : Cl S) {ys : List D} (hy : ∀ n, unders n ys = true) : Cl (S ++ [.lst ys]) := fun n => by
  rw [List.all_append, h n, List.all_cons, List.all_nil]
  simp [underO, hy n]
theorem drop_ok {S : DS} (h : Cl S) (d : D) (hd : ∀ n, under n d = true) (J : DS) : dropO S.length (.ok d (S ++ J)) = .ok d S := by
  unfold dropO
  simp only [List.take_left']
  rw [if_pos ⟨hd _, h _⟩]
theorem ref_at {S J : DS} {ys : List D} : (S ++ DO.lst ys :: J)[S.length]? = some (DO.lst ys) := by
  rw [List.getElem?_append_right (Nat.le_refl _), Nat.sub_self]; rfl
theorem tupleO_ref {S J : DS} {ys : List D} : tupleO [.ref S.length] (S ++ .lst ys :: J) = .ok (.tup ys) (S ++ .lst ys :: J) := by
  unfold tupleO
  simp only [ref_at]
theorem refO_at (S : DS) : refO [] S = .ok (.ref S.length) (S ++ [.lst []]) := if_pos (by decide)
theorem app_at {S J : DS} {ys : List D} (y : D) (h : ys.length ≤ 9000) : appendO (.ref S.length) [y] (S ++ .lst ys :: J) = .ok .non (S ++ .lst (ys ++ [y]) :: J) := by
  unfold appendO
  simp only [List.getElem?_append_right (Nat.le_refl _), Nat.sub_self, List.getElem?_cons_zero]
  rw [if_pos (Nat.lt_of_le_of_lt h (by decide)), List.set_append_right _ _ (Nat.le_refl _), Nat.sub_self]
  rfl
theorem setO_at (p : Nat) (xs : List D) (S : DS) (k : Nat) (v : D) (h : S[p]? = some (DO.lst xs)) (hk : k < xs.length) : setO (.ref p) (.int (k : Nat)) v S = .ok () (S.set p (.lst (xs.set k v))) := by
  show (match S[p]? with
    | some (DO.lst xs) => match ixN xs.length (k : Int) with
      | some j => Ou.ok () (S.set p (.lst (xs.set j v)))
      | none => .no
    | none => .no) = _
  rw [h]
  simp only
  rw [ixN_nat (by omega) (by omega)]
  rfl
theorem repL_one {α : Type} (x : α) (n : Nat) : repL [x] n = List.replicate n x := by
  unfold repL
  induction n with
  | zero => rfl
  | succ n ih => rw [List.replicate_succ, List.flatten_cons, ih, List.replicate_succ]; rfl
/-! rows by a function -/
def vec (n : Nat) (f : Nat → Rat) : List Rat := (List.range n).map f
theorem vec_len (n : Nat) (f : Nat → Rat) : (vec n f).length = n := by simp [vec]
theorem vec_get {n i : Nat} (f : Nat → Rat) (h : i < n) : (vec n f)[i]? = some (f i) := by simp [vec, h]
theorem vec_mem {n : Nat} {f : Nat → Rat} {q : Rat} (h : q ∈ vec n f) : ∃ i, i < n ∧ q = f i := by
  obtain ⟨i, hi, rfl⟩ := List.mem_map.mp h
  exact ⟨i, by simpa using hi, rfl⟩
theorem vec_ext {n : Nat} {r : List Rat} {f : Nat → Rat} (hl : r.length = n) (h : ∀ i q, r[i]? = some q → q = f i) : r = vec n f := by
  refine List.ext_getElem? fun i => ?_
  by_cases hi : i < n
  · rw [vec_get f hi]
    have e : r[i]? = some r[i] := List.getElem?_eq_getElem (by omega)
    rw [e, h i _ e]
  · rw [List.getElem?_eq_none (by omega), List.getElem?_eq_none (by rw [vec_len]; omega)]
theorem vec_congr {n : Nat} {f g : Nat → Rat} (h : ∀ i, i < n → f i = g i) : vec n f = vec n g := vec_ext (vec_len n f) fun i q e => by
  have hi : i < n := by
    have := (List.getElem?_eq_some_iff.mp e).1
    rwa [vec_len] at this
  rw [vec_get f hi] at e
  cases e
  exact h i hi
theorem vec_set {n g : Nat} (f : Nat → Rat) (a : Rat) (h : g < n) : (vec n f).set g (f g + a) = vec n (fun i => f i + if g = i then a else 0) := by
  refine vec_ext (by rw [List.length_set, vec_len]) fun i q e => ?_
  by_cases hg : g = i
  · subst hg
    rw [List.getElem?_set_self (by rw [vec_len]; exact h)] at e
    cases e
    rw [if_pos rfl]
  · rw [List.getElem?_set_ne hg] at e
    have hi : i < n := by
      have := (List.getElem?_eq_some_iff.mp e).1
      rwa [vec_len] at this
    rw [vec_get f hi] at e
    cases e
    rw [if_neg hg, Rat.add_zero]
theorem vec_zip {n : Nat} {f : Nat → Rat} {u : List Rat} (hu : u.length = n) (h : Rat → Rat → Rat) : ((vec n f).zip u).map (fun x => h x.1 x.2) = vec n fun i => h (f i) (u.getD i 0) := by
  refine vec_ext (by simp [vec_len, hu]) fun i q e => ?_
  have hi : i < n := by
    have := (List.getElem?_eq_some_iff.mp e).1
    simpa [vec_len, hu] using this
  have e2 : u[i]? = some u[i] := List.getElem?_eq_getElem (by omega)
  rw [List.getElem?_map] at e
  have e3 : ((vec n f).zip u)[i]? = some (f i, u[i]) := List.getElem?_zip_eq_some.mpr ⟨vec_get f hi, e2⟩
  rw [e3] at e
  cases e
  rw [List.getD_eq_getElem?_getD, e2]
  rfl
theorem vec_self {n : Nat} {u : List Rat} (hu : u.length = n) : u = vec n fun i => u.getD i 0 := vec_ext hu fun i q e => by
  rw [List.getD_eq_getElem?_getD, e]; rfl
theorem getD_ok {k n : Nat} {u : List Rat} (h : Am k n u) (hk : 0 < k) (i : Nat) : 0 ≤ u.getD i 0 ∧ Bd k (u.getD i 0) := by
  rw [List.getD_eq_getElem?_getD]
  by_cases hi : i < u.length
  · rw [List.getElem?_eq_getElem hi]
    exact h.ok _ (List.getElem_mem hi)
  · rw [List.getElem?_eq_none (by omega)]
    exact ⟨Rat.le_refl, bd0 hk⟩
theorem vec_at {n g : Nat} (f : Nat → Rat) (S : DS) (h : g < n) : getI ((vec n f).map enc) (g : Int) S = .ok (enc (f g)) S := getI_map enc _ g (vec_get f h)
theorem rep_zero (n : Nat) : List.replicate n (D.tup [.int 0, .int 1]) = (vec n fun _ => 0).map enc := by
  refine List.ext_getElem? fun i => ?_
  by_cases hi : i < n
  · rw [List.getElem?_map, vec_get _ hi, List.getElem?_replicate, if_pos hi]; rfl
  · rw [List.getElem?_eq_none (by simp; omega), List.getElem?_eq_none (by simp [vec_len]; omega)]
/-! what a plan makes and uses -/
abbrev Prs := List (Meth × Rat)
def madeQ (ps : Prs) (i : Nat) : Rat := sumQ (ps.map fun x => if x.1.g = i then x.2 else 0)
def usedQ (ps : Prs) (i : Nat) : Rat := sumQ (ps.map fun x => x.2 * x.1.u.getD i 0)
def encP (x : Meth × Rat) : D := .tup [encM x.1, enc x.2]
theorem zip_pairs (ms : List Meth) (r : List Rat) (S : DS) : zipO [.tup (ms.map encM), encR r] S = .ok ⟨(ms.zip r).map encP, none⟩ S := by
  show Ou.ok (Itm.mk (zipD (ms.map encM) (r.map enc)) none) S = _
  rw [zipD_map]
  rfl
theorem zip_flip {α β γ : Type} (h : α → β → γ) : ∀ (xs : List α) (ys : List β), (ys.zip xs).map (fun x => h x.2 x.1) = (xs.zip ys).map fun x => h x.1 x.2
  | [], [] => rfl
  | [], _ :: _ => rfl
  | _ :: _, [] => rfl
  | x :: xs, y :: ys => by simp [zip_flip h xs ys]
theorem zip_pairs' (ms : List Meth) (r : List Rat) (S : DS) : zipO [encR r, .tup (ms.map encM)] S = .ok ⟨(ms.zip r).map (fun x => .tup [enc x.2, encM x.1]), none⟩ S := by
  show Ou.ok (Itm.mk (zipD (r.map enc) (ms.map encM)) none) S = _
  rw [zipD_map]
  rw [zip_flip (fun m q => D.tup [enc q, encM m]) ms r]
structure PsOk (kb kp n : Nat) (ps : Prs) : Prop where
  g : ∀ x ∈ ps, x.1.g < n
  u : ∀ x ∈ ps, Am kb n x.1.u
  w : ∀ x ∈ ps, 0 ≤ x.1.w ∧ Bd kb x.1.w
  a : ∀ x ∈ ps, 0 ≤ x.2 ∧ Bd kp x.2
theorem Bk.ps {kb kp n : Nat} {ms : List Meth} {r : List Rat} (h : Bk kb n ms) (hr : Am kp ms.length r) : PsOk kb kp n (ms.zip r) :=
  ⟨fun x hx => h.g _ (List.of_mem_zip hx).1, fun x hx => h.u _ (List.of_mem_zip hx).1, fun x hx => h.w _ (List.of_mem_zip hx).1, fun x hx => hr.ok _ (List.of_mem_zip hx).2⟩
theorem PsOk.tail {kb kp n : Nat} {x : Meth × Rat} {ps : Prs} (h : PsOk kb kp n (x :: ps)) : PsOk kb kp n ps :=
  ⟨fun y hy => h.g y (List.mem_cons_of_mem _ hy), fun y hy => h.u y (List.mem_cons_of_mem _ hy), fun y hy => h.w y (List.mem_cons_of_mem _ hy), fun y hy => h.a y (List.mem_cons_of_mem _ hy)⟩
noncomputable def made_by : List D → DS → Ou D := defD 2 7
    (mSeq (mSet 2 (m2 mulR (mL lstO (maC (mC (.tup [(.int 0), (.int 1)])) maN)) (m2 ixO (mV 0) (mC (.int 0)))))
    (mSeq (mFor (mArgI zipO (maC (m2 ixO (mV 0) (mC (.int 1))) (maC (mV 1) maN))) (gT 2 (gsC (gT 3 (gsC (gN 4) (gsC (gN 5) (gsC (gN 6) gsN)))) (gsC (gN 3) gsN)))
    (mAsg (gSubM (mV 2) (mV 4) setO) (mL plus (maC (m2 ixO (mV 2) (mV 4)) (maC (mV 3) maN)))))
    (mRet (mL tupleO (maC (mV 2) maN)))))
noncomputable def used_by : List D → DS → Ou D := defM 2 9
    (mSeq (mSet 2 (m2 mulO (mL lstO (maC (mC (.tup [(.int 0), (.int 1)])) maN)) (m2 ixO (mV 0) (mC (.int 0)))))
    (mSeq (mFor (mArgI zipO (maC (m2 ixO (mV 0) (mC (.int 1))) (maC (mV 1) maN))) (gT 2 (gsC (gT 3 (gsC (gN 4) (gsC (gN 5) (gsC (gN 6) gsN)))) (gsC (gN 3) gsN)))
    (mIfS (mT (m2 neO (mV 3) (mC (.tup [(.int 0), (.int 1)]))))
    (mSet 2 (lcM (mArgI zipO (maC (mV 2) (maC (mV 5) maN))) (gT 2 (gsC (gN 7) (gsC (gN 8) gsN))) mYes (mL plus (maC (mV 7) (maC (mL times (maC (mV 3) (maC (mV 8) maN))) maN))) [7, 8] finV))
    mNx))
    (mRet (mL tupleO (maC (mV 2) maN)))))
section
variable {kb kp n : Nat}
abbrev mbG : MG := gT 2 (gsC (gT 3 (gsC (gN 4) (gsC (gN 5) (gsC (gN 6) gsN)))) (gsC (gN 3) gsN))
noncomputable abbrev mbB : MS := (mAsg (gSubM (mV 2) (mV 4) setO) (mL plus (maC (m2 ixO (mV 2) (mV 4)) (maC (mV 3) maN))))
theorem made_loop (S : DS) (b p : D) (it : Itm) (hg : it.g = none) (hkp : kp ≤ 4500) : ∀ (ps : Prs) (f : Nat → Rat) (K : Nat) (x3 x4 x5 x6 : Option D), PsOk kb kp n ps → (∀ i, i < n → Bd K (f i)) → K + (kp + 1) * ps.length ≤ 400000 →
    ∃ x3' x4' x5' x6', forL mbG mbB it (ps.map encP) [some b, some p, some (.ref S.length), x3, x4, x5, x6] (S ++ [.lst ((vec n f).map enc)]) =
      .ok (.nx, [some b, some p, some (.ref S.length), x3', x4', x5', x6']) (S ++ [.lst ((vec n fun i => f i + madeQ ps i).map enc)]) := by
  intro ps
  induction ps with
  | nil =>
    intro f K x3 x4 x5 x6 _ _ _
    refine ⟨x3, x4, x5, x6, ?_⟩
    rw [List.map_nil, forL_nil hg]
    congr 4
    rw [vec_congr fun i _ => (show f i = f i + madeQ [] i by simp [madeQ, sumQ, Rat.add_zero])]
  | cons x ps ih =>
    intro f K x3 x4 x5 x6 h hf hl
    rw [List.length_cons, Nat.mul_succ] at hl
    have hgn := h.g x (List.mem_cons_self ..)
    have ha := h.a x (List.mem_cons_self ..)
    obtain ⟨m, a⟩ := x
    obtain ⟨x3', x4', x5', x6', e⟩ := ih (fun i => f i + if m.g = i then a else 0) (K + kp + 1) (some (enc a)) (some (.int (m.g : Nat))) (some (encR m.u)) (some (enc m.w)) h.tail (fun i hi => by
      refine (hf i hi).add ?_
      split
      · exact ha.2
      · exact ⟨Nat.two_pow_pos kp, Nat.lt_of_le_of_lt (den_pos a) ha.2.d⟩) (by omega)
    refine ⟨x3', x4', x5', x6', ?_⟩
    have pl := plus_ok (S ++ [.lst ((vec n f).map enc)]) (two_r (hf m.g hgn) ha.2 (by omega) hkp)
    have ix : ixO (.ref S.length) (.int (m.g : Nat)) (S ++ [.lst ((vec n f).map enc)]) = .ok (enc (f m.g)) (S ++ [.lst ((vec n f).map enc)]) := by
      rw [ixO_ref, ref_at]
      exact vec_at f _ hgn
    have st := setO_at S.length ((vec n f).map enc) (S ++ [.lst ((vec n f).map enc)]) m.g (enc (f m.g + a)) ref_at (by rw [List.length_map, vec_len]; exact hgn)
    rw [List.set_append_right _ _ (Nat.le_refl _), Nat.sub_self, ← List.map_set, vec_set f a hgn] at st
    have st' : setO (.ref S.length) (.int (m.g : Nat)) (enc (f m.g + a)) (S ++ [.lst ((vec n f).map enc)]) = .ok () (S ++ [.lst ((vec n fun i => f i + if m.g = i then a else 0).map enc)]) := st
    rw [List.map_cons, forL_cons hg]
    have tu : turn mbG mbB (encP (m, a)) [some b, some p, some (.ref S.length), x3, x4, x5, x6] (S ++ [.lst ((vec n f).map enc)]) = .ok (.nx, [some b, some p, some (.ref S.length), some (enc a), some (.int (m.g : Nat)), some (encR m.u), some (enc m.w)]) (S ++ [.lst ((vec n fun i => f i + if m.g = i then a else 0).map enc)]) := by
      have eM : encM m = .tup [.int (m.g : Nat), encR m.u, enc m.w] := rfl
      have eP : encP (m, a) = .tup [encM m, enc a] := rfl
      rw [eP, eM]
      simp only [turn_at, gT_at, gsC_at, gsN_at, gsK_ok, gN_at, List.length_cons, List.length_nil, Nat.reduceAdd, if_true, List.set_cons_succ, List.set_cons_zero, turnK_ok, mAsg_at, mL_at, maC_at, maN_at, m2_at, mV_at, List.getElem?_cons_succ, List.getElem?_cons_zero, m2K_ok, m2J_ok, ix, maK_ok, maJ_ok, bind_ok, pl, asgK_ok, gSubM_at, gSubK_ok, gSubJ_ok, st', gSubI_ok, gK_ok]
    rw [tu, forN_nx, e]
    congr 4
    exact congrArg (List.map enc) (vec_congr fun i _ => by
      show (f i + if m.g = i then a else 0) + madeQ ps i = f i + madeQ ((m, a) :: ps) i
      rw [Rat.add_assoc]
      rfl)
theorem made_by_ok {ms : List Meth} {r : List Rat} (h : Bk kb n ms) (hr : Am kp ms.length r) (hkp : kp ≤ 150) (S : DS) (hc : Cl S) : made_by [encB n ms, encR r] S = .ok (encR (vec n (madeQ (ms.zip r)))) S := by
  have zl : (ms.zip r).length ≤ 20 := by have := h.l1; simp; omega
  have zm := Nat.mul_le_mul (show kp + 1 ≤ 151 by omega) zl
  obtain ⟨x3, x4, x5, x6, e⟩ := made_loop (kb := kb) (kp := kp) (n := n) S (encB n ms) (encR r) ⟨(ms.zip r).map encP, none⟩ rfl (by omega) (ms.zip r) (fun _ => 0) 1 none none none none (h.ps hr) (fun _ _ => bd0 (by decide)) (by omega)
  have mr : mulR (.vl [.tup [.int 0, .int 1]]) (.int (n : Nat)) S = .ok (.ref S.length) (S ++ [.lst ((vec n fun _ => 0).map enc)]) := by
    have h1 := h.n1
    unfold mulR
    simp only
    rw [if_pos ⟨by omega, by omega, Nat.le_trans (show 1 * (n : Int).toNat ≤ 6 by omega) (by decide)⟩, repL_one, Int.toNat_natCast, rep_zero]
  have ta := tupleO_ref (S := S) (J := []) (ys := (vec n fun i => 0 + madeQ (ms.zip r) i).map enc)
  simp only [made_by, defD_at]
  rw [startE_at]
  simp only [List.map_cons, List.map_nil, List.length_cons, List.length_nil, Nat.reduceAdd, Nat.reduceSub, List.reduceReplicate, if_true, List.cons_append, List.nil_append, mSeq_at, mSet_at, mL_at, maN_at, bind_ok, m2_at, mC_at, mV_at, maC_at, maK_ok, maJ_ok, List.getElem?_cons_zero, List.getElem?_cons_succ]
  rw [lstO_le (by decide)]
  simp only [m2K_ok, encB0, m2J_ok, mr, setK_ok, List.set_cons_succ, List.set_cons_zero, seqK_nx, mSeq_at, mFor_at, mArgI_at, maC_at, mV_at, mC_at, m2_at, List.getElem?_cons_zero, List.getElem?_cons_succ, encB1, maK_ok, maJ_ok, maN_at, bind_ok, zip_pairs, forK_ok]
  rw [e]
  simp only [seqK_nx, mRet_at, mL_at, maC_at, mV_at, List.getElem?_cons_succ, List.getElem?_cons_zero, maK_ok, maN_at, maJ_ok, bind_ok, ta, retK_ok, retO_rt]
  have ex : (vec n fun i => 0 + madeQ (ms.zip r) i) = vec n (madeQ (ms.zip r)) := vec_congr fun i _ => Rat.zero_add _
  rw [ex]
  exact drop_ok hc (encR (vec n (madeQ (ms.zip r)))) (fun k => under_encR k _) _
abbrev ubG : MG := gT 2 (gsC (gT 3 (gsC (gN 4) (gsC (gN 5) (gsC (gN 6) gsN)))) (gsC (gN 3) gsN))
noncomputable abbrev ubB : MS := (mIfS (mT (m2 neO (mV 3) (mC (.tup [(.int 0), (.int 1)]))))
    (mSet 2 (lcM (mArgI zipO (maC (mV 2) (maC (mV 5) maN))) (gT 2 (gsC (gN 7) (gsC (gN 8) gsN))) mYes (mL plus (maC (mV 7) (maC (mL times (maC (mV 3) (maC (mV 8) maN))) maN))) [7, 8] finV))
    mNx)
theorem zip_vr (as bs : List Rat) (S : DS) : zipO [.vl (as.map enc), encR bs] S = .ok ⟨(as.zip bs).map fun x => .tup [enc x.1, enc x.2], none⟩ S := by
  show Ou.ok (Itm.mk (zipD (as.map enc) (bs.map enc)) none) S = _
  rw [zipD_map]
theorem used_turn (S : DS) (b p : D) (h1 : kb + kp ≤ 4500) (h6 : n ≤ 6) (hk0 : 0 < kb) {m : Meth} {a : Rat} {f : Nat → Rat} {K : Nat} (hu : Am kb n m.u) (ha : Bd kp a) (hf : ∀ i, i < n → Bd K (f i)) (hK : K ≤ 400000) (x3 x4 x5 x6 x7 x8 : Option D) :
    turn ubG ubB (encP (m, a)) [some b, some p, some (.vl ((vec n f).map enc)), x3, x4, x5, x6, x7, x8] S =
      .ok (.nx, [some b, some p, some (.vl ((vec n fun i => f i + a * m.u.getD i 0).map enc)), some (enc a), some (.int (m.g : Nat)), some (encR m.u), some (enc m.w), x7, x8]) S := by
  have eM : encM m = .tup [.int (m.g : Nat), encR m.u, enc m.w] := rfl
  have eP : encP (m, a) = .tup [encM m, enc a] := rfl
  have e0 : D.tup [.int 0, .int 1] = enc 0 := rfl
  rw [eP, eM]
  simp only [turn_at, gT_at, gsC_at, gsN_at, gsK_ok, gN_at, List.length_cons, List.length_nil, Nat.reduceAdd, if_true, List.set_cons_succ, List.set_cons_zero, turnK_ok, mIfS_at, mT_at, m2_at, mV_at, mC_at, List.getElem?_cons_succ, List.getElem?_cons_zero, m2K_ok, m2J_ok, e0, neO_enc, tK_ok]
  by_cases z : a = 0
  · subst z
    simp only [decide_true, Bool.not_true, ifSK_f, mNx_at]
    rw [vec_congr fun i _ => (show f i + 0 * m.u.getD i 0 = f i by rw [Rat.zero_mul, Rat.add_zero])]
  · simp only [decide_eq_false z, Bool.not_false, ifSK_t, mSet_at, lcM_at, mArgI_at, maC_at, maN_at, mV_at, List.getElem?_cons_succ, List.getElem?_cons_zero, maK_ok, maJ_ok, bind_ok, zip_vr]
    rw [lcK_F (fun x : Rat × Rat => D.tup [enc x.1, enc x.2]) (fun x => enc (x.1 + a * x.2)) ((vec n f).zip m.u) (Nat.le_trans (by simp [vec_len]; omega) (show 6 ≤ sizeLine by decide)) ?_, finV_at, setK_ok]
    · have e : ((vec n f).zip m.u).map (fun x => enc (x.1 + a * x.2)) = (vec n fun i => f i + a * m.u.getD i 0).map enc := by
        rw [← vec_zip hu.len (fun x y => x + a * y), List.map_map]
        rfl
      rw [e]
      rfl
    · intro x hx
      obtain ⟨i, hi, e1⟩ := vec_mem (List.of_mem_zip hx).1
      have b1 : Bd K x.1 := by rw [e1]; exact hf i hi
      have b2 := (hu.ok _ (List.of_mem_zip hx).2).2
      have t1 := times_ok S (two_r ha b2 (by omega) (by omega))
      have p1 := plus_ok S (two_r b1 (ha.mul b2) hK (by omega))
      simp [wipeE, t1, p1]
theorem used_loop (S : DS) (b p : D) (it : Itm) (hg : it.g = none) (h1 : kb + kp ≤ 4500) (h6 : n ≤ 6) (hk0 : 0 < kb) : ∀ (ps : Prs) (f : Nat → Rat) (K : Nat) (x3 x4 x5 x6 x7 x8 : Option D), PsOk kb kp n ps → (∀ i, i < n → Bd K (f i)) → K + (kp + kb + 1) * ps.length ≤ 400000 →
    ∃ x3' x4' x5' x6' x7' x8', forL ubG ubB it (ps.map encP) [some b, some p, some (.vl ((vec n f).map enc)), x3, x4, x5, x6, x7, x8] S =
      .ok (.nx, [some b, some p, some (.vl ((vec n fun i => f i + usedQ ps i).map enc)), x3', x4', x5', x6', x7', x8']) S := by
  intro ps
  induction ps with
  | nil =>
    intro f K x3 x4 x5 x6 x7 x8 _ _ _
    refine ⟨x3, x4, x5, x6, x7, x8, ?_⟩
    rw [List.map_nil, forL_nil hg, vec_congr fun i _ => (show f i = f i + usedQ [] i by simp [usedQ, sumQ, Rat.add_zero])]
  | cons x ps ih =>
    intro f K x3 x4 x5 x6 x7 x8 h hf hl
    rw [List.length_cons, Nat.mul_succ] at hl
    have hu := h.u x (List.mem_cons_self ..)
    have ha := h.a x (List.mem_cons_self ..)
    obtain ⟨m, a⟩ := x
    obtain ⟨x3', x4', x5', x6', x7', x8', e⟩ := ih (fun i => f i + a * m.u.getD i 0) (K + (kp + kb) + 1) (some (enc a)) (some (.int (m.g : Nat))) (some (encR m.u)) (some (enc m.w)) x7 x8 h.tail (fun i hi => (hf i hi).add (ha.2.mul (getD_ok hu hk0 i).2)) (by omega)
    refine ⟨x3', x4', x5', x6', x7', x8', ?_⟩
    rw [List.map_cons, forL_cons hg, used_turn S b p h1 h6 hk0 hu ha.2 hf (by omega), forN_nx, e]
    rw [vec_congr fun i _ => (show (f i + a * m.u.getD i 0) + usedQ ps i = f i + usedQ ((m, a) :: ps) i by rw [Rat.add_assoc]; rfl)]
theorem used_by_ok {ms : List Meth} {r : List Rat} (h : Bk kb n ms) (hr : Am kp ms.length r) (hkp : kp ≤ 150) (hkb : kb ≤ 61) (hk0 : 0 < kb) (S : DS) : used_by [encB n ms, encR r] S = .ok (encR (vec n (usedQ (ms.zip r)))) S := by
  have zl : (ms.zip r).length ≤ 20 := by have := h.l1; simp; omega
  have zm := Nat.mul_le_mul (show kp + kb + 1 ≤ 212 by omega) zl
  have h1 := h.n1
  obtain ⟨x3, x4, x5, x6, x7, x8, e⟩ := used_loop (kb := kb) (kp := kp) (n := n) S (encB n ms) (encR r) ⟨(ms.zip r).map encP, none⟩ rfl (by omega) h1 hk0 (ms.zip r) (fun _ => 0) 1 none none none none none none (h.ps hr) (fun _ _ => bd0 (by decide)) (by omega)
  have mr : mulO (.vl [.tup [.int 0, .int 1]]) (.int (n : Nat)) S = .ok (.vl ((vec n fun _ => 0).map enc)) S := by
    unfold mulO
    simp only
    rw [if_pos ⟨by omega, by omega, Nat.le_trans (show 1 * (n : Int).toNat ≤ 6 by omega) (by decide)⟩, repL_one, Int.toNat_natCast, rep_zero]
  simp only [used_by, defM_at]
  rw [startE_at]
  simp only [List.map_cons, List.map_nil, List.length_cons, List.length_nil, Nat.reduceAdd, Nat.reduceSub, List.reduceReplicate, if_true, List.cons_append, List.nil_append, mSeq_at, mSet_at, mL_at, maN_at, bind_ok, m2_at, mC_at, mV_at, maC_at, maK_ok, maJ_ok, List.getElem?_cons_zero, List.getElem?_cons_succ]
  rw [lstO_le (by decide)]
  simp only [m2K_ok, encB0, m2J_ok, mr, setK_ok, List.set_cons_succ, List.set_cons_zero, seqK_nx, mSeq_at, mFor_at, mArgI_at, maC_at, mV_at, mC_at, m2_at, List.getElem?_cons_zero, List.getElem?_cons_succ, encB1, maK_ok, maJ_ok, maN_at, bind_ok, zip_pairs, forK_ok]
  rw [e]
  simp only [seqK_nx, mRet_at, mL_at, maC_at, mV_at, List.getElem?_cons_succ, List.getElem?_cons_zero, maK_ok, maN_at, maJ_ok, bind_ok, tupleO_vl, retK_ok, retO_rt]
  have ex : (vec n fun i => 0 + usedQ (ms.zip r) i) = vec n (usedQ (ms.zip r)) := vec_congr fun i _ => Rat.zero_add _
  rw [ex]
  rfl
/-! sizes of what is made and used -/
theorem made_bd {ps : Prs} (h : PsOk kb kp n ps) (hl : ps.length ≤ 20) (hk : 0 < kp) (i : Nat) : Bd (1 + (kp + 1) * 20) (madeQ ps i) := by
  have b : ∀ q ∈ ps.map fun x => if x.1.g = i then x.2 else 0, Bd kp q := by
    intro q hq
    obtain ⟨x, hx, rfl⟩ := List.mem_map.mp hq
    split
    · exact (h.a x hx).2
    · exact bd0 hk
  refine (Bd.sum b).mono ?_
  rw [List.length_map]
  have := Nat.mul_le_mul_left (kp + 1) hl
  omega
theorem used_bd {ps : Prs} (h : PsOk kb kp n ps) (hl : ps.length ≤ 20) (hk : 0 < kb) (i : Nat) : Bd (1 + (kp + kb + 1) * 20) (usedQ ps i) := by
  have b : ∀ q ∈ ps.map fun x => x.2 * x.1.u.getD i 0, Bd (kp + kb) q := by
    intro q hq
    obtain ⟨x, hx, rfl⟩ := List.mem_map.mp hq
    exact (h.a x hx).2.mul (getD_ok (h.u x hx) hk i).2
  refine (Bd.sum b).mono ?_
  rw [List.length_map]
  have := Nat.mul_le_mul_left (kp + kb + 1) hl
  omega
end
end FR

namespace FR
open PySem PySem.Spec PyProof.Rows L2 DL
def netQ (fac : Rat) (ps : Prs) (i : Nat) : Rat := madeQ ps i - fac * usedQ ps i
def workQ (ps : Prs) : Rat := sumQ (ps.map fun x => x.2 * x.1.w)
def costQ (m : Meth) (pr : List Rat) (fac : Rat) : Rat := fac * dotQ m.u pr + m.w
noncomputable def made : List D → DS → Ou D := defM 2 2
    (mSeq (mDo (mL check_plan (maC (mV 0) (maC (mV 1) maN))))
    (mRet (mL made_by (maC (mV 0) (maC (mV 1) maN)))))
noncomputable def used : List D → DS → Ou D := defM 2 2
    (mSeq (mDo (mL check_plan (maC (mV 0) (maC (mV 1) maN))))
    (mRet (mL used_by (maC (mV 0) (maC (mV 1) maN)))))
noncomputable def net_of : List D → DS → Ou D := defM 3 6
    (mZipRet 3 (maC (mL made_by (maC (mV 0) (maC (mV 1) maN))) (maC (mL used_by (maC (mV 0) (maC (mV 1) maN))) maN)) (gT 2 (gsC (gN 4) (gsC (gN 5) gsN))) (mL minus (maC (mV 4) (maC (mL times (maC (mV 2) (maC (mV 5) maN))) maN))) [4, 5])
noncomputable def net : List D → DS → Ou D := defM 3 3
    (mSeq (mDo (mL check_plan (maC (mV 0) (maC (mV 1) maN))))
    (mSeq (mDo (mL check_factor (maC (mV 2) maN)))
    (mRet (mL net_of (maC (mV 0) (maC (mV 1) (maC (mV 2) maN)))))))
noncomputable def work_in : List D → DS → Ou D := defM 2 4
    (mRet (mL summed (maC (lcM (mArgI zipO (maC (m2 ixO (mV 0) (mC (.int 1))) (maC (mV 1) maN))) (gT 2 (gsC (gN 2) (gsC (gN 3) gsN))) mYes (mL times (maC (mV 3) (maC (m2 ixO (mV 2) (mC (.int 2))) maN))) [2, 3] finV) maN)))
noncomputable def work_of : List D → DS → Ou D := defM 2 2
    (mSeq (mDo (mL check_plan (maC (mV 0) (maC (mV 1) maN))))
    (mRet (mL work_in (maC (mV 0) (maC (mV 1) maN)))))
noncomputable def cost_of : List D → DS → Ou D := defM 3 3
    (mRet (mL plus (maC (mL times (maC (mV 2) (maC (mL worth (maC (m2 ixO (mV 0) (mC (.int 1))) (maC (mV 1) maN))) maN))) (maC (m2 ixO (mV 0) (mC (.int 2))) maN))))
noncomputable def is_method_number : List D → DS → Ou D := defM 2 2
    (mRet (mL is_within (maC (mV 1) (maC (mC (.int 0)) (maC (m2 subO (mL lenO (maC (m2 ixO (mV 0) (mC (.int 1))) maN)) (mC (.int 1))) maN)))))
noncomputable def cost : List D → DS → Ou D := defM 4 4
    (mSeq (mDo (mL check_book (maC (mV 0) maN)))
    (mSeq (mIfS (mNot (mT (mL is_method_number (maC (mV 0) (maC (mV 1) maN)))))
    mNever
    mNx)
    (mSeq (mDo (mL check_prices (maC (mV 0) (maC (mV 2) maN))))
    (mSeq (mDo (mL check_factor (maC (mV 3) maN)))
    (mRet (mL cost_of (maC (m2 ixO (m2 ixO (mV 0) (mC (.int 1))) (mV 1)) (maC (mV 2) (maC (mV 3) maN)))))))))
section
variable {kp n : Nat} {ms : List Meth} {r : List Rat} (h : Bk 61 n ms) (hr : Am kp ms.length r) (hkp : kp ≤ 150) (hp0 : 0 < kp) (S : DS)
include h hr hkp hp0
theorem made_ok (hc : Cl S) : made [encB n ms, encR r] S = .ok (encR (vec n (madeQ (ms.zip r)))) S := by
  simp only [made, defM_at]
  simp [check_plan_ok S h hr, made_by_ok h hr hkp S hc]
theorem used_ok : used [encB n ms, encR r] S = .ok (encR (vec n (usedQ (ms.zip r)))) S := by
  simp only [used, defM_at]
  simp [check_plan_ok S h hr, used_by_ok h hr hkp (by decide) (by decide) S]
omit hkp in
theorem zip_le : (ms.zip r).length ≤ 20 := by have := h.l1; simp; omega
theorem made_le (i : Nat) : Bd 3021 (madeQ (ms.zip r) i) := (made_bd (h.ps hr) (zip_le h hr hp0) hp0 i).mono (by have := Nat.mul_le_mul_right 20 (show kp + 1 ≤ 151 by omega); omega)
theorem used_le (i : Nat) : Bd 4241 (usedQ (ms.zip r) i) := (used_bd (h.ps hr) (zip_le h hr hp0) (by decide) i).mono (by have := Nat.mul_le_mul_right 20 (show kp + 61 + 1 ≤ 212 by omega); omega)
theorem net_of_ok {fac : Rat} (hf : Bd 61 fac) (hc : Cl S) : net_of [encB n ms, encR r, enc fac] S = .ok (encR (vec n (netQ fac (ms.zip r)))) S := by
  have h1 := h.n1
  have mb := made_by_ok h hr hkp S hc
  have ub := used_by_ok h hr hkp (by decide) (by decide) S
  simp only [net_of, defM_at]
  rw [startE_at]
  simp only [List.map_cons, List.map_nil, List.length_cons, List.length_nil, Nat.reduceAdd, Nat.reduceSub, List.reduceReplicate, if_true, List.cons_append, List.nil_append, mZipRet, maC_at, maN_at, mL_at, mV_at, List.getElem?_cons_zero, List.getElem?_cons_succ, maK_ok, maJ_ok, bind_ok, mb, ub, lift_ok, List.set_cons_succ, List.set_cons_zero, mRet_at, lcM_at, zip_enc]
  rw [lcK_F (fun x : Rat × Rat => D.tup [enc x.1, enc x.2]) (fun x => enc (x.1 - fac * x.2)) ((vec n (madeQ (ms.zip r))).zip (vec n (usedQ (ms.zip r)))) (Nat.le_trans (by simp [vec_len]; omega) (show 6 ≤ sizeLine by decide)) ?_, finV_at]
  · simp only [maK_ok, maN_at, maJ_ok, bind_ok, tupleO_vl, retK_ok, retO_rt]
    have e : (((vec n (madeQ (ms.zip r))).zip (vec n (usedQ (ms.zip r)))).map fun x => enc (x.1 - fac * x.2)) = (vec n (netQ fac (ms.zip r))).map enc := by
      have e1 : vec n (netQ fac (ms.zip r)) = vec n fun i => madeQ (ms.zip r) i - fac * (vec n (usedQ (ms.zip r))).getD i 0 := vec_congr fun i hi => by rw [List.getD_eq_getElem?_getD, vec_get _ hi]; rfl
      rw [e1, ← vec_zip (vec_len n _) (fun x y => x - fac * y), List.map_map]
      rfl
    rw [e]
    rfl
  · intro x hx
    obtain ⟨i, hi, e1⟩ := vec_mem (List.of_mem_zip hx).1
    obtain ⟨j, hj, e2⟩ := vec_mem (List.of_mem_zip hx).2
    have b1 : Bd 3021 x.1 := by rw [e1]; exact made_le h hr hkp hp0 i
    have b2 : Bd 4241 x.2 := by rw [e2]; exact used_le h hr hkp hp0 j
    have t1 := times_ok S (two_l hf b2 (by decide) (by decide))
    have p1 := minus_ok S (two_l b1 (hf.mul b2) (by decide) (by decide))
    simp [wipeE, t1, p1]
theorem net_ok {fac : Rat} (hf : Bd 61 fac) (hf0 : 0 ≤ fac) (hc : Cl S) : net [encB n ms, encR r, enc fac] S = .ok (encR (vec n (netQ fac (ms.zip r)))) S := by
  simp only [net, defM_at]
  simp [check_plan_ok S h hr, check_factor_ok S hf0, net_of_ok h hr hkp hp0 S hf hc]
theorem work_in_ok : work_in [encB n ms, encR r] S = .ok (enc (workQ (ms.zip r))) S := by
  have h4 := h.l1
  have zl := zip_le h hr hp0
  have P := h.ps hr
  have b : ∀ q ∈ (ms.zip r).map fun x => x.2 * x.1.w, Bd (kp + 61) q := by
    intro q hq
    obtain ⟨x, hx, rfl⟩ := List.mem_map.mp hq
    exact (P.a x hx).2.mul (P.w x hx).2
  have sm := summed_vl (k := kp + 61) (by omega) b (by rw [List.length_map]; have := Nat.mul_le_mul (show kp + 61 + 1 ≤ 212 by omega) zl; omega) S
  simp only [work_in, defM_at]
  rw [startE_at]
  simp only [List.map_cons, List.map_nil, List.length_cons, List.length_nil, Nat.reduceAdd, Nat.reduceSub, List.reduceReplicate, if_true, List.cons_append, List.nil_append, mRet_at, mL_at, maC_at, maN_at, lcM_at, mArgI_at, m2_at, mV_at, mC_at, List.getElem?_cons_zero, List.getElem?_cons_succ, m2K_ok, m2J_ok, encB1, maK_ok, maJ_ok, bind_ok, zip_pairs]
  rw [lcK_F encP (fun x => enc (x.2 * x.1.w)) (ms.zip r) (Nat.le_trans zl (by decide)) ?_, finV_at]
  · have e : (ms.zip r).map (fun x => enc (x.2 * x.1.w)) = ((ms.zip r).map fun x => x.2 * x.1.w).map enc := by rw [List.map_map]; rfl
    rw [e]
    simp only [maK_ok, maN_at, maJ_ok, bind_ok, sm, retK_ok, retO_rt]
    rfl
  · intro x hx
    have eP : encP x = .tup [encM x.1, enc x.2] := rfl
    have t1 := times_ok S (two_r (P.a x hx).2 (P.w x hx).2 (by omega) (by decide))
    rw [eP]
    simp [wipeE, encM2, t1]
theorem work_of_ok : work_of [encB n ms, encR r] S = .ok (enc (workQ (ms.zip r))) S := by
  simp only [work_of, defM_at]
  simp [check_plan_ok S h hr, work_in_ok h hr hkp hp0 S]
end
section
variable {n : Nat} {ms : List Meth} {pr : List Rat} {fac : Rat} (h : Bk 61 n ms) (hpr : Am 61 n pr) (hf : Bd 61 fac) (S : DS)
include h hpr hf
theorem dot_le {m : Meth} (hm : m ∈ ms) : Bd 739 (dotQ m.u pr) := (Bd.dot (h.u m hm).bd hpr.bd (n := 6) (by rw [(h.u m hm).len]; exact h.n1)).mono (by decide)
theorem cost_le {m : Meth} (hm : m ∈ ms) : Bd 862 (costQ m pr fac) := ((hf.mul (dot_le h hpr hf hm)).add (h.w m hm).2).mono (by decide)
theorem cost_of_ok {m : Meth} (hm : m ∈ ms) : cost_of [encM m, encR pr, enc fac] S = .ok (enc (costQ m pr fac)) S := by
  have hu := h.u m hm
  have d := dot_le h hpr hf hm
  have wo := worth_ok hu.bd hpr.bd (by decide) (by rw [hu.len]; have := h.n1; omega) S
  have t1 := times_ok S (two_l hf d (by decide) (by decide))
  have p1 := plus_ok S (two_r (hf.mul d) (h.w m hm).2 (by decide) (by decide))
  simp only [cost_of, defM_at]
  simp [encM1, encM2, wo, t1, p1]
  rfl
theorem cost_ok (hf0 : 0 ≤ fac) {j : Nat} {m : Meth} (hj : ms[j]? = some m) : cost [encB n ms, .int (j : Nat), encR pr, enc fac] S = .ok (enc (costQ m pr fac)) S := by
  have hm := List.mem_of_getElem? hj
  have lj := (List.getElem?_eq_some_iff.mp hj).1
  have ln : lenO [.tup (ms.map encM)] S = .ok (.int (ms.length : Nat)) S := by rw [lenO_tup, List.length_map]
  have wi := within_ok S (j : Nat) 0 ((ms.length : Int) - 1)
  rw [show (decide ((0 : Int) ≤ ((j : Nat) : Int)) && decide (((j : Nat) : Int) ≤ (ms.length : Int) - 1)) = true by simp; omega] at wi
  have mn : is_method_number [encB n ms, .int (j : Nat)] S = .ok (.bl true) S := by
    simp only [is_method_number, defM_at]
    simp [encB1, ln, wi]
  have g : getI (ms.map encM) (j : Int) S = .ok (encM m) S := getI_map encM ms j hj
  simp only [cost, defM_at]
  simp [check_book_ok S h, mn, check_prices_ok S h hpr, check_factor_ok S hf0, encB1, g, cost_of_ok h hpr hf S hm]
end
end FR

namespace K23
open PySem PySem.Spec PyProof.Rows L2 DL
/-! ### the text, printed from T.py -/
def topS (i : Nat) : Stmt := PySem.Challenge.pw_everyprice_k23_whole_shops_led.main.body.getD i (.Pass ⟨0, 0, 0, 0⟩)
abbrev s_is_integer : Stmt := topS 2
theorem sc_is_integer : FnScope ["thing"] ["thing"] (defScope s_is_integer) := ⟨rfl, rfl, rfl, by decide +kernel, rfl, by decide +kernel, by decide +kernel⟩
abbrev s_is_sized : Stmt := topS 4
theorem sc_is_sized : FnScope ["thing", "low", "high"] ["thing", "low", "high"] (defScope s_is_sized) := ⟨rfl, rfl, rfl, by decide +kernel, rfl, by decide +kernel, by decide +kernel⟩
abbrev s_common : Stmt := topS 6
theorem sc_common : FnScope ["one", "other"] ["one", "other"] (defScope s_common) := ⟨rfl, rfl, rfl, by decide +kernel, rfl, by decide +kernel, by decide +kernel⟩
abbrev s_share : Stmt := topS 7
theorem sc_share : FnScope ["top", "bottom", "part"] ["top", "bottom"] (defScope s_share) := ⟨rfl, rfl, rfl, by decide +kernel, rfl, by decide +kernel, by decide +kernel⟩
abbrev s_is_share : Stmt := topS 8
theorem sc_is_share : FnScope ["thing"] ["thing"] (defScope s_is_share) := ⟨rfl, rfl, rfl, by decide +kernel, rfl, by decide +kernel, by decide +kernel⟩
abbrev s_plus : Stmt := topS 9
theorem sc_plus : FnScope ["one", "other"] ["one", "other"] (defScope s_plus) := ⟨rfl, rfl, rfl, by decide +kernel, rfl, by decide +kernel, by decide +kernel⟩
abbrev s_minus : Stmt := topS 10
theorem sc_minus : FnScope ["one", "other"] ["one", "other"] (defScope s_minus) := ⟨rfl, rfl, rfl, by decide +kernel, rfl, by decide +kernel, by decide +kernel⟩
abbrev s_times : Stmt := topS 11
theorem sc_times : FnScope ["one", "other"] ["one", "other"] (defScope s_times) := ⟨rfl, rfl, rfl, by decide +kernel, rfl, by decide +kernel, by decide +kernel⟩
abbrev s_is_less : Stmt := topS 12
theorem sc_is_less : FnScope ["one", "other"] ["one", "other"] (defScope s_is_less) := ⟨rfl, rfl, rfl, by decide +kernel, rfl, by decide +kernel, by decide +kernel⟩
abbrev s_summed : Stmt := topS 13
theorem sc_summed : FnScope ["many", "found", "one"] ["many"] (defScope s_summed) := ⟨rfl, rfl, rfl, by decide +kernel, rfl, by decide +kernel, by decide +kernel⟩
abbrev s_is_integer_1 : Stmt := topS 15
theorem sc_is_integer_1 : FnScope ["thing"] ["thing"] (defScope s_is_integer_1) := ⟨rfl, rfl, rfl, by decide +kernel, rfl, by decide +kernel, by decide +kernel⟩
abbrev s_is_within : Stmt := topS 17
theorem sc_is_within : FnScope ["thing", "low", "high"] ["thing", "low", "high"] (defScope s_is_within) := ⟨rfl, rfl, rfl, by decide +kernel, rfl, by decide +kernel, by decide +kernel⟩
abbrev s_is_sized_1 : Stmt := topS 18
theorem sc_is_sized_1 : FnScope ["thing", "low", "high"] ["thing", "low", "high"] (defScope s_is_sized_1) := ⟨rfl, rfl, rfl, by decide +kernel, rfl, by decide +kernel, by decide +kernel⟩
abbrev s_is_amount : Stmt := topS 20
theorem sc_is_amount : FnScope ["thing"] ["thing"] (defScope s_is_amount) := ⟨rfl, rfl, rfl, by decide +kernel, rfl, by decide +kernel, by decide +kernel⟩
abbrev s_are_amounts : Stmt := topS 21
theorem sc_are_amounts : FnScope ["thing", "many", "one"] ["thing", "many"] (defScope s_are_amounts) := ⟨rfl, rfl, rfl, by decide +kernel, rfl, by decide +kernel, by decide +kernel⟩
abbrev s_is_making : Stmt := topS 33
theorem sc_is_making : FnScope ["goods", "thing"] ["goods", "thing"] (defScope s_is_making) := ⟨rfl, rfl, rfl, by decide +kernel, rfl, by decide +kernel, by decide +kernel⟩
abbrev s_is_shop : Stmt := topS 34
theorem sc_is_shop : FnScope ["thing", "goods", "methods", "stocks", "days", "method"] ["thing"] (defScope s_is_shop) := ⟨rfl, rfl, rfl, by decide +kernel, rfl, by decide +kernel, by decide +kernel⟩
abbrev s_check_shop : Stmt := topS 35
theorem sc_check_shop : FnScope ["shop"] ["shop"] (defScope s_check_shop) := ⟨rfl, rfl, rfl, by decide +kernel, rfl, by decide +kernel, by decide +kernel⟩
abbrev s_is_order : Stmt := topS 36
theorem sc_is_order : FnScope ["shop", "thing"] ["shop", "thing"] (defScope s_is_order) := ⟨rfl, rfl, rfl, by decide +kernel, rfl, by decide +kernel, by decide +kernel⟩
abbrev s_are_orders_of : Stmt := topS 37
theorem sc_are_orders_of : FnScope ["shop", "thing", "one"] ["shop", "thing"] (defScope s_are_orders_of) := ⟨rfl, rfl, rfl, by decide +kernel, rfl, by decide +kernel, by decide +kernel⟩
abbrev s_are_orders : Stmt := topS 38
theorem sc_are_orders : FnScope ["shop", "thing"] ["shop", "thing"] (defScope s_are_orders) := ⟨rfl, rfl, rfl, by decide +kernel, rfl, by decide +kernel, by decide +kernel⟩
abbrev s_check_orders : Stmt := topS 39
theorem sc_check_orders : FnScope ["shop", "orders"] ["shop", "orders"] (defScope s_check_orders) := ⟨rfl, rfl, rfl, by decide +kernel, rfl, by decide +kernel, by decide +kernel⟩
abbrev s_is_schedule_of : Stmt := topS 40
theorem sc_is_schedule_of : FnScope ["shop", "thing", "goods", "methods", "stocks", "days", "row", "one", "method"] ["shop", "thing"] (defScope s_is_schedule_of) := ⟨rfl, rfl, rfl, by decide +kernel, rfl, by decide +kernel, by decide +kernel⟩
abbrev s_is_schedule : Stmt := topS 41
theorem sc_is_schedule : FnScope ["shop", "thing"] ["shop", "thing"] (defScope s_is_schedule) := ⟨rfl, rfl, rfl, by decide +kernel, rfl, by decide +kernel, by decide +kernel⟩
abbrev s_check_schedule : Stmt := topS 42
theorem sc_check_schedule : FnScope ["shop", "orders", "schedule"] ["shop", "orders", "schedule"] (defScope s_check_schedule) := ⟨rfl, rfl, rfl, by decide +kernel, rfl, by decide +kernel, by decide +kernel⟩
abbrev s_change : Stmt := topS 43
theorem sc_change : FnScope ["shop", "schedule", "day", "good", "found", "number", "made", "uses", "take", "most"] ["shop", "schedule", "day", "good"] (defScope s_change) := ⟨rfl, rfl, rfl, by decide +kernel, rfl, by decide +kernel, by decide +kernel⟩
abbrev s_due_on : Stmt := topS 44
theorem sc_due_on : FnScope ["orders", "day", "good", "one", "amount", "when"] ["orders", "day", "good"] (defScope s_due_on) := ⟨rfl, rfl, rfl, by decide +kernel, rfl, by decide +kernel, by decide +kernel⟩
abbrev s_led_by : Stmt := topS 45
theorem sc_led_by : FnScope ["shop", "orders", "schedule", "day", "stocks", "found", "later", "good", "many"] ["shop", "orders", "schedule"] (defScope s_led_by) := ⟨rfl, rfl, rfl, by decide +kernel, rfl, by decide +kernel, by decide +kernel⟩
abbrev s_led_shop : Stmt := topS 46
theorem sc_led_shop : FnScope ["shop", "orders", "schedule"] ["shop", "orders", "schedule"] (defScope s_led_shop) := ⟨rfl, rfl, rfl, by decide +kernel, rfl, by decide +kernel, by decide +kernel⟩
abbrev s_lack_in : Stmt := topS 47
theorem sc_lack_in : FnScope ["shop", "orders", "schedule", "day", "stocks", "good", "many"] ["shop", "orders", "schedule"] (defScope s_lack_in) := ⟨rfl, rfl, rfl, by decide +kernel, rfl, by decide +kernel, by decide +kernel⟩
abbrev s_first_lack : Stmt := topS 48
theorem sc_first_lack : FnScope ["shop", "orders", "schedule"] ["shop", "orders", "schedule"] (defScope s_first_lack) := ⟨rfl, rfl, rfl, by decide +kernel, rfl, by decide +kernel, by decide +kernel⟩
abbrev s__law_hand : Stmt := topS 50
theorem sc__law_hand : FnScope ["script", "cells", "cell"] ["script"] (defScope s__law_hand) := ⟨rfl, rfl, rfl, by decide +kernel, rfl, by decide +kernel, by decide +kernel⟩
abbrev s__law_draw : Stmt := topS 51
theorem sc__law_draw : FnScope ["hand", "many", "number", "cell", "digit"] ["hand", "many"] (defScope s__law_draw) := ⟨rfl, rfl, rfl, by decide +kernel, rfl, by decide +kernel, by decide +kernel⟩
abbrev s__law_any : Stmt := topS 52
theorem sc__law_any : FnScope ["hand", "some"] ["hand", "some"] (defScope s__law_any) := ⟨rfl, rfl, rfl, by decide +kernel, rfl, by decide +kernel, by decide +kernel⟩
abbrev s__law_low : Stmt := topS 53
theorem sc__law_low : FnScope ["top", "bottom", "a", "b"] ["top", "bottom"] (defScope s__law_low) := ⟨rfl, rfl, rfl, by decide +kernel, rfl, by decide +kernel, by decide +kernel⟩
abbrev s__law_add : Stmt := topS 54
theorem sc__law_add : FnScope ["one", "other"] ["one", "other"] (defScope s__law_add) := ⟨rfl, rfl, rfl, by decide +kernel, rfl, by decide +kernel, by decide +kernel⟩
abbrev s__law_less : Stmt := topS 55
theorem sc__law_less : FnScope ["one", "other"] ["one", "other"] (defScope s__law_less) := ⟨rfl, rfl, rfl, by decide +kernel, rfl, by decide +kernel, by decide +kernel⟩
abbrev s__law_mul : Stmt := topS 56
theorem sc__law_mul : FnScope ["one", "other"] ["one", "other"] (defScope s__law_mul) := ⟨rfl, rfl, rfl, by decide +kernel, rfl, by decide +kernel, by decide +kernel⟩
abbrev s__law_is_below : Stmt := topS 57
theorem sc__law_is_below : FnScope ["one", "other"] ["one", "other"] (defScope s__law_is_below) := ⟨rfl, rfl, rfl, by decide +kernel, rfl, by decide +kernel, by decide +kernel⟩
abbrev s__law_is_amount : Stmt := topS 58
theorem sc__law_is_amount : FnScope ["thing", "one"] ["thing"] (defScope s__law_is_amount) := ⟨rfl, rfl, rfl, by decide +kernel, rfl, by decide +kernel, by decide +kernel⟩
abbrev s__law_is_number : Stmt := topS 59
theorem sc__law_is_number : FnScope ["thing", "low", "high"] ["thing", "low", "high"] (defScope s__law_is_number) := ⟨rfl, rfl, rfl, by decide +kernel, rfl, by decide +kernel, by decide +kernel⟩
abbrev s__law_amount : Stmt := topS 60
theorem sc__law_amount : FnScope ["hand", "wide"] ["hand", "wide"] (defScope s__law_amount) := ⟨rfl, rfl, rfl, by decide +kernel, rfl, by decide +kernel, by decide +kernel⟩
abbrev s__law_shop : Stmt := topS 61
theorem sc__law_shop : FnScope ["hand", "goods", "methods", "days", "rows", "lap", "one", "good", "uses"] ["hand", "goods", "methods", "days"] (defScope s__law_shop) := ⟨rfl, rfl, rfl, by decide +kernel, rfl, by decide +kernel, by decide +kernel⟩
abbrev s__law_drawn_schedule : Stmt := topS 62
theorem sc__law_drawn_schedule : FnScope ["hand", "shop", "found", "day", "row", "one"] ["hand", "shop"] (defScope s__law_drawn_schedule) := ⟨rfl, rfl, rfl, by decide +kernel, rfl, by decide +kernel, by decide +kernel⟩
abbrev s__law_led : Stmt := topS 63
theorem sc__law_led : FnScope ["shop", "orders", "schedule", "day", "stocks", "found", "at", "good", "amount", "when", "uses", "take", "most", "one", "use"] ["shop", "orders", "schedule"] (defScope s__law_led) := ⟨rfl, rfl, rfl, by decide +kernel, rfl, by decide +kernel, by decide +kernel⟩
abbrev s__law_is_schedule : Stmt := topS 64
theorem sc__law_is_schedule : FnScope ["shop", "thing", "row", "one", "method"] ["shop", "thing"] (defScope s__law_is_schedule) := ⟨rfl, rfl, rfl, by decide +kernel, rfl, by decide +kernel, by decide +kernel⟩
abbrev s__law_orders : Stmt := topS 65
theorem sc__law_orders : FnScope ["hand", "shop", "many", "wide", "found", "lap"] ["hand", "shop", "many", "wide"] (defScope s__law_orders) := ⟨rfl, rfl, rfl, by decide +kernel, rfl, by decide +kernel, by decide +kernel⟩
abbrev s__law_lesser : Stmt := topS 67
theorem sc__law_lesser : FnScope ["one", "other", "first", "last"] ["one", "other"] (defScope s__law_lesser) := ⟨rfl, rfl, rfl, by decide +kernel, rfl, by decide +kernel, by decide +kernel⟩
abbrev s__law_made_case : Stmt := topS 66
theorem sc__law_made_case : FnScope ["hand", "goods", "methods", "days", "shop", "schedule", "lacks", "row", "stocks", "orders", "lap", "rest", "least", "one", "good", "day", "lack"] ["hand", "goods", "methods", "days"] (defScope s__law_made_case) := ⟨rfl, rfl, rfl, by decide +kernel, rfl, by decide +kernel, by decide +kernel⟩
abbrev s__law_are_amounts : Stmt := topS 69
theorem sc__law_are_amounts : FnScope ["thing", "many", "one"] ["thing", "many"] (defScope s__law_are_amounts) := ⟨rfl, rfl, rfl, by decide +kernel, rfl, by decide +kernel, by decide +kernel⟩
abbrev s__law_is_shop : Stmt := topS 68
theorem sc__law_is_shop : FnScope ["thing", "one", "goods", "methods", "stocks", "days"] ["thing"] (defScope s__law_is_shop) := ⟨rfl, rfl, rfl, by decide +kernel, rfl, by decide +kernel, by decide +kernel⟩
abbrev s__law_are_orders : Stmt := topS 70
theorem sc__law_are_orders : FnScope ["shop", "thing", "one"] ["shop", "thing"] (defScope s__law_are_orders) := ⟨rfl, rfl, rfl, by decide +kernel, rfl, by decide +kernel, by decide +kernel⟩
abbrev s__law_odd : Stmt := topS 71
theorem sc__law_odd : FnScope ["hand", "deep", "lap", "some"] ["hand"] (defScope s__law_odd) := ⟨rfl, rfl, rfl, by decide +kernel, rfl, by decide +kernel, by decide +kernel⟩
abbrev s__law_bent : Stmt := topS 72
theorem sc__law_bent : FnScope ["hand", "thing", "at", "kind"] ["hand", "thing"] (defScope s__law_bent) := ⟨rfl, rfl, rfl, by decide +kernel, rfl, by decide +kernel, by decide +kernel⟩
abbrev s__law_lack : Stmt := topS 73
theorem sc__law_lack : FnScope ["shop", "orders", "schedule", "day", "row", "good", "one"] ["shop", "orders", "schedule"] (defScope s__law_lack) := ⟨rfl, rfl, rfl, by decide +kernel, rfl, by decide +kernel, by decide +kernel⟩
abbrev s__law_is_led : Stmt := topS 74
theorem sc__law_is_led : FnScope ["shop", "orders", "schedule", "told", "lack", "due", "kept"] ["shop", "orders", "schedule"] (defScope s__law_is_led) := ⟨rfl, rfl, rfl, by decide +kernel, rfl, by decide +kernel, by decide +kernel⟩
abbrev s__law_are_judged : Stmt := topS 75
theorem sc__law_are_judged : FnScope ["hand", "shop", "orders", "schedule", "lap", "thing"] ["hand", "shop", "orders", "schedule"] (defScope s__law_are_judged) := ⟨rfl, rfl, rfl, by decide +kernel, rfl, by decide +kernel, by decide +kernel⟩
abbrev s_law : Stmt := topS 76
theorem sc_law : FnScope ["script", "hand", "shop", "lap", "goods", "methods", "days", "orders", "schedule"] ["script"] (defScope s_law) := ⟨rfl, rfl, rfl, by decide +kernel, rfl, by decide +kernel, by decide +kernel⟩
/-! ### what each def does -/
noncomputable def m_is_integer : List D → DS → Ou D := defM 1 1
    (mRet (mAndV (isiM "int" (mV 0)) (mNotV (isiM "bool" (mV 0)))))
noncomputable def m_is_sized : List D → DS → Ou D := defM 3 3
    (mRet (mAndV (isiM "tuple" (mV 0)) (mChain leO leO (mV 1) (mL lenO (maC (mV 0) maN)) (mV 2))))
noncomputable def m_common : List D → DS → Ou D := defM 2 2
    (mSeq (mWhile (mT (m2 neO (mV 1) (mC (.int 0))))
    (mPar 0 1 (maC (mV 1) (maC (m2 modO (mV 0) (mV 1)) maN))))
    (mRet (mL absO (maC (mV 0) maN))))
noncomputable def m_share : List D → DS → Ou D := defM 2 3
    (mSeq (mSet 2 (mL m_common (maC (mV 0) (maC (mV 1) maN))))
    (mSeq (mIfS (mT (m2 ltO (mV 1) (mC (.int 0))))
    (mSet 2 (m1 negO (mV 2)))
    mNx)
    (mRet (mL tupO (maC (m2 fdivO (mV 0) (mV 2)) (maC (m2 fdivO (mV 1) (mV 2)) maN))))))
noncomputable def m_is_share : List D → DS → Ou D := defM 1 1
    (mSeq (mIfS (mOr (mNot (mT (mL m_is_sized (maC (mV 0) (maC (mC (.int 2)) (maC (mC (.int 2)) maN)))))) (mOr (mNot (mT (mL m_is_integer (maC (m2 ixO (mV 0) (mC (.int 0))) maN)))) (mNot (mT (mL m_is_integer (maC (m2 ixO (mV 0) (mC (.int 1))) maN))))))
    (mRet (mC (.bl false)))
    mNx)
    (mRet (mAndV (m2 gtO (m2 ixO (mV 0) (mC (.int 1))) (mC (.int 0))) (m2 eqO (mL m_common (maC (m2 ixO (mV 0) (mC (.int 0))) (maC (m2 ixO (mV 0) (mC (.int 1))) maN))) (mC (.int 1))))))
noncomputable def m_plus : List D → DS → Ou D := defM 2 2
    (mSeq (mIfS (mT (m2 eqO (m2 ixO (mV 0) (mC (.int 1))) (m2 ixO (mV 1) (mC (.int 1)))))
    (mRet (mL m_share (maC (m2 addO (m2 ixO (mV 0) (mC (.int 0))) (m2 ixO (mV 1) (mC (.int 0)))) (maC (m2 ixO (mV 0) (mC (.int 1))) maN))))
    mNx)
    (mRet (mL m_share (maC (m2 addO (m2 mulO (m2 ixO (mV 0) (mC (.int 0))) (m2 ixO (mV 1) (mC (.int 1)))) (m2 mulO (m2 ixO (mV 1) (mC (.int 0))) (m2 ixO (mV 0) (mC (.int 1))))) (maC (m2 mulO (m2 ixO (mV 0) (mC (.int 1))) (m2 ixO (mV 1) (mC (.int 1)))) maN)))))
noncomputable def m_minus : List D → DS → Ou D := defM 2 2
    (mRet (mL m_plus (maC (mV 0) (maC (mL tupO (maC (m1 negO (m2 ixO (mV 1) (mC (.int 0)))) (maC (m2 ixO (mV 1) (mC (.int 1))) maN))) maN))))
noncomputable def m_times : List D → DS → Ou D := defM 2 2
    (mRet (mL m_share (maC (m2 mulO (m2 ixO (mV 0) (mC (.int 0))) (m2 ixO (mV 1) (mC (.int 0)))) (maC (m2 mulO (m2 ixO (mV 0) (mC (.int 1))) (m2 ixO (mV 1) (mC (.int 1)))) maN))))
noncomputable def m_is_less : List D → DS → Ou D := defM 2 2
    (mRet (m2 ltO (m2 mulO (m2 ixO (mV 0) (mC (.int 0))) (m2 ixO (mV 1) (mC (.int 1)))) (m2 mulO (m2 ixO (mV 1) (mC (.int 0))) (m2 ixO (mV 0) (mC (.int 1))))))
noncomputable def m_summed : List D → DS → Ou D := defM 1 3
    (mSeq (mSet 1 (mC (.tup [(.int 0), (.int 1)])))
    (mSeq (mFor (mSeqI (mV 0)) (gN 2)
    (mSet 1 (mL m_plus (maC (mV 1) (maC (mV 2) maN)))))
    (mRet (mV 1))))
noncomputable def m_is_integer_1 : List D → DS → Ou D := defM 1 1
    (mRet (mAndV (isiM "int" (mV 0)) (mNotV (isiM "bool" (mV 0)))))
noncomputable def m_is_within : List D → DS → Ou D := defM 3 3
    (mRet (mAndV (mL m_is_integer_1 (maC (mV 0) maN)) (mChain leO leO (mV 1) (mV 0) (mV 2))))
noncomputable def m_is_sized_1 : List D → DS → Ou D := defM 3 3
    (mRet (mAndV (isiM "tuple" (mV 0)) (mChain leO leO (mV 1) (mL lenO (maC (mV 0) maN)) (mV 2))))
noncomputable def m_is_amount : List D → DS → Ou D := defM 1 1
    (mRet (mAndV (mL m_is_share (maC (mV 0) maN)) (m2 geO (m2 ixO (mV 0) (mC (.int 0))) (mC (.int 0)))))
noncomputable def m_are_amounts : List D → DS → Ou D := defM 2 3
    (mRet (mAndV (mL m_is_sized_1 (maC (mV 0) (maC (mV 1) (maC (mV 1) maN)))) (mL allO (maC (lcM (mSeqI (mV 0)) (gN 2) mYes (mL m_is_amount (maC (mV 2) maN)) [2] finV) maN))))
noncomputable def m_is_making : List D → DS → Ou D := defM 2 2
    (mSeq (mIfS (mOr (mNot (mT (mL m_is_sized_1 (maC (mV 1) (maC (mC (.int 4)) (maC (mC (.int 4)) maN)))))) (mOr (mNot (mT (mL m_is_within (maC (m2 ixO (mV 1) (mC (.int 0))) (maC (mC (.int 0)) (maC (m2 subO (mV 0) (mC (.int 1))) maN)))))) (mNot (mT (mL m_are_amounts (maC (m2 ixO (mV 1) (mC (.int 1))) (maC (mV 0) maN)))))))
    (mRet (mC (.bl false)))
    mNx)
    (mRet (mAndV (mL m_is_within (maC (m2 ixO (mV 1) (mC (.int 2))) (maC (mC (.int 1)) (maC (mC (.int 4)) maN)))) (mL m_is_amount (maC (m2 ixO (mV 1) (mC (.int 3))) maN)))))
noncomputable def m_is_shop : List D → DS → Ou D := defM 1 6
    (mSeq (mIfS (mOr (mNot (mT (mL m_is_sized_1 (maC (mV 0) (maC (mC (.int 4)) (maC (mC (.int 4)) maN)))))) (mOr (mNot (mT (mL m_is_within (maC (m2 ixO (mV 0) (mC (.int 0))) (maC (mC (.int 1)) (maC (mC (.int 4)) maN)))))) (mNot (mT (mL m_is_sized_1 (maC (m2 ixO (mV 0) (mC (.int 1))) (maC (mC (.int 1)) (maC (mC (.int 6)) maN))))))))
    (mRet (mC (.bl false)))
    mNx)
    (mSeq (mAsg (gT 4 (gsC (gN 1) (gsC (gN 2) (gsC (gN 3) (gsC (gN 4) gsN))))) (mV 0))
    (mSeq (mIfS (mNot (mT (mL allO (maC (lcM (mSeqI (mV 2)) (gN 5) mYes (mL m_is_making (maC (mV 1) (maC (mV 5) maN))) [5] finV) maN))))
    (mRet (mC (.bl false)))
    mNx)
    (mRet (mAndV (mL m_are_amounts (maC (mV 3) (maC (mV 1) maN))) (mL m_is_within (maC (mV 4) (maC (mC (.int 1)) (maC (mC (.int 7)) maN)))))))))
noncomputable def m_check_shop : List D → DS → Ou D := defM 1 1
    (mIfS (mNot (mT (mL m_is_shop (maC (mV 0) maN))))
    mNever
    mNx)
noncomputable def m_is_order : List D → DS → Ou D := defM 2 2
    (mSeq (mIfS (mOr (mNot (mT (mL m_is_sized_1 (maC (mV 1) (maC (mC (.int 3)) (maC (mC (.int 3)) maN)))))) (mOr (mNot (mT (mL m_is_within (maC (m2 ixO (mV 1) (mC (.int 0))) (maC (mC (.int 0)) (maC (m2 subO (m2 ixO (mV 0) (mC (.int 0))) (mC (.int 1))) maN)))))) (mNot (mT (mL m_is_amount (maC (m2 ixO (mV 1) (mC (.int 1))) maN))))))
    (mRet (mC (.bl false)))
    mNx)
    (mRet (mL m_is_within (maC (m2 ixO (mV 1) (mC (.int 2))) (maC (mC (.int 0)) (maC (m2 subO (m2 ixO (mV 0) (mC (.int 3))) (mC (.int 1))) maN))))))
noncomputable def m_are_orders_of : List D → DS → Ou D := defM 2 3
    (mRet (mAndV (mL m_is_sized_1 (maC (mV 1) (maC (mC (.int 0)) (maC (mC (.int 12)) maN)))) (mL allO (maC (lcM (mSeqI (mV 1)) (gN 2) mYes (mL m_is_order (maC (mV 0) (maC (mV 2) maN))) [2] finV) maN))))
noncomputable def m_are_orders : List D → DS → Ou D := defM 2 2
    (mSeq (mDo (mL m_check_shop (maC (mV 0) maN)))
    (mRet (mL m_are_orders_of (maC (mV 0) (maC (mV 1) maN)))))
noncomputable def m_check_orders : List D → DS → Ou D := defM 2 2
    (mSeq (mDo (mL m_check_shop (maC (mV 0) maN)))
    (mIfS (mNot (mT (mL m_are_orders_of (maC (mV 0) (maC (mV 1) maN)))))
    mNever
    mNx))
noncomputable def m_is_schedule_of : List D → DS → Ou D := defM 2 9
    (mSeq (mAsg (gT 4 (gsC (gN 2) (gsC (gN 3) (gsC (gN 4) (gsC (gN 5) gsN))))) (mV 0))
    (mSeq (mIfS (mOr (mNot (mT (mL m_is_sized_1 (maC (mV 1) (maC (mV 5) (maC (mV 5) maN)))))) (mNot (mT (mL allO (maC (lcM (mSeqI (mV 1)) (gN 6) mYes (mL m_are_amounts (maC (mV 6) (maC (mL lenO (maC (mV 3) maN)) maN))) [6] finV) maN)))))
    (mRet (mC (.bl false)))
    mNx)
    (mRet (mL allO (maC (lcM (mSeqI (mV 1)) (gN 6) mYes (mNotV (mL anyO (maC (lcM (mArgI zipO (maC (mV 6) (maC (mV 3) maN))) (gT 2 (gsC (gN 7) (gsC (gN 8) gsN))) mYes (mL m_is_less (maC (m2 ixO (mV 8) (mC (.int 3))) (maC (mV 7) maN))) [7, 8] finV) maN))) [6] finV) maN)))))
noncomputable def m_is_schedule : List D → DS → Ou D := defM 2 2
    (mSeq (mDo (mL m_check_shop (maC (mV 0) maN)))
    (mRet (mL m_is_schedule_of (maC (mV 0) (maC (mV 1) maN)))))
noncomputable def m_check_schedule : List D → DS → Ou D := defM 3 3
    (mSeq (mDo (mL m_check_orders (maC (mV 0) (maC (mV 1) maN))))
    (mIfS (mNot (mT (mL m_is_schedule_of (maC (mV 0) (maC (mV 2) maN)))))
    mNever
    mNx))
noncomputable def m_change : List D → DS → Ou D := defM 4 10
    (mSeq (mSet 4 (mC (.tup [(.int 0), (.int 1)])))
    (mSeq (mFor (mArgI enumO (maC (m2 ixO (mV 0) (mC (.int 1))) maN)) (gT 2 (gsC (gN 5) (gsC (gT 4 (gsC (gN 6) (gsC (gN 7) (gsC (gN 8) (gsC (gN 9) gsN))))) gsN)))
    (mSeq (mIfS (mAnd (mT (m2 eqO (mV 6) (mV 3))) (mT (m2 geO (mV 2) (mV 8))))
    (mSet 4 (mL m_plus (maC (mV 4) (maC (m2 ixO (m2 ixO (mV 1) (m2 subO (mV 2) (mV 8))) (mV 5)) maN))))
    mNx)
    (mSet 4 (mL m_minus (maC (mV 4) (maC (mL m_times (maC (m2 ixO (mV 7) (mV 3)) (maC (m2 ixO (m2 ixO (mV 1) (mV 2)) (mV 5)) maN))) maN))))))
    (mRet (mV 4))))
noncomputable def m_due_on : List D → DS → Ou D := defM 3 6
    (mRet (mL m_summed (maC (lcM (mSeqI (mV 0)) (gT 3 (gsC (gN 3) (gsC (gN 4) (gsC (gN 5) gsN)))) (mAnd (mT (m2 eqO (mV 3) (mV 2))) (mT (m2 eqO (mV 5) (mV 1)))) (mV 4) [3, 4, 5] finV) maN)))
noncomputable def m_led_by : List D → DS → Ou D := defM 3 9
    (mSeq (mPar 4 5 (maC (mL listO (maC (m2 ixO (mV 0) (mC (.int 2))) maN)) (maC (mL refO maN) maN)))
    (mSeq (mFor (mArgI rng1O (maC (m2 ixO (mV 0) (mC (.int 3))) maN)) (gN 3)
    (mSeq (mSet 6 (mL refO maN))
    (mSeq (mFor (mArgI enumO (maC (mV 4) maN)) (gT 2 (gsC (gN 7) (gsC (gN 8) gsN)))
    (mDo (mMeth .lst appendO (mV 6) (maC (mL m_minus (maC (mL m_plus (maC (mV 8) (maC (mL m_change (maC (mV 0) (maC (mV 2) (maC (mV 3) (maC (mV 7) maN))))) maN))) (maC (mL m_due_on (maC (mV 1) (maC (mV 3) (maC (mV 7) maN)))) maN))) maN))))
    (mSeq (mSet 4 (mV 6))
    (mDo (mMeth .lst appendO (mV 5) (maC (mL tupleO (maC (mV 4) maN)) maN)))))))
    (mRet (mV 5))))
noncomputable def m_led_shop : List D → DS → Ou D := defM 3 3
    (mSeq (mDo (mL m_check_schedule (maC (mV 0) (maC (mV 1) (maC (mV 2) maN)))))
    (mRet (mL m_led_by (maC (mV 0) (maC (mV 1) (maC (mV 2) maN))))))
noncomputable def m_lack_in : List D → DS → Ou D := defD 3 7
    (mSeq (mFor (mArgI enumO (maC (mL m_led_by (maC (mV 0) (maC (mV 1) (maC (mV 2) maN)))) maN)) (gT 2 (gsC (gN 3) (gsC (gN 4) gsN)))
    (mFor (mArgI enumO (maC (mV 4) maN)) (gT 2 (gsC (gN 5) (gsC (gN 6) gsN)))
    (mIfS (mT (m2 ltO (m2 ixO (mV 6) (mC (.int 0))) (mC (.int 0))))
    (mRet (mL tupO (maC (mV 3) (maC (mV 5) (maC (mL m_minus (maC (mC (.tup [(.int 0), (.int 1)])) (maC (mV 6) maN))) maN)))))
    mNx)))
    (mRet (mC .non)))
noncomputable def m_first_lack : List D → DS → Ou D := defM 3 3
    (mSeq (mDo (mL m_check_schedule (maC (mV 0) (maC (mV 1) (maC (mV 2) maN)))))
    (mRet (mL m_lack_in (maC (mV 0) (maC (mV 1) (maC (mV 2) maN))))))
noncomputable def m_law_hand : List D → DS → Ou D := defM 1 3
    (mSeq (mSet 1 (lcM (mSeqI (mSl slO (mV 0) moN (moS (mC (.int 63))))) (gN 2) mYes (mL absO (maC (mL intO (maC (mV 2) maN)) maN)) [2] finV))
    (mRet (mL refO (maC (mV 1) (maC (mC (.int 0)) (maC (mC (.int 0)) (maC (m2 addO (mC (.int 83)) (m2 mulO (mC (.int 5)) (mL lenO (maC (mV 1) maN)))) (maC (mC (.int 0)) maN))))))))
noncomputable def m_law_draw : List D → DS → Ou D := defM 2 5
    (mSeq (mIfS (mAnd (mT (m2 eqO (m2 ixO (mV 0) (mC (.int 2))) (mC (.int 0)))) (mT (m2 ltO (m2 ixO (mV 0) (mC (.int 1))) (mL lenO (maC (m2 ixO (mV 0) (mC (.int 0))) maN)))))
    (mSeq (mSet 3 (m2 ixO (m2 ixO (mV 0) (mC (.int 0))) (m2 ixO (mV 0) (mC (.int 1)))))
    (mSeq (mAsg (gSubM (mV 0) (mC (.int 1)) setO) (m2 addO (m2 ixO (mV 0) (mC (.int 1))) (mC (.int 1))))
    (mSeq (mAsg (gSubM (mV 0) (mC (.int 3)) setO) (m2 modO (mL intO (maC (m2 addO (m2 addO (m2 mulO (m2 ixO (mV 0) (mC (.int 3))) (mC (.int 69621))) (m2 mulO (mV 3) (mC (.int 40692)))) (mC (.int 17))) maN)) (mC (.int 2147483629))))
    (mIfS (mT (m2 geO (mV 3) (m2 powO (mC (.int 10)) (mC (.int 18)))))
    (mAsg (gSubM (mV 0) (mC (.int 2)) setO) (mV 3))
    mNx))))
    mNx)
    (mSeq (mIfS (mT (m2 gtO (m2 ixO (mV 0) (mC (.int 2))) (mC (.int 0))))
    (mSeq (mSet 4 (m2 modO (mL intO (maC (m2 ixO (mV 0) (mC (.int 2))) maN)) (mV 1)))
    (mSeq (mAsg (gSubM (mV 0) (mC (.int 2)) setO) (m2 fdivO (m2 ixO (mV 0) (mC (.int 2))) (mV 1)))
    (mRet (mV 4))))
    mNx)
    (mSeq (mAsg (gSubM (mV 0) (mC (.int 4)) setO) (m2 addO (m2 ixO (mV 0) (mC (.int 4))) (mC (.int 1))))
    (mSeq (mSet 2 (m2 modO (mL intO (maC (m2 mulO (mL intO (maC (m2 addO (m2 ixO (mV 0) (mC (.int 3))) (m2 mulO (mC (.int 7919)) (m2 ixO (mV 0) (mC (.int 4))))) maN)) (mC (.int 48271))) maN)) (mC (.int 2147483647))))
    (mSeq (mSet 2 (m2 modO (mL intO (maC (m2 mulO (mV 2) (m2 addO (m2 fdivO (mV 2) (mC (.int 1009))) (mC (.int 69621)))) maN)) (mC (.int 2147483647))))
    (mSeq (mSet 2 (m2 modO (mL intO (maC (m2 mulO (mV 2) (m2 addO (m2 fdivO (mV 2) (mC (.int 2003))) (mC (.int 40014)))) maN)) (mC (.int 2147483563))))
    (mRet (m2 modO (mL intO (maC (m2 fdivO (mV 2) (mC (.int 16))) maN)) (mV 1)))))))))
noncomputable def m_law_any : List D → DS → Ou D := defM 2 2
    (mRet (m2 ixO (mV 1) (mL m_law_draw (maC (mV 0) (maC (mL lenO (maC (mV 1) maN)) maN)))))
noncomputable def m_law_low : List D → DS → Ou D := defM 2 4
    (mSeq (mPar 2 3 (maC (mL absO (maC (mV 0) maN)) (maC (mV 1) maN)))
    (mSeq (mWhile (mT (m2 gtO (mV 3) (mC (.int 0))))
    (mPar 2 3 (maC (mV 3) (maC (m2 modO (mL intO (maC (mV 2) maN)) (mV 3)) maN))))
    (mRet (mL tupO (maC (m2 fdivO (mV 0) (mV 2)) (maC (m2 fdivO (mV 1) (mV 2)) maN))))))
noncomputable def m_law_add : List D → DS → Ou D := defM 2 2
    (mRet (mL m_law_low (maC (m2 addO (m2 mulO (m2 ixO (mV 0) (mC (.int 0))) (m2 ixO (mV 1) (mC (.int 1)))) (m2 mulO (m2 ixO (mV 1) (mC (.int 0))) (m2 ixO (mV 0) (mC (.int 1))))) (maC (m2 mulO (m2 ixO (mV 0) (mC (.int 1))) (m2 ixO (mV 1) (mC (.int 1)))) maN))))
noncomputable def m_law_less : List D → DS → Ou D := defM 2 2
    (mRet (mL m_law_low (maC (m2 subO (m2 mulO (m2 ixO (mV 0) (mC (.int 0))) (m2 ixO (mV 1) (mC (.int 1)))) (m2 mulO (m2 ixO (mV 1) (mC (.int 0))) (m2 ixO (mV 0) (mC (.int 1))))) (maC (m2 mulO (m2 ixO (mV 0) (mC (.int 1))) (m2 ixO (mV 1) (mC (.int 1)))) maN))))
noncomputable def m_law_mul : List D → DS → Ou D := defM 2 2
    (mRet (mL m_law_low (maC (m2 mulO (m2 ixO (mV 0) (mC (.int 0))) (m2 ixO (mV 1) (mC (.int 0)))) (maC (m2 mulO (m2 ixO (mV 0) (mC (.int 1))) (m2 ixO (mV 1) (mC (.int 1)))) maN))))
noncomputable def m_law_is_below : List D → DS → Ou D := defM 2 2
    (mRet (m2 ltO (m2 mulO (m2 ixO (mV 0) (mC (.int 0))) (m2 ixO (mV 1) (mC (.int 1)))) (m2 mulO (m2 ixO (mV 1) (mC (.int 0))) (m2 ixO (mV 0) (mC (.int 1))))))
noncomputable def m_law_is_amount : List D → DS → Ou D := defM 1 2
    (mSeq (mIfS (mOr (mNot (mT (isiM "tuple" (mV 0)))) (mT (m2 neO (mL lenO (maC (mV 0) maN)) (mC (.int 2)))))
    (mRet (mC (.bl false)))
    mNx)
    (mSeq (mIfS (mNot (mT (mL allO (maC (lcM (mSeqI (mV 0)) (gN 1) mYes (mAndV (isiM "int" (mV 1)) (mNotV (isiM "bool" (mV 1)))) [1] finV) maN))))
    (mRet (mC (.bl false)))
    mNx)
    (mRet (mAndV (m2 geO (m2 ixO (mV 0) (mC (.int 0))) (mC (.int 0))) (mAndV (m2 gtO (m2 ixO (mV 0) (mC (.int 1))) (mC (.int 0))) (m2 eqO (mL m_law_low (maC (m2 ixO (mV 0) (mC (.int 0))) (maC (m2 ixO (mV 0) (mC (.int 1))) maN))) (mV 0)))))))
noncomputable def m_law_is_number : List D → DS → Ou D := defM 3 3
    (mRet (mAndV (isiM "int" (mV 0)) (mAndV (mNotV (isiM "bool" (mV 0))) (mChain leO leO (mV 1) (mV 0) (mV 2)))))
noncomputable def m_law_amount : List D → DS → Ou D := defM 2 2
    (mSeq (mIfS (mT (m2 eqO (mL m_law_draw (maC (mV 0) (maC (mC (.int 4)) maN))) (mC (.int 0))))
    (mRet (mL m_law_low (maC (mL m_law_draw (maC (mV 0) (maC (m2 addO (m2 mulO (mC (.int 2)) (mV 1)) (mC (.int 1))) maN))) (maC (m2 addO (mC (.int 1)) (mL m_law_draw (maC (mV 0) (maC (mC (.int 4)) maN)))) maN))))
    mNx)
    (mRet (mL tupO (maC (mL m_law_draw (maC (mV 0) (maC (m2 addO (mV 1) (mC (.int 1))) maN))) (maC (mC (.int 1)) maN)))))
noncomputable def m_law_shop : List D → DS → Ou D := defD 4 9
    (mSeq (mSet 4 (mL refO maN))
    (mSeq (mFor (mArgI rng1O (maC (mV 2) maN)) (gN 5)
    (mSeq (mPar 7 8 (maC (mL m_law_draw (maC (mV 0) (maC (mV 1) maN))) (maC (mL refO maN) maN)))
    (mSeq (mFor (mArgI rng1O (maC (mV 1) maN)) (gN 6)
    (mDo (mMeth .lst appendO (mV 8) (maC (mIf (mT (m2 neO (mV 6) (mV 7))) (mL m_law_any (maC (mV 0) (maC (mL lstO (maC (mL tupO (maC (mC (.int 0)) (maC (mC (.int 1)) maN))) (maC (mL tupO (maC (mC (.int 0)) (maC (mC (.int 1)) maN))) (maC (mL tupO (maC (mC (.int 1)) (maC (mC (.int 1)) maN))) (maC (mL tupO (maC (mC (.int 1)) (maC (mC (.int 2)) maN))) (maC (mL tupO (maC (mC (.int 2)) (maC (mC (.int 1)) maN))) maN)))))) maN))) (mL tupO (maC (mC (.int 0)) (maC (mC (.int 1)) maN)))) maN))))
    (mDo (mMeth .lst appendO (mV 4) (maC (mL tupO (maC (mV 7) (maC (mL tupleO (maC (mV 8) maN)) (maC (m2 addO (mC (.int 1)) (mL m_law_draw (maC (mV 0) (maC (mC (.int 3)) maN)))) (maC (mL m_law_amount (maC (mV 0) (maC (mC (.int 5)) maN))) maN))))) maN))))))
    (mRet (mL tupO (maC (mV 1) (maC (mL tupleO (maC (mV 4) maN)) (maC (mL tupleO (maC (lcM (mArgI rng1O (maC (mV 1) maN)) (gN 7) mYes (mL m_law_amount (maC (mV 0) (maC (mC (.int 6)) maN))) [7] finV) maN)) (maC (mV 3) maN))))))))
noncomputable def m_law_drawn_schedule : List D → DS → Ou D := defD 2 6
    (mSeq (mSet 2 (mL refO maN))
    (mSeq (mFor (mArgI rng1O (maC (m2 ixO (mV 1) (mC (.int 3))) maN)) (gN 3)
    (mSeq (mSet 4 (lcM (mSeqI (m2 ixO (mV 1) (mC (.int 1)))) (gN 5) mYes (mL m_law_mul (maC (m2 ixO (mV 5) (mC (.int 3))) (maC (mL m_law_any (maC (mV 0) (maC (mL lstO (maC (mL tupO (maC (mC (.int 0)) (maC (mC (.int 1)) maN))) (maC (mL tupO (maC (mC (.int 1)) (maC (mC (.int 2)) maN))) (maC (mL tupO (maC (mC (.int 1)) (maC (mC (.int 1)) maN))) (maC (mL tupO (maC (mC (.int 1)) (maC (mC (.int 3)) maN))) maN))))) maN))) maN))) [5] finV))
    (mDo (mMeth .lst appendO (mV 2) (maC (mL tupleO (maC (mV 4) maN)) maN)))))
    (mRet (mL tupleO (maC (mV 2) maN)))))
noncomputable def m_law_led : List D → DS → Ou D := defM 3 15
    (mSeq (mPar 4 5 (maC (mL listR (maC (m2 ixO (mV 0) (mC (.int 2))) maN)) (maC (mL refO maN) maN)))
    (mSeq (mFor (mArgI rng1O (maC (m2 ixO (mV 0) (mC (.int 3))) maN)) (gN 3)
    (mSeq (mFor (mArgI enumO (maC (m2 ixO (mV 0) (mC (.int 1))) maN)) (gT 2 (gsC (gN 6) (gsC (gT 4 (gsC (gN 7) (gsC (gN 10) (gsC (gN 11) (gsC (gN 12) gsN))))) gsN)))
    (mSeq (mIfS (mT (m2 geO (mV 3) (mV 11)))
    (mAsg (gSubM (mV 4) (mV 7) setO) (mL m_law_add (maC (m2 ixO (mV 4) (mV 7)) (maC (m2 ixO (m2 ixO (mV 2) (m2 subO (mV 3) (mV 11))) (mV 6)) maN))))
    mNx)
    (mFor (mArgI enumO (maC (mV 10) maN)) (gT 2 (gsC (gN 13) (gsC (gN 14) gsN)))
    (mAsg (gSubM (mV 4) (mV 13) setO) (mL m_law_less (maC (m2 ixO (mV 4) (mV 13)) (maC (mL m_law_mul (maC (mV 14) (maC (m2 ixO (m2 ixO (mV 2) (mV 3)) (mV 6)) maN))) maN)))))))
    (mSeq (mFor (mSeqI (mV 1)) (gT 3 (gsC (gN 7) (gsC (gN 8) (gsC (gN 9) gsN))))
    (mIfS (mT (m2 eqO (mV 9) (mV 3)))
    (mAsg (gSubM (mV 4) (mV 7) setO) (mL m_law_less (maC (m2 ixO (mV 4) (mV 7)) (maC (mV 8) maN))))
    mNx))
    (mDo (mMeth .lst appendO (mV 5) (maC (mL tupleO (maC (mV 4) maN)) maN))))))
    (mRet (mV 5))))
noncomputable def m_law_is_schedule : List D → DS → Ou D := defM 2 5
    (mSeq (mIfS (mOr (mNot (mT (isiM "tuple" (mV 1)))) (mT (m2 neO (mL lenO (maC (mV 1) maN)) (m2 ixO (mV 0) (mC (.int 3))))))
    (mRet (mC (.bl false)))
    mNx)
    (mSeq (mFor (mSeqI (mV 1)) (gN 2)
    (mSeq (mIfS (mOr (mNot (mT (isiM "tuple" (mV 2)))) (mOr (mT (m2 neO (mL lenO (maC (mV 2) maN)) (mL lenO (maC (m2 ixO (mV 0) (mC (.int 1))) maN)))) (mNot (mT (mL allO (maC (lcM (mSeqI (mV 2)) (gN 3) mYes (mL m_law_is_amount (maC (mV 3) maN)) [3] finV) maN))))))
    (mRet (mC (.bl false)))
    mNx)
    (mIfS (mT (mL anyO (maC (lcM (mArgI zipO (maC (mV 2) (maC (m2 ixO (mV 0) (mC (.int 1))) maN))) (gT 2 (gsC (gN 3) (gsC (gN 4) gsN))) mYes (mL m_law_is_below (maC (m2 ixO (mV 4) (mC (.int 3))) (maC (mV 3) maN))) [3, 4] finV) maN)))
    (mRet (mC (.bl false)))
    mNx)))
    (mRet (mC (.bl true)))))
noncomputable def m_law_orders : List D → DS → Ou D := defD 4 6
    (mSeq (mSet 4 (mL refO maN))
    (mSeq (mFor (mArgI rng1O (maC (mV 2) maN)) (gN 5)
    (mDo (mMeth .lst appendO (mV 4) (maC (mL tupO (maC (mL m_law_draw (maC (mV 0) (maC (m2 ixO (mV 1) (mC (.int 0))) maN))) (maC (mL m_law_amount (maC (mV 0) (maC (mV 3) maN))) (maC (mL m_law_draw (maC (mV 0) (maC (m2 ixO (mV 1) (mC (.int 3))) maN))) maN)))) maN))))
    (mRet (mL tupleO (maC (mV 4) maN)))))
noncomputable def m_law_lesser : List D → DS → Ou D := defM 2 4
    (mRet (lcM (mArgI zipO (maC (mV 0) (maC (mV 1) maN))) (gT 2 (gsC (gN 2) (gsC (gN 3) gsN))) mYes (mIf (mT (mL m_law_is_below (maC (mV 2) (maC (mV 3) maN)))) (mV 2) (mV 3)) [2, 3] finV))
noncomputable def m_law_made_case : List D → DS → Ou D := defD 4 17
    (mSeq (mSet 4 (mL m_law_shop (maC (mV 0) (maC (mV 1) (maC (mV 2) (maC (mV 3) maN))))))
    (mSeq (mSet 5 (mL m_law_drawn_schedule (maC (mV 0) (maC (mV 4) maN))))
    (mSeq (mSet 6 (m2 mulO (mL lstO (maC (mL tupO (maC (mC (.int 0)) (maC (mC (.int 1)) maN))) maN)) (mV 1)))
    (mSeq (mFor (mSeqI (mL m_law_led (maC (mV 4) (maC (mL tupO maN) (maC (mV 5) maN))))) (gN 7)
    (mSet 6 (mL m_law_lesser (maC (mV 6) (maC (mV 7) maN)))))
    (mSeq (mSet 8 (mL tupleO (maC (lcM (mArgI zipO (maC (m2 ixO (mV 4) (mC (.int 2))) (maC (mV 6) maN))) (gT 2 (gsC (gN 13) (gsC (gN 16) gsN))) mYes (mL m_law_less (maC (mV 13) (maC (mV 16) maN))) [13, 16] finV) maN)))
    (mSeq (mSet 4 (m2 addO (mSl slO (mV 4) moN (moS (mC (.int 2)))) (mL tupO (maC (mV 8) (maC (m2 ixO (mV 4) (mC (.int 3))) maN)))))
    (mSeq (mSet 9 (mL refO maN))
    (mSeq (mFor (mArgI rng1O (maC (mL m_law_draw (maC (mV 0) (maC (mC (.int 5)) maN))) maN)) (gN 10)
    (mSeq (mAsg (gT 2 (gsC (gN 14) (gsC (gN 15) gsN))) (mL tupO (maC (mL m_law_draw (maC (mV 0) (maC (mV 1) maN))) (maC (mL m_law_draw (maC (mV 0) (maC (mV 3) maN))) maN))))
    (mSeq (mSet 11 (mSl slO (lcM (mSeqI (mL m_law_led (maC (mV 4) (maC (mV 9) (maC (mV 5) maN))))) (gN 7) mYes (m2 ixO (mV 7) (mV 14)) [7] finV) (moS (mV 15)) moN))
    (mSeq (mSet 12 (m2 ixO (mV 11) (mC (.int 0))))
    (mSeq (mFor (mSeqI (mV 11)) (gN 13)
    (mSet 12 (mIf (mT (mL m_law_is_below (maC (mV 13) (maC (mV 12) maN)))) (mV 13) (mV 12))))
    (mDo (mMeth .lst appendO (mV 9) (maC (mL tupO (maC (mV 14) (maC (mL m_law_mul (maC (mV 12) (maC (mL m_law_any (maC (mV 0) (maC (mL lstO (maC (mL tupO (maC (mC (.int 1)) (maC (mC (.int 1)) maN))) (maC (mL tupO (maC (mC (.int 1)) (maC (mC (.int 2)) maN))) (maC (mL tupO (maC (mC (.int 1)) (maC (mC (.int 3)) maN))) maN)))) maN))) maN))) (maC (mV 15) maN)))) maN))))))))
    (mRet (mL tupO (maC (mV 4) (maC (mL tupleO (maC (mV 9) maN)) (maC (mV 5) maN)))))))))))))
noncomputable def m_law_are_amounts : List D → DS → Ou D := defM 2 3
    (mRet (mAndV (isiM "tuple" (mV 0)) (mAndV (m2 eqO (mL lenO (maC (mV 0) maN)) (mV 1)) (mL allO (maC (lcM (mSeqI (mV 0)) (gN 2) mYes (mL m_law_is_amount (maC (mV 2) maN)) [2] finV) maN)))))
noncomputable def m_law_is_shop : List D → DS → Ou D := defM 1 6
    (mSeq (mIfS (mOr (mNot (mT (isiM "tuple" (mV 0)))) (mOr (mT (m2 neO (mL lenO (maC (mV 0) maN)) (mC (.int 4)))) (mNot (mT (mL m_law_is_number (maC (m2 ixO (mV 0) (mC (.int 0))) (maC (mC (.int 1)) (maC (mC (.int 4)) maN))))))))
    (mRet (mC (.bl false)))
    mNx)
    (mSeq (mAsg (gT 4 (gsC (gN 2) (gsC (gN 3) (gsC (gN 4) (gsC (gN 5) gsN))))) (mV 0))
    (mSeq (mIfS (mOr (mNot (mT (isiM "tuple" (mV 3)))) (mOr (mNot (mT (mChain leO leO (mC (.int 1)) (mL lenO (maC (mV 3) maN)) (mC (.int 6))))) (mNot (mT (mL m_law_is_number (maC (mV 5) (maC (mC (.int 1)) (maC (mC (.int 7)) maN))))))))
    (mRet (mC (.bl false)))
    mNx)
    (mSeq (mFor (mSeqI (mV 3)) (gN 1)
    (mSeq (mIfS (mOr (mNot (mT (isiM "tuple" (mV 1)))) (mOr (mT (m2 neO (mL lenO (maC (mV 1) maN)) (mC (.int 4)))) (mNot (mT (mL m_law_is_number (maC (m2 ixO (mV 1) (mC (.int 0))) (maC (mC (.int 0)) (maC (m2 subO (mV 2) (mC (.int 1))) maN))))))))
    (mRet (mC (.bl false)))
    mNx)
    (mIfS (mOr (mNot (mT (mL m_law_are_amounts (maC (m2 ixO (mV 1) (mC (.int 1))) (maC (mV 2) maN))))) (mOr (mNot (mT (mL m_law_is_number (maC (m2 ixO (mV 1) (mC (.int 2))) (maC (mC (.int 1)) (maC (mC (.int 4)) maN)))))) (mNot (mT (mL m_law_is_amount (maC (m2 ixO (mV 1) (mC (.int 3))) maN))))))
    (mRet (mC (.bl false)))
    mNx)))
    (mRet (mL m_law_are_amounts (maC (mV 4) (maC (mV 2) maN))))))))
noncomputable def m_law_are_orders : List D → DS → Ou D := defM 2 3
    (mSeq (mIfS (mOr (mNot (mT (isiM "tuple" (mV 1)))) (mT (m2 gtO (mL lenO (maC (mV 1) maN)) (mC (.int 12)))))
    (mRet (mC (.bl false)))
    mNx)
    (mSeq (mFor (mSeqI (mV 1)) (gN 2)
    (mSeq (mIfS (mOr (mNot (mT (isiM "tuple" (mV 2)))) (mOr (mT (m2 neO (mL lenO (maC (mV 2) maN)) (mC (.int 3)))) (mNot (mT (mL m_law_is_number (maC (m2 ixO (mV 2) (mC (.int 0))) (maC (mC (.int 0)) (maC (m2 subO (m2 ixO (mV 0) (mC (.int 0))) (mC (.int 1))) maN))))))))
    (mRet (mC (.bl false)))
    mNx)
    (mIfS (mOr (mNot (mT (mL m_law_is_amount (maC (m2 ixO (mV 2) (mC (.int 1))) maN)))) (mNot (mT (mL m_law_is_number (maC (m2 ixO (mV 2) (mC (.int 2))) (maC (mC (.int 0)) (maC (m2 subO (m2 ixO (mV 0) (mC (.int 3))) (mC (.int 1))) maN)))))))
    (mRet (mC (.bl false)))
    mNx)))
    (mRet (mC (.bl true)))))
noncomputable def m_law_odd : List D → DS → Ou D := defM 1 4
    (mSeq (mSet 1 (mL lstO (maC (mC (.str "x")) (maC (mC .non) maN))))
    (mSeq (mFor (mArgI rng1O (maC (mL m_law_draw (maC (mV 0) (maC (mC (.int 30)) maN))) maN)) (gN 2)
    (mSet 1 (mIf (mT (m2 gtO (mV 2) (mC (.int 2)))) (mL lstO (maC (mV 1) maN)) (mL tupO (maC (mV 1) maN)))))
    (mSeq (mSet 3 (mL lstO (maC (mC .non) (maC (m1 negO (mC (.int 1))) (maC (mC (.int 0)) (maC (mC (.int 5)) (maC (mC (.int 8)) (maC (mC (.bl true)) (maC (mC (.str "1")) (maC (mL tupO maN) (maC (mL tupO (maC (mC (.int 1)) (maC (mC (.int 1)) maN))) (maC (mL tupO (maC (mC (.int 2)) (maC (mC (.int 4)) maN))) (maC (mL tupO (maC (m1 negO (mC (.int 1))) (maC (mC (.int 2)) maN))) (maC (mL tupO (maC (mC (.int 0)) (maC (mC (.int 1)) maN))) (maC (mL tupO (maC (mC (.int 1)) (maC (mC (.int 0)) maN))) (maC (mL lstO (maC (mC (.int 1)) (maC (mC (.int 1)) maN))) (maC (mL tupO (maC (mC (.int 1)) (maC (mC (.bl true)) maN))) (maC mDct maN))))))))))))))))))
    (mRet (mL m_law_any (maC (mV 0) (maC (m2 addO (mV 3) (mL lstO (maC (mV 1) (maC (mL tupO (maC (mC (.int 0)) (maC (mC (.int 2)) maN))) maN)))) maN)))))))
noncomputable def m_law_bent_0 : List D → DS → Ou D := fun _ _ => .no
noncomputable def m_law_bent_1 : List D → DS → Ou D := defM 2 4
    (mSeq (mIfS (mOr (mNot (mT (isiM "tuple" (mV 1)))) (mOr (mT (m2 eqO (mL lenO (maC (mV 1) maN)) (mC (.int 0)))) (mT (m2 eqO (mL m_law_draw (maC (mV 0) (maC (mC (.int 5)) maN))) (mC (.int 0))))))
    (mRet (mL m_law_odd (maC (mV 0) maN)))
    mNx)
    (mSeq (mPar 2 3 (maC (mL m_law_draw (maC (mV 0) (maC (mL lenO (maC (mV 1) maN)) maN))) (maC (mL m_law_draw (maC (mV 0) (maC (mC (.int 9)) maN))) maN)))
    (mSeq (mIfS (mT (m2 eqO (mV 3) (mC (.int 0))))
    (mRet (mL m_law_any (maC (mV 0) (maC (mL lstO (maC (mSl slO (mV 1) (moS (mC (.int 1))) moN) (maC (m2 addO (mV 1) (mSl slO (mV 1) (moS (m1 negO (mC (.int 1)))) moN)) (maC (mL listO (maC (mV 1) maN)) (maC (m2 revO (mV 1) (m1 negO (mC (.int 1)))) maN))))) maN))))
    mNx)
    (mRet (m2 addO (m2 addO (mSl slO (mV 1) moN (moS (mV 2))) (mL tupO (maC (mL m_law_bent_0 (maC (mV 0) (maC (m2 ixO (mV 1) (mV 2)) maN))) maN))) (mSl slO (mV 1) (moS (m2 addO (mV 2) (mC (.int 1)))) moN))))))
noncomputable def m_law_bent_2 : List D → DS → Ou D := defM 2 4
    (mSeq (mIfS (mOr (mNot (mT (isiM "tuple" (mV 1)))) (mOr (mT (m2 eqO (mL lenO (maC (mV 1) maN)) (mC (.int 0)))) (mT (m2 eqO (mL m_law_draw (maC (mV 0) (maC (mC (.int 5)) maN))) (mC (.int 0))))))
    (mRet (mL m_law_odd (maC (mV 0) maN)))
    mNx)
    (mSeq (mPar 2 3 (maC (mL m_law_draw (maC (mV 0) (maC (mL lenO (maC (mV 1) maN)) maN))) (maC (mL m_law_draw (maC (mV 0) (maC (mC (.int 9)) maN))) maN)))
    (mSeq (mIfS (mT (m2 eqO (mV 3) (mC (.int 0))))
    (mRet (mL m_law_any (maC (mV 0) (maC (mL lstO (maC (mSl slO (mV 1) (moS (mC (.int 1))) moN) (maC (m2 addO (mV 1) (mSl slO (mV 1) (moS (m1 negO (mC (.int 1)))) moN)) (maC (mL listO (maC (mV 1) maN)) (maC (m2 revO (mV 1) (m1 negO (mC (.int 1)))) maN))))) maN))))
    mNx)
    (mRet (m2 addO (m2 addO (mSl slO (mV 1) moN (moS (mV 2))) (mL tupO (maC (mL m_law_bent_1 (maC (mV 0) (maC (m2 ixO (mV 1) (mV 2)) maN))) maN))) (mSl slO (mV 1) (moS (m2 addO (mV 2) (mC (.int 1)))) moN))))))
noncomputable def m_law_bent_3 : List D → DS → Ou D := defM 2 4
    (mSeq (mIfS (mOr (mNot (mT (isiM "tuple" (mV 1)))) (mOr (mT (m2 eqO (mL lenO (maC (mV 1) maN)) (mC (.int 0)))) (mT (m2 eqO (mL m_law_draw (maC (mV 0) (maC (mC (.int 5)) maN))) (mC (.int 0))))))
    (mRet (mL m_law_odd (maC (mV 0) maN)))
    mNx)
    (mSeq (mPar 2 3 (maC (mL m_law_draw (maC (mV 0) (maC (mL lenO (maC (mV 1) maN)) maN))) (maC (mL m_law_draw (maC (mV 0) (maC (mC (.int 9)) maN))) maN)))
    (mSeq (mIfS (mT (m2 eqO (mV 3) (mC (.int 0))))
    (mRet (mL m_law_any (maC (mV 0) (maC (mL lstO (maC (mSl slO (mV 1) (moS (mC (.int 1))) moN) (maC (m2 addO (mV 1) (mSl slO (mV 1) (moS (m1 negO (mC (.int 1)))) moN)) (maC (mL listO (maC (mV 1) maN)) (maC (m2 revO (mV 1) (m1 negO (mC (.int 1)))) maN))))) maN))))
    mNx)
    (mRet (m2 addO (m2 addO (mSl slO (mV 1) moN (moS (mV 2))) (mL tupO (maC (mL m_law_bent_2 (maC (mV 0) (maC (m2 ixO (mV 1) (mV 2)) maN))) maN))) (mSl slO (mV 1) (moS (m2 addO (mV 2) (mC (.int 1)))) moN))))))
noncomputable def m_law_bent_4 : List D → DS → Ou D := defM 2 4
    (mSeq (mIfS (mOr (mNot (mT (isiM "tuple" (mV 1)))) (mOr (mT (m2 eqO (mL lenO (maC (mV 1) maN)) (mC (.int 0)))) (mT (m2 eqO (mL m_law_draw (maC (mV 0) (maC (mC (.int 5)) maN))) (mC (.int 0))))))
    (mRet (mL m_law_odd (maC (mV 0) maN)))
    mNx)
    (mSeq (mPar 2 3 (maC (mL m_law_draw (maC (mV 0) (maC (mL lenO (maC (mV 1) maN)) maN))) (maC (mL m_law_draw (maC (mV 0) (maC (mC (.int 9)) maN))) maN)))
    (mSeq (mIfS (mT (m2 eqO (mV 3) (mC (.int 0))))
    (mRet (mL m_law_any (maC (mV 0) (maC (mL lstO (maC (mSl slO (mV 1) (moS (mC (.int 1))) moN) (maC (m2 addO (mV 1) (mSl slO (mV 1) (moS (m1 negO (mC (.int 1)))) moN)) (maC (mL listO (maC (mV 1) maN)) (maC (m2 revO (mV 1) (m1 negO (mC (.int 1)))) maN))))) maN))))
    mNx)
    (mRet (m2 addO (m2 addO (mSl slO (mV 1) moN (moS (mV 2))) (mL tupO (maC (mL m_law_bent_3 (maC (mV 0) (maC (m2 ixO (mV 1) (mV 2)) maN))) maN))) (mSl slO (mV 1) (moS (m2 addO (mV 2) (mC (.int 1)))) moN))))))
noncomputable def m_law_bent_5 : List D → DS → Ou D := defM 2 4
    (mSeq (mIfS (mOr (mNot (mT (isiM "tuple" (mV 1)))) (mOr (mT (m2 eqO (mL lenO (maC (mV 1) maN)) (mC (.int 0)))) (mT (m2 eqO (mL m_law_draw (maC (mV 0) (maC (mC (.int 5)) maN))) (mC (.int 0))))))
    (mRet (mL m_law_odd (maC (mV 0) maN)))
    mNx)
    (mSeq (mPar 2 3 (maC (mL m_law_draw (maC (mV 0) (maC (mL lenO (maC (mV 1) maN)) maN))) (maC (mL m_law_draw (maC (mV 0) (maC (mC (.int 9)) maN))) maN)))
    (mSeq (mIfS (mT (m2 eqO (mV 3) (mC (.int 0))))
    (mRet (mL m_law_any (maC (mV 0) (maC (mL lstO (maC (mSl slO (mV 1) (moS (mC (.int 1))) moN) (maC (m2 addO (mV 1) (mSl slO (mV 1) (moS (m1 negO (mC (.int 1)))) moN)) (maC (mL listO (maC (mV 1) maN)) (maC (m2 revO (mV 1) (m1 negO (mC (.int 1)))) maN))))) maN))))
    mNx)
    (mRet (m2 addO (m2 addO (mSl slO (mV 1) moN (moS (mV 2))) (mL tupO (maC (mL m_law_bent_4 (maC (mV 0) (maC (m2 ixO (mV 1) (mV 2)) maN))) maN))) (mSl slO (mV 1) (moS (m2 addO (mV 2) (mC (.int 1)))) moN))))))
noncomputable def m_law_bent_6 : List D → DS → Ou D := defM 2 4
    (mSeq (mIfS (mOr (mNot (mT (isiM "tuple" (mV 1)))) (mOr (mT (m2 eqO (mL lenO (maC (mV 1) maN)) (mC (.int 0)))) (mT (m2 eqO (mL m_law_draw (maC (mV 0) (maC (mC (.int 5)) maN))) (mC (.int 0))))))
    (mRet (mL m_law_odd (maC (mV 0) maN)))
    mNx)
    (mSeq (mPar 2 3 (maC (mL m_law_draw (maC (mV 0) (maC (mL lenO (maC (mV 1) maN)) maN))) (maC (mL m_law_draw (maC (mV 0) (maC (mC (.int 9)) maN))) maN)))
    (mSeq (mIfS (mT (m2 eqO (mV 3) (mC (.int 0))))
    (mRet (mL m_law_any (maC (mV 0) (maC (mL lstO (maC (mSl slO (mV 1) (moS (mC (.int 1))) moN) (maC (m2 addO (mV 1) (mSl slO (mV 1) (moS (m1 negO (mC (.int 1)))) moN)) (maC (mL listO (maC (mV 1) maN)) (maC (m2 revO (mV 1) (m1 negO (mC (.int 1)))) maN))))) maN))))
    mNx)
    (mRet (m2 addO (m2 addO (mSl slO (mV 1) moN (moS (mV 2))) (mL tupO (maC (mL m_law_bent_5 (maC (mV 0) (maC (m2 ixO (mV 1) (mV 2)) maN))) maN))) (mSl slO (mV 1) (moS (m2 addO (mV 2) (mC (.int 1)))) moN))))))
noncomputable def m_law_bent_7 : List D → DS → Ou D := defM 2 4
    (mSeq (mIfS (mOr (mNot (mT (isiM "tuple" (mV 1)))) (mOr (mT (m2 eqO (mL lenO (maC (mV 1) maN)) (mC (.int 0)))) (mT (m2 eqO (mL m_law_draw (maC (mV 0) (maC (mC (.int 5)) maN))) (mC (.int 0))))))
    (mRet (mL m_law_odd (maC (mV 0) maN)))
    mNx)
    (mSeq (mPar 2 3 (maC (mL m_law_draw (maC (mV 0) (maC (mL lenO (maC (mV 1) maN)) maN))) (maC (mL m_law_draw (maC (mV 0) (maC (mC (.int 9)) maN))) maN)))
    (mSeq (mIfS (mT (m2 eqO (mV 3) (mC (.int 0))))
    (mRet (mL m_law_any (maC (mV 0) (maC (mL lstO (maC (mSl slO (mV 1) (moS (mC (.int 1))) moN) (maC (m2 addO (mV 1) (mSl slO (mV 1) (moS (m1 negO (mC (.int 1)))) moN)) (maC (mL listO (maC (mV 1) maN)) (maC (m2 revO (mV 1) (m1 negO (mC (.int 1)))) maN))))) maN))))
    mNx)
    (mRet (m2 addO (m2 addO (mSl slO (mV 1) moN (moS (mV 2))) (mL tupO (maC (mL m_law_bent_6 (maC (mV 0) (maC (m2 ixO (mV 1) (mV 2)) maN))) maN))) (mSl slO (mV 1) (moS (m2 addO (mV 2) (mC (.int 1)))) moN))))))
noncomputable def m_law_bent : List D → DS → Ou D := defM 2 4
    (mSeq (mIfS (mOr (mNot (mT (isiM "tuple" (mV 1)))) (mOr (mT (m2 eqO (mL lenO (maC (mV 1) maN)) (mC (.int 0)))) (mT (m2 eqO (mL m_law_draw (maC (mV 0) (maC (mC (.int 5)) maN))) (mC (.int 0))))))
    (mRet (mL m_law_odd (maC (mV 0) maN)))
    mNx)
    (mSeq (mPar 2 3 (maC (mL m_law_draw (maC (mV 0) (maC (mL lenO (maC (mV 1) maN)) maN))) (maC (mL m_law_draw (maC (mV 0) (maC (mC (.int 9)) maN))) maN)))
    (mSeq (mIfS (mT (m2 eqO (mV 3) (mC (.int 0))))
    (mRet (mL m_law_any (maC (mV 0) (maC (mL lstO (maC (mSl slO (mV 1) (moS (mC (.int 1))) moN) (maC (m2 addO (mV 1) (mSl slO (mV 1) (moS (m1 negO (mC (.int 1)))) moN)) (maC (mL listO (maC (mV 1) maN)) (maC (m2 revO (mV 1) (m1 negO (mC (.int 1)))) maN))))) maN))))
    mNx)
    (mRet (m2 addO (m2 addO (mSl slO (mV 1) moN (moS (mV 2))) (mL tupO (maC (mL m_law_bent_7 (maC (mV 0) (maC (m2 ixO (mV 1) (mV 2)) maN))) maN))) (mSl slO (mV 1) (moS (m2 addO (mV 2) (mC (.int 1)))) moN))))))
noncomputable def m_law_lack : List D → DS → Ou D := defD 3 7
    (mSeq (mFor (mArgI enumO (maC (mL m_law_led (maC (mV 0) (maC (mV 1) (maC (mV 2) maN)))) maN)) (gT 2 (gsC (gN 3) (gsC (gN 4) gsN)))
    (mFor (mArgI enumO (maC (mV 4) maN)) (gT 2 (gsC (gN 5) (gsC (gN 6) gsN)))
    (mIfS (mT (m2 ltO (m2 ixO (mV 6) (mC (.int 0))) (mC (.int 0))))
    (mRet (mL tupO (maC (mV 3) (maC (mV 5) (maC (mL tupO (maC (m2 subO (mC (.int 0)) (m2 ixO (mV 6) (mC (.int 0)))) (maC (m2 ixO (mV 6) (mC (.int 1))) maN))) maN)))))
    mNx)))
    (mRet (mC .non)))
noncomputable def m_law_is_led : List D → DS → Ou D := defD 3 7
    (mSeq (mPar 5 6 (maC (mL m_law_led (maC (mV 0) (maC (mV 1) (maC (mV 2) maN)))) (maC (mL reprO (maC (mL tupO (maC (mV 0) (maC (mV 1) (maC (mV 2) maN)))) maN)) maN)))
    (mSeq (mSet 3 (mL m_led_shop (maC (mV 0) (maC (mV 1) (maC (mV 2) maN)))))
    (mSeq (mIfS (mOr (mNot (mT (isiM "list" (mV 3)))) (mT (m2 neO (mL reprO (maC (mV 3) maN)) (mL reprO (maC (mV 5) maN)))))
    (mRet (mC (.bl false)))
    mNx)
    (mSeq (mDo (mMeth .lst appendO (mV 3) (maC (mC .non) maN)))
    (mSeq (mIfS (mT (m2 neO (mL reprO (maC (mL m_led_shop (maC (mV 0) (maC (mV 1) (maC (mV 2) maN)))) maN)) (mL reprO (maC (mV 5) maN))))
    (mRet (mC (.bl false)))
    mNx)
    (mSeq (mSet 4 (mL m_law_lack (maC (mV 0) (maC (mV 1) (maC (mV 2) maN)))))
    (mRet (mAndV (m2 eqO (mL reprO (maC (mL m_first_lack (maC (mV 0) (maC (mV 1) (maC (mV 2) maN)))) maN)) (mL reprO (maC (mV 4) maN))) (m2 eqO (mL reprO (maC (mL tupO (maC (mV 0) (maC (mV 1) (maC (mV 2) maN)))) maN)) (mV 6))))))))))
noncomputable def m_law_are_judged : List D → DS → Ou D := defM 4 6
    (mSeq (mFor (mArgI rng1O (maC (mC (.int 6)) maN)) (gN 4)
    (mSeq (mSet 5 (mIf (mT (m2 gtO (mV 4) (mC (.int 0)))) (mL m_law_bent (maC (mV 0) (maC (mV 1) maN))) (mV 1)))
    (mSeq (mIfS (mT (m2 neO (mL reprO (maC (mL m_is_shop (maC (mV 5) maN)) maN)) (mL reprO (maC (mL m_law_is_shop (maC (mV 5) maN)) maN))))
    (mRet (mC (.bl false)))
    mNx)
    (mSeq (mSet 5 (mIf (mT (m2 gtO (mV 4) (mC (.int 0)))) (mL m_law_bent (maC (mV 0) (maC (mV 2) maN))) (mV 2)))
    (mSeq (mIfS (mT (m2 neO (mL reprO (maC (mL m_are_orders (maC (mV 1) (maC (mV 5) maN))) maN)) (mL reprO (maC (mL m_law_are_orders (maC (mV 1) (maC (mV 5) maN))) maN))))
    (mRet (mC (.bl false)))
    mNx)
    (mSeq (mSet 5 (mIf (mT (m2 gtO (mV 4) (mC (.int 0)))) (mL m_law_bent (maC (mV 0) (maC (mV 3) maN))) (mV 3)))
    (mIfS (mT (m2 neO (mL reprO (maC (mL m_is_schedule (maC (mV 1) (maC (mV 5) maN))) maN)) (mL reprO (maC (mL m_law_is_schedule (maC (mV 1) (maC (mV 5) maN))) maN))))
    (mRet (mC (.bl false)))
    mNx)))))))
    (mRet (m2 eqO (mL reprO (maC (mL m_are_orders (maC (mV 1) (maC (mIf (mT (m2 gtO (mL lenO (maC (mV 2) maN)) (mC (.int 0)))) (m2 mulO (mV 2) (mC (.int 13))) (mL tupO maN)) maN))) maN)) (mL reprO (maC (m2 eqO (mL lenO (maC (mV 2) maN)) (mC (.int 0))) maN)))))
noncomputable def m_law : List D → DS → Ou D := defM 1 9
    (mSeq (mSet 1 (mL m_law_hand (maC (mV 0) maN)))
    (mSeq (mSet 2 (mL tupO (maC (mC (.int 2)) (maC (mL tupO (maC (mL tupO (maC (mC (.int 1)) (maC (mL tupO (maC (mL tupO (maC (mC (.int 2)) (maC (mC (.int 1)) maN))) (maC (mL tupO (maC (mC (.int 0)) (maC (mC (.int 1)) maN))) maN))) (maC (mC (.int 1)) (maC (mL tupO (maC (mC (.int 3)) (maC (mC (.int 1)) maN))) maN))))) maN)) (maC (mL tupO (maC (mL tupO (maC (mC (.int 4)) (maC (mC (.int 1)) maN))) (maC (mL tupO (maC (mC (.int 0)) (maC (mC (.int 1)) maN))) maN))) (maC (mC (.int 2)) maN))))))
    (mSeq (mIfS (mT (m2 neO (mL m_led_shop (maC (mV 2) (maC (mL tupO (maC (mL tupO (maC (mC (.int 1)) (maC (mL tupO (maC (mC (.int 5)) (maC (mC (.int 2)) maN))) (maC (mC (.int 1)) maN)))) maN)) (maC (mL tupO (maC (mL tupO (maC (mL tupO (maC (mC (.int 3)) (maC (mC (.int 1)) maN))) maN)) (maC (mL tupO (maC (mL tupO (maC (mC (.int 0)) (maC (mC (.int 1)) maN))) maN)) maN))) maN)))) (mL lstO (maC (mL tupO (maC (mL tupO (maC (m1 negO (mC (.int 2))) (maC (mC (.int 1)) maN))) (maC (mL tupO (maC (mC (.int 0)) (maC (mC (.int 1)) maN))) maN))) (maC (mL tupO (maC (mL tupO (maC (m1 negO (mC (.int 2))) (maC (mC (.int 1)) maN))) (maC (mL tupO (maC (mC (.int 1)) (maC (mC (.int 2)) maN))) maN))) maN)))))
    (mRet (mC (.bl false)))
    mNx)
    (mSeq (mIfS (mT (m2 neO (mL m_first_lack (maC (mV 2) (maC (mL tupO maN) (maC (mL tupO (maC (mL tupO (maC (mL tupO (maC (mC (.int 5)) (maC (mC (.int 2)) maN))) maN)) (maC (mL tupO (maC (mL tupO (maC (mC (.int 0)) (maC (mC (.int 1)) maN))) maN)) maN))) maN)))) (mL tupO (maC (mC (.int 0)) (maC (mC (.int 0)) (maC (mL tupO (maC (mC (.int 1)) (maC (mC (.int 1)) maN))) maN))))))
    (mRet (mC (.bl false)))
    mNx)
    (mSeq (mIfS (mT (m2 isnO (mL m_first_lack (maC (mV 2) (maC (mL tupO maN) (maC (mL tupO (maC (mL tupO (maC (mL tupO (maC (mC (.int 2)) (maC (mC (.int 1)) maN))) maN)) (maC (mL tupO (maC (mL tupO (maC (mC (.int 0)) (maC (mC (.int 1)) maN))) maN)) maN))) maN)))) (mC .non)))
    (mRet (mC (.bl false)))
    mNx)
    (mSeq (mFor (mArgI rng1O (maC (mC (.int 5)) maN)) (gN 3)
    (mSeq (mPar3 4 5 6 (maC (m2 addO (mC (.int 1)) (mL m_law_draw (maC (mV 1) (maC (mC (.int 4)) maN)))) (maC (m2 addO (mC (.int 1)) (mL m_law_draw (maC (mV 1) (maC (mC (.int 6)) maN)))) (maC (m2 addO (mC (.int 1)) (mL m_law_draw (maC (mV 1) (maC (mC (.int 7)) maN)))) maN))))
    (mSeq (mAsg (gT 3 (gsC (gN 2) (gsC (gN 7) (gsC (gN 8) gsN)))) (mL m_law_made_case (maC (mV 1) (maC (mV 4) (maC (mV 5) (maC (mV 6) maN))))))
    (mSeq (mIfS (mOr (mNot (mT (mL m_law_is_led (maC (mV 2) (maC (mV 7) (maC (mV 8) maN)))))) (mT (m2 isnO (mL m_first_lack (maC (mV 2) (maC (mV 7) (maC (mV 8) maN)))) (mC .non))))
    (mRet (mC (.bl false)))
    mNx)
    (mSeq (mIfS (mNot (mT (mL m_law_is_led (maC (mV 2) (maC (mL m_law_orders (maC (mV 1) (maC (mV 2) (maC (mL m_law_draw (maC (mV 1) (maC (mC (.int 13)) maN))) (maC (mC (.int 5)) maN))))) (maC (mL m_law_drawn_schedule (maC (mV 1) (maC (mV 2) maN))) maN))))))
    (mRet (mC (.bl false)))
    mNx)
    (mIfS (mNot (mT (mL m_law_are_judged (maC (mV 1) (maC (mV 2) (maC (mV 7) (maC (mV 8) maN)))))))
    (mRet (mC (.bl false)))
    mNx))))))
    (mRet (mC (.bl true)))))))))
/-! ### what the top has left -/
structure Fx (K : PySem.W.Frag) (mg : Str → Option Value) : Prop where
  n_abs : mg "abs" = none
  n_all : mg "all" = none
  n_any : mg "any" = none
  n_bool : mg "bool" = none
  n_enumerate : mg "enumerate" = none
  n_int : mg "int" = none
  n_isinstance : mg "isinstance" = none
  n_len : mg "len" = none
  n_list : mg "list" = none
  n_range : mg "range" = none
  n_repr : mg "repr" = none
  n_tuple : mg "tuple" = none
  n_zip : mg "zip" = none
  c_ZERO : CAt K mg "ZERO" (.tup [(.int 0), (.int 1)])
  c_MOST_TAKE : CAt K mg "MOST_TAKE" (.int 4)
  c_MOST_METHODS : CAt K mg "MOST_METHODS" (.int 6)
  c_MOST_GOODS : CAt K mg "MOST_GOODS" (.int 4)
  c_MOST_DAYS : CAt K mg "MOST_DAYS" (.int 7)
  c_MOST_ORDERS : CAt K mg "MOST_ORDERS" (.int 12)
  d_is_integer : DAt K mg "is_integer_shares" "is_integer" s_is_integer ["thing"]
  d_is_sized : DAt K mg "is_sized_shares" "is_sized" s_is_sized ["thing", "low", "high"]
  d_common : DAt K mg "common" "common" s_common ["one", "other"]
  d_share : DAt K mg "share" "share" s_share ["top", "bottom"]
  d_is_share : DAt K mg "is_share" "is_share" s_is_share ["thing"]
  d_plus : DAt K mg "plus" "plus" s_plus ["one", "other"]
  d_minus : DAt K mg "minus" "minus" s_minus ["one", "other"]
  d_times : DAt K mg "times" "times" s_times ["one", "other"]
  d_is_less : DAt K mg "is_less" "is_less" s_is_less ["one", "other"]
  d_summed : DAt K mg "summed" "summed" s_summed ["many"]
  d_is_integer_1 : DAt K mg "is_integer_basics" "is_integer" s_is_integer_1 ["thing"]
  d_is_within : DAt K mg "is_within" "is_within" s_is_within ["thing", "low", "high"]
  d_is_sized_1 : DAt K mg "is_sized_basics" "is_sized" s_is_sized_1 ["thing", "low", "high"]
  d_is_amount : DAt K mg "is_amount" "is_amount" s_is_amount ["thing"]
  d_are_amounts : DAt K mg "are_amounts" "are_amounts" s_are_amounts ["thing", "many"]
  d_is_making : DAt K mg "is_making" "is_making" s_is_making ["goods", "thing"]
  d_is_shop : DAt K mg "is_shop" "is_shop" s_is_shop ["thing"]
  d_check_shop : DAt K mg "check_shop" "check_shop" s_check_shop ["shop"]
  d_is_order : DAt K mg "is_order" "is_order" s_is_order ["shop", "thing"]
  d_are_orders_of : DAt K mg "are_orders_of" "are_orders_of" s_are_orders_of ["shop", "thing"]
  d_are_orders : DAt K mg "are_orders" "are_orders" s_are_orders ["shop", "thing"]
  d_check_orders : DAt K mg "check_orders" "check_orders" s_check_orders ["shop", "orders"]
  d_is_schedule_of : DAt K mg "is_schedule_of" "is_schedule_of" s_is_schedule_of ["shop", "thing"]
  d_is_schedule : DAt K mg "is_schedule" "is_schedule" s_is_schedule ["shop", "thing"]
  d_check_schedule : DAt K mg "check_schedule" "check_schedule" s_check_schedule ["shop", "orders", "schedule"]
  d_change : DAt K mg "change" "change" s_change ["shop", "schedule", "day", "good"]
  d_due_on : DAt K mg "due_on" "due_on" s_due_on ["orders", "day", "good"]
  d_led_by : DAt K mg "led_by" "led_by" s_led_by ["shop", "orders", "schedule"]
  d_led_shop : DAt K mg "led_shop" "led_shop" s_led_shop ["shop", "orders", "schedule"]
  d_lack_in : DAt K mg "lack_in" "lack_in" s_lack_in ["shop", "orders", "schedule"]
  d_first_lack : DAt K mg "first_lack" "first_lack" s_first_lack ["shop", "orders", "schedule"]
  d__law_hand : DAt K mg "_law_hand" "_law_hand" s__law_hand ["script"]
  d__law_draw : DAt K mg "_law_draw" "_law_draw" s__law_draw ["hand", "many"]
  d__law_any : DAt K mg "_law_any" "_law_any" s__law_any ["hand", "some"]
  d__law_low : DAt K mg "_law_low" "_law_low" s__law_low ["top", "bottom"]
  d__law_add : DAt K mg "_law_add" "_law_add" s__law_add ["one", "other"]
  d__law_less : DAt K mg "_law_less" "_law_less" s__law_less ["one", "other"]
  d__law_mul : DAt K mg "_law_mul" "_law_mul" s__law_mul ["one", "other"]
  d__law_is_below : DAt K mg "_law_is_below" "_law_is_below" s__law_is_below ["one", "other"]
  d__law_is_amount : DAt K mg "_law_is_amount" "_law_is_amount" s__law_is_amount ["thing"]
  d__law_is_number : DAt K mg "_law_is_number" "_law_is_number" s__law_is_number ["thing", "low", "high"]
  d__law_amount : DAt K mg "_law_amount" "_law_amount" s__law_amount ["hand", "wide"]
  d__law_shop : DAt K mg "_law_shop" "_law_shop" s__law_shop ["hand", "goods", "methods", "days"]
  d__law_drawn_schedule : DAt K mg "_law_drawn_schedule" "_law_drawn_schedule" s__law_drawn_schedule ["hand", "shop"]
  d__law_led : DAt K mg "_law_led" "_law_led" s__law_led ["shop", "orders", "schedule"]
  d__law_is_schedule : DAt K mg "_law_is_schedule" "_law_is_schedule" s__law_is_schedule ["shop", "thing"]
  d__law_orders : DAt K mg "_law_orders" "_law_orders" s__law_orders ["hand", "shop", "many", "wide"]
  d__law_lesser : DAt K mg "_law_lesser" "_law_lesser" s__law_lesser ["one", "other"]
  d__law_made_case : DAt K mg "_law_made_case" "_law_made_case" s__law_made_case ["hand", "goods", "methods", "days"]
  d__law_are_amounts : DAt K mg "_law_are_amounts" "_law_are_amounts" s__law_are_amounts ["thing", "many"]
  d__law_is_shop : DAt K mg "_law_is_shop" "_law_is_shop" s__law_is_shop ["thing"]
  d__law_are_orders : DAt K mg "_law_are_orders" "_law_are_orders" s__law_are_orders ["shop", "thing"]
  d__law_odd : DAt K mg "_law_odd" "_law_odd" s__law_odd ["hand"]
  d__law_bent : DAt K mg "_law_bent" "_law_bent" s__law_bent ["hand", "thing"]
  d__law_lack : DAt K mg "_law_lack" "_law_lack" s__law_lack ["shop", "orders", "schedule"]
  d__law_is_led : DAt K mg "_law_is_led" "_law_is_led" s__law_is_led ["shop", "orders", "schedule"]
  d__law_are_judged : DAt K mg "_law_are_judged" "_law_are_judged" s__law_are_judged ["hand", "shop", "orders", "schedule"]
  d_law : DAt K mg "law" "law" s_law ["script"]
section
variable {P : Program} {w : World} {K : PySem.W.Frag} {mg : Str → Option Value} {base : Heap} {cm : CM}
theorem ok_is_integer (G : Fx K mg) : FnC P w K mg base cm 1 "is_integer_shares" m_is_integer := G.d_is_integer.okM sc_is_integer fun f cdv A outer s H E C =>
    (ss_one (s_ret (e_and (e_isi (by rfl) G.n_isinstance (by rfl) G.n_int PyProof.Rows.boot_int (e_var 0)) (e_one (e_not (e_isi (by rfl) G.n_isinstance (by rfl) G.n_bool PyProof.Rows.boot_bool (e_var 0)))))))
theorem ok_is_sized (G : Fx K mg) : FnC P w K mg base cm 1 "is_sized_shares" m_is_sized := G.d_is_sized.okM sc_is_sized fun f cdv A outer s H E C =>
    (ss_one (s_ret (e_and (e_isi (by rfl) G.n_isinstance (by rfl) G.n_tuple PyProof.Rows.boot_tuple (e_var 0)) (e_one (e_chain o_le o_le (e_var 1) (e_callB c_len (by rfl) G.n_len (by decide +kernel) (a_cons (e_var 0) a_nil)) (e_var 2))))))
theorem ok_common (G : Fx K mg) : FnC P w K mg base cm 1 "common" m_common := G.d_common.okM sc_common fun f cdv A outer s H E C =>
    (ss_cons (s_while C.po (t_cmp (o_ne C.un) (e_var 1) e_int)
    (ss_one (s_par C.calm C.nd (a_cons (e_var 1) (a_cons (e_op o_mod (e_var 0) (e_var 1)) a_nil)) (by rfl))))
    (ss_one (s_ret (e_callB c_abs (by rfl) G.n_abs (by decide +kernel) (a_cons (e_var 0) a_nil)))))
theorem ok_share (G : Fx K mg) : FnC P w K mg base cm 2 "share" m_share := G.d_share.okM sc_share fun f cdv A outer s H E C =>
    (ss_cons (s_set C.nd (e_call C (ok_common G) (by decide) (by rfl) (a_cons (e_var 0) (a_cons (e_var 1) a_nil))))
    (ss_cons (s_if (t_cmp o_lt (e_var 1) e_int)
    (ss_one (s_set C.nd (e_un u_neg (e_var 2))))
    ss_nil)
    (ss_one (s_ret (e_tup (a_cons (e_op o_fdiv (e_var 0) (e_var 2)) (a_cons (e_op o_fdiv (e_var 1) (e_var 2)) a_nil)))))))
theorem ok_is_share (G : Fx K mg) : FnC P w K mg base cm 2 "is_share" m_is_share := G.d_is_share.okM sc_is_share fun f cdv A outer s H E C =>
    (ss_cons (s_if (w_or (t_not (t_val (e_call C (ok_is_sized G) (by decide) (by rfl) (a_cons (e_var 0) (a_cons e_int (a_cons e_int a_nil)))))) (w_or (t_not (t_val (e_call C (ok_is_integer G) (by decide) (by rfl) (a_cons (e_ix i_seq (e_var 0) e_int) a_nil)))) (w_or1 (t_not (t_val (e_call C (ok_is_integer G) (by decide) (by rfl) (a_cons (e_ix i_seq (e_var 0) e_int) a_nil))))))).t
    (ss_one (s_ret e_bl))
    ss_nil)
    (ss_one (s_ret (e_and (e_cmp o_gt (e_ix i_seq (e_var 0) e_int) e_int) (e_one (e_cmp (o_eq C.un) (e_call C (ok_common G) (by decide) (by rfl) (a_cons (e_ix i_seq (e_var 0) e_int) (a_cons (e_ix i_seq (e_var 0) e_int) a_nil))) e_int))))))
theorem ok_plus (G : Fx K mg) : FnC P w K mg base cm 3 "plus" m_plus := G.d_plus.okM sc_plus fun f cdv A outer s H E C =>
    (ss_cons (s_if (t_cmp (o_eq C.un) (e_ix i_seq (e_var 0) e_int) (e_ix i_seq (e_var 1) e_int))
    (ss_one (s_ret (e_call C (ok_share G) (by decide) (by rfl) (a_cons (e_op o_add (e_ix i_seq (e_var 0) e_int) (e_ix i_seq (e_var 1) e_int)) (a_cons (e_ix i_seq (e_var 0) e_int) a_nil)))))
    ss_nil)
    (ss_one (s_ret (e_call C (ok_share G) (by decide) (by rfl) (a_cons (e_op o_add (e_op o_mul (e_ix i_seq (e_var 0) e_int) (e_ix i_seq (e_var 1) e_int)) (e_op o_mul (e_ix i_seq (e_var 1) e_int) (e_ix i_seq (e_var 0) e_int))) (a_cons (e_op o_mul (e_ix i_seq (e_var 0) e_int) (e_ix i_seq (e_var 1) e_int)) a_nil))))))
theorem ok_minus (G : Fx K mg) : FnC P w K mg base cm 4 "minus" m_minus := G.d_minus.okM sc_minus fun f cdv A outer s H E C =>
    (ss_one (s_ret (e_call C (ok_plus G) (by decide) (by rfl) (a_cons (e_var 0) (a_cons (e_tup (a_cons (e_un u_neg (e_ix i_seq (e_var 1) e_int)) (a_cons (e_ix i_seq (e_var 1) e_int) a_nil))) a_nil)))))
theorem ok_times (G : Fx K mg) : FnC P w K mg base cm 3 "times" m_times := G.d_times.okM sc_times fun f cdv A outer s H E C =>
    (ss_one (s_ret (e_call C (ok_share G) (by decide) (by rfl) (a_cons (e_op o_mul (e_ix i_seq (e_var 0) e_int) (e_ix i_seq (e_var 1) e_int)) (a_cons (e_op o_mul (e_ix i_seq (e_var 0) e_int) (e_ix i_seq (e_var 1) e_int)) a_nil)))))
theorem ok_is_less (G : Fx K mg) : FnC P w K mg base cm 1 "is_less" m_is_less := G.d_is_less.okM sc_is_less fun f cdv A outer s H E C =>
    (ss_one (s_ret (e_cmp o_lt (e_op o_mul (e_ix i_seq (e_var 0) e_int) (e_ix i_seq (e_var 1) e_int)) (e_op o_mul (e_ix i_seq (e_var 1) e_int) (e_ix i_seq (e_var 0) e_int)))))
theorem ok_summed (G : Fx K mg) : FnC P w K mg base cm 4 "summed" m_summed := G.d_summed.okM sc_summed fun f cdv A outer s H E C =>
    (ss_cons (s_set C.nd (e_const (by rfl) G.c_ZERO))
    (ss_cons (s_for C.po C.calm (it_seq (e_var 0)) ((ga_name C.nd)).g
    (ss_one (s_set C.nd (e_call C (ok_plus G) (by decide) (by rfl) (a_cons (e_var 1) (a_cons (e_var 2) a_nil))))))
    (ss_one (s_ret (e_var 1)))))
theorem ok_is_integer_1 (G : Fx K mg) : FnC P w K mg base cm 1 "is_integer_basics" m_is_integer_1 := G.d_is_integer_1.okM sc_is_integer_1 fun f cdv A outer s H E C =>
    (ss_one (s_ret (e_and (e_isi (by rfl) G.n_isinstance (by rfl) G.n_int PyProof.Rows.boot_int (e_var 0)) (e_one (e_not (e_isi (by rfl) G.n_isinstance (by rfl) G.n_bool PyProof.Rows.boot_bool (e_var 0)))))))
theorem ok_is_within (G : Fx K mg) : FnC P w K mg base cm 2 "is_within" m_is_within := G.d_is_within.okM sc_is_within fun f cdv A outer s H E C =>
    (ss_one (s_ret (e_and (e_call C (ok_is_integer_1 G) (by decide) (by rfl) (a_cons (e_var 0) a_nil)) (e_one (e_chain o_le o_le (e_var 1) (e_var 0) (e_var 2))))))
theorem ok_is_sized_1 (G : Fx K mg) : FnC P w K mg base cm 1 "is_sized_basics" m_is_sized_1 := G.d_is_sized_1.okM sc_is_sized_1 fun f cdv A outer s H E C =>
    (ss_one (s_ret (e_and (e_isi (by rfl) G.n_isinstance (by rfl) G.n_tuple PyProof.Rows.boot_tuple (e_var 0)) (e_one (e_chain o_le o_le (e_var 1) (e_callB c_len (by rfl) G.n_len (by decide +kernel) (a_cons (e_var 0) a_nil)) (e_var 2))))))
theorem ok_is_amount (G : Fx K mg) : FnC P w K mg base cm 3 "is_amount" m_is_amount := G.d_is_amount.okM sc_is_amount fun f cdv A outer s H E C =>
    (ss_one (s_ret (e_and (e_call C (ok_is_share G) (by decide) (by rfl) (a_cons (e_var 0) a_nil)) (e_one (e_cmp o_ge (e_ix i_seq (e_var 0) e_int) e_int)))))
theorem ok_are_amounts (G : Fx K mg) : FnC P w K mg base cm 4 "are_amounts" m_are_amounts := G.d_are_amounts.okM sc_are_amounts fun f cdv A outer s H E C =>
    (ss_one (s_ret (e_and (e_call C (ok_is_sized_1 G) (by decide) (by rfl) (a_cons (e_var 0) (a_cons (e_var 1) (a_cons (e_var 1) a_nil)))) (e_one (e_callB (c_all C.calm) (by rfl) G.n_all (by decide +kernel) (a_cons (e_lc (own := [("one", 2)]) C.calm C.nd (it_seq (e_var 0)) (blkOk_by (by kernel_rfl)) finV_ok (fun _ _ _ _ _ => (ga_name (C.blk _ _ _ _ _).nd)) (fun _ _ _ _ _ => ts_nil) (fun _ _ _ _ _ => (e_call (C.blk _ _ _ _ _) (ok_is_amount G) (by decide) (by rfl) (a_cons (e_var 2) a_nil)))) a_nil))))))
theorem ok_is_making (G : Fx K mg) : FnC P w K mg base cm 5 "is_making" m_is_making := G.d_is_making.okM sc_is_making fun f cdv A outer s H E C =>
    (ss_cons (s_if (w_or (t_not (t_val (e_call C (ok_is_sized_1 G) (by decide) (by rfl) (a_cons (e_var 1) (a_cons e_int (a_cons e_int a_nil)))))) (w_or (t_not (t_val (e_call C (ok_is_within G) (by decide) (by rfl) (a_cons (e_ix i_seq (e_var 1) e_int) (a_cons e_int (a_cons (e_op o_sub (e_var 0) e_int) a_nil)))))) (w_or1 (t_not (t_val (e_call C (ok_are_amounts G) (by decide) (by rfl) (a_cons (e_ix i_seq (e_var 1) e_int) (a_cons (e_var 0) a_nil)))))))).t
    (ss_one (s_ret e_bl))
    ss_nil)
    (ss_one (s_ret (e_and (e_call C (ok_is_within G) (by decide) (by rfl) (a_cons (e_ix i_seq (e_var 1) e_int) (a_cons e_int (a_cons (e_const (by rfl) G.c_MOST_TAKE) a_nil)))) (e_one (e_call C (ok_is_amount G) (by decide) (by rfl) (a_cons (e_ix i_seq (e_var 1) e_int) a_nil)))))))
theorem ok_is_shop (G : Fx K mg) : FnC P w K mg base cm 6 "is_shop" m_is_shop := G.d_is_shop.okM sc_is_shop fun f cdv A outer s H E C =>
    (ss_cons (s_if (w_or (t_not (t_val (e_call C (ok_is_sized_1 G) (by decide) (by rfl) (a_cons (e_var 0) (a_cons e_int (a_cons e_int a_nil)))))) (w_or (t_not (t_val (e_call C (ok_is_within G) (by decide) (by rfl) (a_cons (e_ix i_seq (e_var 0) e_int) (a_cons e_int (a_cons (e_const (by rfl) G.c_MOST_GOODS) a_nil)))))) (w_or1 (t_not (t_val (e_call C (ok_is_sized_1 G) (by decide) (by rfl) (a_cons (e_ix i_seq (e_var 0) e_int) (a_cons e_int (a_cons (e_const (by rfl) G.c_MOST_METHODS) a_nil))))))))).t
    (ss_one (s_ret e_bl))
    ss_nil)
    (ss_cons (s_asg (e_var 0) ((ga_tup C.calm (gas_cons (ga_name C.nd) (gas_cons (ga_name C.nd) (gas_cons (ga_name C.nd) (gas_cons (ga_name C.nd) gas_nil)))))).g)
    (ss_cons (s_if (t_not (t_val (e_callB (c_all C.calm) (by rfl) G.n_all (by decide +kernel) (a_cons (e_lc (own := [("method", 5)]) C.calm C.nd (it_seq (e_var 2)) (blkOk_by (by kernel_rfl)) finV_ok (fun _ _ _ _ _ => (ga_name (C.blk _ _ _ _ _).nd)) (fun _ _ _ _ _ => ts_nil) (fun _ _ _ _ _ => (e_call (C.blk _ _ _ _ _) (ok_is_making G) (by decide) (by rfl) (a_cons (e_var 1) (a_cons (e_var 5) a_nil))))) a_nil))))
    (ss_one (s_ret e_bl))
    ss_nil)
    (ss_one (s_ret (e_and (e_call C (ok_are_amounts G) (by decide) (by rfl) (a_cons (e_var 3) (a_cons (e_var 1) a_nil))) (e_one (e_call C (ok_is_within G) (by decide) (by rfl) (a_cons (e_var 4) (a_cons e_int (a_cons (e_const (by rfl) G.c_MOST_DAYS) a_nil)))))))))))
theorem ok_check_shop (G : Fx K mg) : FnC P w K mg base cm 7 "check_shop" m_check_shop := G.d_check_shop.okM sc_check_shop fun f cdv A outer s H E C =>
    (ss_one (s_if (t_not (t_val (e_call C (ok_is_shop G) (by decide) (by rfl) (a_cons (e_var 0) a_nil))))
    (ss_one s_never)
    ss_nil))
theorem ok_is_order (G : Fx K mg) : FnC P w K mg base cm 4 "is_order" m_is_order := G.d_is_order.okM sc_is_order fun f cdv A outer s H E C =>
    (ss_cons (s_if (w_or (t_not (t_val (e_call C (ok_is_sized_1 G) (by decide) (by rfl) (a_cons (e_var 1) (a_cons e_int (a_cons e_int a_nil)))))) (w_or (t_not (t_val (e_call C (ok_is_within G) (by decide) (by rfl) (a_cons (e_ix i_seq (e_var 1) e_int) (a_cons e_int (a_cons (e_op o_sub (e_ix i_seq (e_var 0) e_int) e_int) a_nil)))))) (w_or1 (t_not (t_val (e_call C (ok_is_amount G) (by decide) (by rfl) (a_cons (e_ix i_seq (e_var 1) e_int) a_nil))))))).t
    (ss_one (s_ret e_bl))
    ss_nil)
    (ss_one (s_ret (e_call C (ok_is_within G) (by decide) (by rfl) (a_cons (e_ix i_seq (e_var 1) e_int) (a_cons e_int (a_cons (e_op o_sub (e_ix i_seq (e_var 0) e_int) e_int) a_nil)))))))
theorem ok_are_orders_of (G : Fx K mg) : FnC P w K mg base cm 5 "are_orders_of" m_are_orders_of := G.d_are_orders_of.okM sc_are_orders_of fun f cdv A outer s H E C =>
    (ss_one (s_ret (e_and (e_call C (ok_is_sized_1 G) (by decide) (by rfl) (a_cons (e_var 1) (a_cons e_int (a_cons (e_const (by rfl) G.c_MOST_ORDERS) a_nil)))) (e_one (e_callB (c_all C.calm) (by rfl) G.n_all (by decide +kernel) (a_cons (e_lc (own := [("one", 2)]) C.calm C.nd (it_seq (e_var 1)) (blkOk_by (by kernel_rfl)) finV_ok (fun _ _ _ _ _ => (ga_name (C.blk _ _ _ _ _).nd)) (fun _ _ _ _ _ => ts_nil) (fun _ _ _ _ _ => (e_call (C.blk _ _ _ _ _) (ok_is_order G) (by decide) (by rfl) (a_cons (e_var 0) (a_cons (e_var 2) a_nil))))) a_nil))))))
theorem ok_are_orders (G : Fx K mg) : FnC P w K mg base cm 8 "are_orders" m_are_orders := G.d_are_orders.okM sc_are_orders fun f cdv A outer s H E C =>
    (ss_cons (s_do (e_call C (ok_check_shop G) (by decide) (by rfl) (a_cons (e_var 0) a_nil)))
    (ss_one (s_ret (e_call C (ok_are_orders_of G) (by decide) (by rfl) (a_cons (e_var 0) (a_cons (e_var 1) a_nil))))))
theorem ok_check_orders (G : Fx K mg) : FnC P w K mg base cm 8 "check_orders" m_check_orders := G.d_check_orders.okM sc_check_orders fun f cdv A outer s H E C =>
    (ss_cons (s_do (e_call C (ok_check_shop G) (by decide) (by rfl) (a_cons (e_var 0) a_nil)))
    (ss_one (s_if (t_not (t_val (e_call C (ok_are_orders_of G) (by decide) (by rfl) (a_cons (e_var 0) (a_cons (e_var 1) a_nil)))))
    (ss_one s_never)
    ss_nil)))
theorem ok_is_schedule_of (G : Fx K mg) : FnC P w K mg base cm 5 "is_schedule_of" m_is_schedule_of := G.d_is_schedule_of.okM sc_is_schedule_of fun f cdv A outer s H E C =>
    (ss_cons (s_asg (e_var 0) ((ga_tup C.calm (gas_cons (ga_name C.nd) (gas_cons (ga_name C.nd) (gas_cons (ga_name C.nd) (gas_cons (ga_name C.nd) gas_nil)))))).g)
    (ss_cons (s_if (w_or (t_not (t_val (e_call C (ok_is_sized_1 G) (by decide) (by rfl) (a_cons (e_var 1) (a_cons (e_var 5) (a_cons (e_var 5) a_nil)))))) (w_or1 (t_not (t_val (e_callB (c_all C.calm) (by rfl) G.n_all (by decide +kernel) (a_cons (e_lc (own := [("row", 6)]) C.calm C.nd (it_seq (e_var 1)) (blkOk_by (by kernel_rfl)) finV_ok (fun _ _ _ _ _ => (ga_name (C.blk _ _ _ _ _).nd)) (fun _ _ _ _ _ => ts_nil) (fun _ _ _ _ _ => (e_call (C.blk _ _ _ _ _) (ok_are_amounts G) (by decide) (by rfl) (a_cons (e_var 6) (a_cons (e_callB c_len (by rfl) G.n_len (by decide +kernel) (a_cons (e_var 3) a_nil)) a_nil))))) a_nil)))))).t
    (ss_one (s_ret e_bl))
    ss_nil)
    (ss_one (s_ret (e_callB (c_all C.calm) (by rfl) G.n_all (by decide +kernel) (a_cons (e_lc (own := [("row", 6)]) C.calm C.nd (it_seq (e_var 1)) (blkOk_by (by kernel_rfl)) finV_ok (fun _ _ _ _ _ => (ga_name (C.blk _ _ _ _ _).nd)) (fun _ _ _ _ _ => ts_nil) (fun _ _ _ _ _ => (e_not (e_callB (c_any (C.blk _ _ _ _ _).calm) (by rfl) G.n_any (by decide +kernel) (a_cons (e_lc (own := [("one", 7), ("method", 8)]) (C.blk _ _ _ _ _).calm (C.blk _ _ _ _ _).nd (it_zip (by rfl) G.n_zip (a_cons (e_var 6) (a_cons (e_var 3) a_nil))) (blkOk_by (by kernel_rfl)) finV_ok (fun _ _ _ _ _ => (ga_tup ((C.blk _ _ _ _ _).blk _ _ _ _ _).calm (gas_cons (ga_name ((C.blk _ _ _ _ _).blk _ _ _ _ _).nd) (gas_cons (ga_name ((C.blk _ _ _ _ _).blk _ _ _ _ _).nd) gas_nil)))) (fun _ _ _ _ _ => ts_nil) (fun _ _ _ _ _ => (e_call ((C.blk _ _ _ _ _).blk _ _ _ _ _) (ok_is_less G) (by decide) (by rfl) (a_cons (e_ix i_seq (e_var 8) e_int) (a_cons (e_var 7) a_nil))))) a_nil))))) a_nil))))))
theorem ok_is_schedule (G : Fx K mg) : FnC P w K mg base cm 8 "is_schedule" m_is_schedule := G.d_is_schedule.okM sc_is_schedule fun f cdv A outer s H E C =>
    (ss_cons (s_do (e_call C (ok_check_shop G) (by decide) (by rfl) (a_cons (e_var 0) a_nil)))
    (ss_one (s_ret (e_call C (ok_is_schedule_of G) (by decide) (by rfl) (a_cons (e_var 0) (a_cons (e_var 1) a_nil))))))
theorem ok_check_schedule (G : Fx K mg) : FnC P w K mg base cm 9 "check_schedule" m_check_schedule := G.d_check_schedule.okM sc_check_schedule fun f cdv A outer s H E C =>
    (ss_cons (s_do (e_call C (ok_check_orders G) (by decide) (by rfl) (a_cons (e_var 0) (a_cons (e_var 1) a_nil))))
    (ss_one (s_if (t_not (t_val (e_call C (ok_is_schedule_of G) (by decide) (by rfl) (a_cons (e_var 0) (a_cons (e_var 2) a_nil)))))
    (ss_one s_never)
    ss_nil)))
theorem ok_change (G : Fx K mg) : FnC P w K mg base cm 5 "change" m_change := G.d_change.okM sc_change fun f cdv A outer s H E C =>
    (ss_cons (s_set C.nd (e_const (by rfl) G.c_ZERO))
    (ss_cons (s_for C.po C.calm (it_enum (by rfl) G.n_enumerate (a_cons (e_ix i_seq (e_var 0) e_int) a_nil)) ((ga_tup C.calm (gas_cons (ga_name C.nd) (gas_cons (ga_tup C.calm (gas_cons (ga_name C.nd) (gas_cons (ga_name C.nd) (gas_cons (ga_name C.nd) (gas_cons (ga_name C.nd) gas_nil))))) gas_nil)))).g
    (ss_cons (s_if (w_and (t_cmp (o_eq C.un) (e_var 6) (e_var 3)) (w_and1 (t_cmp o_ge (e_var 2) (e_var 8)))).t
    (ss_one (s_set C.nd (e_call C (ok_plus G) (by decide) (by rfl) (a_cons (e_var 4) (a_cons (e_ix i_seq (e_ix i_seq (e_var 1) (e_op o_sub (e_var 2) (e_var 8))) (e_var 5)) a_nil)))))
    ss_nil)
    (ss_one (s_set C.nd (e_call C (ok_minus G) (by decide) (by rfl) (a_cons (e_var 4) (a_cons (e_call C (ok_times G) (by decide) (by rfl) (a_cons (e_ix i_seq (e_var 7) (e_var 3)) (a_cons (e_ix i_seq (e_ix i_seq (e_var 1) (e_var 2)) (e_var 5)) a_nil))) a_nil)))))))
    (ss_one (s_ret (e_var 4)))))
theorem ok_due_on (G : Fx K mg) : FnC P w K mg base cm 5 "due_on" m_due_on := G.d_due_on.okM sc_due_on fun f cdv A outer s H E C =>
    (ss_one (s_ret (e_call C (ok_summed G) (by decide) (by rfl) (a_cons (e_lc (own := [("one", 3), ("amount", 4), ("when", 5)]) C.calm C.nd (it_seq (e_var 0)) (blkOk_by (by kernel_rfl)) finV_ok (fun _ _ _ _ _ => (ga_tup (C.blk _ _ _ _ _).calm (gas_cons (ga_name (C.blk _ _ _ _ _).nd) (gas_cons (ga_name (C.blk _ _ _ _ _).nd) (gas_cons (ga_name (C.blk _ _ _ _ _).nd) gas_nil))))) (fun _ _ _ _ _ => (ts_one (w_and (t_cmp (o_eq (C.blk _ _ _ _ _).un) (e_var 3) (e_var 2)) (w_and1 (t_cmp (o_eq (C.blk _ _ _ _ _).un) (e_var 5) (e_var 1)))).t)) (fun _ _ _ _ _ => (e_var 4))) a_nil))))
theorem ok_led_by (G : Fx K mg) : FnC P w K mg base cm 6 "led_by" m_led_by := G.d_led_by.okM sc_led_by fun f cdv A outer s H E C =>
    (ss_cons (s_par C.calm C.nd (a_cons (e_callTy c_list (by rfl) G.n_list (by decide +kernel) (a_cons (e_ix i_seq (e_var 0) e_int) a_nil)) (a_cons (e_ref a_nil) a_nil)) (by rfl))
    (ss_cons (s_for C.po C.calm (it_range1 (by rfl) G.n_range (a_cons (e_ix i_seq (e_var 0) e_int) a_nil)) ((ga_name C.nd)).g
    (ss_cons (s_set C.nd (e_ref a_nil))
    (ss_cons (s_for C.po C.calm (it_enum (by rfl) G.n_enumerate (a_cons (e_var 4) a_nil)) ((ga_tup C.calm (gas_cons (ga_name C.nd) (gas_cons (ga_name C.nd) gas_nil)))).g
    (ss_one (s_do (e_meth .lst PySem.F.plainAttrs_list PySem.F.slot_list_append PySem.F.type_list_append mm_append (e_var 6) (a_cons (e_call C (ok_minus G) (by decide) (by rfl) (a_cons (e_call C (ok_plus G) (by decide) (by rfl) (a_cons (e_var 8) (a_cons (e_call C (ok_change G) (by decide) (by rfl) (a_cons (e_var 0) (a_cons (e_var 2) (a_cons (e_var 3) (a_cons (e_var 7) a_nil))))) a_nil))) (a_cons (e_call C (ok_due_on G) (by decide) (by rfl) (a_cons (e_var 1) (a_cons (e_var 3) (a_cons (e_var 7) a_nil)))) a_nil))) a_nil)))))
    (ss_cons (s_set C.nd (e_var 6))
    (ss_one (s_do (e_meth .lst PySem.F.plainAttrs_list PySem.F.slot_list_append PySem.F.type_list_append mm_append (e_var 5) (a_cons (e_callTy c_tuple (by rfl) G.n_tuple (by decide +kernel) (a_cons (e_var 4) a_nil)) a_nil))))))))
    (ss_one (s_ret (e_var 5)))))
theorem ok_led_shop (G : Fx K mg) : FnC P w K mg base cm 10 "led_shop" m_led_shop := G.d_led_shop.okM sc_led_shop fun f cdv A outer s H E C =>
    (ss_cons (s_do (e_call C (ok_check_schedule G) (by decide) (by rfl) (a_cons (e_var 0) (a_cons (e_var 1) (a_cons (e_var 2) a_nil)))))
    (ss_one (s_ret (e_call C (ok_led_by G) (by decide) (by rfl) (a_cons (e_var 0) (a_cons (e_var 1) (a_cons (e_var 2) a_nil)))))))
theorem ok_lack_in (G : Fx K mg) : FnC P w K mg base cm 7 "lack_in" m_lack_in := G.d_lack_in.okD sc_lack_in fun f cdv A outer s H E C =>
    (ss_cons (s_for C.po C.calm (it_enum (by rfl) G.n_enumerate (a_cons (e_call C (ok_led_by G) (by decide) (by rfl) (a_cons (e_var 0) (a_cons (e_var 1) (a_cons (e_var 2) a_nil)))) a_nil)) ((ga_tup C.calm (gas_cons (ga_name C.nd) (gas_cons (ga_name C.nd) gas_nil)))).g
    (ss_one (s_for C.po C.calm (it_enum (by rfl) G.n_enumerate (a_cons (e_var 4) a_nil)) ((ga_tup C.calm (gas_cons (ga_name C.nd) (gas_cons (ga_name C.nd) gas_nil)))).g
    (ss_one (s_if (t_cmp o_lt (e_ix i_seq (e_var 6) e_int) e_int)
    (ss_one (s_ret (e_tup (a_cons (e_var 3) (a_cons (e_var 5) (a_cons (e_call C (ok_minus G) (by decide) (by rfl) (a_cons (e_const (by rfl) G.c_ZERO) (a_cons (e_var 6) a_nil))) a_nil))))))
    ss_nil)))))
    (ss_one (s_ret e_non)))
theorem ok_first_lack (G : Fx K mg) : FnC P w K mg base cm 10 "first_lack" m_first_lack := G.d_first_lack.okM sc_first_lack fun f cdv A outer s H E C =>
    (ss_cons (s_do (e_call C (ok_check_schedule G) (by decide) (by rfl) (a_cons (e_var 0) (a_cons (e_var 1) (a_cons (e_var 2) a_nil)))))
    (ss_one (s_ret (e_call C (ok_lack_in G) (by decide) (by rfl) (a_cons (e_var 0) (a_cons (e_var 1) (a_cons (e_var 2) a_nil)))))))
theorem ok__law_hand (G : Fx K mg) : FnC P w K mg base cm 1 "_law_hand" m_law_hand := G.d__law_hand.okM sc__law_hand fun f cdv A outer s H E C =>
    (ss_cons (s_setLc (own := [("cell", 2)]) C.calm C.nd (sw_true rfl rfl rfl (by decide +kernel)) (it_seq (e_slice l_seq (e_var 0) p_none (p_some e_int))) (blkOk_by (by kernel_rfl)) finV_ok (fun _ _ _ _ _ => (ga_name (C.blk _ _ _ _ _).nd)) (fun _ _ _ _ _ => ts_nil) (fun _ _ _ _ _ => (e_callB c_abs (by rfl) G.n_abs (by decide +kernel) (a_cons (e_callTy c_int (by rfl) G.n_int (by decide +kernel) (a_cons (e_var 2) a_nil)) a_nil))))
    (ss_one (s_ret (e_ref (a_cons (e_var 1) (a_cons e_int (a_cons e_int (a_cons (e_op o_add e_int (e_op o_mul e_int (e_callB c_len (by rfl) G.n_len (by decide +kernel) (a_cons (e_var 1) a_nil)))) (a_cons e_int a_nil)))))))))
theorem ok__law_draw (G : Fx K mg) : FnC P w K mg base cm 1 "_law_draw" m_law_draw := G.d__law_draw.okM sc__law_draw fun f cdv A outer s H E C =>
    (ss_cons (s_if (w_and (t_cmp (o_eq C.un) (e_ix i_seq (e_var 0) e_int) e_int) (w_and1 (t_cmp o_lt (e_ix i_seq (e_var 0) e_int) (e_callB c_len (by rfl) G.n_len (by decide +kernel) (a_cons (e_ix i_seq (e_var 0) e_int) a_nil))))).t
    (ss_cons (s_set C.nd (e_ix i_seq (e_ix i_seq (e_var 0) e_int) (e_ix i_seq (e_var 0) e_int)))
    (ss_cons (s_asg (e_op o_add (e_ix i_seq (e_var 0) e_int) e_int) (g_sub (e_var 0) e_int))
    (ss_cons (s_asg (e_op o_mod (e_callTy c_int (by rfl) G.n_int (by decide +kernel) (a_cons (e_op o_add (e_op o_add (e_op o_mul (e_ix i_seq (e_var 0) e_int) e_int) (e_op o_mul (e_var 3) e_int)) e_int) a_nil)) e_int) (g_sub (e_var 0) e_int))
    (ss_one (s_if (t_cmp o_ge (e_var 3) (e_op o_pow e_int e_int))
    (ss_one (s_asg (e_var 3) (g_sub (e_var 0) e_int)))
    ss_nil)))))
    ss_nil)
    (ss_cons (s_if (t_cmp o_gt (e_ix i_seq (e_var 0) e_int) e_int)
    (ss_cons (s_set C.nd (e_op o_mod (e_callTy c_int (by rfl) G.n_int (by decide +kernel) (a_cons (e_ix i_seq (e_var 0) e_int) a_nil)) (e_var 1)))
    (ss_cons (s_asg (e_op o_fdiv (e_ix i_seq (e_var 0) e_int) (e_var 1)) (g_sub (e_var 0) e_int))
    (ss_one (s_ret (e_var 4)))))
    ss_nil)
    (ss_cons (s_asg (e_op o_add (e_ix i_seq (e_var 0) e_int) e_int) (g_sub (e_var 0) e_int))
    (ss_cons (s_set C.nd (e_op o_mod (e_callTy c_int (by rfl) G.n_int (by decide +kernel) (a_cons (e_op o_mul (e_callTy c_int (by rfl) G.n_int (by decide +kernel) (a_cons (e_op o_add (e_ix i_seq (e_var 0) e_int) (e_op o_mul e_int (e_ix i_seq (e_var 0) e_int))) a_nil)) e_int) a_nil)) e_int))
    (ss_cons (s_set C.nd (e_op o_mod (e_callTy c_int (by rfl) G.n_int (by decide +kernel) (a_cons (e_op o_mul (e_var 2) (e_op o_add (e_op o_fdiv (e_var 2) e_int) e_int)) a_nil)) e_int))
    (ss_cons (s_set C.nd (e_op o_mod (e_callTy c_int (by rfl) G.n_int (by decide +kernel) (a_cons (e_op o_mul (e_var 2) (e_op o_add (e_op o_fdiv (e_var 2) e_int) e_int)) a_nil)) e_int))
    (ss_one (s_ret (e_op o_mod (e_callTy c_int (by rfl) G.n_int (by decide +kernel) (a_cons (e_op o_fdiv (e_var 2) e_int) a_nil)) (e_var 1))))))))))
theorem ok__law_any (G : Fx K mg) : FnC P w K mg base cm 2 "_law_any" m_law_any := G.d__law_any.okM sc__law_any fun f cdv A outer s H E C =>
    (ss_one (s_ret (e_ix i_seq (e_var 1) (e_call C (ok__law_draw G) (by decide) (by rfl) (a_cons (e_var 0) (a_cons (e_callB c_len (by rfl) G.n_len (by decide +kernel) (a_cons (e_var 1) a_nil)) a_nil))))))
theorem ok__law_low (G : Fx K mg) : FnC P w K mg base cm 1 "_law_low" m_law_low := G.d__law_low.okM sc__law_low fun f cdv A outer s H E C =>
    (ss_cons (s_par C.calm C.nd (a_cons (e_callB c_abs (by rfl) G.n_abs (by decide +kernel) (a_cons (e_var 0) a_nil)) (a_cons (e_var 1) a_nil)) (by rfl))
    (ss_cons (s_while C.po (t_cmp o_gt (e_var 3) e_int)
    (ss_one (s_par C.calm C.nd (a_cons (e_var 3) (a_cons (e_op o_mod (e_callTy c_int (by rfl) G.n_int (by decide +kernel) (a_cons (e_var 2) a_nil)) (e_var 3)) a_nil)) (by rfl))))
    (ss_one (s_ret (e_tup (a_cons (e_op o_fdiv (e_var 0) (e_var 2)) (a_cons (e_op o_fdiv (e_var 1) (e_var 2)) a_nil)))))))
theorem ok__law_add (G : Fx K mg) : FnC P w K mg base cm 2 "_law_add" m_law_add := G.d__law_add.okM sc__law_add fun f cdv A outer s H E C =>
    (ss_one (s_ret (e_call C (ok__law_low G) (by decide) (by rfl) (a_cons (e_op o_add (e_op o_mul (e_ix i_seq (e_var 0) e_int) (e_ix i_seq (e_var 1) e_int)) (e_op o_mul (e_ix i_seq (e_var 1) e_int) (e_ix i_seq (e_var 0) e_int))) (a_cons (e_op o_mul (e_ix i_seq (e_var 0) e_int) (e_ix i_seq (e_var 1) e_int)) a_nil)))))
theorem ok__law_less (G : Fx K mg) : FnC P w K mg base cm 2 "_law_less" m_law_less := G.d__law_less.okM sc__law_less fun f cdv A outer s H E C =>
    (ss_one (s_ret (e_call C (ok__law_low G) (by decide) (by rfl) (a_cons (e_op o_sub (e_op o_mul (e_ix i_seq (e_var 0) e_int) (e_ix i_seq (e_var 1) e_int)) (e_op o_mul (e_ix i_seq (e_var 1) e_int) (e_ix i_seq (e_var 0) e_int))) (a_cons (e_op o_mul (e_ix i_seq (e_var 0) e_int) (e_ix i_seq (e_var 1) e_int)) a_nil)))))
theorem ok__law_mul (G : Fx K mg) : FnC P w K mg base cm 2 "_law_mul" m_law_mul := G.d__law_mul.okM sc__law_mul fun f cdv A outer s H E C =>
    (ss_one (s_ret (e_call C (ok__law_low G) (by decide) (by rfl) (a_cons (e_op o_mul (e_ix i_seq (e_var 0) e_int) (e_ix i_seq (e_var 1) e_int)) (a_cons (e_op o_mul (e_ix i_seq (e_var 0) e_int) (e_ix i_seq (e_var 1) e_int)) a_nil)))))
theorem ok__law_is_below (G : Fx K mg) : FnC P w K mg base cm 1 "_law_is_below" m_law_is_below := G.d__law_is_below.okM sc__law_is_below fun f cdv A outer s H E C =>
    (ss_one (s_ret (e_cmp o_lt (e_op o_mul (e_ix i_seq (e_var 0) e_int) (e_ix i_seq (e_var 1) e_int)) (e_op o_mul (e_ix i_seq (e_var 1) e_int) (e_ix i_seq (e_var 0) e_int)))))
theorem ok__law_is_amount (G : Fx K mg) : FnC P w K mg base cm 2 "_law_is_amount" m_law_is_amount := G.d__law_is_amount.okM sc__law_is_amount fun f cdv A outer s H E C =>
    (ss_cons (s_if (w_or (t_not (t_val (e_isi (by rfl) G.n_isinstance (by rfl) G.n_tuple PyProof.Rows.boot_tuple (e_var 0)))) (w_or1 (t_cmp (o_ne C.un) (e_callB c_len (by rfl) G.n_len (by decide +kernel) (a_cons (e_var 0) a_nil)) e_int))).t
    (ss_one (s_ret e_bl))
    ss_nil)
    (ss_cons (s_if (t_not (t_val (e_callB (c_all C.calm) (by rfl) G.n_all (by decide +kernel) (a_cons (e_lc (own := [("one", 1)]) C.calm C.nd (it_seq (e_var 0)) (blkOk_by (by kernel_rfl)) finV_ok (fun _ _ _ _ _ => (ga_name (C.blk _ _ _ _ _).nd)) (fun _ _ _ _ _ => ts_nil) (fun _ _ _ _ _ => (e_and (e_isi (by rfl) G.n_isinstance (by rfl) G.n_int PyProof.Rows.boot_int (e_var 1)) (e_one (e_not (e_isi (by rfl) G.n_isinstance (by rfl) G.n_bool PyProof.Rows.boot_bool (e_var 1))))))) a_nil))))
    (ss_one (s_ret e_bl))
    ss_nil)
    (ss_one (s_ret (e_and (e_cmp o_ge (e_ix i_seq (e_var 0) e_int) e_int) (e_and (e_cmp o_gt (e_ix i_seq (e_var 0) e_int) e_int) (e_one (e_cmp (o_eq C.un) (e_call C (ok__law_low G) (by decide) (by rfl) (a_cons (e_ix i_seq (e_var 0) e_int) (a_cons (e_ix i_seq (e_var 0) e_int) a_nil))) (e_var 0)))))))))
theorem ok__law_is_number (G : Fx K mg) : FnC P w K mg base cm 1 "_law_is_number" m_law_is_number := G.d__law_is_number.okM sc__law_is_number fun f cdv A outer s H E C =>
    (ss_one (s_ret (e_and (e_isi (by rfl) G.n_isinstance (by rfl) G.n_int PyProof.Rows.boot_int (e_var 0)) (e_and (e_not (e_isi (by rfl) G.n_isinstance (by rfl) G.n_bool PyProof.Rows.boot_bool (e_var 0))) (e_one (e_chain o_le o_le (e_var 1) (e_var 0) (e_var 2)))))))
theorem ok__law_amount (G : Fx K mg) : FnC P w K mg base cm 2 "_law_amount" m_law_amount := G.d__law_amount.okM sc__law_amount fun f cdv A outer s H E C =>
    (ss_cons (s_if (t_cmp (o_eq C.un) (e_call C (ok__law_draw G) (by decide) (by rfl) (a_cons (e_var 0) (a_cons e_int a_nil))) e_int)
    (ss_one (s_ret (e_call C (ok__law_low G) (by decide) (by rfl) (a_cons (e_call C (ok__law_draw G) (by decide) (by rfl) (a_cons (e_var 0) (a_cons (e_op o_add (e_op o_mul e_int (e_var 1)) e_int) a_nil))) (a_cons (e_op o_add e_int (e_call C (ok__law_draw G) (by decide) (by rfl) (a_cons (e_var 0) (a_cons e_int a_nil)))) a_nil)))))
    ss_nil)
    (ss_one (s_ret (e_tup (a_cons (e_call C (ok__law_draw G) (by decide) (by rfl) (a_cons (e_var 0) (a_cons (e_op o_add (e_var 1) e_int) a_nil))) (a_cons e_int a_nil))))))
theorem ok__law_shop (G : Fx K mg) : FnC P w K mg base cm 3 "_law_shop" m_law_shop := G.d__law_shop.okD sc__law_shop fun f cdv A outer s H E C =>
    (ss_cons (s_set C.nd (e_ref a_nil))
    (ss_cons (s_for C.po C.calm (it_range1 (by rfl) G.n_range (a_cons (e_var 2) a_nil)) ((ga_name C.nd)).g
    (ss_cons (s_par C.calm C.nd (a_cons (e_call C (ok__law_draw G) (by decide) (by rfl) (a_cons (e_var 0) (a_cons (e_var 1) a_nil))) (a_cons (e_ref a_nil) a_nil)) (by rfl))
    (ss_cons (s_for C.po C.calm (it_range1 (by rfl) G.n_range (a_cons (e_var 1) a_nil)) ((ga_name C.nd)).g
    (ss_one (s_do (e_meth .lst PySem.F.plainAttrs_list PySem.F.slot_list_append PySem.F.type_list_append mm_append (e_var 8) (a_cons (e_if (t_cmp (o_ne C.un) (e_var 6) (e_var 7)) (e_call C (ok__law_any G) (by decide) (by rfl) (a_cons (e_var 0) (a_cons (e_lst (a_cons (e_tup (a_cons e_int (a_cons e_int a_nil))) (a_cons (e_tup (a_cons e_int (a_cons e_int a_nil))) (a_cons (e_tup (a_cons e_int (a_cons e_int a_nil))) (a_cons (e_tup (a_cons e_int (a_cons e_int a_nil))) (a_cons (e_tup (a_cons e_int (a_cons e_int a_nil))) a_nil)))))) a_nil))) (e_tup (a_cons e_int (a_cons e_int a_nil)))) a_nil)))))
    (ss_one (s_do (e_meth .lst PySem.F.plainAttrs_list PySem.F.slot_list_append PySem.F.type_list_append mm_append (e_var 4) (a_cons (e_tup (a_cons (e_var 7) (a_cons (e_callTy c_tuple (by rfl) G.n_tuple (by decide +kernel) (a_cons (e_var 8) a_nil)) (a_cons (e_op o_add e_int (e_call C (ok__law_draw G) (by decide) (by rfl) (a_cons (e_var 0) (a_cons e_int a_nil)))) (a_cons (e_call C (ok__law_amount G) (by decide) (by rfl) (a_cons (e_var 0) (a_cons e_int a_nil))) a_nil))))) a_nil)))))))
    (ss_one (s_ret (e_tup (a_cons (e_var 1) (a_cons (e_callTy c_tuple (by rfl) G.n_tuple (by decide +kernel) (a_cons (e_var 4) a_nil)) (a_cons (e_callTy c_tuple (by rfl) G.n_tuple (by decide +kernel) (a_cons (e_lc (own := [("good", 7)]) C.calm C.nd (it_range1 (by rfl) G.n_range (a_cons (e_var 1) a_nil)) (blkOk_by (by kernel_rfl)) finV_ok (fun _ _ _ _ _ => (ga_name (C.blk _ _ _ _ _).nd)) (fun _ _ _ _ _ => ts_nil) (fun _ _ _ _ _ => (e_call (C.blk _ _ _ _ _) (ok__law_amount G) (by decide) (by rfl) (a_cons (e_var 0) (a_cons e_int a_nil))))) a_nil)) (a_cons (e_var 3) a_nil)))))))))
theorem ok__law_drawn_schedule (G : Fx K mg) : FnC P w K mg base cm 3 "_law_drawn_schedule" m_law_drawn_schedule := G.d__law_drawn_schedule.okD sc__law_drawn_schedule fun f cdv A outer s H E C =>
    (ss_cons (s_set C.nd (e_ref a_nil))
    (ss_cons (s_for C.po C.calm (it_range1 (by rfl) G.n_range (a_cons (e_ix i_seq (e_var 1) e_int) a_nil)) ((ga_name C.nd)).g
    (ss_cons (s_setLc (own := [("one", 5)]) C.calm C.nd (sw_true rfl rfl rfl (by decide +kernel)) (it_seq (e_ix i_seq (e_var 1) e_int)) (blkOk_by (by kernel_rfl)) finV_ok (fun _ _ _ _ _ => (ga_name (C.blk _ _ _ _ _).nd)) (fun _ _ _ _ _ => ts_nil) (fun _ _ _ _ _ => (e_call (C.blk _ _ _ _ _) (ok__law_mul G) (by decide) (by rfl) (a_cons (e_ix i_seq (e_var 5) e_int) (a_cons (e_call (C.blk _ _ _ _ _) (ok__law_any G) (by decide) (by rfl) (a_cons (e_var 0) (a_cons (e_lst (a_cons (e_tup (a_cons e_int (a_cons e_int a_nil))) (a_cons (e_tup (a_cons e_int (a_cons e_int a_nil))) (a_cons (e_tup (a_cons e_int (a_cons e_int a_nil))) (a_cons (e_tup (a_cons e_int (a_cons e_int a_nil))) a_nil))))) a_nil))) a_nil)))))
    (ss_one (s_do (e_meth .lst PySem.F.plainAttrs_list PySem.F.slot_list_append PySem.F.type_list_append mm_append (e_var 2) (a_cons (e_callTy c_tuple (by rfl) G.n_tuple (by decide +kernel) (a_cons (e_var 4) a_nil)) a_nil))))))
    (ss_one (s_ret (e_callTy c_tuple (by rfl) G.n_tuple (by decide +kernel) (a_cons (e_var 2) a_nil))))))
theorem ok__law_led (G : Fx K mg) : FnC P w K mg base cm 3 "_law_led" m_law_led := G.d__law_led.okM sc__law_led fun f cdv A outer s H E C =>
    (ss_cons (s_par C.calm C.nd (a_cons (e_callTy c_listR (by rfl) G.n_list (by decide +kernel) (a_cons (e_ix i_seq (e_var 0) e_int) a_nil)) (a_cons (e_ref a_nil) a_nil)) (by rfl))
    (ss_cons (s_for C.po C.calm (it_range1 (by rfl) G.n_range (a_cons (e_ix i_seq (e_var 0) e_int) a_nil)) ((ga_name C.nd)).g
    (ss_cons (s_for C.po C.calm (it_enum (by rfl) G.n_enumerate (a_cons (e_ix i_seq (e_var 0) e_int) a_nil)) ((ga_tup C.calm (gas_cons (ga_name C.nd) (gas_cons (ga_tup C.calm (gas_cons (ga_name C.nd) (gas_cons (ga_name C.nd) (gas_cons (ga_name C.nd) (gas_cons (ga_name C.nd) gas_nil))))) gas_nil)))).g
    (ss_cons (s_if (t_cmp o_ge (e_var 3) (e_var 11))
    (ss_one (s_asg (e_call C (ok__law_add G) (by decide) (by rfl) (a_cons (e_ix i_seq (e_var 4) (e_var 7)) (a_cons (e_ix i_seq (e_ix i_seq (e_var 2) (e_op o_sub (e_var 3) (e_var 11))) (e_var 6)) a_nil))) (g_sub (e_var 4) (e_var 7))))
    ss_nil)
    (ss_one (s_for C.po C.calm (it_enum (by rfl) G.n_enumerate (a_cons (e_var 10) a_nil)) ((ga_tup C.calm (gas_cons (ga_name C.nd) (gas_cons (ga_name C.nd) gas_nil)))).g
    (ss_one (s_asg (e_call C (ok__law_less G) (by decide) (by rfl) (a_cons (e_ix i_seq (e_var 4) (e_var 13)) (a_cons (e_call C (ok__law_mul G) (by decide) (by rfl) (a_cons (e_var 14) (a_cons (e_ix i_seq (e_ix i_seq (e_var 2) (e_var 3)) (e_var 6)) a_nil))) a_nil))) (g_sub (e_var 4) (e_var 13))))))))
    (ss_cons (s_for C.po C.calm (it_seq (e_var 1)) ((ga_tup C.calm (gas_cons (ga_name C.nd) (gas_cons (ga_name C.nd) (gas_cons (ga_name C.nd) gas_nil))))).g
    (ss_one (s_if (t_cmp (o_eq C.un) (e_var 9) (e_var 3))
    (ss_one (s_asg (e_call C (ok__law_less G) (by decide) (by rfl) (a_cons (e_ix i_seq (e_var 4) (e_var 7)) (a_cons (e_var 8) a_nil))) (g_sub (e_var 4) (e_var 7))))
    ss_nil)))
    (ss_one (s_do (e_meth .lst PySem.F.plainAttrs_list PySem.F.slot_list_append PySem.F.type_list_append mm_append (e_var 5) (a_cons (e_callTy c_tuple (by rfl) G.n_tuple (by decide +kernel) (a_cons (e_var 4) a_nil)) a_nil)))))))
    (ss_one (s_ret (e_var 5)))))
theorem ok__law_is_schedule (G : Fx K mg) : FnC P w K mg base cm 3 "_law_is_schedule" m_law_is_schedule := G.d__law_is_schedule.okM sc__law_is_schedule fun f cdv A outer s H E C =>
    (ss_cons (s_if (w_or (t_not (t_val (e_isi (by rfl) G.n_isinstance (by rfl) G.n_tuple PyProof.Rows.boot_tuple (e_var 1)))) (w_or1 (t_cmp (o_ne C.un) (e_callB c_len (by rfl) G.n_len (by decide +kernel) (a_cons (e_var 1) a_nil)) (e_ix i_seq (e_var 0) e_int)))).t
    (ss_one (s_ret e_bl))
    ss_nil)
    (ss_cons (s_for C.po C.calm (it_seq (e_var 1)) ((ga_name C.nd)).g
    (ss_cons (s_if (w_or (t_not (t_val (e_isi (by rfl) G.n_isinstance (by rfl) G.n_tuple PyProof.Rows.boot_tuple (e_var 2)))) (w_or (t_cmp (o_ne C.un) (e_callB c_len (by rfl) G.n_len (by decide +kernel) (a_cons (e_var 2) a_nil)) (e_callB c_len (by rfl) G.n_len (by decide +kernel) (a_cons (e_ix i_seq (e_var 0) e_int) a_nil))) (w_or1 (t_not (t_val (e_callB (c_all C.calm) (by rfl) G.n_all (by decide +kernel) (a_cons (e_lc (own := [("one", 3)]) C.calm C.nd (it_seq (e_var 2)) (blkOk_by (by kernel_rfl)) finV_ok (fun _ _ _ _ _ => (ga_name (C.blk _ _ _ _ _).nd)) (fun _ _ _ _ _ => ts_nil) (fun _ _ _ _ _ => (e_call (C.blk _ _ _ _ _) (ok__law_is_amount G) (by decide) (by rfl) (a_cons (e_var 3) a_nil)))) a_nil))))))).t
    (ss_one (s_ret e_bl))
    ss_nil)
    (ss_one (s_if (t_val (e_callB (c_any C.calm) (by rfl) G.n_any (by decide +kernel) (a_cons (e_lc (own := [("one", 3), ("method", 4)]) C.calm C.nd (it_zip (by rfl) G.n_zip (a_cons (e_var 2) (a_cons (e_ix i_seq (e_var 0) e_int) a_nil))) (blkOk_by (by kernel_rfl)) finV_ok (fun _ _ _ _ _ => (ga_tup (C.blk _ _ _ _ _).calm (gas_cons (ga_name (C.blk _ _ _ _ _).nd) (gas_cons (ga_name (C.blk _ _ _ _ _).nd) gas_nil)))) (fun _ _ _ _ _ => ts_nil) (fun _ _ _ _ _ => (e_call (C.blk _ _ _ _ _) (ok__law_is_below G) (by decide) (by rfl) (a_cons (e_ix i_seq (e_var 4) e_int) (a_cons (e_var 3) a_nil))))) a_nil)))
    (ss_one (s_ret e_bl))
    ss_nil))))
    (ss_one (s_ret e_bl))))
theorem ok__law_orders (G : Fx K mg) : FnC P w K mg base cm 3 "_law_orders" m_law_orders := G.d__law_orders.okD sc__law_orders fun f cdv A outer s H E C =>
    (ss_cons (s_set C.nd (e_ref a_nil))
    (ss_cons (s_for C.po C.calm (it_range1 (by rfl) G.n_range (a_cons (e_var 2) a_nil)) ((ga_name C.nd)).g
    (ss_one (s_do (e_meth .lst PySem.F.plainAttrs_list PySem.F.slot_list_append PySem.F.type_list_append mm_append (e_var 4) (a_cons (e_tup (a_cons (e_call C (ok__law_draw G) (by decide) (by rfl) (a_cons (e_var 0) (a_cons (e_ix i_seq (e_var 1) e_int) a_nil))) (a_cons (e_call C (ok__law_amount G) (by decide) (by rfl) (a_cons (e_var 0) (a_cons (e_var 3) a_nil))) (a_cons (e_call C (ok__law_draw G) (by decide) (by rfl) (a_cons (e_var 0) (a_cons (e_ix i_seq (e_var 1) e_int) a_nil))) a_nil)))) a_nil)))))
    (ss_one (s_ret (e_callTy c_tuple (by rfl) G.n_tuple (by decide +kernel) (a_cons (e_var 4) a_nil))))))
theorem ok__law_lesser (G : Fx K mg) : FnC P w K mg base cm 2 "_law_lesser" m_law_lesser := G.d__law_lesser.okM sc__law_lesser fun f cdv A outer s H E C =>
    (ss_one (s_ret (e_lc (own := [("first", 2), ("last", 3)]) C.calm C.nd (it_zip (by rfl) G.n_zip (a_cons (e_var 0) (a_cons (e_var 1) a_nil))) (blkOk_by (by kernel_rfl)) finV_ok (fun _ _ _ _ _ => (ga_tup (C.blk _ _ _ _ _).calm (gas_cons (ga_name (C.blk _ _ _ _ _).nd) (gas_cons (ga_name (C.blk _ _ _ _ _).nd) gas_nil)))) (fun _ _ _ _ _ => ts_nil) (fun _ _ _ _ _ => (e_if (t_val (e_call (C.blk _ _ _ _ _) (ok__law_is_below G) (by decide) (by rfl) (a_cons (e_var 2) (a_cons (e_var 3) a_nil)))) (e_var 2) (e_var 3))))))
theorem ok__law_made_case (G : Fx K mg) : FnC P w K mg base cm 4 "_law_made_case" m_law_made_case := G.d__law_made_case.okD sc__law_made_case fun f cdv A outer s H E C =>
    (ss_cons (s_set C.nd (e_call C (ok__law_shop G) (by decide) (by rfl) (a_cons (e_var 0) (a_cons (e_var 1) (a_cons (e_var 2) (a_cons (e_var 3) a_nil))))))
    (ss_cons (s_set C.nd (e_call C (ok__law_drawn_schedule G) (by decide) (by rfl) (a_cons (e_var 0) (a_cons (e_var 4) a_nil))))
    (ss_cons (s_set C.nd (e_op o_mul (e_lst (a_cons (e_tup (a_cons e_int (a_cons e_int a_nil))) a_nil)) (e_var 1)))
    (ss_cons (s_for C.po C.calm (it_seq (e_call C (ok__law_led G) (by decide) (by rfl) (a_cons (e_var 4) (a_cons (e_tup a_nil) (a_cons (e_var 5) a_nil))))) ((ga_name C.nd)).g
    (ss_one (s_set C.nd (e_call C (ok__law_lesser G) (by decide) (by rfl) (a_cons (e_var 6) (a_cons (e_var 7) a_nil))))))
    (ss_cons (s_set C.nd (e_callTy c_tuple (by rfl) G.n_tuple (by decide +kernel) (a_cons (e_lc (own := [("one", 13), ("lack", 16)]) C.calm C.nd (it_zip (by rfl) G.n_zip (a_cons (e_ix i_seq (e_var 4) e_int) (a_cons (e_var 6) a_nil))) (blkOk_by (by kernel_rfl)) finV_ok (fun _ _ _ _ _ => (ga_tup (C.blk _ _ _ _ _).calm (gas_cons (ga_name (C.blk _ _ _ _ _).nd) (gas_cons (ga_name (C.blk _ _ _ _ _).nd) gas_nil)))) (fun _ _ _ _ _ => ts_nil) (fun _ _ _ _ _ => (e_call (C.blk _ _ _ _ _) (ok__law_less G) (by decide) (by rfl) (a_cons (e_var 13) (a_cons (e_var 16) a_nil))))) a_nil)))
    (ss_cons (s_set C.nd (e_op o_add (e_slice l_seq (e_var 4) p_none (p_some e_int)) (e_tup (a_cons (e_var 8) (a_cons (e_ix i_seq (e_var 4) e_int) a_nil)))))
    (ss_cons (s_set C.nd (e_ref a_nil))
    (ss_cons (s_for C.po C.calm (it_range1 (by rfl) G.n_range (a_cons (e_call C (ok__law_draw G) (by decide) (by rfl) (a_cons (e_var 0) (a_cons e_int a_nil))) a_nil)) ((ga_name C.nd)).g
    (ss_cons (s_asg (e_tup (a_cons (e_call C (ok__law_draw G) (by decide) (by rfl) (a_cons (e_var 0) (a_cons (e_var 1) a_nil))) (a_cons (e_call C (ok__law_draw G) (by decide) (by rfl) (a_cons (e_var 0) (a_cons (e_var 3) a_nil))) a_nil))) ((ga_tup C.calm (gas_cons (ga_name C.nd) (gas_cons (ga_name C.nd) gas_nil)))).g)
    (ss_cons (s_set C.nd (e_slice l_seq (e_lc (own := [("row", 7)]) C.calm C.nd (it_seq (e_call C (ok__law_led G) (by decide) (by rfl) (a_cons (e_var 4) (a_cons (e_var 9) (a_cons (e_var 5) a_nil))))) (blkOk_by (by kernel_rfl)) finV_ok (fun _ _ _ _ _ => (ga_name (C.blk _ _ _ _ _).nd)) (fun _ _ _ _ _ => ts_nil) (fun _ _ _ _ _ => (e_ix i_seq (e_var 7) (e_var 14)))) (p_some (e_var 15)) p_none))
    (ss_cons (s_set C.nd (e_ix i_seq (e_var 11) e_int))
    (ss_cons (s_for C.po C.calm (it_seq (e_var 11)) ((ga_name C.nd)).g
    (ss_one (s_set C.nd (e_if (t_val (e_call C (ok__law_is_below G) (by decide) (by rfl) (a_cons (e_var 13) (a_cons (e_var 12) a_nil)))) (e_var 13) (e_var 12)))))
    (ss_one (s_do (e_meth .lst PySem.F.plainAttrs_list PySem.F.slot_list_append PySem.F.type_list_append mm_append (e_var 9) (a_cons (e_tup (a_cons (e_var 14) (a_cons (e_call C (ok__law_mul G) (by decide) (by rfl) (a_cons (e_var 12) (a_cons (e_call C (ok__law_any G) (by decide) (by rfl) (a_cons (e_var 0) (a_cons (e_lst (a_cons (e_tup (a_cons e_int (a_cons e_int a_nil))) (a_cons (e_tup (a_cons e_int (a_cons e_int a_nil))) (a_cons (e_tup (a_cons e_int (a_cons e_int a_nil))) a_nil)))) a_nil))) a_nil))) (a_cons (e_var 15) a_nil)))) a_nil)))))))))
    (ss_one (s_ret (e_tup (a_cons (e_var 4) (a_cons (e_callTy c_tuple (by rfl) G.n_tuple (by decide +kernel) (a_cons (e_var 9) a_nil)) (a_cons (e_var 5) a_nil))))))))))))))
theorem ok__law_are_amounts (G : Fx K mg) : FnC P w K mg base cm 3 "_law_are_amounts" m_law_are_amounts := G.d__law_are_amounts.okM sc__law_are_amounts fun f cdv A outer s H E C =>
    (ss_one (s_ret (e_and (e_isi (by rfl) G.n_isinstance (by rfl) G.n_tuple PyProof.Rows.boot_tuple (e_var 0)) (e_and (e_cmp (o_eq C.un) (e_callB c_len (by rfl) G.n_len (by decide +kernel) (a_cons (e_var 0) a_nil)) (e_var 1)) (e_one (e_callB (c_all C.calm) (by rfl) G.n_all (by decide +kernel) (a_cons (e_lc (own := [("one", 2)]) C.calm C.nd (it_seq (e_var 0)) (blkOk_by (by kernel_rfl)) finV_ok (fun _ _ _ _ _ => (ga_name (C.blk _ _ _ _ _).nd)) (fun _ _ _ _ _ => ts_nil) (fun _ _ _ _ _ => (e_call (C.blk _ _ _ _ _) (ok__law_is_amount G) (by decide) (by rfl) (a_cons (e_var 2) a_nil)))) a_nil)))))))
theorem ok__law_is_shop (G : Fx K mg) : FnC P w K mg base cm 4 "_law_is_shop" m_law_is_shop := G.d__law_is_shop.okM sc__law_is_shop fun f cdv A outer s H E C =>
    (ss_cons (s_if (w_or (t_not (t_val (e_isi (by rfl) G.n_isinstance (by rfl) G.n_tuple PyProof.Rows.boot_tuple (e_var 0)))) (w_or (t_cmp (o_ne C.un) (e_callB c_len (by rfl) G.n_len (by decide +kernel) (a_cons (e_var 0) a_nil)) e_int) (w_or1 (t_not (t_val (e_call C (ok__law_is_number G) (by decide) (by rfl) (a_cons (e_ix i_seq (e_var 0) e_int) (a_cons e_int (a_cons e_int a_nil))))))))).t
    (ss_one (s_ret e_bl))
    ss_nil)
    (ss_cons (s_asg (e_var 0) ((ga_tup C.calm (gas_cons (ga_name C.nd) (gas_cons (ga_name C.nd) (gas_cons (ga_name C.nd) (gas_cons (ga_name C.nd) gas_nil)))))).g)
    (ss_cons (s_if (w_or (t_not (t_val (e_isi (by rfl) G.n_isinstance (by rfl) G.n_tuple PyProof.Rows.boot_tuple (e_var 3)))) (w_or (t_not (t_chain o_le o_le e_int (e_callB c_len (by rfl) G.n_len (by decide +kernel) (a_cons (e_var 3) a_nil)) e_int)) (w_or1 (t_not (t_val (e_call C (ok__law_is_number G) (by decide) (by rfl) (a_cons (e_var 5) (a_cons e_int (a_cons e_int a_nil))))))))).t
    (ss_one (s_ret e_bl))
    ss_nil)
    (ss_cons (s_for C.po C.calm (it_seq (e_var 3)) ((ga_name C.nd)).g
    (ss_cons (s_if (w_or (t_not (t_val (e_isi (by rfl) G.n_isinstance (by rfl) G.n_tuple PyProof.Rows.boot_tuple (e_var 1)))) (w_or (t_cmp (o_ne C.un) (e_callB c_len (by rfl) G.n_len (by decide +kernel) (a_cons (e_var 1) a_nil)) e_int) (w_or1 (t_not (t_val (e_call C (ok__law_is_number G) (by decide) (by rfl) (a_cons (e_ix i_seq (e_var 1) e_int) (a_cons e_int (a_cons (e_op o_sub (e_var 2) e_int) a_nil))))))))).t
    (ss_one (s_ret e_bl))
    ss_nil)
    (ss_one (s_if (w_or (t_not (t_val (e_call C (ok__law_are_amounts G) (by decide) (by rfl) (a_cons (e_ix i_seq (e_var 1) e_int) (a_cons (e_var 2) a_nil))))) (w_or (t_not (t_val (e_call C (ok__law_is_number G) (by decide) (by rfl) (a_cons (e_ix i_seq (e_var 1) e_int) (a_cons e_int (a_cons e_int a_nil)))))) (w_or1 (t_not (t_val (e_call C (ok__law_is_amount G) (by decide) (by rfl) (a_cons (e_ix i_seq (e_var 1) e_int) a_nil))))))).t
    (ss_one (s_ret e_bl))
    ss_nil))))
    (ss_one (s_ret (e_call C (ok__law_are_amounts G) (by decide) (by rfl) (a_cons (e_var 4) (a_cons (e_var 2) a_nil)))))))))
theorem ok__law_are_orders (G : Fx K mg) : FnC P w K mg base cm 3 "_law_are_orders" m_law_are_orders := G.d__law_are_orders.okM sc__law_are_orders fun f cdv A outer s H E C =>
    (ss_cons (s_if (w_or (t_not (t_val (e_isi (by rfl) G.n_isinstance (by rfl) G.n_tuple PyProof.Rows.boot_tuple (e_var 1)))) (w_or1 (t_cmp o_gt (e_callB c_len (by rfl) G.n_len (by decide +kernel) (a_cons (e_var 1) a_nil)) e_int))).t
    (ss_one (s_ret e_bl))
    ss_nil)
    (ss_cons (s_for C.po C.calm (it_seq (e_var 1)) ((ga_name C.nd)).g
    (ss_cons (s_if (w_or (t_not (t_val (e_isi (by rfl) G.n_isinstance (by rfl) G.n_tuple PyProof.Rows.boot_tuple (e_var 2)))) (w_or (t_cmp (o_ne C.un) (e_callB c_len (by rfl) G.n_len (by decide +kernel) (a_cons (e_var 2) a_nil)) e_int) (w_or1 (t_not (t_val (e_call C (ok__law_is_number G) (by decide) (by rfl) (a_cons (e_ix i_seq (e_var 2) e_int) (a_cons e_int (a_cons (e_op o_sub (e_ix i_seq (e_var 0) e_int) e_int) a_nil))))))))).t
    (ss_one (s_ret e_bl))
    ss_nil)
    (ss_one (s_if (w_or (t_not (t_val (e_call C (ok__law_is_amount G) (by decide) (by rfl) (a_cons (e_ix i_seq (e_var 2) e_int) a_nil)))) (w_or1 (t_not (t_val (e_call C (ok__law_is_number G) (by decide) (by rfl) (a_cons (e_ix i_seq (e_var 2) e_int) (a_cons e_int (a_cons (e_op o_sub (e_ix i_seq (e_var 0) e_int) e_int) a_nil)))))))).t
    (ss_one (s_ret e_bl))
    ss_nil))))
    (ss_one (s_ret e_bl))))
theorem ok__law_odd (G : Fx K mg) : FnC P w K mg base cm 3 "_law_odd" m_law_odd := G.d__law_odd.okM sc__law_odd fun f cdv A outer s H E C =>
    (ss_cons (s_set C.nd (e_lst (a_cons e_str (a_cons e_non a_nil))))
    (ss_cons (s_for C.po C.calm (it_range1 (by rfl) G.n_range (a_cons (e_call C (ok__law_draw G) (by decide) (by rfl) (a_cons (e_var 0) (a_cons e_int a_nil))) a_nil)) ((ga_name C.nd)).g
    (ss_one (s_set C.nd (e_if (t_cmp o_gt (e_var 2) e_int) (e_lst (a_cons (e_var 1) a_nil)) (e_tup (a_cons (e_var 1) a_nil))))))
    (ss_cons (s_set C.nd (e_lst (a_cons e_non (a_cons (e_un u_neg e_int) (a_cons e_int (a_cons e_int (a_cons e_int (a_cons e_bl (a_cons e_str (a_cons (e_tup a_nil) (a_cons (e_tup (a_cons e_int (a_cons e_int a_nil))) (a_cons (e_tup (a_cons e_int (a_cons e_int a_nil))) (a_cons (e_tup (a_cons (e_un u_neg e_int) (a_cons e_int a_nil))) (a_cons (e_tup (a_cons e_int (a_cons e_int a_nil))) (a_cons (e_tup (a_cons e_int (a_cons e_int a_nil))) (a_cons (e_lst (a_cons e_int (a_cons e_int a_nil))) (a_cons (e_tup (a_cons e_int (a_cons e_bl a_nil))) (a_cons e_dct0 a_nil))))))))))))))))))
    (ss_one (s_ret (e_call C (ok__law_any G) (by decide) (by rfl) (a_cons (e_var 0) (a_cons (e_op o_add (e_var 3) (e_lst (a_cons (e_var 1) (a_cons (e_tup (a_cons e_int (a_cons e_int a_nil))) a_nil)))) a_nil))))))))
theorem ok__law_bent_0 (G : Fx K mg) : FnC P w K mg base cm 4 "_law_bent" m_law_bent_0 := G.d__law_bent.ok0
theorem ok__law_bent_1 (G : Fx K mg) : FnC P w K mg base cm 5 "_law_bent" m_law_bent_1 := G.d__law_bent.okM sc__law_bent fun f cdv A outer s H E C =>
    (ss_cons (s_if (w_or (t_not (t_val (e_isi (by rfl) G.n_isinstance (by rfl) G.n_tuple PyProof.Rows.boot_tuple (e_var 1)))) (w_or (t_cmp (o_eq C.un) (e_callB c_len (by rfl) G.n_len (by decide +kernel) (a_cons (e_var 1) a_nil)) e_int) (w_or1 (t_cmp (o_eq C.un) (e_call C (ok__law_draw G) (by decide) (by rfl) (a_cons (e_var 0) (a_cons e_int a_nil))) e_int)))).t
    (ss_one (s_ret (e_call C (ok__law_odd G) (by decide) (by rfl) (a_cons (e_var 0) a_nil))))
    ss_nil)
    (ss_cons (s_par C.calm C.nd (a_cons (e_call C (ok__law_draw G) (by decide) (by rfl) (a_cons (e_var 0) (a_cons (e_callB c_len (by rfl) G.n_len (by decide +kernel) (a_cons (e_var 1) a_nil)) a_nil))) (a_cons (e_call C (ok__law_draw G) (by decide) (by rfl) (a_cons (e_var 0) (a_cons e_int a_nil))) a_nil)) (by rfl))
    (ss_cons (s_if (t_cmp (o_eq C.un) (e_var 3) e_int)
    (ss_one (s_ret (e_call C (ok__law_any G) (by decide) (by rfl) (a_cons (e_var 0) (a_cons (e_lst (a_cons (e_slice l_seq (e_var 1) (p_some e_int) p_none) (a_cons (e_op o_add (e_var 1) (e_slice l_seq (e_var 1) (p_some (e_un u_neg e_int)) p_none)) (a_cons (e_callTy c_list (by rfl) G.n_list (by decide +kernel) (a_cons (e_var 1) a_nil)) (a_cons (e_rev (e_var 1) (e_un u_neg e_int)) a_nil))))) a_nil)))))
    ss_nil)
    (ss_one (s_ret (e_op o_add (e_op o_add (e_slice l_seq (e_var 1) p_none (p_some (e_var 2))) (e_tup (a_cons (e_call C (ok__law_bent_0 G) (by decide) (by rfl) (a_cons (e_var 0) (a_cons (e_ix i_seq (e_var 1) (e_var 2)) a_nil))) a_nil))) (e_slice l_seq (e_var 1) (p_some (e_op o_add (e_var 2) e_int)) p_none)))))))
theorem ok__law_bent_2 (G : Fx K mg) : FnC P w K mg base cm 6 "_law_bent" m_law_bent_2 := G.d__law_bent.okM sc__law_bent fun f cdv A outer s H E C =>
    (ss_cons (s_if (w_or (t_not (t_val (e_isi (by rfl) G.n_isinstance (by rfl) G.n_tuple PyProof.Rows.boot_tuple (e_var 1)))) (w_or (t_cmp (o_eq C.un) (e_callB c_len (by rfl) G.n_len (by decide +kernel) (a_cons (e_var 1) a_nil)) e_int) (w_or1 (t_cmp (o_eq C.un) (e_call C (ok__law_draw G) (by decide) (by rfl) (a_cons (e_var 0) (a_cons e_int a_nil))) e_int)))).t
    (ss_one (s_ret (e_call C (ok__law_odd G) (by decide) (by rfl) (a_cons (e_var 0) a_nil))))
    ss_nil)
    (ss_cons (s_par C.calm C.nd (a_cons (e_call C (ok__law_draw G) (by decide) (by rfl) (a_cons (e_var 0) (a_cons (e_callB c_len (by rfl) G.n_len (by decide +kernel) (a_cons (e_var 1) a_nil)) a_nil))) (a_cons (e_call C (ok__law_draw G) (by decide) (by rfl) (a_cons (e_var 0) (a_cons e_int a_nil))) a_nil)) (by rfl))
    (ss_cons (s_if (t_cmp (o_eq C.un) (e_var 3) e_int)
    (ss_one (s_ret (e_call C (ok__law_any G) (by decide) (by rfl) (a_cons (e_var 0) (a_cons (e_lst (a_cons (e_slice l_seq (e_var 1) (p_some e_int) p_none) (a_cons (e_op o_add (e_var 1) (e_slice l_seq (e_var 1) (p_some (e_un u_neg e_int)) p_none)) (a_cons (e_callTy c_list (by rfl) G.n_list (by decide +kernel) (a_cons (e_var 1) a_nil)) (a_cons (e_rev (e_var 1) (e_un u_neg e_int)) a_nil))))) a_nil)))))
    ss_nil)
    (ss_one (s_ret (e_op o_add (e_op o_add (e_slice l_seq (e_var 1) p_none (p_some (e_var 2))) (e_tup (a_cons (e_call C (ok__law_bent_1 G) (by decide) (by rfl) (a_cons (e_var 0) (a_cons (e_ix i_seq (e_var 1) (e_var 2)) a_nil))) a_nil))) (e_slice l_seq (e_var 1) (p_some (e_op o_add (e_var 2) e_int)) p_none)))))))
theorem ok__law_bent_3 (G : Fx K mg) : FnC P w K mg base cm 7 "_law_bent" m_law_bent_3 := G.d__law_bent.okM sc__law_bent fun f cdv A outer s H E C =>
    (ss_cons (s_if (w_or (t_not (t_val (e_isi (by rfl) G.n_isinstance (by rfl) G.n_tuple PyProof.Rows.boot_tuple (e_var 1)))) (w_or (t_cmp (o_eq C.un) (e_callB c_len (by rfl) G.n_len (by decide +kernel) (a_cons (e_var 1) a_nil)) e_int) (w_or1 (t_cmp (o_eq C.un) (e_call C (ok__law_draw G) (by decide) (by rfl) (a_cons (e_var 0) (a_cons e_int a_nil))) e_int)))).t
    (ss_one (s_ret (e_call C (ok__law_odd G) (by decide) (by rfl) (a_cons (e_var 0) a_nil))))
    ss_nil)
    (ss_cons (s_par C.calm C.nd (a_cons (e_call C (ok__law_draw G) (by decide) (by rfl) (a_cons (e_var 0) (a_cons (e_callB c_len (by rfl) G.n_len (by decide +kernel) (a_cons (e_var 1) a_nil)) a_nil))) (a_cons (e_call C (ok__law_draw G) (by decide) (by rfl) (a_cons (e_var 0) (a_cons e_int a_nil))) a_nil)) (by rfl))
    (ss_cons (s_if (t_cmp (o_eq C.un) (e_var 3) e_int)
    (ss_one (s_ret (e_call C (ok__law_any G) (by decide) (by rfl) (a_cons (e_var 0) (a_cons (e_lst (a_cons (e_slice l_seq (e_var 1) (p_some e_int) p_none) (a_cons (e_op o_add (e_var 1) (e_slice l_seq (e_var 1) (p_some (e_un u_neg e_int)) p_none)) (a_cons (e_callTy c_list (by rfl) G.n_list (by decide +kernel) (a_cons (e_var 1) a_nil)) (a_cons (e_rev (e_var 1) (e_un u_neg e_int)) a_nil))))) a_nil)))))
    ss_nil)
    (ss_one (s_ret (e_op o_add (e_op o_add (e_slice l_seq (e_var 1) p_none (p_some (e_var 2))) (e_tup (a_cons (e_call C (ok__law_bent_2 G) (by decide) (by rfl) (a_cons (e_var 0) (a_cons (e_ix i_seq (e_var 1) (e_var 2)) a_nil))) a_nil))) (e_slice l_seq (e_var 1) (p_some (e_op o_add (e_var 2) e_int)) p_none)))))))
theorem ok__law_bent_4 (G : Fx K mg) : FnC P w K mg base cm 8 "_law_bent" m_law_bent_4 := G.d__law_bent.okM sc__law_bent fun f cdv A outer s H E C =>
    (ss_cons (s_if (w_or (t_not (t_val (e_isi (by rfl) G.n_isinstance (by rfl) G.n_tuple PyProof.Rows.boot_tuple (e_var 1)))) (w_or (t_cmp (o_eq C.un) (e_callB c_len (by rfl) G.n_len (by decide +kernel) (a_cons (e_var 1) a_nil)) e_int) (w_or1 (t_cmp (o_eq C.un) (e_call C (ok__law_draw G) (by decide) (by rfl) (a_cons (e_var 0) (a_cons e_int a_nil))) e_int)))).t
    (ss_one (s_ret (e_call C (ok__law_odd G) (by decide) (by rfl) (a_cons (e_var 0) a_nil))))
    ss_nil)
    (ss_cons (s_par C.calm C.nd (a_cons (e_call C (ok__law_draw G) (by decide) (by rfl) (a_cons (e_var 0) (a_cons (e_callB c_len (by rfl) G.n_len (by decide +kernel) (a_cons (e_var 1) a_nil)) a_nil))) (a_cons (e_call C (ok__law_draw G) (by decide) (by rfl) (a_cons (e_var 0) (a_cons e_int a_nil))) a_nil)) (by rfl))
    (ss_cons (s_if (t_cmp (o_eq C.un) (e_var 3) e_int)
    (ss_one (s_ret (e_call C (ok__law_any G) (by decide) (by rfl) (a_cons (e_var 0) (a_cons (e_lst (a_cons (e_slice l_seq (e_var 1) (p_some e_int) p_none) (a_cons (e_op o_add (e_var 1) (e_slice l_seq (e_var 1) (p_some (e_un u_neg e_int)) p_none)) (a_cons (e_callTy c_list (by rfl) G.n_list (by decide +kernel) (a_cons (e_var 1) a_nil)) (a_cons (e_rev (e_var 1) (e_un u_neg e_int)) a_nil))))) a_nil)))))
    ss_nil)
    (ss_one (s_ret (e_op o_add (e_op o_add (e_slice l_seq (e_var 1) p_none (p_some (e_var 2))) (e_tup (a_cons (e_call C (ok__law_bent_3 G) (by decide) (by rfl) (a_cons (e_var 0) (a_cons (e_ix i_seq (e_var 1) (e_var 2)) a_nil))) a_nil))) (e_slice l_seq (e_var 1) (p_some (e_op o_add (e_var 2) e_int)) p_none)))))))
theorem ok__law_bent_5 (G : Fx K mg) : FnC P w K mg base cm 9 "_law_bent" m_law_bent_5 := G.d__law_bent.okM sc__law_bent fun f cdv A outer s H E C =>
    (ss_cons (s_if (w_or (t_not (t_val (e_isi (by rfl) G.n_isinstance (by rfl) G.n_tuple PyProof.Rows.boot_tuple (e_var 1)))) (w_or (t_cmp (o_eq C.un) (e_callB c_len (by rfl) G.n_len (by decide +kernel) (a_cons (e_var 1) a_nil)) e_int) (w_or1 (t_cmp (o_eq C.un) (e_call C (ok__law_draw G) (by decide) (by rfl) (a_cons (e_var 0) (a_cons e_int a_nil))) e_int)))).t
    (ss_one (s_ret (e_call C (ok__law_odd G) (by decide) (by rfl) (a_cons (e_var 0) a_nil))))
    ss_nil)
    (ss_cons (s_par C.calm C.nd (a_cons (e_call C (ok__law_draw G) (by decide) (by rfl) (a_cons (e_var 0) (a_cons (e_callB c_len (by rfl) G.n_len (by decide +kernel) (a_cons (e_var 1) a_nil)) a_nil))) (a_cons (e_call C (ok__law_draw G) (by decide) (by rfl) (a_cons (e_var 0) (a_cons e_int a_nil))) a_nil)) (by rfl))
    (ss_cons (s_if (t_cmp (o_eq C.un) (e_var 3) e_int)
    (ss_one (s_ret (e_call C (ok__law_any G) (by decide) (by rfl) (a_cons (e_var 0) (a_cons (e_lst (a_cons (e_slice l_seq (e_var 1) (p_some e_int) p_none) (a_cons (e_op o_add (e_var 1) (e_slice l_seq (e_var 1) (p_some (e_un u_neg e_int)) p_none)) (a_cons (e_callTy c_list (by rfl) G.n_list (by decide +kernel) (a_cons (e_var 1) a_nil)) (a_cons (e_rev (e_var 1) (e_un u_neg e_int)) a_nil))))) a_nil)))))
    ss_nil)
    (ss_one (s_ret (e_op o_add (e_op o_add (e_slice l_seq (e_var 1) p_none (p_some (e_var 2))) (e_tup (a_cons (e_call C (ok__law_bent_4 G) (by decide) (by rfl) (a_cons (e_var 0) (a_cons (e_ix i_seq (e_var 1) (e_var 2)) a_nil))) a_nil))) (e_slice l_seq (e_var 1) (p_some (e_op o_add (e_var 2) e_int)) p_none)))))))
theorem ok__law_bent_6 (G : Fx K mg) : FnC P w K mg base cm 10 "_law_bent" m_law_bent_6 := G.d__law_bent.okM sc__law_bent fun f cdv A outer s H E C =>
    (ss_cons (s_if (w_or (t_not (t_val (e_isi (by rfl) G.n_isinstance (by rfl) G.n_tuple PyProof.Rows.boot_tuple (e_var 1)))) (w_or (t_cmp (o_eq C.un) (e_callB c_len (by rfl) G.n_len (by decide +kernel) (a_cons (e_var 1) a_nil)) e_int) (w_or1 (t_cmp (o_eq C.un) (e_call C (ok__law_draw G) (by decide) (by rfl) (a_cons (e_var 0) (a_cons e_int a_nil))) e_int)))).t
    (ss_one (s_ret (e_call C (ok__law_odd G) (by decide) (by rfl) (a_cons (e_var 0) a_nil))))
    ss_nil)
    (ss_cons (s_par C.calm C.nd (a_cons (e_call C (ok__law_draw G) (by decide) (by rfl) (a_cons (e_var 0) (a_cons (e_callB c_len (by rfl) G.n_len (by decide +kernel) (a_cons (e_var 1) a_nil)) a_nil))) (a_cons (e_call C (ok__law_draw G) (by decide) (by rfl) (a_cons (e_var 0) (a_cons e_int a_nil))) a_nil)) (by rfl))
    (ss_cons (s_if (t_cmp (o_eq C.un) (e_var 3) e_int)
    (ss_one (s_ret (e_call C (ok__law_any G) (by decide) (by rfl) (a_cons (e_var 0) (a_cons (e_lst (a_cons (e_slice l_seq (e_var 1) (p_some e_int) p_none) (a_cons (e_op o_add (e_var 1) (e_slice l_seq (e_var 1) (p_some (e_un u_neg e_int)) p_none)) (a_cons (e_callTy c_list (by rfl) G.n_list (by decide +kernel) (a_cons (e_var 1) a_nil)) (a_cons (e_rev (e_var 1) (e_un u_neg e_int)) a_nil))))) a_nil)))))
    ss_nil)
    (ss_one (s_ret (e_op o_add (e_op o_add (e_slice l_seq (e_var 1) p_none (p_some (e_var 2))) (e_tup (a_cons (e_call C (ok__law_bent_5 G) (by decide) (by rfl) (a_cons (e_var 0) (a_cons (e_ix i_seq (e_var 1) (e_var 2)) a_nil))) a_nil))) (e_slice l_seq (e_var 1) (p_some (e_op o_add (e_var 2) e_int)) p_none)))))))
theorem ok__law_bent_7 (G : Fx K mg) : FnC P w K mg base cm 11 "_law_bent" m_law_bent_7 := G.d__law_bent.okM sc__law_bent fun f cdv A outer s H E C =>
    (ss_cons (s_if (w_or (t_not (t_val (e_isi (by rfl) G.n_isinstance (by rfl) G.n_tuple PyProof.Rows.boot_tuple (e_var 1)))) (w_or (t_cmp (o_eq C.un) (e_callB c_len (by rfl) G.n_len (by decide +kernel) (a_cons (e_var 1) a_nil)) e_int) (w_or1 (t_cmp (o_eq C.un) (e_call C (ok__law_draw G) (by decide) (by rfl) (a_cons (e_var 0) (a_cons e_int a_nil))) e_int)))).t
    (ss_one (s_ret (e_call C (ok__law_odd G) (by decide) (by rfl) (a_cons (e_var 0) a_nil))))
    ss_nil)
    (ss_cons (s_par C.calm C.nd (a_cons (e_call C (ok__law_draw G) (by decide) (by rfl) (a_cons (e_var 0) (a_cons (e_callB c_len (by rfl) G.n_len (by decide +kernel) (a_cons (e_var 1) a_nil)) a_nil))) (a_cons (e_call C (ok__law_draw G) (by decide) (by rfl) (a_cons (e_var 0) (a_cons e_int a_nil))) a_nil)) (by rfl))
    (ss_cons (s_if (t_cmp (o_eq C.un) (e_var 3) e_int)
    (ss_one (s_ret (e_call C (ok__law_any G) (by decide) (by rfl) (a_cons (e_var 0) (a_cons (e_lst (a_cons (e_slice l_seq (e_var 1) (p_some e_int) p_none) (a_cons (e_op o_add (e_var 1) (e_slice l_seq (e_var 1) (p_some (e_un u_neg e_int)) p_none)) (a_cons (e_callTy c_list (by rfl) G.n_list (by decide +kernel) (a_cons (e_var 1) a_nil)) (a_cons (e_rev (e_var 1) (e_un u_neg e_int)) a_nil))))) a_nil)))))
    ss_nil)
    (ss_one (s_ret (e_op o_add (e_op o_add (e_slice l_seq (e_var 1) p_none (p_some (e_var 2))) (e_tup (a_cons (e_call C (ok__law_bent_6 G) (by decide) (by rfl) (a_cons (e_var 0) (a_cons (e_ix i_seq (e_var 1) (e_var 2)) a_nil))) a_nil))) (e_slice l_seq (e_var 1) (p_some (e_op o_add (e_var 2) e_int)) p_none)))))))
theorem ok__law_bent (G : Fx K mg) : FnC P w K mg base cm 12 "_law_bent" m_law_bent := G.d__law_bent.okM sc__law_bent fun f cdv A outer s H E C =>
    (ss_cons (s_if (w_or (t_not (t_val (e_isi (by rfl) G.n_isinstance (by rfl) G.n_tuple PyProof.Rows.boot_tuple (e_var 1)))) (w_or (t_cmp (o_eq C.un) (e_callB c_len (by rfl) G.n_len (by decide +kernel) (a_cons (e_var 1) a_nil)) e_int) (w_or1 (t_cmp (o_eq C.un) (e_call C (ok__law_draw G) (by decide) (by rfl) (a_cons (e_var 0) (a_cons e_int a_nil))) e_int)))).t
    (ss_one (s_ret (e_call C (ok__law_odd G) (by decide) (by rfl) (a_cons (e_var 0) a_nil))))
    ss_nil)
    (ss_cons (s_par C.calm C.nd (a_cons (e_call C (ok__law_draw G) (by decide) (by rfl) (a_cons (e_var 0) (a_cons (e_callB c_len (by rfl) G.n_len (by decide +kernel) (a_cons (e_var 1) a_nil)) a_nil))) (a_cons (e_call C (ok__law_draw G) (by decide) (by rfl) (a_cons (e_var 0) (a_cons e_int a_nil))) a_nil)) (by rfl))
    (ss_cons (s_if (t_cmp (o_eq C.un) (e_var 3) e_int)
    (ss_one (s_ret (e_call C (ok__law_any G) (by decide) (by rfl) (a_cons (e_var 0) (a_cons (e_lst (a_cons (e_slice l_seq (e_var 1) (p_some e_int) p_none) (a_cons (e_op o_add (e_var 1) (e_slice l_seq (e_var 1) (p_some (e_un u_neg e_int)) p_none)) (a_cons (e_callTy c_list (by rfl) G.n_list (by decide +kernel) (a_cons (e_var 1) a_nil)) (a_cons (e_rev (e_var 1) (e_un u_neg e_int)) a_nil))))) a_nil)))))
    ss_nil)
    (ss_one (s_ret (e_op o_add (e_op o_add (e_slice l_seq (e_var 1) p_none (p_some (e_var 2))) (e_tup (a_cons (e_call C (ok__law_bent_7 G) (by decide) (by rfl) (a_cons (e_var 0) (a_cons (e_ix i_seq (e_var 1) (e_var 2)) a_nil))) a_nil))) (e_slice l_seq (e_var 1) (p_some (e_op o_add (e_var 2) e_int)) p_none)))))))
theorem ok__law_lack (G : Fx K mg) : FnC P w K mg base cm 4 "_law_lack" m_law_lack := G.d__law_lack.okD sc__law_lack fun f cdv A outer s H E C =>
    (ss_cons (s_for C.po C.calm (it_enum (by rfl) G.n_enumerate (a_cons (e_call C (ok__law_led G) (by decide) (by rfl) (a_cons (e_var 0) (a_cons (e_var 1) (a_cons (e_var 2) a_nil)))) a_nil)) ((ga_tup C.calm (gas_cons (ga_name C.nd) (gas_cons (ga_name C.nd) gas_nil)))).g
    (ss_one (s_for C.po C.calm (it_enum (by rfl) G.n_enumerate (a_cons (e_var 4) a_nil)) ((ga_tup C.calm (gas_cons (ga_name C.nd) (gas_cons (ga_name C.nd) gas_nil)))).g
    (ss_one (s_if (t_cmp o_lt (e_ix i_seq (e_var 6) e_int) e_int)
    (ss_one (s_ret (e_tup (a_cons (e_var 3) (a_cons (e_var 5) (a_cons (e_tup (a_cons (e_op o_sub e_int (e_ix i_seq (e_var 6) e_int)) (a_cons (e_ix i_seq (e_var 6) e_int) a_nil))) a_nil))))))
    ss_nil)))))
    (ss_one (s_ret e_non)))
theorem ok__law_is_led (G : Fx K mg) : FnC P w K mg base cm 11 "_law_is_led" m_law_is_led := G.d__law_is_led.okD sc__law_is_led fun f cdv A outer s H E C =>
    (ss_cons (s_par C.calm C.nd (a_cons (e_call C (ok__law_led G) (by decide) (by rfl) (a_cons (e_var 0) (a_cons (e_var 1) (a_cons (e_var 2) a_nil)))) (a_cons (e_callB (c_repr C.gd C.un1) (by rfl) G.n_repr (by decide +kernel) (a_cons (e_tup (a_cons (e_var 0) (a_cons (e_var 1) (a_cons (e_var 2) a_nil)))) a_nil)) a_nil)) (by rfl))
    (ss_cons (s_set C.nd (e_call C (ok_led_shop G) (by decide) (by rfl) (a_cons (e_var 0) (a_cons (e_var 1) (a_cons (e_var 2) a_nil)))))
    (ss_cons (s_if (w_or (t_not (t_val (e_isi (by rfl) G.n_isinstance (by rfl) G.n_list PyProof.Rows.boot_list (e_var 3)))) (w_or1 (t_cmp (o_ne C.un) (e_callB (c_repr C.gd C.un1) (by rfl) G.n_repr (by decide +kernel) (a_cons (e_var 3) a_nil)) (e_callB (c_repr C.gd C.un1) (by rfl) G.n_repr (by decide +kernel) (a_cons (e_var 5) a_nil))))).t
    (ss_one (s_ret e_bl))
    ss_nil)
    (ss_cons (s_do (e_meth .lst PySem.F.plainAttrs_list PySem.F.slot_list_append PySem.F.type_list_append mm_append (e_var 3) (a_cons e_non a_nil)))
    (ss_cons (s_if (t_cmp (o_ne C.un) (e_callB (c_repr C.gd C.un1) (by rfl) G.n_repr (by decide +kernel) (a_cons (e_call C (ok_led_shop G) (by decide) (by rfl) (a_cons (e_var 0) (a_cons (e_var 1) (a_cons (e_var 2) a_nil)))) a_nil)) (e_callB (c_repr C.gd C.un1) (by rfl) G.n_repr (by decide +kernel) (a_cons (e_var 5) a_nil)))
    (ss_one (s_ret e_bl))
    ss_nil)
    (ss_cons (s_set C.nd (e_call C (ok__law_lack G) (by decide) (by rfl) (a_cons (e_var 0) (a_cons (e_var 1) (a_cons (e_var 2) a_nil)))))
    (ss_one (s_ret (e_and (e_cmp (o_eq C.un) (e_callB (c_repr C.gd C.un1) (by rfl) G.n_repr (by decide +kernel) (a_cons (e_call C (ok_first_lack G) (by decide) (by rfl) (a_cons (e_var 0) (a_cons (e_var 1) (a_cons (e_var 2) a_nil)))) a_nil)) (e_callB (c_repr C.gd C.un1) (by rfl) G.n_repr (by decide +kernel) (a_cons (e_var 4) a_nil))) (e_one (e_cmp (o_eq C.un) (e_callB (c_repr C.gd C.un1) (by rfl) G.n_repr (by decide +kernel) (a_cons (e_tup (a_cons (e_var 0) (a_cons (e_var 1) (a_cons (e_var 2) a_nil)))) a_nil)) (e_var 6))))))))))))
theorem ok__law_are_judged (G : Fx K mg) : FnC P w K mg base cm 13 "_law_are_judged" m_law_are_judged := G.d__law_are_judged.okM sc__law_are_judged fun f cdv A outer s H E C =>
    (ss_cons (s_for C.po C.calm (it_range1 (by rfl) G.n_range (a_cons e_int a_nil)) ((ga_name C.nd)).g
    (ss_cons (s_set C.nd (e_if (t_cmp o_gt (e_var 4) e_int) (e_call C (ok__law_bent G) (by decide) (by rfl) (a_cons (e_var 0) (a_cons (e_var 1) a_nil))) (e_var 1)))
    (ss_cons (s_if (t_cmp (o_ne C.un) (e_callB (c_repr C.gd C.un1) (by rfl) G.n_repr (by decide +kernel) (a_cons (e_call C (ok_is_shop G) (by decide) (by rfl) (a_cons (e_var 5) a_nil)) a_nil)) (e_callB (c_repr C.gd C.un1) (by rfl) G.n_repr (by decide +kernel) (a_cons (e_call C (ok__law_is_shop G) (by decide) (by rfl) (a_cons (e_var 5) a_nil)) a_nil)))
    (ss_one (s_ret e_bl))
    ss_nil)
    (ss_cons (s_set C.nd (e_if (t_cmp o_gt (e_var 4) e_int) (e_call C (ok__law_bent G) (by decide) (by rfl) (a_cons (e_var 0) (a_cons (e_var 2) a_nil))) (e_var 2)))
    (ss_cons (s_if (t_cmp (o_ne C.un) (e_callB (c_repr C.gd C.un1) (by rfl) G.n_repr (by decide +kernel) (a_cons (e_call C (ok_are_orders G) (by decide) (by rfl) (a_cons (e_var 1) (a_cons (e_var 5) a_nil))) a_nil)) (e_callB (c_repr C.gd C.un1) (by rfl) G.n_repr (by decide +kernel) (a_cons (e_call C (ok__law_are_orders G) (by decide) (by rfl) (a_cons (e_var 1) (a_cons (e_var 5) a_nil))) a_nil)))
    (ss_one (s_ret e_bl))
    ss_nil)
    (ss_cons (s_set C.nd (e_if (t_cmp o_gt (e_var 4) e_int) (e_call C (ok__law_bent G) (by decide) (by rfl) (a_cons (e_var 0) (a_cons (e_var 3) a_nil))) (e_var 3)))
    (ss_one (s_if (t_cmp (o_ne C.un) (e_callB (c_repr C.gd C.un1) (by rfl) G.n_repr (by decide +kernel) (a_cons (e_call C (ok_is_schedule G) (by decide) (by rfl) (a_cons (e_var 1) (a_cons (e_var 5) a_nil))) a_nil)) (e_callB (c_repr C.gd C.un1) (by rfl) G.n_repr (by decide +kernel) (a_cons (e_call C (ok__law_is_schedule G) (by decide) (by rfl) (a_cons (e_var 1) (a_cons (e_var 5) a_nil))) a_nil)))
    (ss_one (s_ret e_bl))
    ss_nil))))))))
    (ss_one (s_ret (e_cmp (o_eq C.un) (e_callB (c_repr C.gd C.un1) (by rfl) G.n_repr (by decide +kernel) (a_cons (e_call C (ok_are_orders G) (by decide) (by rfl) (a_cons (e_var 1) (a_cons (e_if (t_cmp o_gt (e_callB c_len (by rfl) G.n_len (by decide +kernel) (a_cons (e_var 2) a_nil)) e_int) (e_op o_mul (e_var 2) e_int) (e_tup a_nil)) a_nil))) a_nil)) (e_callB (c_repr C.gd C.un1) (by rfl) G.n_repr (by decide +kernel) (a_cons (e_cmp (o_eq C.un) (e_callB c_len (by rfl) G.n_len (by decide +kernel) (a_cons (e_var 2) a_nil)) e_int) a_nil))))))
theorem ok_law (G : Fx K mg) {fa : Addr} (hm : mg "law" = some (.ref fa)) : LawF P w K mg cm 14 fa "script" m_law := G.d_law.lawM sc_law (fun base f cdv A outer s H E C =>
    (ss_cons (s_set C.nd (e_call C (ok__law_hand G) (by decide) (by rfl) (a_cons (e_var 0) a_nil)))
    (ss_cons (s_set C.nd (e_tup (a_cons e_int (a_cons (e_tup (a_cons (e_tup (a_cons e_int (a_cons (e_tup (a_cons (e_tup (a_cons e_int (a_cons e_int a_nil))) (a_cons (e_tup (a_cons e_int (a_cons e_int a_nil))) a_nil))) (a_cons e_int (a_cons (e_tup (a_cons e_int (a_cons e_int a_nil))) a_nil))))) a_nil)) (a_cons (e_tup (a_cons (e_tup (a_cons e_int (a_cons e_int a_nil))) (a_cons (e_tup (a_cons e_int (a_cons e_int a_nil))) a_nil))) (a_cons e_int a_nil))))))
    (ss_cons (s_if (t_cmp (o_ne C.un) (e_call C (ok_led_shop G) (by decide) (by rfl) (a_cons (e_var 2) (a_cons (e_tup (a_cons (e_tup (a_cons e_int (a_cons (e_tup (a_cons e_int (a_cons e_int a_nil))) (a_cons e_int a_nil)))) a_nil)) (a_cons (e_tup (a_cons (e_tup (a_cons (e_tup (a_cons e_int (a_cons e_int a_nil))) a_nil)) (a_cons (e_tup (a_cons (e_tup (a_cons e_int (a_cons e_int a_nil))) a_nil)) a_nil))) a_nil)))) (e_lst (a_cons (e_tup (a_cons (e_tup (a_cons (e_un u_neg e_int) (a_cons e_int a_nil))) (a_cons (e_tup (a_cons e_int (a_cons e_int a_nil))) a_nil))) (a_cons (e_tup (a_cons (e_tup (a_cons (e_un u_neg e_int) (a_cons e_int a_nil))) (a_cons (e_tup (a_cons e_int (a_cons e_int a_nil))) a_nil))) a_nil))))
    (ss_one (s_ret e_bl))
    ss_nil)
    (ss_cons (s_if (t_cmp (o_ne C.un) (e_call C (ok_first_lack G) (by decide) (by rfl) (a_cons (e_var 2) (a_cons (e_tup a_nil) (a_cons (e_tup (a_cons (e_tup (a_cons (e_tup (a_cons e_int (a_cons e_int a_nil))) a_nil)) (a_cons (e_tup (a_cons (e_tup (a_cons e_int (a_cons e_int a_nil))) a_nil)) a_nil))) a_nil)))) (e_tup (a_cons e_int (a_cons e_int (a_cons (e_tup (a_cons e_int (a_cons e_int a_nil))) a_nil)))))
    (ss_one (s_ret e_bl))
    ss_nil)
    (ss_cons (s_if (t_cmp o_isn (e_call C (ok_first_lack G) (by decide) (by rfl) (a_cons (e_var 2) (a_cons (e_tup a_nil) (a_cons (e_tup (a_cons (e_tup (a_cons (e_tup (a_cons e_int (a_cons e_int a_nil))) a_nil)) (a_cons (e_tup (a_cons (e_tup (a_cons e_int (a_cons e_int a_nil))) a_nil)) a_nil))) a_nil)))) e_non)
    (ss_one (s_ret e_bl))
    ss_nil)
    (ss_cons (s_for C.po C.calm (it_range1 (by rfl) G.n_range (a_cons e_int a_nil)) ((ga_name C.nd)).g
    (ss_cons (s_par3 C.calm C.nd (a_cons (e_op o_add e_int (e_call C (ok__law_draw G) (by decide) (by rfl) (a_cons (e_var 1) (a_cons e_int a_nil)))) (a_cons (e_op o_add e_int (e_call C (ok__law_draw G) (by decide) (by rfl) (a_cons (e_var 1) (a_cons e_int a_nil)))) (a_cons (e_op o_add e_int (e_call C (ok__law_draw G) (by decide) (by rfl) (a_cons (e_var 1) (a_cons e_int a_nil)))) a_nil))) (by rfl))
    (ss_cons (s_asg (e_call C (ok__law_made_case G) (by decide) (by rfl) (a_cons (e_var 1) (a_cons (e_var 4) (a_cons (e_var 5) (a_cons (e_var 6) a_nil))))) ((ga_tup C.calm (gas_cons (ga_name C.nd) (gas_cons (ga_name C.nd) (gas_cons (ga_name C.nd) gas_nil))))).g)
    (ss_cons (s_if (w_or (t_not (t_val (e_call C (ok__law_is_led G) (by decide) (by rfl) (a_cons (e_var 2) (a_cons (e_var 7) (a_cons (e_var 8) a_nil)))))) (w_or1 (t_cmp o_isn (e_call C (ok_first_lack G) (by decide) (by rfl) (a_cons (e_var 2) (a_cons (e_var 7) (a_cons (e_var 8) a_nil)))) e_non))).t
    (ss_one (s_ret e_bl))
    ss_nil)
    (ss_cons (s_if (t_not (t_val (e_call C (ok__law_is_led G) (by decide) (by rfl) (a_cons (e_var 2) (a_cons (e_call C (ok__law_orders G) (by decide) (by rfl) (a_cons (e_var 1) (a_cons (e_var 2) (a_cons (e_call C (ok__law_draw G) (by decide) (by rfl) (a_cons (e_var 1) (a_cons e_int a_nil))) (a_cons e_int a_nil))))) (a_cons (e_call C (ok__law_drawn_schedule G) (by decide) (by rfl) (a_cons (e_var 1) (a_cons (e_var 2) a_nil))) a_nil))))))
    (ss_one (s_ret e_bl))
    ss_nil)
    (ss_one (s_if (t_not (t_val (e_call C (ok__law_are_judged G) (by decide) (by rfl) (a_cons (e_var 1) (a_cons (e_var 2) (a_cons (e_var 7) (a_cons (e_var 8) a_nil)))))))
    (ss_one (s_ret e_bl))
    ss_nil)))))))
    (ss_one (s_ret e_bl))))))))) hm
end
/-! ### the facts, from the head -/
set_option maxHeartbeats 4000000 in
theorem fx_mk {K : PySem.W.Frag} {h : Heap} {mg : Str → Option Value} (X : K.In h) (G : h.Ns mainGlobals mg)
    {ca_ZERO : Addr} {co_ZERO : Option Addr} {ci_ZERO : List Value} {cn_ZERO : Nat} {cs_ZERO : Array (Option Value)}
    {ct_MOST_TAKE : Tok}
    {ct_MOST_METHODS : Tok}
    {ct_MOST_GOODS : Tok}
    {ct_MOST_DAYS : Tok}
    {ct_MOST_ORDERS : Tok}
    {f_is_integer : Addr} {od_is_integer an_is_integer : Option Addr} {sl_is_integer : Array (Option Value)} {oc_is_integer kV_is_integer dc_is_integer pm_is_integer cd_is_integer ct_is_integer : Value}
    {f_is_sized : Addr} {od_is_sized an_is_sized : Option Addr} {sl_is_sized : Array (Option Value)} {oc_is_sized kV_is_sized dc_is_sized pm_is_sized cd_is_sized ct_is_sized : Value}
    {f_common : Addr} {od_common an_common : Option Addr} {sl_common : Array (Option Value)} {oc_common kV_common dc_common pm_common cd_common ct_common : Value}
    {f_share : Addr} {od_share an_share : Option Addr} {sl_share : Array (Option Value)} {oc_share kV_share dc_share pm_share cd_share ct_share : Value}
    {f_is_share : Addr} {od_is_share an_is_share : Option Addr} {sl_is_share : Array (Option Value)} {oc_is_share kV_is_share dc_is_share pm_is_share cd_is_share ct_is_share : Value}
    {f_plus : Addr} {od_plus an_plus : Option Addr} {sl_plus : Array (Option Value)} {oc_plus kV_plus dc_plus pm_plus cd_plus ct_plus : Value}
    {f_minus : Addr} {od_minus an_minus : Option Addr} {sl_minus : Array (Option Value)} {oc_minus kV_minus dc_minus pm_minus cd_minus ct_minus : Value}
    {f_times : Addr} {od_times an_times : Option Addr} {sl_times : Array (Option Value)} {oc_times kV_times dc_times pm_times cd_times ct_times : Value}
    {f_is_less : Addr} {od_is_less an_is_less : Option Addr} {sl_is_less : Array (Option Value)} {oc_is_less kV_is_less dc_is_less pm_is_less cd_is_less ct_is_less : Value}
    {f_summed : Addr} {od_summed an_summed : Option Addr} {sl_summed : Array (Option Value)} {oc_summed kV_summed dc_summed pm_summed cd_summed ct_summed : Value}
    {f_is_integer_1 : Addr} {od_is_integer_1 an_is_integer_1 : Option Addr} {sl_is_integer_1 : Array (Option Value)} {oc_is_integer_1 kV_is_integer_1 dc_is_integer_1 pm_is_integer_1 cd_is_integer_1 ct_is_integer_1 : Value}
    {f_is_within : Addr} {od_is_within an_is_within : Option Addr} {sl_is_within : Array (Option Value)} {oc_is_within kV_is_within dc_is_within pm_is_within cd_is_within ct_is_within : Value}
    {f_is_sized_1 : Addr} {od_is_sized_1 an_is_sized_1 : Option Addr} {sl_is_sized_1 : Array (Option Value)} {oc_is_sized_1 kV_is_sized_1 dc_is_sized_1 pm_is_sized_1 cd_is_sized_1 ct_is_sized_1 : Value}
    {f_is_amount : Addr} {od_is_amount an_is_amount : Option Addr} {sl_is_amount : Array (Option Value)} {oc_is_amount kV_is_amount dc_is_amount pm_is_amount cd_is_amount ct_is_amount : Value}
    {f_are_amounts : Addr} {od_are_amounts an_are_amounts : Option Addr} {sl_are_amounts : Array (Option Value)} {oc_are_amounts kV_are_amounts dc_are_amounts pm_are_amounts cd_are_amounts ct_are_amounts : Value}
    {f_is_making : Addr} {od_is_making an_is_making : Option Addr} {sl_is_making : Array (Option Value)} {oc_is_making kV_is_making dc_is_making pm_is_making cd_is_making ct_is_making : Value}
    {f_is_shop : Addr} {od_is_shop an_is_shop : Option Addr} {sl_is_shop : Array (Option Value)} {oc_is_shop kV_is_shop dc_is_shop pm_is_shop cd_is_shop ct_is_shop : Value}
    {f_check_shop : Addr} {od_check_shop an_check_shop : Option Addr} {sl_check_shop : Array (Option Value)} {oc_check_shop kV_check_shop dc_check_shop pm_check_shop cd_check_shop ct_check_shop : Value}
    {f_is_order : Addr} {od_is_order an_is_order : Option Addr} {sl_is_order : Array (Option Value)} {oc_is_order kV_is_order dc_is_order pm_is_order cd_is_order ct_is_order : Value}
    {f_are_orders_of : Addr} {od_are_orders_of an_are_orders_of : Option Addr} {sl_are_orders_of : Array (Option Value)} {oc_are_orders_of kV_are_orders_of dc_are_orders_of pm_are_orders_of cd_are_orders_of ct_are_orders_of : Value}
    {f_are_orders : Addr} {od_are_orders an_are_orders : Option Addr} {sl_are_orders : Array (Option Value)} {oc_are_orders kV_are_orders dc_are_orders pm_are_orders cd_are_orders ct_are_orders : Value}
    {f_check_orders : Addr} {od_check_orders an_check_orders : Option Addr} {sl_check_orders : Array (Option Value)} {oc_check_orders kV_check_orders dc_check_orders pm_check_orders cd_check_orders ct_check_orders : Value}
    {f_is_schedule_of : Addr} {od_is_schedule_of an_is_schedule_of : Option Addr} {sl_is_schedule_of : Array (Option Value)} {oc_is_schedule_of kV_is_schedule_of dc_is_schedule_of pm_is_schedule_of cd_is_schedule_of ct_is_schedule_of : Value}
    {f_is_schedule : Addr} {od_is_schedule an_is_schedule : Option Addr} {sl_is_schedule : Array (Option Value)} {oc_is_schedule kV_is_schedule dc_is_schedule pm_is_schedule cd_is_schedule ct_is_schedule : Value}
    {f_check_schedule : Addr} {od_check_schedule an_check_schedule : Option Addr} {sl_check_schedule : Array (Option Value)} {oc_check_schedule kV_check_schedule dc_check_schedule pm_check_schedule cd_check_schedule ct_check_schedule : Value}
    {f_change : Addr} {od_change an_change : Option Addr} {sl_change : Array (Option Value)} {oc_change kV_change dc_change pm_change cd_change ct_change : Value}
    {f_due_on : Addr} {od_due_on an_due_on : Option Addr} {sl_due_on : Array (Option Value)} {oc_due_on kV_due_on dc_due_on pm_due_on cd_due_on ct_due_on : Value}
    {f_led_by : Addr} {od_led_by an_led_by : Option Addr} {sl_led_by : Array (Option Value)} {oc_led_by kV_led_by dc_led_by pm_led_by cd_led_by ct_led_by : Value}
    {f_led_shop : Addr} {od_led_shop an_led_shop : Option Addr} {sl_led_shop : Array (Option Value)} {oc_led_shop kV_led_shop dc_led_shop pm_led_shop cd_led_shop ct_led_shop : Value}
    {f_lack_in : Addr} {od_lack_in an_lack_in : Option Addr} {sl_lack_in : Array (Option Value)} {oc_lack_in kV_lack_in dc_lack_in pm_lack_in cd_lack_in ct_lack_in : Value}
    {f_first_lack : Addr} {od_first_lack an_first_lack : Option Addr} {sl_first_lack : Array (Option Value)} {oc_first_lack kV_first_lack dc_first_lack pm_first_lack cd_first_lack ct_first_lack : Value}
    {f__law_hand : Addr} {od__law_hand an__law_hand : Option Addr} {sl__law_hand : Array (Option Value)} {oc__law_hand kV__law_hand dc__law_hand pm__law_hand cd__law_hand ct__law_hand : Value}
    {f__law_draw : Addr} {od__law_draw an__law_draw : Option Addr} {sl__law_draw : Array (Option Value)} {oc__law_draw kV__law_draw dc__law_draw pm__law_draw cd__law_draw ct__law_draw : Value}
    {f__law_any : Addr} {od__law_any an__law_any : Option Addr} {sl__law_any : Array (Option Value)} {oc__law_any kV__law_any dc__law_any pm__law_any cd__law_any ct__law_any : Value}
    {f__law_low : Addr} {od__law_low an__law_low : Option Addr} {sl__law_low : Array (Option Value)} {oc__law_low kV__law_low dc__law_low pm__law_low cd__law_low ct__law_low : Value}
    {f__law_add : Addr} {od__law_add an__law_add : Option Addr} {sl__law_add : Array (Option Value)} {oc__law_add kV__law_add dc__law_add pm__law_add cd__law_add ct__law_add : Value}
    {f__law_less : Addr} {od__law_less an__law_less : Option Addr} {sl__law_less : Array (Option Value)} {oc__law_less kV__law_less dc__law_less pm__law_less cd__law_less ct__law_less : Value}
    {f__law_mul : Addr} {od__law_mul an__law_mul : Option Addr} {sl__law_mul : Array (Option Value)} {oc__law_mul kV__law_mul dc__law_mul pm__law_mul cd__law_mul ct__law_mul : Value}
    {f__law_is_below : Addr} {od__law_is_below an__law_is_below : Option Addr} {sl__law_is_below : Array (Option Value)} {oc__law_is_below kV__law_is_below dc__law_is_below pm__law_is_below cd__law_is_below ct__law_is_below : Value}
    {f__law_is_amount : Addr} {od__law_is_amount an__law_is_amount : Option Addr} {sl__law_is_amount : Array (Option Value)} {oc__law_is_amount kV__law_is_amount dc__law_is_amount pm__law_is_amount cd__law_is_amount ct__law_is_amount : Value}
    {f__law_is_number : Addr} {od__law_is_number an__law_is_number : Option Addr} {sl__law_is_number : Array (Option Value)} {oc__law_is_number kV__law_is_number dc__law_is_number pm__law_is_number cd__law_is_number ct__law_is_number : Value}
    {f__law_amount : Addr} {od__law_amount an__law_amount : Option Addr} {sl__law_amount : Array (Option Value)} {oc__law_amount kV__law_amount dc__law_amount pm__law_amount cd__law_amount ct__law_amount : Value}
    {f__law_shop : Addr} {od__law_shop an__law_shop : Option Addr} {sl__law_shop : Array (Option Value)} {oc__law_shop kV__law_shop dc__law_shop pm__law_shop cd__law_shop ct__law_shop : Value}
    {f__law_drawn_schedule : Addr} {od__law_drawn_schedule an__law_drawn_schedule : Option Addr} {sl__law_drawn_schedule : Array (Option Value)} {oc__law_drawn_schedule kV__law_drawn_schedule dc__law_drawn_schedule pm__law_drawn_schedule cd__law_drawn_schedule ct__law_drawn_schedule : Value}
    {f__law_led : Addr} {od__law_led an__law_led : Option Addr} {sl__law_led : Array (Option Value)} {oc__law_led kV__law_led dc__law_led pm__law_led cd__law_led ct__law_led : Value}
    {f__law_is_schedule : Addr} {od__law_is_schedule an__law_is_schedule : Option Addr} {sl__law_is_schedule : Array (Option Value)} {oc__law_is_schedule kV__law_is_schedule dc__law_is_schedule pm__law_is_schedule cd__law_is_schedule ct__law_is_schedule : Value}
    {f__law_orders : Addr} {od__law_orders an__law_orders : Option Addr} {sl__law_orders : Array (Option Value)} {oc__law_orders kV__law_orders dc__law_orders pm__law_orders cd__law_orders ct__law_orders : Value}
    {f__law_lesser : Addr} {od__law_lesser an__law_lesser : Option Addr} {sl__law_lesser : Array (Option Value)} {oc__law_lesser kV__law_lesser dc__law_lesser pm__law_lesser cd__law_lesser ct__law_lesser : Value}
    {f__law_made_case : Addr} {od__law_made_case an__law_made_case : Option Addr} {sl__law_made_case : Array (Option Value)} {oc__law_made_case kV__law_made_case dc__law_made_case pm__law_made_case cd__law_made_case ct__law_made_case : Value}
    {f__law_are_amounts : Addr} {od__law_are_amounts an__law_are_amounts : Option Addr} {sl__law_are_amounts : Array (Option Value)} {oc__law_are_amounts kV__law_are_amounts dc__law_are_amounts pm__law_are_amounts cd__law_are_amounts ct__law_are_amounts : Value}
    {f__law_is_shop : Addr} {od__law_is_shop an__law_is_shop : Option Addr} {sl__law_is_shop : Array (Option Value)} {oc__law_is_shop kV__law_is_shop dc__law_is_shop pm__law_is_shop cd__law_is_shop ct__law_is_shop : Value}
    {f__law_are_orders : Addr} {od__law_are_orders an__law_are_orders : Option Addr} {sl__law_are_orders : Array (Option Value)} {oc__law_are_orders kV__law_are_orders dc__law_are_orders pm__law_are_orders cd__law_are_orders ct__law_are_orders : Value}
    {f__law_odd : Addr} {od__law_odd an__law_odd : Option Addr} {sl__law_odd : Array (Option Value)} {oc__law_odd kV__law_odd dc__law_odd pm__law_odd cd__law_odd ct__law_odd : Value}
    {f__law_bent : Addr} {od__law_bent an__law_bent : Option Addr} {sl__law_bent : Array (Option Value)} {oc__law_bent kV__law_bent dc__law_bent pm__law_bent cd__law_bent ct__law_bent : Value}
    {f__law_lack : Addr} {od__law_lack an__law_lack : Option Addr} {sl__law_lack : Array (Option Value)} {oc__law_lack kV__law_lack dc__law_lack pm__law_lack cd__law_lack ct__law_lack : Value}
    {f__law_is_led : Addr} {od__law_is_led an__law_is_led : Option Addr} {sl__law_is_led : Array (Option Value)} {oc__law_is_led kV__law_is_led dc__law_is_led pm__law_is_led cd__law_is_led ct__law_is_led : Value}
    {f__law_are_judged : Addr} {od__law_are_judged an__law_are_judged : Option Addr} {sl__law_are_judged : Array (Option Value)} {oc__law_are_judged kV__law_are_judged dc__law_are_judged pm__law_are_judged cd__law_are_judged ct__law_are_judged : Value}
    {f_law : Addr} {od_law an_law : Option Addr} {sl_law : Array (Option Value)} {oc_law kV_law dc_law pm_law cd_law ct_law : Value}
    (z_abs : PySem.W.nsIn K mainGlobals "abs" = some none)
    (z_all : PySem.W.nsIn K mainGlobals "all" = some none)
    (z_any : PySem.W.nsIn K mainGlobals "any" = some none)
    (z_bool : PySem.W.nsIn K mainGlobals "bool" = some none)
    (z_enumerate : PySem.W.nsIn K mainGlobals "enumerate" = some none)
    (z_int : PySem.W.nsIn K mainGlobals "int" = some none)
    (z_isinstance : PySem.W.nsIn K mainGlobals "isinstance" = some none)
    (z_len : PySem.W.nsIn K mainGlobals "len" = some none)
    (z_list : PySem.W.nsIn K mainGlobals "list" = some none)
    (z_range : PySem.W.nsIn K mainGlobals "range" = some none)
    (z_repr : PySem.W.nsIn K mainGlobals "repr" = some none)
    (z_tuple : PySem.W.nsIn K mainGlobals "tuple" = some none)
    (z_zip : PySem.W.nsIn K mainGlobals "zip" = some none)
    (ka_ZERO : PySem.W.nsIn K mainGlobals "ZERO" = some (some (.ref ca_ZERO))) (kl_ZERO : K.lookup ca_ZERO = some ⟨.type "tuple", co_ZERO, .seq ci_ZERO.toArray cn_ZERO, cs_ZERO⟩) (kv_ZERO : Vals [V.int 0, V.int 1] ci_ZERO)
    (ka_MOST_TAKE : PySem.W.nsIn K mainGlobals "MOST_TAKE" = some (some (.int 4 ct_MOST_TAKE)))
    (ka_MOST_METHODS : PySem.W.nsIn K mainGlobals "MOST_METHODS" = some (some (.int 6 ct_MOST_METHODS)))
    (ka_MOST_GOODS : PySem.W.nsIn K mainGlobals "MOST_GOODS" = some (some (.int 4 ct_MOST_GOODS)))
    (ka_MOST_DAYS : PySem.W.nsIn K mainGlobals "MOST_DAYS" = some (some (.int 7 ct_MOST_DAYS)))
    (ka_MOST_ORDERS : PySem.W.nsIn K mainGlobals "MOST_ORDERS" = some (some (.int 12 ct_MOST_ORDERS)))
    (a_is_integer : PySem.W.nsIn K mainGlobals "is_integer_shares" = some (some (.ref f_is_integer))) (l_is_integer : K.lookup f_is_integer = some ⟨oc_is_integer, od_is_integer, .func (PySem.W.fnOf "is_integer" "is_integer" (defArgs s_is_integer) (defBody s_is_integer) (defScope s_is_integer) .none kV_is_integer dc_is_integer pm_is_integer an_is_integer cd_is_integer ct_is_integer), sl_is_integer⟩) (c_is_integer : PySem.W.codeIn K cd_is_integer "is_integer" = true) (k_is_integer : PySem.W.keepIn K (.ref f_is_integer) = true)
    (a_is_sized : PySem.W.nsIn K mainGlobals "is_sized_shares" = some (some (.ref f_is_sized))) (l_is_sized : K.lookup f_is_sized = some ⟨oc_is_sized, od_is_sized, .func (PySem.W.fnOf "is_sized" "is_sized" (defArgs s_is_sized) (defBody s_is_sized) (defScope s_is_sized) .none kV_is_sized dc_is_sized pm_is_sized an_is_sized cd_is_sized ct_is_sized), sl_is_sized⟩) (c_is_sized : PySem.W.codeIn K cd_is_sized "is_sized" = true) (k_is_sized : PySem.W.keepIn K (.ref f_is_sized) = true)
    (a_common : PySem.W.nsIn K mainGlobals "common" = some (some (.ref f_common))) (l_common : K.lookup f_common = some ⟨oc_common, od_common, .func (PySem.W.fnOf "common" "common" (defArgs s_common) (defBody s_common) (defScope s_common) .none kV_common dc_common pm_common an_common cd_common ct_common), sl_common⟩) (c_common : PySem.W.codeIn K cd_common "common" = true) (k_common : PySem.W.keepIn K (.ref f_common) = true)
    (a_share : PySem.W.nsIn K mainGlobals "share" = some (some (.ref f_share))) (l_share : K.lookup f_share = some ⟨oc_share, od_share, .func (PySem.W.fnOf "share" "share" (defArgs s_share) (defBody s_share) (defScope s_share) .none kV_share dc_share pm_share an_share cd_share ct_share), sl_share⟩) (c_share : PySem.W.codeIn K cd_share "share" = true) (k_share : PySem.W.keepIn K (.ref f_share) = true)
    (a_is_share : PySem.W.nsIn K mainGlobals "is_share" = some (some (.ref f_is_share))) (l_is_share : K.lookup f_is_share = some ⟨oc_is_share, od_is_share, .func (PySem.W.fnOf "is_share" "is_share" (defArgs s_is_share) (defBody s_is_share) (defScope s_is_share) .none kV_is_share dc_is_share pm_is_share an_is_share cd_is_share ct_is_share), sl_is_share⟩) (c_is_share : PySem.W.codeIn K cd_is_share "is_share" = true) (k_is_share : PySem.W.keepIn K (.ref f_is_share) = true)
    (a_plus : PySem.W.nsIn K mainGlobals "plus" = some (some (.ref f_plus))) (l_plus : K.lookup f_plus = some ⟨oc_plus, od_plus, .func (PySem.W.fnOf "plus" "plus" (defArgs s_plus) (defBody s_plus) (defScope s_plus) .none kV_plus dc_plus pm_plus an_plus cd_plus ct_plus), sl_plus⟩) (c_plus : PySem.W.codeIn K cd_plus "plus" = true) (k_plus : PySem.W.keepIn K (.ref f_plus) = true)
    (a_minus : PySem.W.nsIn K mainGlobals "minus" = some (some (.ref f_minus))) (l_minus : K.lookup f_minus = some ⟨oc_minus, od_minus, .func (PySem.W.fnOf "minus" "minus" (defArgs s_minus) (defBody s_minus) (defScope s_minus) .none kV_minus dc_minus pm_minus an_minus cd_minus ct_minus), sl_minus⟩) (c_minus : PySem.W.codeIn K cd_minus "minus" = true) (k_minus : PySem.W.keepIn K (.ref f_minus) = true)
    (a_times : PySem.W.nsIn K mainGlobals "times" = some (some (.ref f_times))) (l_times : K.lookup f_times = some ⟨oc_times, od_times, .func (PySem.W.fnOf "times" "times" (defArgs s_times) (defBody s_times) (defScope s_times) .none kV_times dc_times pm_times an_times cd_times ct_times), sl_times⟩) (c_times : PySem.W.codeIn K cd_times "times" = true) (k_times : PySem.W.keepIn K (.ref f_times) = true)
    (a_is_less : PySem.W.nsIn K mainGlobals "is_less" = some (some (.ref f_is_less))) (l_is_less : K.lookup f_is_less = some ⟨oc_is_less, od_is_less, .func (PySem.W.fnOf "is_less" "is_less" (defArgs s_is_less) (defBody s_is_less) (defScope s_is_less) .none kV_is_less dc_is_less pm_is_less an_is_less cd_is_less ct_is_less), sl_is_less⟩) (c_is_less : PySem.W.codeIn K cd_is_less "is_less" = true) (k_is_less : PySem.W.keepIn K (.ref f_is_less) = true)
    (a_summed : PySem.W.nsIn K mainGlobals "summed" = some (some (.ref f_summed))) (l_summed : K.lookup f_summed = some ⟨oc_summed, od_summed, .func (PySem.W.fnOf "summed" "summed" (defArgs s_summed) (defBody s_summed) (defScope s_summed) .none kV_summed dc_summed pm_summed an_summed cd_summed ct_summed), sl_summed⟩) (c_summed : PySem.W.codeIn K cd_summed "summed" = true) (k_summed : PySem.W.keepIn K (.ref f_summed) = true)
    (a_is_integer_1 : PySem.W.nsIn K mainGlobals "is_integer_basics" = some (some (.ref f_is_integer_1))) (l_is_integer_1 : K.lookup f_is_integer_1 = some ⟨oc_is_integer_1, od_is_integer_1, .func (PySem.W.fnOf "is_integer" "is_integer" (defArgs s_is_integer_1) (defBody s_is_integer_1) (defScope s_is_integer_1) .none kV_is_integer_1 dc_is_integer_1 pm_is_integer_1 an_is_integer_1 cd_is_integer_1 ct_is_integer_1), sl_is_integer_1⟩) (c_is_integer_1 : PySem.W.codeIn K cd_is_integer_1 "is_integer" = true) (k_is_integer_1 : PySem.W.keepIn K (.ref f_is_integer_1) = true)
    (a_is_within : PySem.W.nsIn K mainGlobals "is_within" = some (some (.ref f_is_within))) (l_is_within : K.lookup f_is_within = some ⟨oc_is_within, od_is_within, .func (PySem.W.fnOf "is_within" "is_within" (defArgs s_is_within) (defBody s_is_within) (defScope s_is_within) .none kV_is_within dc_is_within pm_is_within an_is_within cd_is_within ct_is_within), sl_is_within⟩) (c_is_within : PySem.W.codeIn K cd_is_within "is_within" = true) (k_is_within : PySem.W.keepIn K (.ref f_is_within) = true)
    (a_is_sized_1 : PySem.W.nsIn K mainGlobals "is_sized_basics" = some (some (.ref f_is_sized_1))) (l_is_sized_1 : K.lookup f_is_sized_1 = some ⟨oc_is_sized_1, od_is_sized_1, .func (PySem.W.fnOf "is_sized" "is_sized" (defArgs s_is_sized_1) (defBody s_is_sized_1) (defScope s_is_sized_1) .none kV_is_sized_1 dc_is_sized_1 pm_is_sized_1 an_is_sized_1 cd_is_sized_1 ct_is_sized_1), sl_is_sized_1⟩) (c_is_sized_1 : PySem.W.codeIn K cd_is_sized_1 "is_sized" = true) (k_is_sized_1 : PySem.W.keepIn K (.ref f_is_sized_1) = true)
    (a_is_amount : PySem.W.nsIn K mainGlobals "is_amount" = some (some (.ref f_is_amount))) (l_is_amount : K.lookup f_is_amount = some ⟨oc_is_amount, od_is_amount, .func (PySem.W.fnOf "is_amount" "is_amount" (defArgs s_is_amount) (defBody s_is_amount) (defScope s_is_amount) .none kV_is_amount dc_is_amount pm_is_amount an_is_amount cd_is_amount ct_is_amount), sl_is_amount⟩) (c_is_amount : PySem.W.codeIn K cd_is_amount "is_amount" = true) (k_is_amount : PySem.W.keepIn K (.ref f_is_amount) = true)
    (a_are_amounts : PySem.W.nsIn K mainGlobals "are_amounts" = some (some (.ref f_are_amounts))) (l_are_amounts : K.lookup f_are_amounts = some ⟨oc_are_amounts, od_are_amounts, .func (PySem.W.fnOf "are_amounts" "are_amounts" (defArgs s_are_amounts) (defBody s_are_amounts) (defScope s_are_amounts) .none kV_are_amounts dc_are_amounts pm_are_amounts an_are_amounts cd_are_amounts ct_are_amounts), sl_are_amounts⟩) (c_are_amounts : PySem.W.codeIn K cd_are_amounts "are_amounts" = true) (k_are_amounts : PySem.W.keepIn K (.ref f_are_amounts) = true)
    (a_is_making : PySem.W.nsIn K mainGlobals "is_making" = some (some (.ref f_is_making))) (l_is_making : K.lookup f_is_making = some ⟨oc_is_making, od_is_making, .func (PySem.W.fnOf "is_making" "is_making" (defArgs s_is_making) (defBody s_is_making) (defScope s_is_making) .none kV_is_making dc_is_making pm_is_making an_is_making cd_is_making ct_is_making), sl_is_making⟩) (c_is_making : PySem.W.codeIn K cd_is_making "is_making" = true) (k_is_making : PySem.W.keepIn K (.ref f_is_making) = true)
    (a_is_shop : PySem.W.nsIn K mainGlobals "is_shop" = some (some (.ref f_is_shop))) (l_is_shop : K.lookup f_is_shop = some ⟨oc_is_shop, od_is_shop, .func (PySem.W.fnOf "is_shop" "is_shop" (defArgs s_is_shop) (defBody s_is_shop) (defScope s_is_shop) .none kV_is_shop dc_is_shop pm_is_shop an_is_shop cd_is_shop ct_is_shop), sl_is_shop⟩) (c_is_shop : PySem.W.codeIn K cd_is_shop "is_shop" = true) (k_is_shop : PySem.W.keepIn K (.ref f_is_shop) = true)
    (a_check_shop : PySem.W.nsIn K mainGlobals "check_shop" = some (some (.ref f_check_shop))) (l_check_shop : K.lookup f_check_shop = some ⟨oc_check_shop, od_check_shop, .func (PySem.W.fnOf "check_shop" "check_shop" (defArgs s_check_shop) (defBody s_check_shop) (defScope s_check_shop) .none kV_check_shop dc_check_shop pm_check_shop an_check_shop cd_check_shop ct_check_shop), sl_check_shop⟩) (c_check_shop : PySem.W.codeIn K cd_check_shop "check_shop" = true) (k_check_shop : PySem.W.keepIn K (.ref f_check_shop) = true)
    (a_is_order : PySem.W.nsIn K mainGlobals "is_order" = some (some (.ref f_is_order))) (l_is_order : K.lookup f_is_order = some ⟨oc_is_order, od_is_order, .func (PySem.W.fnOf "is_order" "is_order" (defArgs s_is_order) (defBody s_is_order) (defScope s_is_order) .none kV_is_order dc_is_order pm_is_order an_is_order cd_is_order ct_is_order), sl_is_order⟩) (c_is_order : PySem.W.codeIn K cd_is_order "is_order" = true) (k_is_order : PySem.W.keepIn K (.ref f_is_order) = true)
    (a_are_orders_of : PySem.W.nsIn K mainGlobals "are_orders_of" = some (some (.ref f_are_orders_of))) (l_are_orders_of : K.lookup f_are_orders_of = some ⟨oc_are_orders_of, od_are_orders_of, .func (PySem.W.fnOf "are_orders_of" "are_orders_of" (defArgs s_are_orders_of) (defBody s_are_orders_of) (defScope s_are_orders_of) .none kV_are_orders_of dc_are_orders_of pm_are_orders_of an_are_orders_of cd_are_orders_of ct_are_orders_of), sl_are_orders_of⟩) (c_are_orders_of : PySem.W.codeIn K cd_are_orders_of "are_orders_of" = true) (k_are_orders_of : PySem.W.keepIn K (.ref f_are_orders_of) = true)
    (a_are_orders : PySem.W.nsIn K mainGlobals "are_orders" = some (some (.ref f_are_orders))) (l_are_orders : K.lookup f_are_orders = some ⟨oc_are_orders, od_are_orders, .func (PySem.W.fnOf "are_orders" "are_orders" (defArgs s_are_orders) (defBody s_are_orders) (defScope s_are_orders) .none kV_are_orders dc_are_orders pm_are_orders an_are_orders cd_are_orders ct_are_orders), sl_are_orders⟩) (c_are_orders : PySem.W.codeIn K cd_are_orders "are_orders" = true) (k_are_orders : PySem.W.keepIn K (.ref f_are_orders) = true)
    (a_check_orders : PySem.W.nsIn K mainGlobals "check_orders" = some (some (.ref f_check_orders))) (l_check_orders : K.lookup f_check_orders = some ⟨oc_check_orders, od_check_orders, .func (PySem.W.fnOf "check_orders" "check_orders" (defArgs s_check_orders) (defBody s_check_orders) (defScope s_check_orders) .none kV_check_orders dc_check_orders pm_check_orders an_check_orders cd_check_orders ct_check_orders), sl_check_orders⟩) (c_check_orders : PySem.W.codeIn K cd_check_orders "check_orders" = true) (k_check_orders : PySem.W.keepIn K (.ref f_check_orders) = true)
    (a_is_schedule_of : PySem.W.nsIn K mainGlobals "is_schedule_of" = some (some (.ref f_is_schedule_of))) (l_is_schedule_of : K.lookup f_is_schedule_of = some ⟨oc_is_schedule_of, od_is_schedule_of, .func (PySem.W.fnOf "is_schedule_of" "is_schedule_of" (defArgs s_is_schedule_of) (defBody s_is_schedule_of) (defScope s_is_schedule_of) .none kV_is_schedule_of dc_is_schedule_of pm_is_schedule_of an_is_schedule_of cd_is_schedule_of ct_is_schedule_of), sl_is_schedule_of⟩) (c_is_schedule_of : PySem.W.codeIn K cd_is_schedule_of "is_schedule_of" = true) (k_is_schedule_of : PySem.W.keepIn K (.ref f_is_schedule_of) = true)
    (a_is_schedule : PySem.W.nsIn K mainGlobals "is_schedule" = some (some (.ref f_is_schedule))) (l_is_schedule : K.lookup f_is_schedule = some ⟨oc_is_schedule, od_is_schedule, .func (PySem.W.fnOf "is_schedule" "is_schedule" (defArgs s_is_schedule) (defBody s_is_schedule) (defScope s_is_schedule) .none kV_is_schedule dc_is_schedule pm_is_schedule an_is_schedule cd_is_schedule ct_is_schedule), sl_is_schedule⟩) (c_is_schedule : PySem.W.codeIn K cd_is_schedule "is_schedule" = true) (k_is_schedule : PySem.W.keepIn K (.ref f_is_schedule) = true)
    (a_check_schedule : PySem.W.nsIn K mainGlobals "check_schedule" = some (some (.ref f_check_schedule))) (l_check_schedule : K.lookup f_check_schedule = some ⟨oc_check_schedule, od_check_schedule, .func (PySem.W.fnOf "check_schedule" "check_schedule" (defArgs s_check_schedule) (defBody s_check_schedule) (defScope s_check_schedule) .none kV_check_schedule dc_check_schedule pm_check_schedule an_check_schedule cd_check_schedule ct_check_schedule), sl_check_schedule⟩) (c_check_schedule : PySem.W.codeIn K cd_check_schedule "check_schedule" = true) (k_check_schedule : PySem.W.keepIn K (.ref f_check_schedule) = true)
    (a_change : PySem.W.nsIn K mainGlobals "change" = some (some (.ref f_change))) (l_change : K.lookup f_change = some ⟨oc_change, od_change, .func (PySem.W.fnOf "change" "change" (defArgs s_change) (defBody s_change) (defScope s_change) .none kV_change dc_change pm_change an_change cd_change ct_change), sl_change⟩) (c_change : PySem.W.codeIn K cd_change "change" = true) (k_change : PySem.W.keepIn K (.ref f_change) = true)
    (a_due_on : PySem.W.nsIn K mainGlobals "due_on" = some (some (.ref f_due_on))) (l_due_on : K.lookup f_due_on = some ⟨oc_due_on, od_due_on, .func (PySem.W.fnOf "due_on" "due_on" (defArgs s_due_on) (defBody s_due_on) (defScope s_due_on) .none kV_due_on dc_due_on pm_due_on an_due_on cd_due_on ct_due_on), sl_due_on⟩) (c_due_on : PySem.W.codeIn K cd_due_on "due_on" = true) (k_due_on : PySem.W.keepIn K (.ref f_due_on) = true)
    (a_led_by : PySem.W.nsIn K mainGlobals "led_by" = some (some (.ref f_led_by))) (l_led_by : K.lookup f_led_by = some ⟨oc_led_by, od_led_by, .func (PySem.W.fnOf "led_by" "led_by" (defArgs s_led_by) (defBody s_led_by) (defScope s_led_by) .none kV_led_by dc_led_by pm_led_by an_led_by cd_led_by ct_led_by), sl_led_by⟩) (c_led_by : PySem.W.codeIn K cd_led_by "led_by" = true) (k_led_by : PySem.W.keepIn K (.ref f_led_by) = true)
    (a_led_shop : PySem.W.nsIn K mainGlobals "led_shop" = some (some (.ref f_led_shop))) (l_led_shop : K.lookup f_led_shop = some ⟨oc_led_shop, od_led_shop, .func (PySem.W.fnOf "led_shop" "led_shop" (defArgs s_led_shop) (defBody s_led_shop) (defScope s_led_shop) .none kV_led_shop dc_led_shop pm_led_shop an_led_shop cd_led_shop ct_led_shop), sl_led_shop⟩) (c_led_shop : PySem.W.codeIn K cd_led_shop "led_shop" = true) (k_led_shop : PySem.W.keepIn K (.ref f_led_shop) = true)
    (a_lack_in : PySem.W.nsIn K mainGlobals "lack_in" = some (some (.ref f_lack_in))) (l_lack_in : K.lookup f_lack_in = some ⟨oc_lack_in, od_lack_in, .func (PySem.W.fnOf "lack_in" "lack_in" (defArgs s_lack_in) (defBody s_lack_in) (defScope s_lack_in) .none kV_lack_in dc_lack_in pm_lack_in an_lack_in cd_lack_in ct_lack_in), sl_lack_in⟩) (c_lack_in : PySem.W.codeIn K cd_lack_in "lack_in" = true) (k_lack_in : PySem.W.keepIn K (.ref f_lack_in) = true)
    (a_first_lack : PySem.W.nsIn K mainGlobals "first_lack" = some (some (.ref f_first_lack))) (l_first_lack : K.lookup f_first_lack = some ⟨oc_first_lack, od_first_lack, .func (PySem.W.fnOf "first_lack" "first_lack" (defArgs s_first_lack) (defBody s_first_lack) (defScope s_first_lack) .none kV_first_lack dc_first_lack pm_first_lack an_first_lack cd_first_lack ct_first_lack), sl_first_lack⟩) (c_first_lack : PySem.W.codeIn K cd_first_lack "first_lack" = true) (k_first_lack : PySem.W.keepIn K (.ref f_first_lack) = true)
    (a__law_hand : PySem.W.nsIn K mainGlobals "_law_hand" = some (some (.ref f__law_hand))) (l__law_hand : K.lookup f__law_hand = some ⟨oc__law_hand, od__law_hand, .func (PySem.W.fnOf "_law_hand" "_law_hand" (defArgs s__law_hand) (defBody s__law_hand) (defScope s__law_hand) .none kV__law_hand dc__law_hand pm__law_hand an__law_hand cd__law_hand ct__law_hand), sl__law_hand⟩) (c__law_hand : PySem.W.codeIn K cd__law_hand "_law_hand" = true) (k__law_hand : PySem.W.keepIn K (.ref f__law_hand) = true)
    (a__law_draw : PySem.W.nsIn K mainGlobals "_law_draw" = some (some (.ref f__law_draw))) (l__law_draw : K.lookup f__law_draw = some ⟨oc__law_draw, od__law_draw, .func (PySem.W.fnOf "_law_draw" "_law_draw" (defArgs s__law_draw) (defBody s__law_draw) (defScope s__law_draw) .none kV__law_draw dc__law_draw pm__law_draw an__law_draw cd__law_draw ct__law_draw), sl__law_draw⟩) (c__law_draw : PySem.W.codeIn K cd__law_draw "_law_draw" = true) (k__law_draw : PySem.W.keepIn K (.ref f__law_draw) = true)
    (a__law_any : PySem.W.nsIn K mainGlobals "_law_any" = some (some (.ref f__law_any))) (l__law_any : K.lookup f__law_any = some ⟨oc__law_any, od__law_any, .func (PySem.W.fnOf "_law_any" "_law_any" (defArgs s__law_any) (defBody s__law_any) (defScope s__law_any) .none kV__law_any dc__law_any pm__law_any an__law_any cd__law_any ct__law_any), sl__law_any⟩) (c__law_any : PySem.W.codeIn K cd__law_any "_law_any" = true) (k__law_any : PySem.W.keepIn K (.ref f__law_any) = true)
    (a__law_low : PySem.W.nsIn K mainGlobals "_law_low" = some (some (.ref f__law_low))) (l__law_low : K.lookup f__law_low = some ⟨oc__law_low, od__law_low, .func (PySem.W.fnOf "_law_low" "_law_low" (defArgs s__law_low) (defBody s__law_low) (defScope s__law_low) .none kV__law_low dc__law_low pm__law_low an__law_low cd__law_low ct__law_low), sl__law_low⟩) (c__law_low : PySem.W.codeIn K cd__law_low "_law_low" = true) (k__law_low : PySem.W.keepIn K (.ref f__law_low) = true)
    (a__law_add : PySem.W.nsIn K mainGlobals "_law_add" = some (some (.ref f__law_add))) (l__law_add : K.lookup f__law_add = some ⟨oc__law_add, od__law_add, .func (PySem.W.fnOf "_law_add" "_law_add" (defArgs s__law_add) (defBody s__law_add) (defScope s__law_add) .none kV__law_add dc__law_add pm__law_add an__law_add cd__law_add ct__law_add), sl__law_add⟩) (c__law_add : PySem.W.codeIn K cd__law_add "_law_add" = true) (k__law_add : PySem.W.keepIn K (.ref f__law_add) = true)
    (a__law_less : PySem.W.nsIn K mainGlobals "_law_less" = some (some (.ref f__law_less))) (l__law_less : K.lookup f__law_less = some ⟨oc__law_less, od__law_less, .func (PySem.W.fnOf "_law_less" "_law_less" (defArgs s__law_less) (defBody s__law_less) (defScope s__law_less) .none kV__law_less dc__law_less pm__law_less an__law_less cd__law_less ct__law_less), sl__law_less⟩) (c__law_less : PySem.W.codeIn K cd__law_less "_law_less" = true) (k__law_less : PySem.W.keepIn K (.ref f__law_less) = true)
    (a__law_mul : PySem.W.nsIn K mainGlobals "_law_mul" = some (some (.ref f__law_mul))) (l__law_mul : K.lookup f__law_mul = some ⟨oc__law_mul, od__law_mul, .func (PySem.W.fnOf "_law_mul" "_law_mul" (defArgs s__law_mul) (defBody s__law_mul) (defScope s__law_mul) .none kV__law_mul dc__law_mul pm__law_mul an__law_mul cd__law_mul ct__law_mul), sl__law_mul⟩) (c__law_mul : PySem.W.codeIn K cd__law_mul "_law_mul" = true) (k__law_mul : PySem.W.keepIn K (.ref f__law_mul) = true)
    (a__law_is_below : PySem.W.nsIn K mainGlobals "_law_is_below" = some (some (.ref f__law_is_below))) (l__law_is_below : K.lookup f__law_is_below = some ⟨oc__law_is_below, od__law_is_below, .func (PySem.W.fnOf "_law_is_below" "_law_is_below" (defArgs s__law_is_below) (defBody s__law_is_below) (defScope s__law_is_below) .none kV__law_is_below dc__law_is_below pm__law_is_below an__law_is_below cd__law_is_below ct__law_is_below), sl__law_is_below⟩) (c__law_is_below : PySem.W.codeIn K cd__law_is_below "_law_is_below" = true) (k__law_is_below : PySem.W.keepIn K (.ref f__law_is_below) = true)
    (a__law_is_amount : PySem.W.nsIn K mainGlobals "_law_is_amount" = some (some (.ref f__law_is_amount))) (l__law_is_amount : K.lookup f__law_is_amount = some ⟨oc__law_is_amount, od__law_is_amount, .func (PySem.W.fnOf "_law_is_amount" "_law_is_amount" (defArgs s__law_is_amount) (defBody s__law_is_amount) (defScope s__law_is_amount) .none kV__law_is_amount dc__law_is_amount pm__law_is_amount an__law_is_amount cd__law_is_amount ct__law_is_amount), sl__law_is_amount⟩) (c__law_is_amount : PySem.W.codeIn K cd__law_is_amount "_law_is_amount" = true) (k__law_is_amount : PySem.W.keepIn K (.ref f__law_is_amount) = true)
    (a__law_is_number : PySem.W.nsIn K mainGlobals "_law_is_number" = some (some (.ref f__law_is_number))) (l__law_is_number : K.lookup f__law_is_number = some ⟨oc__law_is_number, od__law_is_number, .func (PySem.W.fnOf "_law_is_number" "_law_is_number" (defArgs s__law_is_number) (defBody s__law_is_number) (defScope s__law_is_number) .none kV__law_is_number dc__law_is_number pm__law_is_number an__law_is_number cd__law_is_number ct__law_is_number), sl__law_is_number⟩) (c__law_is_number : PySem.W.codeIn K cd__law_is_number "_law_is_number" = true) (k__law_is_number : PySem.W.keepIn K (.ref f__law_is_number) = true)
    (a__law_amount : PySem.W.nsIn K mainGlobals "_law_amount" = some (some (.ref f__law_amount))) (l__law_amount : K.lookup f__law_amount = some ⟨oc__law_amount, od__law_amount, .func (PySem.W.fnOf "_law_amount" "_law_amount" (defArgs s__law_amount) (defBody s__law_amount) (defScope s__law_amount) .none kV__law_amount dc__law_amount pm__law_amount an__law_amount cd__law_amount ct__law_amount), sl__law_amount⟩) (c__law_amount : PySem.W.codeIn K cd__law_amount "_law_amount" = true) (k__law_amount : PySem.W.keepIn K (.ref f__law_amount) = true)
    (a__law_shop : PySem.W.nsIn K mainGlobals "_law_shop" = some (some (.ref f__law_shop))) (l__law_shop : K.lookup f__law_shop = some ⟨oc__law_shop, od__law_shop, .func (PySem.W.fnOf "_law_shop" "_law_shop" (defArgs s__law_shop) (defBody s__law_shop) (defScope s__law_shop) .none kV__law_shop dc__law_shop pm__law_shop an__law_shop cd__law_shop ct__law_shop), sl__law_shop⟩) (c__law_shop : PySem.W.codeIn K cd__law_shop "_law_shop" = true) (k__law_shop : PySem.W.keepIn K (.ref f__law_shop) = true)
    (a__law_drawn_schedule : PySem.W.nsIn K mainGlobals "_law_drawn_schedule" = some (some (.ref f__law_drawn_schedule))) (l__law_drawn_schedule : K.lookup f__law_drawn_schedule = some ⟨oc__law_drawn_schedule, od__law_drawn_schedule, .func (PySem.W.fnOf "_law_drawn_schedule" "_law_drawn_schedule" (defArgs s__law_drawn_schedule) (defBody s__law_drawn_schedule) (defScope s__law_drawn_schedule) .none kV__law_drawn_schedule dc__law_drawn_schedule pm__law_drawn_schedule an__law_drawn_schedule cd__law_drawn_schedule ct__law_drawn_schedule), sl__law_drawn_schedule⟩) (c__law_drawn_schedule : PySem.W.codeIn K cd__law_drawn_schedule "_law_drawn_schedule" = true) (k__law_drawn_schedule : PySem.W.keepIn K (.ref f__law_drawn_schedule) = true)
    (a__law_led : PySem.W.nsIn K mainGlobals "_law_led" = some (some (.ref f__law_led))) (l__law_led : K.lookup f__law_led = some ⟨oc__law_led, od__law_led, .func (PySem.W.fnOf "_law_led" "_law_led" (defArgs s__law_led) (defBody s__law_led) (defScope s__law_led) .none kV__law_led dc__law_led pm__law_led an__law_led cd__law_led ct__law_led), sl__law_led⟩) (c__law_led : PySem.W.codeIn K cd__law_led "_law_led" = true) (k__law_led : PySem.W.keepIn K (.ref f__law_led) = true)
    (a__law_is_schedule : PySem.W.nsIn K mainGlobals "_law_is_schedule" = some (some (.ref f__law_is_schedule))) (l__law_is_schedule : K.lookup f__law_is_schedule = some ⟨oc__law_is_schedule, od__law_is_schedule, .func (PySem.W.fnOf "_law_is_schedule" "_law_is_schedule" (defArgs s__law_is_schedule) (defBody s__law_is_schedule) (defScope s__law_is_schedule) .none kV__law_is_schedule dc__law_is_schedule pm__law_is_schedule an__law_is_schedule cd__law_is_schedule ct__law_is_schedule), sl__law_is_schedule⟩) (c__law_is_schedule : PySem.W.codeIn K cd__law_is_schedule "_law_is_schedule" = true) (k__law_is_schedule : PySem.W.keepIn K (.ref f__law_is_schedule) = true)
    (a__law_orders : PySem.W.nsIn K mainGlobals "_law_orders" = some (some (.ref f__law_orders))) (l__law_orders : K.lookup f__law_orders = some ⟨oc__law_orders, od__law_orders, .func (PySem.W.fnOf "_law_orders" "_law_orders" (defArgs s__law_orders) (defBody s__law_orders) (defScope s__law_orders) .none kV__law_orders dc__law_orders pm__law_orders an__law_orders cd__law_orders ct__law_orders), sl__law_orders⟩) (c__law_orders : PySem.W.codeIn K cd__law_orders "_law_orders" = true) (k__law_orders : PySem.W.keepIn K (.ref f__law_orders) = true)
    (a__law_lesser : PySem.W.nsIn K mainGlobals "_law_lesser" = some (some (.ref f__law_lesser))) (l__law_lesser : K.lookup f__law_lesser = some ⟨oc__law_lesser, od__law_lesser, .func (PySem.W.fnOf "_law_lesser" "_law_lesser" (defArgs s__law_lesser) (defBody s__law_lesser) (defScope s__law_lesser) .none kV__law_lesser dc__law_lesser pm__law_lesser an__law_lesser cd__law_lesser ct__law_lesser), sl__law_lesser⟩) (c__law_lesser : PySem.W.codeIn K cd__law_lesser "_law_lesser" = true) (k__law_lesser : PySem.W.keepIn K (.ref f__law_lesser) = true)
    (a__law_made_case : PySem.W.nsIn K mainGlobals "_law_made_case" = some (some (.ref f__law_made_case))) (l__law_made_case : K.lookup f__law_made_case = some ⟨oc__law_made_case, od__law_made_case, .func (PySem.W.fnOf "_law_made_case" "_law_made_case" (defArgs s__law_made_case) (defBody s__law_made_case) (defScope s__law_made_case) .none kV__law_made_case dc__law_made_case pm__law_made_case an__law_made_case cd__law_made_case ct__law_made_case), sl__law_made_case⟩) (c__law_made_case : PySem.W.codeIn K cd__law_made_case "_law_made_case" = true) (k__law_made_case : PySem.W.keepIn K (.ref f__law_made_case) = true)
    (a__law_are_amounts : PySem.W.nsIn K mainGlobals "_law_are_amounts" = some (some (.ref f__law_are_amounts))) (l__law_are_amounts : K.lookup f__law_are_amounts = some ⟨oc__law_are_amounts, od__law_are_amounts, .func (PySem.W.fnOf "_law_are_amounts" "_law_are_amounts" (defArgs s__law_are_amounts) (defBody s__law_are_amounts) (defScope s__law_are_amounts) .none kV__law_are_amounts dc__law_are_amounts pm__law_are_amounts an__law_are_amounts cd__law_are_amounts ct__law_are_amounts), sl__law_are_amounts⟩) (c__law_are_amounts : PySem.W.codeIn K cd__law_are_amounts "_law_are_amounts" = true) (k__law_are_amounts : PySem.W.keepIn K (.ref f__law_are_amounts) = true)
    (a__law_is_shop : PySem.W.nsIn K mainGlobals "_law_is_shop" = some (some (.ref f__law_is_shop))) (l__law_is_shop : K.lookup f__law_is_shop = some ⟨oc__law_is_shop, od__law_is_shop, .func (PySem.W.fnOf "_law_is_shop" "_law_is_shop" (defArgs s__law_is_shop) (defBody s__law_is_shop) (defScope s__law_is_shop) .none kV__law_is_shop dc__law_is_shop pm__law_is_shop an__law_is_shop cd__law_is_shop ct__law_is_shop), sl__law_is_shop⟩) (c__law_is_shop : PySem.W.codeIn K cd__law_is_shop "_law_is_shop" = true) (k__law_is_shop : PySem.W.keepIn K (.ref f__law_is_shop) = true)
    (a__law_are_orders : PySem.W.nsIn K mainGlobals "_law_are_orders" = some (some (.ref f__law_are_orders))) (l__law_are_orders : K.lookup f__law_are_orders = some ⟨oc__law_are_orders, od__law_are_orders, .func (PySem.W.fnOf "_law_are_orders" "_law_are_orders" (defArgs s__law_are_orders) (defBody s__law_are_orders) (defScope s__law_are_orders) .none kV__law_are_orders dc__law_are_orders pm__law_are_orders an__law_are_orders cd__law_are_orders ct__law_are_orders), sl__law_are_orders⟩) (c__law_are_orders : PySem.W.codeIn K cd__law_are_orders "_law_are_orders" = true) (k__law_are_orders : PySem.W.keepIn K (.ref f__law_are_orders) = true)
    (a__law_odd : PySem.W.nsIn K mainGlobals "_law_odd" = some (some (.ref f__law_odd))) (l__law_odd : K.lookup f__law_odd = some ⟨oc__law_odd, od__law_odd, .func (PySem.W.fnOf "_law_odd" "_law_odd" (defArgs s__law_odd) (defBody s__law_odd) (defScope s__law_odd) .none kV__law_odd dc__law_odd pm__law_odd an__law_odd cd__law_odd ct__law_odd), sl__law_odd⟩) (c__law_odd : PySem.W.codeIn K cd__law_odd "_law_odd" = true) (k__law_odd : PySem.W.keepIn K (.ref f__law_odd) = true)
    (a__law_bent : PySem.W.nsIn K mainGlobals "_law_bent" = some (some (.ref f__law_bent))) (l__law_bent : K.lookup f__law_bent = some ⟨oc__law_bent, od__law_bent, .func (PySem.W.fnOf "_law_bent" "_law_bent" (defArgs s__law_bent) (defBody s__law_bent) (defScope s__law_bent) .none kV__law_bent dc__law_bent pm__law_bent an__law_bent cd__law_bent ct__law_bent), sl__law_bent⟩) (c__law_bent : PySem.W.codeIn K cd__law_bent "_law_bent" = true) (k__law_bent : PySem.W.keepIn K (.ref f__law_bent) = true)
    (a__law_lack : PySem.W.nsIn K mainGlobals "_law_lack" = some (some (.ref f__law_lack))) (l__law_lack : K.lookup f__law_lack = some ⟨oc__law_lack, od__law_lack, .func (PySem.W.fnOf "_law_lack" "_law_lack" (defArgs s__law_lack) (defBody s__law_lack) (defScope s__law_lack) .none kV__law_lack dc__law_lack pm__law_lack an__law_lack cd__law_lack ct__law_lack), sl__law_lack⟩) (c__law_lack : PySem.W.codeIn K cd__law_lack "_law_lack" = true) (k__law_lack : PySem.W.keepIn K (.ref f__law_lack) = true)
    (a__law_is_led : PySem.W.nsIn K mainGlobals "_law_is_led" = some (some (.ref f__law_is_led))) (l__law_is_led : K.lookup f__law_is_led = some ⟨oc__law_is_led, od__law_is_led, .func (PySem.W.fnOf "_law_is_led" "_law_is_led" (defArgs s__law_is_led) (defBody s__law_is_led) (defScope s__law_is_led) .none kV__law_is_led dc__law_is_led pm__law_is_led an__law_is_led cd__law_is_led ct__law_is_led), sl__law_is_led⟩) (c__law_is_led : PySem.W.codeIn K cd__law_is_led "_law_is_led" = true) (k__law_is_led : PySem.W.keepIn K (.ref f__law_is_led) = true)
    (a__law_are_judged : PySem.W.nsIn K mainGlobals "_law_are_judged" = some (some (.ref f__law_are_judged))) (l__law_are_judged : K.lookup f__law_are_judged = some ⟨oc__law_are_judged, od__law_are_judged, .func (PySem.W.fnOf "_law_are_judged" "_law_are_judged" (defArgs s__law_are_judged) (defBody s__law_are_judged) (defScope s__law_are_judged) .none kV__law_are_judged dc__law_are_judged pm__law_are_judged an__law_are_judged cd__law_are_judged ct__law_are_judged), sl__law_are_judged⟩) (c__law_are_judged : PySem.W.codeIn K cd__law_are_judged "_law_are_judged" = true) (k__law_are_judged : PySem.W.keepIn K (.ref f__law_are_judged) = true)
    (a_law : PySem.W.nsIn K mainGlobals "law" = some (some (.ref f_law))) (l_law : K.lookup f_law = some ⟨oc_law, od_law, .func (PySem.W.fnOf "law" "law" (defArgs s_law) (defBody s_law) (defScope s_law) .none kV_law dc_law pm_law an_law cd_law ct_law), sl_law⟩) (c_law : PySem.W.codeIn K cd_law "law" = true) (k_law : PySem.W.keepIn K (.ref f_law) = true)
    : Fx K mg := ⟨PySem.W.mg_none_of X G z_abs,
    PySem.W.mg_none_of X G z_all,
    PySem.W.mg_none_of X G z_any,
    PySem.W.mg_none_of X G z_bool,
    PySem.W.mg_none_of X G z_enumerate,
    PySem.W.mg_none_of X G z_int,
    PySem.W.mg_none_of X G z_isinstance,
    PySem.W.mg_none_of X G z_len,
    PySem.W.mg_none_of X G z_list,
    PySem.W.mg_none_of X G z_range,
    PySem.W.mg_none_of X G z_repr,
    PySem.W.mg_none_of X G z_tuple,
    PySem.W.mg_none_of X G z_zip,
    CAt.tup (PySem.W.mg_of X G ka_ZERO) kl_ZERO kv_ZERO (reps_ints [0, 1]),
    CAt.int (PySem.W.mg_of X G ka_MOST_TAKE),
    CAt.int (PySem.W.mg_of X G ka_MOST_METHODS),
    CAt.int (PySem.W.mg_of X G ka_MOST_GOODS),
    CAt.int (PySem.W.mg_of X G ka_MOST_DAYS),
    CAt.int (PySem.W.mg_of X G ka_MOST_ORDERS),
    DAt.mk (PySem.W.mg_of X G a_is_integer) k_is_integer (fun_mk l_is_integer c_is_integer k_is_integer) (fun _ _ _ _ _ _ us hl => match us, hl with | [_], _ => rfl),
    DAt.mk (PySem.W.mg_of X G a_is_sized) k_is_sized (fun_mk l_is_sized c_is_sized k_is_sized) (fun _ _ _ _ _ _ us hl => match us, hl with | [_, _, _], _ => rfl),
    DAt.mk (PySem.W.mg_of X G a_common) k_common (fun_mk l_common c_common k_common) (fun _ _ _ _ _ _ us hl => match us, hl with | [_, _], _ => rfl),
    DAt.mk (PySem.W.mg_of X G a_share) k_share (fun_mk l_share c_share k_share) (fun _ _ _ _ _ _ us hl => match us, hl with | [_, _], _ => rfl),
    DAt.mk (PySem.W.mg_of X G a_is_share) k_is_share (fun_mk l_is_share c_is_share k_is_share) (fun _ _ _ _ _ _ us hl => match us, hl with | [_], _ => rfl),
    DAt.mk (PySem.W.mg_of X G a_plus) k_plus (fun_mk l_plus c_plus k_plus) (fun _ _ _ _ _ _ us hl => match us, hl with | [_, _], _ => rfl),
    DAt.mk (PySem.W.mg_of X G a_minus) k_minus (fun_mk l_minus c_minus k_minus) (fun _ _ _ _ _ _ us hl => match us, hl with | [_, _], _ => rfl),
    DAt.mk (PySem.W.mg_of X G a_times) k_times (fun_mk l_times c_times k_times) (fun _ _ _ _ _ _ us hl => match us, hl with | [_, _], _ => rfl),
    DAt.mk (PySem.W.mg_of X G a_is_less) k_is_less (fun_mk l_is_less c_is_less k_is_less) (fun _ _ _ _ _ _ us hl => match us, hl with | [_, _], _ => rfl),
    DAt.mk (PySem.W.mg_of X G a_summed) k_summed (fun_mk l_summed c_summed k_summed) (fun _ _ _ _ _ _ us hl => match us, hl with | [_], _ => rfl),
    DAt.mk (PySem.W.mg_of X G a_is_integer_1) k_is_integer_1 (fun_mk l_is_integer_1 c_is_integer_1 k_is_integer_1) (fun _ _ _ _ _ _ us hl => match us, hl with | [_], _ => rfl),
    DAt.mk (PySem.W.mg_of X G a_is_within) k_is_within (fun_mk l_is_within c_is_within k_is_within) (fun _ _ _ _ _ _ us hl => match us, hl with | [_, _, _], _ => rfl),
    DAt.mk (PySem.W.mg_of X G a_is_sized_1) k_is_sized_1 (fun_mk l_is_sized_1 c_is_sized_1 k_is_sized_1) (fun _ _ _ _ _ _ us hl => match us, hl with | [_, _, _], _ => rfl),
    DAt.mk (PySem.W.mg_of X G a_is_amount) k_is_amount (fun_mk l_is_amount c_is_amount k_is_amount) (fun _ _ _ _ _ _ us hl => match us, hl with | [_], _ => rfl),
    DAt.mk (PySem.W.mg_of X G a_are_amounts) k_are_amounts (fun_mk l_are_amounts c_are_amounts k_are_amounts) (fun _ _ _ _ _ _ us hl => match us, hl with | [_, _], _ => rfl),
    DAt.mk (PySem.W.mg_of X G a_is_making) k_is_making (fun_mk l_is_making c_is_making k_is_making) (fun _ _ _ _ _ _ us hl => match us, hl with | [_, _], _ => rfl),
    DAt.mk (PySem.W.mg_of X G a_is_shop) k_is_shop (fun_mk l_is_shop c_is_shop k_is_shop) (fun _ _ _ _ _ _ us hl => match us, hl with | [_], _ => rfl),
    DAt.mk (PySem.W.mg_of X G a_check_shop) k_check_shop (fun_mk l_check_shop c_check_shop k_check_shop) (fun _ _ _ _ _ _ us hl => match us, hl with | [_], _ => rfl),
    DAt.mk (PySem.W.mg_of X G a_is_order) k_is_order (fun_mk l_is_order c_is_order k_is_order) (fun _ _ _ _ _ _ us hl => match us, hl with | [_, _], _ => rfl),
    DAt.mk (PySem.W.mg_of X G a_are_orders_of) k_are_orders_of (fun_mk l_are_orders_of c_are_orders_of k_are_orders_of) (fun _ _ _ _ _ _ us hl => match us, hl with | [_, _], _ => rfl),
    DAt.mk (PySem.W.mg_of X G a_are_orders) k_are_orders (fun_mk l_are_orders c_are_orders k_are_orders) (fun _ _ _ _ _ _ us hl => match us, hl with | [_, _], _ => rfl),
    DAt.mk (PySem.W.mg_of X G a_check_orders) k_check_orders (fun_mk l_check_orders c_check_orders k_check_orders) (fun _ _ _ _ _ _ us hl => match us, hl with | [_, _], _ => rfl),
    DAt.mk (PySem.W.mg_of X G a_is_schedule_of) k_is_schedule_of (fun_mk l_is_schedule_of c_is_schedule_of k_is_schedule_of) (fun _ _ _ _ _ _ us hl => match us, hl with | [_, _], _ => rfl),
    DAt.mk (PySem.W.mg_of X G a_is_schedule) k_is_schedule (fun_mk l_is_schedule c_is_schedule k_is_schedule) (fun _ _ _ _ _ _ us hl => match us, hl with | [_, _], _ => rfl),
    DAt.mk (PySem.W.mg_of X G a_check_schedule) k_check_schedule (fun_mk l_check_schedule c_check_schedule k_check_schedule) (fun _ _ _ _ _ _ us hl => match us, hl with | [_, _, _], _ => rfl),
    DAt.mk (PySem.W.mg_of X G a_change) k_change (fun_mk l_change c_change k_change) (fun _ _ _ _ _ _ us hl => match us, hl with | [_, _, _, _], _ => rfl),
    DAt.mk (PySem.W.mg_of X G a_due_on) k_due_on (fun_mk l_due_on c_due_on k_due_on) (fun _ _ _ _ _ _ us hl => match us, hl with | [_, _, _], _ => rfl),
    DAt.mk (PySem.W.mg_of X G a_led_by) k_led_by (fun_mk l_led_by c_led_by k_led_by) (fun _ _ _ _ _ _ us hl => match us, hl with | [_, _, _], _ => rfl),
    DAt.mk (PySem.W.mg_of X G a_led_shop) k_led_shop (fun_mk l_led_shop c_led_shop k_led_shop) (fun _ _ _ _ _ _ us hl => match us, hl with | [_, _, _], _ => rfl),
    DAt.mk (PySem.W.mg_of X G a_lack_in) k_lack_in (fun_mk l_lack_in c_lack_in k_lack_in) (fun _ _ _ _ _ _ us hl => match us, hl with | [_, _, _], _ => rfl),
    DAt.mk (PySem.W.mg_of X G a_first_lack) k_first_lack (fun_mk l_first_lack c_first_lack k_first_lack) (fun _ _ _ _ _ _ us hl => match us, hl with | [_, _, _], _ => rfl),
    DAt.mk (PySem.W.mg_of X G a__law_hand) k__law_hand (fun_mk l__law_hand c__law_hand k__law_hand) (fun _ _ _ _ _ _ us hl => match us, hl with | [_], _ => rfl),
    DAt.mk (PySem.W.mg_of X G a__law_draw) k__law_draw (fun_mk l__law_draw c__law_draw k__law_draw) (fun _ _ _ _ _ _ us hl => match us, hl with | [_, _], _ => rfl),
    DAt.mk (PySem.W.mg_of X G a__law_any) k__law_any (fun_mk l__law_any c__law_any k__law_any) (fun _ _ _ _ _ _ us hl => match us, hl with | [_, _], _ => rfl),
    DAt.mk (PySem.W.mg_of X G a__law_low) k__law_low (fun_mk l__law_low c__law_low k__law_low) (fun _ _ _ _ _ _ us hl => match us, hl with | [_, _], _ => rfl),
    DAt.mk (PySem.W.mg_of X G a__law_add) k__law_add (fun_mk l__law_add c__law_add k__law_add) (fun _ _ _ _ _ _ us hl => match us, hl with | [_, _], _ => rfl),
    DAt.mk (PySem.W.mg_of X G a__law_less) k__law_less (fun_mk l__law_less c__law_less k__law_less) (fun _ _ _ _ _ _ us hl => match us, hl with | [_, _], _ => rfl),
    DAt.mk (PySem.W.mg_of X G a__law_mul) k__law_mul (fun_mk l__law_mul c__law_mul k__law_mul) (fun _ _ _ _ _ _ us hl => match us, hl with | [_, _], _ => rfl),
    DAt.mk (PySem.W.mg_of X G a__law_is_below) k__law_is_below (fun_mk l__law_is_below c__law_is_below k__law_is_below) (fun _ _ _ _ _ _ us hl => match us, hl with | [_, _], _ => rfl),
    DAt.mk (PySem.W.mg_of X G a__law_is_amount) k__law_is_amount (fun_mk l__law_is_amount c__law_is_amount k__law_is_amount) (fun _ _ _ _ _ _ us hl => match us, hl with | [_], _ => rfl),
    DAt.mk (PySem.W.mg_of X G a__law_is_number) k__law_is_number (fun_mk l__law_is_number c__law_is_number k__law_is_number) (fun _ _ _ _ _ _ us hl => match us, hl with | [_, _, _], _ => rfl),
    DAt.mk (PySem.W.mg_of X G a__law_amount) k__law_amount (fun_mk l__law_amount c__law_amount k__law_amount) (fun _ _ _ _ _ _ us hl => match us, hl with | [_, _], _ => rfl),
    DAt.mk (PySem.W.mg_of X G a__law_shop) k__law_shop (fun_mk l__law_shop c__law_shop k__law_shop) (fun _ _ _ _ _ _ us hl => match us, hl with | [_, _, _, _], _ => rfl),
    DAt.mk (PySem.W.mg_of X G a__law_drawn_schedule) k__law_drawn_schedule (fun_mk l__law_drawn_schedule c__law_drawn_schedule k__law_drawn_schedule) (fun _ _ _ _ _ _ us hl => match us, hl with | [_, _], _ => rfl),
    DAt.mk (PySem.W.mg_of X G a__law_led) k__law_led (fun_mk l__law_led c__law_led k__law_led) (fun _ _ _ _ _ _ us hl => match us, hl with | [_, _, _], _ => rfl),
    DAt.mk (PySem.W.mg_of X G a__law_is_schedule) k__law_is_schedule (fun_mk l__law_is_schedule c__law_is_schedule k__law_is_schedule) (fun _ _ _ _ _ _ us hl => match us, hl with | [_, _], _ => rfl),
    DAt.mk (PySem.W.mg_of X G a__law_orders) k__law_orders (fun_mk l__law_orders c__law_orders k__law_orders) (fun _ _ _ _ _ _ us hl => match us, hl with | [_, _, _, _], _ => rfl),
    DAt.mk (PySem.W.mg_of X G a__law_lesser) k__law_lesser (fun_mk l__law_lesser c__law_lesser k__law_lesser) (fun _ _ _ _ _ _ us hl => match us, hl with | [_, _], _ => rfl),
    DAt.mk (PySem.W.mg_of X G a__law_made_case) k__law_made_case (fun_mk l__law_made_case c__law_made_case k__law_made_case) (fun _ _ _ _ _ _ us hl => match us, hl with | [_, _, _, _], _ => rfl),
    DAt.mk (PySem.W.mg_of X G a__law_are_amounts) k__law_are_amounts (fun_mk l__law_are_amounts c__law_are_amounts k__law_are_amounts) (fun _ _ _ _ _ _ us hl => match us, hl with | [_, _], _ => rfl),
    DAt.mk (PySem.W.mg_of X G a__law_is_shop) k__law_is_shop (fun_mk l__law_is_shop c__law_is_shop k__law_is_shop) (fun _ _ _ _ _ _ us hl => match us, hl with | [_], _ => rfl),
    DAt.mk (PySem.W.mg_of X G a__law_are_orders) k__law_are_orders (fun_mk l__law_are_orders c__law_are_orders k__law_are_orders) (fun _ _ _ _ _ _ us hl => match us, hl with | [_, _], _ => rfl),
    DAt.mk (PySem.W.mg_of X G a__law_odd) k__law_odd (fun_mk l__law_odd c__law_odd k__law_odd) (fun _ _ _ _ _ _ us hl => match us, hl with | [_], _ => rfl),
    DAt.mk (PySem.W.mg_of X G a__law_bent) k__law_bent (fun_mk l__law_bent c__law_bent k__law_bent) (fun _ _ _ _ _ _ us hl => match us, hl with | [_, _], _ => rfl),
    DAt.mk (PySem.W.mg_of X G a__law_lack) k__law_lack (fun_mk l__law_lack c__law_lack k__law_lack) (fun _ _ _ _ _ _ us hl => match us, hl with | [_, _, _], _ => rfl),
    DAt.mk (PySem.W.mg_of X G a__law_is_led) k__law_is_led (fun_mk l__law_is_led c__law_is_led k__law_is_led) (fun _ _ _ _ _ _ us hl => match us, hl with | [_, _, _], _ => rfl),
    DAt.mk (PySem.W.mg_of X G a__law_are_judged) k__law_are_judged (fun_mk l__law_are_judged c__law_are_judged k__law_are_judged) (fun _ _ _ _ _ _ us hl => match us, hl with | [_, _, _, _], _ => rfl),
    DAt.mk (PySem.W.mg_of X G a_law) k_law (fun_mk l_law c_law k_law) (fun _ _ _ _ _ _ us hl => match us, hl with | [_], _ => rfl)⟩

end K23
namespace K23
open PySem PySem.Spec PyProof.Rows L2 DL FR
def hnd (cells : List Int) (a r m c : Int) : List D := [.vl (cells.map D.int), .int a, .int r, .int m, .int c]
inductive Hand : List D → Prop where
  | mk (cells : List Int) (a r m c : Int) : (∀ x ∈ cells, 0 ≤ x) → 0 ≤ a → 0 ≤ r → Hand (hnd cells a r m c)
def nF0 (m c : Int) : Int := ((m + 7919 * c) * 48271).fmod 2147483647
def nF1 (m c : Int) : Int := (nF0 m c * ((nF0 m c).fdiv 1009 + 69621)).fmod 2147483647
def nF2 (m c : Int) : Int := (nF1 m c * ((nF1 m c).fdiv 2003 + 40014)).fmod 2147483563
theorem mulO_r (a c : Int) (S : DS) (h : -(2 ^ 64) < c ∧ c < 2 ^ 64) : mulO (.int a) (.int c) S = .ok (.int (a * c)) S := if_pos (.inl (.inr h))
theorem mulO_l (a c : Int) (S : DS) (h : -(2 ^ 64) < a ∧ a < 2 ^ 64) : mulO (.int a) (.int c) S = .ok (.int (a * c)) S := if_pos (.inl (.inl h))
theorem fdivO_s (a c : Int) (S : DS) (h0 : 0 < c) (h : c < 2 ^ 64) : fdivO (.int a) (.int c) S = .ok (.int (a.fdiv c)) S :=
  if_pos ⟨by omega, fdiv_small (Nat.lt_of_lt_of_le (show c.natAbs < 2 ^ 64 by omega) (Nat.pow_le_pow_right (by decide) (by decide)))⟩
theorem fmod_lo (a : Int) {b : Int} (h : 0 < b) : 0 ≤ a.fmod b := Int.fmod_nonneg_of_pos a h
theorem fmod_hi (a : Int) {b : Int} (h : 0 < b) : a.fmod b < b := Int.fmod_lt_of_pos a h
theorem setO_at' (p : Nat) (xs : List D) (S : DS) (k : Nat) (v : D) (h : S[p]? = some (DO.lst xs)) (hk : k < xs.length) : setO (.ref p) (.int (k : Nat)) v S = .ok () (S.set p (.lst (xs.set k v))) := by
  show (match S[p]? with
    | some (DO.lst xs) => match ixN xs.length (k : Int) with
      | some j => Ou.ok () (S.set p (.lst (xs.set j v)))
      | none => .no
    | none => .no) = _
  rw [h]
  simp only
  rw [ixN_nat (by omega) (by omega)]
  rfl
section
variable (R : DS) (x0 x1 x2 x3 x4 v : D)
abbrev h5 : DS := .lst [x0, x1, x2, x3, x4] :: R
theorem set5_1 : setO (.ref 0) (.int 1) v (h5 R x0 x1 x2 x3 x4) = .ok () (h5 R x0 v x2 x3 x4) := setO_at' 0 [x0, x1, x2, x3, x4] _ 1 v rfl (by simp)
theorem set5_2 : setO (.ref 0) (.int 2) v (h5 R x0 x1 x2 x3 x4) = .ok () (h5 R x0 x1 v x3 x4) := setO_at' 0 [x0, x1, x2, x3, x4] _ 2 v rfl (by simp)
theorem set5_3 : setO (.ref 0) (.int 3) v (h5 R x0 x1 x2 x3 x4) = .ok () (h5 R x0 x1 x2 v x4) := setO_at' 0 [x0, x1, x2, x3, x4] _ 3 v rfl (by simp)
theorem set5_4 : setO (.ref 0) (.int 4) v (h5 R x0 x1 x2 x3 x4) = .ok () (h5 R x0 x1 x2 x3 v) := setO_at' 0 [x0, x1, x2, x3, x4] _ 4 v rfl (by simp)
end
theorem pow_18 (S : DS) : powO (.int 10) (.int 18) S = .ok (.int 1000000000000000000) S := by
  show (if CPow 10 18 then Ou.ok (D.int (10 ^ (18 : Int).toNat)) S else .no) = _
  rw [if_pos ⟨by decide, by decide, by decide⟩]
  rfl
theorem draw_ok {h : List D} (hh : Hand h) (R : DS) (many : Int) (m0 : 0 < many) (m1 : many ≤ 1000000000000000000) :
    ∃ d h', m_law_draw [.ref 0, .int many] (.lst h :: R) = .ok (.int d) (.lst h' :: R) ∧ Hand h' ∧ 0 ≤ d ∧ d < many := by
  obtain ⟨cells, a, r, m, c, hc, ha, hr⟩ := hh
  have nm : many ≠ 0 := by omega
  have digit : ∀ (r : Int), 0 < r → ∀ S, modO (.int r) (.int many) S = .ok (.int (r.fmod many)) S := fun r _ S => if_pos nm
  have dvd : ∀ (r : Int) S, fdivO (.int r) (.int many) S = .ok (.int (r.fdiv many)) S := fun r S => fdivO_s r many S m0 (by omega)
  have n0 : ∀ m c : Int, 0 ≤ nF0 m c ∧ nF0 m c < 2147483647 := fun m c => ⟨fmod_lo _ (by decide), fmod_hi _ (by decide)⟩
  have n1 : ∀ m c : Int, 0 ≤ nF1 m c ∧ nF1 m c < 2147483647 := fun m c => ⟨fmod_lo _ (by decide), fmod_hi _ (by decide)⟩
  have q1 : ∀ (i : Int) S, mulO (.int 7919) (.int i) S = .ok (.int (7919 * i)) S := fun i S => mulO_l _ _ S (by decide)
  have q2 : ∀ (i : Int) S, mulO (.int i) (.int 48271) S = .ok (.int (i * 48271)) S := fun i S => mulO_r _ _ S (by decide)
  have q3 : ∀ (i : Int) S, mulO (.int i) (.int 69621) S = .ok (.int (i * 69621)) S := fun i S => mulO_r _ _ S (by decide)
  have q4 : ∀ (i : Int) S, mulO (.int i) (.int 40692) S = .ok (.int (i * 40692)) S := fun i S => mulO_r _ _ S (by decide)
  have q5 : ∀ (i : Int) S, fdivO (.int i) (.int 1009) S = .ok (.int (i.fdiv 1009)) S := fun i S => fdivO_s _ _ S (by decide) (by decide)
  have q6 : ∀ (i : Int) S, fdivO (.int i) (.int 2003) S = .ok (.int (i.fdiv 2003)) S := fun i S => fdivO_s _ _ S (by decide) (by decide)
  have q7 : ∀ (i : Int) S, fdivO (.int i) (.int 16) S = .ok (.int (i.fdiv 16)) S := fun i S => fdivO_s _ _ S (by decide) (by decide)
  have q8 : ∀ (m c j : Int) S, mulO (.int (nF0 m c)) (.int j) S = .ok (.int (nF0 m c * j)) S := fun m c j S => mulO_l _ _ S (by have := n0 m c; omega)
  have q9 : ∀ (m c j : Int) S, mulO (.int (nF1 m c)) (.int j) S = .ok (.int (nF1 m c * j)) S := fun m c j S => mulO_l _ _ S (by have := n1 m c; omega)
  have f0 : ∀ m c : Int, ((m + 7919 * c) * 48271).fmod 2147483647 = nF0 m c := fun _ _ => rfl
  have f1 : ∀ m c : Int, (nF0 m c * ((nF0 m c).fdiv 1009 + 69621)).fmod 2147483647 = nF1 m c := fun _ _ => rfl
  have f2 : ∀ m c : Int, (nF1 m c * ((nF1 m c).fdiv 2003 + 40014)).fmod 2147483563 = nF2 m c := fun _ _ => rfl
  have lenC : ∀ S, lenO [.vl (cells.map D.int)] S = .ok (.int (cells.length : Nat)) S := fun S => by rw [lenO_vl, List.length_map]
  have num : ∀ (m c : Int), Hand (hnd cells a 0 m c) → True := fun _ _ _ => trivial
  unfold hnd
  by_cases h1 : r = 0
  · subst h1
    by_cases h2 : a < (cells.length : Int)
    · have hx : cells[a.toNat]? = some (cells.getD a.toNat 0) := by
        rw [List.getD_eq_getElem?_getD, List.getElem?_eq_getElem (by omega)]; rfl
      generalize cells.getD a.toNat 0 = x at hx
      have hx0 := hc x (List.mem_of_getElem? hx)
      have gx : ∀ S, getI (cells.map D.int) a S = .ok (.int x) S := fun S => getI_nat ha (by rw [List.getElem?_map, hx]; rfl)
      by_cases h3 : 1000000000000000000 ≤ x
      · have h4 : 0 < x := by omega
        refine ⟨x.fmod many, hnd cells (a + 1) (x.fdiv many) ((m * 69621 + x * 40692 + 17).fmod 2147483629) c, ?_, ⟨_, _, _, _, _, hc, by omega, Int.fdiv_nonneg (by omega) (by omega)⟩, fmod_lo _ m0, fmod_hi _ m0⟩
        simp only [m_law_draw, defM_at]
        simp [getI_0, getI_1, getI_2, getI_3, getI_4, lenC, h2, gx, set5_1, set5_2, set5_3, set5_4, q3, q4, intO_int, pow_18, h3, h4, digit, dvd, hnd, nm]
      · refine ⟨((nF2 ((m * 69621 + x * 40692 + 17).fmod 2147483629) (c + 1)).fdiv 16).fmod many, hnd cells (a + 1) 0 ((m * 69621 + x * 40692 + 17).fmod 2147483629) (c + 1), ?_, ⟨_, _, _, _, _, hc, by omega, by omega⟩, fmod_lo _ m0, fmod_hi _ m0⟩
        simp only [m_law_draw, defM_at]
        simp [getI_0, getI_1, getI_2, getI_3, getI_4, lenC, h2, gx, set5_1, set5_2, set5_3, set5_4, q1, q2, q3, q4, q5, q6, q7, q8, q9, f0, f1, f2, intO_int, pow_18, h3, dvd, hnd, nm]
    · refine ⟨((nF2 m (c + 1)).fdiv 16).fmod many, hnd cells a 0 m (c + 1), ?_, ⟨_, _, _, _, _, hc, ha, by omega⟩, fmod_lo _ m0, fmod_hi _ m0⟩
      simp only [m_law_draw, defM_at]
      simp [getI_0, getI_1, getI_2, getI_3, getI_4, lenC, h2, set5_1, set5_2, set5_3, set5_4, q1, q2, q3, q4, q5, q6, q7, q8, q9, f0, f1, f2, intO_int, dvd, hnd, nm]
  · have h4 : 0 < r := by omega
    refine ⟨r.fmod many, hnd cells a (r.fdiv many) m c, ?_, ⟨_, _, _, _, _, hc, ha, Int.fdiv_nonneg (by omega) (by omega)⟩, fmod_lo _ m0, fmod_hi _ m0⟩
    simp only [m_law_draw, defM_at]
    simp [getI_0, getI_1, getI_2, getI_3, getI_4, h1, set5_1, set5_2, set5_3, set5_4, intO_int, h4, digit, dvd, hnd, nm]
theorem draw_nat {h : List D} (hh : Hand h) (R : DS) (n : Nat) (m0 : 0 < n) (m1 : n ≤ 1000000000000000000) :
    ∃ (d : Nat) (h' : List D), m_law_draw [.ref 0, .int (n : Nat)] (.lst h :: R) = .ok (.int (d : Nat)) (.lst h' :: R) ∧ Hand h' ∧ d < n := by
  obtain ⟨d, h', e, hh', d0, d1⟩ := draw_ok hh R (n : Nat) (by omega) (by omega)
  exact ⟨d.toNat, h', by rw [Int.toNat_of_nonneg d0]; exact e, hh', by omega⟩
theorem any_ok {h : List D} (hh : Hand h) (R : DS) (xs : List D) (h0 : xs ≠ []) (h1 : xs.length ≤ 1000) :
    ∃ x h', m_law_any [.ref 0, .vl xs] (.lst h :: R) = .ok x (.lst h' :: R) ∧ Hand h' ∧ x ∈ xs := by
  have hp : 0 < xs.length := List.length_pos_iff.mpr h0
  obtain ⟨d, h', e, hh', d0, d1⟩ := draw_ok hh R (xs.length : Nat) (by omega) (by omega)
  obtain ⟨x, hx⟩ : ∃ x, xs[d.toNat]? = some x := ⟨xs[d.toNat]'(by omega), List.getElem?_eq_getElem (by omega)⟩
  refine ⟨x, h', ?_, hh', List.mem_of_getElem? hx⟩
  have g : ∀ S, getI xs d S = .ok x S := fun S => getI_nat d0 hx
  simp only [m_law_any, defM_at]
  simp [lenO_vl, e, g]
end K23

namespace K23
open PySem PySem.Spec PyProof.Rows L2 DL FR
/-! the law's own fractions -/
theorem m_integer : m_is_integer = FR.is_integer := rfl
theorem m_integer1 : m_is_integer_1 = FR.is_integer := rfl
theorem m_sized : m_is_sized = FR.is_sized := rfl
theorem m_sized1 : m_is_sized_1 = FR.is_sized := rfl
theorem m_within : m_is_within = FR.is_within := rfl
theorem m_common_ : m_common = FR.common := rfl
theorem m_share_ : m_share = FR.share := rfl
theorem m_is_share_ : m_is_share = FR.is_share := rfl
theorem m_plus_ : m_plus = FR.plus := rfl
theorem m_minus_ : m_minus = FR.minus := rfl
theorem m_times_ : m_times = FR.times := rfl
theorem m_summed_ : m_summed = FR.summed := rfl
theorem m_amount : m_is_amount = FR.is_amount := rfl
theorem m_amounts : m_are_amounts = FR.are_amounts := rfl
abbrev cG : MT := mT (m2 gtO (mV 3) (mC (.int 0)))
abbrev gB : MS := mPar 2 3 (maC (mV 3) (maC (m2 modO (mL intO (maC (mV 2) maN)) (mV 3)) maN))
theorem low_loop (x y : Option D) (S : DS) : ∀ (b a : Nat), mWhile cG gB [x, y, some (.int a), some (.int b)] S = .ok (.nx, [x, y, some (.int (Nat.gcd a b : Nat)), some (.int 0)]) S := by
  intro b
  induction b using Nat.strongRecOn with
  | _ b ih =>
    intro a
    rw [mWhile_eq]
    by_cases h0 : b = 0
    · subst h0
      simp
    · obtain ⟨n, en, hn, hg⟩ := FR.fmod_nat a (b := b) (by omega)
      have := ih n hn b
      have p : (0 : Int) < (b : Int) := by omega
      have p2 : 0 < b := by omega
      simp [h0, p, p2, en, intO_int]
      rw [this]
      rw [Nat.gcd_comm b n, hg]
      simp
theorem absO_abs (a : Int) (S : DS) : absO [.int a] S = .ok (.int (a.natAbs : Nat)) S := by
  show Ou.ok (D.int (if a < 0 then -a else a)) S = _
  have : (if a < 0 then -a else a) = (a.natAbs : Int) := by split <;> omega
  rw [this]
theorem low_raw (t : Int) {b : Nat} (S : DS) (h0 : 0 < b) (h : Div t b) : m_law_low [.int t, .int (b : Nat)] S = .ok (.tup [.int (t / (Nat.gcd t.natAbs b : Nat)), .int ((b : Int) / (Nat.gcd t.natAbs b : Nat))]) S := by
  have hg : 0 < Nat.gcd t.natAbs b := Nat.gcd_pos_of_pos_right _ h0
  have d1 := fdivO_of (a := t) (b := (Nat.gcd t.natAbs b : Nat)) S (by omega) h.1
  have d2 := fdivO_of (a := (b : Nat)) (b := (Nat.gcd t.natAbs b : Nat)) S (by omega) h.2
  have w := low_loop (some (.int t)) (some (.int (b : Nat))) S b t.natAbs
  simp only [m_law_low, defM_at]
  simp [absO_abs]
  rw [w]
  simp [d1, d2, tupO]
theorem low_ok {t : Int} {b : Nat} (S : DS) (h0 : 0 < b) (h : Div t b) : m_law_low [.int t, .int (b : Nat)] S = .ok (enc (mkRat t b)) S := by
  have e : enc (mkRat t b) = .tup [.int (t / (Nat.gcd t.natAbs b : Nat)), .int ((b : Int) / (Nat.gcd t.natAbs b : Nat))] := by
    unfold enc
    rw [Rat.num_mkRat, Rat.den_mkRat, if_neg (by omega), if_neg (by omega), Nat.gcd_comm b]
    rfl
  rw [e]
  exact low_raw t S h0 h
section
variable {p q : Rat} (S : DS)
theorem add_ok (h : Two p q) : m_law_add [enc p, enc q] S = .ok (enc (p + q)) S := by
  have so := low_ok S (Nat.mul_pos (den_pos p) (den_pos q)) (div_plus h)
  rw [← add_mk] at so
  simp only [m_law_add, defM_at]
  rw [startE_at]
  simp only [mRet_at, mL_at, maC_at, maN_at, m2_at, mV_at, mC_at, m2K_ok, m2J_ok, List.map_cons, List.map_nil, List.length_cons, List.length_nil, Nat.reduceAdd, Nat.reduceSub, List.reduceReplicate, if_true, List.cons_append, List.nil_append, List.getElem?_cons_zero, List.getElem?_cons_succ, enc0, enc1, maK_ok, maJ_ok, addO_int, bind_ok, m_nd S h, m_nd S h.symm, m_dd S h, so, retK_ok, retO_rt]
theorem less_ok (h : Two p q) : m_law_less [enc p, enc q] S = .ok (enc (p - q)) S := by
  have so := low_ok (t := p.num * q.den - q.num * p.den) S (Nat.mul_pos (den_pos p) (den_pos q)) (by
    have := div_plus h.neg
    rw [Rat.neg_num, Rat.neg_den] at this
    rw [show p.num * q.den - q.num * p.den = p.num * q.den + -q.num * p.den by rw [Int.neg_mul]; omega]
    exact this)
  have e : p - q = mkRat (p.num * q.den - q.num * p.den) (p.den * q.den) := by
    rw [Rat.sub_eq_add_neg, add_mk, Rat.neg_num, Rat.neg_den, Int.neg_mul, ← Int.sub_eq_add_neg]
  rw [← e] at so
  simp only [m_law_less, defM_at]
  rw [startE_at]
  simp only [mRet_at, mL_at, maC_at, maN_at, m2_at, mV_at, mC_at, m2K_ok, m2J_ok, List.map_cons, List.map_nil, List.length_cons, List.length_nil, Nat.reduceAdd, Nat.reduceSub, List.reduceReplicate, if_true, List.cons_append, List.nil_append, List.getElem?_cons_zero, List.getElem?_cons_succ, enc0, enc1, maK_ok, maJ_ok, subO_int, bind_ok, m_nd S h, m_nd S h.symm, m_dd S h, so, retK_ok, retO_rt]
theorem mul_ok (h : Two p q) : m_law_mul [enc p, enc q] S = .ok (enc (p * q)) S := by
  have so := low_ok S (Nat.mul_pos (den_pos p) (den_pos q)) (div_times h)
  rw [← mul_mk] at so
  simp only [m_law_mul, defM_at]
  rw [startE_at]
  simp only [mRet_at, mL_at, maC_at, maN_at, m2_at, mV_at, mC_at, m2K_ok, m2J_ok, List.map_cons, List.map_nil, List.length_cons, List.length_nil, Nat.reduceAdd, Nat.reduceSub, List.reduceReplicate, if_true, List.cons_append, List.nil_append, List.getElem?_cons_zero, List.getElem?_cons_succ, enc0, enc1, maK_ok, maJ_ok, bind_ok, m_nn S h, m_dd S h, so, retK_ok, retO_rt]
theorem below_ok (h : Two p q) : m_law_is_below [enc p, enc q] S = .ok (.bl (decide (p < q))) S := by
  have e : decide (p.num * (q.den : Int) < q.num * (p.den : Int)) = decide (p < q) := decide_eq_decide.mpr (Rat.lt_iff p q).symm
  simp only [m_law_is_below, defM_at]
  rw [startE_at]
  simp only [mRet_at, mL_at, maC_at, maN_at, m2_at, mV_at, mC_at, m2K_ok, m2J_ok, List.map_cons, List.map_nil, List.length_cons, List.length_nil, Nat.reduceAdd, Nat.reduceSub, List.reduceReplicate, if_true, List.cons_append, List.nil_append, List.getElem?_cons_zero, List.getElem?_cons_succ, enc0, enc1, maK_ok, maJ_ok, bind_ok, m_nd S h, m_nd S h.symm, cmpO_int, e, retK_ok, retO_rt]
theorem m_is_less_ : m_is_less = m_law_is_below := rfl
end
/-! fractions of a common denominator: whole parts of 1/d, no more than v either way -/
def La (d v : Nat) (q : Rat) : Prop := ∃ z : Int, z.natAbs ≤ v * d ∧ q = mkRat z d
theorem mk_mul {z : Int} {d k : Nat} (hk : 0 < k) : mkRat (z * k) (d * k) = mkRat z d := by
  have := Rat.mkRat_mul_right (n := z) (d := d) (a := k) (by omega)
  exact this
theorem La.lift {d v k : Nat} {q : Rat} (hk : 0 < k) (h : La d v q) : La (d * k) v q := by
  obtain ⟨z, hz, rfl⟩ := h
  refine ⟨z * k, ?_, (mk_mul hk).symm⟩
  rw [Int.natAbs_mul, Int.natAbs_natCast, ← Nat.mul_assoc]
  exact Nat.mul_le_mul_right k hz
theorem La.wide {d v w : Nat} {q : Rat} (h : La d v q) (hv : v ≤ w) : La d w q := by
  obtain ⟨z, hz, rfl⟩ := h
  exact ⟨z, Nat.le_trans hz (Nat.mul_le_mul_right d hv), rfl⟩
theorem La.zero (d v : Nat) : La d v 0 := ⟨0, Nat.zero_le _, (Rat.zero_mkRat d).symm⟩
theorem La.add {d v w : Nat} {p q : Rat} (hd : 0 < d) (h : La d v p) (g : La d w q) : La d (v + w) (p + q) := by
  obtain ⟨z, hz, rfl⟩ := h
  obtain ⟨y, hy, rfl⟩ := g
  refine ⟨z + y, ?_, ?_⟩
  · rw [Nat.add_mul]
    exact Nat.le_trans (Int.natAbs_add_le _ _) (Nat.add_le_add hz hy)
  · rw [Rat.mkRat_add_mkRat _ _ (by omega) (by omega), ← Int.add_mul, mk_mul hd]
theorem La.neg {d v : Nat} {q : Rat} (h : La d v q) : La d v (-q) := by
  obtain ⟨z, hz, rfl⟩ := h
  exact ⟨-z, by rw [Int.natAbs_neg]; exact hz, Rat.neg_mkRat _ _⟩
theorem La.sub {d v w : Nat} {p q : Rat} (hd : 0 < d) (h : La d v p) (g : La d w q) : La d (v + w) (p - q) := by
  rw [Rat.sub_eq_add_neg]
  exact h.add hd g.neg
theorem La.mul {d e v w : Nat} {p q : Rat} (h : La d v p) (g : La e w q) : La (d * e) (v * w) (p * q) := by
  obtain ⟨z, hz, rfl⟩ := h
  obtain ⟨y, hy, rfl⟩ := g
  refine ⟨z * y, ?_, Rat.mkRat_mul_mkRat _ _ _ _⟩
  rw [Int.natAbs_mul, Nat.mul_mul_mul_comm]
  exact Nat.mul_le_mul hz hy
theorem La.bd {d v k : Nat} {q : Rat} (hd : 0 < d) (h : La d v q) (h1 : v * d < 2 ^ k) (h2 : d < 2 ^ k) : Bd k q := by
  obtain ⟨z, hz, rfl⟩ := h
  exact mkRat_bd hd (by omega) h2
theorem La.ofNat (n v : Nat) (h : n ≤ v) : La 1 v ((n : Nat) : Rat) := ⟨(n : Nat), by omega, by rw [Rat.mkRat_one]; rfl⟩
end K23

namespace K23
open PySem PySem.Spec PyProof.Rows L2 DL FR
structure Mk where
  g : Nat
  u : List Rat
  t : Nat
  m : Rat
structure Od where
  g : Nat
  a : Rat
  w : Nat
structure Shop where
  n : Nat
  ms : List Mk
  st : List Rat
  dy : Nat
def encMk (x : Mk) : D := .tup [.int (x.g : Nat), encR x.u, .int (x.t : Nat), enc x.m]
def encOd (x : Od) : D := .tup [.int (x.g : Nat), enc x.a, .int (x.w : Nat)]
def encSh (x : Shop) : D := .tup [.int (x.n : Nat), .tup (x.ms.map encMk), encR x.st, .int (x.dy : Nat)]
abbrev encOs (os : List Od) : D := .tup (os.map encOd)
abbrev encSc (sc : List (List Rat)) : D := .tup (sc.map encR)
section
variable (S : DS)
theorem mk0 (x : Mk) : ixO (encMk x) (.int 0) S = .ok (.int (x.g : Nat)) S := FR.getI_0 (.int (x.g : Nat)) [encR x.u, .int (x.t : Nat), enc x.m] S
theorem mk1 (x : Mk) : ixO (encMk x) (.int 1) S = .ok (encR x.u) S := FR.getI_1 (.int (x.g : Nat)) (encR x.u) [.int (x.t : Nat), enc x.m] S
theorem mk2 (x : Mk) : ixO (encMk x) (.int 2) S = .ok (.int (x.t : Nat)) S := FR.getI_2 (.int (x.g : Nat)) (encR x.u) (.int (x.t : Nat)) [enc x.m] S
theorem mk3 (x : Mk) : ixO (encMk x) (.int 3) S = .ok (enc x.m) S := FR.getI_3 (.int (x.g : Nat)) (encR x.u) (.int (x.t : Nat)) (enc x.m) [] S
theorem sh0 (x : Shop) : ixO (encSh x) (.int 0) S = .ok (.int (x.n : Nat)) S := FR.getI_0 (.int (x.n : Nat)) [.tup (x.ms.map encMk), encR x.st, .int (x.dy : Nat)] S
theorem sh1 (x : Shop) : ixO (encSh x) (.int 1) S = .ok (.tup (x.ms.map encMk)) S := FR.getI_1 (.int (x.n : Nat)) (.tup (x.ms.map encMk)) [encR x.st, .int (x.dy : Nat)] S
theorem sh2 (x : Shop) : ixO (encSh x) (.int 2) S = .ok (encR x.st) S := FR.getI_2 (.int (x.n : Nat)) (.tup (x.ms.map encMk)) (encR x.st) [.int (x.dy : Nat)] S
theorem sh3 (x : Shop) : ixO (encSh x) (.int 3) S = .ok (.int (x.dy : Nat)) S := FR.getI_3 (.int (x.n : Nat)) (.tup (x.ms.map encMk)) (encR x.st) (.int (x.dy : Nat)) [] S
theorem od0 (x : Od) : ixO (encOd x) (.int 0) S = .ok (.int (x.g : Nat)) S := FR.getI_0 (.int (x.g : Nat)) [enc x.a, .int (x.w : Nat)] S
theorem od1 (x : Od) : ixO (encOd x) (.int 1) S = .ok (enc x.a) S := FR.getI_1 (.int (x.g : Nat)) (enc x.a) [.int (x.w : Nat)] S
theorem od2 (x : Od) : ixO (encOd x) (.int 2) S = .ok (.int (x.w : Nat)) S := FR.getI_2 (.int (x.g : Nat)) (enc x.a) (.int (x.w : Nat)) [] S
end
/-- drawn numbers: parts of 1/d from 0 to v -/
abbrev Po (d v : Nat) (q : Rat) : Prop := 0 ≤ q ∧ La d v q
theorem enc_nat (a : Nat) : enc ((a : Int) : Rat) = .tup [.int (a : Nat), .int 1] := rfl
theorem mkRat_nn (t b : Nat) : 0 ≤ mkRat (t : Nat) b := by
  rw [← Rat.num_nonneg, Rat.num_mkRat]
  split
  · exact Int.le_refl _
  · exact Int.ediv_nonneg (by omega) (by omega)
theorem amount_ok {h : List D} (hh : Hand h) (R : DS) (w : Nat) (hw : w ≤ 10) : ∃ q h', m_law_amount [.ref 0, .int (w : Nat)] (.lst h :: R) = .ok (enc q) (.lst h' :: R) ∧ Hand h' ∧ Po 12 (2 * w) q := by
  obtain ⟨kd, h1, e1, hh1, k1⟩ := draw_nat hh R 4 (by decide) (by decide)
  have e1' : m_law_draw [.ref 0, .int 4] (.lst h :: R) = .ok (.int (kd : Nat)) (.lst h1 :: R) := e1
  by_cases z0 : kd = 0
  · subst z0
    obtain ⟨a, h2, e2, hh2, a1⟩ := draw_nat hh1 R (2 * w + 1) (by omega) (by omega)
    obtain ⟨b, h3, e3, hh3, b1⟩ := draw_nat hh2 R 4 (by decide) (by decide)
    have e3' : m_law_draw [.ref 0, .int 4] (.lst h2 :: R) = .ok (.int (b : Nat)) (.lst h3 :: R) := e3
    have c1 : ((2 * w + 1 : Nat) : Int) = 2 * (w : Int) + 1 := by omega
    have c2 : (1 + (b : Int)) = ((1 + b : Nat) : Int) := by omega
    rw [c1] at e2
    have m1 : mulO (.int 2) (.int (w : Nat)) (.lst h1 :: R) = .ok (.int (2 * (w : Int))) (.lst h1 :: R) := mulO_l _ _ _ (by decide)
    have lo := low_ok (t := (a : Nat)) (b := 1 + b) (.lst h3 :: R) (by omega) (div_small (Nat.lt_of_le_of_lt (Nat.gcd_le_right _ (by omega)) (Nat.lt_of_lt_of_le (show 1 + b < 2 ^ 3 by omega) (Nat.pow_le_pow_right (by decide) (by decide)))))
    refine ⟨_, h3, ?_, hh3, mkRat_nn a (1 + b), ?_⟩
    · rw [← lo]
      simp only [m_law_amount, defM_at]
      simp [e1', m1, e2, e3']
      rw [c2, lo]
      rfl
    · rcases (show b = 0 ∨ b = 1 ∨ b = 2 ∨ b = 3 by omega) with rfl | rfl | rfl | rfl
      · exact ⟨(a : Int) * (12 : Nat), by omega, (mk_mul (z := (a : Int)) (d := 1) (k := 12) (by decide)).symm⟩
      · exact ⟨(a : Int) * (6 : Nat), by omega, (mk_mul (z := (a : Int)) (d := 2) (k := 6) (by decide)).symm⟩
      · exact ⟨(a : Int) * (4 : Nat), by omega, (mk_mul (z := (a : Int)) (d := 3) (k := 4) (by decide)).symm⟩
      · exact ⟨(a : Int) * (3 : Nat), by omega, (mk_mul (z := (a : Int)) (d := 4) (k := 3) (by decide)).symm⟩
  · obtain ⟨a, h2, e2, hh2, a1⟩ := draw_nat hh1 R (w + 1) (by omega) (by omega)
    have c1 : ((w + 1 : Nat) : Int) = (w : Int) + 1 := by omega
    rw [c1] at e2
    have n0 : ((kd : Int) = 0) = False := eq_false (by omega)
    refine ⟨((a : Int) : Rat), h2, ?_, hh2, ?_, ?_⟩
    · rw [enc_nat]
      simp only [m_law_amount, defM_at]
      simp [e1', z0, n0, e2, tupO]
    · rw [← Rat.num_nonneg]; show (0 : Int) ≤ (a : Int); omega
    · refine ⟨(a : Int) * (12 : Nat), by omega, ?_⟩
      rw [show mkRat ((a : Int) * (12 : Nat)) 12 = mkRat ((a : Int) * (12 : Nat)) (1 * 12) from rfl, mk_mul (by decide), Rat.mkRat_one]
/-- lists that grow by draws -/
theorem grow {α : Type} (en : α → D) (Pd : α → Prop) {mg : MG} {p : MS} {it : Itm} (hg : it.g = none) (R : DS) (E : DE → Prop) : ∀ (ds : List D) (acc : List α) (h : List D) (env : DE) (J : DS), Hand h → E env → acc.length + ds.length ≤ 100 →
    (∀ d ∈ ds, ∀ (acc : List α) (h : List D) (env : DE) (J : DS), Hand h → E env → acc.length ≤ 100 → ∃ a h' env' J', turn mg p d env (.lst h :: (R ++ .lst (acc.map en) :: J)) = .ok (.nx, env') (.lst h' :: (R ++ .lst ((acc ++ [a]).map en) :: J')) ∧ Hand h' ∧ E env' ∧ Pd a) →
    ∃ (as : List α) (h' : List D) (env' : DE) (J' : DS), forL mg p it ds env (.lst h :: (R ++ .lst (acc.map en) :: J)) = .ok (.nx, env') (.lst h' :: (R ++ .lst ((acc ++ as).map en) :: J')) ∧ Hand h' ∧ E env' ∧ as.length = ds.length ∧ ∀ a ∈ as, Pd a := by
  intro ds
  induction ds with
  | nil => exact fun acc h env J hh he _ _ => ⟨[], h, env, J, by rw [forL_nil hg, List.append_nil], hh, he, rfl, by simp⟩
  | cons d ds ih =>
    intro acc h env J hh he hl st
    rw [List.length_cons] at hl
    obtain ⟨a, h1, env1, J1, e1, hh1, he1, pa⟩ := st d (List.mem_cons_self ..) acc h env J hh he (by omega)
    obtain ⟨as, h2, env2, J2, e2, hh2, he2, l2, p2⟩ := ih (acc ++ [a]) h1 env1 J1 hh1 he1 (by simp; omega) fun d hd => st d (List.mem_cons_of_mem _ hd)
    refine ⟨a :: as, h2, env2, J2, ?_, hh2, he2, by simp [l2], ?_⟩
    · rw [forL_cons hg, e1, forN_nx, e2, List.append_assoc]
      rfl
    · intro b hb
      rcases List.mem_cons.mp hb with rfl | hb
      · exact pa
      · exact p2 b hb
/-- a list drawn one by one -/
theorem draws {α : Type} (en : α → D) (Pd : α → Prop) {mg : MG} {el : ME} {env : DE} {it : Itm} (hg : it.g = none) (R : DS) : ∀ (ds acc : List D) (h : List D), Hand h →
    (∀ d ∈ ds, ∀ h, Hand h → ∃ a h', cell mg el d env (.lst h :: R) = .ok (en a) (.lst h' :: R) ∧ Hand h' ∧ Pd a) →
    ∃ (as : List α) (h' : List D), lcL mg mYes el env it ds acc (.lst h :: R) = .ok (acc ++ as.map en) (.lst h' :: R) ∧ Hand h' ∧ as.length = ds.length ∧ ∀ a ∈ as, Pd a := by
  intro ds
  induction ds with
  | nil => exact fun acc h hh _ => ⟨[], h, by rw [lcL_nil hg]; simp, hh, rfl, by simp⟩
  | cons d ds ih =>
    intro acc h hh st
    obtain ⟨a, h1, e1, hh1, pa⟩ := st d (List.mem_cons_self ..) h hh
    obtain ⟨as, h2, e2, hh2, l2, p2⟩ := ih (acc ++ [en a]) h1 hh1 fun d hd => st d (List.mem_cons_of_mem _ hd)
    refine ⟨a :: as, h2, ?_, hh2, by simp [l2], ?_⟩
    · rw [lcL_cons hg ds acc e1, e2]
      simp
    · intro b hb
      rcases List.mem_cons.mp hb with rfl | hb
      · exact pa
      · exact p2 b hb
theorem rng (n : Nat) (hn : n ≤ 1000) (S : DS) : rng1O [.int (n : Nat)] S = .ok ⟨(List.range n).map fun (i : Nat) => D.int (i : Int), none⟩ S := rng1_nat n (by omega)
theorem app_h {R J : DS} {h ys : List D} (y : D) (hl : ys.length ≤ 9000) : appendO (.ref (R.length + 1)) [y] (.lst h :: (R ++ .lst ys :: J)) = .ok .non (.lst h :: (R ++ .lst (ys ++ [y]) :: J)) :=
  app_at (S := .lst h :: R) (J := J) y hl
theorem tup_h {R J : DS} {h ys : List D} : tupleO [.ref (R.length + 1)] (.lst h :: (R ++ .lst ys :: J)) = .ok (.tup ys) (.lst h :: (R ++ .lst ys :: J)) :=
  tupleO_ref (S := .lst h :: R) (J := J)
theorem hand_under {h : List D} (hh : Hand h) (n : Nat) : underO n (.lst h) = true := by
  obtain ⟨cells, a, r, m, c, _, _, _⟩ := hh
  have := unders_map n D.int cells fun _ _ => rfl
  simp [hnd, underO, unders, DL.under, this]
theorem hand_cl {h : List D} (hh : Hand h) {R : DS} (hR : Cl R) : Cl (.lst h :: R) := fun n => by
  rw [List.all_cons, hand_under hh n, hR n]
  rfl
theorem drop_h {R : DS} {h h' : List D} (hh : Hand h') (hR : Cl R) (d : D) (hd : ∀ n, under n d = true) (J : DS) : dropO (R.length + 1) (.ok d (.lst h' :: (R ++ J))) = .ok d (.lst h' :: R) :=
  drop_ok (S := .lst h' :: R) (hand_cl hh hR) d hd J
/-- what stands by a drawn use -/
theorem use_of {x : D} (h : x ∈ [D.tup [.int 0, .int 1], .tup [.int 0, .int 1], .tup [.int 1, .int 1], .tup [.int 1, .int 2], .tup [.int 2, .int 1]]) : ∃ q, x = enc q ∧ Po 2 2 q := by
  simp only [List.mem_cons, List.not_mem_nil, or_false] at h
  rcases h with rfl | rfl | rfl | rfl | rfl
  · exact ⟨mkRat 0 2, rfl, mkRat_nn 0 2, 0, by decide, rfl⟩
  · exact ⟨mkRat 0 2, rfl, mkRat_nn 0 2, 0, by decide, rfl⟩
  · exact ⟨mkRat 2 2, rfl, mkRat_nn 2 2, 2, by decide, rfl⟩
  · exact ⟨mkRat 1 2, rfl, mkRat_nn 1 2, 1, by decide, rfl⟩
  · exact ⟨mkRat 4 2, rfl, mkRat_nn 4 2, 4, by decide, rfl⟩
theorem part_of {x : D} (h : x ∈ [D.tup [.int 0, .int 1], .tup [.int 1, .int 2], .tup [.int 1, .int 1], .tup [.int 1, .int 3]]) : ∃ q, x = enc q ∧ Po 6 1 q ∧ q ≤ 1 := by
  simp only [List.mem_cons, List.not_mem_nil, or_false] at h
  rcases h with rfl | rfl | rfl | rfl
  · exact ⟨mkRat 0 6, rfl, ⟨mkRat_nn 0 6, 0, by decide, rfl⟩, by decide⟩
  · exact ⟨mkRat 3 6, rfl, ⟨mkRat_nn 3 6, 3, by decide, rfl⟩, by decide⟩
  · exact ⟨mkRat 6 6, rfl, ⟨mkRat_nn 6 6, 6, by decide, rfl⟩, by decide⟩
  · exact ⟨mkRat 2 6, rfl, ⟨mkRat_nn 2 6, 2, by decide, rfl⟩, by decide⟩
end K23

namespace K23
open PySem PySem.Spec PyProof.Rows L2 DL FR
structure DMk (n : Nat) (x : Mk) : Prop where
  g : x.g < n
  l : x.u.length = n
  u : ∀ q ∈ x.u, Po 2 2 q
  t0 : 1 ≤ x.t
  t1 : x.t ≤ 3
  m : Po 12 10 x.m
/-- what a shop is, whatever its stocks are -/
structure Sh (x : Shop) : Prop where
  n0 : 1 ≤ x.n
  n1 : x.n ≤ 4
  l0 : 1 ≤ x.ms.length
  l1 : x.ms.length ≤ 6
  d0 : 1 ≤ x.dy
  d1 : x.dy ≤ 7
  ms : ∀ m ∈ x.ms, DMk x.n m
  sl : x.st.length = x.n
noncomputable abbrev useE : ME := mIf (mT (m2 neO (mV 6) (mV 7))) (mL m_law_any (maC (mV 0) (maC (mL lstO (maC (mL tupO (maC (mC (.int 0)) (maC (mC (.int 1)) maN))) (maC (mL tupO (maC (mC (.int 0)) (maC (mC (.int 1)) maN))) (maC (mL tupO (maC (mC (.int 1)) (maC (mC (.int 1)) maN))) (maC (mL tupO (maC (mC (.int 1)) (maC (mC (.int 2)) maN))) (maC (mL tupO (maC (mC (.int 2)) (maC (mC (.int 1)) maN))) maN)))))) maN))) (mL tupO (maC (mC (.int 0)) (maC (mC (.int 1)) maN)))
noncomputable abbrev useB : MS := mDo (mMeth .lst appendO (mV 8) (maC useE maN))
theorem neO_int (i j : Int) (S : DS) : neO (.int i) (.int j) S = .ok (.bl (!decide (i = j))) S := rfl
theorem uses_loop {h : List D} (hh : Hand h) (T J : DS) (n g : Nat) (hn : n ≤ 4) (a1 a2 a3 a4 a5 x6 : Option D) :
    ∃ (us : List Rat) (h' : List D) (x6' : Option D) (J' : DS), forL (gN 6) useB ⟨(List.range n).map fun (i : Nat) => D.int (i : Int), none⟩ ((List.range n).map fun (i : Nat) => D.int (i : Int)) [some (.ref 0), a1, a2, a3, a4, a5, x6, some (.int (g : Nat)), some (.ref (T.length + 1))] (.lst h :: (T ++ .lst [] :: J)) =
      .ok (.nx, [some (.ref 0), a1, a2, a3, a4, a5, x6', some (.int (g : Nat)), some (.ref (T.length + 1))]) (.lst h' :: (T ++ .lst (us.map enc) :: J')) ∧ Hand h' ∧ us.length = n ∧ ∀ q ∈ us, Po 2 2 q := by
  obtain ⟨us, h', env', J', e, hh', ⟨x6', rfl⟩, l, p⟩ := grow (α := Rat) (it := ⟨(List.range n).map fun (i : Nat) => D.int (i : Int), none⟩) (mg := gN 6) (p := useB)
    enc (Po 2 2) rfl T (fun env => ∃ x6, env = [some (.ref 0), a1, a2, a3, a4, a5, x6, some (.int (g : Nat)), some (.ref (T.length + 1))]) ((List.range n).map fun (i : Nat) => D.int (i : Int)) [] h _ J hh ⟨x6, rfl⟩ (by simp; omega) (by
      intro d hd acc h env J hh ⟨x6, he⟩ hl
      subst he
      obtain ⟨i, _, rfl⟩ := List.mem_map.mp hd
      by_cases z : (i : Int) = (g : Int)
      · refine ⟨0, h, _, J, ?_, hh, ⟨some (.int (i : Nat)), rfl⟩, Rat.le_refl, La.zero _ _⟩
        have ap := app_h (R := T) (J := J) (h := h) (ys := acc.map enc) (enc 0) (by simp; omega)
        rw [List.map_append]
        have z' : i = g := by omega
        simp [RcT.ok, neO_int, z', tupO]
        rw [← enc_zero, ap]
        rfl
      · obtain ⟨x, h', e, hh', hx⟩ := any_ok hh (T ++ .lst (acc.map enc) :: J) [D.tup [.int 0, .int 1], .tup [.int 0, .int 1], .tup [.int 1, .int 1], .tup [.int 1, .int 2], .tup [.int 2, .int 1]] (by simp) (by simp)
        obtain ⟨q, rfl, hq⟩ := use_of hx
        refine ⟨q, h', _, J, ?_, hh', ⟨some (.int (i : Nat)), rfl⟩, hq⟩
        have ap := app_h (R := T) (J := J) (h := h') (ys := acc.map enc) (enc q) (by simp; omega)
        rw [List.map_append]
        have z' : ¬ i = g := by omega
        simp [RcT.ok, neO_int, z, z', tupO, lstO, e, ap])
  exact ⟨us, h', x6', J', by simpa using e, hh', by simpa using l, p⟩
theorem under_mk (n : Nat) (x : Mk) : under n (encMk x) = true := by
  simp [encMk, DL.under, unders, under_encR, under_enc]
theorem under_sh (n : Nat) (x : Shop) : under n (encSh x) = true := by
  simp [encSh, DL.under, unders, under_encR, unders_map n encMk x.ms fun m _ => under_mk n m]
noncomputable abbrev shopB : MS := (mSeq (mPar 7 8 (maC (mL m_law_draw (maC (mV 0) (maC (mV 1) maN))) (maC (mL refO maN) maN)))
    (mSeq (mFor (mArgI rng1O (maC (mV 1) maN)) (gN 6) useB)
    (mDo (mMeth .lst appendO (mV 4) (maC (mL tupO (maC (mV 7) (maC (mL tupleO (maC (mV 8) maN)) (maC (m2 addO (mC (.int 1)) (mL m_law_draw (maC (mV 0) (maC (mC (.int 3)) maN)))) (maC (mL m_law_amount (maC (mV 0) (maC (mC (.int 5)) maN))) maN))))) maN)))))
theorem shop_ok {h : List D} (hh : Hand h) {R : DS} (hR : Cl R) (n m dy : Nat) (n0 : 1 ≤ n) (hn : n ≤ 4) (m0 : 1 ≤ m) (hm : m ≤ 6) (d0 : 1 ≤ dy) (hd : dy ≤ 7) :
    ∃ x h', m_law_shop [.ref 0, .int (n : Nat), .int (m : Nat), .int (dy : Nat)] (.lst h :: R) = .ok (encSh x) (.lst h' :: R) ∧ Hand h' ∧ Sh x ∧ x.n = n ∧ x.dy = dy ∧ ∀ q ∈ x.st, Po 12 12 q := by
  obtain ⟨ms, h1, env1, J1, e1, hh1, ⟨x5, x6, x7, x8, rfl⟩, l1, p1⟩ := grow (α := Mk) (it := ⟨(List.range m).map fun (i : Nat) => D.int (i : Int), none⟩) (mg := gN 5) (p := shopB)
    encMk (DMk n) rfl R (fun env => ∃ x5 x6 x7 x8, env = [some (.ref 0), some (.int (n : Nat)), some (.int (m : Nat)), some (.int (dy : Nat)), some (.ref (R.length + 1)), x5, x6, x7, x8]) ((List.range m).map fun (i : Nat) => D.int (i : Int)) [] h _ [] hh ⟨none, none, none, none, rfl⟩ (by simp; omega) (by
      intro d hd acc h env J hh ⟨x5, x6, x7, x8, he⟩ hl
      subst he
      obtain ⟨g, h1, e1, hh1, g1⟩ := draw_nat hh (R ++ .lst (acc.map encMk) :: J) n n0 (by omega)
      generalize hT : R ++ DO.lst (acc.map encMk) :: J = T at e1
      have hT' : ∀ (h : List D) (X : DS), DO.lst h :: (T ++ X) = DO.lst h :: (R ++ .lst (acc.map encMk) :: (J ++ X)) := fun h X => by rw [← hT]; simp
      obtain ⟨us, h2, y6, J2, e2, hh2, l2, p2⟩ := uses_loop hh1 T [] n g hn (some (.int (n : Nat))) (some (.int (m : Nat))) (some (.int (dy : Nat))) (some (.ref (R.length + 1))) (some d) x6
      obtain ⟨t, h3, e3, hh3, t3⟩ := draw_nat hh2 (T ++ .lst (us.map enc) :: J2) 3 (by decide) (by decide)
      have e3' : m_law_draw [.ref 0, .int 3] (.lst h2 :: (T ++ .lst (us.map enc) :: J2)) = _ := e3
      obtain ⟨mo, h4, e4, hh4, p4⟩ := amount_ok hh3 (T ++ .lst (us.map enc) :: J2) 5 (by decide)
      have e4' : m_law_amount [.ref 0, .int 5] (.lst h3 :: (T ++ .lst (us.map enc) :: J2)) = _ := e4
      have tp := tup_h (R := T) (J := J2) (h := h2) (ys := us.map enc)
      have ap := app_h (R := R) (J := J ++ .lst (us.map enc) :: J2) (h := h4) (ys := acc.map encMk) (encMk ⟨g, us, 1 + t, mo⟩) (by simp; omega)
      rw [← hT'] at ap
      refine ⟨⟨g, us, 1 + t, mo⟩, h4, _, J ++ .lst (us.map enc) :: J2, ?_, hh4, ⟨some d, y6, some (.int (g : Nat)), some (.ref (T.length + 1)), rfl⟩, ⟨g1, l2, p2, by show 1 ≤ 1 + t; omega, by show 1 + t ≤ 3; omega, p4⟩⟩
      have c2 : (1 + (t : Int)) = ((1 + t : Nat) : Int) := by omega
      have rf : refO [] (.lst h1 :: T) = .ok (.ref (T.length + 1)) (.lst h1 :: (T ++ [.lst []])) := refO_at _
      have st1 : (mPar 7 8 (maC (mL m_law_draw (maC (mV 0) (maC (mV 1) maN))) (maC (mL refO maN) maN)) : MS) [some (.ref 0), some (.int (n : Nat)), some (.int (m : Nat)), some (.int (dy : Nat)), some (.ref (R.length + 1)), some d, x6, x7, x8] (.lst h :: T) =
          .ok (.nx, [some (.ref 0), some (.int (n : Nat)), some (.int (m : Nat)), some (.int (dy : Nat)), some (.ref (R.length + 1)), some d, x6, some (.int (g : Nat)), some (.ref (T.length + 1))]) (.lst h1 :: (T ++ [.lst []])) := by
        simp only [mPar_at, maC_at, mL_at, mV_at, List.getElem?_cons_zero, List.getElem?_cons_succ, maN_at, maK_ok, maJ_ok, bind_ok, e1, rf, parK_ok, List.set_cons_succ, List.set_cons_zero]
      have st2 : (mFor (mArgI rng1O (maC (mV 1) maN)) (gN 6) useB : MS) [some (.ref 0), some (.int (n : Nat)), some (.int (m : Nat)), some (.int (dy : Nat)), some (.ref (R.length + 1)), some d, x6, some (.int (g : Nat)), some (.ref (T.length + 1))] (.lst h1 :: (T ++ [.lst []])) =
          .ok (.nx, [some (.ref 0), some (.int (n : Nat)), some (.int (m : Nat)), some (.int (dy : Nat)), some (.ref (R.length + 1)), some d, y6, some (.int (g : Nat)), some (.ref (T.length + 1))]) (.lst h2 :: (T ++ .lst (us.map enc) :: J2)) := by
        simp only [mFor_at, mArgI_at, maC_at, mV_at, List.getElem?_cons_zero, List.getElem?_cons_succ, maN_at, maK_ok, maJ_ok, bind_ok, rng n (by omega), forK_ok, e2]
      rw [turn_at, gN_at, turnK_ok]
      simp only [List.set_cons_succ, List.set_cons_zero]
      unfold shopB
      rw [mSeq_at, st1, seqK_nx, mSeq_at, st2, seqK_nx]
      have ap2 : appendO (.ref (R.length + 1)) [.tup [.int (g : Nat), .tup (us.map enc), .int (1 + (t : Int)), enc mo]] (.lst h4 :: (T ++ .lst (us.map enc) :: J2)) = .ok .non (.lst h4 :: (R ++ .lst (acc.map encMk ++ [encMk ⟨g, us, 1 + t, mo⟩]) :: (J ++ .lst (us.map enc) :: J2))) := by
        rw [c2]; exact ap
      rw [List.map_append, List.map_cons, List.map_nil]
      simp [RcT.ok, tp, e3', e4', tupO]
      rw [ap2]
      rfl)
  obtain ⟨st, h2, e2, hh2, l2, p2⟩ := draws (mg := gN 7) (el := mL m_law_amount (maC (mV 0) (maC (mC (.int 6)) maN))) (env := wipeE [some (.ref 0), some (.int (n : Nat)), some (.int (m : Nat)), some (.int (dy : Nat)), some (.ref (R.length + 1)), x5, x6, x7, x8] [7]) (it := ⟨(List.range n).map fun (i : Nat) => D.int (i : Int), none⟩) enc (Po 12 12) rfl (R ++ .lst (ms.map encMk) :: J1) ((List.range n).map fun (i : Nat) => D.int (i : Int)) [] h1 hh1 (fun d _ h hh => by
    obtain ⟨q, h', e, hh', hq⟩ := amount_ok hh (R ++ .lst (ms.map encMk) :: J1) 6 (by decide)
    have e' : m_law_amount [.ref 0, .int 6] (.lst h :: (R ++ .lst (ms.map encMk) :: J1)) = _ := e
    exact ⟨q, h', by simp [wipeE, e'], hh', hq⟩)
  refine ⟨⟨n, ms, st, dy⟩, h2, ?_, hh2, ⟨n0, hn, by show 1 ≤ ms.length; rw [l1]; simpa using m0, by show ms.length ≤ 6; rw [l1]; simpa using hm, d0, hd, p1, by show st.length = n; rw [l2]; simp⟩, rfl, rfl, p2⟩
  have tp := tup_h (R := R) (J := J1) (h := h1) (ys := ms.map encMk)
  have rf : refO [] (.lst h :: R) = .ok (.ref (R.length + 1)) (.lst h :: (R ++ [.lst []])) := refO_at _
  have dr := drop_h (h := h) hh2 hR (encSh ⟨n, ms, st, dy⟩) (fun k => under_sh k _) (.lst (ms.map encMk) :: J1)
  simp only [List.nil_append, List.map_nil] at e1 e2
  simp only [m_law_shop, defD_at]
  simp [rf, rng m (by omega)]
  have e1' : forL (gN 5) shopB ⟨(List.range m).map fun (i : Nat) => D.int (i : Int), none⟩ ((List.range m).map fun (i : Nat) => D.int (i : Int)) [some (.ref 0), some (.int (n : Nat)), some (.int (m : Nat)), some (.int (dy : Nat)), some (.ref (R.length + 1)), none, none, none, none] (.lst h :: (R ++ [.lst []])) = _ := e1
  rw [e1']
  simp [tp, rng n (by omega)]
  rw [lcK_ok, if_pos (by rw [List.length_map, List.length_range]; exact Nat.le_trans hn (by decide)), e2]
  simp [tupleO_vl, tupO]
  exact dr
/-! drawn schedules -/
/-- a schedule of a shop: rows of parts of what is most -/
structure Sc (x : Shop) (sc : List (List Rat)) : Prop where
  l : sc.length = x.dy
  r : ∀ r ∈ sc, r.length = x.ms.length ∧ (∀ q ∈ r, Po 72 10 q) ∧ ∀ (j : Nat) (m : Mk) (q : Rat), x.ms[j]? = some m → r[j]? = some q → q ≤ m.m
noncomputable abbrev parE : ME := mL m_law_mul (maC (m2 ixO (mV 5) (mC (.int 3))) (maC (mL m_law_any (maC (mV 0) (maC (mL lstO (maC (mL tupO (maC (mC (.int 0)) (maC (mC (.int 1)) maN))) (maC (mL tupO (maC (mC (.int 1)) (maC (mC (.int 2)) maN))) (maC (mL tupO (maC (mC (.int 1)) (maC (mC (.int 1)) maN))) (maC (mL tupO (maC (mC (.int 1)) (maC (mC (.int 3)) maN))) maN))))) maN))) maN))
theorem un_map {α : Type} (en : α → D) (P : Nat → α → Prop) : ∀ (ys : List D) (k : Nat), (∀ (i : Nat) (y : D), ys[i]? = some y → ∃ a, y = en a ∧ P (k + i) a) → ∃ as : List α, ys = as.map en ∧ ∀ (i : Nat) (a : α), as[i]? = some a → P (k + i) a
  | [], _, _ => ⟨[], rfl, fun i a h => by simp at h⟩
  | y :: ys, k, h => by
    obtain ⟨a, rfl, pa⟩ := h 0 y rfl
    obtain ⟨as, rfl, p⟩ := un_map en P ys (k + 1) fun i y hy => by
      have := h (i + 1) y (by simpa using hy)
      rw [show k + (i + 1) = k + 1 + i by omega] at this
      exact this
    refine ⟨a :: as, rfl, fun i b hb => ?_⟩
    cases i with
    | zero => simp at hb; subst hb; exact pa
    | succ i =>
      have := p i b (by simpa using hb)
      rw [show k + (i + 1) = k + 1 + i by omega]
      exact this
noncomputable abbrev schB : MS := (mSeq (mSet 4 (lcM (mSeqI (m2 ixO (mV 1) (mC (.int 1)))) (gN 5) mYes parE [5] finV))
    (mDo (mMeth .lst appendO (mV 2) (maC (mL tupleO (maC (mV 4) maN)) maN))))
theorem encR_cl (n : Nat) (r : List Rat) : under n (encR r) = true := under_encR n r
theorem under_sc (n : Nat) (sc : List (List Rat)) : under n (encSc sc) = true := unders_map n encR sc fun r _ => under_encR n r
theorem le_one_mul {p q : Rat} (hp : 0 ≤ p) (hq : q ≤ 1) : p * q ≤ p := by
  have := Rat.mul_le_mul_of_nonneg_left hq hp
  rwa [Rat.mul_one] at this
theorem two_po {d e v w : Nat} {p q : Rat} (hd : 0 < d) (he : 0 < e) (hp : La d v p) (hq : La e w q) (h1 : v * d < 2 ^ 4000) (h2 : d < 2 ^ 4000) (h3 : w * e < 2 ^ 4000) (h4 : e < 2 ^ 4000) : Two p q :=
  two_r (hp.bd hd h1 h2) (hq.bd he h3 h4) (by decide) (by decide)
theorem sched_ok {h : List D} (hh : Hand h) {R : DS} (hR : Cl R) {x : Shop} (hx : Sh x) :
    ∃ sc h', m_law_drawn_schedule [.ref 0, encSh x] (.lst h :: R) = .ok (encSc sc) (.lst h' :: R) ∧ Hand h' ∧ Sc x sc := by
  obtain ⟨sc, h1, env1, J1, e1, hh1, ⟨x3, x4, rfl⟩, l1, p1⟩ := grow (α := List Rat) (it := ⟨(List.range x.dy).map fun (i : Nat) => D.int (i : Int), none⟩) (mg := gN 3) (p := schB)
    encR (fun r => r.length = x.ms.length ∧ (∀ q ∈ r, Po 72 10 q) ∧ ∀ (j : Nat) (m : Mk) (q : Rat), x.ms[j]? = some m → r[j]? = some q → q ≤ m.m) rfl R (fun env => ∃ x3 x4, env = [some (.ref 0), some (encSh x), some (.ref (R.length + 1)), x3, x4, none]) ((List.range x.dy).map fun (i : Nat) => D.int (i : Int)) [] h _ [] hh ⟨none, none, rfl⟩ (by have := hx.d1; simp; omega) (by
      intro d hd acc h env J hh ⟨x3, x4, he⟩ hl
      subst he
      generalize hT : R ++ DO.lst (acc.map encR) :: J = T
      obtain ⟨ys, S', e, ⟨h1, rfl, hh1⟩, l, p⟩ := lcL_inv (it := ⟨x.ms.map encMk, none⟩) (mg := gN 5) (el := parE) (env := wipeE [some (.ref 0), some (encSh x), some (.ref (R.length + 1)), some d, x4, none] [5]) rfl (I := fun S => ∃ h, S = .lst h :: T ∧ Hand h)
        (P := fun i y => ∃ q, y = enc q ∧ Po 72 10 q ∧ ∀ m, x.ms[i]? = some m → q ≤ m.m) (x.ms.map encMk) [] 0 (.lst h :: T) ⟨h, rfl, hh⟩ (by
          intro i d hd S ⟨h, hS, hh⟩
          subst hS
          rw [List.getElem?_map, Option.map_eq_some_iff] at hd
          obtain ⟨m, hm, rfl⟩ := hd
          have dm := hx.ms m (List.mem_of_getElem? hm)
          obtain ⟨y, h', e, hh', hy⟩ := any_ok hh T [D.tup [.int 0, .int 1], .tup [.int 1, .int 2], .tup [.int 1, .int 1], .tup [.int 1, .int 3]] (by simp) (by simp)
          obtain ⟨q, rfl, hq, q1⟩ := part_of hy
          have mo := mul_ok (.lst h' :: T) (two_po (by decide) (by decide) dm.m.2 hq.2 (by decide) (by decide) (by decide) (by decide))
          refine ⟨enc (m.m * q), .lst h' :: T, ?_, ⟨h', rfl, hh'⟩, m.m * q, rfl, ⟨Rat.mul_nonneg dm.m.1 hq.1, dm.m.2.mul hq.2⟩, fun m' hm' => ?_⟩
          · simp [wipeE, mk3, lstO, tupO, e, mo]
          · rw [Nat.zero_add, hm] at hm'
            cases hm'
            exact le_one_mul dm.m.1 q1)
      obtain ⟨r, rfl, pr⟩ := un_map enc (fun i q => Po 72 10 q ∧ ∀ m, x.ms[i]? = some m → q ≤ m.m) ys 0 fun i y hy => by
        obtain ⟨q, h1, h2, h3⟩ := p i y hy
        exact ⟨q, h1, h2, h3⟩
      have lr : r.length = x.ms.length := by simpa using l
      have ap := app_h (R := R) (J := J) (h := h1) (ys := acc.map encR) (encR r) (by simp; omega)
      rw [hT] at ap
      refine ⟨r, h1, _, J, ?_, hh1, ⟨some d, some (.vl (r.map enc)), rfl⟩, lr, ?_, ?_⟩
      · rw [List.map_append, List.map_cons, List.map_nil]
        have l1 := hx.l1
        have e' : lcK (gN 5) mYes parE [5] finV [some (.ref 0), some (encSh x), some (.ref (R.length + 1)), some d, x4, none] (.ok ⟨x.ms.map encMk, none⟩ (.lst h :: T)) = .ok (.vl (r.map enc)) (.lst h1 :: T) := by
          rw [lcK_ok, if_pos (by rw [List.length_map]; exact Nat.le_trans l1 (by decide)), e]
          rfl
        simp only [turn_at, gN_at, turnK_ok, mSeq_at, mSet_at, lcM_at, mSeqI_at, m2_at, mV_at, mC_at, List.set_cons_succ, List.set_cons_zero, List.getElem?_cons_succ, List.getElem?_cons_zero, m2K_ok, m2J_ok, sh1, bind_ok, asItm_tup, e', setK_ok, seqK_nx, mDo_at, mMeth_at, methK_ok, RcT.ok, if_true, maC_at, maN_at, mL_at, maK_ok, maJ_ok, tupleO_vl, methJ_ok]
        rw [show D.tup (r.map enc) = encR r from rfl, ap]
        rfl
      · intro q hq
        obtain ⟨i, hi⟩ := List.getElem?_of_mem hq
        exact (pr i q hi).1
      · intro j m q hm hq
        have := (pr j q hq).2
        rw [Nat.zero_add] at this
        exact this m hm)
  refine ⟨sc, h1, ?_, hh1, by simpa using l1, p1⟩
  have tp := tup_h (R := R) (J := J1) (h := h1) (ys := sc.map encR)
  have rf : refO [] (.lst h :: R) = .ok (.ref (R.length + 1)) (.lst h :: (R ++ [.lst []])) := refO_at _
  have dr := drop_h (h := h) hh1 hR (encSc sc) (fun k => under_sc k _) (.lst (sc.map encR) :: J1)
  have d1 := hx.d1
  simp only [List.nil_append, List.map_nil] at e1
  simp only [m_law_drawn_schedule, defD_at]
  simp [rf, sh3, rng x.dy (by omega)]
  have e1' : forL (gN 3) schB ⟨(List.range x.dy).map fun (i : Nat) => D.int (i : Int), none⟩ ((List.range x.dy).map fun (i : Nat) => D.int (i : Int)) [some (.ref 0), some (encSh x), some (.ref (R.length + 1)), none, none, none] (.lst h :: (R ++ [.lst []])) = _ := e1
  rw [e1']
  simp [tp]
  exact dr
/-! drawn orders -/
structure Os (x : Shop) (os : List Od) : Prop where
  l : os.length ≤ 12
  g : ∀ o ∈ os, o.g < x.n ∧ o.w < x.dy ∧ 0 ≤ o.a
theorem under_od (n : Nat) (o : Od) : under n (encOd o) = true := by
  simp [encOd, DL.under, unders, under_enc]
theorem under_os (n : Nat) (os : List Od) : under n (encOs os) = true := unders_map n encOd os fun o _ => under_od n o
noncomputable abbrev ordB : MS := mDo (mMeth .lst appendO (mV 4) (maC (mL tupO (maC (mL m_law_draw (maC (mV 0) (maC (m2 ixO (mV 1) (mC (.int 0))) maN))) (maC (mL m_law_amount (maC (mV 0) (maC (mV 3) maN))) (maC (mL m_law_draw (maC (mV 0) (maC (m2 ixO (mV 1) (mC (.int 3))) maN))) maN)))) maN))
theorem orders_ok {h : List D} (hh : Hand h) {R : DS} (hR : Cl R) {x : Shop} (hx : Sh x) (k : Nat) (hk : k ≤ 12) :
    ∃ os h', m_law_orders [.ref 0, encSh x, .int (k : Nat), .int 5] (.lst h :: R) = .ok (encOs os) (.lst h' :: R) ∧ Hand h' ∧ Os x os ∧ ∀ o ∈ os, Po 12 10 o.a := by
  have n0 := hx.n0
  have n1 := hx.n1
  have d0 := hx.d0
  have d1 := hx.d1
  obtain ⟨os, h1, env1, J1, e1, hh1, ⟨x5, rfl⟩, l1, p1⟩ := grow (α := Od) (it := ⟨(List.range k).map fun (i : Nat) => D.int (i : Int), none⟩) (mg := gN 5) (p := ordB)
    encOd (fun o => o.g < x.n ∧ o.w < x.dy ∧ Po 12 10 o.a) rfl R (fun env => ∃ x5, env = [some (.ref 0), some (encSh x), some (.int (k : Nat)), some (.int 5), some (.ref (R.length + 1)), x5]) ((List.range k).map fun (i : Nat) => D.int (i : Int)) [] h _ [] hh ⟨none, rfl⟩ (by simp; omega) (by
      intro d hd acc h env J hh ⟨x5, he⟩ hl
      subst he
      obtain ⟨g, h1, e1, hh1, g1⟩ := draw_nat hh (R ++ .lst (acc.map encOd) :: J) x.n n0 (by omega)
      obtain ⟨a, h2, e2, hh2, a1⟩ := amount_ok hh1 (R ++ .lst (acc.map encOd) :: J) 5 (by decide)
      have e2' : m_law_amount [.ref 0, .int 5] (.lst h1 :: (R ++ .lst (acc.map encOd) :: J)) = _ := e2
      obtain ⟨w, h3, e3, hh3, w1⟩ := draw_nat hh2 (R ++ .lst (acc.map encOd) :: J) x.dy d0 (by omega)
      have ap := app_h (R := R) (J := J) (h := h3) (ys := acc.map encOd) (encOd ⟨g, a, w⟩) (by simp; omega)
      refine ⟨⟨g, a, w⟩, h3, _, J, ?_, hh3, ⟨some d, rfl⟩, g1, w1, a1⟩
      rw [List.map_append, List.map_cons, List.map_nil]
      have ap2 : appendO (.ref (R.length + 1)) [.tup [.int (g : Nat), enc a, .int (w : Nat)]] (.lst h3 :: (R ++ .lst (acc.map encOd) :: J)) = _ := ap
      simp [RcT.ok, sh0, sh3, e1, e2', e3, tupO, ap2])
  refine ⟨os, h1, ?_, hh1, ⟨by rw [l1]; simpa using hk, fun o ho => ⟨(p1 o ho).1, (p1 o ho).2.1, (p1 o ho).2.2.1⟩⟩, fun o ho => (p1 o ho).2.2⟩
  have tp := tup_h (R := R) (J := J1) (h := h1) (ys := os.map encOd)
  have rf : refO [] (.lst h :: R) = .ok (.ref (R.length + 1)) (.lst h :: (R ++ [.lst []])) := refO_at _
  have dr := drop_h (h := h) hh1 hR (encOs os) (fun k => under_os k _) (.lst (os.map encOd) :: J1)
  simp only [List.nil_append, List.map_nil] at e1
  simp only [m_law_orders, defD_at]
  simp [rf, rng k (by omega)]
  have e1' : forL (gN 5) ordB ⟨(List.range k).map fun (i : Nat) => D.int (i : Int), none⟩ ((List.range k).map fun (i : Nat) => D.int (i : Int)) [some (.ref 0), some (encSh x), some (.int (k : Nat)), some (.int 5), some (.ref (R.length + 1)), none] (.lst h :: (R ++ [.lst []])) = _ := e1
  rw [e1']
  simp [tp]
  exact dr
end K23

namespace K23
open PySem PySem.Spec PyProof.Rows L2 DL FR
/-! what a shop's stocks are, by days -/
def scAt (sc : List (List Rat)) (d j : Nat) : Rat := (sc.getD d []).getD j 0
def chg (sc : List (List Rat)) (day i : Nat) : Nat → List Mk → Rat
  | _, [] => 0
  | k, m :: ms => ((if m.g = i ∧ m.t ≤ day then scAt sc (day - m.t) k else 0) - m.u.getD i 0 * scAt sc day k) + chg sc day i (k + 1) ms
def due (os : List Od) (day i : Nat) : Rat := sumQ (os.map fun o => if o.g = i ∧ o.w = day then o.a else 0)
def stk (x : Shop) (os : List Od) (sc : List (List Rat)) : Nat → Nat → Rat
  | 0, i => x.st.getD i 0
  | d + 1, i => stk x os sc d i + chg sc d i 0 x.ms - due os d i
def rowsD (x : Shop) (os : List Od) (sc : List (List Rat)) (k : Nat) : List D := (List.range k).map fun d => encR (vec x.n (stk x os sc (d + 1)))
/-! sizes -/
theorem La.bd' {d v : Nat} {q : Rat} (hd : 0 < d) (h : La d v q) (hv : v ≤ 2 ^ 40) (hd2 : d ≤ 2 ^ 40) : Bd 100 q :=
  h.bd hd (Nat.lt_of_le_of_lt (Nat.mul_le_mul hv hd2) (by decide)) (Nat.lt_of_le_of_lt hd2 (by decide))
theorem two_bd {p q : Rat} (hp : Bd 100 p) (hq : Bd 100 q) : Two p q := two_r hp hq (by decide) (by decide)
theorem getD_po {d v : Nat} {r : List Rat} (h : ∀ q ∈ r, Po d v q) (j : Nat) : Po d v (r.getD j 0) := by
  rw [List.getD_eq_getElem?_getD]
  cases e : r[j]? with
  | none => exact ⟨Rat.le_refl, La.zero _ _⟩
  | some q => exact h q (List.mem_of_getElem? e)
section
variable {x : Shop} {sc : List (List Rat)} (hs : Sc x sc)
include hs
theorem sc_po (d j : Nat) : Po 72 10 (scAt sc d j) := by
  unfold scAt
  rw [List.getD_eq_getElem?_getD (l := sc)]
  cases e : sc[d]? with
  | none => exact ⟨Rat.le_refl, La.zero _ _⟩
  | some r => exact getD_po (hs.r r (List.mem_of_getElem? e)).2.1 j
theorem row_at {d : Nat} (hd : d < x.dy) (S : DS) : ixO (encSc sc) (.int (d : Nat)) S = .ok (encR (sc.getD d [])) S := by
  have e : sc[d]? = some (sc.getD d []) := by
    rw [List.getD_eq_getElem?_getD, List.getElem?_eq_getElem (by rw [hs.l]; exact hd)]; rfl
  exact getI_map encR sc d e
theorem cell_at' {d j : Nat} (hd : d < x.dy) (hj : j < x.ms.length) (S : DS) : ixO (encR (sc.getD d [])) (.int (j : Nat)) S = .ok (enc (scAt sc d j)) S := by
  have e : sc[d]? = some (sc.getD d []) := by
    rw [List.getD_eq_getElem?_getD, List.getElem?_eq_getElem (by rw [hs.l]; exact hd)]; rfl
  have l := (hs.r _ (List.mem_of_getElem? e)).1
  have e2 : (sc.getD d [])[j]? = some (scAt sc d j) := by
    unfold scAt
    rw [List.getD_eq_getElem?_getD (l := sc.getD d []), List.getElem?_eq_getElem (by rw [l]; exact hj)]; rfl
  exact getI_map enc _ j e2
end
theorem at_u {n : Nat} {m : Mk} (h : DMk n m) {i : Nat} (hi : i < n) (S : DS) : ixO (encR m.u) (.int (i : Nat)) S = .ok (enc (m.u.getD i 0)) S := by
  have e : m.u[i]? = some (m.u.getD i 0) := by
    rw [List.getD_eq_getElem?_getD, List.getElem?_eq_getElem (by rw [h.l]; exact hi)]; rfl
  exact getI_map enc _ i e
theorem day_sub {d t : Nat} (h : t ≤ d) (S : DS) : subO (.int (d : Nat)) (.int (t : Nat)) S = .ok (.int ((d - t : Nat) : Int)) S := by
  show Ou.ok (D.int ((d : Int) - (t : Int))) S = _
  rw [Int.natCast_sub h]
/-! how great -/
section
variable {x : Shop} {sc : List (List Rat)} (hs : Sc x sc) {e : Nat} (he : 0 < e)
include hs he
theorem come_la (m : Mk) (day i k : Nat) : La (144 * e) 10 (if m.g = i ∧ m.t ≤ day then scAt sc (day - m.t) k else 0) := by
  split
  · have := (sc_po hs (day - m.t) k).2.lift (k := 2 * e) (by omega)
    rwa [show 72 * (2 * e) = 144 * e by omega] at this
  · exact La.zero _ _
theorem go_la {n : Nat} {m : Mk} (hm : DMk n m) (day i k : Nat) : La (144 * e) 20 (m.u.getD i 0 * scAt sc day k) := by
  have := ((getD_po hm.u i).2.mul (sc_po hs day k).2).lift (k := e) he
  rwa [show 2 * 72 * e = 144 * e by omega] at this
theorem chg_la {n : Nat} (day i : Nat) : ∀ (l : List Mk) (k : Nat), (∀ m ∈ l, DMk n m) → La (144 * e) (30 * l.length) (chg sc day i k l)
  | [], k, _ => La.zero _ _
  | m :: l, k, h => by
    have a := come_la hs he m day i k
    have b := go_la hs he (h m (List.mem_cons_self ..)) day i k
    have c := chg_la day i l (k + 1) fun m hm => h m (List.mem_cons_of_mem _ hm)
    have := (a.sub (by omega) b).add (by omega) c
    rw [List.length_cons, show 30 * (l.length + 1) = 10 + 20 + 30 * l.length by omega]
    exact this
end
theorem due_la {d A : Nat} (hd : 0 < d) (day i : Nat) : ∀ (os : List Od), (∀ o ∈ os, La d A o.a) → La d (A * os.length) (due os day i)
  | [], _ => La.zero _ _
  | o :: os, h => by
    have a : La d A (if o.g = i ∧ o.w = day then o.a else 0) := by
      split
      · exact h o (List.mem_cons_self ..)
      · exact La.zero _ _
    have b := due_la hd day i os fun o ho => h o (List.mem_cons_of_mem _ ho)
    rw [List.length_cons, Nat.mul_succ, Nat.add_comm]
    exact a.add hd b
/-- all numbers, of a common denominator 144 e -/
structure Num (e V A : Nat) (x : Shop) (os : List Od) : Prop where
  e0 : 0 < e
  e1 : e ≤ 2 ^ 20
  v1 : V ≤ 2 ^ 20
  a1 : A ≤ 2 ^ 32
  st : ∀ q ∈ x.st, La (144 * e) V q
  os : ∀ o ∈ os, La (144 * e) A o.a
theorem stk_la {e V A : Nat} {x : Shop} {os : List Od} {sc : List (List Rat)} (hN : Num e V A x os) (hx : Sh x) (ho : os.length ≤ 12) (hs : Sc x sc) (i : Nat) : ∀ d, La (144 * e) (V + (180 + 12 * A) * d) (stk x os sc d i)
  | 0 => by
    have := hN.e0
    show La _ _ (x.st.getD i 0)
    rw [List.getD_eq_getElem?_getD]
    cases h : x.st[i]? with
    | none => exact La.zero _ _
    | some q => exact (hN.st q (List.mem_of_getElem? h)).wide (by omega)
  | d + 1 => by
    have e0 := hN.e0
    have a := stk_la hN hx ho hs i d
    have b := (chg_la hs e0 d i x.ms 0 hx.ms).wide (show 30 * x.ms.length ≤ 180 by have := hx.l1; omega)
    have c := (due_la (by omega) d i os hN.os).wide (show A * os.length ≤ 12 * A by rw [Nat.mul_comm]; exact Nat.mul_le_mul_right A ho)
    have := (a.add (by omega) b).sub (by omega) c
    refine this.wide ?_
    rw [Nat.mul_succ]
    omega
end K23

namespace K23
open PySem PySem.Spec PyProof.Rows L2 DL FR
theorem lcL_filter {α : Type} {mg : MG} {tt : MT} {el : ME} {it : Itm} {env : DE} {S : DS} (hg : it.g = none) (g f : α → D) (t : α → Bool) : ∀ (as : List α) (acc : List D),
    (∀ a ∈ as, ∃ env1, mg (g a) env S = .ok env1 S ∧ tt env1 S = .ok (t a) S ∧ (t a = true → el env1 S = .ok (f a) S)) → lcL mg tt el env it (as.map g) acc S = .ok (acc ++ (as.filter t).map f) S := by
  obtain ⟨xs, gg⟩ := it
  cases hg
  intro as
  induction as with
  | nil => exact fun acc _ => by rw [List.map_nil, lcL_nil rfl]; simp
  | cons a as ih =>
    intro acc h
    obtain ⟨env1, e1, e2, e3⟩ := h a (List.mem_cons_self ..)
    have e : lcL mg tt el env ⟨xs, none⟩ (g a :: as.map g) acc S = (mg (g a) env S).bindN fun env1 S1 => (tt env1 S1).bindN fun b S2 => if b = true then (el env1 S2).bindN fun y S3 => lcL mg tt el env ⟨xs, none⟩ (as.map g) (acc ++ [y]) S3 else lcL mg tt el env ⟨xs, none⟩ (as.map g) acc S2 := gate_none _ _ _
    rw [List.map_cons, e, e1]
    simp only [bindN_ok, e2]
    cases ht : t a with
    | true =>
      simp only [if_true, e3 ht, bindN_ok]
      rw [ih _ fun b hb => h b (List.mem_cons_of_mem _ hb), List.filter_cons_of_pos ht]
      simp
    | false =>
      rw [if_neg (by simp), ih _ fun b hb => h b (List.mem_cons_of_mem _ hb), List.filter_cons_of_neg (by simp [ht])]
theorem nat_dec (a b : Nat) : decide ((a : Int) = (b : Int)) = decide (a = b) := decide_eq_decide.mpr (by omega)
theorem sum_filter (os : List Od) (day i : Nat) : sumQ ((os.filter fun o => decide (o.g = i) && decide (o.w = day)).map (·.a)) = due os day i := by
  unfold due
  induction os with
  | nil => rfl
  | cons o os ih =>
    rw [List.map_cons, sumQ, ← ih]
    by_cases z : o.g = i ∧ o.w = day
    · rw [List.filter_cons_of_pos (by simp [z]), List.map_cons, sumQ, if_pos z]
    · rw [List.filter_cons_of_neg (by simp; exact fun h => by intro h2; exact z ⟨h, h2⟩), if_neg z, Rat.zero_add]
section
variable {e V A : Nat} {x : Shop} {os : List Od} {sc : List (List Rat)} (hN : Num e V A x os) (hx : Sh x) (ho : Os x os) (hs : Sc x sc) (S : DS)
include hN ho in
theorem due_on_ok (day i : Nat) : m_due_on [encOs os, .int (day : Nat), .int (i : Nat)] S = .ok (enc (due os day i)) S := by
  have ol := ho.l
  have fl := lcL_filter (mg := gT 3 (gsC (gN 3) (gsC (gN 4) (gsC (gN 5) gsN)))) (tt := mAnd (mT (m2 eqO (mV 3) (mV 2))) (mT (m2 eqO (mV 5) (mV 1)))) (el := mV 4) (it := ⟨os.map encOd, none⟩) (env := wipeE [some (encOs os), some (.int (day : Nat)), some (.int (i : Nat)), none, none, none] [3, 4, 5]) (S := S) rfl
    encOd (fun o => enc o.a) (fun o => decide (o.g = i) && decide (o.w = day)) os [] (fun o _ => by
      refine ⟨[some (encOs os), some (.int (day : Nat)), some (.int (i : Nat)), some (.int (o.g : Nat)), some (enc o.a), some (.int (o.w : Nat))], by simp [wipeE, encOd], ?_, fun _ => by simp⟩
      by_cases z : o.g = i
      · simp [z]; omega
      · have z2 : ¬ ((o.g : Int) = (i : Int)) := by omega
        simp [z, z2])
  have ef : (os.filter fun o => decide (o.g = i) && decide (o.w = day)).map (fun o => enc o.a) = ((os.filter fun o => decide (o.g = i) && decide (o.w = day)).map (·.a)).map enc := by rw [List.map_map]; rfl
  have e0 := hN.e0
  have e1 := hN.e1
  have a1 := hN.a1
  have sm := summed_vl (k := 100) (by decide) (qs := (os.filter fun o => decide (o.g = i) && decide (o.w = day)).map (·.a)) (fun q hq => by
    obtain ⟨o, ho, rfl⟩ := List.mem_map.mp hq
    exact (hN.os o (List.mem_filter.mp ho).1).bd' (by omega) (by omega) (by omega)) (by
    have l := List.length_filter_le (fun o : Od => decide (o.g = i) && decide (o.w = day)) os
    rw [List.length_map]
    omega) S
  simp only [m_due_on, defM_at, m_summed_]
  rw [startE_at]
  simp only [List.map_cons, List.map_nil, List.length_cons, List.length_nil, Nat.reduceAdd, Nat.reduceSub, List.reduceReplicate, if_true, List.cons_append, List.nil_append, mRet_at, mL_at, maC_at, maN_at, lcM_at, mSeqI_at, mV_at, List.getElem?_cons_zero, bind_ok, asItm_tup]
  rw [lcK_ok, if_pos (by rw [List.length_map]; exact Nat.le_trans ol (by decide)), fl]
  simp only [List.nil_append, bind_ok, finV_at, maK_ok, maN_at, maJ_ok, ef, sm, retK_ok, retO_rt, sum_filter]
noncomputable abbrev chB : MS := (mSeq (mIfS (mAnd (mT (m2 eqO (mV 6) (mV 3))) (mT (m2 geO (mV 2) (mV 8))))
    (mSet 4 (mL FR.plus (maC (mV 4) (maC (m2 ixO (m2 ixO (mV 1) (m2 subO (mV 2) (mV 8))) (mV 5)) maN))))
    mNx)
    (mSet 4 (mL FR.minus (maC (mV 4) (maC (mL FR.times (maC (m2 ixO (mV 7) (mV 3)) (maC (m2 ixO (m2 ixO (mV 1) (mV 2)) (mV 5)) maN))) maN)))))
noncomputable abbrev chG : MG := gT 2 (gsC (gN 5) (gsC (gT 4 (gsC (gN 6) (gsC (gN 7) (gsC (gN 8) (gsC (gN 9) gsN))))) gsN))
include hx hs in
theorem change_loop {e : Nat} (he : 0 < e) (he1 : e ≤ 2 ^ 20) (it : Itm) (hg : it.g = none) {day i : Nat} (hd : day < x.dy) (hi : i < x.n) : ∀ (l : List Mk) (k K : Nat) (z : Rat) (x5 x6 x7 x8 x9 : Option D), (∀ m ∈ l, DMk x.n m) → k + l.length ≤ x.ms.length → La (144 * e) K z → K + 30 * l.length ≤ 1000 →
    ∃ y5 y6 y7 y8 y9, forL chG chB it (enumD k (l.map encMk)) [some (encSh x), some (encSc sc), some (.int (day : Nat)), some (.int (i : Nat)), some (enc z), x5, x6, x7, x8, x9] S =
      .ok (.nx, [some (encSh x), some (encSc sc), some (.int (day : Nat)), some (.int (i : Nat)), some (enc (z + chg sc day i k l)), y5, y6, y7, y8, y9]) S
  | [], k, K, z, x5, x6, x7, x8, x9, _, _, _, _ => ⟨x5, x6, x7, x8, x9, by rw [List.map_nil, enumD, forL_nil hg, chg, Rat.add_zero]⟩
  | m :: l, k, K, z, x5, x6, x7, x8, x9, hm, hk, hz, hK => by
    rw [List.length_cons] at hk hK
    have dm := hm m (List.mem_cons_self ..)
    have co := come_la hs he m day i k
    have go := go_la hs he dm day i k
    have e144 : 144 * e ≤ 2 ^ 40 := by omega
    have e0 : 0 < 144 * e := by omega
    have z1 := hz.add e0 co
    have z2 := z1.sub e0 go
    obtain ⟨y5, y6, y7, y8, y9, ih⟩ := change_loop he he1 it hg hd hi l (k + 1) (K + 10 + 20) (z + (if m.g = i ∧ m.t ≤ day then scAt sc (day - m.t) k else 0) - m.u.getD i 0 * scAt sc day k) (some (.int (k : Nat))) (some (.int (m.g : Nat))) (some (encR m.u)) (some (.int (m.t : Nat))) (some (enc m.m)) (fun m' hm' => hm m' (List.mem_cons_of_mem _ hm')) (by omega) z2 (by omega)
    refine ⟨y5, y6, y7, y8, y9, ?_⟩
    have tm := times_ok S (two_bd ((getD_po dm.u i).2.bd' (by decide) (by decide) (by decide)) ((sc_po hs day k).2.bd' (by decide) (by decide) (by decide)))
    have mi := minus_ok S (two_bd (z1.bd' e0 (by omega) e144) (go.bd' e0 (by decide) e144))
    have r1 := row_at hs hd S
    have c1 := cell_at' hs hd (j := k) (by omega) S
    have u1 := at_u dm hi S
    have eq : z + chg sc day i k (m :: l) = z + (if m.g = i ∧ m.t ≤ day then scAt sc (day - m.t) k else 0) - m.u.getD i 0 * scAt sc day k + chg sc day i (k + 1) l := by
      rw [chg]
      grind
    rw [eq, ← ih, List.map_cons, enumD, forL_cons hg]
    have st1 : chG (.tup [.int (k : Nat), encMk m]) [some (encSh x), some (encSc sc), some (.int (day : Nat)), some (.int (i : Nat)), some (enc z), x5, x6, x7, x8, x9] S = .ok [some (encSh x), some (encSc sc), some (.int (day : Nat)), some (.int (i : Nat)), some (enc z), some (.int (k : Nat)), some (.int (m.g : Nat)), some (encR m.u), some (.int (m.t : Nat)), some (enc m.m)] S := by
      simp [encMk]
    have st3 : (mSet 4 (mL FR.minus (maC (mV 4) (maC (mL FR.times (maC (m2 ixO (mV 7) (mV 3)) (maC (m2 ixO (m2 ixO (mV 1) (mV 2)) (mV 5)) maN))) maN))) : MS) [some (encSh x), some (encSc sc), some (.int (day : Nat)), some (.int (i : Nat)), some (enc (z + (if m.g = i ∧ m.t ≤ day then scAt sc (day - m.t) k else 0))), some (.int (k : Nat)), some (.int (m.g : Nat)), some (encR m.u), some (.int (m.t : Nat)), some (enc m.m)] S =
        .ok (.nx, [some (encSh x), some (encSc sc), some (.int (day : Nat)), some (.int (i : Nat)), some (enc (z + (if m.g = i ∧ m.t ≤ day then scAt sc (day - m.t) k else 0) - m.u.getD i 0 * scAt sc day k)), some (.int (k : Nat)), some (.int (m.g : Nat)), some (encR m.u), some (.int (m.t : Nat)), some (enc m.m)]) S := by
      simp only [mSet_at, mL_at, maC_at, maN_at, m2_at, mV_at, List.getElem?_cons_succ, List.getElem?_cons_zero, m2K_ok, m2J_ok, maK_ok, maJ_ok, bind_ok, u1, r1, c1, tm, mi, setK_ok, List.set_cons_succ, List.set_cons_zero]
    have st2 : (mIfS (mAnd (mT (m2 eqO (mV 6) (mV 3))) (mT (m2 geO (mV 2) (mV 8))))
    (mSet 4 (mL FR.plus (maC (mV 4) (maC (m2 ixO (m2 ixO (mV 1) (m2 subO (mV 2) (mV 8))) (mV 5)) maN))))
    mNx : MS) [some (encSh x), some (encSc sc), some (.int (day : Nat)), some (.int (i : Nat)), some (enc z), some (.int (k : Nat)), some (.int (m.g : Nat)), some (encR m.u), some (.int (m.t : Nat)), some (enc m.m)] S =
        .ok (.nx, [some (encSh x), some (encSc sc), some (.int (day : Nat)), some (.int (i : Nat)), some (enc (z + (if m.g = i ∧ m.t ≤ day then scAt sc (day - m.t) k else 0))), some (.int (k : Nat)), some (.int (m.g : Nat)), some (encR m.u), some (.int (m.t : Nat)), some (enc m.m)]) S := by
      by_cases h1 : m.g = i
      · by_cases h2 : m.t ≤ day
        · have pl := plus_ok S (two_bd (hz.bd' e0 (by omega) e144) (co.bd' e0 (by decide) e144))
          rw [if_pos ⟨h1, h2⟩] at pl ⊢
          have r2 := row_at hs (d := day - m.t) (by omega) S
          have c2 := cell_at' hs (d := day - m.t) (j := k) (by omega) (by omega) S
          have ds := day_sub h2 S
          have g2 : (m.t : Int) ≤ (day : Int) := by omega
          simp only [mIfS_at, mAnd_at, mT_at, mSet_at, mL_at, maC_at, maN_at, m2_at, mV_at, List.getElem?_cons_succ, List.getElem?_cons_zero, m2K_ok, m2J_ok, eqO_int, h1, decide_true, tK_ok, andK_ok, if_true, cmpO_int, g2, ifSK_t, ds, r2, c2, maK_ok, maJ_ok, bind_ok, pl, setK_ok, List.set_cons_succ, List.set_cons_zero]
        · rw [if_neg fun h => h2 h.2, Rat.add_zero]
          have g2 : ¬ (m.t : Int) ≤ (day : Int) := by omega
          simp only [mIfS_at, mAnd_at, mT_at, m2_at, mV_at, List.getElem?_cons_succ, List.getElem?_cons_zero, m2K_ok, m2J_ok, eqO_int, h1, decide_true, tK_ok, andK_ok, if_true, cmpO_int, g2, decide_false, ifSK_f, mNx_at]
      · rw [if_neg fun h => h1 h.1, Rat.add_zero]
        have g2 : ¬ (m.g : Int) = (i : Int) := by omega
        simp only [mIfS_at, mAnd_at, mT_at, m2_at, mV_at, List.getElem?_cons_succ, List.getElem?_cons_zero, m2K_ok, m2J_ok, eqO_int, g2, decide_false, tK_ok, andK_ok, Bool.false_eq_true, if_false, ifSK_f, mNx_at]
    rw [turn_at, st1, turnK_ok]
    unfold chB
    rw [mSeq_at, st2, seqK_nx, st3, forN_nx]
include hN hx hs in
theorem change_ok {day i : Nat} (hd : day < x.dy) (hi : i < x.n) : m_change [encSh x, encSc sc, .int (day : Nat), .int (i : Nat)] S = .ok (enc (chg sc day i 0 x.ms)) S := by
  have l1 := hx.l1
  obtain ⟨y5, y6, y7, y8, y9, lp⟩ := change_loop hx hs S hN.e0 hN.e1 ⟨enumD 0 (x.ms.map encMk), none⟩ rfl hd hi x.ms 0 0 0 none none none none none hx.ms (by omega) (La.zero _ _) (by omega)
  rw [Rat.zero_add] at lp
  have eo : enumO [.tup (x.ms.map encMk)] S = .ok ⟨enumD 0 (x.ms.map encMk), none⟩ S := rfl
  simp only [m_change, defM_at]
  rw [startE_at]
  simp only [List.map_cons, List.map_nil, List.length_cons, List.length_nil, Nat.reduceAdd, Nat.reduceSub, List.reduceReplicate, if_true, List.cons_append, List.nil_append, mSeq_at, mSet_at, mC_at, setK_ok, List.set_cons_succ, List.set_cons_zero, seqK_nx, mFor_at, mArgI_at, maC_at, maN_at, m2_at, mV_at, List.getElem?_cons_zero, m2K_ok, m2J_ok, sh1, maK_ok, maJ_ok, bind_ok, eo, forK_ok]
  rw [show D.tup [.int 0, .int 1] = enc 0 from rfl]
  have lp' : forL (gT 2 (gsC (gN 5) (gsC (gT 4 (gsC (gN 6) (gsC (gN 7) (gsC (gN 8) (gsC (gN 9) gsN))))) gsN))) (mSeq (mIfS (mAnd (mT (m2 eqO (mV 6) (mV 3))) (mT (m2 geO (mV 2) (mV 8))))
    (mSet 4 (mL m_plus (maC (mV 4) (maC (m2 ixO (m2 ixO (mV 1) (m2 subO (mV 2) (mV 8))) (mV 5)) maN))))
    mNx)
    (mSet 4 (mL m_minus (maC (mV 4) (maC (mL m_times (maC (m2 ixO (mV 7) (mV 3)) (maC (m2 ixO (m2 ixO (mV 1) (mV 2)) (mV 5)) maN))) maN))))) ⟨enumD 0 (x.ms.map encMk), none⟩ (enumD 0 (x.ms.map encMk)) [some (encSh x), some (encSc sc), some (.int (day : Nat)), some (.int (i : Nat)), some (enc 0), none, none, none, none, none] S = _ := lp
  rw [lp']
  simp
end
end K23

namespace K23
open PySem PySem.Spec PyProof.Rows L2 DL FR
/-- a day's new stocks, from the k-th good on -/
def upd (x : Shop) (os : List Od) (sc : List (List Rat)) (day : Nat) : Nat → List Rat → List Rat
  | _, [] => []
  | k, q :: l => (q + chg sc day k 0 x.ms - due os day k) :: upd x os sc day (k + 1) l
theorem upd_len (x : Shop) (os : List Od) (sc : List (List Rat)) (day : Nat) : ∀ (k : Nat) (l : List Rat), (upd x os sc day k l).length = l.length
  | _, [] => rfl
  | k, q :: l => by rw [upd, List.length_cons, List.length_cons, upd_len]
theorem upd_get (x : Shop) (os : List Od) (sc : List (List Rat)) (day : Nat) : ∀ (l : List Rat) (k i : Nat) (q : Rat), l[i]? = some q → (upd x os sc day k l)[i]? = some (q + chg sc day (k + i) 0 x.ms - due os day (k + i))
  | [], _, _, _, h => by simp at h
  | p :: l, k, 0, q, h => by simp at h; subst h; rfl
  | p :: l, k, i + 1, q, h => by
    rw [upd, List.getElem?_cons_succ, upd_get x os sc day l (k + 1) i q (by simpa using h), show k + 1 + i = k + (i + 1) by omega]
theorem upd_vec (x : Shop) (os : List Od) (sc : List (List Rat)) (day : Nat) : upd x os sc day 0 (vec x.n (stk x os sc day)) = vec x.n (stk x os sc (day + 1)) := by
  refine vec_ext (by rw [upd_len, vec_len]) fun i q h => ?_
  have hi : i < x.n := by
    have := (List.getElem?_eq_some_iff.mp h).1
    rwa [upd_len, vec_len] at this
  rw [upd_get x os sc day _ 0 i _ (vec_get _ hi), Nat.zero_add] at h
  cases h
  rfl
noncomputable abbrev ldB : MS := (mDo (mMeth .lst appendO (mV 6) (maC (mL m_minus (maC (mL m_plus (maC (mV 8) (maC (mL m_change (maC (mV 0) (maC (mV 2) (maC (mV 3) (maC (mV 7) maN))))) maN))) (maC (mL m_due_on (maC (mV 1) (maC (mV 3) (maC (mV 7) maN)))) maN))) maN)))
theorem map_snoc {α : Type} (en : α → D) (as : List α) (a : α) : as.map en ++ [en a] = (as ++ [a]).map en := by simp
section
variable {e V A : Nat} {x : Shop} {os : List Od} {sc : List (List Rat)} (hN : Num e V A x os) (hx : Sh x) (ho : Os x os) (hs : Sc x sc)
include hN hx ho hs
theorem later_loop {it : Itm} (S1 : DS) (hok : ∀ X, it.okB (S1 ++ X)) {day : Nat} (hd : day < x.dy) (x4 x5 : Option D) : ∀ (l : List Rat) (k : Nat) (acc : List Rat) (x7 x8 : Option D), k + l.length ≤ x.n → acc.length = k → (∀ q ∈ l, La (144 * e) (2 ^ 39) q) →
    ∃ y7 y8, forL (gT 2 (gsC (gN 7) (gsC (gN 8) gsN))) ldB it (enumD k (l.map enc)) [some (encSh x), some (encOs os), some (encSc sc), some (.int (day : Nat)), x4, x5, some (.ref S1.length), x7, x8] (S1 ++ [.lst (acc.map enc)]) =
      .ok (.nx, [some (encSh x), some (encOs os), some (encSc sc), some (.int (day : Nat)), x4, x5, some (.ref S1.length), y7, y8]) (S1 ++ [.lst ((acc ++ upd x os sc day k l).map enc)])
  | [], k, acc, x7, x8, _, _, _ => ⟨x7, x8, by rw [List.map_nil, enumD, forL_nil' (hok _), upd, List.append_nil]⟩
  | q :: l, k, acc, x7, x8, hk, ha, hq => by
    rw [List.length_cons] at hk
    have n1 := hx.n1
    have e0 := hN.e0
    have e1 := hN.e1
    have a1 := hN.a1
    have e144 : 144 * e ≤ 2 ^ 40 := by omega
    have p144 : 0 < 144 * e := by omega
    obtain ⟨y7, y8, ih⟩ := later_loop S1 hok hd x4 x5 l (k + 1) (acc ++ [q + chg sc day k 0 x.ms - due os day k]) (some (.int (k : Nat))) (some (enc q)) (by omega) (by simp [ha]) (fun p hp => hq p (List.mem_cons_of_mem _ hp))
    refine ⟨y7, y8, ?_⟩
    have lq := hq q (List.mem_cons_self ..)
    have lc := (chg_la hs e0 day k x.ms 0 hx.ms).wide (show 30 * x.ms.length ≤ 180 by have := hx.l1; omega)
    have ld := (due_la (by omega) day k os hN.os).wide (show A * os.length ≤ 12 * A by rw [Nat.mul_comm]; exact Nat.mul_le_mul_right A ho.l)
    have ls := lq.add p144 lc
    generalize hS : S1 ++ [DO.lst (acc.map enc)] = S
    have c := change_ok hN hx hs S hd (i := k) (by omega)
    have d := due_on_ok hN ho S day k
    have p := plus_ok S (two_bd (lq.bd' p144 (by decide) e144) (lc.bd' p144 (by decide) e144))
    have m := minus_ok S (two_bd (ls.bd' p144 (by decide) e144) (ld.bd' p144 (by omega) e144))
    have ap := app_at (S := S1) (J := []) (ys := acc.map enc) (enc (q + chg sc day k 0 x.ms - due os day k)) (by rw [List.length_map]; omega)
    rw [hS] at ap
    have st : turn (gT 2 (gsC (gN 7) (gsC (gN 8) gsN))) ldB (.tup [.int (k : Nat), enc q]) [some (encSh x), some (encOs os), some (encSc sc), some (.int (day : Nat)), x4, x5, some (.ref S1.length), x7, x8] S =
        .ok (.nx, [some (encSh x), some (encOs os), some (encSc sc), some (.int (day : Nat)), x4, x5, some (.ref S1.length), some (.int (k : Nat)), some (enc q)]) (S1 ++ [.lst ((acc ++ [q + chg sc day k 0 x.ms - due os day k]).map enc)]) := by
      have g : (gT 2 (gsC (gN 7) (gsC (gN 8) gsN))) (.tup [.int (k : Nat), enc q]) [some (encSh x), some (encOs os), some (encSc sc), some (.int (day : Nat)), x4, x5, some (.ref S1.length), x7, x8] S = .ok [some (encSh x), some (encOs os), some (encSc sc), some (.int (day : Nat)), x4, x5, some (.ref S1.length), some (.int (k : Nat)), some (enc q)] S := by simp
      rw [turn_at, g, turnK_ok, ← map_snoc]
      unfold ldB
      simp only [mDo_at, mMeth_at, mV_at, List.getElem?_cons_succ, List.getElem?_cons_zero, methK_ok, RcT.ok, if_true, maC_at, maN_at, mL_at, maK_ok, maJ_ok, bind_ok, c, d, m_plus_, m_minus_, p, m, methJ_ok, ap, doK_ok]
    rw [List.map_cons, enumD, ← hS, forL_cons' (hok _), hS, st, forN_nx, ih, List.append_assoc]
    rfl
theorem stk_30 (d : Nat) (hd : d ≤ 7) : ∀ q ∈ vec x.n (stk x os sc d), La (144 * e) (2 ^ 39) q := fun q hq => by
  obtain ⟨i, _, rfl⟩ := vec_mem hq
  refine (stk_la hN hx ho.l hs i d).wide ?_
  have a1 := hN.a1
  have v1 := hN.v1
  have := Nat.mul_le_mul (show 180 + 12 * A ≤ 180 + 12 * 2 ^ 32 by omega) hd
  omega
end
theorem rowsD_succ (x : Shop) (os : List Od) (sc : List (List Rat)) (k : Nat) : rowsD x os sc (k + 1) = rowsD x os sc k ++ [encR (vec x.n (stk x os sc (k + 1)))] := by
  unfold rowsD
  rw [List.range_succ, List.map_append]
  rfl
theorem rowsD_len (x : Shop) (os : List Od) (sc : List (List Rat)) (k : Nat) : (rowsD x os sc k).length = k := by simp [rowsD]
noncomputable abbrev lbB : MS := (mSeq (mSet 6 (mL refO maN))
    (mSeq (mFor (mArgI enumO (maC (mV 4) maN)) (gT 2 (gsC (gN 7) (gsC (gN 8) gsN))) ldB)
    (mSeq (mSet 4 (mV 6))
    (mDo (mMeth .lst appendO (mV 5) (maC (mL tupleO (maC (mV 4) maN)) maN))))))
section
variable {e V A : Nat} {x : Shop} {os : List Od} {sc : List (List Rat)} (hN : Num e V A x os) (hx : Sh x) (ho : Os x os) (hs : Sc x sc)
include hN hx ho hs
theorem led_by_ok (S : DS) : ∃ J, Cl J ∧ m_led_by [encSh x, encOs os, encSc sc] S = .ok (.ref S.length) (S ++ .lst (rowsD x os sc x.dy) :: J) := by
  have d1 := hx.d1
  have n1 := hx.n1
  obtain ⟨env', S', e, ⟨x3, cur, x6, x7, x8, J, rfl, rfl, _, cJ⟩⟩ := forL_all (it := ⟨(List.range x.dy).map fun (i : Nat) => D.int (i : Int), none⟩) (mg := gN 3) (p := lbB) rfl
    (I := fun k env S1 => ∃ x3 cur x6 x7 x8 J, env = [some (encSh x), some (encOs os), some (encSc sc), x3, some cur, some (.ref S.length), x6, x7, x8] ∧ S1 = S ++ .lst (rowsD x os sc k) :: J ∧
      (cur = .vl ((vec x.n (stk x os sc k)).map enc) ∨ ∃ p, cur = .ref (S.length + 1 + p) ∧ J[p]? = some (.lst ((vec x.n (stk x os sc k)).map enc))) ∧ Cl J)
    ((List.range x.dy).map fun (i : Nat) => D.int (i : Int)) 0 [some (encSh x), some (encOs os), some (encSc sc), none, some (.vl ((vec x.n (stk x os sc 0)).map enc)), some (.ref S.length), none, none, none] (S ++ [.lst []])
    ⟨none, _, none, none, none, [], rfl, rfl, .inl rfl, fun n => rfl⟩ (fun k d hd env S1 hI => by
      obtain ⟨x3, cur, x6, x7, x8, J, rfl, rfl, hc, cJ⟩ := hI
      rw [Nat.zero_add] at hc ⊢
      have hk : k < x.dy := by
        by_cases z : k < x.dy
        · exact z
        · rw [List.getElem?_eq_none (by simp; omega)] at hd; cases hd
      rw [List.getElem?_map, List.getElem?_range hk] at hd
      cases hd
      generalize hT : S ++ DO.lst (rowsD x os sc k) :: J = T
      obtain ⟨it, hi, hit, hok⟩ : ∃ it : Itm, (∀ X, enumO [cur] (T ++ X) = .ok it (T ++ X)) ∧ it.items = enumD 0 ((vec x.n (stk x os sc k)).map enc) ∧ ∀ X, it.okB (T ++ X) := by
        rcases hc with rfl | ⟨p, rfl, hp⟩
        · exact ⟨⟨enumD 0 ((vec x.n (stk x os sc k)).map enc), none⟩, fun X => rfl, rfl, fun X => True.intro⟩
        · have hg : ∀ X, (T ++ X)[S.length + 1 + p]? = some (DO.lst ((vec x.n (stk x os sc k)).map enc)) := fun X => by
            have pl : p < J.length := (List.getElem?_eq_some_iff.mp hp).1
            rw [← hT, List.append_assoc, List.getElem?_append_right (by omega), show S.length + 1 + p - S.length = p + 1 by omega, List.cons_append, List.getElem?_cons_succ, List.getElem?_append_left pl, hp]
          refine ⟨⟨enumD 0 ((vec x.n (stk x os sc k)).map enc), some (S.length + 1 + p, (vec x.n (stk x os sc k)).map enc)⟩, fun X => ?_, rfl, fun X => hg X⟩
          show enumR _ _ = _
          unfold enumR
          rw [hg X]
      obtain ⟨y7, y8, lp⟩ := later_loop hN hx ho hs T hok hk (some cur) (some (.ref S.length)) (vec x.n (stk x os sc k)) 0 [] x7 x8 (by rw [vec_len]; omega) rfl (stk_30 hN hx ho hs k (by omega))
      rw [List.nil_append, upd_vec, List.map_nil] at lp
      have rf : refO [] T = .ok (.ref T.length) (T ++ [.lst []]) := refO_at T
      have tp := tupleO_ref (S := T) (J := []) (ys := (vec x.n (stk x os sc (k + 1))).map enc)
      have ap := app_at (S := S) (J := J ++ [.lst ((vec x.n (stk x os sc (k + 1))).map enc)]) (ys := rowsD x os sc k) (encR (vec x.n (stk x os sc (k + 1)))) (by rw [rowsD_len]; omega)
      have hT2 : S ++ DO.lst (rowsD x os sc k) :: (J ++ [.lst ((vec x.n (stk x os sc (k + 1))).map enc)]) = T ++ [.lst ((vec x.n (stk x os sc (k + 1))).map enc)] := by rw [← hT]; simp
      rw [hT2, ← rowsD_succ] at ap
      refine ⟨_, _, ?_, ⟨some (.int (k : Nat)), .ref T.length, some (.ref T.length), y7, y8, J ++ [.lst ((vec x.n (stk x os sc (k + 1))).map enc)], rfl, rfl, .inr ⟨J.length, ?_, ?_⟩, cJ.app fun n => under_encR n _⟩⟩
      · rw [turn_at, gN_at, turnK_ok]
        simp only [List.set_cons_succ, List.set_cons_zero]
        have st1 : (mSet 6 (mL refO maN) : MS) [some (encSh x), some (encOs os), some (encSc sc), some (.int (k : Nat)), some cur, some (.ref S.length), x6, x7, x8] T = .ok (.nx, [some (encSh x), some (encOs os), some (encSc sc), some (.int (k : Nat)), some cur, some (.ref S.length), some (.ref T.length), x7, x8]) (T ++ [.lst []]) := by
          simp only [mSet_at, mL_at, maN_at, bind_ok, rf, setK_ok, List.set_cons_succ, List.set_cons_zero]
        have st2 : (mFor (mArgI enumO (maC (mV 4) maN)) (gT 2 (gsC (gN 7) (gsC (gN 8) gsN))) ldB : MS) [some (encSh x), some (encOs os), some (encSc sc), some (.int (k : Nat)), some cur, some (.ref S.length), some (.ref T.length), x7, x8] (T ++ [.lst []]) =
            .ok (.nx, [some (encSh x), some (encOs os), some (encSc sc), some (.int (k : Nat)), some cur, some (.ref S.length), some (.ref T.length), y7, y8]) (T ++ [.lst ((vec x.n (stk x os sc (k + 1))).map enc)]) := by
          simp only [mFor_at, mArgI_at, maC_at, mV_at, maN_at, List.getElem?_cons_succ, List.getElem?_cons_zero, maK_ok, maJ_ok, bind_ok, hi, forK_ok, hit, lp]
        unfold lbB
        rw [mSeq_at, st1, seqK_nx, mSeq_at, st2, seqK_nx]
        simp only [mSeq_at, mSet_at, mV_at, List.getElem?_cons_succ, List.getElem?_cons_zero, setK_ok, List.set_cons_succ, List.set_cons_zero, seqK_nx, mDo_at, mMeth_at, methK_ok, RcT.ok, if_true, maC_at, mL_at, maN_at, maK_ok, maJ_ok, bind_ok, tp, methJ_ok]
        rw [show D.tup ((vec x.n (stk x os sc (k + 1))).map enc) = encR (vec x.n (stk x os sc (k + 1))) from rfl, ap]
        rfl
      · rw [← hT]; simp; omega
      · rw [List.getElem?_append_right (Nat.le_refl _), Nat.sub_self]; rfl)
  refine ⟨J, cJ, ?_⟩
  have lo : listO [encR x.st] S = .ok (.vl (x.st.map enc)) S := rfl
  have vs : x.st = vec x.n (stk x os sc 0) := vec_self hx.sl
  have rf : refO [] S = .ok (.ref S.length) (S ++ [.lst []]) := refO_at S
  simp only [m_led_by, defM_at]
  rw [startE_at]
  simp only [List.map_cons, List.map_nil, List.length_cons, List.length_nil, Nat.reduceAdd, Nat.reduceSub, List.reduceReplicate, if_true, List.cons_append, List.nil_append, mSeq_at, mPar_at, maC_at, maN_at, mL_at, m2_at, mV_at, mC_at, List.getElem?_cons_zero, m2K_ok, m2J_ok, sh2, maK_ok, maJ_ok, bind_ok, lo, rf, parK_ok, List.set_cons_succ, List.set_cons_zero, seqK_nx, mFor_at, mArgI_at, sh3, rng x.dy (by omega), forK_ok]
  rw [← vs] at e
  have e' : forL (gN 3) (mSeq (mSet 6 (mL refO maN))
    (mSeq (mFor (mArgI enumO (maC (mV 4) maN)) (gT 2 (gsC (gN 7) (gsC (gN 8) gsN)))
    (mDo (mMeth .lst appendO (mV 6) (maC (mL m_minus (maC (mL m_plus (maC (mV 8) (maC (mL m_change (maC (mV 0) (maC (mV 2) (maC (mV 3) (maC (mV 7) maN))))) maN))) (maC (mL m_due_on (maC (mV 1) (maC (mV 3) (maC (mV 7) maN)))) maN))) maN))))
    (mSeq (mSet 4 (mV 6))
    (mDo (mMeth .lst appendO (mV 5) (maC (mL tupleO (maC (mV 4) maN)) maN)))))) ⟨(List.range x.dy).map fun (i : Nat) => D.int (i : Int), none⟩ ((List.range x.dy).map fun (i : Nat) => D.int (i : Int)) [some (encSh x), some (encOs os), some (encSc sc), none, some (.vl (x.st.map enc)), some (.ref S.length), none, none, none] (S ++ [.lst []]) = _ := e
  rw [e']
  simp
end
end K23

namespace K23
open PySem PySem.Spec PyProof.Rows L2 DL FR
/-! the law's own stocks -/
theorem ref_ix {S J : DS} {ys : List D} {i : Nat} {d : D} (h : ys[i]? = some d) : ixO (.ref S.length) (.int (i : Nat)) (S ++ .lst ys :: J) = .ok d (S ++ .lst ys :: J) := by
  unfold ixO
  simp only [ref_at]
  exact getI_nat (by omega) (by simpa using h)
theorem ref_set {S J : DS} {ys : List D} {i : Nat} {d : D} (h : i < ys.length) : setO (.ref S.length) (.int (i : Nat)) d (S ++ .lst ys :: J) = .ok () (S ++ .lst (ys.set i d) :: J) := by
  rw [FR.setO_at S.length ys _ i d ref_at h, List.set_append_right _ _ (Nat.le_refl _), Nat.sub_self]
  rfl
theorem vec_setE {n g : Nat} (f : Nat → Rat) (a : Rat) (h : g < n) : ((vec n f).map enc).set g (enc (f g + a)) = (vec n (fun i => f i + if g = i then a else 0)).map enc := by
  rw [← List.map_set, vec_set f a h]
def useS (y : Rat) (i : Nat) : Nat → List Rat → Rat
  | _, [] => 0
  | k, u :: l => (if k = i then u * y else 0) + useS y i (k + 1) l
theorem useS_lt (y : Rat) (i : Nat) : ∀ (l : List Rat) (k : Nat), i < k → useS y i k l = 0
  | [], _, _ => rfl
  | u :: l, k, h => by rw [useS, if_neg (by omega), useS_lt y i l (k + 1) (by omega), Rat.zero_add]
theorem useS_get (y : Rat) (i : Nat) : ∀ (l : List Rat) (k : Nat), k ≤ i → useS y i k l = l.getD (i - k) 0 * y
  | [], _, _ => by simp [useS]
  | u :: l, k, h => by
    rw [useS]
    by_cases z : k = i
    · rw [if_pos z, useS_lt y i l (k + 1) (by omega), Rat.add_zero, z, Nat.sub_self]; rfl
    · rw [if_neg z, useS_get y i l (k + 1) (by omega), Rat.zero_add, show i - k = (i - (k + 1)) + 1 by omega]
      rfl
noncomputable abbrev luB : MS := mAsg (gSubM (mV 4) (mV 13) setO) (mL m_law_less (maC (m2 ixO (mV 4) (mV 13)) (maC (mL m_law_mul (maC (mV 14) (maC (m2 ixO (m2 ixO (mV 2) (mV 3)) (mV 6)) maN))) maN)))
noncomputable abbrev lmB : MS := (mSeq (mIfS (mT (m2 geO (mV 3) (mV 11)))
    (mAsg (gSubM (mV 4) (mV 7) setO) (mL m_law_add (maC (m2 ixO (mV 4) (mV 7)) (maC (m2 ixO (m2 ixO (mV 2) (m2 subO (mV 3) (mV 11))) (mV 6)) maN))))
    mNx)
    (mFor (mArgI enumO (maC (mV 10) maN)) (gT 2 (gsC (gN 13) (gsC (gN 14) gsN))) luB))
noncomputable abbrev loB : MS := (mIfS (mT (m2 eqO (mV 9) (mV 3)))
    (mAsg (gSubM (mV 4) (mV 7) setO) (mL m_law_less (maC (m2 ixO (mV 4) (mV 7)) (maC (mV 8) maN))))
    mNx)
section
variable {e V A : Nat} {x : Shop} {os : List Od} {sc : List (List Rat)} (hN : Num e V A x os) (hx : Sh x) (hs : Sc x sc)
include hN hx hs
theorem uses_loop2 {it : Itm} (hg : it.g = none) (S J : DS) {day at' : Nat} (hd : day < x.dy) (hat : at' < x.ms.length) (x1 x5 x7 x8 x9 x10 x11 x12 : Option D) : ∀ (l : List Rat) (k K : Nat) (f : Nat → Rat) (x13 x14 : Option D), k + l.length = x.n → (∀ q ∈ l, Po 2 2 q) → (∀ i, La (144 * e) K (f i)) → K + 20 * l.length ≤ 2 ^ 40 →
    ∃ y13 y14, forL (gT 2 (gsC (gN 13) (gsC (gN 14) gsN))) luB it (enumD k (l.map enc)) [some (encSh x), x1, some (encSc sc), some (.int (day : Nat)), some (.ref S.length), x5, some (.int (at' : Nat)), x7, x8, x9, x10, x11, x12, x13, x14] (S ++ .lst ((vec x.n f).map enc) :: J) =
      .ok (.nx, [some (encSh x), x1, some (encSc sc), some (.int (day : Nat)), some (.ref S.length), x5, some (.int (at' : Nat)), x7, x8, x9, x10, x11, x12, y13, y14]) (S ++ .lst ((vec x.n fun i => f i - useS (scAt sc day at') i k l).map enc) :: J)
  | [], k, K, f, x13, x14, hk, _, _, _ => ⟨x13, x14, by
    rw [List.map_nil, enumD, forL_nil hg]
    have : (fun i => f i - useS (scAt sc day at') i k []) = f := funext fun i => by rw [useS, Rat.sub_eq_add_neg, Rat.neg_zero, Rat.add_zero]
    rw [this]⟩
  | u :: l, k, K, f, x13, x14, hk, hq, hf, hK => by
    rw [List.length_cons] at hk hK
    have e0 := hN.e0
    have e1 := hN.e1
    have e144 : 144 * e ≤ 2 ^ 40 := by omega
    have p144 : 0 < 144 * e := by omega
    have lu := hq u (List.mem_cons_self ..)
    have ly := sc_po hs day at'
    have la : La (144 * e) 20 (u * scAt sc day at') := by
      have := (lu.2.mul ly.2).lift (k := e) e0
      rwa [show 2 * 72 * e = 144 * e by omega] at this
    have lf : ∀ i, La (144 * e) (K + 20) (f i + if k = i then -(u * scAt sc day at') else 0) := fun i => by
      refine (hf i).add p144 ?_
      split
      · exact la.neg
      · exact La.zero _ _
    obtain ⟨y13, y14, ih⟩ := uses_loop2 hg S J hd hat x1 x5 x7 x8 x9 x10 x11 x12 l (k + 1) (K + 20) (fun i => f i + if k = i then -(u * scAt sc day at') else 0) (some (.int (k : Nat))) (some (enc u)) (by omega) (fun p hp => hq p (List.mem_cons_of_mem _ hp)) lf (by omega)
    refine ⟨y13, y14, ?_⟩
    have ef : (fun i => (f i + if k = i then -(u * scAt sc day at') else 0) - useS (scAt sc day at') i (k + 1) l) = fun i => f i - useS (scAt sc day at') i k (u :: l) := funext fun i => by
      rw [useS]
      split <;> grind
    rw [ef] at ih
    have kn : k < x.n := by omega
    have hk2 : k < ((vec x.n f).map enc).length := by rw [List.length_map, vec_len]; exact kn
    have rx := ref_ix (S := S) (J := J) (ys := (vec x.n f).map enc) (i := k) (d := enc (f k)) (by rw [List.getElem?_map, vec_get f kn]; rfl)
    have st := ref_set (S := S) (J := J) (ys := (vec x.n f).map enc) (i := k) (d := enc (f k + -(u * scAt sc day at'))) hk2
    rw [vec_setE f _ kn] at st
    generalize hS : S ++ DO.lst ((vec x.n f).map enc) :: J = T at rx st ⊢
    have r1 := row_at hs hd T
    have c1 := cell_at' hs hd hat T
    have mu := mul_ok T (two_bd (lu.2.bd' (by decide) (by decide) (by decide)) (ly.2.bd' (by decide) (by decide) (by decide)))
    have le := less_ok T (two_bd ((hf k).bd' p144 (by omega) e144) (la.bd' p144 (by decide) e144))
    rw [Rat.sub_eq_add_neg] at le
    have g : (gT 2 (gsC (gN 13) (gsC (gN 14) gsN))) (.tup [.int (k : Nat), enc u]) [some (encSh x), x1, some (encSc sc), some (.int (day : Nat)), some (.ref S.length), x5, some (.int (at' : Nat)), x7, x8, x9, x10, x11, x12, x13, x14] T =
        .ok [some (encSh x), x1, some (encSc sc), some (.int (day : Nat)), some (.ref S.length), x5, some (.int (at' : Nat)), x7, x8, x9, x10, x11, x12, some (.int (k : Nat)), some (enc u)] T := by simp
    have tn : turn (gT 2 (gsC (gN 13) (gsC (gN 14) gsN))) luB (.tup [.int (k : Nat), enc u]) [some (encSh x), x1, some (encSc sc), some (.int (day : Nat)), some (.ref S.length), x5, some (.int (at' : Nat)), x7, x8, x9, x10, x11, x12, x13, x14] T =
        .ok (.nx, [some (encSh x), x1, some (encSc sc), some (.int (day : Nat)), some (.ref S.length), x5, some (.int (at' : Nat)), x7, x8, x9, x10, x11, x12, some (.int (k : Nat)), some (enc u)]) (S ++ .lst ((vec x.n fun i => f i + if k = i then -(u * scAt sc day at') else 0).map enc) :: J) := by
      rw [turn_at, g, turnK_ok]
      unfold luB
      simp only [mAsg_at, mL_at, maC_at, maN_at, m2_at, mV_at, List.getElem?_cons_succ, List.getElem?_cons_zero, m2K_ok, m2J_ok, rx, r1, c1, maK_ok, maJ_ok, bind_ok, mu, le, asgK_ok, gSubM_at, gSubK_ok, gSubJ_ok, st, gSubI_ok, gK_ok]
    rw [List.map_cons, enumD, forL_cons hg, tn, forN_nx, ih]
/-- the methods of a day -/
theorem meth_loop {it : Itm} (hg : it.g = none) (S J : DS) {day : Nat} (hd : day < x.dy) (x1 x5 x8 x9 : Option D) : ∀ (l : List Mk) (k K : Nat) (f : Nat → Rat) (x6 x7 x10 x11 x12 x13 x14 : Option D), k + l.length ≤ x.ms.length → (∀ m ∈ l, DMk x.n m) → (∀ i, La (144 * e) K (f i)) → K + 100 * l.length ≤ 2 ^ 40 →
    ∃ y6 y7 y10 y11 y12 y13 y14, forL (gT 2 (gsC (gN 6) (gsC (gT 4 (gsC (gN 7) (gsC (gN 10) (gsC (gN 11) (gsC (gN 12) gsN))))) gsN))) lmB it (enumD k (l.map encMk)) [some (encSh x), x1, some (encSc sc), some (.int (day : Nat)), some (.ref S.length), x5, x6, x7, x8, x9, x10, x11, x12, x13, x14] (S ++ .lst ((vec x.n f).map enc) :: J) =
      .ok (.nx, [some (encSh x), x1, some (encSc sc), some (.int (day : Nat)), some (.ref S.length), x5, y6, y7, x8, x9, y10, y11, y12, y13, y14]) (S ++ .lst ((vec x.n fun i => f i + chg sc day i k l).map enc) :: J)
  | [], k, K, f, x6, x7, x10, x11, x12, x13, x14, _, _, _, _ => ⟨x6, x7, x10, x11, x12, x13, x14, by
    rw [List.map_nil, enumD, forL_nil hg]
    have : (fun i => f i + chg sc day i k []) = f := funext fun i => by rw [chg, Rat.add_zero]
    rw [this]⟩
  | m :: l, k, K, f, x6, x7, x10, x11, x12, x13, x14, hk, hm, hf, hK => by
    rw [List.length_cons] at hk hK
    have n1 := hx.n1
    have e0 := hN.e0
    have e1 := hN.e1
    have e144 : 144 * e ≤ 2 ^ 40 := by omega
    have p144 : 0 < 144 * e := by omega
    have dm := hm m (List.mem_cons_self ..)
    have co := fun i => come_la hs e0 m day i k
    have lf1 : ∀ i, La (144 * e) (K + 10) (f i + if m.g = i ∧ m.t ≤ day then scAt sc (day - m.t) k else 0) := fun i => (hf i).add p144 (co i)
    have lf2 : ∀ i, La (144 * e) (K + 10 + 20) ((f i + if m.g = i ∧ m.t ≤ day then scAt sc (day - m.t) k else 0) - useS (scAt sc day k) i 0 m.u) := fun i => by
      rw [useS_get _ _ _ _ (Nat.zero_le i), Nat.sub_zero]
      exact (lf1 i).sub p144 (go_la hs e0 dm day i k)
    obtain ⟨y13, y14, ul⟩ := uses_loop2 hN hx hs (it := ⟨enumD 0 (m.u.map enc), none⟩) rfl S J hd (at' := k) (by omega) x1 x5 (some (.int (m.g : Nat))) x8 x9 (some (encR m.u)) (some (.int (m.t : Nat))) (some (enc m.m)) m.u 0 (K + 10) (fun i => f i + if m.g = i ∧ m.t ≤ day then scAt sc (day - m.t) k else 0) x13 x14 (by rw [dm.l]; omega) dm.u lf1 (by rw [dm.l]; omega)
    obtain ⟨y6, y7, y10, y11, y12, z13, z14, ih⟩ := meth_loop hg S J hd x1 x5 x8 x9 l (k + 1) (K + 10 + 20) (fun i => (f i + if m.g = i ∧ m.t ≤ day then scAt sc (day - m.t) k else 0) - useS (scAt sc day k) i 0 m.u) (some (.int (k : Nat))) (some (.int (m.g : Nat))) (some (encR m.u)) (some (.int (m.t : Nat))) (some (enc m.m)) y13 y14 (by omega) (fun m' hm' => hm m' (List.mem_cons_of_mem _ hm')) lf2 (by omega)
    refine ⟨y6, y7, y10, y11, y12, z13, z14, ?_⟩
    have ef : (fun i => ((f i + if m.g = i ∧ m.t ≤ day then scAt sc (day - m.t) k else 0) - useS (scAt sc day k) i 0 m.u) + chg sc day i (k + 1) l) = fun i => f i + chg sc day i k (m :: l) := funext fun i => by
      rw [useS_get _ _ _ _ (Nat.zero_le i), Nat.sub_zero, chg]
      grind
    rw [ef] at ih
    have gn : m.g < x.n := dm.g
    have g : (gT 2 (gsC (gN 6) (gsC (gT 4 (gsC (gN 7) (gsC (gN 10) (gsC (gN 11) (gsC (gN 12) gsN))))) gsN))) (.tup [.int (k : Nat), encMk m]) [some (encSh x), x1, some (encSc sc), some (.int (day : Nat)), some (.ref S.length), x5, x6, x7, x8, x9, x10, x11, x12, x13, x14] (S ++ .lst ((vec x.n f).map enc) :: J) =
        .ok [some (encSh x), x1, some (encSc sc), some (.int (day : Nat)), some (.ref S.length), x5, some (.int (k : Nat)), some (.int (m.g : Nat)), x8, x9, some (encR m.u), some (.int (m.t : Nat)), some (enc m.m), x13, x14] (S ++ .lst ((vec x.n f).map enc) :: J) := by simp [encMk]
    have st1 : (mIfS (mT (m2 geO (mV 3) (mV 11)))
    (mAsg (gSubM (mV 4) (mV 7) setO) (mL m_law_add (maC (m2 ixO (mV 4) (mV 7)) (maC (m2 ixO (m2 ixO (mV 2) (m2 subO (mV 3) (mV 11))) (mV 6)) maN))))
    mNx : MS) [some (encSh x), x1, some (encSc sc), some (.int (day : Nat)), some (.ref S.length), x5, some (.int (k : Nat)), some (.int (m.g : Nat)), x8, x9, some (encR m.u), some (.int (m.t : Nat)), some (enc m.m), x13, x14] (S ++ .lst ((vec x.n f).map enc) :: J) =
        .ok (.nx, [some (encSh x), x1, some (encSc sc), some (.int (day : Nat)), some (.ref S.length), x5, some (.int (k : Nat)), some (.int (m.g : Nat)), x8, x9, some (encR m.u), some (.int (m.t : Nat)), some (enc m.m), x13, x14]) (S ++ .lst ((vec x.n fun i => f i + if m.g = i ∧ m.t ≤ day then scAt sc (day - m.t) k else 0).map enc) :: J) := by
      by_cases h2 : m.t ≤ day
      · have hk2 : m.g < ((vec x.n f).map enc).length := by rw [List.length_map, vec_len]; exact gn
        have rx := ref_ix (S := S) (J := J) (ys := (vec x.n f).map enc) (i := m.g) (d := enc (f m.g)) (by rw [List.getElem?_map, vec_get f gn]; rfl)
        have st := ref_set (S := S) (J := J) (ys := (vec x.n f).map enc) (i := m.g) (d := enc (f m.g + scAt sc (day - m.t) k)) hk2
        rw [vec_setE f _ gn] at st
        have es : (fun i => f i + if m.g = i ∧ m.t ≤ day then scAt sc (day - m.t) k else 0) = fun i => f i + if m.g = i then scAt sc (day - m.t) k else 0 := funext fun i => by
          by_cases z : m.g = i
          · rw [if_pos ⟨z, h2⟩, if_pos z]
          · rw [if_neg fun h => z h.1, if_neg z]
        rw [es]
        generalize hS : S ++ DO.lst ((vec x.n f).map enc) :: J = T at rx st ⊢
        have r1 := row_at hs (d := day - m.t) (by omega) T
        have c1 := cell_at' hs (d := day - m.t) (j := k) (by omega) (by omega) T
        have ds := day_sub h2 T
        have g2 : (m.t : Int) ≤ (day : Int) := by omega
        have ly := sc_po hs (day - m.t) k
        have ad := add_ok T (two_bd ((hf m.g).bd' p144 (by omega) e144) (ly.2.bd' (by decide) (by decide) (by decide)))
        simp only [mIfS_at, mT_at, mAsg_at, mL_at, maC_at, maN_at, m2_at, mV_at, List.getElem?_cons_succ, List.getElem?_cons_zero, m2K_ok, m2J_ok, cmpO_int, g2, decide_true, tK_ok, ifSK_t, rx, ds, r1, c1, maK_ok, maJ_ok, bind_ok, ad, asgK_ok, gSubM_at, gSubK_ok, gSubJ_ok, st, gSubI_ok, gK_ok]
      · have es : (fun i => f i + if m.g = i ∧ m.t ≤ day then scAt sc (day - m.t) k else 0) = f := funext fun i => by
          rw [if_neg fun h => h2 h.2, Rat.add_zero]
        rw [es]
        have g2 : ¬ (m.t : Int) ≤ (day : Int) := by omega
        simp only [mIfS_at, mT_at, m2_at, mV_at, List.getElem?_cons_succ, List.getElem?_cons_zero, m2K_ok, m2J_ok, cmpO_int, g2, decide_false, tK_ok, ifSK_f, mNx_at]
    have eo : ∀ T, enumO [encR m.u] T = .ok ⟨enumD 0 (m.u.map enc), none⟩ T := fun T => rfl
    have st2 : (mFor (mArgI enumO (maC (mV 10) maN)) (gT 2 (gsC (gN 13) (gsC (gN 14) gsN))) luB : MS) [some (encSh x), x1, some (encSc sc), some (.int (day : Nat)), some (.ref S.length), x5, some (.int (k : Nat)), some (.int (m.g : Nat)), x8, x9, some (encR m.u), some (.int (m.t : Nat)), some (enc m.m), x13, x14] (S ++ .lst ((vec x.n fun i => f i + if m.g = i ∧ m.t ≤ day then scAt sc (day - m.t) k else 0).map enc) :: J) =
        .ok (.nx, [some (encSh x), x1, some (encSc sc), some (.int (day : Nat)), some (.ref S.length), x5, some (.int (k : Nat)), some (.int (m.g : Nat)), x8, x9, some (encR m.u), some (.int (m.t : Nat)), some (enc m.m), y13, y14]) (S ++ .lst ((vec x.n fun i => (f i + if m.g = i ∧ m.t ≤ day then scAt sc (day - m.t) k else 0) - useS (scAt sc day k) i 0 m.u).map enc) :: J) := by
      simp only [mFor_at, mArgI_at, maC_at, mV_at, maN_at, List.getElem?_cons_succ, List.getElem?_cons_zero, maK_ok, maJ_ok, bind_ok, eo, forK_ok, ul]
    have tn : turn (gT 2 (gsC (gN 6) (gsC (gT 4 (gsC (gN 7) (gsC (gN 10) (gsC (gN 11) (gsC (gN 12) gsN))))) gsN))) lmB (.tup [.int (k : Nat), encMk m]) [some (encSh x), x1, some (encSc sc), some (.int (day : Nat)), some (.ref S.length), x5, x6, x7, x8, x9, x10, x11, x12, x13, x14] (S ++ .lst ((vec x.n f).map enc) :: J) =
        .ok (.nx, [some (encSh x), x1, some (encSc sc), some (.int (day : Nat)), some (.ref S.length), x5, some (.int (k : Nat)), some (.int (m.g : Nat)), x8, x9, some (encR m.u), some (.int (m.t : Nat)), some (enc m.m), y13, y14]) (S ++ .lst ((vec x.n fun i => (f i + if m.g = i ∧ m.t ≤ day then scAt sc (day - m.t) k else 0) - useS (scAt sc day k) i 0 m.u).map enc) :: J) := by
      rw [turn_at, g, turnK_ok]
      unfold lmB
      rw [mSeq_at, st1, seqK_nx, st2]
    rw [List.map_cons, enumD, forL_cons hg, tn, forN_nx, ih]
omit hs in
/-- the orders of a day -/
theorem ord_loop {it : Itm} (S J : DS) (hok : ∀ X, it.okB (S ++ X)) {day : Nat} (x1 x2 x5 x6 x10 x11 x12 x13 x14 : Option D) : ∀ (l : List Od) (K : Nat) (f : Nat → Rat) (x7 x8 x9 : Option D), (∀ o ∈ l, o.g < x.n ∧ La (144 * e) A o.a) → (∀ i, La (144 * e) K (f i)) → K + A * l.length ≤ 2 ^ 40 →
    ∃ y7 y8 y9, forL (gT 3 (gsC (gN 7) (gsC (gN 8) (gsC (gN 9) gsN)))) loB it (l.map encOd) [some (encSh x), x1, x2, some (.int (day : Nat)), some (.ref S.length), x5, x6, x7, x8, x9, x10, x11, x12, x13, x14] (S ++ .lst ((vec x.n f).map enc) :: J) =
      .ok (.nx, [some (encSh x), x1, x2, some (.int (day : Nat)), some (.ref S.length), x5, x6, y7, y8, y9, x10, x11, x12, x13, x14]) (S ++ .lst ((vec x.n fun i => f i - due l day i).map enc) :: J)
  | [], K, f, x7, x8, x9, _, _, _ => ⟨x7, x8, x9, by
    rw [List.map_nil, forL_nil' (hok _)]
    have : (fun i => f i - due [] day i) = f := funext fun i => by
      show f i - 0 = f i
      rw [Rat.sub_eq_add_neg, Rat.neg_zero, Rat.add_zero]
    rw [this]⟩
  | o :: l, K, f, x7, x8, x9, ho, hf, hK => by
    rw [List.length_cons, Nat.mul_succ] at hK
    have e0 := hN.e0
    have e1 := hN.e1
    have a1 := hN.a1
    have e144 : 144 * e ≤ 2 ^ 40 := by omega
    have p144 : 0 < 144 * e := by omega
    obtain ⟨gn, la⟩ := ho o (List.mem_cons_self ..)
    have lf : ∀ i, La (144 * e) (K + A) (f i - if o.g = i ∧ o.w = day then o.a else 0) := fun i => by
      refine (hf i).sub p144 ?_
      split
      · exact la
      · exact La.zero _ _
    obtain ⟨y7, y8, y9, ih⟩ := ord_loop S J hok x1 x2 x5 x6 x10 x11 x12 x13 x14 l (K + A) (fun i => f i - if o.g = i ∧ o.w = day then o.a else 0) (some (.int (o.g : Nat))) (some (enc o.a)) (some (.int (o.w : Nat))) (fun p hp => ho p (List.mem_cons_of_mem _ hp)) lf (by omega)
    refine ⟨y7, y8, y9, ?_⟩
    have ef : (fun i => (f i - if o.g = i ∧ o.w = day then o.a else 0) - due l day i) = fun i => f i - due (o :: l) day i := funext fun i => by
      show _ = f i - ((if o.g = i ∧ o.w = day then o.a else 0) + due l day i)
      grind
    rw [ef] at ih
    have g : (gT 3 (gsC (gN 7) (gsC (gN 8) (gsC (gN 9) gsN)))) (encOd o) [some (encSh x), x1, x2, some (.int (day : Nat)), some (.ref S.length), x5, x6, x7, x8, x9, x10, x11, x12, x13, x14] (S ++ .lst ((vec x.n f).map enc) :: J) =
        .ok [some (encSh x), x1, x2, some (.int (day : Nat)), some (.ref S.length), x5, x6, some (.int (o.g : Nat)), some (enc o.a), some (.int (o.w : Nat)), x10, x11, x12, x13, x14] (S ++ .lst ((vec x.n f).map enc) :: J) := by simp [encOd]
    have tn : turn (gT 3 (gsC (gN 7) (gsC (gN 8) (gsC (gN 9) gsN)))) loB (encOd o) [some (encSh x), x1, x2, some (.int (day : Nat)), some (.ref S.length), x5, x6, x7, x8, x9, x10, x11, x12, x13, x14] (S ++ .lst ((vec x.n f).map enc) :: J) =
        .ok (.nx, [some (encSh x), x1, x2, some (.int (day : Nat)), some (.ref S.length), x5, x6, some (.int (o.g : Nat)), some (enc o.a), some (.int (o.w : Nat)), x10, x11, x12, x13, x14]) (S ++ .lst ((vec x.n fun i => f i - if o.g = i ∧ o.w = day then o.a else 0).map enc) :: J) := by
      rw [turn_at, g, turnK_ok]
      unfold loB
      by_cases h2 : o.w = day
      · have hk2 : o.g < ((vec x.n f).map enc).length := by rw [List.length_map, vec_len]; exact gn
        have rx := ref_ix (S := S) (J := J) (ys := (vec x.n f).map enc) (i := o.g) (d := enc (f o.g)) (by rw [List.getElem?_map, vec_get f gn]; rfl)
        have st := ref_set (S := S) (J := J) (ys := (vec x.n f).map enc) (i := o.g) (d := enc (f o.g + -o.a)) hk2
        rw [vec_setE f _ gn] at st
        have es : (fun i => f i - if o.g = i ∧ o.w = day then o.a else 0) = fun i => f i + if o.g = i then -o.a else 0 := funext fun i => by
          by_cases z : o.g = i
          · rw [if_pos ⟨z, h2⟩, if_pos z, Rat.sub_eq_add_neg]
          · rw [if_neg fun h => z h.1, if_neg z, Rat.sub_eq_add_neg, Rat.neg_zero]
        rw [es]
        generalize hS : S ++ DO.lst ((vec x.n f).map enc) :: J = T at rx st ⊢
        have le := less_ok T (two_bd ((hf o.g).bd' p144 (by omega) e144) (la.bd' p144 (by omega) e144))
        rw [Rat.sub_eq_add_neg] at le
        simp only [mIfS_at, mT_at, mAsg_at, mL_at, maC_at, maN_at, m2_at, mV_at, List.getElem?_cons_succ, List.getElem?_cons_zero, m2K_ok, m2J_ok, eqO_int, h2, decide_true, tK_ok, ifSK_t, rx, maK_ok, maJ_ok, bind_ok, le, asgK_ok, gSubM_at, gSubK_ok, gSubJ_ok, st, gSubI_ok, gK_ok]
      · have es : (fun i => f i - if o.g = i ∧ o.w = day then o.a else 0) = f := funext fun i => by
          rw [if_neg fun h => h2 h.2, Rat.sub_eq_add_neg, Rat.neg_zero, Rat.add_zero]
        rw [es]
        have g2 : ¬ (o.w : Int) = (day : Int) := by omega
        simp only [mIfS_at, mT_at, m2_at, mV_at, List.getElem?_cons_succ, List.getElem?_cons_zero, m2K_ok, m2J_ok, eqO_int, g2, decide_false, tK_ok, ifSK_f, mNx_at]
    rw [List.map_cons, forL_cons' (hok _), tn, forN_nx, ih]
end
end K23

namespace K23
open PySem PySem.Spec PyProof.Rows L2 DL FR
/-- orders, as a tuple or as a list that stands in S -/
def OrdAt (od : D) (os : List Od) (S : DS) : Prop := ∃ it : Itm, (∀ X, asItm od (S ++ X) = .ok it (S ++ X)) ∧ it.items = os.map encOd ∧ ∀ X, it.okB (S ++ X)
theorem OrdAt.tup (os : List Od) (S : DS) : OrdAt (encOs os) os S := ⟨⟨os.map encOd, none⟩, fun X => rfl, rfl, fun X => True.intro⟩
theorem OrdAt.ref {os : List Od} {S : DS} {p : Nat} (h : S[p]? = some (.lst (os.map encOd))) : OrdAt (.ref p) os S := by
  have hl : p < S.length := (List.getElem?_eq_some_iff.mp h).1
  have h2 : ∀ X, (S ++ X)[p]? = some (DO.lst (os.map encOd)) := fun X => by rw [List.getElem?_append_left hl, h]
  refine ⟨⟨os.map encOd, some (p, os.map encOd)⟩, fun X => ?_, rfl, fun X => h2 X⟩
  show refItm p (S ++ X) = _
  unfold refItm
  simp only [h2 X]
noncomputable abbrev llB : MS := (mSeq (mFor (mArgI enumO (maC (m2 ixO (mV 0) (mC (.int 1))) maN)) (gT 2 (gsC (gN 6) (gsC (gT 4 (gsC (gN 7) (gsC (gN 10) (gsC (gN 11) (gsC (gN 12) gsN))))) gsN))) lmB)
    (mSeq (mFor (mSeqI (mV 1)) (gT 3 (gsC (gN 7) (gsC (gN 8) (gsC (gN 9) gsN)))) loB)
    (mDo (mMeth .lst appendO (mV 5) (maC (mL tupleO (maC (mV 4) maN)) maN)))))
section
variable {e V A : Nat} {x : Shop} {os : List Od} {sc : List (List Rat)} (hN : Num e V A x os) (hx : Sh x) (ho : Os x os) (hs : Sc x sc)
include hN hx ho hs
theorem stk_30' (d : Nat) (hd : d ≤ 7) (i : Nat) : La (144 * e) (2 ^ 39) (stk x os sc d i) := by
  refine (stk_la hN hx ho.l hs i d).wide ?_
  have a1 := hN.a1
  have v1 := hN.v1
  have := Nat.mul_le_mul (show 180 + 12 * A ≤ 180 + 12 * 2 ^ 32 by omega) hd
  omega
theorem law_led_ok {od : D} {S : DS} (hod : OrdAt od os S) : ∃ J, (∀ n, unders n J = true) ∧ m_law_led [encSh x, od, encSc sc] S = .ok (.ref (S.length + 1)) (S ++ .lst J :: [.lst (rowsD x os sc x.dy)]) := by
  have d1 := hx.d1
  have n1 := hx.n1
  have l1 := hx.l1
  have e0 := hN.e0
  have e1 := hN.e1
  have a1 := hN.a1
  obtain ⟨it, ai, ait, aok⟩ := hod
  obtain ⟨env', S', e, ⟨x3, x6, x7, x8, x9, x10, x11, x12, x13, x14, rfl, rfl⟩⟩ := forL_all (it := ⟨(List.range x.dy).map fun (i : Nat) => D.int (i : Int), none⟩) (mg := gN 3) (p := llB) rfl
    (I := fun k env S1 => ∃ x3 x6 x7 x8 x9 x10 x11 x12 x13 x14, env = [some (encSh x), some od, some (encSc sc), x3, some (.ref S.length), some (.ref (S.length + 1)), x6, x7, x8, x9, x10, x11, x12, x13, x14] ∧ S1 = S ++ .lst ((vec x.n (stk x os sc k)).map enc) :: [.lst (rowsD x os sc k)])
    ((List.range x.dy).map fun (i : Nat) => D.int (i : Int)) 0 [some (encSh x), some od, some (encSc sc), none, some (.ref S.length), some (.ref (S.length + 1)), none, none, none, none, none, none, none, none, none] (S ++ .lst ((vec x.n (stk x os sc 0)).map enc) :: [.lst []])
    ⟨none, none, none, none, none, none, none, none, none, none, rfl, rfl⟩ (fun k d hd env S1 hI => by
      obtain ⟨x3, x6, x7, x8, x9, x10, x11, x12, x13, x14, rfl, rfl⟩ := hI
      rw [Nat.zero_add]
      have hk : k < x.dy := by
        by_cases z : k < x.dy
        · exact z
        · rw [List.getElem?_eq_none (by simp; omega)] at hd; cases hd
      rw [List.getElem?_map, List.getElem?_range hk] at hd
      cases hd
      have f0 := fun i => stk_30' hN hx ho hs k (by omega) i
      obtain ⟨y6, y7, y10, y11, y12, y13, y14, ml⟩ := meth_loop hN hx hs (it := ⟨enumD 0 (x.ms.map encMk), none⟩) rfl S [.lst (rowsD x os sc k)] hk (some od) (some (.ref (S.length + 1))) x8 x9 x.ms 0 (2 ^ 39) (stk x os sc k) x6 x7 x10 x11 x12 x13 x14 (by omega) hx.ms f0 (by omega)
      have f1 : ∀ i, La (144 * e) (2 ^ 39 + 180) (stk x os sc k i + chg sc k i 0 x.ms) := fun i => (f0 i).add (by omega) ((chg_la hs e0 k i x.ms 0 hx.ms).wide (by omega))
      obtain ⟨z7, z8, z9, ol⟩ := ord_loop hN hx (it := it) S [.lst (rowsD x os sc k)] aok (day := k) (some od) (some (encSc sc)) (some (.ref (S.length + 1))) y6 y10 y11 y12 y13 y14 os (2 ^ 39 + 180) (fun i => stk x os sc k i + chg sc k i 0 x.ms) y7 x8 x9 (fun o hoo => ⟨(ho.g o hoo).1, hN.os o hoo⟩) f1 (by
        have := Nat.mul_le_mul a1 ho.l
        omega)
      have tp := tupleO_ref (S := S) (J := [.lst (rowsD x os sc k)]) (ys := (vec x.n (stk x os sc (k + 1))).map enc)
      have ap := app_at (S := S ++ [.lst ((vec x.n (stk x os sc (k + 1))).map enc)]) (J := []) (ys := rowsD x os sc k) (encR (vec x.n (stk x os sc (k + 1)))) (by rw [rowsD_len]; omega)
      rw [← rowsD_succ, List.append_assoc, List.append_assoc, List.length_append, List.length_cons, List.length_nil] at ap
      have eo : ∀ T, enumO [.tup (x.ms.map encMk)] T = .ok ⟨enumD 0 (x.ms.map encMk), none⟩ T := fun T => rfl
      refine ⟨_, _, ?_, ⟨some (.int (k : Nat)), y6, z7, z8, z9, y10, y11, y12, y13, y14, rfl, rfl⟩⟩
      rw [turn_at, gN_at, turnK_ok]
      simp only [List.set_cons_succ, List.set_cons_zero]
      have st1 : (mFor (mArgI enumO (maC (m2 ixO (mV 0) (mC (.int 1))) maN)) (gT 2 (gsC (gN 6) (gsC (gT 4 (gsC (gN 7) (gsC (gN 10) (gsC (gN 11) (gsC (gN 12) gsN))))) gsN))) lmB : MS) [some (encSh x), some od, some (encSc sc), some (.int (k : Nat)), some (.ref S.length), some (.ref (S.length + 1)), x6, x7, x8, x9, x10, x11, x12, x13, x14] (S ++ .lst ((vec x.n (stk x os sc k)).map enc) :: [.lst (rowsD x os sc k)]) =
          .ok (.nx, [some (encSh x), some od, some (encSc sc), some (.int (k : Nat)), some (.ref S.length), some (.ref (S.length + 1)), y6, y7, x8, x9, y10, y11, y12, y13, y14]) (S ++ .lst ((vec x.n fun i => stk x os sc k i + chg sc k i 0 x.ms).map enc) :: [.lst (rowsD x os sc k)]) := by
        simp only [mFor_at, mArgI_at, maC_at, maN_at, m2_at, mV_at, mC_at, List.getElem?_cons_succ, List.getElem?_cons_zero, m2K_ok, m2J_ok, sh1, maK_ok, maJ_ok, bind_ok, eo, forK_ok]
        exact ml
      have st2 : (mFor (mSeqI (mV 1)) (gT 3 (gsC (gN 7) (gsC (gN 8) (gsC (gN 9) gsN)))) loB : MS) [some (encSh x), some od, some (encSc sc), some (.int (k : Nat)), some (.ref S.length), some (.ref (S.length + 1)), y6, y7, x8, x9, y10, y11, y12, y13, y14] (S ++ .lst ((vec x.n fun i => stk x os sc k i + chg sc k i 0 x.ms).map enc) :: [.lst (rowsD x os sc k)]) =
          .ok (.nx, [some (encSh x), some od, some (encSc sc), some (.int (k : Nat)), some (.ref S.length), some (.ref (S.length + 1)), y6, z7, z8, z9, y10, y11, y12, y13, y14]) (S ++ .lst ((vec x.n fun i => stk x os sc k i + chg sc k i 0 x.ms - due os k i).map enc) :: [.lst (rowsD x os sc k)]) := by
        simp only [mFor_at, mSeqI_at, mV_at, List.getElem?_cons_succ, List.getElem?_cons_zero, bind_ok, ai, forK_ok, ait]
        exact ol
      unfold llB
      rw [mSeq_at, st1, seqK_nx, mSeq_at, st2, seqK_nx]
      have tp' : tupleO [.ref S.length] (S ++ .lst ((vec x.n fun i => stk x os sc k i + chg sc k i 0 x.ms - due os k i).map enc) :: [.lst (rowsD x os sc k)]) = .ok (encR (vec x.n (stk x os sc (k + 1)))) (S ++ .lst ((vec x.n (stk x os sc (k + 1))).map enc) :: [.lst (rowsD x os sc k)]) := tp
      simp only [mDo_at, mMeth_at, mV_at, List.getElem?_cons_succ, List.getElem?_cons_zero, methK_ok, RcT.ok, if_true, maC_at, mL_at, maN_at, maK_ok, maJ_ok, bind_ok, tp', methJ_ok]
      have ap' : appendO (.ref (S.length + 1)) [encR (vec x.n (stk x os sc (k + 1)))] (S ++ .lst ((vec x.n (stk x os sc (k + 1))).map enc) :: [.lst (rowsD x os sc k)]) = .ok .non (S ++ .lst ((vec x.n (stk x os sc (k + 1))).map enc) :: [.lst (rowsD x os sc (k + 1))]) := ap
      rw [ap']
      rfl)
  refine ⟨(vec x.n (stk x os sc x.dy)).map enc, fun n => under_encR n _, ?_⟩
  rw [Nat.zero_add, List.length_map, List.length_range] at e
  have lo : listR [encR x.st] S = .ok (.ref S.length) (S ++ [.lst (x.st.map enc)]) := rfl
  have vs : x.st = vec x.n (stk x os sc 0) := vec_self hx.sl
  have rf : refO [] (S ++ [.lst (x.st.map enc)]) = .ok (.ref (S.length + 1)) (S ++ .lst (x.st.map enc) :: [.lst []]) := by
    rw [refO_at, List.length_append, List.append_assoc]
    rfl
  simp only [m_law_led, defM_at]
  rw [startE_at]
  simp only [List.map_cons, List.map_nil, List.length_cons, List.length_nil, Nat.reduceAdd, Nat.reduceSub, List.reduceReplicate, if_true, List.cons_append, List.nil_append, mSeq_at, mPar_at, maC_at, maN_at, mL_at, m2_at, mV_at, mC_at, List.getElem?_cons_zero, m2K_ok, m2J_ok, sh2, maK_ok, maJ_ok, bind_ok, lo, rf, parK_ok, List.set_cons_succ, List.set_cons_zero, seqK_nx, mFor_at, mArgI_at, sh3, rng x.dy (by omega), forK_ok]
  rw [← vs] at e
  have e' : forL (gN 3) llB ⟨(List.range x.dy).map fun (i : Nat) => D.int (i : Int), none⟩ ((List.range x.dy).map fun (i : Nat) => D.int (i : Int)) [some (encSh x), some od, some (encSc sc), none, some (.ref S.length), some (.ref (S.length + 1)), none, none, none, none, none, none, none, none, none] (S ++ .lst (x.st.map enc) :: [.lst []]) = _ := e
  rw [e']
  simp
end
end K23

namespace K23
open PySem PySem.Spec PyProof.Rows L2 DL FR
/-! any things, judged -/
def isInt : D → Bool
  | .int _ => true
  | _ => false
theorem isInt_int (i : Int) : isInt (.int i) = true := rfl
def isW (d : D) (lo hi : Int) : Bool := match d with
  | .int i => decide (lo ≤ i) && decide (i ≤ hi)
  | _ => false
def isTup : D → Bool
  | .tup _ => true
  | _ => false
def isS (d : D) (lo hi : Int) : Bool := match d with
  | .tup xs => decide (lo ≤ (xs.length : Int)) && decide ((xs.length : Int) ≤ hi)
  | _ => false
def isSr (d : D) : Bool := match d with
  | .tup [.int a, .int b] => decide (0 < b) && decide (Nat.gcd a.natAbs b.natAbs = 1)
  | _ => false
def isAm (d : D) : Bool := match d with
  | .tup [.int a, .int b] => decide (0 ≤ a) && (decide (0 < b) && decide (Nat.gcd a.natAbs b.natAbs = 1))
  | _ => false
def isAms (d : D) (n : Int) : Bool := match d with
  | .tup xs => decide ((xs.length : Int) = n) && xs.all isAm
  | _ => false
mutual
def thD : D → Bool
  | .int i => decide (i.natAbs < 2 ^ 60)
  | .tup xs => decide (xs.length ≤ 100) && thDs xs
  | .ref _ => false
  | _ => true
def thDs : List D → Bool
  | [] => true
  | d :: ds => thD d && thDs ds
end
theorem thDs_mem : ∀ {ds : List D}, thDs ds = true → ∀ d ∈ ds, thD d = true
  | [], _, d, h => by simp at h
  | x :: ds, h, d, hd => by
    rw [thDs, Bool.and_eq_true] at h
    rcases List.mem_cons.mp hd with rfl | hd
    · exact h.1
    · exact thDs_mem h.2 d hd
theorem thDs_of : ∀ {ds : List D}, (∀ d ∈ ds, thD d = true) → thDs ds = true
  | [], _ => rfl
  | x :: ds, h => by
    rw [thDs, h x (List.mem_cons_self ..), thDs_of fun d hd => h d (List.mem_cons_of_mem _ hd)]
    rfl
section
variable (S : DS)
theorem int_any (d : D) : FR.is_integer [d] S = .ok (.bl (isInt d)) S := by
  simp only [FR.is_integer, defM_at]
  cases d <;> simp [isTy, isInt]
theorem within_any (d : D) (lo hi : Int) : FR.is_within [d, .int lo, .int hi] S = .ok (.bl (isW d lo hi)) S := by
  cases d with
  | int i => exact FR.within_ok S i lo hi
  | _ =>
    simp only [FR.is_within, defM_at]
    simp [int_any, isInt, isW]
theorem sized_any (d : D) (lo hi : Int) : FR.is_sized [d, .int lo, .int hi] S = .ok (.bl (isS d lo hi)) S := by
  cases d with
  | tup xs => exact FR.sized_ok S xs lo hi
  | _ =>
    simp only [FR.is_sized, defM_at]
    simp [isTy, isS]
theorem pair_of {d : D} : (∃ a b, d = .tup [a, b]) ∨ (isS d 2 2 = false ∧ isSr d = false ∧ isAm d = false ∧ (∀ xs, d = .tup xs → xs.length ≠ 2)) := by
  cases d with
  | tup xs =>
    match xs with
    | [] => exact .inr ⟨rfl, rfl, rfl, fun xs h => by cases h; simp⟩
    | [a] => exact .inr ⟨rfl, by cases a <;> rfl, by cases a <;> rfl, fun xs h => by cases h; simp⟩
    | [a, b] => exact .inl ⟨a, b, rfl⟩
    | a :: b :: c :: r => exact .inr ⟨by simp [isS]; omega, by cases a <;> first | rfl | (cases b <;> rfl), by cases a <;> first | rfl | (cases b <;> rfl), fun xs h => by cases h; simp⟩
  | _ => exact .inr ⟨rfl, rfl, rfl, fun xs h => by cases h⟩
theorem share_any (d : D) : FR.is_share [d] S = .ok (.bl (isSr d)) S := by
  rcases pair_of (d := d) with ⟨a, b, rfl⟩ | ⟨h1, h2, _⟩
  · have p0 : ixO (.tup [a, b]) (.int 0) S = .ok a S := FR.getI_0 a [b] S
    have p1 : ixO (.tup [a, b]) (.int 1) S = .ok b S := FR.getI_1 a b [] S
    have sz : FR.is_sized [.tup [a, b], .int 2, .int 2] S = .ok (.bl true) S := sized_any S _ 2 2
    by_cases ha : ∃ i, a = .int i
    · obtain ⟨i, rfl⟩ := ha
      by_cases hb : ∃ j, b = .int j
      · obtain ⟨j, rfl⟩ := hb
        by_cases hj : 0 < j
        · obtain ⟨n, rfl⟩ : ∃ n : Nat, j = n := ⟨j.toNat, by omega⟩
          have n0 : 0 < n := by omega
          have c := FR.common_ok i n0 S
          have e : isSr (.tup [.int i, .int (n : Nat)]) = decide (((Nat.gcd i.natAbs n : Nat) : Int) = 1) := by
            show (decide (0 < (n : Int)) && decide (Nat.gcd i.natAbs (n : Int).natAbs = 1)) = _
            rw [decide_eq_true hj, Bool.true_and, Int.natAbs_natCast]
            exact decide_eq_decide.mpr (by omega)
          rw [e]
          simp only [FR.is_share, defM_at]
          simp [sz, p0, p1, int_any, isInt, n0, c]
        · have e : isSr (.tup [.int i, .int j]) = false := by
            show (decide (0 < j) && _) = false
            rw [decide_eq_false hj, Bool.false_and]
          rw [e]
          simp only [FR.is_share, defM_at]
          simp [sz, p0, p1, int_any, isInt, hj]
      · have e : isSr (.tup [.int i, b]) = false := by cases b <;> first | rfl | exact absurd ⟨_, rfl⟩ hb
        have e2 : isInt b = false := by cases b <;> first | rfl | exact absurd ⟨_, rfl⟩ hb
        rw [e]
        simp only [FR.is_share, defM_at]
        simp [sz, p0, p1, int_any, isInt_int, e2]
    · have e : isSr (.tup [a, b]) = false := by cases a <;> first | rfl | exact absurd ⟨_, rfl⟩ ha
      have e2 : isInt a = false := by cases a <;> first | rfl | exact absurd ⟨_, rfl⟩ ha
      rw [e]
      simp only [FR.is_share, defM_at]
      simp [sz, p0, p1, int_any, isInt_int, e2]
  · rw [h2]
    simp only [FR.is_share, defM_at]
    simp [sized_any, h1]
theorem amount_any (d : D) : FR.is_amount [d] S = .ok (.bl (isAm d)) S := by
  have sh := share_any S d
  cases h : isSr d with
  | false =>
    have e : isAm d = false := by
      unfold isAm
      unfold isSr at h
      split at h
      · rw [h, Bool.and_false]
      · first
          | rfl
          | (split
             · rename_i hh a b
               exact absurd rfl (hh a b)
             · rfl)
    rw [h] at sh
    rw [e]
    simp only [FR.is_amount, defM_at]
    simp [sh]
  | true =>
    unfold isSr at h
    split at h
    · rename_i a b
      rw [show isSr (.tup [.int a, .int b]) = true from h] at sh
      have e : isAm (.tup [.int a, .int b]) = decide (0 ≤ a) := by
        show (decide (0 ≤ a) && _) = _
        rw [h, Bool.and_true]
      have p0 : ixO (.tup [.int a, .int b]) (.int 0) S = .ok (.int a) S := FR.getI_0 (.int a) [.int b] S
      rw [e]
      simp only [FR.is_amount, defM_at]
      simp [sh, p0]
    · cases h
theorem all_bls (f : D → Bool) (xs : List D) : allO [.vl (xs.map fun d => D.bl (f d))] S = .ok (.bl (xs.all f)) S := by
  have e : ∀ xs : List D, asBls (xs.map fun d => D.bl (f d)) = some (xs.map f) := fun xs => by
    induction xs with
    | nil => rfl
    | cons x xs ih => rw [List.map_cons, asBls, ih]; rfl
  show blsO (fun bs => bs.all id) _ _ = _
  unfold blsO
  simp only [e]
  rw [List.all_map]
  rfl
theorem any_bls {α : Type} (f : α → Bool) (xs : List α) : anyO [.vl (xs.map fun d => D.bl (f d))] S = .ok (.bl (xs.any f)) S := by
  have e : ∀ xs : List α, asBls (xs.map fun d => D.bl (f d)) = some (xs.map f) := fun xs => by
    induction xs with
    | nil => rfl
    | cons x xs ih => rw [List.map_cons, asBls, ih]; rfl
  show blsO (fun bs => bs.any id) _ _ = _
  unfold blsO
  simp only [e]
  rw [List.any_map]
  rfl
theorem isS_eq (xs : List D) (n : Int) : isS (.tup xs) n n = decide ((xs.length : Int) = n) := by
  show (decide (n ≤ (xs.length : Int)) && decide ((xs.length : Int) ≤ n)) = _
  by_cases h : (xs.length : Int) = n
  · simp [h]
  · rw [decide_eq_false h]
    by_cases h2 : n ≤ (xs.length : Int)
    · rw [decide_eq_false (show ¬ ((xs.length : Int) ≤ n) by omega), Bool.and_false]
    · rw [decide_eq_false h2, Bool.false_and]
theorem amounts_any (d : D) (n : Int) (h : thD d = true) : FR.are_amounts [d, .int n] S = .ok (.bl (isAms d n)) S := by
  have sz := sized_any S d n n
  cases d with
  | tup xs =>
    rw [isS_eq] at sz
    have hl : xs.length ≤ 100 := by
      rw [thD, Bool.and_eq_true] at h
      exact of_decide_eq_true h.1
    by_cases hn : (xs.length : Int) = n
    · rw [decide_eq_true hn] at sz
      have e : isAms (.tup xs) n = xs.all isAm := by
        show (decide _ && _) = _
        rw [decide_eq_true hn, Bool.true_and]
      rw [e]
      simp only [FR.are_amounts, defM_at]
      simp [sz]
      rw [lcK_ok, if_pos (Nat.le_trans hl (by decide)), lcL_map rfl (f := fun d => .bl (isAm d)) xs [] fun d _ => by simp [wipeE, amount_any]]
      simp [all_bls]
    · rw [decide_eq_false hn] at sz
      have e : isAms (.tup xs) n = false := by
        show (decide _ && _) = _
        rw [decide_eq_false hn, Bool.false_and]
      rw [e]
      simp only [FR.are_amounts, defM_at]
      simp [sz]
  | _ =>
    simp only [FR.are_amounts, defM_at]
    simp [sz, isS, isAms]
end
end K23

namespace K23
open PySem PySem.Spec PyProof.Rows L2 DL FR
section
variable (S : DS)
theorem th_tup {xs : List D} (h : thD (.tup xs) = true) : xs.length ≤ 100 ∧ ∀ d ∈ xs, thD d = true := by
  rw [thD, Bool.and_eq_true] at h
  exact ⟨of_decide_eq_true h.1, thDs_mem h.2⟩
theorem th_int {i : Int} (h : thD (.int i) = true) : i.natAbs < 2 ^ 60 := by
  rw [thD] at h
  exact of_decide_eq_true h
theorem low_self (a : Int) (n : Nat) (h0 : 0 < n) : (decide (a / (Nat.gcd a.natAbs n : Nat) = a) && decide ((n : Int) / (Nat.gcd a.natAbs n : Nat) = n)) = decide (Nat.gcd a.natAbs n = 1) := by
  by_cases h : Nat.gcd a.natAbs n = 1
  · rw [decide_eq_true h]
    simp [h]
  · rw [decide_eq_false h]
    have hg : 0 < Nat.gcd a.natAbs n := Nat.gcd_pos_of_pos_right _ h0
    have : ¬ ((n : Int) / (Nat.gcd a.natAbs n : Nat) = n) := fun e => by
      have e2 : n / Nat.gcd a.natAbs n = n := by
        have : ((n / Nat.gcd a.natAbs n : Nat) : Int) = (n : Int) := by rw [Int.natCast_ediv]; exact e
        omega
      have := Nat.div_lt_self h0 (show 1 < Nat.gcd a.natAbs n by omega)
      omega
    rw [decide_eq_false this, Bool.and_false]
theorem lamount_any (d : D) (h : thD d = true) : m_law_is_amount [d] S = .ok (.bl (isAm d)) S := by
  rcases pair_of (d := d) with ⟨a, b, rfl⟩ | ⟨h1, _, h3, h4⟩
  · have p0 : ixO (.tup [a, b]) (.int 0) S = .ok a S := FR.getI_0 a [b] S
    have p1 : ixO (.tup [a, b]) (.int 1) S = .ok b S := FR.getI_1 a b [] S
    have ln : lenO [.tup [a, b]] S = .ok (.int 2) S := rfl
    have lc : lcK (gN 1) mYes (mAndV (isiM "int" (mV 1)) (mNotV (isiM "bool" (mV 1)))) [1] finV [some (.tup [a, b]), none] (.ok ⟨[a, b], none⟩ S) = .ok (.vl [.bl (isInt a), .bl (isInt b)]) S := by
      have ce : ∀ d : D, cell (gN 1) (mAndV (isiM "int" (mV 1)) (mNotV (isiM "bool" (mV 1)))) d (wipeE [some (.tup [a, b]), none] [1]) S = .ok (.bl (isInt d)) S := fun d => by
        cases d <;> simp [wipeE, isTy, isInt]
      rw [lcK_ok, if_pos (show (Itm.mk [a, b] none).items.length ≤ sizeLine from (show 2 ≤ sizeLine by decide)), lcL_map rfl (f := fun d => .bl (isInt d)) [a, b] [] fun d _ => ce d]
      rfl
    have al : allO [.vl [.bl (isInt a), .bl (isInt b)]] S = .ok (.bl (isInt a && isInt b)) S := by
      have := all_bls S isInt [a, b]
      simp only [List.map_cons, List.map_nil, List.all_cons, List.all_nil, Bool.and_true] at this
      exact this
    have st : ∀ r, ((isInt a && isInt b) = false → r = .ok (.bl false) S) → ((isInt a && isInt b) = true → retO ((mRet (mAndV (m2 geO (m2 ixO (mV 0) (mC (.int 0))) (mC (.int 0))) (mAndV (m2 gtO (m2 ixO (mV 0) (mC (.int 1))) (mC (.int 0))) (m2 eqO (mL m_law_low (maC (m2 ixO (mV 0) (mC (.int 0))) (maC (m2 ixO (mV 0) (mC (.int 1))) maN))) (mV 0))))) [some (.tup [a, b]), none] S) = r) → m_law_is_amount [.tup [a, b]] S = r := fun r r1 r2 => by
      simp only [m_law_is_amount, defM_at]
      rw [startE_at]
      simp only [List.map_cons, List.map_nil, List.length_cons, List.length_nil, Nat.reduceAdd, Nat.reduceSub, List.reduceReplicate, if_true, List.cons_append, List.nil_append]
      rw [mSeq_at]
      have f1 : (mIfS (mOr (mNot (mT (isiM "tuple" (mV 0)))) (mT (m2 neO (mL lenO (maC (mV 0) maN)) (mC (.int 2)))))
    (mRet (mC (.bl false)))
    mNx : MS) [some (.tup [a, b]), none] S = .ok (.nx, [some (.tup [a, b]), none]) S := by
        simp [isTy, ln, neO_int]
      rw [f1, seqK_nx, mSeq_at]
      have f2 : (mIfS (mNot (mT (mL allO (maC (lcM (mSeqI (mV 0)) (gN 1) mYes (mAndV (isiM "int" (mV 1)) (mNotV (isiM "bool" (mV 1)))) [1] finV) maN))))
    (mRet (mC (.bl false)))
    mNx : MS) [some (.tup [a, b]), none] S = if (isInt a && isInt b) = true then .ok (.nx, [some (.tup [a, b]), none]) S else .ok (.rt (.bl false), [some (.tup [a, b]), none]) S := by
        simp only [mIfS_at, mNot_at, mT_at, mL_at, maC_at, maN_at, lcM_at, mSeqI_at, mV_at, List.getElem?_cons_zero, bind_ok, asItm_tup, lc, maK_ok, maJ_ok, al, tK_ok, notK_ok]
        cases isInt a && isInt b <;> simp
      rw [f2]
      cases hb : isInt a && isInt b with
      | false =>
        rw [if_neg (by decide), seqK_rt, r1 hb]
        rfl
      | true =>
        rw [if_pos rfl, seqK_nx]
        exact r2 hb
    refine st _ (fun hf => ?_) (fun ht => ?_)
    · have : isAm (.tup [a, b]) = false := by
        cases a <;> first | rfl | (cases b <;> first | rfl | exact absurd hf (by simp [isInt]))
      rw [this]
    · rw [Bool.and_eq_true] at ht
      obtain ⟨i, rfl⟩ : ∃ i, a = .int i := by cases a <;> first | exact ⟨_, rfl⟩ | exact absurd ht.1 (by simp [isInt])
      obtain ⟨j, rfl⟩ : ∃ j, b = .int j := by cases b <;> first | exact ⟨_, rfl⟩ | exact absurd ht.2 (by simp [isInt])
      show _ = Ou.ok (D.bl (decide (0 ≤ i) && (decide (0 < j) && decide (Nat.gcd i.natAbs j.natAbs = 1)))) S
      by_cases h1 : 0 ≤ i
      · by_cases h2 : 0 < j
        · obtain ⟨n, rfl⟩ : ∃ n : Nat, j = n := ⟨j.toNat, by omega⟩
          have n0 : 0 < n := by omega
          have hth := th_tup h
          have hj := th_int (hth.2 (.int (n : Nat)) (by simp))
          have lo := low_raw i S n0 (div_small (Nat.lt_of_le_of_lt (Nat.gcd_le_right _ n0) (Nat.lt_of_lt_of_le (by omega) (Nat.pow_le_pow_right (by decide) (show 60 ≤ 9000 by decide)))))
          rw [decide_eq_true h1, decide_eq_true h2, Bool.true_and, Bool.true_and, Int.natAbs_natCast, ← low_self i n n0]
          simp [p0, p1, h1, n0, lo, eqO_pair]
        · rw [decide_eq_false h2, Bool.false_and, Bool.and_false]
          simp [p0, p1, h1, h2]
      · rw [decide_eq_false h1, Bool.false_and]
        simp [p0, p1, h1]
  · rw [h3]
    cases d with
    | tup xs =>
      have hl := h4 xs rfl
      have hl2 : ¬ ((xs.length : Int) = 2) := by omega
      simp only [m_law_is_amount, defM_at]
      simp [isTy, lenO_tup, neO_int, hl, hl2]
    | _ =>
      simp only [m_law_is_amount, defM_at]
      simp [isTy]
theorem number_any (d : D) (lo hi : Int) : m_law_is_number [d, .int lo, .int hi] S = .ok (.bl (isW d lo hi)) S := by
  simp only [m_law_is_number, defM_at]
  cases d with
  | int i =>
    show _ = Ou.ok (D.bl (decide (lo ≤ i) && decide (i ≤ hi))) S
    by_cases h : lo ≤ i
    · simp [isTy, h]
    · simp [isTy, h]
  | _ => simp [isTy, isW]
theorem lamounts_any (d : D) (n : Int) (h : thD d = true) : m_law_are_amounts [d, .int n] S = .ok (.bl (isAms d n)) S := by
  cases d with
  | tup xs =>
    obtain ⟨hl, ht⟩ := th_tup h
    by_cases hn : (xs.length : Int) = n
    · have e : isAms (.tup xs) n = xs.all isAm := by
        show (decide _ && _) = _
        rw [decide_eq_true hn, Bool.true_and]
      rw [e]
      simp only [m_law_are_amounts, defM_at]
      simp [isTy, lenO_tup, hn]
      rw [lcK_ok, if_pos (Nat.le_trans hl (by decide)), lcL_map rfl (f := fun d => .bl (isAm d)) xs [] fun d hd => by simp [wipeE, lamount_any S d (ht d hd)]]
      simp [all_bls]
    · have e : isAms (.tup xs) n = false := by
        show (decide _ && _) = _
        rw [decide_eq_false hn, Bool.false_and]
      rw [e]
      simp only [m_law_are_amounts, defM_at]
      simp [isTy, lenO_tup, hn]
  | _ =>
    simp only [m_law_are_amounts, defM_at]
    simp [isTy, isAms]
end
end K23

namespace K23
open PySem PySem.Spec PyProof.Rows L2 DL FR
def isMk (n : Int) (d : D) : Bool := match d with
  | .tup [a, b, c, f] => isW a 0 (n - 1) && (isAms b n && (isW c 1 4 && isAm f))
  | _ => false
def isShD (d : D) : Bool := match d with
  | .tup [.int n, .tup ms, st, dy] => isW (.int n) 1 4 && ((decide (1 ≤ (ms.length : Int)) && decide ((ms.length : Int) ≤ 6)) && (ms.all (isMk n) && (isAms st n && isW dy 1 7)))
  | _ => false
section
variable (S : DS)
theorem isMk_eq (n : Int) (a b c f : D) : isMk n (.tup [a, b, c, f]) = (isW a 0 (n - 1) && (isAms b n && (isW c 1 4 && isAm f))) := rfl
theorem quad_of {d : D} : (∃ a b c f, d = .tup [a, b, c, f]) ∨ (isS d 4 4 = false ∧ (∀ n, isMk n d = false) ∧ isShD d = false ∧ (∀ xs, d = .tup xs → xs.length ≠ 4)) := by
  cases d with
  | tup xs =>
    match xs with
    | [a, b, c, f] => exact .inl ⟨a, b, c, f, rfl⟩
    | [] => exact .inr ⟨rfl, fun _ => rfl, rfl, fun xs h => by cases h; simp⟩
    | [a] => exact .inr ⟨rfl, fun _ => rfl, by cases a <;> rfl, fun xs h => by cases h; simp⟩
    | [a, b] => exact .inr ⟨rfl, fun _ => rfl, by cases a <;> first | rfl | (cases b <;> rfl), fun xs h => by cases h; simp⟩
    | [a, b, c] => exact .inr ⟨rfl, fun _ => rfl, by cases a <;> first | rfl | (cases b <;> rfl), fun xs h => by cases h; simp⟩
    | a :: b :: c :: f :: g :: r => exact .inr ⟨by simp [isS]; omega, fun _ => rfl, by cases a <;> first | rfl | (cases b <;> rfl), fun xs h => by cases h; simp⟩
  | _ => exact .inr ⟨rfl, fun _ => rfl, rfl, fun xs h => by cases h⟩
theorem subO_int1 (n : Int) : subO (.int n) (.int 1) S = .ok (.int (n - 1)) S := rfl
theorem making_any (n : Int) (d : D) (h : thD d = true) : m_is_making [.int n, d] S = .ok (.bl (isMk n d)) S := by
  rcases quad_of (d := d) with ⟨a, b, c, f, rfl⟩ | ⟨h1, h2, _, _⟩
  · have ht := (th_tup h).2
    have p0 : ixO (.tup [a, b, c, f]) (.int 0) S = .ok a S := FR.getI_0 a [b, c, f] S
    have p1 : ixO (.tup [a, b, c, f]) (.int 1) S = .ok b S := FR.getI_1 a b [c, f] S
    have p2 : ixO (.tup [a, b, c, f]) (.int 2) S = .ok c S := FR.getI_2 a b c [f] S
    have p3 : ixO (.tup [a, b, c, f]) (.int 3) S = .ok f S := FR.getI_3 a b c f [] S
    have sz : FR.is_sized [.tup [a, b, c, f], .int 4, .int 4] S = .ok (.bl true) S := sized_any S _ 4 4
    have am := amounts_any S b n (ht b (by simp))
    have w0 := within_any S a 0 (n - 1)
    have w2 := within_any S c 1 4
    have a3 := amount_any S f
    simp only [m_is_making, defM_at, m_sized1, m_within, m_amounts, m_amount, isMk]
    cases h1 : isW a 0 (n - 1) with
    | false =>
      rw [h1] at w0
      simp [sz, p0, subO_int1, w0]
    | true =>
      rw [h1] at w0
      cases h2 : isAms b n with
      | false =>
        rw [h2] at am
        simp [sz, p0, p1, subO_int1, w0, am]
      | true =>
        rw [h2] at am
        cases h3 : isW c 1 4 with
        | false =>
          rw [h3] at w2
          simp [sz, p0, p1, p2, subO_int1, w0, am, w2]
        | true =>
          rw [h3] at w2
          simp [sz, p0, p1, p2, p3, subO_int1, w0, am, w2, a3]
  · have sz : FR.is_sized [d, .int 4, .int 4] S = .ok (.bl false) S := by rw [sized_any, h1]
    rw [h2]
    simp only [m_is_making, defM_at, m_sized1]
    simp [sz]
theorem isShD_w {a b c f : D} (h : isW a 1 4 = false) : isShD (.tup [a, b, c, f]) = false := by
  cases a <;> first | rfl | skip
  cases b <;> first | rfl | skip
  show (isW _ 1 4 && _) = false
  rw [h, Bool.false_and]
theorem isShD_s {a b c f : D} (h : isS b 1 6 = false) : isShD (.tup [a, b, c, f]) = false := by
  cases a <;> first | rfl | skip
  cases b <;> first | rfl | skip
  rename_i n ms
  show (isW _ 1 4 && (isS (.tup ms) 1 6 && _)) = false
  rw [h, Bool.false_and, Bool.and_false]
theorem isW_int {a : D} {lo hi : Int} (h : isW a lo hi = true) : ∃ i, a = .int i ∧ lo ≤ i ∧ i ≤ hi := by
  cases a <;> first | (simp [isW] at h; done) | skip
  rename_i i
  have h : (decide (lo ≤ i) && decide (i ≤ hi)) = true := h
  rw [Bool.and_eq_true] at h
  exact ⟨i, rfl, of_decide_eq_true h.1, of_decide_eq_true h.2⟩
theorem isS_tup {b : D} {lo hi : Int} (h : isS b lo hi = true) : ∃ xs, b = .tup xs ∧ lo ≤ (xs.length : Int) ∧ (xs.length : Int) ≤ hi := by
  cases b <;> first | (simp [isS] at h; done) | skip
  rename_i xs
  have h : (decide (lo ≤ (xs.length : Int)) && decide ((xs.length : Int) ≤ hi)) = true := h
  rw [Bool.and_eq_true] at h
  exact ⟨xs, rfl, of_decide_eq_true h.1, of_decide_eq_true h.2⟩
theorem shop_any (d : D) (h : thD d = true) : m_is_shop [d] S = .ok (.bl (isShD d)) S := by
  rcases quad_of (d := d) with ⟨a, b, c, f, rfl⟩ | ⟨h1, _, h3, _⟩
  · have ht := (th_tup h).2
    have p0 : ixO (.tup [a, b, c, f]) (.int 0) S = .ok a S := FR.getI_0 a [b, c, f] S
    have p1 : ixO (.tup [a, b, c, f]) (.int 1) S = .ok b S := FR.getI_1 a b [c, f] S
    have sz : FR.is_sized [.tup [a, b, c, f], .int 4, .int 4] S = .ok (.bl true) S := sized_any S _ 4 4
    have w0 := within_any S a 1 4
    have s1 := sized_any S b 1 6
    cases h1 : isW a 1 4 with
    | false =>
      rw [h1] at w0
      rw [isShD_w h1]
      simp only [m_is_shop, defM_at, m_sized1, m_within]
      simp [sz, p0, w0]
    | true =>
      rw [h1] at w0
      cases h2 : isS b 1 6 with
      | false =>
        rw [h2] at s1
        rw [isShD_s h2]
        simp only [m_is_shop, defM_at, m_sized1, m_within]
        simp [sz, p0, p1, w0, s1]
      | true =>
        rw [h2] at s1
        obtain ⟨n, rfl, n0, n1⟩ := isW_int h1
        obtain ⟨ms, rfl, m0, m1⟩ := isS_tup h2
        have hm := (th_tup (ht (.tup ms) (by simp))).2
        have am := amounts_any S c n (ht c (by simp))
        have w3 := within_any S f 1 7
        have lc : ∀ x5, lcK (gN 5) mYes (mL m_is_making (maC (mV 1) (maC (mV 5) maN))) [5] finV [some (.tup [.int n, .tup ms, c, f]), some (.int n), some (.tup ms), some c, some f, x5] (.ok ⟨ms, none⟩ S) = .ok (.vl (ms.map fun d => .bl (isMk n d))) S := fun x5 => by
          rw [lcK_ok, if_pos (show (Itm.mk ms none).items.length ≤ sizeLine from (show ms.length ≤ sizeLine from Nat.le_trans (show ms.length ≤ 6 by omega) (by decide))), lcL_map rfl (f := fun d => .bl (isMk n d)) ms [] fun d hd => by simp [wipeE, making_any S n d (hm d hd)]]
          rfl
        have al := all_bls S (isMk n) ms
        have e : isShD (.tup [.int n, .tup ms, c, f]) = (ms.all (isMk n) && (isAms c n && isW f 1 7)) := by
          show (isW (.int n) 1 4 && (isS (.tup ms) 1 6 && _)) = _
          rw [h1, h2, Bool.true_and, Bool.true_and]
        rw [e]
        simp only [m_is_shop, defM_at, m_sized1, m_within, m_amounts]
        simp [sz, p0, p1, w0, s1, lc, al]
        cases h3 : ms.all (isMk n) with
        | false => simp
        | true =>
          cases h4 : isAms c n with
          | false =>
            rw [h4] at am
            simp [am]
          | true =>
            rw [h4] at am
            simp [am, w3]
  · have sz : FR.is_sized [d, .int 4, .int 4] S = .ok (.bl false) S := by rw [sized_any, h1]
    rw [h3]
    simp only [m_is_shop, defM_at, m_sized1]
    simp [sz]
noncomputable abbrev lsB : MS := (mSeq (mIfS (mOr (mNot (mT (isiM "tuple" (mV 1)))) (mOr (mT (m2 neO (mL lenO (maC (mV 1) maN)) (mC (.int 4)))) (mNot (mT (mL m_law_is_number (maC (m2 ixO (mV 1) (mC (.int 0))) (maC (mC (.int 0)) (maC (m2 subO (mV 2) (mC (.int 1))) maN))))))))
    (mRet (mC (.bl false)))
    mNx)
    (mIfS (mOr (mNot (mT (mL m_law_are_amounts (maC (m2 ixO (mV 1) (mC (.int 1))) (maC (mV 2) maN))))) (mOr (mNot (mT (mL m_law_is_number (maC (m2 ixO (mV 1) (mC (.int 2))) (maC (mC (.int 1)) (maC (mC (.int 4)) maN)))))) (mNot (mT (mL m_law_is_amount (maC (m2 ixO (mV 1) (mC (.int 3))) maN))))))
    (mRet (mC (.bl false)))
    mNx))
theorem find_all (f : D → Bool) : ∀ ds : List D, ds.findSome? (fun d => if f d = true then none else some (D.bl false)) = if ds.all f = true then none else some (D.bl false)
  | [] => rfl
  | d :: ds => by
    rw [List.findSome?_cons, List.all_cons]
    cases h : f d with
    | false => simp
    | true => simp [find_all f ds]
theorem lmk_turn (n : Int) (d : D) (h : thD d = true) (x0 x1 x3 x4 x5 : Option D) : turn (gN 1) lsB d [x0, x1, some (.int n), x3, x4, x5] S = if isMk n d = true then .ok (.nx, [x0, some d, some (.int n), x3, x4, x5]) S else .ok (.rt (.bl false), [x0, some d, some (.int n), x3, x4, x5]) S := by
  rw [turn_at, gN_at, turnK_ok]
  simp only [List.set_cons_succ, List.set_cons_zero]
  rcases quad_of (d := d) with ⟨a, b, c, f, rfl⟩ | ⟨h1, h2, _, h4⟩
  · have ht := (th_tup h).2
    have p0 : ixO (.tup [a, b, c, f]) (.int 0) S = .ok a S := FR.getI_0 a [b, c, f] S
    have p1 : ixO (.tup [a, b, c, f]) (.int 1) S = .ok b S := FR.getI_1 a b [c, f] S
    have p2 : ixO (.tup [a, b, c, f]) (.int 2) S = .ok c S := FR.getI_2 a b c [f] S
    have p3 : ixO (.tup [a, b, c, f]) (.int 3) S = .ok f S := FR.getI_3 a b c f [] S
    have ln : lenO [.tup [a, b, c, f]] S = .ok (.int 4) S := rfl
    have am := lamounts_any S b n (ht b (by simp))
    have w0 := number_any S a 0 (n - 1)
    have w2 := number_any S c 1 4
    have a3 := lamount_any S f (ht f (by simp))
    rw [isMk_eq]
    cases h1 : isW a 0 (n - 1) with
    | false =>
      rw [h1] at w0
      simp [isTy, ln, neO_int, p0, subO_int1, w0]
    | true =>
      rw [h1] at w0
      cases h2 : isAms b n with
      | false =>
        rw [h2] at am
        simp [isTy, ln, neO_int, p0, p1, subO_int1, w0, am]
      | true =>
        rw [h2] at am
        cases h3 : isW c 1 4 with
        | false =>
          rw [h3] at w2
          simp [isTy, ln, neO_int, p0, p1, p2, subO_int1, w0, am, w2]
        | true =>
          rw [h3] at w2
          cases h4 : isAm f with
          | false =>
            rw [h4] at a3
            simp [isTy, ln, neO_int, p0, p1, p2, p3, subO_int1, w0, am, w2, a3]
          | true =>
            rw [h4] at a3
            simp [isTy, ln, neO_int, p0, p1, p2, p3, subO_int1, w0, am, w2, a3]
  · rw [h2, if_neg (by decide)]
    cases d with
    | tup xs =>
      have hl := h4 xs rfl
      have hl2 : ¬ ((xs.length : Int) = 4) := by omega
      simp [isTy, lenO_tup, neO_int, hl, hl2]
    | _ => simp [isTy]
theorem lshop_any (d : D) (h : thD d = true) : m_law_is_shop [d] S = .ok (.bl (isShD d)) S := by
  rcases quad_of (d := d) with ⟨a, b, c, f, rfl⟩ | ⟨h1, _, h3, h4⟩
  · have ht := (th_tup h).2
    have p0 : ixO (.tup [a, b, c, f]) (.int 0) S = .ok a S := FR.getI_0 a [b, c, f] S
    have ln : lenO [.tup [a, b, c, f]] S = .ok (.int 4) S := rfl
    have w0 := number_any S a 1 4
    cases h1 : isW a 1 4 with
    | false =>
      rw [h1] at w0
      rw [isShD_w h1]
      simp only [m_law_is_shop, defM_at]
      simp [isTy, ln, neO_int, p0, w0]
    | true =>
      rw [h1] at w0
      obtain ⟨n, rfl, n0, n1⟩ := isW_int h1
      cases h2 : isS b 1 6 with
      | false =>
        rw [isShD_s h2]
        cases b with
        | tup ms =>
          have h2 : (decide (1 ≤ (ms.length : Int)) && decide ((ms.length : Int) ≤ 6)) = false := h2
          simp only [m_law_is_shop, defM_at]
          by_cases q : 1 ≤ (ms.length : Int)
          · have q2 : ¬ (ms.length : Int) ≤ 6 := by
              rw [decide_eq_true q, Bool.true_and] at h2
              exact of_decide_eq_false h2
            simp [isTy, ln, neO_int, p0, w0, lenO_tup, q, q2]
          · simp [isTy, ln, neO_int, p0, w0, lenO_tup, q]
        | _ =>
          simp only [m_law_is_shop, defM_at]
          simp [isTy, ln, neO_int, p0, w0]
      | true =>
        obtain ⟨ms, rfl, m0, m1⟩ := isS_tup h2
        have hm := (th_tup (ht (.tup ms) (by simp))).2
        have am := lamounts_any S c n (ht c (by simp))
        have w3 := number_any S f 1 7
        have e : isShD (.tup [.int n, .tup ms, c, f]) = (ms.all (isMk n) && (isAms c n && isW f 1 7)) := by
          show (isW (.int n) 1 4 && (isS (.tup ms) 1 6 && _)) = _
          rw [h1, h2, Bool.true_and, Bool.true_and]
        rw [e]
        obtain ⟨env', ⟨y1, rfl⟩, lp⟩ := forL_find (mg := gN 1) (p := lsB) (it := ⟨ms, none⟩) (S := S) rfl (E := fun env => ∃ x1, env = [some (.tup [.int n, .tup ms, c, f]), x1, some (.int n), some (.tup ms), some c, some f]) (f := fun d => if isMk n d = true then none else some (.bl false)) ms [some (.tup [.int n, .tup ms, c, f]), none, some (.int n), some (.tup ms), some c, some f] ⟨none, rfl⟩ (by
          rintro d hd env ⟨x1, rfl⟩
          refine ⟨_, ⟨some d, rfl⟩, ?_⟩
          rw [lmk_turn S n d (hm d hd)]
          cases isMk n d <;> rfl)
        rw [find_all] at lp
        simp only [m_law_is_shop, defM_at]
        cases h5 : isW f 1 7 with
        | false =>
          rw [h5] at w3
          simp [isTy, ln, neO_int, p0, w0, lenO_tup, m0, m1, w3]
        | true =>
          rw [h5] at w3
          simp [isTy, ln, neO_int, p0, w0, lenO_tup, m0, m1, w3]
          cases h6 : ms.all (isMk n) with
          | false =>
            rw [h6, if_neg (by decide)] at lp
            rw [lp]
            simp
          | true =>
            rw [h6, if_pos rfl] at lp
            rw [lp]
            simp [am]
  · rw [h3]
    cases d with
    | tup xs =>
      have hl := h4 xs rfl
      have hl2 : ¬ ((xs.length : Int) = 4) := by omega
      simp only [m_law_is_shop, defM_at]
      simp [isTy, lenO_tup, neO_int, hl, hl2]
    | _ =>
      simp only [m_law_is_shop, defM_at]
      simp [isTy]
end
end K23

namespace K23
open PySem PySem.Spec PyProof.Rows L2 DL FR
/-! a shop is one -/
theorem isAm_enc {q : Rat} (h : 0 ≤ q) : isAm (enc q) = true := by
  show (decide (0 ≤ q.num) && (decide (0 < (q.den : Int)) && decide (Nat.gcd q.num.natAbs (q.den : Int).natAbs = 1))) = true
  have h0 : (0 : Int) ≤ q.num := Rat.num_nonneg.mpr h
  have h1 : (0 : Int) < (q.den : Int) := by have := den_pos q; omega
  have h2 : Nat.gcd q.num.natAbs (q.den : Int).natAbs = 1 := by rw [Int.natAbs_natCast]; exact q.reduced
  rw [decide_eq_true h0, decide_eq_true h1, decide_eq_true h2]
  rfl
theorem isAms_encR {r : List Rat} (h : ∀ q ∈ r, 0 ≤ q) {n : Int} (hn : (r.length : Int) = n) : isAms (encR r) n = true := by
  show (decide (((r.map enc).length : Int) = n) && (r.map enc).all isAm) = true
  rw [List.length_map, decide_eq_true hn, Bool.true_and, List.all_eq_true]
  intro d hd
  obtain ⟨q, hq, rfl⟩ := List.mem_map.mp hd
  exact isAm_enc (h q hq)
theorem isMk_enc {n : Nat} {m : Mk} (h : DMk n m) : isMk (n : Nat) (encMk m) = true := by
  have t0 := h.t0
  have t1 := h.t1
  have g := h.g
  show ((decide (0 ≤ (m.g : Int)) && decide ((m.g : Int) ≤ (n : Int) - 1)) && (isAms (encR m.u) (n : Nat) && ((decide (1 ≤ (m.t : Int)) && decide ((m.t : Int) ≤ 4)) && isAm (enc m.m)))) = true
  rw [isAms_encR (fun q hq => (h.u q hq).1) (by rw [h.l]), isAm_enc h.m.1, decide_eq_true (show 0 ≤ (m.g : Int) by omega), decide_eq_true (show (m.g : Int) ≤ (n : Int) - 1 by omega), decide_eq_true (show 1 ≤ (m.t : Int) by omega), decide_eq_true (show (m.t : Int) ≤ 4 by omega)]
  rfl
/-- a shop whose stocks are amounts, of no great numbers -/
structure Good (x : Shop) : Prop where
  sh : Sh x
  st : ∀ q ∈ x.st, 0 ≤ q ∧ Bd 60 q
theorem th_enc {q : Rat} (h : Bd 60 q) : thD (enc q) = true := by
  have h1 := h.n
  have h2 := h.d
  have e1 : decide (q.num.natAbs < 2 ^ 60) = true := decide_eq_true h1
  have e2 : decide ((q.den : Int).natAbs < 2 ^ 60) = true := decide_eq_true (by rw [Int.natAbs_natCast]; exact h2)
  show (decide (2 ≤ 100) && ((decide (q.num.natAbs < 2 ^ 60)) && ((decide ((q.den : Int).natAbs < 2 ^ 60)) && true))) = true
  rw [e1, e2]
  rfl
theorem th_encR {r : List Rat} (h : ∀ q ∈ r, Bd 60 q) (hl : r.length ≤ 100) : thD (encR r) = true := by
  show (decide ((r.map enc).length ≤ 100) && thDs (r.map enc)) = true
  rw [List.length_map, decide_eq_true hl, Bool.true_and]
  refine thDs_of fun d hd => ?_
  obtain ⟨q, hq, rfl⟩ := List.mem_map.mp hd
  exact th_enc (h q hq)
theorem th_nat {n : Nat} (h : n ≤ 100) : thD (.int (n : Nat)) = true := by
  show decide ((n : Int).natAbs < 2 ^ 60) = true
  exact decide_eq_true (by omega)
theorem th_mk {n : Nat} {m : Mk} (hn : n ≤ 4) (h : DMk n m) : thD (encMk m) = true := by
  have t1 := h.t1
  have g := h.g
  show (decide (4 ≤ 100) && (thD (.int (m.g : Nat)) && (thD (encR m.u) && (thD (.int (m.t : Nat)) && (thD (enc m.m) && true))))) = true
  rw [th_nat (by omega), th_nat (by omega), th_encR (fun q hq => (h.u q hq).2.bd (k := 60) (by decide) (by decide) (by decide)) (by rw [h.l]; omega), th_enc (h.m.2.bd (k := 60) (by decide) (by decide) (by decide))]
  rfl
theorem th_sh {x : Shop} (h : Good x) : thD (encSh x) = true := by
  have n1 := h.sh.n1
  have d1 := h.sh.d1
  have l1 := h.sh.l1
  have ms : thD (.tup (x.ms.map encMk)) = true := by
    show (decide ((x.ms.map encMk).length ≤ 100) && thDs (x.ms.map encMk)) = true
    rw [List.length_map, decide_eq_true (by omega), Bool.true_and]
    refine thDs_of fun d hd => ?_
    obtain ⟨m, hm, rfl⟩ := List.mem_map.mp hd
    exact th_mk n1 (h.sh.ms m hm)
  show (decide (4 ≤ 100) && (thD (.int (x.n : Nat)) && (thD (.tup (x.ms.map encMk)) && (thD (encR x.st) && (thD (.int (x.dy : Nat)) && true))))) = true
  rw [th_nat (by omega), th_nat (by omega), ms, th_encR (fun q hq => (h.st q hq).2) (by rw [h.sh.sl]; omega)]
  rfl
theorem isSh_enc {x : Shop} (h : Good x) : isShD (encSh x) = true := by
  have n0 := h.sh.n0
  have n1 := h.sh.n1
  have d0 := h.sh.d0
  have d1 := h.sh.d1
  have l0 := h.sh.l0
  have l1 := h.sh.l1
  have ms : (x.ms.map encMk).all (isMk (x.n : Nat)) = true := by
    rw [List.all_eq_true]
    intro d hd
    obtain ⟨m, hm, rfl⟩ := List.mem_map.mp hd
    exact isMk_enc (h.sh.ms m hm)
  show ((decide (1 ≤ (x.n : Int)) && decide ((x.n : Int) ≤ 4)) && ((decide (1 ≤ ((x.ms.map encMk).length : Int)) && decide (((x.ms.map encMk).length : Int) ≤ 6)) && ((x.ms.map encMk).all (isMk (x.n : Nat)) && (isAms (encR x.st) (x.n : Nat) && (decide (1 ≤ (x.dy : Int)) && decide ((x.dy : Int) ≤ 7)))))) = true
  rw [ms, isAms_encR (fun q hq => (h.st q hq).1) (by rw [h.sh.sl]), List.length_map, decide_eq_true (show 1 ≤ (x.n : Int) by omega), decide_eq_true (show (x.n : Int) ≤ 4 by omega), decide_eq_true (show 1 ≤ (x.ms.length : Int) by omega), decide_eq_true (show (x.ms.length : Int) ≤ 6 by omega), decide_eq_true (show 1 ≤ (x.dy : Int) by omega), decide_eq_true (show (x.dy : Int) ≤ 7 by omega)]
  rfl
section
variable (S : DS)
theorem check_shop_ok {x : Shop} (h : Good x) : m_check_shop [encSh x] S = .ok .non S := by
  have := shop_any S (encSh x) (th_sh h)
  rw [isSh_enc h] at this
  simp only [m_check_shop, defM_at]
  simp [this]
/-! orders -/
def isOd (x : Shop) (d : D) : Bool := match d with
  | .tup [a, b, c] => isW a 0 ((x.n : Int) - 1) && (isAm b && isW c 0 ((x.dy : Int) - 1))
  | _ => false
def isOsD (x : Shop) (d : D) : Bool := match d with
  | .tup xs => decide ((xs.length : Int) ≤ 12) && xs.all (isOd x)
  | _ => false
theorem isOd_eq (x : Shop) (a b c : D) : isOd x (.tup [a, b, c]) = (isW a 0 ((x.n : Int) - 1) && (isAm b && isW c 0 ((x.dy : Int) - 1))) := rfl
theorem trip_of {x : Shop} {d : D} : (∃ a b c, d = .tup [a, b, c]) ∨ (isS d 3 3 = false ∧ isOd x d = false ∧ (∀ xs, d = .tup xs → xs.length ≠ 3)) := by
  cases d with
  | tup xs =>
    match xs with
    | [a, b, c] => exact .inl ⟨a, b, c, rfl⟩
    | [] => exact .inr ⟨rfl, rfl, fun xs h => by cases h; simp⟩
    | [a] => exact .inr ⟨rfl, rfl, fun xs h => by cases h; simp⟩
    | [a, b] => exact .inr ⟨rfl, rfl, fun xs h => by cases h; simp⟩
    | a :: b :: c :: f :: r => exact .inr ⟨by simp [isS]; omega, rfl, fun xs h => by cases h; simp⟩
  | _ => exact .inr ⟨rfl, rfl, fun xs h => by cases h⟩
theorem order_any (x : Shop) (d : D) (h : thD d = true) : m_is_order [encSh x, d] S = .ok (.bl (isOd x d)) S := by
  rcases trip_of (x := x) (d := d) with ⟨a, b, c, rfl⟩ | ⟨h1, h2, _⟩
  · have p0 : ixO (.tup [a, b, c]) (.int 0) S = .ok a S := FR.getI_0 a [b, c] S
    have p1 : ixO (.tup [a, b, c]) (.int 1) S = .ok b S := FR.getI_1 a b [c] S
    have p2 : ixO (.tup [a, b, c]) (.int 2) S = .ok c S := FR.getI_2 a b c [] S
    have sz : FR.is_sized [.tup [a, b, c], .int 3, .int 3] S = .ok (.bl true) S := sized_any S _ 3 3
    have w0 := within_any S a 0 ((x.n : Int) - 1)
    have w2 := within_any S c 0 ((x.dy : Int) - 1)
    have a1 := amount_any S b
    rw [isOd_eq]
    simp only [m_is_order, defM_at, m_sized1, m_within, m_amount]
    cases h1 : isW a 0 ((x.n : Int) - 1) with
    | false =>
      rw [h1] at w0
      simp [sz, p0, sh0, subO_int1, w0]
    | true =>
      rw [h1] at w0
      cases h2 : isAm b with
      | false =>
        rw [h2] at a1
        simp [sz, p0, p1, sh0, subO_int1, w0, a1]
      | true =>
        rw [h2] at a1
        simp [sz, p0, p1, p2, sh0, sh3, subO_int1, w0, a1, w2]
  · have sz : FR.is_sized [d, .int 3, .int 3] S = .ok (.bl false) S := by rw [sized_any, h1]
    rw [h2]
    simp only [m_is_order, defM_at, m_sized1]
    simp [sz]
theorem orders_of_any (x : Shop) (d : D) (h : thD d = true) : m_are_orders_of [encSh x, d] S = .ok (.bl (isOsD x d)) S := by
  have sz := sized_any S d 0 12
  cases d with
  | tup xs =>
    obtain ⟨hl, ht⟩ := th_tup h
    by_cases hn : (xs.length : Int) ≤ 12
    · have e : isOsD x (.tup xs) = xs.all (isOd x) := by
        show (decide _ && _) = _
        rw [decide_eq_true hn, Bool.true_and]
      have sz : FR.is_sized [.tup xs, .int 0, .int 12] S = .ok (.bl true) S := by
        rw [sz]
        show Ou.ok (D.bl (decide (0 ≤ (xs.length : Int)) && decide ((xs.length : Int) ≤ 12))) S = _
        rw [decide_eq_true hn, decide_eq_true (show 0 ≤ (xs.length : Int) by omega)]
        rfl
      rw [e]
      simp only [m_are_orders_of, defM_at, m_sized1]
      simp [sz]
      rw [lcK_ok, if_pos (Nat.le_trans hl (by decide)), lcL_map rfl (f := fun d => .bl (isOd x d)) xs [] fun d hd => by simp [wipeE, order_any S x d (ht d hd)]]
      simp [all_bls]
    · have e : isOsD x (.tup xs) = false := by
        show (decide _ && _) = _
        rw [decide_eq_false hn, Bool.false_and]
      have sz : FR.is_sized [.tup xs, .int 0, .int 12] S = .ok (.bl false) S := by
        rw [sz]
        show Ou.ok (D.bl (decide (0 ≤ (xs.length : Int)) && decide ((xs.length : Int) ≤ 12))) S = _
        rw [decide_eq_false hn, Bool.and_false]
      rw [e]
      simp only [m_are_orders_of, defM_at, m_sized1]
      simp [sz]
  | _ =>
    simp only [m_are_orders_of, defM_at, m_sized1]
    simp [sz, isS, isOsD]
theorem orders_any {x : Shop} (hx : Good x) (d : D) (h : thD d = true) : m_are_orders [encSh x, d] S = .ok (.bl (isOsD x d)) S := by
  simp only [m_are_orders, defM_at]
  simp [check_shop_ok S hx, orders_of_any S x d h]
noncomputable abbrev lrB : MS := (mSeq (mIfS (mOr (mNot (mT (isiM "tuple" (mV 2)))) (mOr (mT (m2 neO (mL lenO (maC (mV 2) maN)) (mC (.int 3)))) (mNot (mT (mL m_law_is_number (maC (m2 ixO (mV 2) (mC (.int 0))) (maC (mC (.int 0)) (maC (m2 subO (m2 ixO (mV 0) (mC (.int 0))) (mC (.int 1))) maN))))))))
    (mRet (mC (.bl false)))
    mNx)
    (mIfS (mOr (mNot (mT (mL m_law_is_amount (maC (m2 ixO (mV 2) (mC (.int 1))) maN)))) (mNot (mT (mL m_law_is_number (maC (m2 ixO (mV 2) (mC (.int 2))) (maC (mC (.int 0)) (maC (m2 subO (m2 ixO (mV 0) (mC (.int 3))) (mC (.int 1))) maN)))))))
    (mRet (mC (.bl false)))
    mNx))
theorem lod_turn (x : Shop) (d : D) (h : thD d = true) (x1 x2 : Option D) : turn (gN 2) lrB d [some (encSh x), x1, x2] S = if isOd x d = true then .ok (.nx, [some (encSh x), x1, some d]) S else .ok (.rt (.bl false), [some (encSh x), x1, some d]) S := by
  rw [turn_at, gN_at, turnK_ok]
  simp only [List.set_cons_succ, List.set_cons_zero]
  rcases trip_of (x := x) (d := d) with ⟨a, b, c, rfl⟩ | ⟨h1, h2, h4⟩
  · have ht := (th_tup h).2
    have p0 : ixO (.tup [a, b, c]) (.int 0) S = .ok a S := FR.getI_0 a [b, c] S
    have p1 : ixO (.tup [a, b, c]) (.int 1) S = .ok b S := FR.getI_1 a b [c] S
    have p2 : ixO (.tup [a, b, c]) (.int 2) S = .ok c S := FR.getI_2 a b c [] S
    have ln : lenO [.tup [a, b, c]] S = .ok (.int 3) S := rfl
    have w0 := number_any S a 0 ((x.n : Int) - 1)
    have w2 := number_any S c 0 ((x.dy : Int) - 1)
    have a1 := lamount_any S b (ht b (by simp))
    rw [isOd_eq]
    cases h1 : isW a 0 ((x.n : Int) - 1) with
    | false =>
      rw [h1] at w0
      simp [isTy, ln, neO_int, p0, sh0, subO_int1, w0]
    | true =>
      rw [h1] at w0
      cases h2 : isAm b with
      | false =>
        rw [h2] at a1
        simp [isTy, ln, neO_int, p0, p1, sh0, subO_int1, w0, a1]
      | true =>
        rw [h2] at a1
        cases h3 : isW c 0 ((x.dy : Int) - 1) with
        | false =>
          rw [h3] at w2
          simp [isTy, ln, neO_int, p0, p1, p2, sh0, sh3, subO_int1, w0, a1, w2]
        | true =>
          rw [h3] at w2
          simp [isTy, ln, neO_int, p0, p1, p2, sh0, sh3, subO_int1, w0, a1, w2]
  · rw [h2, if_neg (by decide)]
    cases d with
    | tup xs =>
      have hl := h4 xs rfl
      have hl2 : ¬ ((xs.length : Int) = 3) := by omega
      simp [isTy, lenO_tup, neO_int, hl, hl2]
    | _ => simp [isTy]
theorem lorders_any (x : Shop) (d : D) (h : thD d = true) : m_law_are_orders [encSh x, d] S = .ok (.bl (isOsD x d)) S := by
  cases d with
  | tup xs =>
    obtain ⟨hl, ht⟩ := th_tup h
    by_cases hn : (xs.length : Int) ≤ 12
    · have e : isOsD x (.tup xs) = xs.all (isOd x) := by
        show (decide _ && _) = _
        rw [decide_eq_true hn, Bool.true_and]
      have hn2 : ¬ (12 < (xs.length : Int)) := by omega
      rw [e]
      obtain ⟨env', ⟨y1, rfl⟩, lp⟩ := forL_find (mg := gN 2) (p := lrB) (it := ⟨xs, none⟩) (S := S) rfl (E := fun env => ∃ x2, env = [some (encSh x), some (.tup xs), x2]) (f := fun d => if isOd x d = true then none else some (.bl false)) xs [some (encSh x), some (.tup xs), none] ⟨none, rfl⟩ (by
        rintro d hd env ⟨x2, rfl⟩
        refine ⟨_, ⟨some d, rfl⟩, ?_⟩
        rw [lod_turn S x d (ht d hd)]
        cases isOd x d <;> rfl)
      rw [find_all] at lp
      simp only [m_law_are_orders, defM_at]
      simp [isTy, lenO_tup, hn2]
      cases h6 : xs.all (isOd x) with
      | false =>
        rw [h6, if_neg (by decide)] at lp
        rw [lp]
        simp
      | true =>
        rw [h6, if_pos rfl] at lp
        rw [lp]
        simp
    · have e : isOsD x (.tup xs) = false := by
        show (decide _ && _) = _
        rw [decide_eq_false hn, Bool.false_and]
      have hn2 : 12 < (xs.length : Int) := by omega
      rw [e]
      simp only [m_law_are_orders, defM_at]
      simp [isTy, lenO_tup, hn2]
  | _ =>
    simp only [m_law_are_orders, defM_at]
    simp [isTy, isOsD]
end
end K23

namespace K23
open PySem PySem.Spec PyProof.Rows L2 DL FR
def bel (m : Mk) (d : D) : Bool := match d with
  | .tup [.int a, .int b] => decide (m.m.num * b < a * m.m.den)
  | _ => false
def rowBad (x : Shop) (d : D) : Bool := match d with
  | .tup qs => (qs.zip x.ms).any fun y => bel y.2 y.1
  | _ => false
def rowIs (x : Shop) (d : D) : Bool := isAms d (x.ms.length : Nat) && !rowBad x d
def isScD (x : Shop) (d : D) : Bool := match d with
  | .tup rows => decide ((rows.length : Int) = x.dy) && rows.all (rowIs x)
  | _ => false
theorem all_and {α : Type} (f g : α → Bool) : ∀ xs : List α, xs.all (fun d => f d && g d) = (xs.all f && xs.all g)
  | [] => rfl
  | x :: xs => by
    rw [List.all_cons, List.all_cons, List.all_cons, all_and f g xs]
    cases f x <;> cases g x <;> cases xs.all f <;> rfl
section
variable (S : DS)
theorem isAm_pair {d : D} (h : isAm d = true) : ∃ a b, d = .tup [.int a, .int b] := by
  unfold isAm at h
  split at h
  · exact ⟨_, _, rfl⟩
  · cases h
theorem below_any {n : Nat} {m : Mk} (hm : DMk n m) {d : D} (h : isAm d = true) (ht : thD d = true) : m_law_is_below [enc m.m, d] S = .ok (.bl (bel m d)) S := by
  obtain ⟨a, b, rfl⟩ := isAm_pair h
  have t := (th_tup ht).2
  have ha := th_int (t (.int a) (by simp))
  have hb := th_int (t (.int b) (by simp))
  have bd := hm.m.2.bd (k := 60) (by decide) (by decide) (by decide)
  have p0 : ixO (.tup [.int a, .int b]) (.int 0) S = .ok (.int a) S := FR.getI_0 (.int a) [.int b] S
  have p1 : ixO (.tup [.int a, .int b]) (.int 1) S = .ok (.int b) S := FR.getI_1 (.int a) (.int b) [] S
  have m1 : mulO (.int m.m.num) (.int b) S = .ok (.int (m.m.num * b)) S := mul_int S (lt4 bd.n (by decide)) (lt4 hb (by decide))
  have m2 : mulO (.int a) (.int (m.m.den : Nat)) S = .ok (.int (a * m.m.den)) S := mul_int S (lt4 ha (by decide)) (by rw [Int.natAbs_natCast]; exact lt4 bd.d (by decide))
  simp only [m_law_is_below, defM_at]
  rw [startE_at]
  simp only [mRet_at, mL_at, maC_at, maN_at, m2_at, mV_at, mC_at, m2K_ok, m2J_ok, List.map_cons, List.map_nil, List.length_cons, List.length_nil, Nat.reduceAdd, Nat.reduceSub, List.reduceReplicate, if_true, List.cons_append, List.nil_append, List.getElem?_cons_zero, List.getElem?_cons_succ, enc0, enc1, p0, p1, m1, m2, cmpO_int, retK_ok, retO_rt]
  rfl
theorem zip_rows (qs : List D) (ms : List Mk) : zipO [.tup qs, .tup (ms.map encMk)] S = .ok ⟨(qs.zip ms).map fun y => .tup [y.1, encMk y.2], none⟩ S := by
  show Ou.ok (Itm.mk (zipD qs (ms.map encMk)) none) S = _
  have := zipD_map (fun d : D => d) encMk qs ms
  rw [List.map_id'] at this
  rw [this]
/-- the look at a row of amounts -/
theorem row_any {x : Shop} (hx : Sh x) {qs : List D} (h : ∀ d ∈ qs, isAm d = true) (ht : ∀ d ∈ qs, thD d = true) {mg : MG} {el : ME} {env : DE} {vs : List Nat}
    (hc : ∀ d m, isAm d = true → thD d = true → DMk x.n m → cell mg el (.tup [d, encMk m]) (wipeE env vs) S = .ok (.bl (bel m d)) S) :
    lcK mg mYes el vs finV env (.ok ⟨(qs.zip x.ms).map fun y => .tup [y.1, encMk y.2], none⟩ S) = .ok (.vl ((qs.zip x.ms).map fun y => .bl (bel y.2 y.1))) S := by
  have l1 := hx.l1
  rw [lcK_F (fun y : D × Mk => D.tup [y.1, encMk y.2]) (fun y => .bl (bel y.2 y.1)) (qs.zip x.ms) (by
    rw [List.length_zip]
    exact Nat.le_trans (Nat.min_le_right _ _) (Nat.le_trans l1 (by decide))) fun y hy => by
      obtain ⟨h1, h2⟩ := List.of_mem_zip (a := y.1) (b := y.2) hy
      exact hc y.1 y.2 (h _ h1) (ht _ h1) (hx.ms _ h2)]
  rfl
theorem th_row {d : D} {n : Int} (h : isAms d n = true) (ht : thD d = true) : ∃ qs, d = .tup qs ∧ (qs.length : Int) = n ∧ (∀ q ∈ qs, isAm q = true) ∧ ∀ q ∈ qs, thD q = true := by
  cases d with
  | tup qs =>
    have h : (decide ((qs.length : Int) = n) && qs.all isAm) = true := h
    rw [Bool.and_eq_true, List.all_eq_true] at h
    exact ⟨qs, rfl, of_decide_eq_true h.1, h.2, (th_tup ht).2⟩
  | _ => simp [isAms] at h
theorem sched_of_any {x : Shop} (hx : Sh x) (d : D) (h : thD d = true) : m_is_schedule_of [encSh x, d] S = .ok (.bl (isScD x d)) S := by
  have sz := sized_any S d (x.dy : Nat) (x.dy : Nat)
  have un : ∀ (x2 x3 x4 x5 x6 x7 x8 : Option D), (mAsg (gT 4 (gsC (gN 2) (gsC (gN 3) (gsC (gN 4) (gsC (gN 5) gsN))))) (mV 0) : MS) [some (encSh x), some d, x2, x3, x4, x5, x6, x7, x8] S = .ok (.nx, [some (encSh x), some d, some (.int (x.n : Nat)), some (.tup (x.ms.map encMk)), some (encR x.st), some (.int (x.dy : Nat)), x6, x7, x8]) S := fun x2 x3 x4 x5 x6 x7 x8 => by
    simp [encSh]
  have ln : lenO [.tup (x.ms.map encMk)] S = .ok (.int (x.ms.length : Nat)) S := by rw [lenO_tup, List.length_map]
  simp only [m_is_schedule_of, defM_at, m_sized1, m_amounts]
  rw [startE_at]
  simp only [List.map_cons, List.map_nil, List.length_cons, List.length_nil, Nat.reduceAdd, Nat.reduceSub, List.reduceReplicate, if_true, List.cons_append, List.nil_append]
  rw [mSeq_at, un, seqK_nx, mSeq_at]
  cases d with
  | tup rows =>
    obtain ⟨hl, ht⟩ := th_tup h
    rw [isS_eq] at sz
    by_cases hn : (rows.length : Int) = (x.dy : Nat)
    · rw [decide_eq_true hn] at sz
      have lc1 : lcK (gN 6) mYes (mL FR.are_amounts (maC (mV 6) (maC (mL lenO (maC (mV 3) maN)) maN))) [6] finV [some (encSh x), some (.tup rows), some (.int (x.n : Nat)), some (.tup (x.ms.map encMk)), some (encR x.st), some (.int (x.dy : Nat)), none, none, none] (.ok ⟨rows, none⟩ S) = .ok (.vl (rows.map fun d => .bl (isAms d (x.ms.length : Nat)))) S := by
        rw [lcK_ok, if_pos (Nat.le_trans hl (by decide)), lcL_map rfl (f := fun d => .bl (isAms d (x.ms.length : Nat))) rows [] fun d hd => ?_]
        · rfl
        · have am := amounts_any S d (x.ms.length : Nat) (ht d hd)
          simp [wipeE, ln, am]
      have al := all_bls S (fun d => isAms d (x.ms.length : Nat)) rows
      have e : isScD x (.tup rows) = (rows.all (fun d => isAms d (x.ms.length : Nat)) && rows.all (fun d => !rowBad x d)) := by
        show (decide _ && rows.all (rowIs x)) = _
        rw [decide_eq_true hn, Bool.true_and, ← all_and]
        rfl
      rw [e]
      have st : (mIfS (mOr (mNot (mT (mL FR.is_sized (maC (mV 1) (maC (mV 5) (maC (mV 5) maN)))))) (mNot (mT (mL allO (maC (lcM (mSeqI (mV 1)) (gN 6) mYes (mL FR.are_amounts (maC (mV 6) (maC (mL lenO (maC (mV 3) maN)) maN))) [6] finV) maN)))))
    (mRet (mC (.bl false)))
    mNx : MS) [some (encSh x), some (.tup rows), some (.int (x.n : Nat)), some (.tup (x.ms.map encMk)), some (encR x.st), some (.int (x.dy : Nat)), none, none, none] S = if rows.all (fun d => isAms d (x.ms.length : Nat)) = true then .ok (.nx, [some (encSh x), some (.tup rows), some (.int (x.n : Nat)), some (.tup (x.ms.map encMk)), some (encR x.st), some (.int (x.dy : Nat)), none, none, none]) S else .ok (.rt (.bl false), [some (encSh x), some (.tup rows), some (.int (x.n : Nat)), some (.tup (x.ms.map encMk)), some (encR x.st), some (.int (x.dy : Nat)), none, none, none]) S := by
        simp only [mIfS_at, mOr_at, mNot_at, mT_at, mL_at, maC_at, maN_at, mV_at, lcM_at, mSeqI_at, List.getElem?_cons_zero, List.getElem?_cons_succ, maK_ok, maJ_ok, bind_ok, sz, tK_ok, notK_ok, orK_ok, Bool.not_true, Bool.false_eq_true, if_false, asItm_tup, lc1, al]
        cases rows.all (fun d => isAms d (x.ms.length : Nat)) <;> simp
      rw [st]
      cases ha : rows.all (fun d => isAms d (x.ms.length : Nat)) with
      | false =>
        rw [if_neg (by decide)]
        rfl
      | true =>
        rw [if_pos rfl, seqK_nx]
        rw [List.all_eq_true] at ha
        have ce : ∀ d ∈ rows, cell (gN 6) (mNotV (mL anyO (maC (lcM (mArgI zipO (maC (mV 6) (maC (mV 3) maN))) (gT 2 (gsC (gN 7) (gsC (gN 8) gsN))) mYes (mL m_is_less (maC (m2 ixO (mV 8) (mC (.int 3))) (maC (mV 7) maN))) [7, 8] finV) maN))) d (wipeE [some (encSh x), some (.tup rows), some (.int (x.n : Nat)), some (.tup (x.ms.map encMk)), some (encR x.st), some (.int (x.dy : Nat)), none, none, none] [6]) S = .ok (.bl (!rowBad x d)) S := fun d hd => by
          obtain ⟨qs, rfl, lq, hq, tq⟩ := th_row (ha d hd) (ht d hd)
          have rw1 := row_any S hx hq tq (mg := gT 2 (gsC (gN 7) (gsC (gN 8) gsN))) (el := mL m_is_less (maC (m2 ixO (mV 8) (mC (.int 3))) (maC (mV 7) maN))) (env := [some (encSh x), some (.tup rows), some (.int (x.n : Nat)), some (.tup (x.ms.map encMk)), some (encR x.st), some (.int (x.dy : Nat)), some (.tup qs), none, none]) (vs := [7, 8]) (fun d m h1 h2 h3 => by
            have b := below_any S h3 h1 h2
            simp [wipeE, mk3, m_is_less_, b])
          have an := any_bls S (fun y : D × Mk => bel y.2 y.1) (qs.zip x.ms)
          simp only [cell_at, wipeE, List.set_cons_succ, List.set_cons_zero, gN_at, cellK_ok, mNotV_at, mL_at, maC_at, maN_at, lcM_at, mArgI_at, mV_at, List.getElem?_cons_zero, List.getElem?_cons_succ, maK_ok, maJ_ok, bind_ok, zip_rows, rw1, an]
          rfl
        have lc2 := lcL_map (it := ⟨rows, none⟩) rfl (f := fun d => .bl (!rowBad x d)) rows [] ce
        have al2 := all_bls S (fun d => !rowBad x d) rows
        simp only [mRet_at, mL_at, maC_at, maN_at, lcM_at, mSeqI_at, mV_at, List.getElem?_cons_zero, List.getElem?_cons_succ, bind_ok, asItm_tup]
        rw [lcK_ok, if_pos (show (Itm.mk rows none).items.length ≤ sizeLine from Nat.le_trans hl (by decide)), lc2]
        simp [al2]
    · rw [decide_eq_false hn] at sz
      have e : isScD x (.tup rows) = false := by
        show (decide _ && _) = _
        rw [decide_eq_false hn, Bool.false_and]
      rw [e]
      simp [sz]
  | _ =>
    have sz : ∀ d', FR.is_sized [d', .int (x.dy : Nat), .int (x.dy : Nat)] S = _ := fun d' => sized_any S d' _ _
    simp [sz, isS, isScD]
theorem sched_any {x : Shop} (hx : Good x) (d : D) (h : thD d = true) : m_is_schedule [encSh x, d] S = .ok (.bl (isScD x d)) S := by
  simp only [m_is_schedule, defM_at]
  simp [check_shop_ok S hx, sched_of_any S hx.sh d h]
noncomputable abbrev lcB : MS := (mSeq (mIfS (mOr (mNot (mT (isiM "tuple" (mV 2)))) (mOr (mT (m2 neO (mL lenO (maC (mV 2) maN)) (mL lenO (maC (m2 ixO (mV 0) (mC (.int 1))) maN)))) (mNot (mT (mL allO (maC (lcM (mSeqI (mV 2)) (gN 3) mYes (mL m_law_is_amount (maC (mV 3) maN)) [3] finV) maN))))))
    (mRet (mC (.bl false)))
    mNx)
    (mIfS (mT (mL anyO (maC (lcM (mArgI zipO (maC (mV 2) (maC (m2 ixO (mV 0) (mC (.int 1))) maN))) (gT 2 (gsC (gN 3) (gsC (gN 4) gsN))) mYes (mL m_law_is_below (maC (m2 ixO (mV 4) (mC (.int 3))) (maC (mV 3) maN))) [3, 4] finV) maN)))
    (mRet (mC (.bl false)))
    mNx))
theorem lsc_turn {x : Shop} (hx : Sh x) (d : D) (h : thD d = true) (x1 x2 x3 x4 : Option D) : turn (gN 2) lcB d [some (encSh x), x1, x2, x3, x4] S = if rowIs x d = true then .ok (.nx, [some (encSh x), x1, some d, x3, x4]) S else .ok (.rt (.bl false), [some (encSh x), x1, some d, x3, x4]) S := by
  have ln : lenO [.tup (x.ms.map encMk)] S = .ok (.int (x.ms.length : Nat)) S := by rw [lenO_tup, List.length_map]
  rw [turn_at, gN_at, turnK_ok]
  simp only [List.set_cons_succ, List.set_cons_zero]
  unfold lcB
  rw [mSeq_at]
  have st1 : (mIfS (mOr (mNot (mT (isiM "tuple" (mV 2)))) (mOr (mT (m2 neO (mL lenO (maC (mV 2) maN)) (mL lenO (maC (m2 ixO (mV 0) (mC (.int 1))) maN)))) (mNot (mT (mL allO (maC (lcM (mSeqI (mV 2)) (gN 3) mYes (mL m_law_is_amount (maC (mV 3) maN)) [3] finV) maN))))))
    (mRet (mC (.bl false)))
    mNx : MS) [some (encSh x), x1, some d, x3, x4] S = if isAms d (x.ms.length : Nat) = true then .ok (.nx, [some (encSh x), x1, some d, x3, x4]) S else .ok (.rt (.bl false), [some (encSh x), x1, some d, x3, x4]) S := by
    cases d with
    | tup qs =>
      obtain ⟨hl, ht⟩ := th_tup h
      by_cases hn : (qs.length : Int) = (x.ms.length : Nat)
      · have e : isAms (.tup qs) (x.ms.length : Nat) = qs.all isAm := by
          show (decide _ && _) = _
          rw [decide_eq_true hn, Bool.true_and]
        have lc : lcK (gN 3) mYes (mL m_law_is_amount (maC (mV 3) maN)) [3] finV [some (encSh x), x1, some (.tup qs), x3, x4] (.ok ⟨qs, none⟩ S) = .ok (.vl (qs.map fun d => .bl (isAm d))) S := by
          rw [lcK_ok, if_pos (Nat.le_trans hl (by decide)), lcL_map rfl (f := fun d => .bl (isAm d)) qs [] fun d hd => by simp [wipeE, lamount_any S d (ht d hd)]]
          rfl
        have al := all_bls S isAm qs
        have ln2 : lenO [.tup qs] S = .ok (.int (x.ms.length : Nat)) S := by rw [lenO_tup, hn]
        rw [e]
        simp only [mIfS_at, mOr_at, mNot_at, mT_at, mL_at, maC_at, maN_at, m2_at, mC_at, mV_at, lcM_at, mSeqI_at, List.getElem?_cons_zero, List.getElem?_cons_succ, maK_ok, maJ_ok, bind_ok, isiM_at, isiK_ok, isTy, ln2, sh1, ln, m2K_ok, m2J_ok, neO_int, decide_true, Bool.not_true, tK_ok, notK_ok, orK_ok, Bool.false_eq_true, if_false, asItm_tup, lc, al]
        cases qs.all isAm <;> simp
      · have e : isAms (.tup qs) (x.ms.length : Nat) = false := by
          show (decide _ && _) = _
          rw [decide_eq_false hn, Bool.false_and]
        have hn2 : ¬ (qs.length = x.ms.length) := by omega
        rw [e, if_neg (by decide)]
        simp [isTy, lenO_tup, sh1, neO_int, hn, hn2]
    | _ => simp [isTy, isAms]
  rw [st1]
  unfold rowIs
  cases ha : isAms d (x.ms.length : Nat) with
  | false => simp
  | true =>
    rw [if_pos rfl, seqK_nx]
    obtain ⟨qs, rfl, lq, hq, tq⟩ := th_row ha h
    have rw1 := row_any S hx hq tq (mg := gT 2 (gsC (gN 3) (gsC (gN 4) gsN))) (el := mL m_law_is_below (maC (m2 ixO (mV 4) (mC (.int 3))) (maC (mV 3) maN))) (env := [some (encSh x), x1, some (.tup qs), x3, x4]) (vs := [3, 4]) (fun d m h1 h2 h3 => by
      have b := below_any S h3 h1 h2
      simp [wipeE, mk3, b])
    have an : anyO [.vl ((qs.zip x.ms).map fun y => .bl (bel y.2 y.1))] S = .ok (.bl (rowBad x (.tup qs))) S := any_bls S (fun y : D × Mk => bel y.2 y.1) (qs.zip x.ms)
    simp only [mIfS_at, mT_at, mL_at, maC_at, maN_at, m2_at, mC_at, mV_at, lcM_at, mArgI_at, List.getElem?_cons_zero, List.getElem?_cons_succ, m2K_ok, m2J_ok, sh1, maK_ok, maJ_ok, bind_ok, zip_rows, rw1, an, tK_ok]
    cases rowBad x (.tup qs) <;> simp
theorem lsched_any {x : Shop} (hx : Sh x) (d : D) (h : thD d = true) : m_law_is_schedule [encSh x, d] S = .ok (.bl (isScD x d)) S := by
  cases d with
  | tup rows =>
    obtain ⟨hl, ht⟩ := th_tup h
    by_cases hn : (rows.length : Int) = (x.dy : Nat)
    · have e : isScD x (.tup rows) = rows.all (rowIs x) := by
        show (decide _ && _) = _
        rw [decide_eq_true hn, Bool.true_and]
      rw [e]
      obtain ⟨env', ⟨y2, rfl⟩, lp⟩ := forL_find (mg := gN 2) (p := lcB) (it := ⟨rows, none⟩) (S := S) rfl (E := fun env => ∃ x2, env = [some (encSh x), some (.tup rows), x2, none, none]) (f := fun d => if rowIs x d = true then none else some (.bl false)) rows [some (encSh x), some (.tup rows), none, none, none] ⟨none, rfl⟩ (by
        rintro d hd env ⟨x2, rfl⟩
        refine ⟨_, ⟨some d, rfl⟩, ?_⟩
        rw [lsc_turn S hx d (ht d hd)]
        cases rowIs x d <;> rfl)
      rw [find_all] at lp
      have ln2 : lenO [.tup rows] S = .ok (.int (x.dy : Nat)) S := by rw [lenO_tup, hn]
      simp only [m_law_is_schedule, defM_at]
      simp [isTy, ln2, sh3, neO_int]
      cases h6 : rows.all (rowIs x) with
      | false =>
        rw [h6, if_neg (by decide)] at lp
        rw [lp]
        simp
      | true =>
        rw [h6, if_pos rfl] at lp
        rw [lp]
        simp
    · have e : isScD x (.tup rows) = false := by
        show (decide _ && _) = _
        rw [decide_eq_false hn, Bool.false_and]
      have hn2 : ¬ (rows.length = x.dy) := by omega
      rw [e]
      simp only [m_law_is_schedule, defM_at]
      simp [isTy, lenO_tup, sh3, neO_int, hn, hn2]
  | _ =>
    simp only [m_law_is_schedule, defM_at]
    simp [isTy, isScD]
end
end K23

namespace K23
open PySem PySem.Spec PyProof.Rows L2 DL FR
mutual
def shD : D → Bool
  | .int i => decide (i.natAbs < 2 ^ 60)
  | .tup xs => decide (xs.length ≤ 40) && shDs xs
  | .ref _ => false
  | _ => true
def shDs : List D → Bool
  | [] => true
  | d :: ds => shD d && shDs ds
end
theorem shDs_mem : ∀ {ds : List D}, shDs ds = true → ∀ d ∈ ds, shD d = true
  | [], _, d, h => by simp at h
  | x :: ds, h, d, hd => by
    rw [shDs, Bool.and_eq_true] at h
    rcases List.mem_cons.mp hd with rfl | hd
    · exact h.1
    · exact shDs_mem h.2 d hd
theorem shDs_of : ∀ {ds : List D}, (∀ d ∈ ds, shD d = true) → shDs ds = true
  | [], _ => rfl
  | x :: ds, h => by
    rw [shDs, h x (List.mem_cons_self ..), shDs_of fun d hd => h d (List.mem_cons_of_mem _ hd)]
    rfl
mutual
theorem th_of_sh : ∀ {d : D}, shD d = true → thD d = true
  | .int i, h => by rw [shD] at h; rw [thD]; exact h
  | .tup xs, h => by
    rw [shD, Bool.and_eq_true] at h
    have := of_decide_eq_true h.1
    rw [thD, decide_eq_true (by omega), ths_of_shs h.2]
    rfl
  | .ref _, h => by rw [shD] at h; cases h
  | .non, _ => rfl
  | .bl _, _ => rfl
  | .str _, _ => rfl
  | .vl _, _ => rfl
  | .fz _, _ => rfl
  | .dct, _ => rfl
theorem ths_of_shs : ∀ {ds : List D}, shDs ds = true → thDs ds = true
  | [], _ => rfl
  | d :: ds, h => by
    rw [shDs, Bool.and_eq_true] at h
    rw [thDs, th_of_sh h.1, ths_of_shs h.2]
    rfl
end
theorem th_tup_of {xs : List D} (hl : xs.length ≤ 100) (h : ∀ d ∈ xs, thD d = true) : thD (.tup xs) = true := by
  rw [thD, decide_eq_true hl, thDs_of h]
  rfl
theorem cut_mem {xs : List D} {lo hi : Option Int} {d : D} (h : d ∈ DL.cutD xs lo hi) : d ∈ xs := by
  unfold DL.cutD at h
  exact List.mem_of_mem_drop (List.mem_of_mem_take h)
theorem cut_len (xs : List D) (lo hi : Option Int) : (DL.cutD xs lo hi).length ≤ xs.length := by
  unfold DL.cutD
  rw [List.length_take, List.length_drop]
  omega
theorem le_line {n : Nat} (h : n ≤ 9000) : n ≤ sizeLine := Nat.le_trans h (by decide)
theorem addO_tup {xs ys : List D} (S : DS) (h : xs.length + ys.length ≤ 9000) : addO (.tup xs) (.tup ys) S = .ok (.tup (xs ++ ys)) S := if_pos (le_line h)
theorem addO_vl {xs ys : List D} (S : DS) (h : xs.length + ys.length ≤ 9000) : addO (.vl xs) (.vl ys) S = .ok (.vl (xs ++ ys)) S := if_pos (le_line h)
noncomputable abbrev odB : MS := mSet 1 (mIf (mT (m2 gtO (mV 2) (mC (.int 2)))) (mL lstO (maC (mV 1) maN)) (mL tupO (maC (mV 1) maN)))
theorem odd_loop {h : List D} (S : DS) {it : Itm} (hg : it.g = none) : ∀ (ds : List D), (∀ d ∈ ds, ∃ i : Nat, d = .int (i : Nat)) → ∀ (dp : D) (x0 x2 : Option D), thD dp = true →
    ∃ dp' x2', forL (gN 2) odB it ds [x0, some dp, x2, none] S = .ok (.nx, [x0, some dp', x2', none]) S ∧ thD dp' = true
  | [], _, dp, x0, x2, ht => ⟨dp, x2, forL_nil hg, ht⟩
  | d :: ds, hd, dp, x0, x2, ht => by
    obtain ⟨i, rfl⟩ := hd d (List.mem_cons_self ..)
    by_cases z : 2 < (i : Int)
    · obtain ⟨dp', x2', e, h'⟩ := odd_loop (h := h) S hg ds (fun d hm => hd d (List.mem_cons_of_mem _ hm)) (.vl [dp]) x0 (some (.int (i : Nat))) rfl
      refine ⟨dp', x2', ?_, h'⟩
      have z2 : 2 < i := by omega
      rw [forL_cons hg]
      simp [z, z2, lstO]
      exact e
    · obtain ⟨dp', x2', e, h'⟩ := odd_loop (h := h) S hg ds (fun d hm => hd d (List.mem_cons_of_mem _ hm)) (.tup [dp]) x0 (some (.int (i : Nat))) (th_tup_of (by simp) (by simpa using ht))
      refine ⟨dp', x2', ?_, h'⟩
      have z2 : ¬ 2 < i := by omega
      rw [forL_cons hg]
      simp [z, z2, tupO]
      exact e
theorem odd_ok {h : List D} (hh : Hand h) (R : DS) : ∃ d h', m_law_odd [.ref 0] (.lst h :: R) = .ok d (.lst h' :: R) ∧ Hand h' ∧ thD d = true := by
  obtain ⟨k, h1, e1, hh1, k1⟩ := draw_nat hh R 30 (by decide) (by decide)
  have e1' : m_law_draw [.ref 0, .int 30] (.lst h :: R) = _ := e1
  obtain ⟨dp, x2, lp, tp⟩ := odd_loop (h := h1) (.lst h1 :: R) (it := ⟨(List.range k).map fun (i : Nat) => D.int (i : Int), none⟩) rfl ((List.range k).map fun (i : Nat) => D.int (i : Int)) (fun d hd => by
    obtain ⟨i, _, rfl⟩ := List.mem_map.mp hd
    exact ⟨i, rfl⟩) (.vl [.str "x", .non]) (some (.ref 0)) none rfl
  obtain ⟨y, h2, e2, hh2, hy⟩ := any_ok hh1 R [.non, .int (-1), .int 0, .int 5, .int 8, .bl true, .str "1", .tup [], .tup [.int 1, .int 1], .tup [.int 2, .int 4], .tup [.int (-1), .int 2], .tup [.int 0, .int 1], .tup [.int 1, .int 0], .vl [.int 1, .int 1], .tup [.int 1, .bl true], .dct, dp, .tup [.int 0, .int 2]] (by simp) (by simp)
  refine ⟨y, h2, ?_, hh2, ?_⟩
  · simp only [m_law_odd, defM_at]
    simp [e1', rng k (by omega), lstO, tupO]
    have lp' : forL (gN 2) (mSet 1 (mIf (mT (m2 gtO (mV 2) (mC (.int 2)))) (mL lstO (maC (mV 1) maN)) (mL tupO (maC (mV 1) maN)))) ⟨(List.range k).map fun (i : Nat) => D.int (i : Int), none⟩ ((List.range k).map fun (i : Nat) => D.int (i : Int)) [some (.ref 0), some (.vl [.str "x", .non]), none, none] (.lst h1 :: R) = _ := lp
    rw [lp']
    have ad : ∀ S, addO (.vl [.non, .int (-1), .int 0, .int 5, .int 8, .bl true, .str "1", .tup [], .tup [.int 1, .int 1], .tup [.int 2, .int 4], .tup [.int (-1), .int 2], .tup [.int 0, .int 1], .tup [.int 1, .int 0], .vl [.int 1, .int 1], .tup [.int 1, .bl true], .dct]) (.vl [dp, .tup [.int 0, .int 2]]) S = .ok (.vl [.non, .int (-1), .int 0, .int 5, .int 8, .bl true, .str "1", .tup [], .tup [.int 1, .int 1], .tup [.int 2, .int 4], .tup [.int (-1), .int 2], .tup [.int 0, .int 1], .tup [.int 1, .int 0], .vl [.int 1, .int 1], .tup [.int 1, .bl true], .dct, dp, .tup [.int 0, .int 2]]) S := fun S => addO_vl S (by simp)
    simp [lstO, tupO, mDct, negO, ad, e2]
  · simp only [List.mem_cons, List.not_mem_nil, or_false] at hy
    rcases hy with rfl | rfl | rfl | rfl | rfl | rfl | rfl | rfl | rfl | rfl | rfl | rfl | rfl | rfl | rfl | rfl | rfl | rfl <;> first | exact tp | rfl | decide
noncomputable def bentF (rec : List D → DS → Ou D) : List D → DS → Ou D := defM 2 4
    (mSeq (mIfS (mOr (mNot (mT (isiM "tuple" (mV 1)))) (mOr (mT (m2 eqO (mL lenO (maC (mV 1) maN)) (mC (.int 0)))) (mT (m2 eqO (mL m_law_draw (maC (mV 0) (maC (mC (.int 5)) maN))) (mC (.int 0))))))
    (mRet (mL m_law_odd (maC (mV 0) maN)))
    mNx)
    (mSeq (mPar 2 3 (maC (mL m_law_draw (maC (mV 0) (maC (mL lenO (maC (mV 1) maN)) maN))) (maC (mL m_law_draw (maC (mV 0) (maC (mC (.int 9)) maN))) maN)))
    (mSeq (mIfS (mT (m2 eqO (mV 3) (mC (.int 0))))
    (mRet (mL m_law_any (maC (mV 0) (maC (mL lstO (maC (mSl slO (mV 1) (moS (mC (.int 1))) moN) (maC (m2 addO (mV 1) (mSl slO (mV 1) (moS (m1 negO (mC (.int 1)))) moN)) (maC (mL listO (maC (mV 1) maN)) (maC (m2 revO (mV 1) (m1 negO (mC (.int 1)))) maN))))) maN))))
    mNx)
    (mRet (m2 addO (m2 addO (mSl slO (mV 1) moN (moS (mV 2))) (mL tupO (maC (mL rec (maC (mV 0) (maC (m2 ixO (mV 1) (mV 2)) maN))) maN))) (mSl slO (mV 1) (moS (m2 addO (mV 2) (mC (.int 1)))) moN))))))
theorem bent_eq : m_law_bent = bentF (bentF (bentF (bentF (bentF (bentF (bentF (bentF m_law_bent_0))))))) := rfl
def BentOk (f : List D → DS → Ou D) (k : Nat) : Prop := ∀ {h : List D}, Hand h → ∀ (R : DS) (d : D), shD d = true → dep d < k → ∃ y h', f [.ref 0, d] (.lst h :: R) = .ok y (.lst h' :: R) ∧ Hand h' ∧ thD y = true
theorem dep_mem : ∀ {xs : List D} {d : D}, d ∈ xs → dep d ≤ deps xs
  | x :: xs, d, h => by
    rw [deps]
    rcases List.mem_cons.mp h with rfl | h
    · exact Nat.le_max_left _ _
    · exact Nat.le_trans (dep_mem h) (Nat.le_max_right _ _)
theorem bent_step {f : List D → DS → Ou D} {k : Nat} (hf : BentOk f k) : BentOk (bentF f) (k + 1) := by
  intro h hh R d hs hd
  by_cases ht : ∃ x xs, d = .tup (x :: xs)
  · obtain ⟨x0, xs0, rfl⟩ := ht
    generalize hxs : x0 :: xs0 = xs at *
    have hne : xs.length ≠ 0 := by rw [← hxs]; simp
    have hs' := hs
    rw [shD, Bool.and_eq_true] at hs'
    have hl := of_decide_eq_true hs'.1
    have hm := shDs_mem hs'.2
    have hth : ∀ d ∈ xs, thD d = true := fun d hd => th_of_sh (hm d hd)
    have hdm : ∀ d ∈ xs, dep d < k := fun y hy => by
      have := dep_mem hy
      have e : dep (.tup xs) = deps xs + 1 := by rw [dep]
      omega
    have hne2 : ¬ ((xs.length : Int) = 0) := by omega
    obtain ⟨g, h1, e1, hh1, g1⟩ := draw_nat hh R 5 (by decide) (by decide)
    have e1' : m_law_draw [.ref 0, .int 5] (.lst h :: R) = _ := e1
    by_cases z : g = 0
    · subst z
      obtain ⟨y, h2, e2, hh2, t2⟩ := odd_ok hh1 R
      refine ⟨y, h2, ?_, hh2, t2⟩
      simp only [bentF, defM_at]
      simp [isTy, lenO_tup, hne, hne2, e1', e2]
    · have z2 : ¬ ((g : Int) = 0) := by omega
      obtain ⟨a, h2, e2, hh2, a2⟩ := draw_nat hh1 R xs.length (by omega) (by omega)
      obtain ⟨kd, h3, e3, hh3, k3⟩ := draw_nat hh2 R 9 (by decide) (by decide)
      have e3' : m_law_draw [.ref 0, .int 9] (.lst h2 :: R) = _ := e3
      by_cases q : kd = 0
      · subst q
        obtain ⟨y, h4, e4, hh4, hy⟩ := any_ok hh3 R [.tup (DL.cutD xs (some 1) none), .tup (xs ++ DL.cutD xs (some (-1)) none), .vl xs, .tup xs.reverse] (by simp) (by simp)
        have c1 := cut_len xs (some 1) none
        have c2 := cut_len xs (some (-1)) none
        refine ⟨y, h4, ?_, hh4, ?_⟩
        · have s1 : ∀ S, slO (.tup xs) (some 1) none S = .ok (.tup (DL.cutD xs (some 1) none)) S := fun _ => rfl
          have s2 : ∀ S, slO (.tup xs) (some (-1)) none S = .ok (.tup (DL.cutD xs (some (-1)) none)) S := fun _ => rfl
          have ad : ∀ S, addO (.tup xs) (.tup (DL.cutD xs (some (-1)) none)) S = .ok (.tup (xs ++ DL.cutD xs (some (-1)) none)) S := fun S => addO_tup S (by omega)
          have rv : ∀ S, revO (.tup xs) (.int (-1)) S = .ok (.tup xs.reverse) S := fun _ => rfl
          have li : ∀ S, listO [.tup xs] S = .ok (.vl xs) S := fun _ => rfl
          have ng : ∀ S, negO (.int 1) S = .ok (.int (-1)) S := fun _ => rfl
          simp only [bentF, defM_at]
          simp [isTy, lenO_tup, hne, hne2, z, z2, e1', e2, e3', s1, s2, ng, ad, rv, li, lstO, e4]
        · simp only [List.mem_cons, List.not_mem_nil, or_false] at hy
          rcases hy with rfl | rfl | rfl | rfl
          · exact th_tup_of (by omega) fun d hd => hth d (cut_mem hd)
          · refine th_tup_of (by rw [List.length_append]; omega) fun d hd => ?_
            rcases List.mem_append.mp hd with hd | hd
            · exact hth d hd
            · exact hth d (cut_mem hd)
          · rfl
          · exact th_tup_of (by rw [List.length_reverse]; omega) fun d hd => hth d (List.mem_reverse.mp hd)
      · have q2 : ¬ ((kd : Int) = 0) := by omega
        obtain ⟨x, hx⟩ : ∃ x, xs[a]? = some x := ⟨xs[a], List.getElem?_eq_getElem a2⟩
        have mx := List.mem_of_getElem? hx
        obtain ⟨y, h4, e4, hh4, ty⟩ := hf hh3 R x (hm x mx) (hdm x mx)
        have gx : ∀ S, ixO (.tup xs) (.int (a : Nat)) S = .ok x S := fun S => getI_nat (by omega) (by simpa using hx)
        have s1 : ∀ S, slO (.tup xs) none (some (a : Nat)) S = .ok (.tup (DL.cutD xs none (some (a : Nat)))) S := fun _ => rfl
        have s2 : ∀ S, slO (.tup xs) (some ((a : Int) + 1)) none S = .ok (.tup (DL.cutD xs (some ((a : Int) + 1)) none)) S := fun _ => rfl
        have c1 := cut_len xs none (some (a : Nat))
        have c2 := cut_len xs (some ((a : Int) + 1)) none
        have a1 : ∀ S, addO (.tup (DL.cutD xs none (some (a : Nat)))) (.tup [y]) S = .ok (.tup (DL.cutD xs none (some (a : Nat)) ++ [y])) S := fun S => addO_tup S (by simp; omega)
        have a2' : ∀ S, addO (.tup (DL.cutD xs none (some (a : Nat)) ++ [y])) (.tup (DL.cutD xs (some ((a : Int) + 1)) none)) S = .ok (.tup (DL.cutD xs none (some (a : Nat)) ++ [y] ++ DL.cutD xs (some ((a : Int) + 1)) none)) S := fun S => addO_tup S (by simp; omega)
        refine ⟨.tup (DL.cutD xs none (some (a : Nat)) ++ [y] ++ DL.cutD xs (some ((a : Int) + 1)) none), h4, ?_, hh4, ?_⟩
        rotate_left
        · exact th_tup_of (xs := DL.cutD xs none (some (a : Nat)) ++ [y] ++ DL.cutD xs (some ((a : Int) + 1)) none) (by simp; omega) fun d hd => by
            simp only [List.mem_append, List.mem_singleton] at hd
            rcases hd with (hd | rfl) | hd
            · exact hth d (cut_mem hd)
            · exact ty
            · exact hth d (cut_mem hd)
        · simp only [bentF, defM_at]
          rw [startE_at]
          simp only [List.map_cons, List.map_nil, List.length_cons, List.length_nil, Nat.reduceAdd, Nat.reduceSub, List.reduceReplicate, if_true, List.cons_append, List.nil_append]
          have st1 : (mIfS (mOr (mNot (mT (isiM "tuple" (mV 1)))) (mOr (mT (m2 eqO (mL lenO (maC (mV 1) maN)) (mC (.int 0)))) (mT (m2 eqO (mL m_law_draw (maC (mV 0) (maC (mC (.int 5)) maN))) (mC (.int 0))))))
    (mRet (mL m_law_odd (maC (mV 0) maN)))
    mNx : MS) [some (.ref 0), some (.tup xs), none, none] (.lst h :: R) = .ok (.nx, [some (.ref 0), some (.tup xs), none, none]) (.lst h1 :: R) := by
            simp [isTy, lenO_tup, hne, hne2, z, z2, e1']
          have st2 : (mPar 2 3 (maC (mL m_law_draw (maC (mV 0) (maC (mL lenO (maC (mV 1) maN)) maN))) (maC (mL m_law_draw (maC (mV 0) (maC (mC (.int 9)) maN))) maN)) : MS) [some (.ref 0), some (.tup xs), none, none] (.lst h1 :: R) = .ok (.nx, [some (.ref 0), some (.tup xs), some (.int (a : Nat)), some (.int (kd : Nat))]) (.lst h3 :: R) := by
            simp [lenO_tup, e2, e3']
          have st3 : (mIfS (mT (m2 eqO (mV 3) (mC (.int 0))))
    (mRet (mL m_law_any (maC (mV 0) (maC (mL lstO (maC (mSl slO (mV 1) (moS (mC (.int 1))) moN) (maC (m2 addO (mV 1) (mSl slO (mV 1) (moS (m1 negO (mC (.int 1)))) moN)) (maC (mL listO (maC (mV 1) maN)) (maC (m2 revO (mV 1) (m1 negO (mC (.int 1)))) maN))))) maN))))
    mNx : MS) [some (.ref 0), some (.tup xs), some (.int (a : Nat)), some (.int (kd : Nat))] (.lst h3 :: R) = .ok (.nx, [some (.ref 0), some (.tup xs), some (.int (a : Nat)), some (.int (kd : Nat))]) (.lst h3 :: R) := by
            simp [q, q2]
          rw [mSeq_at, st1, seqK_nx, mSeq_at, st2, seqK_nx, mSeq_at, st3, seqK_nx]
          simp [s1, gx, e4, tupO, a1, s2]
          have := a2' (.lst h4 :: R)
          simp only [List.append_assoc, List.cons_append, List.nil_append] at this
          rw [this]
          rfl
  · have odd := odd_ok hh R
    obtain ⟨y, h2, e2, hh2, t2⟩ := odd
    refine ⟨y, h2, ?_, hh2, t2⟩
    cases d with
    | tup xs =>
      cases xs with
      | nil =>
        have ln : ∀ S, lenO [.tup []] S = .ok (.int 0) S := fun _ => rfl
        simp only [bentF, defM_at]
        simp [isTy, ln, e2]
      | cons x xs => exact absurd ⟨x, xs, rfl⟩ ht
    | ref p => rw [shD] at hs; cases hs
    | _ =>
      simp only [bentF, defM_at]
      simp [isTy, e2]
theorem bent_ok : BentOk m_law_bent 8 := by
  rw [bent_eq]
  refine bent_step (bent_step (bent_step (bent_step (bent_step (bent_step (bent_step (bent_step ?_)))))))
  intro h hh R d hs hd
  exact absurd hd (Nat.not_lt_zero _)
end K23

namespace K23
open PySem PySem.Spec PyProof.Rows L2 DL FR
/-! what can be shown -/
structure Sz (s d : Nat) (x : D) : Prop where
  ok : okD 31 x = true
  sz : siz 31 x ≤ s
  dp : dep x ≤ d
theorem Sz.repr {x : D} (h : Sz 400000 20 x) (S : DS) : reprO [x] S = .ok (.str (pyD x).shown) S :=
  repr_ok (k := 31) (by decide) (by decide) h.ok (Nat.le_trans h.dp (by decide)) (by
    have := Nat.mul_le_mul_left 34 h.sz
    exact Nat.le_trans (Nat.add_le_add_right this 32) (by decide))
theorem Sz.reprR {xs : List D} (h : Sz 400000 20 (.vl xs)) {p : Nat} {S : DS} (hS : S[p]? = some (.lst xs)) : reprO [.ref p] S = .ok (.str (pyD (.vl xs)).shown) S :=
  repr_ref (k := 31) hS (by decide) (by decide) h.ok (Nat.le_trans h.dp (by decide)) (by
    have := Nat.mul_le_mul_left 34 h.sz
    exact Nat.le_trans (Nat.add_le_add_right this 32) (by decide))
theorem Sz.wide {s t d e : Nat} {x : D} (h : Sz s d x) (h1 : s ≤ t) (h2 : d ≤ e) : Sz t e x := ⟨h.ok, Nat.le_trans h.sz h1, Nat.le_trans h.dp h2⟩
theorem sz_int {i : Int} (h : i.natAbs < 2 ^ 100) : Sz 124 0 (.int i) := by
  refine ⟨?_, Nat.le_refl _, Nat.le_refl _⟩
  show decide (i.natAbs < 10 ^ 31) = true
  exact decide_eq_true (Nat.lt_trans h (by decide))
theorem sz_nat {n : Nat} (h : n ≤ 1000) : Sz 124 0 (.int (n : Nat)) := sz_int (by rw [Int.natAbs_natCast]; exact Nat.lt_of_le_of_lt h (by decide))
section
variable {s t u v d : Nat} {x y z w : D}
theorem Sz.t2 (hx : Sz s d x) (hy : Sz t d y) : Sz (s + t + 2) (d + 1) (.tup [x, y]) := by
  refine ⟨?_, ?_, ?_⟩
  · simp [okD, okDs, hx.ok, hy.ok]
  · have := hx.sz; have := hy.sz
    simp [siz, sizs]; omega
  · have := hx.dp; have := hy.dp
    simp [dep, deps]; omega
theorem Sz.t3 (hx : Sz s d x) (hy : Sz t d y) (hz : Sz u d z) : Sz (s + t + u + 3) (d + 1) (.tup [x, y, z]) := by
  refine ⟨?_, ?_, ?_⟩
  · simp [okD, okDs, hx.ok, hy.ok, hz.ok]
  · have := hx.sz; have := hy.sz; have := hz.sz
    simp [siz, sizs]; omega
  · have := hx.dp; have := hy.dp; have := hz.dp
    simp [dep, deps]; omega
theorem Sz.t4 (hx : Sz s d x) (hy : Sz t d y) (hz : Sz u d z) (hw : Sz v d w) : Sz (s + t + u + v + 4) (d + 1) (.tup [x, y, z, w]) := by
  refine ⟨?_, ?_, ?_⟩
  · simp [okD, okDs, hx.ok, hy.ok, hz.ok, hw.ok]
  · have := hx.sz; have := hy.sz; have := hz.sz; have := hw.sz
    simp [siz, sizs]; omega
  · have := hx.dp; have := hy.dp; have := hz.dp; have := hw.dp
    simp [dep, deps]; omega
theorem Sz.map {α : Type} (g : α → D) (as : List α) {n : Nat} (hn : as.length ≤ n) (h : ∀ a ∈ as, Sz s d (g a)) : Sz ((s + 1) * n) (d + 1) (.tup (as.map g)) := by
  refine ⟨?_, ?_, ?_⟩
  · rw [okD]; exact okDs_map 31 g as fun a ha => (h a ha).ok
  · rw [siz]
    exact Nat.le_trans (sizs_map 31 s g as fun a ha => (h a ha).sz) (Nat.mul_le_mul_left _ hn)
  · rw [dep]
    have := deps_map d g as fun a ha => (h a ha).dp
    omega
theorem Sz.mapV {α : Type} (g : α → D) (as : List α) {n : Nat} (hn : as.length ≤ n) (h : ∀ a ∈ as, Sz s d (g a)) : Sz ((s + 1) * n) (d + 1) (.vl (as.map g)) := by
  refine ⟨?_, ?_, ?_⟩
  · rw [okD]; exact okDs_map 31 g as fun a ha => (h a ha).ok
  · rw [siz]
    exact Nat.le_trans (sizs_map 31 s g as fun a ha => (h a ha).sz) (Nat.mul_le_mul_left _ hn)
  · rw [dep]
    have := deps_map d g as fun a ha => (h a ha).dp
    omega
end
theorem sz_enc {q : Rat} (h : Bd 100 q) : Sz 250 1 (enc q) := (Sz.t2 (sz_int h.n) (sz_int (i := (q.den : Nat)) (by rw [Int.natAbs_natCast]; exact h.d))).wide (by decide) (by decide)
theorem sz_encR {r : List Rat} {n : Nat} (hn : r.length ≤ n) (h : ∀ q ∈ r, Bd 100 q) : Sz (251 * n) 2 (encR r) := Sz.map enc r hn fun q hq => sz_enc (h q hq)
/-! the whole of what is asked about -/
structure Case (e V A : Nat) (x : Shop) (os : List Od) (sc : List (List Rat)) : Prop where
  N : Num e V A x os
  S : Sh x
  st : ∀ q ∈ x.st, 0 ≤ q
  o : Os x os
  c : Sc x sc
section
variable {e V A : Nat} {x : Shop} {os : List Od} {sc : List (List Rat)} (C : Case e V A x os sc)
include C
theorem Case.bd {v : Nat} {q : Rat} (h : La (144 * e) v q) (hv : v ≤ 2 ^ 32) : Bd 60 q := by
  have e0 := C.N.e0
  have e1 := C.N.e1
  refine h.bd (by omega) (Nat.lt_of_le_of_lt (Nat.mul_le_mul hv (show 144 * e ≤ 144 * 2 ^ 20 by omega)) (by decide)) (Nat.lt_of_le_of_lt (show 144 * e ≤ 144 * 2 ^ 20 by omega) (by decide))
theorem Case.good : Good x := ⟨C.S, fun q hq => ⟨C.st q hq, C.bd (C.N.st q hq) (Nat.le_trans C.N.v1 (by decide))⟩⟩
theorem Case.th_os : thD (encOs os) = true := by
  have l := C.o.l
  refine th_tup_of (by rw [List.length_map]; omega) fun d hd => ?_
  obtain ⟨o, ho, rfl⟩ := List.mem_map.mp hd
  have n1 := C.S.n1
  have d1 := C.S.d1
  have g := C.o.g o ho
  refine th_tup_of (by simp) fun d hd => ?_
  simp only [List.mem_cons, List.not_mem_nil, or_false] at hd
  rcases hd with rfl | rfl | rfl
  · exact th_nat (by omega)
  · exact th_enc (C.bd (C.N.os o ho) C.N.a1)
  · exact th_nat (by omega)
theorem Case.th_sc : thD (encSc sc) = true := by
  have l := C.c.l
  have d1 := C.S.d1
  have l1 := C.S.l1
  refine th_tup_of (by rw [List.length_map]; omega) fun d hd => ?_
  obtain ⟨r, hr, rfl⟩ := List.mem_map.mp hd
  have q := C.c.r r hr
  exact th_encR (fun p hp => (q.2.1 p hp).2.bd (k := 60) (by decide) (by decide) (by decide)) (by rw [q.1]; omega)
omit C in
theorem isW_nat' {i lo hi : Int} (h1 : lo ≤ i) (h2 : i ≤ hi) : isW (.int i) lo hi = true := by
  show (decide (lo ≤ i) && decide (i ≤ hi)) = true
  rw [decide_eq_true h1, decide_eq_true h2]
  rfl
theorem Case.is_os : isOsD x (encOs os) = true := by
  have l := C.o.l
  show (decide (((os.map encOd).length : Int) ≤ 12) && (os.map encOd).all (isOd x)) = true
  rw [List.length_map, decide_eq_true (by omega), Bool.true_and, List.all_eq_true]
  intro d hd
  obtain ⟨o, ho, rfl⟩ := List.mem_map.mp hd
  have g := C.o.g o ho
  show (isW (.int (o.g : Nat)) 0 ((x.n : Int) - 1) && (isAm (enc o.a) && isW (.int (o.w : Nat)) 0 ((x.dy : Int) - 1))) = true
  rw [isW_nat' (by omega) (by omega), isAm_enc g.2.2, isW_nat' (by omega) (by omega)]
  rfl
theorem Case.is_sc : isScD x (encSc sc) = true := by
  have l := C.c.l
  show (decide (((sc.map encR).length : Int) = (x.dy : Nat)) && (sc.map encR).all (rowIs x)) = true
  rw [List.length_map, decide_eq_true (by omega), Bool.true_and, List.all_eq_true]
  intro d hd
  obtain ⟨r, hr, rfl⟩ := List.mem_map.mp hd
  have q := C.c.r r hr
  unfold rowIs
  rw [isAms_encR (fun p hp => (q.2.1 p hp).1) (by rw [q.1]), Bool.true_and]
  have : rowBad x (encR r) = false := by
    show ((r.map enc).zip x.ms).any (fun y => bel y.2 y.1) = false
    rw [List.any_eq_false]
    intro y hy
    obtain ⟨i, hi⟩ := List.getElem?_of_mem hy
    obtain ⟨h1, h2⟩ := List.getElem?_zip_eq_some.mp hi
    rw [List.getElem?_map, Option.map_eq_some_iff] at h1
    obtain ⟨p, hp, hp2⟩ := h1
    have le := q.2.2 i y.2 p h2 hp
    rw [← hp2]
    show ¬ (decide (y.2.m.num * (p.den : Int) < p.num * (y.2.m.den : Int)) = true)
    intro z
    have := (Rat.lt_iff y.2.m p).mpr (of_decide_eq_true z)
    exact absurd le (Rat.not_le.mpr this)
  rw [this]
  rfl
theorem Case.check (S : DS) : m_check_schedule [encSh x, encOs os, encSc sc] S = .ok .non S := by
  have c1 := check_shop_ok S C.good
  have c2 := orders_of_any S x (encOs os) C.th_os
  rw [C.is_os] at c2
  have c3 := sched_of_any S C.S (encSc sc) C.th_sc
  rw [C.is_sc] at c3
  have c4 : m_check_orders [encSh x, encOs os] S = .ok .non S := by
    simp only [m_check_orders, defM_at]
    simp [c1, c2]
  simp only [m_check_schedule, defM_at]
  simp [c4, c3]
theorem Case.led_shop (S : DS) : ∃ J, Cl J ∧ m_led_shop [encSh x, encOs os, encSc sc] S = .ok (.ref S.length) (S ++ .lst (rowsD x os sc x.dy) :: J) := by
  obtain ⟨J, cJ, e⟩ := led_by_ok C.N C.S C.o C.c S
  refine ⟨J, cJ, ?_⟩
  simp only [m_led_shop, defM_at]
  simp [C.check, e]
def rowsQ (x : Shop) (os : List Od) (sc : List (List Rat)) : List (List Rat) := (List.range x.dy).map fun d => vec x.n (stk x os sc (d + 1))
omit C in
theorem rowsQ_D (x : Shop) (os : List Od) (sc : List (List Rat)) : rowsD x os sc x.dy = (rowsQ x os sc).map encR := by
  unfold rowsD rowsQ
  rw [List.map_map]
  rfl
theorem Case.rows_bd : ∀ r ∈ rowsQ x os sc, r.length = x.n ∧ ∀ q ∈ r, Bd 100 q := by
  intro r hr
  obtain ⟨d, hd, rfl⟩ := List.mem_map.mp hr
  rw [List.mem_range] at hd
  have d1 := C.S.d1
  have e0 := C.N.e0
  have e1 := C.N.e1
  exact ⟨vec_len _ _, fun q hq => (stk_30 C.N C.S C.o C.c (d + 1) (by omega) q hq).bd' (by omega) (by decide) (by omega)⟩
theorem Case.rows_sz : Sz 400000 20 (.vl (rowsD x os sc x.dy)) := by
  have d1 := C.S.d1
  have n1 := C.S.n1
  rw [rowsQ_D]
  refine (Sz.mapV encR (rowsQ x os sc) (n := 7) (by simp [rowsQ]; omega) fun r hr => ?_).wide (show (1004 + 1) * 7 ≤ 400000 by decide) (show 2 + 1 ≤ 20 by decide)
  obtain ⟨h1, h2⟩ := C.rows_bd r hr
  exact sz_encR (n := 4) (by omega) h2
theorem Case.parts_sz : Sz 20000 5 (encSh x) ∧ Sz 20000 5 (encOs os) ∧ Sz 20000 5 (encSc sc) := by
  have n0 := C.S.n0
  have n1 := C.S.n1
  have d1 := C.S.d1
  have l1 := C.S.l1
  have ol := C.o.l
  have sl := C.c.l
  have ms : Sz (1508 * 6) 4 (.tup (x.ms.map encMk)) := by
    refine Sz.map encMk x.ms (d := 3) l1 fun m hm => ?_
    have dm := C.S.ms m hm
    have g := dm.g
    have t1 := dm.t1
    exact (Sz.t4 (d := 2) ((sz_nat (n := m.g) (by omega)).wide (Nat.le_refl _) (by decide)) (sz_encR (n := 4) (by rw [dm.l]; exact n1) fun q hq => (dm.u q hq).2.bd (by decide) (by decide) (by decide)) ((sz_nat (n := m.t) (by omega)).wide (Nat.le_refl _) (by decide)) ((sz_enc (dm.m.2.bd (by decide) (by decide) (by decide))).wide (Nat.le_refl _) (by decide))).wide (show 124 + 251 * 4 + 124 + 250 + 4 ≤ 1507 by decide) (by decide)
  have s1 : Sz 20000 5 (encSh x) := (Sz.t4 (d := 4) ((sz_nat (n := x.n) (by omega)).wide (Nat.le_refl _) (by decide)) ms ((sz_encR (r := x.st) (n := 4) (by rw [C.S.sl]; exact n1) fun q hq => (C.bd (C.N.st q hq) (Nat.le_trans C.N.v1 (by decide))).mono (by decide)).wide (Nat.le_refl _) (by decide)) ((sz_nat (n := x.dy) (by omega)).wide (Nat.le_refl _) (by decide))).wide (show 124 + 1508 * 6 + 251 * 4 + 124 + 4 ≤ 20000 by decide) (by decide)
  have s2 : Sz ((501 + 1) * 12) 5 (encOs os) := by
    refine (Sz.map encOd os (d := 2) ol fun o ho => ?_).wide (Nat.le_refl _) (by decide)
    have g := C.o.g o ho
    exact (Sz.t3 (d := 1) ((sz_nat (n := o.g) (by omega)).wide (Nat.le_refl _) (by decide)) (sz_enc ((C.bd (C.N.os o ho) C.N.a1).mono (by decide))) ((sz_nat (n := o.w) (by omega)).wide (Nat.le_refl _) (by decide))).wide (show 124 + 250 + 124 + 3 ≤ 501 by decide) (by decide)
  have s3 : Sz ((251 * 6 + 1) * 7) 5 (encSc sc) := by
    refine (Sz.map encR sc (d := 2) (by omega) fun r hr => ?_).wide (Nat.le_refl _) (by decide)
    have q := C.c.r r hr
    exact sz_encR (n := 6) (by rw [q.1]; exact l1) fun p hp => (q.2.1 p hp).2.bd (by decide) (by decide) (by decide)
  exact ⟨s1, s2.wide (by decide) (by decide), s3.wide (by decide) (by decide)⟩
theorem Case.all_sz : Sz 400000 20 (.tup [encSh x, encOs os, encSc sc]) := by
  obtain ⟨s1, s2, s3⟩ := C.parts_sz
  exact (Sz.t3 s1 s2 s3).wide (by decide) (by decide)
end
end K23

namespace K23
open PySem PySem.Spec PyProof.Rows L2 DL FR
/-! the first lack -/
def lackRow (d : Nat) : Nat → List Rat → Option D
  | _, [] => none
  | k, q :: l => if q.num < 0 then some (.tup [.int (d : Nat), .int (k : Nat), enc (-q)]) else lackRow d (k + 1) l
def lackRows : Nat → List (List Rat) → Option D
  | _, [] => none
  | d, r :: rs => match lackRow d 0 r with
    | none => lackRows (d + 1) rs
    | some v => some v
def lackOf (x : Shop) (os : List Od) (sc : List (List Rat)) : D := (lackRows 0 (rowsQ x os sc)).getD .non
theorem lackRow_is {d : Nat} {v : D} : ∀ (l : List Rat) (k : Nat), lackRow d k l = some v → ∃ i q, v = .tup [.int (d : Nat), .int (i : Nat), enc (-q)] ∧ q ∈ l ∧ i < k + l.length
  | [], _, h => by cases h
  | q :: l, k, h => by
    rw [lackRow] at h
    split at h
    · cases h
      exact ⟨k, q, rfl, List.mem_cons_self .., by rw [List.length_cons]; omega⟩
    · obtain ⟨i, p, h1, h2, h3⟩ := lackRow_is l (k + 1) h
      exact ⟨i, p, h1, List.mem_cons_of_mem _ h2, by rw [List.length_cons]; omega⟩
theorem lackRows_is {v : D} : ∀ (rs : List (List Rat)) (d : Nat), lackRows d rs = some v → ∃ (j i : Nat) (q : Rat) (r : List Rat), v = .tup [.int (j : Nat), .int (i : Nat), enc (-q)] ∧ r ∈ rs ∧ q ∈ r ∧ i < r.length ∧ j < d + rs.length
  | [], _, h => by cases h
  | r :: rs, d, h => by
    rw [lackRows] at h
    split at h
    · obtain ⟨j, i, q, r', h1, h2, h3, h4, h5⟩ := lackRows_is rs (d + 1) h
      exact ⟨j, i, q, r', h1, List.mem_cons_of_mem _ h2, h3, h4, by rw [List.length_cons]; omega⟩
    · rename_i w hw
      cases h
      obtain ⟨i, q, h1, h2, h3⟩ := lackRow_is r 0 hw
      exact ⟨d, i, q, r, h1, List.mem_cons_self .., h2, by omega, by rw [List.length_cons]; omega⟩
noncomputable abbrev laB (el : ME) : MS := (mIfS (mT (m2 ltO (m2 ixO (mV 6) (mC (.int 0))) (mC (.int 0))))
    (mRet (mL tupO (maC (mV 3) (maC (mV 5) (maC el maN)))))
    mNx)
noncomputable abbrev laB2 (el : ME) : MS := (mFor (mArgI enumO (maC (mV 4) maN)) (gT 2 (gsC (gN 5) (gsC (gN 6) gsN))) (laB el))
section
variable {el : ME} {S : DS} (hel : ∀ (env : DE) (q : Rat), env[6]? = some (some (enc q)) → Bd 100 q → el env S = .ok (enc (-q)) S)
include hel
theorem lack_inner {it : Itm} (hg : it.g = none) (x0 x1 x2 x4 : Option D) (d : Nat) : ∀ (l : List Rat) (k : Nat) (x5 x6 : Option D), (∀ q ∈ l, Bd 100 q) →
    ∃ y5 y6, forL (gT 2 (gsC (gN 5) (gsC (gN 6) gsN))) (laB el) it (enumD k (l.map enc)) [x0, x1, x2, some (.int (d : Nat)), x4, x5, x6] S = match lackRow d k l with
      | none => .ok (.nx, [x0, x1, x2, some (.int (d : Nat)), x4, y5, y6]) S
      | some v => .ok (.rt v, [x0, x1, x2, some (.int (d : Nat)), x4, y5, y6]) S
  | [], k, x5, x6, _ => ⟨x5, x6, by rw [List.map_nil, enumD, forL_nil hg]; rfl⟩
  | q :: l, k, x5, x6, hq => by
    have e1 := hel [x0, x1, x2, some (.int (d : Nat)), x4, some (.int (k : Nat)), some (enc q)] q rfl (hq q (List.mem_cons_self ..))
    rw [List.map_cons, enumD, forL_cons hg, lackRow]
    by_cases z : q.num < 0
    · refine ⟨some (.int (k : Nat)), some (enc q), ?_⟩
      rw [if_pos z]
      simp [enc0, z, e1, tupO]
    · obtain ⟨y5, y6, ih⟩ := lack_inner hg x0 x1 x2 x4 d l (k + 1) (some (.int (k : Nat))) (some (enc q)) fun p hp => hq p (List.mem_cons_of_mem _ hp)
      refine ⟨y5, y6, ?_⟩
      rw [if_neg z]
      have st : turn (gT 2 (gsC (gN 5) (gsC (gN 6) gsN))) (laB el) (.tup [.int (k : Nat), enc q]) [x0, x1, x2, some (.int (d : Nat)), x4, x5, x6] S = .ok (.nx, [x0, x1, x2, some (.int (d : Nat)), x4, some (.int (k : Nat)), some (enc q)]) S := by
        simp [enc0, z]
      rw [st, forN_nx, ih]
theorem lack_outer {it : Itm} (hok : it.okB S) (x0 x1 x2 : Option D) : ∀ (rs : List (List Rat)) (d : Nat) (x3 x4 x5 x6 : Option D), (∀ r ∈ rs, ∀ q ∈ r, Bd 100 q) →
    ∃ y3 y4 y5 y6, forL (gT 2 (gsC (gN 3) (gsC (gN 4) gsN))) (laB2 el) it (enumD d (rs.map encR)) [x0, x1, x2, x3, x4, x5, x6] S = match lackRows d rs with
      | none => .ok (.nx, [x0, x1, x2, y3, y4, y5, y6]) S
      | some v => .ok (.rt v, [x0, x1, x2, y3, y4, y5, y6]) S
  | [], d, x3, x4, x5, x6, _ => ⟨x3, x4, x5, x6, by rw [List.map_nil, enumD, forL_nil' hok]; rfl⟩
  | r :: rs, d, x3, x4, x5, x6, hr => by
    obtain ⟨y5, y6, inn⟩ := lack_inner hel (it := ⟨enumD 0 (r.map enc), none⟩) rfl x0 x1 x2 (some (encR r)) d r 0 x5 x6 (hr r (List.mem_cons_self ..))
    have eo : enumO [encR r] S = .ok ⟨enumD 0 (r.map enc), none⟩ S := rfl
    have st : turn (gT 2 (gsC (gN 3) (gsC (gN 4) gsN))) (laB2 el) (.tup [.int (d : Nat), encR r]) [x0, x1, x2, x3, x4, x5, x6] S = forL (gT 2 (gsC (gN 5) (gsC (gN 6) gsN))) (laB el) ⟨enumD 0 (r.map enc), none⟩ (enumD 0 (r.map enc)) [x0, x1, x2, some (.int (d : Nat)), some (encR r), x5, x6] S := by
      simp [eo]
    rw [List.map_cons, enumD, forL_cons' hok, st, inn, lackRows]
    cases lackRow d 0 r with
    | some v => exact ⟨some (.int (d : Nat)), some (encR r), y5, y6, rfl⟩
    | none =>
      obtain ⟨y3, y4, z5, z6, ih⟩ := lack_outer hok x0 x1 x2 rs (d + 1) (some (.int (d : Nat))) (some (encR r)) y5 y6 fun p hp => hr p (List.mem_cons_of_mem _ hp)
      exact ⟨y3, y4, z5, z6, by simp only [forN_nx]; exact ih⟩
end
section
variable {e V A : Nat} {x : Shop} {os : List Od} {sc : List (List Rat)} (C : Case e V A x os sc)
include C
theorem Case.lack_is : lackOf x os sc = .non ∨ ∃ (j i : Nat) (q : Rat), lackOf x os sc = .tup [.int (j : Nat), .int (i : Nat), enc (-q)] ∧ j ≤ 1000 ∧ i ≤ 1000 ∧ Bd 100 q := by
  unfold lackOf
  cases h : lackRows 0 (rowsQ x os sc) with
  | none => exact .inl rfl
  | some v =>
    obtain ⟨j, i, q, r, rfl, hr, hq, hi, hj⟩ := lackRows_is _ _ h
    obtain ⟨l, b⟩ := C.rows_bd r hr
    have d1 := C.S.d1
    have n1 := C.S.n1
    have : (rowsQ x os sc).length = x.dy := by simp [rowsQ]
    exact .inr ⟨j, i, q, rfl, by omega, by omega, b q hq⟩
theorem Case.lack_under (n : Nat) : under n (lackOf x os sc) = true := by
  rcases C.lack_is with h | ⟨j, i, q, h, _⟩ <;> rw [h]
  · rfl
  · simp [DL.under, unders, under_enc]
theorem Case.lack_sz : Sz 400000 20 (lackOf x os sc) := by
  rcases C.lack_is with h | ⟨j, i, q, h, h1, h2, h3⟩ <;> rw [h]
  · exact ⟨rfl, by decide, by decide⟩
  · exact (Sz.t3 (d := 1) ((sz_nat h1).wide (Nat.le_refl _) (by decide)) ((sz_nat h2).wide (Nat.le_refl _) (by decide)) (sz_enc h3.neg)).wide (by decide) (by decide)
theorem enum_ref {S : DS} {p : Nat} {xs : List D} (h : S[p]? = some (.lst xs)) : enumO [.ref p] S = .ok ⟨enumD 0 xs, some (p, xs)⟩ S := by
  show enumR p S = _
  unfold enumR
  rw [h]
theorem Case.lack_in_ok {S : DS} (hS : Cl S) : m_lack_in [encSh x, encOs os, encSc sc] S = .ok (lackOf x os sc) S := by
  obtain ⟨J, _, e⟩ := led_by_ok C.N C.S C.o C.c S
  generalize hT : S ++ DO.lst (rowsD x os sc x.dy) :: J = T at e
  have hgT : T[S.length]? = some (.lst (rowsD x os sc x.dy)) := by rw [← hT]; exact ref_at
  have dr : dropO S.length (.ok (lackOf x os sc) T) = .ok (lackOf x os sc) S := by rw [← hT]; exact drop_ok hS _ C.lack_under _
  obtain ⟨y3, y4, y5, y6, lp⟩ := lack_outer (el := mL m_minus (maC (mC (.tup [(.int 0), (.int 1)])) (maC (mV 6) maN))) (S := T) (fun env q h6 hb => by
    have mi := minus_ok T (two_bd (bd0 (k := 100) (by decide)) hb)
    have z : (0 : Rat) - q = -q := by grind
    rw [z] at mi
    have mi' : FR.minus [.tup [.int 0, .int 1], enc q] T = .ok (enc (-q)) T := mi
    simp only [mL_at, maC_at, maN_at, mC_at, mV_at, h6, maK_ok, maJ_ok, bind_ok, m_minus_, mi']) (it := ⟨enumD 0 (rowsD x os sc x.dy), some (S.length, rowsD x os sc x.dy)⟩) hgT (some (encSh x)) (some (encOs os)) (some (encSc sc)) (rowsQ x os sc) 0 none none none none (fun r hr => (C.rows_bd r hr).2)
  rw [← rowsQ_D] at lp
  have en := enum_ref C hgT
  simp only [m_lack_in, defD_at]
  simp [e, en]
  have lp' : forL (gT 2 (gsC (gN 3) (gsC (gN 4) gsN))) (mFor (mArgI enumO (maC (mV 4) maN)) (gT 2 (gsC (gN 5) (gsC (gN 6) gsN)))
    (mIfS (mT (m2 ltO (m2 ixO (mV 6) (mC (.int 0))) (mC (.int 0))))
    (mRet (mL tupO (maC (mV 3) (maC (mV 5) (maC (mL m_minus (maC (mC (.tup [(.int 0), (.int 1)])) (maC (mV 6) maN))) maN)))))
    mNx)) ⟨enumD 0 (rowsD x os sc x.dy), some (S.length, rowsD x os sc x.dy)⟩ (enumD 0 (rowsD x os sc x.dy)) [some (encSh x), some (encOs os), some (encSc sc), none, none, none, none] T = _ := lp
  rw [lp']
  unfold lackOf at dr ⊢
  cases h : lackRows 0 (rowsQ x os sc) with
  | none =>
    rw [h] at dr
    simpa using dr
  | some v =>
    rw [h] at dr
    simpa using dr
theorem Case.law_lack_ok {S : DS} (hS : Cl S) : m_law_lack [encSh x, encOs os, encSc sc] S = .ok (lackOf x os sc) S := by
  obtain ⟨J, _, e⟩ := law_led_ok C.N C.S C.o C.c (OrdAt.tup os S)
  generalize hT : S ++ DO.lst J :: [DO.lst (rowsD x os sc x.dy)] = T at e
  have hgT : T[S.length + 1]? = some (.lst (rowsD x os sc x.dy)) := by
    rw [← hT, List.getElem?_append_right (by omega), show S.length + 1 - S.length = 1 by omega]; rfl
  have dr : dropO S.length (.ok (lackOf x os sc) T) = .ok (lackOf x os sc) S := by rw [← hT]; exact drop_ok hS _ C.lack_under _
  obtain ⟨y3, y4, y5, y6, lp⟩ := lack_outer (el := mL tupO (maC (m2 subO (mC (.int 0)) (m2 ixO (mV 6) (mC (.int 0)))) (maC (m2 ixO (mV 6) (mC (.int 1))) maN))) (S := T) (fun env q h6 hb => by
    have sb : subO (.int 0) (.int q.num) T = .ok (.int ((-q).num)) T := by
      show Ou.ok (D.int (0 - q.num)) T = _
      rw [Rat.neg_num, Int.zero_sub]
    have tp : tupO [.int ((-q).num), .int (q.den : Nat)] T = .ok (enc (-q)) T := by
      rw [tupO_le (by simp)]
      unfold enc
      rw [Rat.neg_den]
    simp only [mL_at, maC_at, maN_at, m2_at, mC_at, mV_at, h6, m2K_ok, m2J_ok, enc0, enc1, sb, maK_ok, maJ_ok, bind_ok, tp]) (it := ⟨enumD 0 (rowsD x os sc x.dy), some (S.length + 1, rowsD x os sc x.dy)⟩) hgT (some (encSh x)) (some (encOs os)) (some (encSc sc)) (rowsQ x os sc) 0 none none none none (fun r hr => (C.rows_bd r hr).2)
  rw [← rowsQ_D] at lp
  have en := enum_ref C hgT
  simp only [m_law_lack, defD_at]
  simp [e, en]
  have lp' : forL (gT 2 (gsC (gN 3) (gsC (gN 4) gsN))) (mFor (mArgI enumO (maC (mV 4) maN)) (gT 2 (gsC (gN 5) (gsC (gN 6) gsN)))
    (mIfS (mT (m2 ltO (m2 ixO (mV 6) (mC (.int 0))) (mC (.int 0))))
    (mRet (mL tupO (maC (mV 3) (maC (mV 5) (maC (mL tupO (maC (m2 subO (mC (.int 0)) (m2 ixO (mV 6) (mC (.int 0)))) (maC (m2 ixO (mV 6) (mC (.int 1))) maN))) maN)))))
    mNx)) ⟨enumD 0 (rowsD x os sc x.dy), some (S.length + 1, rowsD x os sc x.dy)⟩ (enumD 0 (rowsD x os sc x.dy)) [some (encSh x), some (encOs os), some (encSc sc), none, none, none, none] T = _ := lp
  rw [lp']
  unfold lackOf at dr ⊢
  cases h : lackRows 0 (rowsQ x os sc) with
  | none =>
    rw [h] at dr
    simpa using dr
  | some v =>
    rw [h] at dr
    simpa using dr
theorem Case.first_lack_ok {S : DS} (hS : Cl S) : m_first_lack [encSh x, encOs os, encSc sc] S = .ok (lackOf x os sc) S := by
  simp only [m_first_lack, defM_at]
  simp [C.check, C.lack_in_ok hS]
end
end K23

namespace K23
open PySem PySem.Spec PyProof.Rows L2 DL FR
theorem cl_app {A B : DS} (h : Cl A) (g : Cl B) : Cl (A ++ B) := fun n => by rw [List.all_append, h n, g n]; rfl
theorem cl_cons {ys : List D} {B : DS} (h : ∀ n, unders n ys = true) (g : Cl B) : Cl (.lst ys :: B) := fun n => by
  rw [List.all_cons, g n]
  simp [underO, h n]
theorem rows_under (x : Shop) (os : List Od) (sc : List (List Rat)) (k n : Nat) : unders n (rowsD x os sc k) = true := unders_map n _ _ fun d _ => under_encR n _
theorem eqO_str (s : Str) (S : DS) : eqO (.str s) (.str s) S = .ok (.bl true) S := by
  have e : eqB (.str s) (.str s) = some true := by simp [eqB, scalD]
  unfold eqO
  rw [e]
theorem neO_str (s : Str) (S : DS) : neO (.str s) (.str s) S = .ok (.bl false) S := by
  have e : eqB (.str s) (.str s) = some true := by simp [eqB, scalD]
  unfold neO
  rw [e]
  rfl
theorem isi_ref (p : Nat) (env : DE) (S : DS) : isiK "list" (.ok (.ref p) S) = .ok (.bl true) S := rfl
section
variable {e V A : Nat} {x : Shop} {os : List Od} {sc : List (List Rat)} (C : Case e V A x os sc)
include C
theorem Case.is_led_ok {S : DS} (hS : Cl S) : m_law_is_led [encSh x, encOs os, encSc sc] S = .ok (.bl true) S := by
  obtain ⟨J, cJ, e1⟩ := law_led_ok C.N C.S C.o C.c (OrdAt.tup os S)
  generalize hT : S ++ DO.lst J :: [DO.lst (rowsD x os sc x.dy)] = T1 at e1
  have c1 : Cl T1 := by
    rw [← hT]
    exact cl_app hS (cl_cons cJ (cl_cons (rows_under x os sc x.dy) fun n => rfl))
  have g1 : ∀ X, (T1 ++ X)[S.length + 1]? = some (DO.lst (rowsD x os sc x.dy)) := fun X => by
    rw [← hT, List.append_assoc, List.getElem?_append_right (by omega), show S.length + 1 - S.length = 1 by omega]; rfl
  obtain ⟨J2, c2, e2⟩ := C.led_shop T1
  have r2 := C.rows_sz.reprR (p := T1.length) (S := T1 ++ .lst (rowsD x os sc x.dy) :: J2) ref_at
  have q2 := C.rows_sz.reprR (p := S.length + 1) (S := T1 ++ .lst (rowsD x os sc x.dy) :: J2) (g1 _)
  have a2 := app_at (S := T1) (J := J2) (ys := rowsD x os sc x.dy) .non (by rw [rowsD_len]; have := C.S.d1; omega)
  generalize hT3 : T1 ++ DO.lst (rowsD x os sc x.dy ++ [D.non]) :: J2 = T3 at a2
  have c3 : Cl T3 := by
    rw [← hT3]
    refine cl_app c1 (cl_cons (fun n => ?_) c2)
    have : ∀ (xs : List D), unders n xs = true → unders n (xs ++ [D.non]) = true := fun xs => by
      induction xs with
      | nil => intro _; rfl
      | cons y ys ih =>
        intro h
        rw [List.cons_append, unders]
        rw [unders, Bool.and_eq_true] at h
        rw [h.1, ih h.2]
        rfl
    exact this _ (rows_under x os sc x.dy n)
  obtain ⟨J4, c4, e4⟩ := C.led_shop T3
  have r4 := C.rows_sz.reprR (p := T3.length) (S := T3 ++ .lst (rowsD x os sc x.dy) :: J4) ref_at
  have q4 := C.rows_sz.reprR (p := S.length + 1) (S := T3 ++ .lst (rowsD x os sc x.dy) :: J4) (by rw [← hT3, List.append_assoc]; exact g1 _)
  generalize hT4 : T3 ++ DO.lst (rowsD x os sc x.dy) :: J4 = T4 at e4 r4 q4
  have c5 : Cl T4 := by
    rw [← hT4]
    exact cl_app c3 (cl_cons (rows_under x os sc x.dy) c4)
  have l5 := C.law_lack_ok c5
  have f5 := C.first_lack_ok c5
  have s5 := C.lack_sz.repr T4
  have k1 := C.all_sz.repr T1
  have k5 := C.all_sz.repr T4
  have dr : dropO S.length (.ok (.bl true) T4) = .ok (.bl true) S := by
    rw [← hT4, ← hT3, ← hT, List.append_assoc, List.append_assoc]
    exact drop_ok hS _ (fun n => rfl) _
  generalize (pyD (.vl (rowsD x os sc x.dy))).shown = s at r2 q2 r4 q4
  generalize (pyD (.tup [encSh x, encOs os, encSc sc])).shown = u at k1 k5
  generalize hlk : lackOf x os sc = lk at l5 f5 s5
  generalize (pyD lk).shown = w at s5
  simp only [m_law_is_led, defD_at]
  rw [startE_at]
  simp only [List.map_cons, List.map_nil, List.length_cons, List.length_nil, Nat.reduceAdd, Nat.reduceSub, List.reduceReplicate, if_true, List.cons_append, List.nil_append]
  have tp : ∀ T, tupO [encSh x, encOs os, encSc sc] T = .ok (.tup [encSh x, encOs os, encSc sc]) T := fun T => tupO_le (by simp)
  simp only [mSeq_at, mPar_at, maC_at, maN_at, mL_at, mV_at, List.getElem?_cons_zero, List.getElem?_cons_succ, maK_ok, maJ_ok, bind_ok, e1, tp, k1, parK_ok, List.set_cons_succ, List.set_cons_zero, seqK_nx, mSet_at, e2, setK_ok,
    mIfS_at, mOr_at, mNot_at, mT_at, isiM_at, isi_ref (S.length + 1) [], isi_ref T1.length [], m2_at, m2K_ok, m2J_ok, r2, q2, neO_str, tK_ok, notK_ok, Bool.not_true, orK_ok, Bool.false_eq_true, if_false, ifSK_f, mNx_at,
    mDo_at, mMeth_at, methK_ok, RcT.ok, mC_at, methJ_ok, a2, doK_ok, e4, r4, q4, l5, mRet_at, mAndV_at, f5, s5, eqO_str, andVK_ok, if_true, k5, retK_ok, retO_rt, dr]
end
end K23

namespace K23
open PySem PySem.Spec PyProof.Rows L2 DL FR
/-! the least of some -/
abbrev low2 (p q : Rat) : Rat := if p < q then p else q
theorem low2_l (p q : Rat) : low2 p q ≤ p := by
  unfold low2
  split
  · exact Rat.le_refl
  · rename_i h
    exact Rat.not_lt.mp h
theorem low2_r (p q : Rat) : low2 p q ≤ q := by
  unfold low2
  split
  · rename_i h
    exact Rat.le_of_lt h
  · exact Rat.le_refl
def minF : (Nat → Rat) → List (Nat → Rat) → (Nat → Rat)
  | g, [] => g
  | g, f :: fs => minF (fun i => low2 (g i) (f i)) fs
theorem minF_le (i : Nat) : ∀ (fs : List (Nat → Rat)) (g : Nat → Rat), minF g fs i ≤ g i ∧ ∀ f ∈ fs, minF g fs i ≤ f i
  | [], g => ⟨Rat.le_refl, by simp⟩
  | f :: fs, g => by
    obtain ⟨h1, h2⟩ := minF_le i fs (fun i => low2 (g i) (f i))
    refine ⟨Rat.le_trans h1 (low2_l _ _), fun f' hf => ?_⟩
    rcases List.mem_cons.mp hf with rfl | hf
    · exact Rat.le_trans h1 (low2_r _ _)
    · exact h2 f' hf
theorem minF_la {d v : Nat} : ∀ (fs : List (Nat → Rat)) (g : Nat → Rat), (∀ i, La d v (g i)) → (∀ f ∈ fs, ∀ i, La d v (f i)) → ∀ i, La d v (minF g fs i)
  | [], g, h, _, i => h i
  | f :: fs, g, h, hf, i => minF_la fs (fun i => low2 (g i) (f i)) (fun i => by
    show La d v (if g i < f i then g i else f i)
    split
    · exact h i
    · exact hf f (List.mem_cons_self ..) i) (fun f' hf' => hf f' (List.mem_cons_of_mem _ hf')) i
def minL : Rat → List Rat → Rat
  | z, [] => z
  | z, q :: l => minL (if q < z then q else z) l
theorem minL_le : ∀ (l : List Rat) (z : Rat), minL z l ≤ z ∧ ∀ q ∈ l, minL z l ≤ q
  | [], z => ⟨Rat.le_refl, by simp⟩
  | q :: l, z => by
    obtain ⟨h1, h2⟩ := minL_le l (if q < z then q else z)
    refine ⟨Rat.le_trans h1 (low2_r q z), fun p hp => ?_⟩
    rcases List.mem_cons.mp hp with rfl | hp
    · exact Rat.le_trans h1 (low2_l _ _)
    · exact h2 p hp
theorem minL_mem : ∀ (l : List Rat) (z : Rat), minL z l = z ∨ minL z l ∈ l
  | [], z => .inl rfl
  | q :: l, z => by
    rw [minL]
    rcases minL_mem l (if q < z then q else z) with h | h
    · by_cases hq : q < z
      · rw [if_pos hq] at h ⊢
        exact .inr (by rw [h]; exact List.mem_cons_self ..)
      · rw [if_neg hq] at h ⊢
        exact .inl h
    · exact .inr (List.mem_cons_of_mem _ h)
/-! lists that are walked while they stand in the state -/
theorem lcL_nil' {mg : MG} {tt : MT} {el : ME} {env : DE} {S : DS} {it : Itm} (h : it.okB S) (acc : List D) : lcL mg tt el env it [] acc S = .ok acc S := by
  show it.gate S (Ou.ok acc S) = _
  exact if_pos h
theorem lcL_cons' {mg : MG} {el : ME} {env : DE} {S S' : DS} {it : Itm} (h : it.okB S) (d : D) (r acc : List D) {y : D} (e : cell mg el d env S = .ok y S') : lcL mg mYes el env it (d :: r) acc S = lcL mg mYes el env it r (acc ++ [y]) S' := by
  have e1 : lcL mg mYes el env it (d :: r) acc S = it.gate S ((mg d env S).bindN fun env1 S1 => (mYes env1 S1).bindN fun b S2 => if b = true then (el env1 S2).bindN fun y S3 => lcL mg mYes el env it r (acc ++ [y]) S3 else lcL mg mYes el env it r acc S2) := rfl
  have e2 : ∀ k : Ou (List D), it.gate S k = k := fun k => if_pos h
  rw [e1, e2]
  unfold cell at e
  cases h : mg d env S with
  | ok env1 S1 =>
    rw [h] at e
    have e : el env1 S1 = .ok y S' := e
    simp [e]
  | ex x S1 => rw [h] at e; cases e
  | no => rw [h] at e; cases e
theorem lcL_map' {mg : MG} {el : ME} {env : DE} {S : DS} {it : Itm} (hok : it.okB S) {f : D → D} : ∀ (ds acc : List D), (∀ d ∈ ds, cell mg el d env S = .ok (f d) S) → lcL mg mYes el env it ds acc S = .ok (acc ++ ds.map f) S
  | [], acc, _ => by rw [lcL_nil' hok, List.map_nil, List.append_nil]
  | d :: ds, acc, h => by
    rw [lcL_cons' hok d ds acc (h d (List.mem_cons_self ..)), lcL_map' hok ds _ fun d hd => h d (List.mem_cons_of_mem _ hd), List.map_cons, List.append_assoc]
    rfl
section
variable (S : DS)
theorem two_la {d e v w : Nat} {p q : Rat} (hd : 0 < d) (he : 0 < e) (d1 : d ≤ 2 ^ 40) (e1 : e ≤ 2 ^ 40) (v1 : v ≤ 2 ^ 40) (w1 : w ≤ 2 ^ 40) (hp : La d v p) (hq : La e w q) : Two p q := two_bd (hp.bd' hd v1 d1) (hq.bd' he w1 e1)
theorem lesser_ok {n d v : Nat} (hn : n ≤ 4) (hd : 0 < d) (d1 : d ≤ 2 ^ 40) (v1 : v ≤ 2 ^ 40) {g f : Nat → Rat} (hg : ∀ i, La d v (g i)) (hf : ∀ i, La d v (f i)) :
    m_law_lesser [.vl ((vec n g).map enc), encR (vec n f)] S = .ok (.vl ((vec n fun i => low2 (g i) (f i)).map enc)) S := by
  have zo : zipO [.vl ((vec n g).map enc), encR (vec n f)] S = .ok ⟨(List.range n).map fun i => .tup [enc (g i), enc (f i)], none⟩ S := by
    show Ou.ok (Itm.mk (zipD ((vec n g).map enc) ((vec n f).map enc)) none) S = _
    rw [zipD_map]
    unfold vec
    rw [List.zip_map', List.map_map]
    rfl
  simp only [m_law_lesser, defM_at]
  simp [zo]
  rw [lcK_F (fun i => D.tup [enc (g i), enc (f i)]) (fun i => enc (low2 (g i) (f i))) (List.range n) (by rw [List.length_range]; exact Nat.le_trans hn (by decide)) fun i _ => ?_]
  · have e : (List.range n).map (fun i => enc (low2 (g i) (f i))) = (vec n fun i => low2 (g i) (f i)).map enc := by
      unfold vec
      rw [List.map_map]
      rfl
    rw [e]
    simp
  · have b := below_ok S (two_la hd hd d1 d1 v1 v1 (hg i) (hf i))
    simp [wipeE, b]
    unfold low2
    by_cases z : g i < f i
    · simp [z]
    · simp [z]
theorem lacks_loop {it : Itm} (hok : it.okB S) {n d v : Nat} (hn : n ≤ 4) (hd : 0 < d) (d1 : d ≤ 2 ^ 40) (v1 : v ≤ 2 ^ 40) (x0 x1 x2 x3 x4 x5 x8 x9 x10 x11 x12 x13 x14 x15 x16 : Option D) : ∀ (fs : List (Nat → Rat)) (g : Nat → Rat) (x7 : Option D), (∀ i, La d v (g i)) → (∀ f ∈ fs, ∀ i, La d v (f i)) →
    ∃ y7, forL (gN 7) (mSet 6 (mL m_law_lesser (maC (mV 6) (maC (mV 7) maN)))) it (fs.map fun f => encR (vec n f)) [x0, x1, x2, x3, x4, x5, some (.vl ((vec n g).map enc)), x7, x8, x9, x10, x11, x12, x13, x14, x15, x16] S =
      .ok (.nx, [x0, x1, x2, x3, x4, x5, some (.vl ((vec n (minF g fs)).map enc)), y7, x8, x9, x10, x11, x12, x13, x14, x15, x16]) S
  | [], g, x7, _, _ => ⟨x7, by rw [List.map_nil, forL_nil' hok]; rfl⟩
  | f :: fs, g, x7, hg, hf => by
    have lo := lesser_ok S hn hd d1 v1 hg (hf f (List.mem_cons_self ..))
    obtain ⟨y7, ih⟩ := lacks_loop hok hn hd d1 v1 x0 x1 x2 x3 x4 x5 x8 x9 x10 x11 x12 x13 x14 x15 x16 fs (fun i => low2 (g i) (f i)) (some (encR (vec n f))) (minF_la [f] g hg fun f' hf' => hf f' (by rw [List.mem_singleton.mp hf']; exact List.mem_cons_self ..)) fun f' hf' => hf f' (List.mem_cons_of_mem _ hf')
    refine ⟨y7, ?_⟩
    rw [List.map_cons, forL_cons' hok]
    simp [lo]
    exact ih
noncomputable abbrev leB : MS := mSet 12 (mIf (mT (mL m_law_is_below (maC (mV 13) (maC (mV 12) maN)))) (mV 13) (mV 12))
theorem least_loop {it : Itm} (hg : it.g = none) {d v : Nat} (hd : 0 < d) (d1 : d ≤ 2 ^ 40) (v1 : v ≤ 2 ^ 40) (x0 x1 x2 x3 x4 x5 x6 x7 x8 x9 x10 x11 x14 x15 x16 : Option D) : ∀ (l : List Rat) (z : Rat) (x13 : Option D), La d v z → (∀ q ∈ l, La d v q) →
    ∃ y13, forL (gN 13) leB it (l.map enc) [x0, x1, x2, x3, x4, x5, x6, x7, x8, x9, x10, x11, some (enc z), x13, x14, x15, x16] S =
      .ok (.nx, [x0, x1, x2, x3, x4, x5, x6, x7, x8, x9, x10, x11, some (enc (minL z l)), y13, x14, x15, x16]) S
  | [], z, x13, _, _ => ⟨x13, by rw [List.map_nil, forL_nil hg]; rfl⟩
  | q :: l, z, x13, hz, hq => by
    have hq1 := hq q (List.mem_cons_self ..)
    have b := below_ok S (two_la hd hd d1 d1 v1 v1 hq1 hz)
    obtain ⟨y13, ih⟩ := least_loop hg hd d1 v1 x0 x1 x2 x3 x4 x5 x6 x7 x8 x9 x10 x11 x14 x15 x16 l (if q < z then q else z) (some (enc q)) (by split <;> assumption) fun p hp => hq p (List.mem_cons_of_mem _ hp)
    refine ⟨y13, ?_⟩
    have st : turn (gN 13) leB (enc q) [x0, x1, x2, x3, x4, x5, x6, x7, x8, x9, x10, x11, some (enc z), x13, x14, x15, x16] S = .ok (.nx, [x0, x1, x2, x3, x4, x5, x6, x7, x8, x9, x10, x11, some (enc (if q < z then q else z)), some (enc q), x14, x15, x16]) S := by
      simp [b]
      by_cases h : q < z
      · simp [h]
      · simp [h]
    rw [List.map_cons, forL_cons hg, st, forN_nx, ih]
    rfl
end
/-! how stocks hang on what stands at first, and on the orders -/
theorem stk_shift (x : Shop) (st : List Rat) (g : Nat → Rat) (sc : List (List Rat)) (os : List Od) (i : Nat) (h : st.getD i 0 = x.st.getD i 0 - g i) : ∀ d, stk { x with st := st } os sc d i = stk x os sc d i - g i
  | 0 => h
  | d + 1 => by
    have := stk_shift x st g sc os i h d
    show stk { x with st := st } os sc d i + chg sc d i 0 x.ms - due os d i = stk x os sc d i + chg sc d i 0 x.ms - due os d i - g i
    rw [this]
    grind
theorem sumQ_snoc (l : List Rat) (q : Rat) : sumQ (l ++ [q]) = sumQ l + q := by
  rw [sumQ_append]
  show sumQ l + (q + 0) = _
  rw [Rat.add_zero]
theorem due_snoc (os : List Od) (o : Od) (d i : Nat) : due (os ++ [o]) d i = due os d i + if o.g = i ∧ o.w = d then o.a else 0 := by
  unfold due
  rw [List.map_append, List.map_cons, List.map_nil, sumQ_snoc]
theorem stk_snoc (x : Shop) (os : List Od) (o : Od) (sc : List (List Rat)) (i : Nat) : ∀ d, stk x (os ++ [o]) sc d i = stk x os sc d i - if o.g = i ∧ o.w < d then o.a else 0
  | 0 => by
    rw [if_neg (by omega)]
    show x.st.getD i 0 = x.st.getD i 0 - 0
    grind
  | d + 1 => by
    show stk x (os ++ [o]) sc d i + chg sc d i 0 x.ms - due (os ++ [o]) d i = stk x os sc d i + chg sc d i 0 x.ms - due os d i - _
    rw [stk_snoc x os o sc i d, due_snoc]
    by_cases h1 : o.g = i
    · by_cases h2 : o.w < d
      · rw [if_pos ⟨h1, h2⟩, if_neg (by omega), if_pos ⟨h1, by omega⟩]; grind
      · by_cases h3 : o.w = d
        · rw [if_neg (by omega), if_pos ⟨h1, h3⟩, if_pos ⟨h1, by omega⟩]; grind
        · rw [if_neg (by omega), if_neg (by omega), if_neg (by omega)]; grind
    · rw [if_neg (by omega), if_neg (by omega), if_neg (by omega)]; grind
theorem lcL_F' {α : Type} {mg : MG} {el : ME} {env : DE} {S : DS} {it : Itm} (hok : it.okB S) (g f : α → D) : ∀ (as : List α) (acc : List D), (∀ a ∈ as, cell mg el (g a) env S = .ok (f a) S) → lcL mg mYes el env it (as.map g) acc S = .ok (acc ++ as.map f) S
  | [], acc, _ => by rw [List.map_nil, lcL_nil' hok, List.map_nil, List.append_nil]
  | d :: ds, acc, h => by
    rw [List.map_cons, lcL_cons' hok _ _ acc (h d (List.mem_cons_self ..)), lcL_F' hok g f ds _ fun d hd => h d (List.mem_cons_of_mem _ hd), List.map_cons, List.append_assoc]
    rfl
theorem cut_hi (xs : List D) (i : Nat) (h : i ≤ xs.length) : DL.cutD xs (some (i : Int)) none = xs.drop i := by
  unfold DL.cutD
  rw [HT.sIx_none, HT.sIx_nat, Nat.min_eq_left h]
  exact List.take_of_length_le (by rw [List.length_drop]; exact Nat.le_refl _)
theorem fr3_of {x : D} (h : x ∈ [D.tup [.int 1, .int 1], .tup [.int 1, .int 2], .tup [.int 1, .int 3]]) : ∃ q, x = enc q ∧ Po 6 1 q ∧ q ≤ 1 := by
  simp only [List.mem_cons, List.not_mem_nil, or_false] at h
  rcases h with rfl | rfl | rfl
  · exact ⟨mkRat 6 6, rfl, ⟨mkRat_nn 6 6, 6, by decide, rfl⟩, by decide⟩
  · exact ⟨mkRat 3 6, rfl, ⟨mkRat_nn 3 6, 3, by decide, rfl⟩, by decide⟩
  · exact ⟨mkRat 2 6, rfl, ⟨mkRat_nn 2 6, 2, by decide, rfl⟩, by decide⟩
noncomputable abbrev mcB : MS := (mSeq (mAsg (gT 2 (gsC (gN 14) (gsC (gN 15) gsN))) (mL tupO (maC (mL m_law_draw (maC (mV 0) (maC (mV 1) maN))) (maC (mL m_law_draw (maC (mV 0) (maC (mV 3) maN))) maN))))
    (mSeq (mSet 11 (mSl slO (lcM (mSeqI (mL m_law_led (maC (mV 4) (maC (mV 9) (maC (mV 5) maN))))) (gN 7) mYes (m2 ixO (mV 7) (mV 14)) [7] finV) (moS (mV 15)) moN))
    (mSeq (mSet 12 (m2 ixO (mV 11) (mC (.int 0))))
    (mSeq (mFor (mSeqI (mV 11)) (gN 13) leB)
    (mDo (mMeth .lst appendO (mV 9) (maC (mL tupO (maC (mV 14) (maC (mL m_law_mul (maC (mV 12) (maC (mL m_law_any (maC (mV 0) (maC (mL lstO (maC (mL tupO (maC (mC (.int 1)) (maC (mC (.int 1)) maN))) (maC (mL tupO (maC (mC (.int 1)) (maC (mC (.int 2)) maN))) (maC (mL tupO (maC (mC (.int 1)) (maC (mC (.int 3)) maN))) maN)))) maN))) maN))) (maC (mV 15) maN)))) maN)))))))
/-- nothing lacks -/
def NN (x : Shop) (os : List Od) (sc : List (List Rat)) : Prop := ∀ d, d < x.dy → ∀ i, i < x.n → 0 ≤ stk x os sc (d + 1) i
theorem lap_ok {h : List D} (hh : Hand h) (T0 J : DS) {e A : Nat} {x : Shop} {os : List Od} {sc : List (List Rat)} (C : Case e 1284 A x os sc) (he : e * 6 ≤ 2 ^ 20) (hA : 1284 + (180 + 12 * A) * 7 ≤ 2 ^ 32) (hl : os.length ≤ 11) (nn : NN x os sc) (d : D) (x2 x6 x7 x8 x10 x11 x12 x13 x14 x15 : Option D) :
    ∃ (o : Od) (h' : List D) (J' : DS) (y11 y12 y13 y14 y15 : Option D), turn (gN 10) mcB d [some (.ref 0), some (.int (x.n : Nat)), x2, some (.int (x.dy : Nat)), some (encSh x), some (encSc sc), x6, x7, x8, some (.ref (T0.length + 1)), x10, x11, x12, x13, x14, x15, none] (.lst h :: (T0 ++ .lst (os.map encOd) :: J)) =
      .ok (.nx, [some (.ref 0), some (.int (x.n : Nat)), x2, some (.int (x.dy : Nat)), some (encSh x), some (encSc sc), x6, x7, x8, some (.ref (T0.length + 1)), some d, y11, y12, y13, y14, y15, none]) (.lst h' :: (T0 ++ .lst ((os ++ [o]).map encOd) :: J')) ∧ Hand h' ∧ Case (e * 6) 1284 (1284 + (180 + 12 * A) * 7) x (os ++ [o]) sc ∧ NN x (os ++ [o]) sc := by
  have n0 := C.S.n0
  have n1 := C.S.n1
  have d0 := C.S.d0
  have d1 := C.S.d1
  have e0 := C.N.e0
  have e1 := C.N.e1
  have p144 : 0 < 144 * e := by omega
  have e144 : 144 * e ≤ 2 ^ 40 := by omega
  generalize hvm : 1284 + (180 + 12 * A) * 7 = vm at hA
  have sla : ∀ d, d ≤ 7 → ∀ i, La (144 * e) vm (stk x os sc d i) := fun d hd i => (stk_la C.N C.S C.o.l C.c i d).wide (by
    have := Nat.mul_le_mul_left (180 + 12 * A) hd
    omega)
  obtain ⟨g, h1, e1', hh1, g1⟩ := draw_nat hh (T0 ++ .lst (os.map encOd) :: J) x.n n0 (by omega)
  obtain ⟨w, h2, e2', hh2, w1⟩ := draw_nat hh1 (T0 ++ .lst (os.map encOd) :: J) x.dy d0 (by omega)
  have hp : (DO.lst h2 :: (T0 ++ DO.lst (os.map encOd) :: J))[T0.length + 1]? = some (.lst (os.map encOd)) := by
    rw [List.getElem?_cons_succ, List.getElem?_append_right (Nat.le_refl _), Nat.sub_self]; rfl
  obtain ⟨J1, _, e3⟩ := law_led_ok C.N C.S C.o C.c (OrdAt.ref hp)
  obtain ⟨J2, hS3⟩ : ∃ J2, DO.lst h2 :: (T0 ++ DO.lst (os.map encOd) :: J) ++ DO.lst J1 :: [DO.lst (rowsD x os sc x.dy)] = DO.lst h2 :: (T0 ++ DO.lst (os.map encOd) :: J2) := ⟨J ++ DO.lst J1 :: [DO.lst (rowsD x os sc x.dy)], by simp⟩
  have g3 : (DO.lst h2 :: (T0 ++ DO.lst (os.map encOd) :: J2))[(DO.lst h2 :: (T0 ++ DO.lst (os.map encOd) :: J)).length + 1]? = some (.lst (rowsD x os sc x.dy)) := by
    rw [← hS3, List.getElem?_append_right (by omega), Nat.add_sub_cancel_left]; rfl
  rw [hS3] at e3
  generalize (DO.lst h2 :: (T0 ++ DO.lst (os.map encOd) :: J)).length + 1 = p at e3 g3
  have ai : asItm (.ref p) (.lst h2 :: (T0 ++ DO.lst (os.map encOd) :: J2)) = .ok ⟨rowsD x os sc x.dy, some (p, rowsD x os sc x.dy)⟩ (.lst h2 :: (T0 ++ DO.lst (os.map encOd) :: J2)) := by
    show refItm p _ = _
    unfold refItm
    simp only [g3]
  let all : List Rat := (List.range x.dy).map fun d => stk x os sc (d + 1) g
  have hall : all.length = x.dy := by simp [all]
  have lc : lcK (gN 7) mYes (m2 ixO (mV 7) (mV 14)) [7] finV [some (.ref 0), some (.int (x.n : Nat)), x2, some (.int (x.dy : Nat)), some (encSh x), some (encSc sc), x6, x7, x8, some (.ref (T0.length + 1)), some d, x11, x12, x13, some (.int (g : Nat)), some (.int (w : Nat)), none] (.ok ⟨rowsD x os sc x.dy, some (p, rowsD x os sc x.dy)⟩ (.lst h2 :: (T0 ++ DO.lst (os.map encOd) :: J2))) = .ok (.vl (all.map enc)) (.lst h2 :: (T0 ++ DO.lst (os.map encOd) :: J2)) := by
    rw [lcK_ok, if_pos (show (Itm.mk (rowsD x os sc x.dy) (some (p, rowsD x os sc x.dy))).items.length ≤ sizeLine from (show (rowsD x os sc x.dy).length ≤ sizeLine by rw [rowsD_len]; exact Nat.le_trans d1 (by decide)))]
    have := lcL_F' (mg := gN 7) (el := m2 ixO (mV 7) (mV 14)) (env := wipeE [some (.ref 0), some (.int (x.n : Nat)), x2, some (.int (x.dy : Nat)), some (encSh x), some (encSc sc), x6, x7, x8, some (.ref (T0.length + 1)), some d, x11, x12, x13, some (.int (g : Nat)), some (.int (w : Nat)), none] [7]) (S := .lst h2 :: (T0 ++ DO.lst (os.map encOd) :: J2)) (it := ⟨rowsD x os sc x.dy, some (p, rowsD x os sc x.dy)⟩) g3 (fun d => encR (vec x.n (stk x os sc (d + 1)))) (fun d => enc (stk x os sc (d + 1) g)) (List.range x.dy) [] (fun dd _ => by
      have va := vec_at (stk x os sc (dd + 1)) (.lst h2 :: (T0 ++ DO.lst (os.map encOd) :: J2)) g1
      have va' : ixO (encR (vec x.n (stk x os sc (dd + 1)))) (.int (g : Nat)) (.lst h2 :: (T0 ++ DO.lst (os.map encOd) :: J2)) = _ := va
      simp [wipeE, va'])
    have e' : all.map enc = (List.range x.dy).map fun d => enc (stk x os sc (d + 1) g) := by
      show List.map enc (List.map _ _) = _
      rw [List.map_map]
      rfl
    rw [e']
    show (lcL _ _ _ _ _ ((List.range x.dy).map fun d => encR (vec x.n (stk x os sc (d + 1)))) [] _).bind finV = _
    rw [this]
    rfl
  have sl : ∀ S, slO (.vl (all.map enc)) (some (w : Nat)) none S = .ok (.vl ((all.drop w).map enc)) S := fun S => by
    show Ou.ok (D.vl (DL.cutD (all.map enc) (some (w : Int)) none)) S = _
    rw [cut_hi _ _ (by rw [List.length_map, hall]; omega), List.map_drop]
  have hz : all.drop w = stk x os sc (w + 1) g :: all.drop (w + 1) := by
    have hw : w < all.length := by rw [hall]; exact w1
    have e1 : all[w] = stk x os sc (w + 1) g := by simp [all]
    rw [List.drop_eq_getElem_cons hw, e1]
  have lm : ∀ q ∈ all.drop w, ∃ d, w ≤ d ∧ d < x.dy ∧ q = stk x os sc (d + 1) g := fun q hq => by
    obtain ⟨i, hi⟩ := List.getElem?_of_mem hq
    rw [List.getElem?_drop] at hi
    have hlt := (List.getElem?_eq_some_iff.mp hi).1
    rw [hall] at hlt
    refine ⟨w + i, by omega, hlt, ?_⟩
    have : all[w + i]? = some (stk x os sc (w + i + 1) g) := by simp [all, hlt]
    rw [this] at hi
    cases hi
    rfl
  have ml : ∀ d, w ≤ d → d < x.dy → stk x os sc (d + 1) g ∈ all.drop w := fun dd h1 h2 => by
    have : (all.drop w)[dd - w]? = some (stk x os sc (dd + 1) g) := by
      rw [List.getElem?_drop, show w + (dd - w) = dd by omega]
      simp [all, h2]
    exact List.mem_of_getElem? this
  generalize hl2 : all.drop w = l at sl hz lm ml
  generalize hz0 : stk x os sc (w + 1) g = z at hz
  have hmL : minL z l ∈ l := by
    rcases minL_mem l z with h | h
    · rw [h, hz]; exact List.mem_cons_self ..
    · exact h
  obtain ⟨dL, wL, dyL, eL⟩ := lm _ hmL
  have laL : La (144 * e) vm (minL z l) := by rw [eL]; exact sla (dL + 1) (by omega) g
  have nnL : 0 ≤ minL z l := by rw [eL]; exact nn dL dyL g g1
  obtain ⟨y13, lp⟩ := least_loop (.lst h2 :: (T0 ++ DO.lst (os.map encOd) :: J2)) (it := ⟨l.map enc, none⟩) rfl p144 e144 (show vm ≤ 2 ^ 40 by omega) (some (.ref 0)) (some (.int (x.n : Nat))) x2 (some (.int (x.dy : Nat))) (some (encSh x)) (some (encSc sc)) x6 x7 x8 (some (.ref (T0.length + 1))) (some d) (some (.vl (l.map enc))) (some (.int (g : Nat))) (some (.int (w : Nat))) none l z x13 (by rw [← hz0]; exact sla (w + 1) (by omega) g) (fun q hq => by
    obtain ⟨d', _, h', rfl⟩ := lm q hq
    exact sla (d' + 1) (by omega) g)
  obtain ⟨y, h3, e4, hh3, hy⟩ := any_ok hh2 (T0 ++ DO.lst (os.map encOd) :: J2) [D.tup [.int 1, .int 1], .tup [.int 1, .int 2], .tup [.int 1, .int 3]] (by simp) (by simp)
  obtain ⟨f, rfl, pf, f1⟩ := fr3_of hy
  have mu := mul_ok (.lst h3 :: (T0 ++ DO.lst (os.map encOd) :: J2)) (two_la p144 (show 0 < 6 by decide) e144 (by decide) (show vm ≤ 2 ^ 40 by omega) (by decide) laL pf.2)
  have ap := app_h (R := T0) (J := J2) (h := h3) (ys := os.map encOd) (encOd ⟨g, minL z l * f, w⟩) (by rw [List.length_map]; omega)
  have ap2 : appendO (.ref (T0.length + 1)) [.tup [.int (g : Nat), enc (minL z l * f), .int (w : Nat)]] (.lst h3 :: (T0 ++ .lst (os.map encOd) :: J2)) = .ok .non (.lst h3 :: (T0 ++ .lst ((os ++ [(⟨g, minL z l * f, w⟩ : Od)]).map encOd) :: J2)) := by
    rw [← map_snoc]; exact ap
  have na : 0 ≤ minL z l * f := Rat.mul_nonneg nnL pf.1
  have aL : minL z l * f ≤ minL z l := le_one_mul nnL f1
  refine ⟨⟨g, minL z l * f, w⟩, h3, J2, some (.vl (l.map enc)), some (enc (minL z l)), y13, some (.int (g : Nat)), some (.int (w : Nat)), ?_, hh3, ?_, ?_⟩
  · rw [turn_at, gN_at, turnK_ok]
    simp only [List.set_cons_succ, List.set_cons_zero]
    unfold mcB
    have st1 : (mAsg (gT 2 (gsC (gN 14) (gsC (gN 15) gsN))) (mL tupO (maC (mL m_law_draw (maC (mV 0) (maC (mV 1) maN))) (maC (mL m_law_draw (maC (mV 0) (maC (mV 3) maN))) maN))) : MS) [some (.ref 0), some (.int (x.n : Nat)), x2, some (.int (x.dy : Nat)), some (encSh x), some (encSc sc), x6, x7, x8, some (.ref (T0.length + 1)), some d, x11, x12, x13, x14, x15, none] (.lst h :: (T0 ++ .lst (os.map encOd) :: J)) =
        .ok (.nx, [some (.ref 0), some (.int (x.n : Nat)), x2, some (.int (x.dy : Nat)), some (encSh x), some (encSc sc), x6, x7, x8, some (.ref (T0.length + 1)), some d, x11, x12, x13, some (.int (g : Nat)), some (.int (w : Nat)), none]) (.lst h2 :: (T0 ++ .lst (os.map encOd) :: J)) := by
      simp [e1', e2', tupO]
    have st2 : (mSet 11 (mSl slO (lcM (mSeqI (mL m_law_led (maC (mV 4) (maC (mV 9) (maC (mV 5) maN))))) (gN 7) mYes (m2 ixO (mV 7) (mV 14)) [7] finV) (moS (mV 15)) moN) : MS) [some (.ref 0), some (.int (x.n : Nat)), x2, some (.int (x.dy : Nat)), some (encSh x), some (encSc sc), x6, x7, x8, some (.ref (T0.length + 1)), some d, x11, x12, x13, some (.int (g : Nat)), some (.int (w : Nat)), none] (.lst h2 :: (T0 ++ .lst (os.map encOd) :: J)) =
        .ok (.nx, [some (.ref 0), some (.int (x.n : Nat)), x2, some (.int (x.dy : Nat)), some (encSh x), some (encSc sc), x6, x7, x8, some (.ref (T0.length + 1)), some d, some (.vl (l.map enc)), x12, x13, some (.int (g : Nat)), some (.int (w : Nat)), none]) (.lst h2 :: (T0 ++ .lst (os.map encOd) :: J2)) := by
      simp only [mSet_at, mSl_at, lcM_at, mSeqI_at, mL_at, maC_at, maN_at, mV_at, List.getElem?_cons_zero, List.getElem?_cons_succ, maK_ok, maJ_ok, bind_ok, e3, ai, lc, slK_ok, moS_at, moK_ok, slJ_ok, moN_at, slI_ok, sl, setK_ok, List.set_cons_succ, List.set_cons_zero]
    have p0 : ∀ S, ixO (.vl (l.map enc)) (.int 0) S = .ok (enc z) S := fun S => by
      rw [hz, List.map_cons]
      exact FR.getI_0 _ _ _
    rw [mSeq_at, st1, seqK_nx, mSeq_at, st2, seqK_nx]
    simp [p0]
    rw [lp]
    simp [RcT.ok, lstO, tupO, e4, mu]
    have ap3 := ap2
    simp only [List.map_append, List.map_cons, List.map_nil] at ap3
    rw [ap3]
    rfl
  · have e6 : 144 * (e * 6) = 144 * e * 6 := by omega
    have N := C.N
    refine ⟨⟨by omega, he, N.v1, hA, ?_, ?_⟩, C.S, C.st, ⟨?_, ?_⟩, C.c⟩
    · intro q hq
      rw [e6]
      exact (N.st q hq).lift (by decide)
    · intro o ho
      rw [e6]
      rcases List.mem_append.mp ho with ho | ho
      · exact ((N.os o ho).wide (by omega)).lift (by decide)
      · rw [List.mem_singleton.mp ho]
        have := laL.mul pf.2
        rwa [Nat.mul_one] at this
    · rw [List.length_append]
      show os.length + 1 ≤ 12
      omega
    · intro o ho
      rcases List.mem_append.mp ho with ho | ho
      · exact C.o.g o ho
      · rw [List.mem_singleton.mp ho]
        exact ⟨g1, w1, na⟩
  · intro dd hd i hi
    rw [stk_snoc]
    have n1 := nn dd hd i hi
    split
    · rename_i hc
      have hgi : g = i := hc.1
      have hwd : w < dd + 1 := hc.2
      subst hgi
      have := (minL_le l z).2 _ (ml dd (by omega) hd)
      show 0 ≤ stk x os sc (dd + 1) g - minL z l * f
      have h3 := Rat.le_trans aL this
      grind
    · grind
end K23

namespace K23
open PySem PySem.Spec PyProof.Rows L2 DL FR
def aK : Nat → Nat
  | 0 => 0
  | k + 1 => 1284 + (180 + 12 * aK k) * 7
theorem aK_le (k : Nat) (h : k ≤ 3) : 1284 + (180 + 12 * aK k) * 7 ≤ 2 ^ 32 ∧ 6 ^ k * 6 ≤ 2 ^ 20 := by
  rcases (show k = 0 ∨ k = 1 ∨ k = 2 ∨ k = 3 by omega) with rfl | rfl | rfl | rfl <;> decide
theorem tupO_3 (a b c : D) (S : DS) : tupO [a, b, c] S = .ok (.tup [a, b, c]) S := tupO_le (by simp)
theorem under_case (n : Nat) (x : Shop) (os : List Od) (sc : List (List Rat)) : under n (.tup [encSh x, encOs os, encSc sc]) = true := by
  show unders n [encSh x, encOs os, encSc sc] = true
  rw [unders, unders, unders, unders, under_sh, under_os, under_sc]
  rfl
theorem getD_vec {n : Nat} (f : Nat → Rat) {i : Nat} (h : i < n) : (vec n f).getD i 0 = f i := by
  rw [List.getD_eq_getElem?_getD, vec_get f h]
  rfl
theorem made_ok {h : List D} (hh : Hand h) {R : DS} (hR : Cl R) (n m dy : Nat) (n0 : 1 ≤ n) (hn : n ≤ 4) (m0 : 1 ≤ m) (hm : m ≤ 6) (d0 : 1 ≤ dy) (hd : dy ≤ 7) :
    ∃ (x : Shop) (os : List Od) (sc : List (List Rat)) (h' : List D) (e A : Nat), m_law_made_case [.ref 0, .int (n : Nat), .int (m : Nat), .int (dy : Nat)] (.lst h :: R) = .ok (.tup [encSh x, encOs os, encSc sc]) (.lst h' :: R) ∧ Hand h' ∧ Case e 1284 A x os sc ∧ NN x os sc ∧ os.length ≤ 4 := by
  obtain ⟨x0, h1, e1, hh1, sx, xn, xd, xs⟩ := shop_ok hh hR n m dy n0 hn m0 hm d0 hd
  obtain ⟨sc, h2, e2, hh2, hs⟩ := sched_ok hh1 hR sx
  have N0 : Num 1 12 0 x0 [] := ⟨by decide, by decide, by decide, by decide, fun q hq => (xs q hq).2.lift (k := 12) (by decide), fun o ho => by simp at ho⟩
  have O0 : Os x0 [] := ⟨by decide, fun o ho => by simp at ho⟩
  obtain ⟨J1, _, e3⟩ := law_led_ok N0 sx O0 hs (OrdAt.tup [] (.lst h2 :: R))
  obtain ⟨T0, hT0⟩ : ∃ T0 : DS, T0 = R ++ DO.lst J1 :: [DO.lst (rowsD x0 [] sc x0.dy)] := ⟨_, rfl⟩
  have e3' : m_law_led [encSh x0, .tup [], encSc sc] (.lst h2 :: R) = .ok (.ref (R.length + 2)) (.lst h2 :: T0) := by
    rw [hT0]; exact e3
  have g3 : (DO.lst h2 :: T0)[R.length + 2]? = some (.lst (rowsD x0 [] sc x0.dy)) := by
    rw [hT0, List.getElem?_cons_succ, List.getElem?_append_right (by omega), show R.length + 1 - R.length = 1 by omega]; rfl
  have ai : asItm (.ref (R.length + 2)) (.lst h2 :: T0) = .ok ⟨rowsD x0 [] sc x0.dy, some (R.length + 2, rowsD x0 [] sc x0.dy)⟩ (.lst h2 :: T0) := by
    show refItm _ _ = _
    unfold refItm
    simp only [g3]
  obtain ⟨fs, hfs⟩ : ∃ fs : List (Nat → Rat), fs = (List.range x0.dy).map fun d => stk x0 [] sc (d + 1) := ⟨_, rfl⟩
  have rfs : rowsD x0 [] sc x0.dy = fs.map fun f => encR (vec x0.n f) := by
    rw [hfs, List.map_map]
    rfl
  have fla : ∀ f ∈ fs, ∀ i, La 144 1272 (f i) := fun f hf i => by
    rw [hfs] at hf
    obtain ⟨d, hd', rfl⟩ := List.mem_map.mp hf
    rw [List.mem_range] at hd'
    exact (stk_la N0 sx O0.l hs i (d + 1)).wide (by omega)
  obtain ⟨y7, lk⟩ := lacks_loop (.lst h2 :: T0) (it := ⟨rowsD x0 [] sc x0.dy, some (R.length + 2, rowsD x0 [] sc x0.dy)⟩) g3 (n := x0.n) (d := 144) (v := 1272) sx.n1 (by decide) (by decide) (by decide) (some (.ref 0)) (some (.int (n : Nat))) (some (.int (m : Nat))) (some (.int (dy : Nat))) (some (encSh x0)) (some (encSc sc)) none none none none none none none none none fs (fun _ => 0) none (fun i => La.zero _ _) fla
  obtain ⟨LQ, hLQ⟩ : ∃ LQ, LQ = minF (fun _ => 0) fs := ⟨_, rfl⟩
  rw [← hLQ, ← rfs] at lk
  have lq0 : ∀ i, LQ i ≤ 0 := fun i => by rw [hLQ]; exact (minF_le i fs _).1
  have lqf : ∀ i, ∀ f ∈ fs, LQ i ≤ f i := fun i => by rw [hLQ]; exact (minF_le i fs _).2
  have lqa : ∀ i, La 144 1272 (LQ i) := fun i => by rw [hLQ]; exact minF_la fs _ (fun i => La.zero _ _) fla i
  have sta : ∀ i, Po 144 12 (x0.st.getD i 0) := fun i => getD_po (fun q hq => ⟨(xs q hq).1, (xs q hq).2.lift (k := 12) (by decide)⟩) i
  obtain ⟨x, hx⟩ : ∃ x : Shop, x = { x0 with st := vec x0.n fun i => x0.st.getD i 0 - LQ i } := ⟨_, rfl⟩
  have hxn : x.n = n := by rw [hx]; exact xn
  have hxd : x.dy = dy := by rw [hx]; exact xd
  have Sx : Sh x := by
    rw [hx]
    exact ⟨sx.n0, sx.n1, sx.l0, sx.l1, sx.d0, sx.d1, sx.ms, vec_len _ _⟩
  have hs2 : Sc x sc := by rw [hx]; exact ⟨hs.l, hs.r⟩
  have C0 : Case (6 ^ 0) 1284 (aK 0) x [] sc := by
    refine ⟨⟨by decide, by decide, by decide, by decide, ?_, fun o ho => by simp at ho⟩, Sx, ?_, ⟨by decide, fun o ho => by simp at ho⟩, hs2⟩
    · intro q hq
      rw [hx] at hq
      obtain ⟨i, _, rfl⟩ := vec_mem hq
      exact (sta i).2.sub (by decide) (lqa i)
    · intro q hq
      rw [hx] at hq
      obtain ⟨i, _, rfl⟩ := vec_mem hq
      have h1 := (sta i).1
      have h2 := lq0 i
      grind
  have NN0 : NN x [] sc := by
    intro d hd' i hi
    have h1 := stk_shift x0 (vec x0.n fun i => x0.st.getD i 0 - LQ i) LQ sc [] i (getD_vec _ (by rw [hx] at hi; exact hi)) (d + 1)
    rw [hx, h1]
    have h2 := lqf i (stk x0 [] sc (d + 1)) (by
      rw [hfs]
      exact List.mem_map.mpr ⟨d, by rw [List.mem_range]; rw [hx] at hd'; exact hd', rfl⟩)
    grind
  have mm : ∀ S, mulO (.vl [.tup [.int 0, .int 1]]) (.int (n : Nat)) S = .ok (.vl ((vec x0.n fun _ => 0).map enc)) S := fun S => by
    have hc : -(2 ^ 63) ≤ (n : Int) ∧ (n : Int) < 2 ^ 63 ∧ [D.tup [.int 0, .int 1]].length * ((n : Int)).toNat ≤ sizeLine := by
      refine ⟨by omega, by omega, ?_⟩
      rw [Int.toNat_natCast, List.length_cons, List.length_nil, Nat.zero_add, Nat.one_mul]
      exact Nat.le_trans hn (by decide)
    have e : mulO (.vl [.tup [.int 0, .int 1]]) (.int (n : Nat)) S = if -(2 ^ 63) ≤ (n : Int) ∧ (n : Int) < 2 ^ 63 ∧ [D.tup [.int 0, .int 1]].length * ((n : Int)).toNat ≤ sizeLine then .ok (.vl (repL [.tup [.int 0, .int 1]] ((n : Int)).toNat)) S else .no := rfl
    rw [e, if_pos hc, Int.toNat_natCast, repL_one, rep_zero, xn]
  have zo : ∀ S, zipO [encR x0.st, .vl ((vec x0.n LQ).map enc)] S = .ok ⟨(List.range x0.n).map fun i => .tup [enc (x0.st.getD i 0), enc (LQ i)], none⟩ S := fun S => by
    have vs := vec_self sx.sl
    have e : encR x0.st = .tup ((vec x0.n fun i => x0.st.getD i 0).map enc) := by rw [← vs]; rfl
    rw [e]
    show Ou.ok (Itm.mk (zipD ((vec x0.n fun i => x0.st.getD i 0).map enc) ((vec x0.n LQ).map enc)) none) S = _
    rw [zipD_map]
    unfold vec
    rw [List.zip_map', List.map_map]
    rfl
  have lc : ∀ (a0 a1 a2 a3 a4 a5 a6 a7 a8 a9 a10 a11 a12 a13 a14 a15 a16 : Option D) (S : DS), lcK (gT 2 (gsC (gN 13) (gsC (gN 16) gsN))) mYes (mL m_law_less (maC (mV 13) (maC (mV 16) maN))) [13, 16] finV [a0, a1, a2, a3, a4, a5, a6, a7, a8, a9, a10, a11, a12, a13, a14, a15, a16] (.ok ⟨(List.range x0.n).map fun i => .tup [enc (x0.st.getD i 0), enc (LQ i)], none⟩ S) = .ok (.vl (x.st.map enc)) S := fun a0 a1 a2 a3 a4 a5 a6 a7 a8 a9 a10 a11 a12 a13 a14 a15 a16 S => by
    have hn2 := sx.n1
    rw [lcK_F (fun i => D.tup [enc (x0.st.getD i 0), enc (LQ i)]) (fun i => enc (x0.st.getD i 0 - LQ i)) (List.range x0.n) (by rw [List.length_range]; exact Nat.le_trans hn2 (by decide)) fun i _ => ?_]
    · have e : (List.range x0.n).map (fun i => enc (x0.st.getD i 0 - LQ i)) = x.st.map enc := by
        rw [hx]
        show _ = List.map enc (vec x0.n fun i => x0.st.getD i 0 - LQ i)
        unfold vec
        rw [List.map_map]
        rfl
      rw [e]
      rfl
    · have b := less_ok S (two_la (show 0 < 144 by decide) (show 0 < 144 by decide) (by decide) (by decide) (show 12 ≤ 2 ^ 40 by decide) (show 1272 ≤ 2 ^ 40 by decide) (sta i).2 (lqa i))
      generalize x0.st.getD i 0 = q0 at b ⊢
      simp [wipeE, b]
  have sl2 : ∀ S, slO (encSh x0) none (some 2) S = .ok (.tup [.int (x0.n : Nat), .tup (x0.ms.map encMk)]) S := fun S => by
    show Ou.ok (D.tup (DL.cutD [.int (x0.n : Nat), .tup (x0.ms.map encMk), encR x0.st, .int (x0.dy : Nat)] none (some ((2 : Nat) : Int)))) S = _
    unfold DL.cutD
    rw [HT.sIx_none, HT.sIx_nat]
    rfl
  have ad : ∀ S, addO (.tup [.int (x0.n : Nat), .tup (x0.ms.map encMk)]) (.tup [.tup (x.st.map enc), .int (x0.dy : Nat)]) S = .ok (encSh x) S := fun S => by
    rw [addO_tup S (by simp)]
    rw [hx]
    rfl
  obtain ⟨k, h3, e4, hh3, k1⟩ := draw_nat hh2 (T0 ++ [.lst []]) 5 (by decide) (by decide)
  have e4' : m_law_draw [.ref 0, .int 5] (.lst h2 :: (T0 ++ [.lst []])) = _ := e4
  obtain ⟨env', S', e5, ⟨os, h4, J, z10, z11, z12, z13, z14, z15, rfl, rfl, hh4, lo, Ck, NNk⟩⟩ := forL_all (it := ⟨(List.range k).map fun (i : Nat) => D.int (i : Int), none⟩) (mg := gN 10) (p := mcB) rfl
    (I := fun j env S1 => ∃ (os : List Od) (h : List D) (J : DS) (z10 z11 z12 z13 z14 z15 : Option D), env = [some (.ref 0), some (.int (n : Nat)), some (.int (m : Nat)), some (.int (dy : Nat)), some (encSh x), some (encSc sc), some (.vl ((vec x0.n LQ).map enc)), y7, some (.tup (x.st.map enc)), some (.ref (T0.length + 1)), z10, z11, z12, z13, z14, z15, none] ∧ S1 = .lst h :: (T0 ++ .lst (os.map encOd) :: J) ∧ Hand h ∧ os.length = j ∧ Case (6 ^ j) 1284 (aK j) x os sc ∧ NN x os sc)
    ((List.range k).map fun (i : Nat) => D.int (i : Int)) 0 [some (.ref 0), some (.int (n : Nat)), some (.int (m : Nat)), some (.int (dy : Nat)), some (encSh x), some (encSc sc), some (.vl ((vec x0.n LQ).map enc)), y7, some (.tup (x.st.map enc)), some (.ref (T0.length + 1)), none, none, none, none, none, none, none] (.lst h3 :: (T0 ++ [.lst []]))
    ⟨[], h3, [], none, none, none, none, none, none, rfl, rfl, hh3, rfl, C0, NN0⟩ (fun j d hd env S1 hI => by
      obtain ⟨os, h, J, z10, z11, z12, z13, z14, z15, rfl, rfl, hh, lo, C, nn⟩ := hI
      rw [Nat.zero_add] at lo C ⊢
      have hj : j < k := by
        by_cases z : j < k
        · exact z
        · rw [List.getElem?_eq_none (by simp; omega)] at hd; cases hd
      obtain ⟨ha, he⟩ := aK_le j (by omega)
      obtain ⟨o, h', J', y11, y12, y13, y14, y15, tn, hh', C', nn'⟩ := lap_ok hh T0 J C he ha (by omega) nn d (some (.int (m : Nat))) (some (.vl ((vec x0.n LQ).map enc))) y7 (some (.tup (x.st.map enc))) z10 z11 z12 z13 z14 z15
      rw [hxn, hxd] at tn
      exact ⟨_, _, tn, os ++ [o], h', J', some d, y11, y12, y13, y14, y15, rfl, rfl, hh', by rw [List.length_append, lo]; rfl, by rw [Nat.pow_succ]; exact C', nn'⟩)
  rw [Nat.zero_add, List.length_map, List.length_range] at lo Ck
  refine ⟨x, os, sc, h4, 6 ^ k, aK k, ?_, hh4, Ck, NNk, by omega⟩
  have tp := tup_h (R := T0) (J := J) (h := h4) (ys := os.map encOd)
  have rf : refO [] (.lst h2 :: T0) = .ok (.ref (T0.length + 1)) (.lst h2 :: (T0 ++ [.lst []])) := refO_at _
  have dr : dropO (R.length + 1) (.ok (.tup [encSh x, encOs os, encSc sc]) (.lst h4 :: (T0 ++ .lst (os.map encOd) :: J))) = .ok (.tup [encSh x, encOs os, encSc sc]) (.lst h4 :: R) := by
    have := drop_h (h := h) hh4 hR (.tup [encSh x, encOs os, encSc sc]) (fun k => under_case k x os sc) (DO.lst J1 :: DO.lst (rowsD x0 [] sc x0.dy) :: .lst (os.map encOd) :: J)
    rw [hT0, List.append_assoc]
    exact this
  simp only [m_law_made_case, defD_at]
  rw [startE_at]
  simp only [List.map_cons, List.map_nil, List.length_cons, List.length_nil, Nat.reduceAdd, Nat.reduceSub, List.reduceReplicate, if_true, List.cons_append, List.nil_append]
  have st1 : (mSet 4 (mL m_law_shop (maC (mV 0) (maC (mV 1) (maC (mV 2) (maC (mV 3) maN))))) : MS) [some (.ref 0), some (.int (n : Nat)), some (.int (m : Nat)), some (.int (dy : Nat)), none, none, none, none, none, none, none, none, none, none, none, none, none] (.lst h :: R) = .ok (.nx, [some (.ref 0), some (.int (n : Nat)), some (.int (m : Nat)), some (.int (dy : Nat)), some (encSh x0), none, none, none, none, none, none, none, none, none, none, none, none]) (.lst h1 :: R) := by
    simp [e1]
  have st2 : (mSet 5 (mL m_law_drawn_schedule (maC (mV 0) (maC (mV 4) maN))) : MS) [some (.ref 0), some (.int (n : Nat)), some (.int (m : Nat)), some (.int (dy : Nat)), some (encSh x0), none, none, none, none, none, none, none, none, none, none, none, none] (.lst h1 :: R) = .ok (.nx, [some (.ref 0), some (.int (n : Nat)), some (.int (m : Nat)), some (.int (dy : Nat)), some (encSh x0), some (encSc sc), none, none, none, none, none, none, none, none, none, none, none]) (.lst h2 :: R) := by
    simp [e2]
  have st3 : (mSet 6 (m2 mulO (mL lstO (maC (mL tupO (maC (mC (.int 0)) (maC (mC (.int 1)) maN))) maN)) (mV 1)) : MS) [some (.ref 0), some (.int (n : Nat)), some (.int (m : Nat)), some (.int (dy : Nat)), some (encSh x0), some (encSc sc), none, none, none, none, none, none, none, none, none, none, none] (.lst h2 :: R) = .ok (.nx, [some (.ref 0), some (.int (n : Nat)), some (.int (m : Nat)), some (.int (dy : Nat)), some (encSh x0), some (encSc sc), some (.vl ((vec x0.n fun _ => 0).map enc)), none, none, none, none, none, none, none, none, none, none]) (.lst h2 :: R) := by
    simp [lstO, tupO, mm]
  have st4 : (mFor (mSeqI (mL m_law_led (maC (mV 4) (maC (mL tupO maN) (maC (mV 5) maN))))) (gN 7)
    (mSet 6 (mL m_law_lesser (maC (mV 6) (maC (mV 7) maN)))) : MS) [some (.ref 0), some (.int (n : Nat)), some (.int (m : Nat)), some (.int (dy : Nat)), some (encSh x0), some (encSc sc), some (.vl ((vec x0.n fun _ => 0).map enc)), none, none, none, none, none, none, none, none, none, none] (.lst h2 :: R) = .ok (.nx, [some (.ref 0), some (.int (n : Nat)), some (.int (m : Nat)), some (.int (dy : Nat)), some (encSh x0), some (encSc sc), some (.vl ((vec x0.n LQ).map enc)), y7, none, none, none, none, none, none, none, none, none]) (.lst h2 :: T0) := by
    have t0 : tupO [] (.lst h2 :: R) = .ok (.tup []) (.lst h2 :: R) := rfl
    simp only [mFor_at, mSeqI_at, mL_at, maC_at, maN_at, mV_at, List.getElem?_cons_zero, List.getElem?_cons_succ, maK_ok, maJ_ok, bind_ok, t0, e3', ai, forK_ok, lk]
  have st5 : (mSet 8 (mL tupleO (maC (lcM (mArgI zipO (maC (m2 ixO (mV 4) (mC (.int 2))) (maC (mV 6) maN))) (gT 2 (gsC (gN 13) (gsC (gN 16) gsN))) mYes (mL m_law_less (maC (mV 13) (maC (mV 16) maN))) [13, 16] finV) maN)) : MS) [some (.ref 0), some (.int (n : Nat)), some (.int (m : Nat)), some (.int (dy : Nat)), some (encSh x0), some (encSc sc), some (.vl ((vec x0.n LQ).map enc)), y7, none, none, none, none, none, none, none, none, none] (.lst h2 :: T0) = .ok (.nx, [some (.ref 0), some (.int (n : Nat)), some (.int (m : Nat)), some (.int (dy : Nat)), some (encSh x0), some (encSc sc), some (.vl ((vec x0.n LQ).map enc)), y7, some (.tup (x.st.map enc)), none, none, none, none, none, none, none, none]) (.lst h2 :: T0) := by
    simp only [mSet_at, mL_at, maC_at, maN_at, lcM_at, mArgI_at, m2_at, mC_at, mV_at, List.getElem?_cons_zero, List.getElem?_cons_succ, m2K_ok, m2J_ok, sh2, maK_ok, maJ_ok, bind_ok, zo, lc, tupleO_vl, setK_ok, List.set_cons_succ, List.set_cons_zero]
  have st6 : (mSet 4 (m2 addO (mSl slO (mV 4) moN (moS (mC (.int 2)))) (mL tupO (maC (mV 8) (maC (m2 ixO (mV 4) (mC (.int 3))) maN)))) : MS) [some (.ref 0), some (.int (n : Nat)), some (.int (m : Nat)), some (.int (dy : Nat)), some (encSh x0), some (encSc sc), some (.vl ((vec x0.n LQ).map enc)), y7, some (.tup (x.st.map enc)), none, none, none, none, none, none, none, none] (.lst h2 :: T0) = .ok (.nx, [some (.ref 0), some (.int (n : Nat)), some (.int (m : Nat)), some (.int (dy : Nat)), some (encSh x), some (encSc sc), some (.vl ((vec x0.n LQ).map enc)), y7, some (.tup (x.st.map enc)), none, none, none, none, none, none, none, none]) (.lst h2 :: T0) := by
    have t2 : ∀ a b S, tupO [a, b] S = .ok (.tup [a, b]) S := fun a b S => tupO_le (by simp)
    simp only [mSet_at, m2_at, mSl_at, mL_at, maC_at, maN_at, mC_at, mV_at, List.getElem?_cons_zero, List.getElem?_cons_succ, slK_ok, slJ_ok, slI_ok, moN_at, moS_at, moK_ok, sl2, m2K_ok, m2J_ok, sh3, maK_ok, maJ_ok, bind_ok, t2, ad, setK_ok, List.set_cons_succ, List.set_cons_zero]
  have st7 : (mSet 9 (mL refO maN) : MS) [some (.ref 0), some (.int (n : Nat)), some (.int (m : Nat)), some (.int (dy : Nat)), some (encSh x), some (encSc sc), some (.vl ((vec x0.n LQ).map enc)), y7, some (.tup (x.st.map enc)), none, none, none, none, none, none, none, none] (.lst h2 :: T0) = .ok (.nx, [some (.ref 0), some (.int (n : Nat)), some (.int (m : Nat)), some (.int (dy : Nat)), some (encSh x), some (encSc sc), some (.vl ((vec x0.n LQ).map enc)), y7, some (.tup (x.st.map enc)), some (.ref (T0.length + 1)), none, none, none, none, none, none, none]) (.lst h2 :: (T0 ++ [.lst []])) := by
    simp only [mSet_at, mL_at, maN_at, bind_ok, rf, setK_ok, List.set_cons_succ, List.set_cons_zero]
  have st8 : (mFor (mArgI rng1O (maC (mL m_law_draw (maC (mV 0) (maC (mC (.int 5)) maN))) maN)) (gN 10) mcB : MS) [some (.ref 0), some (.int (n : Nat)), some (.int (m : Nat)), some (.int (dy : Nat)), some (encSh x), some (encSc sc), some (.vl ((vec x0.n LQ).map enc)), y7, some (.tup (x.st.map enc)), some (.ref (T0.length + 1)), none, none, none, none, none, none, none] (.lst h2 :: (T0 ++ [.lst []])) = .ok (.nx, [some (.ref 0), some (.int (n : Nat)), some (.int (m : Nat)), some (.int (dy : Nat)), some (encSh x), some (encSc sc), some (.vl ((vec x0.n LQ).map enc)), y7, some (.tup (x.st.map enc)), some (.ref (T0.length + 1)), z10, z11, z12, z13, z14, z15, none]) (.lst h4 :: (T0 ++ .lst (os.map encOd) :: J)) := by
    simp only [mFor_at, mArgI_at, mL_at, maC_at, maN_at, mC_at, mV_at, List.getElem?_cons_zero, List.getElem?_cons_succ, maK_ok, maJ_ok, bind_ok, e4', rng k (by omega), forK_ok, e5]
  rw [mSeq_at, st1, seqK_nx, mSeq_at, st2, seqK_nx, mSeq_at, st3, seqK_nx, mSeq_at, st4, seqK_nx, mSeq_at, st5, seqK_nx, mSeq_at, st6, seqK_nx, mSeq_at, st7, seqK_nx, mSeq_at, st8, seqK_nx]
  simp only [mRet_at, mL_at, maC_at, maN_at, mV_at, List.getElem?_cons_zero, List.getElem?_cons_succ, maK_ok, maJ_ok, bind_ok, tp, tupO_3, retK_ok, retO_rt, dr]
end K23

namespace K23
open PySem PySem.Spec PyProof.Rows L2 DL FR
theorem sh_tup_of {xs : List D} (hl : xs.length ≤ 40) (h : ∀ d ∈ xs, shD d = true) : shD (.tup xs) = true := by
  rw [shD, decide_eq_true hl, shDs_of h]
  rfl
theorem sh_int {i : Int} (h : i.natAbs < 2 ^ 60) : shD (.int i) = true := by
  rw [shD]
  exact decide_eq_true h
theorem sh_nat {n : Nat} (h : n ≤ 100) : shD (.int (n : Nat)) = true := sh_int (by rw [Int.natAbs_natCast]; exact Nat.lt_of_le_of_lt h (by decide))
theorem sh_enc {q : Rat} (h : Bd 60 q) : shD (enc q) = true := sh_tup_of (by simp) fun d hd => by
  simp only [List.mem_cons, List.not_mem_nil, or_false] at hd
  rcases hd with rfl | rfl
  · exact sh_int h.n
  · exact sh_int (by rw [Int.natAbs_natCast]; exact h.d)
theorem sh_encR {r : List Rat} (h : ∀ q ∈ r, Bd 60 q) (hl : r.length ≤ 40) : shD (encR r) = true := sh_tup_of (by rw [List.length_map]; exact hl) fun d hd => by
  obtain ⟨q, hq, rfl⟩ := List.mem_map.mp hd
  exact sh_enc (h q hq)
theorem repr_bl (b : Bool) (S : DS) : reprO [.bl b] S = .ok (.str (pyD (.bl b)).shown) S := Sz.repr ⟨rfl, by cases b <;> decide, by cases b <;> decide⟩ S
section
variable {e V A : Nat} {x : Shop} {os : List Od} {sc : List (List Rat)} (C : Case e V A x os sc)
include C
theorem Case.shs : shD (encSh x) = true ∧ shD (encOs os) = true ∧ shD (encSc sc) = true := by
  have n1 := C.S.n1
  have d1 := C.S.d1
  have l1 := C.S.l1
  have ol := C.o.l
  have sl := C.c.l
  refine ⟨sh_tup_of (by simp) fun d hd => ?_, sh_tup_of (by rw [List.length_map]; omega) fun d hd => ?_, sh_tup_of (by rw [List.length_map]; omega) fun d hd => ?_⟩
  · simp only [List.mem_cons, List.not_mem_nil, or_false] at hd
    rcases hd with rfl | rfl | rfl | rfl
    · exact sh_nat (by omega)
    · refine sh_tup_of (by rw [List.length_map]; omega) fun d hd => ?_
      obtain ⟨m, hm, rfl⟩ := List.mem_map.mp hd
      have dm := C.S.ms m hm
      have g := dm.g
      have t1 := dm.t1
      refine sh_tup_of (by simp) fun d hd => ?_
      simp only [List.mem_cons, List.not_mem_nil, or_false] at hd
      rcases hd with rfl | rfl | rfl | rfl
      · exact sh_nat (by omega)
      · exact sh_encR (fun q hq => (dm.u q hq).2.bd (by decide) (by decide) (by decide)) (by rw [dm.l]; omega)
      · exact sh_nat (by omega)
      · exact sh_enc (dm.m.2.bd (by decide) (by decide) (by decide))
    · exact sh_encR (fun q hq => (C.good.st q hq).2) (by rw [C.S.sl]; omega)
    · exact sh_nat (by omega)
  · obtain ⟨o, ho, rfl⟩ := List.mem_map.mp hd
    have g := C.o.g o ho
    refine sh_tup_of (by simp) fun d hd => ?_
    simp only [List.mem_cons, List.not_mem_nil, or_false] at hd
    rcases hd with rfl | rfl | rfl
    · exact sh_nat (by omega)
    · exact sh_enc (C.bd (C.N.os o ho) C.N.a1)
    · exact sh_nat (by omega)
  · obtain ⟨r, hr, rfl⟩ := List.mem_map.mp hd
    have q := C.c.r r hr
    exact sh_encR (fun p hp => (q.2.1 p hp).2.bd (by decide) (by decide) (by decide)) (by rw [q.1]; omega)
/-- a bent thing -/
theorem bent_any {h : List D} (hh : Hand h) (R : DS) {d : D} (hs : shD d = true) (hd : dep d ≤ 5) : ∃ y h', m_law_bent [.ref 0, d] (.lst h :: R) = .ok y (.lst h' :: R) ∧ Hand h' ∧ thD y = true := bent_ok hh R d hs (by omega)
noncomputable abbrev juB : MS := (mSeq (mSet 5 (mIf (mT (m2 gtO (mV 4) (mC (.int 0)))) (mL m_law_bent (maC (mV 0) (maC (mV 1) maN))) (mV 1)))
    (mSeq (mIfS (mT (m2 neO (mL reprO (maC (mL m_is_shop (maC (mV 5) maN)) maN)) (mL reprO (maC (mL m_law_is_shop (maC (mV 5) maN)) maN))))
    (mRet (mC (.bl false)))
    mNx)
    (mSeq (mSet 5 (mIf (mT (m2 gtO (mV 4) (mC (.int 0)))) (mL m_law_bent (maC (mV 0) (maC (mV 2) maN))) (mV 2)))
    (mSeq (mIfS (mT (m2 neO (mL reprO (maC (mL m_are_orders (maC (mV 1) (maC (mV 5) maN))) maN)) (mL reprO (maC (mL m_law_are_orders (maC (mV 1) (maC (mV 5) maN))) maN))))
    (mRet (mC (.bl false)))
    mNx)
    (mSeq (mSet 5 (mIf (mT (m2 gtO (mV 4) (mC (.int 0)))) (mL m_law_bent (maC (mV 0) (maC (mV 3) maN))) (mV 3)))
    (mIfS (mT (m2 neO (mL reprO (maC (mL m_is_schedule (maC (mV 1) (maC (mV 5) maN))) maN)) (mL reprO (maC (mL m_law_is_schedule (maC (mV 1) (maC (mV 5) maN))) maN))))
    (mRet (mC (.bl false)))
    mNx))))))
theorem ju_turn {h : List D} (hh : Hand h) (R : DS) (j : Nat) (x4 x5 : Option D) :
    ∃ y5 h', turn (gN 4) juB (.int (j : Nat)) [some (.ref 0), some (encSh x), some (encOs os), some (encSc sc), x4, x5] (.lst h :: R) = .ok (.nx, [some (.ref 0), some (encSh x), some (encOs os), some (encSc sc), some (.int (j : Nat)), y5]) (.lst h' :: R) ∧ Hand h' := by
  obtain ⟨s1, s2, s3⟩ := C.shs
  obtain ⟨z1, z2, z3⟩ := C.parts_sz
  have pick : ∀ (d : D) (k : Nat) (h : List D) (x5 : Option D), Hand h → shD d = true → dep d ≤ 5 → [some (.ref 0), some (encSh x), some (encOs os), some (encSc sc), some (D.int (j : Nat)), x5][k]? = some (some d) →
      ∃ y h', (mSet 5 (mIf (mT (m2 gtO (mV 4) (mC (.int 0)))) (mL m_law_bent (maC (mV 0) (maC (mV k) maN))) (mV k)) : MS) [some (.ref 0), some (encSh x), some (encOs os), some (encSc sc), some (.int (j : Nat)), x5] (.lst h :: R) = .ok (.nx, [some (.ref 0), some (encSh x), some (encOs os), some (encSc sc), some (.int (j : Nat)), some y]) (.lst h' :: R) ∧ Hand h' ∧ thD y = true := by
    intro d k h x5 hh hs hd hk
    have vk : ∀ S, (mV k : ME) [some (.ref 0), some (encSh x), some (encOs os), some (encSc sc), some (D.int (j : Nat)), x5] S = .ok d S := fun S => by
      rw [mV_at, hk]
    by_cases z : 0 < (j : Int)
    · obtain ⟨y, h', e, hh', t⟩ := bent_any C hh R hs hd
      refine ⟨y, h', ?_, hh', t⟩
      simp only [mSet_at, mIf_at, mT_at, m2_at, mV_at (i := 4), mC_at, List.getElem?_cons_zero, List.getElem?_cons_succ, m2K_ok, m2J_ok, cmpO_int, z, decide_true, tK_ok, ifK_ok, if_true, mL_at, maC_at, maN_at, mV_at (i := 0), maK_ok, vk, maJ_ok, bind_ok, e, setK_ok, List.set_cons_succ, List.set_cons_zero]
    · refine ⟨d, h, ?_, hh, th_of_sh hs⟩
      simp only [mSet_at, mIf_at, mT_at, m2_at, mV_at (i := 4), mC_at, List.getElem?_cons_zero, List.getElem?_cons_succ, m2K_ok, m2J_ok, cmpO_int, z, decide_false, tK_ok, ifK_ok, Bool.false_eq_true, if_false, vk, setK_ok, List.set_cons_succ, List.set_cons_zero]
  obtain ⟨y1, h1, st1, hh1, t1⟩ := pick (encSh x) 1 h x5 hh s1 z1.dp rfl
  obtain ⟨y2, h2, st2, hh2, t2⟩ := pick (encOs os) 2 h1 (some y1) hh1 s2 z2.dp rfl
  obtain ⟨y3, h3, st3, hh3, t3⟩ := pick (encSc sc) 3 h2 (some y2) hh2 s3 z3.dp rfl
  refine ⟨some y3, h3, ?_, hh3⟩
  have a1 := shop_any (.lst h1 :: R) y1 t1
  have a2 := lshop_any (.lst h1 :: R) y1 t1
  have b1 := orders_any (.lst h2 :: R) C.good y2 t2
  have b2 := lorders_any (.lst h2 :: R) x y2 t2
  have c1 := sched_any (.lst h3 :: R) C.good y3 t3
  have c2 := lsched_any (.lst h3 :: R) C.S y3 t3
  have f1 : (mIfS (mT (m2 neO (mL reprO (maC (mL m_is_shop (maC (mV 5) maN)) maN)) (mL reprO (maC (mL m_law_is_shop (maC (mV 5) maN)) maN))))
    (mRet (mC (.bl false)))
    mNx : MS) [some (.ref 0), some (encSh x), some (encOs os), some (encSc sc), some (.int (j : Nat)), some y1] (.lst h1 :: R) = .ok (.nx, [some (.ref 0), some (encSh x), some (encOs os), some (encSc sc), some (.int (j : Nat)), some y1]) (.lst h1 :: R) := by
    simp only [mIfS_at, mT_at, m2_at, mL_at, maC_at, maN_at, mV_at, List.getElem?_cons_zero, List.getElem?_cons_succ, maK_ok, maJ_ok, bind_ok, a1, a2, repr_bl, m2K_ok, m2J_ok, neO_str, tK_ok, ifSK_f, mNx_at]
  have f2 : (mIfS (mT (m2 neO (mL reprO (maC (mL m_are_orders (maC (mV 1) (maC (mV 5) maN))) maN)) (mL reprO (maC (mL m_law_are_orders (maC (mV 1) (maC (mV 5) maN))) maN))))
    (mRet (mC (.bl false)))
    mNx : MS) [some (.ref 0), some (encSh x), some (encOs os), some (encSc sc), some (.int (j : Nat)), some y2] (.lst h2 :: R) = .ok (.nx, [some (.ref 0), some (encSh x), some (encOs os), some (encSc sc), some (.int (j : Nat)), some y2]) (.lst h2 :: R) := by
    simp only [mIfS_at, mT_at, m2_at, mL_at, maC_at, maN_at, mV_at, List.getElem?_cons_zero, List.getElem?_cons_succ, maK_ok, maJ_ok, bind_ok, b1, b2, repr_bl, m2K_ok, m2J_ok, neO_str, tK_ok, ifSK_f, mNx_at]
  have f3 : (mIfS (mT (m2 neO (mL reprO (maC (mL m_is_schedule (maC (mV 1) (maC (mV 5) maN))) maN)) (mL reprO (maC (mL m_law_is_schedule (maC (mV 1) (maC (mV 5) maN))) maN))))
    (mRet (mC (.bl false)))
    mNx : MS) [some (.ref 0), some (encSh x), some (encOs os), some (encSc sc), some (.int (j : Nat)), some y3] (.lst h3 :: R) = .ok (.nx, [some (.ref 0), some (encSh x), some (encOs os), some (encSc sc), some (.int (j : Nat)), some y3]) (.lst h3 :: R) := by
    simp only [mIfS_at, mT_at, m2_at, mL_at, maC_at, maN_at, mV_at, List.getElem?_cons_zero, List.getElem?_cons_succ, maK_ok, maJ_ok, bind_ok, c1, c2, repr_bl, m2K_ok, m2J_ok, neO_str, tK_ok, ifSK_f, mNx_at]
  rw [turn_at, gN_at, turnK_ok]
  simp only [List.set_cons_succ, List.set_cons_zero]
  unfold juB
  rw [mSeq_at, st1, seqK_nx, mSeq_at, f1, seqK_nx, mSeq_at, st2, seqK_nx, mSeq_at, f2, seqK_nx, mSeq_at, st3, seqK_nx, f3]
omit C in
theorem rep_len {α : Type} (xs : List α) : ∀ k, (repL xs k).length = xs.length * k
  | 0 => by simp [repL]
  | k + 1 => by
    have := rep_len xs k
    unfold repL at this ⊢
    rw [List.replicate_succ, List.flatten_cons, List.length_append, this, Nat.mul_succ, Nat.add_comm]
omit C in
theorem rep_mem {α : Type} {xs : List α} {y : α} : ∀ {k : Nat}, y ∈ repL xs k → y ∈ xs
  | 0, h => by simp [repL] at h
  | k + 1, h => by
    unfold repL at h
    rw [List.replicate_succ, List.flatten_cons] at h
    rcases List.mem_append.mp h with h | h
    · exact h
    · exact rep_mem (k := k) h
theorem judged_ok (h4 : os.length ≤ 4) {h : List D} (hh : Hand h) (R : DS) : ∃ h', m_law_are_judged [.ref 0, encSh x, encOs os, encSc sc] (.lst h :: R) = .ok (.bl true) (.lst h' :: R) ∧ Hand h' := by
  obtain ⟨env', S', e, ⟨x4, x5, h', rfl, rfl, hh'⟩⟩ := forL_all (it := ⟨(List.range 6).map fun (i : Nat) => D.int (i : Int), none⟩) (mg := gN 4) (p := juB) rfl
    (I := fun _ env S1 => ∃ x4 x5 h, env = [some (.ref 0), some (encSh x), some (encOs os), some (encSc sc), x4, x5] ∧ S1 = .lst h :: R ∧ Hand h)
    ((List.range 6).map fun (i : Nat) => D.int (i : Int)) 0 [some (.ref 0), some (encSh x), some (encOs os), some (encSc sc), none, none] (.lst h :: R) ⟨none, none, h, rfl, rfl, hh⟩ (fun i d hd env S1 hI => by
      obtain ⟨x4, x5, h, rfl, rfl, hh⟩ := hI
      obtain ⟨j, _, rfl⟩ := List.mem_map.mp (List.mem_of_getElem? hd)
      obtain ⟨y5, h', e, hh'⟩ := ju_turn C hh R j x4 x5
      exact ⟨_, _, e, _, _, h', rfl, rfl, hh'⟩)
  refine ⟨h', ?_, hh'⟩
  have r6 : ∀ S, rng1O [.int 6] S = .ok ⟨(List.range 6).map fun (i : Nat) => D.int (i : Int), none⟩ S := fun S => rng 6 (by decide) S
  have lo : ∀ S, lenO [encOs os] S = .ok (.int (os.length : Nat)) S := fun S => by rw [lenO_tup, List.length_map]
  simp only [m_law_are_judged, defM_at]
  rw [startE_at]
  simp only [List.map_cons, List.map_nil, List.length_cons, List.length_nil, Nat.reduceAdd, Nat.reduceSub, List.reduceReplicate, if_true, List.cons_append, List.nil_append]
  have st : (mFor (mArgI rng1O (maC (mC (.int 6)) maN)) (gN 4) juB : MS) [some (.ref 0), some (encSh x), some (encOs os), some (encSc sc), none, none] (.lst h :: R) = .ok (.nx, [some (.ref 0), some (encSh x), some (encOs os), some (encSc sc), x4, x5]) (.lst h' :: R) := by
    simp only [mFor_at, mArgI_at, maC_at, mC_at, maN_at, maK_ok, maJ_ok, bind_ok, r6, forK_ok, e]
  rw [mSeq_at, st, seqK_nx]
  by_cases z : os = []
  · subst z
    have b1 := orders_any (.lst h' :: R) C.good (.tup []) rfl
    have t0 : tupO [] (.lst h' :: R) = .ok (.tup []) (.lst h' :: R) := rfl
    have l0 : ∀ S, lenO [encOs []] S = .ok (.int 0) S := fun S => rfl
    have i0 : isOsD x (.tup []) = true := rfl
    rw [i0] at b1
    simp only [mRet_at, m2_at, mL_at, maC_at, maN_at, mV_at, mC_at, mIf_at, mT_at, List.getElem?_cons_zero, List.getElem?_cons_succ, maK_ok, maJ_ok, bind_ok, l0, m2K_ok, m2J_ok, cmpO_int, Int.lt_irrefl, decide_false, tK_ok, ifK_ok, Bool.false_eq_true, if_false, t0, b1, repr_bl, eqO_int, decide_true, eqO_str, retK_ok, retO_rt]
  · have hp : 0 < os.length := List.length_pos_iff.mpr z
    have hp2 : (0 : Int) < (os.length : Int) := by omega
    have hp3 : ¬ (os.length : Int) = 0 := by omega
    have hne : os.map encOd ≠ [] := fun h => z (List.map_eq_nil_iff.mp h)
    have e13 : mulO (encOs os) (.int 13) (.lst h' :: R) = .ok (.tup (repL (os.map encOd) 13)) (.lst h' :: R) := by
      have e : mulO (encOs os) (.int 13) (.lst h' :: R) = if os.map encOd ≠ [] ∧ (2 : Int) ≤ 13 ∧ (13 : Int) ≤ 1000 ∧ (os.map encOd).length ≤ 1000 then .ok (.tup (repL (os.map encOd) (13 : Int).toNat)) (.lst h' :: R) else .no := rfl
      rw [e, if_pos ⟨hne, by decide, by decide, by rw [List.length_map]; omega⟩]
      rfl
    have th : thD (.tup (repL (os.map encOd) 13)) = true := th_tup_of (by rw [rep_len, List.length_map]; omega) fun d hd => (th_tup C.th_os).2 d (rep_mem hd)
    have b1 := orders_any (.lst h' :: R) C.good (.tup (repL (os.map encOd) 13)) th
    have i0 : isOsD x (.tup (repL (os.map encOd) 13)) = false := by
      show (decide (((repL (os.map encOd) 13).length : Int) ≤ 12) && _) = false
      rw [rep_len, List.length_map, decide_eq_false (by omega), Bool.false_and]
    rw [i0] at b1
    simp only [mRet_at, m2_at, mL_at, maC_at, maN_at, mV_at, mC_at, mIf_at, mT_at, List.getElem?_cons_zero, List.getElem?_cons_succ, maK_ok, maJ_ok, bind_ok, lo, m2K_ok, m2J_ok, cmpO_int, hp2, decide_true, tK_ok, ifK_ok, if_true, e13, b1, repr_bl, eqO_int, hp3, decide_false, eqO_str, retK_ok, retO_rt]
end
end K23

namespace K23
open PySem PySem.Spec PyProof.Rows L2 DL FR
theorem cut_lo (xs : List D) (i : Nat) : DL.cutD xs none (some (i : Int)) = xs.take i := by
  unfold DL.cutD
  rw [HT.sIx_none, HT.sIx_nat, List.drop_zero, Nat.sub_zero]
  by_cases h : i ≤ xs.length
  · rw [Nat.min_eq_left h]
  · rw [Nat.min_eq_right (by omega), List.take_of_length_le (Nat.le_refl _), List.take_of_length_le (by omega)]
theorem hand_ok (ns : List Int) (hl : ns.length ≤ 63) : ∃ h, m_law_hand [.fz (ns.map D.int)] [] = .ok (.ref 0) [.lst h] ∧ Hand h := by
  have cut : ∀ S, slO (.fz (ns.map D.int)) none (some 63) S = .ok (.vl (ns.map D.int)) S := fun S => by
    show Ou.ok (D.vl (DL.cutD (ns.map D.int) none (some ((63 : Nat) : Int)))) S = _
    rw [cut_lo, List.take_of_length_le (by rw [List.length_map]; exact hl)]
  have ab : ∀ (i : Int) S, absO [.int i] S = .ok (.int (i.natAbs : Int)) S := fun i S => by
    show Ou.ok (D.int (if i < 0 then -i else i)) S = _
    have : (if i < 0 then -i else i) = (i.natAbs : Int) := by split <;> omega
    rw [this]
  have hc : hnd (ns.map fun i => (i.natAbs : Int)) 0 0 (83 + 5 * (ns.length : Int)) 0 = [.vl (ns.map fun i => D.int (i.natAbs : Int)), .int 0, .int 0, .int (83 + 5 * (ns.length : Int)), .int 0] := by
    unfold hnd
    rw [List.map_map]
    rfl
  refine ⟨hnd (ns.map fun i => (i.natAbs : Int)) 0 0 (83 + 5 * (ns.length : Int)) 0, ?_, .mk _ _ _ _ _ (by
    intro x hx
    obtain ⟨i, _, rfl⟩ := List.mem_map.mp hx
    omega) (by omega) (by omega)⟩
  rw [hc]
  simp only [m_law_hand, defM_at]
  rw [startE_at]
  simp only [List.map_cons, List.map_nil, List.length_cons, List.length_nil, Nat.reduceAdd, Nat.reduceSub, List.reduceReplicate, if_true, List.cons_append, List.nil_append]
  have a : mSeqI (mSl slO (mV 0) moN (moS (mC (.int 63)))) [some (.fz (ns.map D.int)), none, none] [] = .ok ⟨ns.map D.int, none⟩ [] := by
    simp [cut]
  have m5 : ∀ S, mulO (.int 5) (.int (ns.length : Int)) S = .ok (.int (5 * (ns.length : Int))) S := fun S => mulO_l _ _ _ (by decide)
  rw [mSeq_at, mSet_at, lcM_at, a, lcK_F D.int (fun i => D.int (i.natAbs : Int)) ns (Nat.le_trans hl (by decide)) ?_, finV_at, setK_ok, seqK_nx]
  · simp [lenO_vl, m5, refO]
  · intro i hi
    simp [wipeE, intO_int, ab]

/-! the known shop -/
def shp : Shop := ⟨2, [⟨1, [mkRat 4 2, mkRat 0 2], 1, mkRat 36 12⟩], [mkRat 48 12, mkRat 0 12], 2⟩
def od0s : List Od := [⟨1, mkRat 30 12, 1⟩]
theorem shp_ok : Sh shp := by
  refine ⟨by decide, by decide, by decide, by decide, by decide, by decide, ?_, rfl⟩
  intro m hm
  rw [List.mem_singleton.mp (show m ∈ [(⟨1, [mkRat 4 2, mkRat 0 2], 1, mkRat 36 12⟩ : Mk)] from hm)]
  refine ⟨by decide, rfl, ?_, by decide, by decide, mkRat_nn 36 12, 36, by decide, rfl⟩
  intro q hq
  simp only [List.mem_cons, List.not_mem_nil, or_false] at hq
  rcases hq with rfl | rfl
  · exact ⟨mkRat_nn 4 2, 4, by decide, rfl⟩
  · exact ⟨mkRat_nn 0 2, 0, by decide, rfl⟩
theorem sc0_ok (a b : Nat) (ha : a ≤ 216) (hb : b ≤ 216) : Sc shp [[mkRat a 72], [mkRat b 72]] := by
  have one : ∀ a : Nat, a ≤ 216 → Po 72 10 (mkRat (a : Nat) 72) ∧ mkRat (a : Nat) 72 ≤ mkRat 36 12 := fun a ha => by
    refine ⟨⟨mkRat_nn a 72, (a : Int), by omega, rfl⟩, ?_⟩
    have e : mkRat 36 12 = mkRat (216 : Int) 72 := by decide +kernel
    rw [e]
    have := mkRat_nn (216 - a) 72
    have e2 : mkRat (216 : Int) 72 = mkRat (a : Nat) 72 + mkRat ((216 - a : Nat) : Int) 72 := by
      rw [Rat.mkRat_add_mkRat _ _ (by decide) (by decide), ← Int.add_mul, mk_mul (by decide)]
      congr 1
      omega
    rw [e2]
    grind
  refine ⟨rfl, ?_⟩
  intro r hr
  simp only [List.mem_cons, List.not_mem_nil, or_false] at hr
  rcases hr with rfl | rfl
  · refine ⟨rfl, fun q hq => ?_, fun j m q hm hq => ?_⟩
    · rw [List.mem_singleton.mp hq]; exact (one a ha).1
    · have h1 := List.mem_of_getElem? hm
      have h2 := List.mem_of_getElem? hq
      rw [List.mem_singleton.mp h2, List.mem_singleton.mp (show m ∈ [(⟨1, [mkRat 4 2, mkRat 0 2], 1, mkRat 36 12⟩ : Mk)] from h1)]
      exact (one a ha).2
  · refine ⟨rfl, fun q hq => ?_, fun j m q hm hq => ?_⟩
    · rw [List.mem_singleton.mp hq]; exact (one b hb).1
    · have h1 := List.mem_of_getElem? hm
      have h2 := List.mem_of_getElem? hq
      rw [List.mem_singleton.mp h2, List.mem_singleton.mp (show m ∈ [(⟨1, [mkRat 4 2, mkRat 0 2], 1, mkRat 36 12⟩ : Mk)] from h1)]
      exact (one b hb).2
theorem case0 (os : List Od) (ho : ∀ o ∈ os, o.g < 2 ∧ o.w < 2 ∧ Po 12 10 o.a) (hl : os.length ≤ 12) (a b : Nat) (ha : a ≤ 216) (hb : b ≤ 216) : Case 1 12 10 shp os [[mkRat a 72], [mkRat b 72]] := by
  have st : ∀ q ∈ shp.st, Po 12 12 q := fun q hq => by
    simp only [shp, List.mem_cons, List.not_mem_nil, or_false] at hq
    rcases hq with rfl | rfl
    · exact ⟨mkRat_nn 48 12, 48, by decide, rfl⟩
    · exact ⟨mkRat_nn 0 12, 0, by decide, rfl⟩
  exact ⟨⟨by decide, by decide, by decide, by decide, fun q hq => (st q hq).2.lift (k := 12) (by decide), fun o hoo => (ho o hoo).2.2.2.lift (k := 12) (by decide)⟩, shp_ok, fun q hq => (st q hq).1, ⟨hl, fun o hoo => ⟨(ho o hoo).1, (ho o hoo).2.1, (ho o hoo).2.2.1⟩⟩, sc0_ok a b ha hb⟩
theorem neO_ref {xs : List D} {p : Nat} {S : DS} (hS : S[p]? = some (.lst xs)) {k : Nat} (hk : 0 < k) (h : okD k (.vl xs) = true) (hd : dep (.vl xs) ≤ 64) : neO (.ref p) (.vl xs) S = .ok (.bl false) S := by
  have e1 : eqB (.ref p) (.vl xs) = none := rfl
  have e2 : eqS S (.ref p) (.vl xs) = some true := by
    have e := eqP_self hk h hd
    unfold eqP at e
    unfold eqS
    have t1 : toPyS S (.ref p) = toPy (.vl xs) := by
      show (match S[p]? with
        | some (DO.lst xs) => (toPys xs).map PyData.list
        | none => none) = _
      rw [hS]
      rfl
    have t2 : toPyS S (.vl xs) = toPy (.vl xs) := rfl
    rw [t1, t2]
    exact e
  unfold neO
  rw [e1, e2]
  rfl
theorem rows1 : rowsQ shp od0s [[mkRat (216 : Nat) 72], [mkRat (0 : Nat) 72]] = [[mkRat (-2) 1, 0], [mkRat (-2) 1, mkRat 1 2]] := by decide +kernel
theorem rows2 : rowsQ shp [] [[mkRat (180 : Nat) 72], [mkRat (0 : Nat) 72]] = [[mkRat (-1) 1, 0], [mkRat (-1) 1, mkRat 5 2]] := by decide +kernel
theorem rows3 : rowsQ shp [] [[mkRat (144 : Nat) 72], [mkRat (0 : Nat) 72]] = [[0, 0], [0, 2]] := by decide +kernel
theorem lack2 : lackOf shp [] [[mkRat (180 : Nat) 72], [mkRat (0 : Nat) 72]] = .tup [.int 0, .int 0, .tup [.int 1, .int 1]] := by
  unfold lackOf
  rw [rows2]
  rfl
theorem lack3 : lackOf shp [] [[mkRat (144 : Nat) 72], [mkRat (0 : Nat) 72]] = .non := by
  unfold lackOf
  rw [rows3]
  rfl
/-! a turn -/
noncomputable abbrev lawB : MS := (mSeq (mPar3 4 5 6 (maC (m2 addO (mC (.int 1)) (mL m_law_draw (maC (mV 1) (maC (mC (.int 4)) maN)))) (maC (m2 addO (mC (.int 1)) (mL m_law_draw (maC (mV 1) (maC (mC (.int 6)) maN)))) (maC (m2 addO (mC (.int 1)) (mL m_law_draw (maC (mV 1) (maC (mC (.int 7)) maN)))) maN))))
    (mSeq (mAsg (gT 3 (gsC (gN 2) (gsC (gN 7) (gsC (gN 8) gsN)))) (mL m_law_made_case (maC (mV 1) (maC (mV 4) (maC (mV 5) (maC (mV 6) maN))))))
    (mSeq (mIfS (mOr (mNot (mT (mL m_law_is_led (maC (mV 2) (maC (mV 7) (maC (mV 8) maN)))))) (mT (m2 isnO (mL m_first_lack (maC (mV 2) (maC (mV 7) (maC (mV 8) maN)))) (mC .non))))
    (mRet (mC (.bl false)))
    mNx)
    (mSeq (mIfS (mNot (mT (mL m_law_is_led (maC (mV 2) (maC (mL m_law_orders (maC (mV 1) (maC (mV 2) (maC (mL m_law_draw (maC (mV 1) (maC (mC (.int 13)) maN))) (maC (mC (.int 5)) maN))))) (maC (mL m_law_drawn_schedule (maC (mV 1) (maC (mV 2) maN))) maN))))))
    (mRet (mC (.bl false)))
    mNx)
    (mIfS (mNot (mT (mL m_law_are_judged (maC (mV 1) (maC (mV 2) (maC (mV 7) (maC (mV 8) maN)))))))
    (mRet (mC (.bl false)))
    mNx)))))
theorem NN_lack {x : Shop} {os : List Od} {sc : List (List Rat)} (h : NN x os sc) : lackOf x os sc = .non := by
  unfold lackOf
  have rowN : ∀ (d : Nat) (l : List Rat) (k : Nat), (∀ q ∈ l, 0 ≤ q) → lackRow d k l = none := fun d l => by
    induction l with
    | nil => exact fun k _ => rfl
    | cons q l ih =>
      intro k hq
      have h0 := Rat.num_nonneg.mpr (hq q (List.mem_cons_self ..))
      rw [lackRow, if_neg (by omega)]
      exact ih (k + 1) fun p hp => hq p (List.mem_cons_of_mem _ hp)
  have rowsN : ∀ (rs : List (List Rat)) (d : Nat), (∀ r ∈ rs, ∀ q ∈ r, 0 ≤ q) → lackRows d rs = none := fun rs => by
    induction rs with
    | nil => exact fun d _ => rfl
    | cons r rs ih =>
      intro d hr
      rw [lackRows, rowN d r 0 (hr r (List.mem_cons_self ..))]
      exact ih (d + 1) fun p hp => hr p (List.mem_cons_of_mem _ hp)
  rw [rowsN]
  · rfl
  · intro r hr q hq
    obtain ⟨d, hd, rfl⟩ := List.mem_map.mp hr
    obtain ⟨i, hi, rfl⟩ := vec_mem hq
    exact h d (by simpa using hd) i hi
theorem law_turn (sc0 d : D) (x2 x4 x5 x6 x7 x8 x3 : Option D) {h : List D} (hh : Hand h) {R : DS} (hR : Cl R) :
    ∃ y2 y4 y5 y6 y7 y8 h', turn (gN 3) lawB d [some sc0, some (.ref 0), x2, x3, x4, x5, x6, x7, x8] (.lst h :: R) = .ok (.nx, [some sc0, some (.ref 0), y2, some d, y4, y5, y6, y7, y8]) (.lst h' :: R) ∧ Hand h' := by
  obtain ⟨g, h1, e1, hh1, g1⟩ := draw_nat hh R 4 (by decide) (by decide)
  obtain ⟨m, h2, e2, hh2, m1⟩ := draw_nat hh1 R 6 (by decide) (by decide)
  obtain ⟨w, h3, e3, hh3, w1⟩ := draw_nat hh2 R 7 (by decide) (by decide)
  have e1' : m_law_draw [.ref 0, .int 4] (.lst h :: R) = _ := e1
  have e2' : m_law_draw [.ref 0, .int 6] (.lst h1 :: R) = _ := e2
  have e3' : m_law_draw [.ref 0, .int 7] (.lst h2 :: R) = _ := e3
  obtain ⟨G, hG⟩ : ∃ G, G = 1 + g := ⟨_, rfl⟩
  obtain ⟨M, hM⟩ : ∃ M, M = 1 + m := ⟨_, rfl⟩
  obtain ⟨W, hW⟩ : ∃ W, W = 1 + w := ⟨_, rfl⟩
  obtain ⟨x, os, sc, h4, e, A, e4, hh4, C, nn, ol⟩ := made_ok hh3 hR G M W (by omega) (by omega) (by omega) (by omega) (by omega) (by omega)
  have c4 := hand_cl hh4 hR
  have l4 := C.is_led_ok c4
  have f4 := C.first_lack_ok c4
  rw [NN_lack nn] at f4
  obtain ⟨k, h5, e5, hh5, k5⟩ := draw_nat hh4 R 13 (by decide) (by decide)
  have e5' : m_law_draw [.ref 0, .int 13] (.lst h4 :: R) = _ := e5
  obtain ⟨os2, h6, e6, hh6, o6, p6⟩ := orders_ok hh5 hR C.S k (by omega)
  obtain ⟨sc2, h7, e7, hh7, s7⟩ := sched_ok hh6 hR C.S
  have e0 := C.N.e0
  have C2 : Case e 1284 10 x os2 sc2 := ⟨⟨C.N.e0, C.N.e1, C.N.v1, by decide, C.N.st, fun o ho => by
    have := (p6 o ho).2.lift (k := 12 * e) (by omega)
    rwa [show 12 * (12 * e) = 144 * e by omega] at this⟩, C.S, C.st, o6, s7⟩
  have l7 := C2.is_led_ok (hand_cl hh7 hR)
  obtain ⟨h8, e8, hh8⟩ := judged_ok C ol hh7 R
  have ig : (1 + (g : Int)) = ((G : Nat) : Int) := by omega
  have im : (1 + (m : Int)) = ((M : Nat) : Int) := by omega
  have iw : (1 + (w : Int)) = ((W : Nat) : Int) := by omega
  have st1 : ((mPar3 4 5 6 (maC (m2 addO (mC (.int 1)) (mL m_law_draw (maC (mV 1) (maC (mC (.int 4)) maN)))) (maC (m2 addO (mC (.int 1)) (mL m_law_draw (maC (mV 1) (maC (mC (.int 6)) maN)))) (maC (m2 addO (mC (.int 1)) (mL m_law_draw (maC (mV 1) (maC (mC (.int 7)) maN)))) maN)))) : MS) [some sc0, some (.ref 0), x2, some d, x4, x5, x6, x7, x8] (.lst h :: R) = .ok (.nx, [some sc0, some (.ref 0), x2, some d, some (.int (G : Nat)), some (.int (M : Nat)), some (.int (W : Nat)), x7, x8]) (.lst h3 :: R) := by
    simp only [mPar3_at, maC_at, maN_at, m2_at, mC_at, mL_at, mV_at, List.getElem?_cons_zero, List.getElem?_cons_succ, maK_ok, maJ_ok, bind_ok, e1', e2', e3', m2K_ok, m2J_ok, addO_int, ig, im, iw, par3K_ok, List.set_cons_zero, List.set_cons_succ]
  have st2 : ((mAsg (gT 3 (gsC (gN 2) (gsC (gN 7) (gsC (gN 8) gsN)))) (mL m_law_made_case (maC (mV 1) (maC (mV 4) (maC (mV 5) (maC (mV 6) maN)))))) : MS) [some sc0, some (.ref 0), x2, some d, some (.int (G : Nat)), some (.int (M : Nat)), some (.int (W : Nat)), x7, x8] (.lst h3 :: R) = .ok (.nx, [some sc0, some (.ref 0), some (encSh x), some d, some (.int (G : Nat)), some (.int (M : Nat)), some (.int (W : Nat)), some (encOs os), some (encSc sc)]) (.lst h4 :: R) := by
    simp [e4]
  have ib : ∀ S, isnO .non .non S = .ok (.bl false) S := fun S => rfl
  have st3 : ((mIfS (mOr (mNot (mT (mL m_law_is_led (maC (mV 2) (maC (mV 7) (maC (mV 8) maN)))))) (mT (m2 isnO (mL m_first_lack (maC (mV 2) (maC (mV 7) (maC (mV 8) maN)))) (mC .non))))
    (mRet (mC (.bl false)))
    mNx) : MS) [some sc0, some (.ref 0), some (encSh x), some d, some (.int (G : Nat)), some (.int (M : Nat)), some (.int (W : Nat)), some (encOs os), some (encSc sc)] (.lst h4 :: R) = .ok (.nx, [some sc0, some (.ref 0), some (encSh x), some d, some (.int (G : Nat)), some (.int (M : Nat)), some (.int (W : Nat)), some (encOs os), some (encSc sc)]) (.lst h4 :: R) := by
    simp only [mIfS_at, mOr_at, mNot_at, mT_at, m2_at, mL_at, maC_at, maN_at, mC_at, mV_at, List.getElem?_cons_zero, List.getElem?_cons_succ, maK_ok, maJ_ok, bind_ok, l4, tK_ok, notK_ok, Bool.not_true, orK_ok, Bool.false_eq_true, if_false, f4, m2K_ok, m2J_ok, ib, ifSK_f, mNx_at]
  have st4 : ((mIfS (mNot (mT (mL m_law_is_led (maC (mV 2) (maC (mL m_law_orders (maC (mV 1) (maC (mV 2) (maC (mL m_law_draw (maC (mV 1) (maC (mC (.int 13)) maN))) (maC (mC (.int 5)) maN))))) (maC (mL m_law_drawn_schedule (maC (mV 1) (maC (mV 2) maN))) maN))))))
    (mRet (mC (.bl false)))
    mNx) : MS) [some sc0, some (.ref 0), some (encSh x), some d, some (.int (G : Nat)), some (.int (M : Nat)), some (.int (W : Nat)), some (encOs os), some (encSc sc)] (.lst h4 :: R) = .ok (.nx, [some sc0, some (.ref 0), some (encSh x), some d, some (.int (G : Nat)), some (.int (M : Nat)), some (.int (W : Nat)), some (encOs os), some (encSc sc)]) (.lst h7 :: R) := by
    simp only [mIfS_at, mNot_at, mT_at, mL_at, maC_at, maN_at, mC_at, mV_at, List.getElem?_cons_zero, List.getElem?_cons_succ, maK_ok, maJ_ok, bind_ok, e5', e6, e7, l7, tK_ok, notK_ok, Bool.not_true, ifSK_f, mNx_at]
  have st5 : ((mIfS (mNot (mT (mL m_law_are_judged (maC (mV 1) (maC (mV 2) (maC (mV 7) (maC (mV 8) maN)))))))
    (mRet (mC (.bl false)))
    mNx) : MS) [some sc0, some (.ref 0), some (encSh x), some d, some (.int (G : Nat)), some (.int (M : Nat)), some (.int (W : Nat)), some (encOs os), some (encSc sc)] (.lst h7 :: R) = .ok (.nx, [some sc0, some (.ref 0), some (encSh x), some d, some (.int (G : Nat)), some (.int (M : Nat)), some (.int (W : Nat)), some (encOs os), some (encSc sc)]) (.lst h8 :: R) := by
    simp only [mIfS_at, mNot_at, mT_at, mL_at, maC_at, maN_at, mC_at, mV_at, List.getElem?_cons_zero, List.getElem?_cons_succ, maK_ok, maJ_ok, bind_ok, e8, tK_ok, notK_ok, Bool.not_true, ifSK_f, mNx_at]
  refine ⟨some (encSh x), some (.int (G : Nat)), some (.int (M : Nat)), some (.int (W : Nat)), some (encOs os), some (encSc sc), h8, ?_, hh8⟩
  rw [turn_at, gN_at, turnK_ok]
  simp only [List.set_cons_succ, List.set_cons_zero]
  unfold lawB
  rw [mSeq_at, st1, seqK_nx, mSeq_at, st2, seqK_nx, mSeq_at, st3, seqK_nx, mSeq_at, st4, seqK_nx, st5]
theorem law_true (ns : List Int) (hl : ns.length ≤ 63) : ∃ S', m_law [.fz (ns.map D.int)] [] = .ok (.bl true) S' := by
  obtain ⟨h, e1, hh⟩ := hand_ok ns hl
  have C1 := case0 od0s (fun o ho => by
    rw [List.mem_singleton.mp ho]
    exact ⟨by decide, by decide, mkRat_nn 30 12, 30, by decide, rfl⟩) (by decide) 216 0 (by decide) (by decide)
  have C2 := case0 [] (fun o ho => by simp at ho) (by decide) 180 0 (by decide) (by decide)
  have C3 := case0 [] (fun o ho => by simp at ho) (by decide) 144 0 (by decide) (by decide)
  obtain ⟨J, cJ, e2⟩ := C1.led_shop [.lst h]
  have rw1 : rowsD shp od0s [[mkRat (216 : Nat) 72], [mkRat (0 : Nat) 72]] shp.dy = [.tup [.tup [.int (-2), .int 1], .tup [.int 0, .int 1]], .tup [.tup [.int (-2), .int 1], .tup [.int 1, .int 2]]] := by
    rw [rowsQ_D, rows1]
    rfl
  rw [rw1] at e2
  obtain ⟨R, hR⟩ : ∃ R : DS, R = .lst [.tup [.tup [.int (-2), .int 1], .tup [.int 0, .int 1]], .tup [.tup [.int (-2), .int 1], .tup [.int 1, .int 2]]] :: J := ⟨_, rfl⟩
  have e2' : m_led_shop [encSh shp, encOs od0s, encSc [[mkRat (216 : Nat) 72], [mkRat (0 : Nat) 72]]] [.lst h] = .ok (.ref 1) (.lst h :: R) := by rw [hR]; exact e2
  have cR : Cl R := by rw [hR]; exact cl_cons (fun n => rfl) cJ
  have gR : (DO.lst h :: R)[1]? = some (.lst [.tup [.tup [.int (-2), .int 1], .tup [.int 0, .int 1]], .tup [.tup [.int (-2), .int 1], .tup [.int 1, .int 2]]]) := by rw [hR]; rfl
  have n1 := neO_ref gR (k := 31) (by decide) (by decide) (by decide)
  have f2 := C2.first_lack_ok (hand_cl hh cR)
  rw [lack2] at f2
  have f3 := C3.first_lack_ok (hand_cl hh cR)
  rw [lack3] at f3
  have n2 : neO (.tup [.int 0, .int 0, .tup [.int 1, .int 1]]) (.tup [.int 0, .int 0, .tup [.int 1, .int 1]]) (.lst h :: R) = .ok (.bl false) (.lst h :: R) := neO_self (k := 31) (by decide) (by decide) (by decide)
  have q1 : encSh shp = .tup [.int 2, .tup [.tup [.int 1, .tup [.tup [.int 2, .int 1], .tup [.int 0, .int 1]], .int 1, .tup [.int 3, .int 1]]], .tup [.tup [.int 4, .int 1], .tup [.int 0, .int 1]], .int 2] := rfl
  have q2 : encOs od0s = .tup [.tup [.int 1, .tup [.int 5, .int 2], .int 1]] := rfl
  have q3 : encSc [[mkRat (216 : Nat) 72], [mkRat (0 : Nat) 72]] = .tup [.tup [.tup [.int 3, .int 1]], .tup [.tup [.int 0, .int 1]]] := rfl
  have q4 : encSc [[mkRat (180 : Nat) 72], [mkRat (0 : Nat) 72]] = .tup [.tup [.tup [.int 5, .int 2]], .tup [.tup [.int 0, .int 1]]] := rfl
  have q5 : encSc [[mkRat (144 : Nat) 72], [mkRat (0 : Nat) 72]] = .tup [.tup [.tup [.int 2, .int 1]], .tup [.tup [.int 0, .int 1]]] := rfl
  rw [q1, q2, q3] at e2'
  rw [q1, q4, show encOs [] = .tup [] from rfl] at f2
  rw [q1, q5, show encOs [] = .tup [] from rfl] at f3
  generalize hsd : D.tup [.int 2, .tup [.tup [.int 1, .tup [.tup [.int 2, .int 1], .tup [.int 0, .int 1]], .int 1, .tup [.int 3, .int 1]]], .tup [.tup [.int 4, .int 1], .tup [.int 0, .int 1]], .int 2] = sd at e2' f2 f3
  obtain ⟨env', S', e, ⟨h', y2, y3, y4, y5, y6, y7, y8, hh', rfl, rfl⟩⟩ := forL_all (it := ⟨(List.range 5).map fun (i : Nat) => D.int (i : Int), none⟩) (mg := gN 3) (p := lawB) rfl
    (I := fun _ env S => ∃ h x2 x3 x4 x5 x6 x7 x8, Hand h ∧ env = [some (.fz (ns.map D.int)), some (.ref 0), x2, x3, x4, x5, x6, x7, x8] ∧ S = .lst h :: R)
    ((List.range 5).map fun (i : Nat) => D.int (i : Int)) 0 [some (.fz (ns.map D.int)), some (.ref 0), some sd, none, none, none, none, none, none] (.lst h :: R) ⟨h, some sd, none, none, none, none, none, none, hh, rfl, rfl⟩ (fun i d hd env S hI => by
      obtain ⟨h, x2, x3, x4, x5, x6, x7, x8, hh, rfl, rfl⟩ := hI
      obtain ⟨y2, y4, y5, y6, y7, y8, h', e, hh'⟩ := law_turn (.fz (ns.map D.int)) d x2 x4 x5 x6 x7 x8 x3 hh cR
      exact ⟨_, _, e, h', _, _, _, _, _, _, _, hh', rfl, rfl⟩)
  refine ⟨.lst h' :: R, ?_⟩
  have r5 : rng1O [.int 5] (.lst h :: R) = .ok ⟨(List.range 5).map fun (i : Nat) => D.int (i : Int), none⟩ (.lst h :: R) := rfl
  have t1 : ∀ (x : D) S, tupO [x] S = .ok (.tup [x]) S := fun x S => tupO_le (by simp)
  have t2 : ∀ (x y : D) S, tupO [x, y] S = .ok (.tup [x, y]) S := fun x y S => tupO_le (by simp)
  have t3 : ∀ (x y z : D) S, tupO [x, y, z] S = .ok (.tup [x, y, z]) S := fun x y z S => tupO_le (by simp)
  have t4 : ∀ (x y z u : D) S, tupO [x, y, z, u] S = .ok (.tup [x, y, z, u]) S := fun x y z u S => tupO_le (by simp)
  have t0 : ∀ S, tupO [] S = .ok (.tup []) S := fun S => rfl
  have l2 : ∀ (x y : D) S, lstO [x, y] S = .ok (.vl [x, y]) S := fun x y S => lstO_le (by simp)
  have ng : ∀ S, negO (.int 2) S = .ok (.int (-2)) S := fun S => rfl
  have ib : ∀ S, isnO .non .non S = .ok (.bl false) S := fun S => rfl
  simp only [m_law, defM_at]
  rw [startE_at]
  simp only [List.map_cons, List.map_nil, List.length_cons, List.length_nil, Nat.reduceAdd, Nat.reduceSub, List.reduceReplicate, if_true, List.cons_append, List.nil_append]
  have s1 : (mSet 1 (mL m_law_hand (maC (mV 0) maN)) : MS) [some (.fz (ns.map D.int)), none, none, none, none, none, none, none, none] [] = .ok (.nx, [some (.fz (ns.map D.int)), some (.ref 0), none, none, none, none, none, none, none]) [.lst h] := by
    simp only [mSet_at, mL_at, maC_at, maN_at, mV_at, List.getElem?_cons_zero, maK_ok, maJ_ok, bind_ok, e1, setK_ok, List.set_cons_succ, List.set_cons_zero]
  have s2 : ((mSet 2 (mL tupO (maC (mC (.int 2)) (maC (mL tupO (maC (mL tupO (maC (mC (.int 1)) (maC (mL tupO (maC (mL tupO (maC (mC (.int 2)) (maC (mC (.int 1)) maN))) (maC (mL tupO (maC (mC (.int 0)) (maC (mC (.int 1)) maN))) maN))) (maC (mC (.int 1)) (maC (mL tupO (maC (mC (.int 3)) (maC (mC (.int 1)) maN))) maN))))) maN)) (maC (mL tupO (maC (mL tupO (maC (mC (.int 4)) (maC (mC (.int 1)) maN))) (maC (mL tupO (maC (mC (.int 0)) (maC (mC (.int 1)) maN))) maN))) (maC (mC (.int 2)) maN)))))) : MS) [some (.fz (ns.map D.int)), some (.ref 0), none, none, none, none, none, none, none] [.lst h] = .ok (.nx, [some (.fz (ns.map D.int)), some (.ref 0), some sd, none, none, none, none, none, none]) [.lst h] := by
    rw [← hsd]
    simp only [mSet_at, mL_at, maC_at, maN_at, mC_at, maK_ok, maJ_ok, bind_ok, t1, t2, t3, t4, setK_ok, List.set_cons_succ, List.set_cons_zero]
  have s3 : ((mIfS (mT (m2 neO (mL m_led_shop (maC (mV 2) (maC (mL tupO (maC (mL tupO (maC (mC (.int 1)) (maC (mL tupO (maC (mC (.int 5)) (maC (mC (.int 2)) maN))) (maC (mC (.int 1)) maN)))) maN)) (maC (mL tupO (maC (mL tupO (maC (mL tupO (maC (mC (.int 3)) (maC (mC (.int 1)) maN))) maN)) (maC (mL tupO (maC (mL tupO (maC (mC (.int 0)) (maC (mC (.int 1)) maN))) maN)) maN))) maN)))) (mL lstO (maC (mL tupO (maC (mL tupO (maC (m1 negO (mC (.int 2))) (maC (mC (.int 1)) maN))) (maC (mL tupO (maC (mC (.int 0)) (maC (mC (.int 1)) maN))) maN))) (maC (mL tupO (maC (mL tupO (maC (m1 negO (mC (.int 2))) (maC (mC (.int 1)) maN))) (maC (mL tupO (maC (mC (.int 1)) (maC (mC (.int 2)) maN))) maN))) maN)))))
    (mRet (mC (.bl false)))
    mNx) : MS) [some (.fz (ns.map D.int)), some (.ref 0), some sd, none, none, none, none, none, none] [.lst h] = .ok (.nx, [some (.fz (ns.map D.int)), some (.ref 0), some sd, none, none, none, none, none, none]) (.lst h :: R) := by
    simp only [mIfS_at, mT_at, m2_at, m1_at, mL_at, maC_at, maN_at, mC_at, mV_at, List.getElem?_cons_zero, List.getElem?_cons_succ, maK_ok, maJ_ok, bind_ok, t1, t2, t3, t4, e2', m2K_ok, m2J_ok, ng, l2, n1, tK_ok, ifSK_f, mNx_at]
  have s4 : ((mIfS (mT (m2 neO (mL m_first_lack (maC (mV 2) (maC (mL tupO maN) (maC (mL tupO (maC (mL tupO (maC (mL tupO (maC (mC (.int 5)) (maC (mC (.int 2)) maN))) maN)) (maC (mL tupO (maC (mL tupO (maC (mC (.int 0)) (maC (mC (.int 1)) maN))) maN)) maN))) maN)))) (mL tupO (maC (mC (.int 0)) (maC (mC (.int 0)) (maC (mL tupO (maC (mC (.int 1)) (maC (mC (.int 1)) maN))) maN))))))
    (mRet (mC (.bl false)))
    mNx) : MS) [some (.fz (ns.map D.int)), some (.ref 0), some sd, none, none, none, none, none, none] (.lst h :: R) = .ok (.nx, [some (.fz (ns.map D.int)), some (.ref 0), some sd, none, none, none, none, none, none]) (.lst h :: R) := by
    simp only [mIfS_at, mT_at, m2_at, mL_at, maC_at, maN_at, mC_at, mV_at, List.getElem?_cons_zero, List.getElem?_cons_succ, maK_ok, maJ_ok, bind_ok, t0, t1, t2, t3, t4, f2, m2K_ok, m2J_ok, n2, tK_ok, ifSK_f, mNx_at]
  have s5 : ((mIfS (mT (m2 isnO (mL m_first_lack (maC (mV 2) (maC (mL tupO maN) (maC (mL tupO (maC (mL tupO (maC (mL tupO (maC (mC (.int 2)) (maC (mC (.int 1)) maN))) maN)) (maC (mL tupO (maC (mL tupO (maC (mC (.int 0)) (maC (mC (.int 1)) maN))) maN)) maN))) maN)))) (mC .non)))
    (mRet (mC (.bl false)))
    mNx) : MS) [some (.fz (ns.map D.int)), some (.ref 0), some sd, none, none, none, none, none, none] (.lst h :: R) = .ok (.nx, [some (.fz (ns.map D.int)), some (.ref 0), some sd, none, none, none, none, none, none]) (.lst h :: R) := by
    simp only [mIfS_at, mT_at, m2_at, mL_at, maC_at, maN_at, mC_at, mV_at, List.getElem?_cons_zero, List.getElem?_cons_succ, maK_ok, maJ_ok, bind_ok, t0, t1, t2, t3, t4, f3, m2K_ok, m2J_ok, ib, tK_ok, ifSK_f, mNx_at]
  rw [mSeq_at, s1, seqK_nx, mSeq_at, s2, seqK_nx, mSeq_at, s3, seqK_nx, mSeq_at, s4, seqK_nx, mSeq_at, s5, seqK_nx, mSeq_at]
  simp only [mFor_at, mArgI_at, maC_at, mC_at, maN_at, maK_ok, maJ_ok, bind_ok, r5, forK_ok]
  rw [e]
  rfl
end K23

open PySem PySem.W PyProof.Rows
set_option maxHeartbeats 0 in
theorem PySem.Challenge.cw_everyprice_k23_whole_shops_led_holds : PySem.Challenge.rw_everyprice_k23_whole_shops_led.Holds := by
  w_on; o_law; k_head; (case hw => w_witness2)
  k_fill
  refine DL.walk_ofD (l := PySem.Challenge.rw_everyprice_k23_whole_shops_led) (n := 63) (k := 14) (x := "script") (cm := fun _ _ => fun _ => none) (mf := fun _ _ => K23.m_law) rfl (by decide) rfl ⟨rfl, by decide, by decide⟩ (fun w h Y => PySem.W.kIn_of Y) ?F (fun _ _ ns hl => K23.law_true ns hl)
  case F =>
    intro w mg fa h KX G hmg
    refine K23.ok_law ?X hmg
    case X =>
      refine' K23.fx_mk KX G ?z_abs ?z_all ?z_any ?z_bool ?z_enumerate ?z_int ?z_isinstance ?z_len ?z_list ?z_range ?z_repr ?z_tuple ?z_zip ?ka_ZERO ?kl_ZERO ?kv_ZERO ?ka_MOST_TAKE ?ka_MOST_METHODS ?ka_MOST_GOODS ?ka_MOST_DAYS ?ka_MOST_ORDERS ?a_is_integer ?l_is_integer ?c_is_integer ?k_is_integer ?a_is_sized ?l_is_sized ?c_is_sized ?k_is_sized ?a_common ?l_common ?c_common ?k_common ?a_share ?l_share ?c_share ?k_share ?a_is_share ?l_is_share ?c_is_share ?k_is_share ?a_plus ?l_plus ?c_plus ?k_plus ?a_minus ?l_minus ?c_minus ?k_minus ?a_times ?l_times ?c_times ?k_times ?a_is_less ?l_is_less ?c_is_less ?k_is_less ?a_summed ?l_summed ?c_summed ?k_summed ?a_is_integer_1 ?l_is_integer_1 ?c_is_integer_1 ?k_is_integer_1 ?a_is_within ?l_is_within ?c_is_within ?k_is_within ?a_is_sized_1 ?l_is_sized_1 ?c_is_sized_1 ?k_is_sized_1 ?a_is_amount ?l_is_amount ?c_is_amount ?k_is_amount ?a_are_amounts ?l_are_amounts ?c_are_amounts ?k_are_amounts ?a_is_making ?l_is_making ?c_is_making ?k_is_making ?a_is_shop ?l_is_shop ?c_is_shop ?k_is_shop ?a_check_shop ?l_check_shop ?c_check_shop ?k_check_shop ?a_is_order ?l_is_order ?c_is_order ?k_is_order ?a_are_orders_of ?l_are_orders_of ?c_are_orders_of ?k_are_orders_of ?a_are_orders ?l_are_orders ?c_are_orders ?k_are_orders ?a_check_orders ?l_check_orders ?c_check_orders ?k_check_orders ?a_is_schedule_of ?l_is_schedule_of ?c_is_schedule_of ?k_is_schedule_of ?a_is_schedule ?l_is_schedule ?c_is_schedule ?k_is_schedule ?a_check_schedule ?l_check_schedule ?c_check_schedule ?k_check_schedule ?a_change ?l_change ?c_change ?k_change ?a_due_on ?l_due_on ?c_due_on ?k_due_on ?a_led_by ?l_led_by ?c_led_by ?k_led_by ?a_led_shop ?l_led_shop ?c_led_shop ?k_led_shop ?a_lack_in ?l_lack_in ?c_lack_in ?k_lack_in ?a_first_lack ?l_first_lack ?c_first_lack ?k_first_lack ?a__law_hand ?l__law_hand ?c__law_hand ?k__law_hand ?a__law_draw ?l__law_draw ?c__law_draw ?k__law_draw ?a__law_any ?l__law_any ?c__law_any ?k__law_any ?a__law_low ?l__law_low ?c__law_low ?k__law_low ?a__law_add ?l__law_add ?c__law_add ?k__law_add ?a__law_less ?l__law_less ?c__law_less ?k__law_less ?a__law_mul ?l__law_mul ?c__law_mul ?k__law_mul ?a__law_is_below ?l__law_is_below ?c__law_is_below ?k__law_is_below ?a__law_is_amount ?l__law_is_amount ?c__law_is_amount ?k__law_is_amount ?a__law_is_number ?l__law_is_number ?c__law_is_number ?k__law_is_number ?a__law_amount ?l__law_amount ?c__law_amount ?k__law_amount ?a__law_shop ?l__law_shop ?c__law_shop ?k__law_shop ?a__law_drawn_schedule ?l__law_drawn_schedule ?c__law_drawn_schedule ?k__law_drawn_schedule ?a__law_led ?l__law_led ?c__law_led ?k__law_led ?a__law_is_schedule ?l__law_is_schedule ?c__law_is_schedule ?k__law_is_schedule ?a__law_orders ?l__law_orders ?c__law_orders ?k__law_orders ?a__law_lesser ?l__law_lesser ?c__law_lesser ?k__law_lesser ?a__law_made_case ?l__law_made_case ?c__law_made_case ?k__law_made_case ?a__law_are_amounts ?l__law_are_amounts ?c__law_are_amounts ?k__law_are_amounts ?a__law_is_shop ?l__law_is_shop ?c__law_is_shop ?k__law_is_shop ?a__law_are_orders ?l__law_are_orders ?c__law_are_orders ?k__law_are_orders ?a__law_odd ?l__law_odd ?c__law_odd ?k__law_odd ?a__law_bent ?l__law_bent ?c__law_bent ?k__law_bent ?a__law_lack ?l__law_lack ?c__law_lack ?k__law_lack ?a__law_is_led ?l__law_is_led ?c__law_is_led ?k__law_is_led ?a__law_are_judged ?l__law_are_judged ?c__law_are_judged ?k__law_are_judged ?a_law ?l_law ?c_law ?k_law
      (case z_abs => k_is)
      (case z_all => k_is)
      (case z_any => k_is)
      (case z_bool => k_is)
      (case z_enumerate => k_is)
      (case z_int => k_is)
      (case z_isinstance => k_is)
      (case z_len => k_is)
      (case z_list => k_is)
      (case z_range => k_is)
      (case z_repr => k_is)
      (case z_tuple => k_is)
      (case z_zip => k_is)
      (case ka_ZERO => k_is)
      (case kl_ZERO => k_is)
      (case kv_ZERO => repeat (first | exact .nil | refine .cons ⟨_, rfl⟩ ?_))
      (case ka_MOST_TAKE => k_is)
      (case ka_MOST_METHODS => k_is)
      (case ka_MOST_GOODS => k_is)
      (case ka_MOST_DAYS => k_is)
      (case ka_MOST_ORDERS => k_is)
      (case a_is_integer => k_is)
      (case l_is_integer => k_is)
      (case c_is_integer => k_is)
      (case k_is_integer => k_is)
      (case a_is_sized => k_is)
      (case l_is_sized => k_is)
      (case c_is_sized => k_is)
      (case k_is_sized => k_is)
      (case a_common => k_is)
      (case l_common => k_is)
      (case c_common => k_is)
      (case k_common => k_is)
      (case a_share => k_is)
      (case l_share => k_is)
      (case c_share => k_is)
      (case k_share => k_is)
      (case a_is_share => k_is)
      (case l_is_share => k_is)
      (case c_is_share => k_is)
      (case k_is_share => k_is)
      (case a_plus => k_is)
      (case l_plus => k_is)
      (case c_plus => k_is)
      (case k_plus => k_is)
      (case a_minus => k_is)
      (case l_minus => k_is)
      (case c_minus => k_is)
      (case k_minus => k_is)
      (case a_times => k_is)
      (case l_times => k_is)
      (case c_times => k_is)
      (case k_times => k_is)
      (case a_is_less => k_is)
      (case l_is_less => k_is)
      (case c_is_less => k_is)
      (case k_is_less => k_is)
      (case a_summed => k_is)
      (case l_summed => k_is)
      (case c_summed => k_is)
      (case k_summed => k_is)
      (case a_is_integer_1 => k_is)
      (case l_is_integer_1 => k_is)
      (case c_is_integer_1 => k_is)
      (case k_is_integer_1 => k_is)
      (case a_is_within => k_is)
      (case l_is_within => k_is)
      (case c_is_within => k_is)
      (case k_is_within => k_is)
      (case a_is_sized_1 => k_is)
      (case l_is_sized_1 => k_is)
      (case c_is_sized_1 => k_is)
      (case k_is_sized_1 => k_is)
      (case a_is_amount => k_is)
      (case l_is_amount => k_is)
      (case c_is_amount => k_is)
      (case k_is_amount => k_is)
      (case a_are_amounts => k_is)
      (case l_are_amounts => k_is)
      (case c_are_amounts => k_is)
      (case k_are_amounts => k_is)
      (case a_is_making => k_is)
      (case l_is_making => k_is)
      (case c_is_making => k_is)
      (case k_is_making => k_is)
      (case a_is_shop => k_is)
      (case l_is_shop => k_is)
      (case c_is_shop => k_is)
      (case k_is_shop => k_is)
      (case a_check_shop => k_is)
      (case l_check_shop => k_is)
      (case c_check_shop => k_is)
      (case k_check_shop => k_is)
      (case a_is_order => k_is)
      (case l_is_order => k_is)
      (case c_is_order => k_is)
      (case k_is_order => k_is)
      (case a_are_orders_of => k_is)
      (case l_are_orders_of => k_is)
      (case c_are_orders_of => k_is)
      (case k_are_orders_of => k_is)
      (case a_are_orders => k_is)
      (case l_are_orders => k_is)
      (case c_are_orders => k_is)
      (case k_are_orders => k_is)
      (case a_check_orders => k_is)
      (case l_check_orders => k_is)
      (case c_check_orders => k_is)
      (case k_check_orders => k_is)
      (case a_is_schedule_of => k_is)
      (case l_is_schedule_of => k_is)
      (case c_is_schedule_of => k_is)
      (case k_is_schedule_of => k_is)
      (case a_is_schedule => k_is)
      (case l_is_schedule => k_is)
      (case c_is_schedule => k_is)
      (case k_is_schedule => k_is)
      (case a_check_schedule => k_is)
      (case l_check_schedule => k_is)
      (case c_check_schedule => k_is)
      (case k_check_schedule => k_is)
      (case a_change => k_is)
      (case l_change => k_is)
      (case c_change => k_is)
      (case k_change => k_is)
      (case a_due_on => k_is)
      (case l_due_on => k_is)
      (case c_due_on => k_is)
      (case k_due_on => k_is)
      (case a_led_by => k_is)
      (case l_led_by => k_is)
      (case c_led_by => k_is)
      (case k_led_by => k_is)
      (case a_led_shop => k_is)
      (case l_led_shop => k_is)
      (case c_led_shop => k_is)
      (case k_led_shop => k_is)
      (case a_lack_in => k_is)
      (case l_lack_in => k_is)
      (case c_lack_in => k_is)
      (case k_lack_in => k_is)
      (case a_first_lack => k_is)
      (case l_first_lack => k_is)
      (case c_first_lack => k_is)
      (case k_first_lack => k_is)
      (case a__law_hand => k_is)
      (case l__law_hand => k_is)
      (case c__law_hand => k_is)
      (case k__law_hand => k_is)
      (case a__law_draw => k_is)
      (case l__law_draw => k_is)
      (case c__law_draw => k_is)
      (case k__law_draw => k_is)
      (case a__law_any => k_is)
      (case l__law_any => k_is)
      (case c__law_any => k_is)
      (case k__law_any => k_is)
      (case a__law_low => k_is)
      (case l__law_low => k_is)
      (case c__law_low => k_is)
      (case k__law_low => k_is)
      (case a__law_add => k_is)
      (case l__law_add => k_is)
      (case c__law_add => k_is)
      (case k__law_add => k_is)
      (case a__law_less => k_is)
      (case l__law_less => k_is)
      (case c__law_less => k_is)
      (case k__law_less => k_is)
      (case a__law_mul => k_is)
      (case l__law_mul => k_is)
      (case c__law_mul => k_is)
      (case k__law_mul => k_is)
      (case a__law_is_below => k_is)
      (case l__law_is_below => k_is)
      (case c__law_is_below => k_is)
      (case k__law_is_below => k_is)
      (case a__law_is_amount => k_is)
      (case l__law_is_amount => k_is)
      (case c__law_is_amount => k_is)
      (case k__law_is_amount => k_is)
      (case a__law_is_number => k_is)
      (case l__law_is_number => k_is)
      (case c__law_is_number => k_is)
      (case k__law_is_number => k_is)
      (case a__law_amount => k_is)
      (case l__law_amount => k_is)
      (case c__law_amount => k_is)
      (case k__law_amount => k_is)
      (case a__law_shop => k_is)
      (case l__law_shop => k_is)
      (case c__law_shop => k_is)
      (case k__law_shop => k_is)
      (case a__law_drawn_schedule => k_is)
      (case l__law_drawn_schedule => k_is)
      (case c__law_drawn_schedule => k_is)
      (case k__law_drawn_schedule => k_is)
      (case a__law_led => k_is)
      (case l__law_led => k_is)
      (case c__law_led => k_is)
      (case k__law_led => k_is)
      (case a__law_is_schedule => k_is)
      (case l__law_is_schedule => k_is)
      (case c__law_is_schedule => k_is)
      (case k__law_is_schedule => k_is)
      (case a__law_orders => k_is)
      (case l__law_orders => k_is)
      (case c__law_orders => k_is)
      (case k__law_orders => k_is)
      (case a__law_lesser => k_is)
      (case l__law_lesser => k_is)
      (case c__law_lesser => k_is)
      (case k__law_lesser => k_is)
      (case a__law_made_case => k_is)
      (case l__law_made_case => k_is)
      (case c__law_made_case => k_is)
      (case k__law_made_case => k_is)
      (case a__law_are_amounts => k_is)
      (case l__law_are_amounts => k_is)
      (case c__law_are_amounts => k_is)
      (case k__law_are_amounts => k_is)
      (case a__law_is_shop => k_is)
      (case l__law_is_shop => k_is)
      (case c__law_is_shop => k_is)
      (case k__law_is_shop => k_is)
      (case a__law_are_orders => k_is)
      (case l__law_are_orders => k_is)
      (case c__law_are_orders => k_is)
      (case k__law_are_orders => k_is)
      (case a__law_odd => k_is)
      (case l__law_odd => k_is)
      (case c__law_odd => k_is)
      (case k__law_odd => k_is)
      (case a__law_bent => k_is)
      (case l__law_bent => k_is)
      (case c__law_bent => k_is)
      (case k__law_bent => k_is)
      (case a__law_lack => k_is)
      (case l__law_lack => k_is)
      (case c__law_lack => k_is)
      (case k__law_lack => k_is)
      (case a__law_is_led => k_is)
      (case l__law_is_led => k_is)
      (case c__law_is_led => k_is)
      (case k__law_is_led => k_is)
      (case a__law_are_judged => k_is)
      (case l__law_are_judged => k_is)
      (case c__law_are_judged => k_is)
      (case k__law_are_judged => k_is)
      (case a_law => k_is)
      (case l_law => k_is)
      (case c_law => k_is)
      (case k_law => k_is)

