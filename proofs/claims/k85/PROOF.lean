import PyProof.Rows.All
import Wide.All
import OpenK.AllK
import Wide.FinOn
import HandS.ForMost
import HandS.ForExc
import HandS.Wide
import HandS.TupAny
import HandS.Style
import HandS.IsInst
import HandS.Deep
import HandS.TupMul
import KE.GoesNew
import KE.GoesMore
import HandS.WordsExc
import HandS.More
import PyProof.ReprRoads
import PyProof.ReprLen
import PySem.Challenge.RW_everyprice_k85_whole_levels_or_years_tha
set_option Elab.async false
set_option linter.all false
set_option maxRecDepth 100000
set_option exponentiation.threshold 100000
namespace DL
open PySem PySem.Spec PyProof.Rows L2

/-! data, mutable lists, outcomes -/
inductive D where
  | non | bl (b : Bool) | int (i : Int) | str (x : Str) | tup (xs : List D) | vl (xs : List D) | fz (xs : List D) | ref (p : Nat)
structure Exn where
  cls : Str
  fs : List (Str × D)
inductive DO where
  | lst (xs : List D)
abbrev DS := List DO
abbrev DE := List (Option D)
inductive Ou (α : Type) where
  | ok (a : α) (S : DS) | ex (x : Exn) (S : DS) | no
def Ou.bind {α β : Type} (m : Ou α) (f : α → DS → Ou β) : Ou β := match m with
  | .ok a S => f a S
  | .ex x S => .ex x S
  | .no => .no
@[simp] theorem bind_ok {α β : Type} (a : α) (S : DS) (f : α → DS → Ou β) : (Ou.ok a S).bind f = f a S := (rfl)
@[simp] theorem bind_ex {α β : Type} (x : Exn) (S : DS) (f : α → DS → Ou β) : (Ou.ex x S).bind f = .ex x S := (rfl)
@[simp] theorem bind_no {α β : Type} (f : α → DS → Ou β) : (Ou.no : Ou α).bind f = .no := (rfl)

/-! how data lie in the heap. al: the addresses of the mutable lists, by number; xl: lists under construction -/
mutual
inductive Rep (K : PySem.W.Frag) (xl al : List Addr) (H : Hp) : D → V → Prop where
  | non : Rep K xl al H .non .non
  | bl (b : Bool) : Rep K xl al H (.bl b) (.bl b)
  | int (i : Int) : Rep K xl al H (.int i) (.int i)
  | str (x : Str) : Rep K xl al H (.str x) (.str x)
  | tup {xs : List D} {vs : List V} {a : Addr} : SqT K H a vs → Reps K xl al H xs vs → Rep K xl al H (.tup xs) (.ref a)
  | vl {xs : List D} {vs : List V} {a : Addr} : H a = some (.lst vs) → a ∉ al → a ∉ xl → Reps K xl al H xs vs → Rep K xl al H (.vl xs) (.ref a)
  | fz {xs : List D} {vs : List V} {a : Addr} {o : Obj} : H a = some (.frz o (.lst vs)) → a ∉ al → Reps K xl al H xs vs → Rep K xl al H (.fz xs) (.ref a)
  | fzK {xs : List D} {vs : List V} {a : Addr} {o : Obj} : K.lookup a = some o → o.cls = .type "list" → (∀ H, SqL K H a vs) → Reps K xl al H xs vs → Rep K xl al H (.fz xs) (.ref a)
  | ref {p : Nat} {a : Addr} : al[p]? = some a → Rep K xl al H (.ref p) (.ref a)
inductive Reps (K : PySem.W.Frag) (xl al : List Addr) (H : Hp) : List D → List V → Prop where
  | nil : Reps K xl al H [] []
  | cons {d : D} {v : V} {ds : List D} {vs : List V} : Rep K xl al H d v → Reps K xl al H ds vs → Reps K xl al H (d :: ds) (v :: vs)
end

structure Ext (al : List Addr) (H : Hp) (al' : List Addr) (H' : Hp) : Prop where
  pre : ∃ more, al' = al ++ more
  fr : ∀ a o, a ∉ al → H a = some o → H' a = some o
  tup : ∀ a vs, Rd H a (.tup vs) → Rd H' a (.tup vs)
  new : ∀ a, a ∈ al' → a ∉ al → H a = none
theorem Ext.refl (al : List Addr) (H : Hp) : Ext al H al H := ⟨⟨[], by simp⟩, fun _ _ _ h => h, fun _ _ h => h, fun _ h n => absurd h n⟩
theorem Ext.trans {al al1 al2 : List Addr} {H H1 H2 : Hp} (e : Ext al H al1 H1) (f : Ext al1 H1 al2 H2) : Ext al H al2 H2 := by
  refine ⟨?_, fun a o n h => ?_, fun a vs h => f.tup a vs (e.tup a vs h), fun a h n => ?_⟩
  · obtain ⟨m1, e1⟩ := e.pre
    obtain ⟨m2, e2⟩ := f.pre
    exact ⟨m1 ++ m2, by rw [e2, e1, List.append_assoc]⟩
  · refine f.fr a o (fun h1 => ?_) (e.fr a o n h)
    have := e.new a h1 n
    rw [h] at this; cases this
  · by_cases h1 : a ∈ al1
    · exact e.new a h1 n
    · cases q : H a with
      | none => rfl
      | some o =>
        have := f.new a h h1
        rw [e.fr a o n q] at this; cases this
theorem Ext.get {al al' : List Addr} {H H' : Hp} (e : Ext al H al' H') {p : Nat} {a : Addr} (h : al[p]? = some a) : al'[p]? = some a := by
  obtain ⟨m, rfl⟩ := e.pre
  have hl : p < al.length := by
    by_cases hl : p < al.length
    · exact hl
    · rw [List.getElem?_eq_none (by omega)] at h; cases h
  rw [List.getElem?_append_left hl]
  exact h
theorem rd_some {H : Hp} {a : Addr} {u : HO} (h : Rd H a u) : ∃ o, H a = some o := by
  rcases h with h | ⟨o, h⟩
  · exact ⟨_, h⟩
  · exact ⟨_, h⟩

section
variable {K : PySem.W.Frag} {xl xl' al al' : List Addr} {H H' : Hp}
theorem Ext.sqt (e : Ext al H al' H') {a : Addr} {vs : List V} (h : SqT K H a vs) : SqT K H' a vs := by
  rcases h with h | h
  · exact .inl (e.tup a vs h)
  · exact .inr h
theorem Ext.rd (e : Ext al H al' H') {a : Addr} {u : HO} (n : a ∉ al) (h : Rd H a u) : Rd H' a u := by
  rcases h with h | ⟨o, h⟩
  · exact .inl (e.fr _ _ n h)
  · exact .inr ⟨o, e.fr _ _ n h⟩
theorem Ext.nin (e : Ext al H al' H') {a : Addr} {u : HO} (n : a ∉ al) (h : H a = some u) : a ∉ al' := fun m => by
  rw [e.new a m n] at h; cases h
mutual
theorem Rep.mono (e : Ext al H al' H') : ∀ {d : D} {v : V}, Rep K xl al H d v → Rep K xl al' H' d v
  | _, _, .non => .non
  | _, _, .bl b => .bl b
  | _, _, .int i => .int i
  | _, _, .str x => .str x
  | _, _, .tup h r => .tup (e.sqt h) (r.mono e)
  | _, _, .vl h n n' r => .vl (e.fr _ _ n h) (e.nin n h) n' (r.mono e)
  | _, _, .fz h n r => .fz (e.fr _ _ n h) (e.nin n h) (r.mono e)
  | _, _, .fzK k c h r => .fzK k c h (r.mono e)
  | _, _, .ref h => .ref (e.get h)
theorem Reps.mono (e : Ext al H al' H') : ∀ {ds : List D} {vs : List V}, Reps K xl al H ds vs → Reps K xl al' H' ds vs
  | _, _, .nil => .nil
  | _, _, .cons h r => .cons (h.mono e) (r.mono e)
end
mutual
/-- fewer lists under construction -/
theorem Rep.less (s : ∀ a, a ∈ xl' → a ∈ xl) : ∀ {d : D} {v : V}, Rep K xl al H d v → Rep K xl' al H d v
  | _, _, .non => .non
  | _, _, .bl b => .bl b
  | _, _, .int i => .int i
  | _, _, .str x => .str x
  | _, _, .tup h r => .tup h (r.less s)
  | _, _, .vl h n n' r => .vl h n (fun m => n' (s _ m)) (r.less s)
  | _, _, .fz h n r => .fz h n (r.less s)
  | _, _, .fzK k c h r => .fzK k c h (r.less s)
  | _, _, .ref h => .ref h
theorem Reps.less (s : ∀ a, a ∈ xl' → a ∈ xl) : ∀ {ds : List D} {vs : List V}, Reps K xl al H ds vs → Reps K xl' al H ds vs
  | _, _, .nil => .nil
  | _, _, .cons h r => .cons (h.less s) (r.less s)
end
mutual
/-- a new list under construction: no data speak of it -/
theorem Rep.more {q : Addr} (hq : H q = none) : ∀ {d : D} {v : V}, Rep K xl al H d v → Rep K (q :: xl) al H d v
  | _, _, .non => .non
  | _, _, .bl b => .bl b
  | _, _, .int i => .int i
  | _, _, .str x => .str x
  | _, _, .tup h r => .tup h (r.more hq)
  | _, _, .vl h n n' r => .vl h n (fun m => by
      rcases List.mem_cons.mp m with e | m
      · subst e
        rw [hq] at h; cases h
      · exact n' m) (r.more hq)
  | _, _, .fz h n r => .fz h n (r.more hq)
  | _, _, .fzK k c h r => .fzK k c h (r.more hq)
  | _, _, .ref h => .ref h
theorem Reps.more {q : Addr} (hq : H q = none) : ∀ {ds : List D} {vs : List V}, Reps K xl al H ds vs → Reps K (q :: xl) al H ds vs
  | _, _, .nil => .nil
  | _, _, .cons h r => .cons (h.more hq) (r.more hq)
end
mutual
/-- the list under construction at q has grown -/
theorem Rep.atx {q : Addr} {us us' : List V} (hq : H q = some (.lst us)) (hm : q ∈ xl) : ∀ {d : D} {v : V}, Rep K xl al H d v → Rep K xl al (upd H q (.lst us')) d v
  | _, _, .non => .non
  | _, _, .bl b => .bl b
  | _, _, .int i => .int i
  | _, _, .str x => .str x
  | _, _, .tup (a := a) (vs := vs) h r => .tup (by
      rcases h with h | h
      · refine .inl ?_
        rcases h with h | ⟨o, h⟩
        · exact .inl (by rw [upd_ne (ne_of h hq (by intro z; cases z))]; exact h)
        · exact .inr ⟨o, by rw [upd_ne (ne_of h hq (by intro z; cases z))]; exact h⟩
      · exact .inr h) (r.atx hq hm)
  | _, _, .vl (a := a) h n n' r => .vl (by
      have ne : a ≠ q := fun e => n' (e ▸ hm)
      rw [upd_ne ne]; exact h) n n' (r.atx hq hm)
  | _, _, .fz (a := a) h n r => .fz (by rw [upd_ne (ne_of h hq (by intro z; cases z))]; exact h) n (r.atx hq hm)
  | _, _, .fzK k c h r => .fzK k c h (r.atx hq hm)
  | _, _, .ref h => .ref h
theorem Reps.atx {q : Addr} {us us' : List V} (hq : H q = some (.lst us)) (hm : q ∈ xl) : ∀ {ds : List D} {vs : List V}, Reps K xl al H ds vs → Reps K xl al (upd H q (.lst us')) ds vs
  | _, _, .nil => .nil
  | _, _, .cons h r => .cons (h.atx hq hm) (r.atx hq hm)
end
theorem Reps.length : ∀ {ds : List D} {vs : List V}, Reps K xl al H ds vs → ds.length = vs.length
  | _, _, .nil => rfl
  | _, _, .cons _ r => by rw [List.length_cons, List.length_cons, r.length]
theorem Reps.get : ∀ {ds : List D} {vs : List V} {i : Nat} {d : D}, Reps K xl al H ds vs → ds[i]? = some d → ∃ v, vs[i]? = some v ∧ Rep K xl al H d v
  | _, _, _, _, .nil, e => by simp at e
  | _, _, 0, _, .cons h _, e => by
    simp at e; subst e
    exact ⟨_, rfl, h⟩
  | _, _, i + 1, _, .cons _ r, e => by
    obtain ⟨v, h1, h2⟩ := r.get (i := i) (by simpa using e)
    exact ⟨v, by simpa using h1, h2⟩
theorem Reps.getV : ∀ {ds : List D} {vs : List V} {i : Nat} {v : V}, Reps K xl al H ds vs → vs[i]? = some v → ∃ d, ds[i]? = some d ∧ Rep K xl al H d v
  | _, _, _, _, .nil, e => by simp at e
  | _, _, 0, _, .cons h _, e => by
    simp at e; subst e
    exact ⟨_, rfl, h⟩
  | _, _, i + 1, _, .cons _ r, e => by
    obtain ⟨v, h1, h2⟩ := r.getV (i := i) (by simpa using e)
    exact ⟨v, by simpa using h1, h2⟩
theorem Reps.append : ∀ {ds es : List D} {vs ws : List V}, Reps K xl al H ds vs → Reps K xl al H es ws → Reps K xl al H (ds ++ es) (vs ++ ws)
  | _, _, _, _, .nil, s => s
  | _, _, _, _, .cons h r, s => .cons h (r.append s)
theorem Reps.set {d : D} {v : V} (h : Rep K xl al H d v) : ∀ {ds : List D} {vs : List V} (i : Nat), Reps K xl al H ds vs → Reps K xl al H (ds.set i d) (vs.set i v)
  | _, _, _, .nil => .nil
  | _, _, 0, .cons _ r => .cons h r
  | _, _, i + 1, .cons q r => .cons q (r.set h i)
theorem Reps.take : ∀ {ds : List D} {vs : List V} (n : Nat), Reps K xl al H ds vs → Reps K xl al H (ds.take n) (vs.take n)
  | _, _, 0, _ => .nil
  | _, _, _ + 1, .nil => .nil
  | _, _, n + 1, .cons h r => .cons h (r.take n)
theorem Reps.drop : ∀ {ds : List D} {vs : List V} (n : Nat), Reps K xl al H ds vs → Reps K xl al H (ds.drop n) (vs.drop n)
  | _, _, 0, r => r
  | _, _, _ + 1, .nil => .nil
  | _, _, n + 1, .cons h r => r.drop n
theorem Reps.reverse : ∀ {ds : List D} {vs : List V}, Reps K xl al H ds vs → Reps K xl al H ds.reverse vs.reverse
  | _, _, .nil => .nil
  | _, _, .cons h r => by
    rw [List.reverse_cons, List.reverse_cons]
    exact r.reverse.append (.cons h .nil)

/-- the state lies in the heap -/
structure Wd (K : PySem.W.Frag) (xl : List Addr) (S : DS) (al : List Addr) (H : Hp) : Prop where
  nd : al.Nodup
  len : al.length = S.length
  ob : ∀ (p : Nat) (xs : List D), S[p]? = some (DO.lst xs) → ∃ a vs, al[p]? = some a ∧ H a = some (.lst vs) ∧ Reps K xl al H xs vs
  xs : ∀ a, a ∈ xl → a ∉ al ∧ H a ≠ none
theorem Wd.at {S : DS} (w : Wd K xl S al H) {a : Addr} (h : a ∈ al) : ∃ (p : Nat) (vs : List V), al[p]? = some a ∧ H a = some (.lst vs) := by
  obtain ⟨p, hp, e⟩ := List.mem_iff_getElem.mp h
  have hS : p < S.length := by rw [← w.len]; exact hp
  have e' : al[p]? = some a := by rw [List.getElem?_eq_getElem hp, e]
  obtain ⟨xs, ex⟩ : ∃ xs, S[p]? = some (DO.lst xs) := by
    rw [List.getElem?_eq_getElem hS]
    cases S[p] with
    | lst xs => exact ⟨xs, rfl⟩
  obtain ⟨a', vs, h1, h2, _⟩ := w.ob p xs ex
  rw [e'] at h1; cases h1
  exact ⟨p, vs, e', h2⟩
theorem Wd.new {S : DS} (w : Wd K xl S al H) {p : Addr} (hp : H p = none) : p ∉ al ∧ p ∉ xl := by
  refine ⟨fun h => ?_, fun h => ?_⟩
  · obtain ⟨_, _, _, e⟩ := w.at h
    rw [hp] at e; cases e
  · exact (w.xs p h).2 hp
theorem ext_new {p : Addr} {o : HO} (hp : H p = none) : Ext al H al (upd H p o) := by
  refine ⟨⟨[], by simp⟩, fun a o' _ h => ?_, fun a vs h => ?_, fun a h n => absurd h n⟩
  · rw [upd_ne (ne_of_none h hp)]; exact h
  · rcases h with h | ⟨o', h⟩
    · exact .inl (by rw [upd_ne (ne_of_none h hp)]; exact h)
    · exact .inr ⟨o', by rw [upd_ne (ne_of_none h hp)]; exact h⟩
/-- the lists as they stood -/
theorem Wd.keep {S : DS} (w : Wd K xl S al H) (e : Ext al H al H') (k : ∀ a, a ∈ al → H' a = H a) : Wd K xl S al H' := by
  refine ⟨w.nd, w.len, fun p xs h => ?_, fun a h => ⟨(w.xs a h).1, ?_⟩⟩
  · obtain ⟨a, vs, h1, h2, h3⟩ := w.ob p xs h
    exact ⟨a, vs, h1, by rw [k a (List.mem_of_getElem? h1)]; exact h2, h3.mono e⟩
  · obtain ⟨h1, h2⟩ := w.xs a h
    cases q : H a with
    | none => exact absurd q h2
    | some o =>
      rw [e.fr a o h1 q]
      intro z; cases z
theorem Wd.put {S : DS} {p : Addr} {o : HO} (w : Wd K xl S al H) (hp : H p = none) : Wd K xl S al (upd H p o) :=
  w.keep (ext_new hp) fun a h => upd_ne fun e => (w.new hp).1 (e ▸ h)
theorem Rep.newTup {S : DS} {p : Addr} {xs : List D} {vs : List V} (hp : H p = none) (r : Reps K xl al H xs vs) : Rep K xl al (upd H p (.tup vs)) (.tup xs) (.ref p) :=
  .tup (.inl (.inl upd_same)) (r.mono (ext_new hp))
theorem Rep.newLst {S : DS} {p : Addr} {xs : List D} {vs : List V} (w : Wd K xl S al H) (hp : H p = none) (r : Reps K xl al H xs vs) : Rep K xl al (upd H p (.lst vs)) (.vl xs) (.ref p) :=
  .vl upd_same (w.new hp).1 (w.new hp).2 (r.mono (ext_new hp))
theorem ext_ref {S : DS} {p : Addr} {o : HO} (w : Wd K xl S al H) (hp : H p = none) : Ext al H (al ++ [p]) (upd H p o) := by
  refine ⟨⟨[p], rfl⟩, fun a o' _ h => ?_, fun a vs h => ?_, fun a h n => ?_⟩
  · rw [upd_ne (ne_of_none h hp)]; exact h
  · rcases h with h | ⟨o', h⟩
    · exact .inl (by rw [upd_ne (ne_of_none h hp)]; exact h)
    · exact .inr ⟨o', by rw [upd_ne (ne_of_none h hp)]; exact h⟩
  · rcases List.mem_append.mp h with h | h
    · exact absurd h n
    · rw [List.mem_singleton.mp h]; exact hp
theorem Wd.addRef {S : DS} {p : Addr} {xs : List D} {vs : List V} (w : Wd K xl S al H) (hp : H p = none) (r : Reps K xl al H xs vs) : Wd K xl (S ++ [.lst xs]) (al ++ [p]) (upd H p (.lst vs)) := by
  have e := ext_ref (o := .lst vs) w hp
  obtain ⟨n1, n2⟩ := w.new hp
  refine ⟨?_, by simp [w.len], fun q ys h => ?_, fun a h => ?_⟩
  · rw [List.nodup_append]
    exact ⟨w.nd, by simp, fun a ha b hb z => by rw [List.mem_singleton.mp hb] at z; exact n1 (z ▸ ha)⟩
  · by_cases hq : q < S.length
    · rw [List.getElem?_append_left hq] at h
      obtain ⟨a, ws, h1, h2, h3⟩ := w.ob q ys h
      refine ⟨a, ws, e.get h1, ?_, h3.mono e⟩
      rw [upd_ne (ne_of_none h2 hp)]; exact h2
    · have hq2 : q = S.length := by
        by_cases z : q < (S ++ [DO.lst xs]).length
        · simp at z; omega
        · rw [List.getElem?_eq_none (by omega)] at h; cases h
      subst hq2
      rw [List.getElem?_append_right (Nat.le_refl _), Nat.sub_self] at h
      simp at h; subst h
      refine ⟨p, vs, ?_, upd_same, r.mono e⟩
      rw [← w.len, List.getElem?_append_right (Nat.le_refl _), Nat.sub_self]; rfl
  · obtain ⟨h1, h2⟩ := w.xs a h
    refine ⟨fun z => ?_, ?_⟩
    · rcases List.mem_append.mp z with z | z
      · exact h1 z
      · rw [List.mem_singleton.mp z] at h; exact n2 h
    · unfold upd
      split
      · intro z; cases z
      · exact h2
theorem ext_write {a : Addr} {vs ws : List V} (ha : a ∈ al) (h : H a = some (.lst vs)) : Ext al H al (upd H a (.lst ws)) := by
  refine ⟨⟨[], by simp⟩, fun b o n q => ?_, fun b us q => ?_, fun b h n => absurd h n⟩
  · rw [upd_ne (show b ≠ a from fun e => n (e ▸ ha))]; exact q
  · rcases q with q | ⟨o, q⟩
    · exact .inl (by rw [upd_ne (ne_of q h (by intro z; cases z))]; exact q)
    · exact .inr ⟨o, by rw [upd_ne (ne_of q h (by intro z; cases z))]; exact q⟩
theorem Wd.write {S : DS} {p : Nat} {a : Addr} {xs ys : List D} {vs ws : List V} (w : Wd K xl S al H) (hS : S[p]? = some (DO.lst xs)) (ha : al[p]? = some a) (h : H a = some (.lst vs)) (r : Reps K xl al H ys ws) :
    Wd K xl (S.set p (.lst ys)) al (upd H a (.lst ws)) := by
  have e : Ext al H al (upd H a (.lst ws)) := ext_write (List.mem_of_getElem? ha) h
  refine ⟨w.nd, by simp [w.len], fun q zs hz => ?_, fun b hb => ?_⟩
  · by_cases hq : q = p
    · subst hq
      have : q < S.length := by
        by_cases z : q < S.length
        · exact z
        · rw [List.getElem?_eq_none (by omega)] at hS; cases hS
      rw [List.getElem?_set_self this] at hz
      cases hz
      exact ⟨a, ws, ha, upd_same, r.mono e⟩
    · rw [List.getElem?_set_ne (Ne.symm hq)] at hz
      obtain ⟨b, us, h1, h2, h3⟩ := w.ob q zs hz
      refine ⟨b, us, h1, ?_, h3.mono e⟩
      rw [upd_ne (show b ≠ a from fun z => hq (nd_ix w.nd h1 (z ▸ ha)))]; exact h2
  · obtain ⟨h1, h2⟩ := w.xs b hb
    refine ⟨h1, ?_⟩
    unfold upd
    split
    · intro z; cases z
    · exact h2
theorem Wd.list {S : DS} {p : Nat} {xs : List D} (w : Wd K xl S al H) (h : S[p]? = some (DO.lst xs)) : ∃ a vs, al[p]? = some a ∧ H a = some (.lst vs) ∧ Reps K xl al H xs vs := w.ob p xs h
end

/-! the slots -/
structure EnvR (K : PySem.W.Frag) (xl al : List Addr) (H : Hp) (env : DE) (σ : L2.St) : Prop where
  len : env.length = σ.length
  at' : ∀ (i : Nat) d, env[i]? = some (some d) → ∃ v, σ[i]? = some (some v) ∧ Rep K xl al H d v
section
variable {K : PySem.W.Frag} {xl xl' al al' : List Addr} {H H' : Hp} {env : DE} {σ : L2.St}
theorem EnvR.mono (r : EnvR K xl al H env σ) (e : Ext al H al' H') : EnvR K xl al' H' env σ := ⟨r.len, fun i d h => by
  obtain ⟨v, h1, h2⟩ := r.at' i d h
  exact ⟨v, h1, h2.mono e⟩⟩
theorem EnvR.less (r : EnvR K xl al H env σ) (s : ∀ a, a ∈ xl' → a ∈ xl) : EnvR K xl' al H env σ := ⟨r.len, fun i d h => by
  obtain ⟨v, h1, h2⟩ := r.at' i d h
  exact ⟨v, h1, h2.less s⟩⟩
theorem EnvR.more {q : Addr} (hq : H q = none) (r : EnvR K xl al H env σ) : EnvR K (q :: xl) al H env σ := ⟨r.len, fun i d h => by
  obtain ⟨v, h1, h2⟩ := r.at' i d h
  exact ⟨v, h1, h2.more hq⟩⟩
theorem EnvR.atx {q : Addr} {us us' : List V} (hq : H q = some (.lst us)) (hm : q ∈ xl) (r : EnvR K xl al H env σ) : EnvR K xl al (upd H q (.lst us')) env σ := ⟨r.len, fun i d h => by
  obtain ⟨v, h1, h2⟩ := r.at' i d h
  exact ⟨v, h1, h2.atx hq hm⟩⟩
theorem EnvR.set {d : D} {v : V} (r : EnvR K xl al H env σ) (h : Rep K xl al H d v) (i : Nat) : EnvR K xl al H (env.set i (some d)) (σ.set i (some v)) := by
  refine ⟨by rw [List.length_set, List.length_set, r.len], fun j e h1 => ?_⟩
  by_cases hj : j = i
  · subst hj
    by_cases hl : j < env.length
    · rw [List.getElem?_set_self hl] at h1
      cases h1
      exact ⟨v, by rw [List.getElem?_set_self (by rw [← r.len]; exact hl)], h⟩
    · rw [List.getElem?_eq_none (by rw [List.length_set]; omega)] at h1; cases h1
  · rw [List.getElem?_set_ne (Ne.symm hj)] at h1
    obtain ⟨w, h2, h3⟩ := r.at' j e h1
    exact ⟨w, by rw [List.getElem?_set_ne (Ne.symm hj)]; exact h2, h3⟩
theorem EnvR.wipe (r : EnvR K xl al H env σ) (i : Nat) : EnvR K xl al H (env.set i none) (σ.set i none) := by
  refine ⟨by rw [List.length_set, List.length_set, r.len], fun j e h1 => ?_⟩
  by_cases hj : j = i
  · subst hj
    by_cases hl : j < env.length
    · rw [List.getElem?_set_self hl] at h1
      cases h1
    · rw [List.getElem?_eq_none (by rw [List.length_set]; omega)] at h1; cases h1
  · rw [List.getElem?_set_ne (Ne.symm hj)] at h1
    obtain ⟨w, h2, h3⟩ := r.at' j e h1
    exact ⟨w, by rw [List.getElem?_set_ne (Ne.symm hj)]; exact h2, h3⟩
end
end DL

namespace DL
open PySem PySem.Spec PyProof.Rows L2

abbrev ME := DE → DS → Ou D
abbrev MT := DE → DS → Ou Bool
abbrev MA := DE → DS → Ou (List D)
inductive Fl where
  | nx | rt (d : D) | bk | ct | xc (x : Exn)
abbrev MS := DE → DS → Ou (Fl × DE)
abbrev MG := D → DE → DS → Ou DE
abbrev MI := DE → DS → Ou (List D)
abbrev CM := Str → Option Addr
abbrev WH := Value → Option Addr → Hp → Prop

def XRep (K : PySem.W.Frag) (cm : CM) (xl al : List Addr) (H : Hp) (x : Exn) (cls : Value) (dx : Option Addr) : Prop :=
  (∃ C, cm x.cls = some C ∧ cls = .ref C) ∧ (x.fs = [] → dx = none)

/-- what is wanted of an outcome -/
def Post (K : PySem.W.Frag) (cm : CM) (xl : List Addr) (W : WH) {α : Type} (R : α → DS → List Addr → Hp → Prop) (o : Ou α) (al : List Addr) (H : Hp) : Prop :=
  match o with
  | .ok a S' => ∀ al' H', Ext al H al' H' → Wd K xl S' al' H' → R a S' al' H'
  | .ex x S' => ∀ al' H' cls dx, Ext al H al' H' → Wd K xl S' al' H' → XRep K cm xl al' H' x cls dx → W cls dx H'
  | .no => False
section
variable {K : PySem.W.Frag} {cm : CM} {xl : List Addr} {W : WH} {α β : Type}
theorem Post.mono {R : α → DS → List Addr → Hp → Prop} {o : Ou α} {al al1 : List Addr} {H H1 : Hp} (e : Ext al H al1 H1) (h : Post K cm xl W R o al H) : Post K cm xl W R o al1 H1 := by
  cases o with
  | ok a S => exact fun al' H' e' w => h al' H' (e.trans e') w
  | ex x S => exact fun al' H' cls dx e' w z => h al' H' cls dx (e.trans e') w z
  | no => exact h
theorem Post.imp {R R' : α → DS → List Addr → Hp → Prop} {o : Ou α} {al : List Addr} {H : Hp} (h : Post K cm xl W R o al H)
    (i : ∀ a S' al' H', Ext al H al' H' → Wd K xl S' al' H' → R a S' al' H' → R' a S' al' H') : Post K cm xl W R' o al H := by
  cases o with
  | ok a S => exact fun al' H' e w => i a S al' H' e w (h al' H' e w)
  | ex x S => exact h
  | no => exact h
theorem Post.bind {R : β → DS → List Addr → Hp → Prop} {o : Ou α} {f : α → DS → Ou β} {al : List Addr} {H : Hp} (h : Post K cm xl W R (o.bind f) al H) :
    Post K cm xl W (fun a S1 al1 H1 => Post K cm xl W R (f a S1) al1 H1) o al H := by
  cases o with
  | ok a S => exact fun al' H' e _ => Post.mono e h
  | ex x S => exact h
  | no => exact h
theorem Post.here {R : α → DS → List Addr → Hp → Prop} {a : α} {S : DS} {al : List Addr} {H : Hp} (w : Wd K xl S al H) (h : Post K cm xl W R (.ok a S) al H) : R a S al H := h al H (Ext.refl _ _) w
end

abbrev RE (K : PySem.W.Frag) (xl : List Addr) (Q : VK) : D → DS → List Addr → Hp → Prop := fun d _ al' H' => ∀ v, Rep K xl al' H' d v → Q v H'
abbrev RT (Q : Bool → Hp → Prop) : Bool → DS → List Addr → Hp → Prop := fun b _ _ H' => Q b H'
abbrev RA (K : PySem.W.Frag) (xl : List Addr) (Q : List V → Hp → Prop) : List D → DS → List Addr → Hp → Prop := fun ds _ al' H' => ∀ vs, Reps K xl al' H' ds vs → Q vs H'
abbrev RG (K : PySem.W.Frag) (xl : List Addr) (Q : L2.St → Hp → Prop) : DE → DS → List Addr → Hp → Prop := fun env' _ al' H' => ∀ σ', EnvR K xl al' H' env' σ' → Q σ' H'
abbrev noW : WH := fun _ _ _ => False
def RS (K : PySem.W.Frag) (cm : CM) (xl : List Addr) (W : WX) (D0 : Ends) : Fl × DE → DS → List Addr → Hp → Prop := fun r _ al' H' => ∀ σ', EnvR K xl al' H' r.2 σ' → match r.1 with
  | .xc x => ∀ cls dx, XRep K cm xl al' H' x cls dx → W cls dx σ' H'
  | .nx => D0.nx σ' H'
  | .rt d => ∀ v, Rep K xl al' H' d v → D0.rt v H'
  | .bk => D0.bk σ' H'
  | .ct => D0.ct σ' H'

theorem Post.hereT {K : PySem.W.Frag} {cm : CM} {xl : List Addr} {W : WH} {Q : Bool → Hp → Prop} {b : Bool} {S : DS} {al : List Addr} {H : Hp} (w : Wd K xl S al H) (h : Post K cm xl W (RT Q) (.ok b S) al H) : Q b H := h al H (Ext.refl _ _) w
/-! a reading told by a function -/
def DenE (K : PySem.W.Frag) (cm : CM) (W : WX) (t : TE) (m : ME) : Prop := ∀ xl al σ H S env (Q : VK), Wd K xl S al H → EnvR K xl al H env σ → Post K cm xl (fun c d H' => W c d σ H') (RE K xl Q) (m env S) al H → t σ H Q
def DenT (K : PySem.W.Frag) (cm : CM) (W : WX) (t : TT) (m : MT) : Prop := ∀ xl al σ H S env (Q : Bool → Hp → Prop), Wd K xl S al H → EnvR K xl al H env σ → Post K cm xl (fun c d H' => W c d σ H') (RT Q) (m env S) al H → t σ H Q
def DenA (K : PySem.W.Frag) (cm : CM) (W : WX) (t : TA) (m : MA) : Prop := ∀ xl al σ H S env (Q : List V → Hp → Prop), Wd K xl S al H → EnvR K xl al H env σ → Post K cm xl (fun c d H' => W c d σ H') (RA K xl Q) (m env S) al H → t σ H Q
def DenG (K : PySem.W.Frag) (cm : CM) (t : TG) (m : MG) : Prop := ∀ xl al σ H S env d v (Q : L2.St → Hp → Prop), Wd K xl S al H → EnvR K xl al H env σ → Rep K xl al H d v → Post K cm xl noW (RG K xl Q) (m d env S) al H → t v σ H Q
def DenS (K : PySem.W.Frag) (cm : CM) (W : WX) (t : TS) (m : MS) : Prop := ∀ xl al σ H S env (D0 : Ends), Wd K xl S al H → EnvR K xl al H env σ →
  Post K cm xl noW (RS K cm xl W D0) (m env S) al H → t D0 σ H

def EOk (X : Cx) (cm : CM) (W : WX) (e : Expr) (m : ME) : Prop := ∃ t, PE X e t ∧ DenE X.K cm W t m
def TOk (X : Cx) (cm : CM) (W : WX) (e : Expr) (m : MT) : Prop := ∃ t, PT X e t ∧ DenT X.K cm W t m
def AOk (X : Cx) (cm : CM) (W : WX) (es : List Expr) (m : MA) : Prop := ∃ t, PA X es t ∧ DenA X.K cm W t m
def GOk (X : Cx) (cm : CM) (e : Expr) (m : MG) : Prop := ∃ t, PG X e t ∧ DenG X.K cm t m
def SOk (X : Cx) (cm : CM) (W : WX) (st : Stmt) (m : MS) : Prop := ∃ t, PS X st t ∧ DenS X.K cm W t m
def SsOk (X : Cx) (cm : CM) (W : WX) (sts : List Stmt) (m : MS) : Prop := ∃ t, PSs X sts t ∧ DenS X.K cm W t m
end DL

namespace DL
open PySem PySem.Spec PyProof.Rows L2

/-! combinators -/
def mC (d : D) : ME := fun _ S => .ok d S
def mV (i : Nat) : ME := fun env S => match env[i]? with
  | some (some d) => .ok d S
  | _ => .no
def m1 (f : D → DS → Ou D) (a : ME) : ME := fun env S => (a env S).bind f
def m2 (f : D → D → DS → Ou D) (a b : ME) : ME := fun env S => (a env S).bind fun x S1 => (b env S1).bind fun y S2 => f x y S2
def maN : MA := fun _ S => .ok [] S
def maC (a : ME) (r : MA) : MA := fun env S => (a env S).bind fun x S1 => (r env S1).bind fun xs S2 => .ok (x :: xs) S2
def mL (f : List D → DS → Ou D) (a : MA) : ME := fun env S => (a env S).bind f
def mT (a : ME) : MT := fun env S => (a env S).bind fun d S1 => match d with
  | .bl b => .ok b S1
  | _ => .no
def mAnd (a b : MT) : MT := fun env S => (a env S).bind fun c S1 => if c = true then b env S1 else .ok false S1
def mOr (a b : MT) : MT := fun env S => (a env S).bind fun c S1 => if c = true then .ok true S1 else b env S1
def mNot (a : MT) : MT := fun env S => (a env S).bind fun c S1 => .ok (!c) S1
def mAndV (a b : ME) : ME := fun env S => (a env S).bind fun d S1 => match d with
  | .bl c => if c = true then b env S1 else .ok (.bl false) S1
  | _ => .no
def mOrV (a b : ME) : ME := fun env S => (a env S).bind fun d S1 => match d with
  | .bl c => if c = true then .ok (.bl true) S1 else b env S1
  | _ => .no
def mNotV (a : ME) : ME := fun env S => (a env S).bind fun d S1 => match d with
  | .bl c => .ok (.bl (!c)) S1
  | _ => .no
def mIf (c : MT) (a b : ME) : ME := fun env S => (c env S).bind fun k S1 => if k = true then a env S1 else b env S1
def mChain (f g : D → D → DS → Ou D) (a b c : ME) : ME := fun env S => (a env S).bind fun x S1 => (b env S1).bind fun y S2 => (f x y S2).bind fun k S3 => match k with
  | .bl k => if k = true then (c env S3).bind fun z S4 => g y z S4 else .ok (.bl false) S3
  | _ => .no

section
variable {X : Cx} {cm : CM} {W : WX} {a b c e : Expr} {es : List Expr} {ma mb mc : ME} {pos : Pos}

/-! names, constants -/
theorem e_int {i : Int} {j : Nat} : EOk X cm W (.Constant (.int i) j pos) (mC (.int i)) := ⟨_, pe_int, fun xl al σ H S env Q w _ p => p.here w _ (.int i)⟩
theorem e_bl {i : Bool} {j : Nat} : EOk X cm W (.Constant (.bool i) j pos) (mC (.bl i)) := ⟨_, pe_bl, fun xl al σ H S env Q w _ p => p.here w _ (.bl i)⟩
theorem e_non {j : Nat} : EOk X cm W (.Constant .none j pos) (mC .non) := ⟨_, pe_non, fun xl al σ H S env Q w _ p => p.here w _ .non⟩
theorem e_str {x : Str} {j : Nat} : EOk X cm W (.Constant (.str x) j pos) (mC (.str x)) := ⟨_, pe_str, fun xl al σ H S env Q w _ p => p.here w _ (.str x)⟩
theorem e_var (i : Nat) {x : Str} (hN : X.N[i]? = some x := by rfl) (hv : Vis X.env.scope x := by first | exact Or.inl rfl | exact Or.inr (Or.inl rfl) | exact Or.inr (Or.inr rfl)) (hd : (x == ("__debug__" : Str)) = false := by decide)
    (hcd : (x == ("__classdict__" : Str)) = false := by decide) : EOk X cm W (.Name x pos) (mV i) := by
  refine ⟨_, pe_var hN hv hd hcd, fun xl al σ H S env Q w r p => ?_⟩
  unfold mV at p
  split at p
  · rename_i d e
    obtain ⟨v, h1, h2⟩ := r.at' i d e
    exact ⟨v, h1, p.here w v h2⟩
  · exact p.elim
/-- a constant of the module -/
theorem e_glob {x : Str} {d : D} {v : V} {u : Value} (hg : Gl X x) (hm : X.mg x = some u) (r : RelV v u) (h : ∀ xl al H, Rep X.K xl al H d v) (hd : (x == ("__debug__" : Str)) = false := by decide) : EOk X cm W (.Name x pos) (mC d) :=
  ⟨_, pe_glob hg hm r hd, fun xl al σ H S env Q w _ p => p.here w _ (h xl al H)⟩

/-! operators -/
def DenR2 (K : PySem.W.Frag) (cm : CM) (r : R2) (op : D → D → DS → Ou D) : Prop := ∀ xl al H S x y v u (Q : VK) (W0 : WH), Wd K xl S al H → Rep K xl al H x v → Rep K xl al H y u → Post K cm xl W0 (RE K xl Q) (op x y S) al H → r v u H Q
def DenR1 (K : PySem.W.Frag) (cm : CM) (r : V → Hp → VK → Prop) (op : D → DS → Ou D) : Prop := ∀ xl al H S x v (Q : VK) (W0 : WH), Wd K xl S al H → Rep K xl al H x v → Post K cm xl W0 (RE K xl Q) (op x S) al H → r v H Q
def DenRL (K : PySem.W.Frag) (cm : CM) (r : List V → Hp → VK → Prop) (op : List D → DS → Ou D) : Prop := ∀ xl al H S xs vs (Q : VK) (W0 : WH), Wd K xl S al H → Reps K xl al H xs vs → Post K cm xl W0 (RE K xl Q) (op xs S) al H → r vs H Q
def OOk (X : Cx) (cm : CM) (f : Value → Value → Sem Value) (op : D → D → DS → Ou D) : Prop := ∃ r, OpR X f r ∧ DenR2 X.K cm r op
def UOk (X : Cx) (cm : CM) (f : Value → Sem Value) (op : D → DS → Ou D) : Prop := ∃ r, UnR X f r ∧ DenR1 X.K cm r op
def IOk (X : Cx) (cm : CM) (op : D → D → DS → Ou D) : Prop := ∃ r, IxR X r ∧ DenR2 X.K cm r op
def COk (X : Cx) (cm : CM) (f : Value) (op : List D → DS → Ou D) : Prop := ∃ r, CallR X f r ∧ DenRL X.K cm r op

theorem den2 {r : R2} {op : D → D → DS → Ou D} {ta tb : TE} (dr : DenR2 X.K cm r op) (da : DenE X.K cm W ta ma) (db : DenE X.K cm W tb mb) : DenE X.K cm W (tOp r ta tb) (m2 op ma mb) := fun xl al σ H S env Q w e p => by
  refine da xl al σ H S env _ w e (p.bind.imp fun x S1 al1 H1 e1 w1 p1 v rv => ?_)
  refine db xl al1 σ H1 S1 env _ w1 (e.mono e1) (p1.bind.imp fun y S2 al2 H2 e2 w2 p2 u ru => ?_)
  exact dr xl al2 H2 S2 x y v u Q _ w2 (rv.mono e2) ru p2
theorem e_op {op : Operator} {f : D → D → DS → Ou D} (h : OOk X cm (binaryOp op) f) (ha : EOk X cm W a ma) (hb : EOk X cm W b mb) : EOk X cm W (.BinOp a op b pos) (m2 f ma mb) := by
  obtain ⟨r, hr, dr⟩ := h
  obtain ⟨ta, pa, da⟩ := ha
  obtain ⟨tb, pb, db⟩ := hb
  exact ⟨_, pe_op hr pa pb, den2 dr da db⟩
theorem e_un {op : UnaryOp} {f : D → DS → Ou D} (h : UOk X cm (unaryOp op) f) (ha : EOk X cm W a ma) : EOk X cm W (.UnaryOp op a pos) (m1 f ma) := by
  obtain ⟨r, hr, dr⟩ := h
  obtain ⟨ta, pa, da⟩ := ha
  refine ⟨_, pe_un hr pa, fun xl al σ H S env Q w e p => ?_⟩
  exact da xl al σ H S env _ w e (p.bind.imp fun x S1 al1 H1 e1 w1 p1 v rv => dr xl al1 H1 S1 x v Q _ w1 rv p1)
theorem e_cmp {op : CmpOp} {f : D → D → DS → Ou D} (h : OOk X cm (compareOp op) f) (ha : EOk X cm W a ma) (hb : EOk X cm W b mb) (hm : behindInMarks op b = false := by first | exact nomark _ | rfl) : EOk X cm W (.Compare a [op] [b] pos) (m2 f ma mb) := by
  obtain ⟨r, hr, dr⟩ := h
  obtain ⟨ta, pa, da⟩ := ha
  obtain ⟨tb, pb, db⟩ := hb
  exact ⟨_, pe_cmpR hr pa pb hm, den2 dr da db⟩
theorem e_chain {op op' : CmpOp} {f g : D → D → DS → Ou D} (h : OOk X cm (compareOp op) f) (h' : OOk X cm (compareOp op') g) (ha : EOk X cm W a ma) (hb : EOk X cm W b mb) (hc : EOk X cm W c mc)
    (hm : lastMarks [op, op'] [b, c] = false := by with_unfolding_all rfl) : EOk X cm W (.Compare a [op, op'] [b, c] pos) (mChain f g ma mb mc) := by
  obtain ⟨r, hr, dr⟩ := h
  obtain ⟨r', hr', dr'⟩ := h'
  obtain ⟨ta, pa, da⟩ := ha
  obtain ⟨tb, pb, db⟩ := hb
  obtain ⟨tc, pc, dc⟩ := hc
  refine ⟨_, pe_chain hr hr' pa pb pc hm, fun xl al σ H S env Q w e p => ?_⟩
  refine da xl al σ H S env _ w e (p.bind.imp fun x S1 al1 H1 e1 w1 p1 v rv => ?_)
  refine db xl al1 σ H1 S1 env _ w1 (e.mono e1) (p1.bind.imp fun y S2 al2 H2 e2 w2 p2 u ru => ?_)
  refine dr xl al2 H2 S2 x y v u _ _ w2 (rv.mono e2) ru (p2.bind.imp fun k S3 al3 H3 e3 w3 p3 kv rk => ?_)
  cases k with
  | bl k =>
    cases rk
    refine ⟨k, rfl, ?_⟩
    cases k with
    | true =>
      have p4 : Post X.K cm xl (fun c d H' => W c d σ H') (RE X.K xl Q) ((mc env S3).bind fun z S4 => g y z S4) al3 H3 := p3
      exact dc xl al3 σ H3 S3 env _ w3 (((e.mono e1).mono e2).mono e3) (p4.bind.imp fun z S4 al4 H4 e4 w4 p4 zv rz => dr' xl al4 H4 S4 y z u zv Q _ w4 ((ru.mono e3).mono e4) rz p4)
    | false => exact Post.here w3 p3 _ (.bl false)
  | _ => exact p3.elim

/-! tests -/
theorem t_val (h : EOk X cm W e ma) (he : ∀ whole, isTrue e X.env whole = (do let v ← whole; standAt e.pos; holding [v] (truthy v)) := by intro _; rfl) : TOk X cm W e (mT ma) := by
  obtain ⟨t, p, d⟩ := h
  refine ⟨_, pt_val p he, fun xl al σ H S env Q w r q => ?_⟩
  refine d xl al σ H S env _ w r (q.bind.imp fun x S1 al1 H1 e1 w1 p1 v rv => ?_)
  cases x with
  | bl k =>
    cases rv
    exact ⟨k, rfl, p1.here w1⟩
  | _ => exact p1.elim
theorem t_cmp {op : CmpOp} {f : D → D → DS → Ou D} (h : OOk X cm (compareOp op) f) (ha : EOk X cm W a ma) (hb : EOk X cm W b mb) (hm : behindInMarks op b = false := by first | exact nomark _ | rfl) : TOk X cm W (.Compare a [op] [b] pos) (mT (m2 f ma mb)) := by
  obtain ⟨r, hr, dr⟩ := h
  obtain ⟨ta, pa, da⟩ := ha
  obtain ⟨tb, pb, db⟩ := hb
  refine ⟨_, pt_cmpR hr pa pb hm, fun xl al σ H S env Q w r q => ?_⟩
  refine den2 dr da db xl al σ H S env _ w r (q.bind.imp fun x S1 al1 H1 e1 w1 p1 v rv => ?_)
  cases x with
  | bl k =>
    cases rv
    exact ⟨k, rfl, p1.here w1⟩
  | _ => exact p1.elim
theorem t_chain {op op' : CmpOp} {f g : D → D → DS → Ou D} (h : OOk X cm (compareOp op) f) (h' : OOk X cm (compareOp op') g) (ha : EOk X cm W a ma) (hb : EOk X cm W b mb) (hc : EOk X cm W c mc)
    (hm : lastMarks [op, op'] [b, c] = false := by with_unfolding_all rfl) : TOk X cm W (.Compare a [op, op'] [b, c] pos) (mT (mChain f g ma mb mc)) := by
  obtain ⟨r, hr, dr⟩ := h
  obtain ⟨r', hr', dr'⟩ := h'
  obtain ⟨ta, pa, da⟩ := ha
  obtain ⟨tb, pb, db⟩ := hb
  obtain ⟨tc, pc, dc⟩ := hc
  refine ⟨_, pt_chain hr hr' pa pb pc hm, fun xl al σ H S env Q w e p => ?_⟩
  replace p := p.bind
  refine da xl al σ H S env _ w e (p.bind.imp fun x S1 al1 H1 e1 w1 p1 v rv => ?_)
  refine db xl al1 σ H1 S1 env _ w1 (e.mono e1) (p1.bind.imp fun y S2 al2 H2 e2 w2 p2 u ru => ?_)
  refine dr xl al2 H2 S2 x y v u _ _ w2 (rv.mono e2) ru (p2.bind.imp fun k S3 al3 H3 e3 w3 p3 kv rk => ?_)
  cases k with
  | bl k =>
    cases rk
    refine ⟨k, rfl, ?_⟩
    cases k with
    | true =>
      have p4 : Post X.K cm xl (fun c d H' => W c d σ H') _ ((mc env S3).bind fun z S4 => g y z S4) al3 H3 := p3
      refine dc xl al3 σ H3 S3 env _ w3 (((e.mono e1).mono e2).mono e3) (p4.bind.imp fun z S4 al4 H4 e4 w4 p4 zv rz => dr' xl al4 H4 S4 y z u zv _ _ w4 ((ru.mono e3).mono e4) rz (p4.imp fun q S5 al5 H5 e5 w5 p5 qv rq => ?_))
      cases q with
      | bl q =>
        cases rq
        exact ⟨q, rfl, Post.here w5 p5⟩
      | _ => exact p5.elim
    | false => exact ⟨false, rfl, Post.here w3 (Post.here w3 p3)⟩
  | _ => exact p3.elim
theorem t_not {mt : MT} (h : TOk X cm W a mt) : TOk X cm W (.UnaryOp .Not a pos) (mNot mt) := by
  obtain ⟨t, p, d⟩ := h
  refine ⟨_, pt_not p, fun xl al σ H S env Q w r q => ?_⟩
  exact d xl al σ H S env _ w r (q.bind.imp fun x S1 al1 H1 e1 w1 p1 => Post.hereT w1 p1)
/-- whatever its 'whole' is -/
def WOk (X : Cx) (cm : CM) (W : WX) (e : Expr) (m : MT) : Prop := ∃ t, PW X e t ∧ DenT X.K cm W t m
theorem WOk.t {mt : MT} (h : WOk X cm W e mt) : TOk X cm W e mt := by
  obtain ⟨t, p, d⟩ := h
  exact ⟨t, p.pt, d⟩
theorem w_and1 {mt : MT} (h : TOk X cm W a mt) : WOk X cm W (.BoolOp .And [a] pos) mt := by
  obtain ⟨t, p, d⟩ := h
  exact ⟨t, pw_and1 p, d⟩
theorem w_or1 {mt : MT} (h : TOk X cm W a mt) : WOk X cm W (.BoolOp .Or [a] pos) mt := by
  obtain ⟨t, p, d⟩ := h
  exact ⟨t, pw_or1 p, d⟩
theorem w_and {mt mu : MT} (h : TOk X cm W a mt) (h' : WOk X cm W (.BoolOp .And (b :: es) pos) mu) : WOk X cm W (.BoolOp .And (a :: b :: es) pos) (mAnd mt mu) := by
  obtain ⟨t, p, d⟩ := h
  obtain ⟨t', p', d'⟩ := h'
  refine ⟨_, pw_and p p', fun xl al σ H S env Q w r q => ?_⟩
  refine d xl al σ H S env _ w r (q.bind.imp fun x S1 al1 H1 e1 w1 p1 => ?_)
  cases x with
  | true => exact d' xl al1 σ H1 S1 env Q w1 (r.mono e1) p1
  | false => exact Post.hereT w1 p1
theorem w_or {mt mu : MT} (h : TOk X cm W a mt) (h' : WOk X cm W (.BoolOp .Or (b :: es) pos) mu) : WOk X cm W (.BoolOp .Or (a :: b :: es) pos) (mOr mt mu) := by
  obtain ⟨t, p, d⟩ := h
  obtain ⟨t', p', d'⟩ := h'
  refine ⟨_, pw_or p p', fun xl al σ H S env Q w r q => ?_⟩
  refine d xl al σ H S env _ w r (q.bind.imp fun x S1 al1 H1 e1 w1 p1 => ?_)
  cases x with
  | false => exact d' xl al1 σ H1 S1 env Q w1 (r.mono e1) p1
  | true => exact Post.hereT w1 p1
/-! and, or, not as values -/
theorem e_one {op : BoolOp} (h : EOk X cm W a ma) : EOk X cm W (.BoolOp op [a] pos) ma := by
  obtain ⟨t, p, d⟩ := h
  exact ⟨t, pe_one p, d⟩
theorem e_and (h : EOk X cm W a ma) (h' : EOk X cm W (.BoolOp .And (b :: es) pos) mb) : EOk X cm W (.BoolOp .And (a :: b :: es) pos) (mAndV ma mb) := by
  obtain ⟨t, p, d⟩ := h
  obtain ⟨t', p', d'⟩ := h'
  refine ⟨_, pe_and p p', fun xl al σ H S env Q w r q => ?_⟩
  refine d xl al σ H S env _ w r (q.bind.imp fun x S1 al1 H1 e1 w1 p1 v rv => ?_)
  cases x with
  | bl c =>
    cases rv
    refine ⟨c, rfl, ?_⟩
    cases c with
    | true => exact d' xl al1 σ H1 S1 env Q w1 (r.mono e1) p1
    | false => exact Post.here w1 p1 _ (.bl false)
  | _ => exact p1.elim
theorem e_or (h : EOk X cm W a ma) (h' : EOk X cm W (.BoolOp .Or (b :: es) pos) mb) : EOk X cm W (.BoolOp .Or (a :: b :: es) pos) (mOrV ma mb) := by
  obtain ⟨t, p, d⟩ := h
  obtain ⟨t', p', d'⟩ := h'
  refine ⟨_, pe_or p p', fun xl al σ H S env Q w r q => ?_⟩
  refine d xl al σ H S env _ w r (q.bind.imp fun x S1 al1 H1 e1 w1 p1 v rv => ?_)
  cases x with
  | bl c =>
    cases rv
    refine ⟨c, rfl, ?_⟩
    cases c with
    | false => exact d' xl al1 σ H1 S1 env Q w1 (r.mono e1) p1
    | true => exact Post.here w1 p1 _ (.bl true)
  | _ => exact p1.elim
theorem e_not (h : EOk X cm W a ma) : EOk X cm W (.UnaryOp .Not a pos) (mNotV ma) := by
  obtain ⟨t, p, d⟩ := h
  refine ⟨_, pe_not p, fun xl al σ H S env Q w r q => ?_⟩
  refine d xl al σ H S env _ w r (q.bind.imp fun x S1 al1 H1 e1 w1 p1 v rv => ?_)
  cases x with
  | bl c =>
    cases rv
    exact ⟨c, rfl, p1.here w1 _ (.bl _)⟩
  | _ => exact p1.elim
theorem e_if {mt : MT} (hc : TOk X cm W c mt) (ha : EOk X cm W a ma) (hb : EOk X cm W b mb) : EOk X cm W (.IfExp c a b pos) (mIf mt ma mb) := by
  obtain ⟨tc, pc, dc⟩ := hc
  obtain ⟨ta, pa, da⟩ := ha
  obtain ⟨tb, pb, db⟩ := hb
  refine ⟨_, pe_ifExp pc pa pb, fun xl al σ H S env Q w r q => ?_⟩
  refine dc xl al σ H S env _ w r (q.bind.imp fun x S1 al1 H1 e1 w1 p1 => ?_)
  cases x with
  | true => exact da xl al1 σ H1 S1 env Q w1 (r.mono e1) p1
  | false => exact db xl al1 σ H1 S1 env Q w1 (r.mono e1) p1

/-! argument lists, displays, calls of built-ins -/
theorem a_nil : AOk X cm W [] maN := ⟨_, pa_nil, fun xl al σ H S env Q w r p => p.here w [] .nil⟩
theorem a_cons {mr : MA} (h : EOk X cm W e ma) (hr : AOk X cm W es mr) (hs : starEach (e :: es) X.env = (false, eval e X.env) :: starEach es X.env := by rfl) : AOk X cm W (e :: es) (maC ma mr) := by
  obtain ⟨t, p, d⟩ := h
  obtain ⟨t', p', d'⟩ := hr
  refine ⟨_, pa_cons p p' hs, fun xl al σ H S env Q w r q => ?_⟩
  refine d xl al σ H S env _ w r (q.bind.imp fun x S1 al1 H1 e1 w1 p1 v rv => ?_)
  refine d' xl al1 σ H1 S1 env _ w1 (r.mono e1) (p1.bind.imp fun xs S2 al2 H2 e2 w2 p2 vs rvs => ?_)
  exact p2.here w2 _ (.cons (rv.mono e2) rvs)
def tupO (xs : List D) (S : DS) : Ou D := if xs.length ≤ 1000 then .ok (.tup xs) S else .no
def lstO (xs : List D) (S : DS) : Ou D := if xs.length ≤ 1000 then .ok (.vl xs) S else .no
def refO (xs : List D) (S : DS) : Ou D := if xs.length ≤ 1000 then .ok (.ref S.length) (S ++ [.lst xs]) else .no
theorem le1000 {n : Nat} (h : n ≤ 1000) : n ≤ sizeLine := Nat.le_trans h (by decide)
theorem e_tup {mr : MA} {k : Nat} (h : AOk X cm W es mr) : EOk X cm W (.Tuple es k pos) (mL tupO mr) := by
  obtain ⟨t, p, d⟩ := h
  refine ⟨_, pe_tup p, fun xl al σ H S env Q w r q => ?_⟩
  refine d xl al σ H S env _ w r (q.bind.imp fun xs S1 al1 H1 e1 w1 p1 vs rvs => ?_)
  unfold tupO at p1
  split at p1
  · rename_i hl
    refine ⟨le1000 (rvs.length ▸ hl), fun a ha => ?_⟩
    exact p1 al1 _ (ext_new ha) (w1.put ha) _ (Rep.newTup (S := S1) ha rvs)
  · exact p1.elim
theorem e_lst {mr : MA} (h : AOk X cm W es mr) : EOk X cm W (.List es pos) (mL lstO mr) := by
  obtain ⟨t, p, d⟩ := h
  refine ⟨_, pe_lst p, fun xl al σ H S env Q w r q => ?_⟩
  refine d xl al σ H S env _ w r (q.bind.imp fun xs S1 al1 H1 e1 w1 p1 vs rvs => ?_)
  unfold lstO at p1
  split at p1
  · rename_i hl
    refine ⟨le1000 (rvs.length ▸ hl), fun a ha => ?_⟩
    exact p1 al1 _ (ext_new ha) (w1.put ha) _ (Rep.newLst w1 ha rvs)
  · exact p1.elim
theorem Rep.newRef {K : PySem.W.Frag} {xl al : List Addr} {S : DS} {H : Hp} {a : Addr} (w : Wd K xl S al H) : Rep K xl (al ++ [a]) H (.ref S.length) (.ref a) := by
  refine .ref ?_
  rw [← w.len, List.getElem?_append_right (Nat.le_refl _), Nat.sub_self]; rfl
theorem Rep.newRef' {K : PySem.W.Frag} {xl al : List Addr} {S : DS} {H H' : Hp} {a : Addr} (w : Wd K xl S al H) : Rep K xl (al ++ [a]) H' (.ref S.length) (.ref a) := by
  refine .ref ?_
  rw [← w.len, List.getElem?_append_right (Nat.le_refl _), Nat.sub_self]; rfl
/-- a list that will be changed -/
theorem e_ref {mr : MA} (h : AOk X cm W es mr) : EOk X cm W (.List es pos) (mL refO mr) := by
  obtain ⟨t, p, d⟩ := h
  refine ⟨_, pe_lst p, fun xl al σ H S env Q w r q => ?_⟩
  refine d xl al σ H S env _ w r (q.bind.imp fun xs S1 al1 H1 e1 w1 p1 vs rvs => ?_)
  unfold refO at p1
  split at p1
  · rename_i hl
    refine ⟨le1000 (rvs.length ▸ hl), fun a ha => ?_⟩
    exact p1 (al1 ++ [a]) _ (ext_ref w1 ha) (w1.addRef ha rvs) _ (Rep.newRef' w1)
  · exact p1.elim
theorem e_callB {x : Str} {id : String} {p : Pos} {f : List D → DS → Ou D} {mr : MA} (hc : COk X cm (.builtin id) f) (hg : Gl X x) (hm : X.mg x = none) (hv : bootBuiltins x = some (.builtin id)) (ha : AOk X cm W (e :: es) mr) (hn : x ≠ "__name__" := by decide) (hdb : (x == ("__debug__" : Str)) = false := by decide)
    (he : starEach (e :: es) X.env = (false, eval e X.env) :: starEach es X.env := by rfl) (hpl : (backTo pos (starEach es X.env)).any (·.1) = false := by rfl) : EOk X cm W (.Call (.Name x p) (e :: es) [] pos) (mL f mr) := by
  obtain ⟨r, hr, dr⟩ := hc
  obtain ⟨t, pt, d⟩ := ha
  refine ⟨_, pe_callB hr hg hm hv pt hn hdb he hpl, fun xl al σ H S env Q w e p => ?_⟩
  exact d xl al σ H S env _ w e (p.bind.imp fun xs S1 al1 H1 e1 w1 p1 vs rvs => dr xl al1 H1 S1 xs vs Q _ w1 rvs p1)
theorem e_callTy {x : Str} {T : String} {p : Pos} {f : List D → DS → Ou D} {mr : MA} (hc : COk X cm (.type T) f) (hg : Gl X x) (hm : X.mg x = none) (hv : bootBuiltins x = some (.type T)) (ha : AOk X cm W (e :: es) mr) (hn : x ≠ "__name__" := by decide) (hdb : (x == ("__debug__" : Str)) = false := by decide)
    (he : starEach (e :: es) X.env = (false, eval e X.env) :: starEach es X.env := by rfl) (hpl : (backTo pos (starEach es X.env)).any (·.1) = false := by rfl) : EOk X cm W (.Call (.Name x p) (e :: es) [] pos) (mL f mr) := by
  obtain ⟨r, hr, dr⟩ := hc
  obtain ⟨t, pt, d⟩ := ha
  refine ⟨_, pe_callTy hr hg hm hv pt hn hdb he hpl, fun xl al σ H S env Q w e p => ?_⟩
  exact d xl al σ H S env _ w e (p.bind.imp fun xs S1 al1 H1 e1 w1 p1 vs rvs => dr xl al1 H1 S1 xs vs Q _ w1 rvs p1)
/-! subscripts -/
theorem e_ix {f : D → D → DS → Ou D} (h : IOk X cm f) (ha : EOk X cm W a ma) (hb : EOk X cm W b mb) (hs : PlainIx b := by exact fun _ _ => rfl) : EOk X cm W (.Subscript a b pos) (m2 f ma mb) := by
  obtain ⟨r, hr, dr⟩ := h
  obtain ⟨ta, pa, da⟩ := ha
  obtain ⟨tb, pb, db⟩ := hb
  exact ⟨_, pe_ix hr pa pb hs, den2 dr da db⟩
/-- a part of a slice -/
abbrev MO := DE → DS → Ou (Option Int)
def moN : MO := fun _ S => .ok none S
def moS (a : ME) : MO := fun env S => (a env S).bind fun d S1 => match d with
  | .int i => .ok (some i) S1
  | _ => .no
def POk (X : Cx) (cm : CM) (W : WX) (e : Option Expr) (m : MO) : Prop := ∃ t, PO X e t ∧ ∀ xl al σ H S env (Q : Option Int → Hp → Prop), Wd X.K xl S al H → EnvR X.K xl al H env σ → Post X.K cm xl (fun c d H' => W c d σ H') (fun o _ _ H' => Q o H') (m env S) al H → t σ H Q
theorem p_none : POk X cm W none moN := ⟨_, po_none, fun xl al σ H S env Q w r p => p.here w⟩
theorem p_some (h : EOk X cm W e ma) : POk X cm W (some e) (moS ma) := by
  obtain ⟨t, p, d⟩ := h
  refine ⟨_, po_some p, fun xl al σ H S env Q w r q => ?_⟩
  refine d xl al σ H S env _ w r (q.bind.imp fun x S1 al1 H1 e1 w1 p1 v rv => ?_)
  cases x with
  | int i =>
    cases rv
    exact ⟨i, rfl, p1.here w1⟩
  | _ => exact p1.elim
def mSl (f : D → Option Int → Option Int → DS → Ou D) (a : ME) (lo hi : MO) : ME := fun env S => (a env S).bind fun x S1 => (lo env S1).bind fun l S2 => (hi env S2).bind fun u S3 => f x l u S3
def LOk (X : Cx) (cm : CM) (f : D → Option Int → Option Int → DS → Ou D) : Prop := ∃ r, SlR X r ∧ ∀ xl al H S x v lo hi (Q : VK) (W0 : WH), Wd X.K xl S al H → Rep X.K xl al H x v → Post X.K cm xl W0 (RE X.K xl Q) (f x lo hi S) al H → r v lo hi H Q
theorem e_slice {f : D → Option Int → Option Int → DS → Ou D} {lo hi : Option Expr} {ml mh : MO} {p2 : Pos} (h : LOk X cm f) (ha : EOk X cm W a ma) (hl : POk X cm W lo ml) (hu : POk X cm W hi mh) : EOk X cm W (.Subscript a (.Slice lo hi none p2) pos) (mSl f ma ml mh) := by
  obtain ⟨r, hr, dr⟩ := h
  obtain ⟨ta, pa, da⟩ := ha
  obtain ⟨tl, pl, dl⟩ := hl
  obtain ⟨th, ph, dh⟩ := hu
  refine ⟨_, pe_slice hr pa pl ph, fun xl al σ H S env Q w e p => ?_⟩
  refine da xl al σ H S env _ w e (p.bind.imp fun x S1 al1 H1 e1 w1 p1 v rv => ?_)
  refine dl xl al1 σ H1 S1 env _ w1 (e.mono e1) (p1.bind.imp fun l S2 al2 H2 e2 w2 p2 => ?_)
  refine dh xl al2 σ H2 S2 env _ w2 ((e.mono e1).mono e2) (p2.bind.imp fun u S3 al3 H3 e3 w3 p3 => ?_)
  exact dr xl al3 H3 S3 x v l u Q _ w3 ((rv.mono e2).mono e3) p3
end
end DL

namespace DL
open PySem PySem.Spec PyProof.Rows L2

/-! what the operators do with data -/
instance (i j : Int) : Decidable (CMul i j) := by unfold CMul; infer_instance
instance (i j : Int) : Decidable (CMulW i j) := by unfold CMulW; infer_instance
instance (i j : Int) : Decidable (CPow i j) := by unfold CPow; infer_instance
def CMulA (i j : Int) : Prop := CMul i j ∨ CMulW i j
instance (i j : Int) : Decidable (CMulA i j) := by unfold CMulA; infer_instance
def addO (x y : D) (S : DS) : Ou D := match x, y with
  | .int i, .int j => .ok (.int (i + j)) S
  | .str a, .str b => if a.length + b.length ≤ sizeLine then .ok (.str (a ++ b)) S else .no
  | .tup a, .tup b => if a.length + b.length ≤ sizeLine then .ok (.tup (a ++ b)) S else .no
  | .vl a, .vl b => if a.length + b.length ≤ sizeLine then .ok (.vl (a ++ b)) S else .no
  | _, _ => .no
def subO (x y : D) (S : DS) : Ou D := match x, y with
  | .int i, .int j => .ok (.int (i - j)) S
  | _, _ => .no
def repL {α : Type} (xs : List α) (k : Nat) : List α := (List.replicate k xs).flatten
def mulO (x y : D) (S : DS) : Ou D := match x, y with
  | .int i, .int j => if CMulA i j then .ok (.int (i * j)) S else .no
  | .tup xs, .int k => if xs ≠ [] ∧ 2 ≤ k ∧ k ≤ 1000 ∧ xs.length ≤ 1000 then .ok (.tup (repL xs k.toNat)) S else .no
  | .vl xs, .int k => if -(2 ^ 63) ≤ k ∧ k < 2 ^ 63 ∧ xs.length * k.toNat ≤ sizeLine then .ok (.vl (repL xs k.toNat)) S else .no
  | _, _ => .no
/-- [..] * n that will be changed -/
def mulR (x y : D) (S : DS) : Ou D := match x, y with
  | .vl xs, .int k => if -(2 ^ 63) ≤ k ∧ k < 2 ^ 63 ∧ xs.length * k.toNat ≤ sizeLine then .ok (.ref S.length) (S ++ [.lst (repL xs k.toNat)]) else .no
  | _, _ => .no
def modO (x y : D) (S : DS) : Ou D := match x, y with
  | .int i, .int j => if j ≠ 0 then .ok (.int (i.fmod j)) S else .no
  | _, _ => .no
def fdivO (x y : D) (S : DS) : Ou D := match x, y with
  | .int i, .int j => if j ≠ 0 ∧ Builtin.divisionGoesByPylong i j = false then .ok (.int (i.fdiv j)) S else .no
  | _, _ => .no
def powO (x y : D) (S : DS) : Ou D := match x, y with
  | .int i, .int j => if CPow i j then .ok (.int (i ^ j.toNat)) S else .no
  | _, _ => .no
def shlO (x y : D) (S : DS) : Ou D := match x, y with
  | .int i, .int j => if CPow i j then .ok (.int (i * 2 ^ j.toNat)) S else .no
  | _, _ => .no
def negO (x : D) (S : DS) : Ou D := match x with
  | .int i => .ok (.int (-i)) S
  | _ => .no

section
variable {X : Cx} {cm : CM} {xl al : List Addr} {H : Hp} {S : DS}
theorem rep_ref_lst {K : PySem.W.Frag} {xs : List D} {v : V} (h : Rep K xl al H (.vl xs) v) : ∃ a vs, v = .ref a ∧ H a = some (.lst vs) ∧ a ∉ al ∧ a ∉ xl ∧ Reps K xl al H xs vs := by
  cases h with
  | vl h n n' r => exact ⟨_, _, rfl, h, n, n', r⟩
theorem rep_tup {K : PySem.W.Frag} {xs : List D} {v : V} (h : Rep K xl al H (.tup xs) v) : ∃ a vs, v = .ref a ∧ SqT K H a vs ∧ Reps K xl al H xs vs := by
  cases h with
  | tup h r => exact ⟨_, _, rfl, h, r⟩
theorem Reps.rep {K : PySem.W.Frag} {xs : List D} {vs : List V} (r : Reps K xl al H xs vs) : ∀ k : Nat, Reps K xl al H (repL xs k) (List.replicate k vs).flatten
  | 0 => .nil
  | k + 1 => by
    show Reps K xl al H (List.replicate (k + 1) xs).flatten _
    rw [List.replicate_succ, List.flatten_cons, List.replicate_succ, List.flatten_cons]
    exact r.append (Reps.rep r k)
theorem o_add : OOk X cm (binaryOp .Add) addO := by
  refine ⟨_, op_add.or (op_add_str.or (op_catA.or op_cat)), fun xl al H S x y v u Q W0 w rv ru p => ?_⟩
  unfold addO at p
  split at p
  · cases rv; cases ru
    exact .inl ⟨_, _, rfl, rfl, p.here w _ (.int _)⟩
  · cases rv; cases ru
    split at p
    · rename_i hl
      exact .inr (.inl ⟨_, _, rfl, rfl, hl, p.here w _ (.str _)⟩)
    · exact p.elim
  · obtain ⟨a, vs, rfl, ha, r1⟩ := rep_tup rv
    obtain ⟨b, us, rfl, hb, r2⟩ := rep_tup ru
    split at p
    · rename_i hl
      refine .inr (.inr (.inl ⟨a, b, vs, us, rfl, rfl, ha, hb, by rw [← r1.length, ← r2.length]; exact hl, fun e => ?_, fun e e2 => ?_, fun e e2 q hq => ?_⟩))
      · subst e
        cases r1
        exact p.here w _ (.tup hb r2)
      · subst e2
        cases r2
        rw [List.append_nil] at p
        exact p.here w _ (.tup ha r1)
      · exact p al _ (ext_new hq) (w.put hq) _ (Rep.newTup (S := S) hq (r1.append r2))
    · exact p.elim
  · obtain ⟨a, vs, rfl, ha, na, nxa, r1⟩ := rep_ref_lst rv
    obtain ⟨b, us, rfl, hb, nb, nxb, r2⟩ := rep_ref_lst ru
    split at p
    · rename_i hl
      refine .inr (.inr (.inr ⟨a, b, vs, us, rfl, rfl, ha, hb, by rw [← r1.length, ← r2.length]; exact hl, fun q hq => ?_⟩))
      exact p al _ (ext_new hq) (w.put hq) _ (Rep.newLst w hq (r1.append r2))
    · exact p.elim
  · exact p.elim
theorem o_sub : OOk X cm (binaryOp .Sub) subO := by
  refine ⟨_, op_sub, fun xl al H S x y v u Q W0 w rv ru p => ?_⟩
  unfold subO at p
  split at p
  · cases rv; cases ru
    exact ⟨_, _, rfl, rfl, p.here w _ (.int _)⟩
  · exact p.elim
theorem op_mulA : OpR X (binaryOp .Mult) (rI CMulA fun i j => .int (i * j)) := opI fun _ _ _ _ _ _ _ hc q => mul_int q (hc.elim CMul.ok CMulW.ok)
theorem rep_len {α : Type} (xs : List α) (k : Nat) : (repL xs k).length = k * xs.length := by
  unfold repL
  induction k with
  | zero => simp
  | succ k ih => rw [List.replicate_succ, List.flatten_cons, List.length_append, ih, Nat.succ_mul, Nat.add_comm]
theorem o_mul : OOk X cm (binaryOp .Mult) mulO := by
  refine ⟨_, op_mulA.or (op_repT.or op_rep), fun xl al H S x y v u Q W0 w rv ru p => ?_⟩
  unfold mulO at p
  split at p
  · cases rv; cases ru
    split at p
    · rename_i hc
      exact .inl ⟨_, _, rfl, rfl, hc, p.here w _ (.int _)⟩
    · exact p.elim
  · obtain ⟨a, vs, rfl, ha, r1⟩ := rep_tup rv
    cases ru
    split at p
    · rename_i hc
      obtain ⟨h1, h2, h3, h4⟩ := hc
      refine .inr (.inl ⟨a, _, vs, rfl, rfl, ha, fun e => ?_, h2, h3, by rw [← r1.length]; exact h4, fun q hq => ?_⟩)
      · subst e
        cases r1
        exact h1 rfl
      · exact p al _ (ext_new hq) (w.put hq) _ (Rep.newTup (S := S) hq (r1.rep _))
    · exact p.elim
  · obtain ⟨a, vs, rfl, ha, na, nxa, r1⟩ := rep_ref_lst rv
    cases ru
    split at p
    · rename_i hc
      obtain ⟨h1, h2, h3⟩ := hc
      refine .inr (.inr ⟨a, _, vs, rfl, rfl, ha, h1, h2, by rw [← r1.length]; exact h3, fun q hq => ?_⟩)
      exact p al _ (ext_new hq) (w.put hq) _ (Rep.newLst w hq (r1.rep _))
    · exact p.elim
  · exact p.elim
theorem o_mulR : OOk X cm (binaryOp .Mult) mulR := by
  refine ⟨_, op_rep, fun xl al H S x y v u Q W0 w rv ru p => ?_⟩
  unfold mulR at p
  split at p
  · obtain ⟨a, vs, rfl, ha, na, nxa, r1⟩ := rep_ref_lst rv
    cases ru
    split at p
    · rename_i hc
      obtain ⟨h1, h2, h3⟩ := hc
      refine ⟨a, _, vs, rfl, rfl, ha, h1, h2, by rw [← r1.length]; exact h3, fun q hq => ?_⟩
      exact p (al ++ [q]) _ (ext_ref w hq) (w.addRef hq (r1.rep _)) _ (Rep.newRef' w)
    · exact p.elim
  · exact p.elim
theorem op_fdivP : OpR X (binaryOp .FloorDiv) (rI (fun i j => j ≠ 0 ∧ Builtin.divisionGoesByPylong i j = false) fun i j => .int (i.fdiv j)) := opI fun _ _ _ _ _ _ _ hc q => floordiv_int hc.1 q (.inl hc.2)
theorem o_mod : OOk X cm (binaryOp .Mod) modO := by
  refine ⟨_, op_modN, fun xl al H S x y v u Q W0 w rv ru p => ?_⟩
  unfold modO at p
  split at p
  · cases rv; cases ru
    split at p
    · rename_i hc
      exact ⟨_, _, rfl, rfl, hc, p.here w _ (.int _)⟩
    · exact p.elim
  · exact p.elim
theorem o_fdiv : OOk X cm (binaryOp .FloorDiv) fdivO := by
  refine ⟨_, op_fdivP, fun xl al H S x y v u Q W0 w rv ru p => ?_⟩
  unfold fdivO at p
  split at p
  · cases rv; cases ru
    split at p
    · rename_i hc
      exact ⟨_, _, rfl, rfl, hc, p.here w _ (.int _)⟩
    · exact p.elim
  · exact p.elim
theorem o_pow : OOk X cm (binaryOp .Pow) powO := by
  refine ⟨_, op_pow, fun xl al H S x y v u Q W0 w rv ru p => ?_⟩
  unfold powO at p
  split at p
  · cases rv; cases ru
    split at p
    · rename_i hc
      exact ⟨_, _, rfl, rfl, hc, p.here w _ (.int _)⟩
    · exact p.elim
  · exact p.elim
theorem o_shl : OOk X cm (binaryOp .LShift) shlO := by
  refine ⟨_, op_shl, fun xl al H S x y v u Q W0 w rv ru p => ?_⟩
  unfold shlO at p
  split at p
  · cases rv; cases ru
    split at p
    · rename_i hc
      exact ⟨_, _, rfl, rfl, hc, p.here w _ (.int _)⟩
    · exact p.elim
  · exact p.elim
theorem u_neg : UOk X cm (unaryOp .USub) negO := by
  refine ⟨_, un_neg, fun xl al H S x v Q W0 w rv p => ?_⟩
  unfold negO at p
  split at p
  · cases rv
    exact ⟨_, rfl, p.here w _ (.int _)⟩
  · exact p.elim
end

/-! comparisons -/
mutual
/-- as plain data -/
def toPy : D → Option PyData
  | .non => some .none
  | .bl b => some (.bool b)
  | .int i => some (.int i)
  | .str x => some (.str x)
  | .tup xs => (toPys xs).map .tuple
  | .vl xs => (toPys xs).map .list
  | .fz xs => (toPys xs).map .list
  | .ref _ => none
def toPys : List D → Option (List PyData)
  | [] => some []
  | x :: xs => match toPy x, toPys xs with
    | some d, some ds => some (d :: ds)
    | _, _ => none
end
section
variable {K : PySem.W.Frag} {xl al : List Addr} {H : Hp}
mutual
theorem Rep.dp : ∀ {d : D} {v : V} {q : PyData}, Rep K xl al H d v → toPy d = some q → Dp K H v q
  | _, _, _, .non, e => by simp only [toPy] at e; cases e; exact .non
  | _, _, _, .bl b, e => by simp only [toPy] at e; cases e; exact .bl b
  | _, _, _, .int i, e => by simp only [toPy] at e; cases e; exact .int i
  | _, _, _, .str x, e => by simp only [toPy] at e; cases e; exact .str x
  | _, _, _, .tup h r, e => by
    simp only [toPy, Option.map_eq_some_iff] at e
    obtain ⟨ds, e1, rfl⟩ := e
    exact .tup h (r.dps e1)
  | _, _, _, .vl h _ _ r, e => by
    simp only [toPy, Option.map_eq_some_iff] at e
    obtain ⟨ds, e1, rfl⟩ := e
    exact .lst (.inl (.inl h)) (r.dps e1)
  | _, _, _, .fz h _ r, e => by
    simp only [toPy, Option.map_eq_some_iff] at e
    obtain ⟨ds, e1, rfl⟩ := e
    exact .lst (.inl (.inr ⟨_, h⟩)) (r.dps e1)
  | _, _, _, .fzK _ _ h r, e => by
    simp only [toPy, Option.map_eq_some_iff] at e
    obtain ⟨ds, e1, rfl⟩ := e
    exact .lst (h H) (r.dps e1)
  | _, _, _, .ref h, e => by simp only [toPy] at e; cases e
theorem Reps.dps : ∀ {ds : List D} {vs : List V} {qs : List PyData}, Reps K xl al H ds vs → toPys ds = some qs → DpAll K H vs qs
  | _, _, _, .nil, e => by simp only [toPys] at e; cases e; exact .nil
  | _, _, _, .cons h r, e => by
    simp only [toPys] at e
    split at e
    · rename_i e1 e2
      cases e
      exact .cons (h.dp e1) (r.dps e2)
    · cases e
end
end
def scalD (x y : D) : Option Bool := match x, y with
  | .int i, .int j => some (decide (i = j))
  | .str i, .str j => some (decide (i = j))
  | .bl i, .bl j => some (decide (i = j))
  | .non, .non => some true
  | .int _, .str _ => some false
  | .str _, .int _ => some false
  | .bl _, .str _ => some false
  | .str _, .bl _ => some false
  | .non, .int _ => some false
  | .int _, .non => some false
  | .non, .str _ => some false
  | .str _, .non => some false
  | .non, .bl _ => some false
  | .bl _, .non => some false
  | _, _ => none
def eqP (x y : D) : Option Bool := match toPy x, toPy y with
  | some a, some b => if SeqAt.shaped a = true ∧ SeqAt.shaped b = true then some (PyData.eqv a b) else none
  | _, _ => none
def eqB (x y : D) : Option Bool := match scalD x y with
  | some b => some b
  | none => eqP x y
def eqO (x y : D) (S : DS) : Ou D := match eqB x y with
  | some b => .ok (.bl b) S
  | none => .no
def neO (x y : D) (S : DS) : Ou D := match eqB x y with
  | some b => .ok (.bl (!b)) S
  | none => .no
def cmpO (f : Int → Int → Bool) (x y : D) (S : DS) : Ou D := match x, y with
  | .int i, .int j => .ok (.bl (f i j)) S
  | _, _ => .no
abbrev ltO := cmpO fun i j => decide (i < j)
abbrev leO := cmpO fun i j => decide (i ≤ j)
abbrev gtO := cmpO fun i j => decide (j < i)
abbrev geO := cmpO fun i j => decide (j ≤ i)
def isO (x y : D) (S : DS) : Ou D := match x, y with
  | .non, .non => .ok (.bl true) S
  | _, .non => .ok (.bl false) S
  | .bl a, .bl b => .ok (.bl (decide (a = b))) S
  | _, _ => .no
def isnO (x y : D) (S : DS) : Ou D := match x, y with
  | .non, .non => .ok (.bl false) S
  | _, .non => .ok (.bl true) S
  | .bl a, .bl b => .ok (.bl (!decide (a = b))) S
  | _, _ => .no
section
variable {X : Cx} {cm : CM}
theorem scalD_rep {K : PySem.W.Frag} {xl al : List Addr} {H : Hp} {x y : D} {v u : V} {b : Bool} (h : scalD x y = some b) (rv : Rep K xl al H x v) (ru : Rep K xl al H y u) : scal v u = true ∧ decide (v = u) = b := by
  unfold scalD at h
  split at h <;> first | (cases h; cases rv; cases ru; exact ⟨rfl, by simp⟩) | cases h
theorem eqP_rep {K : PySem.W.Frag} {xl al : List Addr} {H : Hp} {x y : D} {v u : V} {b : Bool} (h : eqP x y = some b) (rv : Rep K xl al H x v) (ru : Rep K xl al H y u) :
    ∃ p q, Dp K H v p ∧ Dp K H u q ∧ SeqAt.shaped p = true ∧ SeqAt.shaped q = true ∧ PyData.eqv p q = b := by
  unfold eqP at h
  split at h
  · rename_i a b e1 e2
    split at h
    · rename_i hs
      cases h
      exact ⟨a, b, rv.dp e1, ru.dp e2, hs.1, hs.2, rfl⟩
    · cases h
  · cases h
theorem o_eq (hu : X.A.units + 64 < cLine) : OOk X cm (compareOp .Eq) eqO := by
  refine ⟨_, op_eq.or (op_eqD hu), fun xl al H S x y v u Q W0 w rv ru p => ?_⟩
  unfold eqO at p
  split at p
  · rename_i b hb
    unfold eqB at hb
    split at hb
    · rename_i b' h
      cases hb
      obtain ⟨h1, rfl⟩ := scalD_rep h rv ru
      exact .inl ⟨h1, p.here w _ (.bl _)⟩
    · obtain ⟨a, c, h1, h2, h3, h4, rfl⟩ := eqP_rep hb rv ru
      exact .inr ⟨a, c, h1, h2, h3, h4, p.here w _ (.bl _)⟩
  · exact p.elim
theorem o_ne (hu : X.A.units + 64 < cLine) : OOk X cm (compareOp .NotEq) neO := by
  refine ⟨_, op_ne.or (op_neD hu), fun xl al H S x y v u Q W0 w rv ru p => ?_⟩
  unfold neO at p
  split at p
  · rename_i b hb
    unfold eqB at hb
    split at hb
    · rename_i b' h
      cases hb
      obtain ⟨h1, rfl⟩ := scalD_rep h rv ru
      exact .inl ⟨h1, p.here w _ (.bl _)⟩
    · obtain ⟨a, c, h1, h2, h3, h4, rfl⟩ := eqP_rep hb rv ru
      exact .inr ⟨a, c, h1, h2, h3, h4, p.here w _ (.bl _)⟩
  · exact p.elim
theorem o_cmp {op : CmpOp} {f : Int → Int → Bool} (h : OpR X (compareOp op) (rI0 fun i j => .bl (f i j))) : OOk X cm (compareOp op) (cmpO f) := by
  refine ⟨_, h, fun xl al H S x y v u Q W0 w rv ru p => ?_⟩
  unfold cmpO at p
  split at p
  · cases rv; cases ru
    exact ⟨_, _, rfl, rfl, p.here w _ (.bl _)⟩
  · exact p.elim
theorem o_lt : OOk X cm (compareOp .Lt) ltO := o_cmp op_lt
theorem o_le : OOk X cm (compareOp .LtE) leO := o_cmp op_le
theorem o_gt : OOk X cm (compareOp .Gt) gtO := o_cmp op_gt
theorem o_ge : OOk X cm (compareOp .GtE) geO := o_cmp op_ge
theorem o_is : OOk X cm (compareOp .Is) isO := by
  refine ⟨_, op_isN.or op_isBl, fun xl al H S x y v u Q W0 w rv ru p => ?_⟩
  unfold isO at p
  split at p
  · cases rv; cases ru
    exact .inl ⟨rfl, p.here w _ (.bl _)⟩
  · rename_i h
    cases ru
    refine .inl ⟨rfl, ?_⟩
    have hn : decide (v = V.non) = false := decide_eq_false fun e => by
      subst e
      cases rv
      exact h rfl
    rw [hn]
    exact p.here w _ (.bl _)
  · cases rv; cases ru
    exact .inr ⟨_, _, rfl, rfl, p.here w _ (.bl _)⟩
  · exact p.elim
theorem o_isn : OOk X cm (compareOp .IsNot) isnO := by
  refine ⟨_, op_notN.or op_notBl, fun xl al H S x y v u Q W0 w rv ru p => ?_⟩
  unfold isnO at p
  split at p
  · cases rv; cases ru
    exact .inl ⟨rfl, p.here w _ (.bl _)⟩
  · rename_i h
    cases ru
    refine .inl ⟨rfl, ?_⟩
    have hn : decide (v = V.non) = false := decide_eq_false fun e => by
      subst e
      cases rv
      exact h rfl
    rw [hn]
    exact p.here w _ (.bl _)
  · cases rv; cases ru
    exact .inr ⟨_, _, rfl, rfl, p.here w _ (.bl _)⟩
  · exact p.elim
end

/-! subscripts, slices -/
def getI (xs : List D) (i : Int) (S : DS) : Ou D := match atI xs i with
  | some d => .ok d S
  | none => .no
def ixO (x y : D) (S : DS) : Ou D := match x, y with
  | .tup xs, .int i => getI xs i S
  | .vl xs, .int i => getI xs i S
  | .fz xs, .int i => getI xs i S
  | .ref p, .int i => match S[p]? with
    | some (DO.lst xs) => getI xs i S
    | none => .no
  | _, _ => .no
theorem atI_rep {K : PySem.W.Frag} {xl al : List Addr} {H : Hp} {xs : List D} {vs : List V} (r : Reps K xl al H xs vs) {i : Int} {d : D} (h : atI xs i = some d) : ∃ v, atI vs i = some v ∧ Rep K xl al H d v := by
  unfold atI at h ⊢
  rw [r.length] at h
  cases e : ixN vs.length i with
  | none => rw [e] at h; cases h
  | some j =>
    rw [e] at h
    exact r.get h
section
variable {X : Cx} {cm : CM}
theorem getI_ok {K : PySem.W.Frag} {xl al : List Addr} {H : Hp} {S : DS} {Q : VK} {W0 : WH} {xs : List D} {vs : List V} {i : Int} (w : Wd K xl S al H) (r : Reps K xl al H xs vs) (p : Post K cm xl W0 (RE K xl Q) (getI xs i S) al H) :
    ∃ v, atI vs i = some v ∧ Q v H := by
  unfold getI at p
  split at p
  · rename_i d e
    obtain ⟨v, h1, h2⟩ := atI_rep r e
    exact ⟨v, h1, p.here w _ h2⟩
  · exact p.elim
theorem i_seq : IOk X cm ixO := by
  refine ⟨_, ix_list.or ix_tup, fun xl al H S x y v u Q W0 w rv ru p => ?_⟩
  unfold ixO at p
  split at p
  · obtain ⟨a, vs, rfl, ha, r1⟩ := rep_tup rv
    cases ru
    obtain ⟨z, h1, h2⟩ := getI_ok w r1 p
    exact .inr ⟨a, vs, _, z, rfl, rfl, ha, h1, h2⟩
  · obtain ⟨a, vs, rfl, ha, na, nxa, r1⟩ := rep_ref_lst rv
    cases ru
    obtain ⟨z, h1, h2⟩ := getI_ok w r1 p
    exact .inl ⟨a, vs, _, z, rfl, rfl, SqL.of ha, h1, h2⟩
  · cases ru
    cases rv with
    | fz h n r =>
      obtain ⟨z, h1, h2⟩ := getI_ok w r p
      exact .inl ⟨_, _, _, z, rfl, rfl, .inl (.inr ⟨_, h⟩), h1, h2⟩
    | fzK k c h r =>
      obtain ⟨z, h1, h2⟩ := getI_ok w r p
      exact .inl ⟨_, _, _, z, rfl, rfl, h H, h1, h2⟩
  · cases ru
    split at p
    · rename_i xs e
      cases rv with
      | ref h =>
        obtain ⟨a, vs, h1, h2, h3⟩ := w.list e
        rw [h] at h1; cases h1
        obtain ⟨z, h4, h5⟩ := getI_ok w h3 p
        exact .inl ⟨_, _, _, z, rfl, rfl, SqL.of h2, h4, h5⟩
    · exact p.elim
  · exact p.elim
end
def cutD (xs : List D) (lo hi : Option Int) : List D := (xs.drop (HT.sIx xs.length 0 lo)).take (HT.sIx xs.length xs.length hi - HT.sIx xs.length 0 lo)
theorem Reps.cut {K : PySem.W.Frag} {xl al : List Addr} {H : Hp} {xs : List D} {vs : List V} (r : Reps K xl al H xs vs) (lo hi : Option Int) : Reps K xl al H (cutD xs lo hi) (cutV vs lo hi) := by
  unfold cutD cutV
  rw [r.length]
  exact (r.drop _).take _
def slO (x : D) (lo hi : Option Int) (S : DS) : Ou D := match x with
  | .tup xs => .ok (.tup (cutD xs lo hi)) S
  | .vl xs => .ok (.vl (cutD xs lo hi)) S
  | .fz xs => .ok (.vl (cutD xs lo hi)) S
  | .ref p => match S[p]? with
    | some (DO.lst xs) => .ok (.vl (cutD xs lo hi)) S
    | none => .no
  | .str z => if z.length ≤ sizeLine then .ok (.str (cutS z lo hi)) S else .no
  | _ => .no
section
variable {X : Cx} {cm : CM}
theorem l_seq : LOk X cm slO := by
  refine ⟨_, sl_list.or (sl_tupA.or sl_str), fun xl al H S x v lo hi Q W0 w rv p => ?_⟩
  unfold slO at p
  split at p
  · obtain ⟨a, vs, rfl, ha, r1⟩ := rep_tup rv
    refine .inr (.inl ⟨a, vs, rfl, ha, fun hw => ?_, fun _ q hq => ?_⟩)
    · have r2 := r1.cut lo hi
      have e : cutV vs lo hi = vs := by
        unfold cutV
        rw [hw.1, hw.2]
        simp
      rw [e] at r2
      exact p.here w _ (.tup ha r2)
    · exact p al _ (ext_new hq) (w.put hq) _ (Rep.newTup (S := S) hq (r1.cut lo hi))
  · obtain ⟨a, vs, rfl, ha, na, nxa, r1⟩ := rep_ref_lst rv
    refine .inl ⟨a, vs, rfl, SqL.of ha, fun q hq => ?_⟩
    exact p al _ (ext_new hq) (w.put hq) _ (Rep.newLst w hq (r1.cut lo hi))
  · cases rv with
    | fz h n r =>
      refine .inl ⟨_, _, rfl, .inl (.inr ⟨_, h⟩), fun q hq => ?_⟩
      exact p al _ (ext_new hq) (w.put hq) _ (Rep.newLst w hq (r.cut lo hi))
    | fzK k c h r =>
      refine .inl ⟨_, _, rfl, h H, fun q hq => ?_⟩
      exact p al _ (ext_new hq) (w.put hq) _ (Rep.newLst w hq (r.cut lo hi))
  · split at p
    · rename_i xs e
      cases rv with
      | ref h =>
        obtain ⟨a, vs, h1, h2, h3⟩ := w.list e
        rw [h] at h1; cases h1
        refine .inl ⟨_, vs, rfl, SqL.of h2, fun q hq => ?_⟩
        exact p al _ (ext_new hq) (w.put hq) _ (Rep.newLst w hq (h3.cut lo hi))
    · exact p.elim
  · cases rv
    split at p
    · rename_i hl
      exact .inr (.inr ⟨_, rfl, hl, p.here w _ (.str _)⟩)
    · exact p.elim
  · exact p.elim
end

/-! built-in functions -/
def lenO (xs : List D) (S : DS) : Ou D := match xs with
  | [.tup ys] => .ok (.int ys.length) S
  | [.vl ys] => .ok (.int ys.length) S
  | [.fz ys] => .ok (.int ys.length) S
  | [.ref p] => match S[p]? with
    | some (DO.lst ys) => .ok (.int ys.length) S
    | none => .no
  | [.str z] => if z.length ≤ sizeLine then .ok (.int z.length) S else .no
  | _ => .no
def absO (xs : List D) (S : DS) : Ou D := match xs with
  | [.int i] => .ok (.int (if i < 0 then -i else i)) S
  | _ => .no
def intO (xs : List D) (S : DS) : Ou D := match xs with
  | [.int i] => .ok (.int i) S
  | [.bl k] => .ok (.int (if k then 1 else 0)) S
  | _ => .no
def tupleO (xs : List D) (S : DS) : Ou D := match xs with
  | [.tup ys] => .ok (.tup ys) S
  | [.vl ys] => .ok (.tup ys) S
  | [.fz ys] => .ok (.tup ys) S
  | [.ref p] => match S[p]? with
    | some (DO.lst ys) => .ok (.tup ys) S
    | none => .no
  | _ => .no
def listO (xs : List D) (S : DS) : Ou D := match xs with
  | [.tup ys] => .ok (.vl ys) S
  | [.vl ys] => .ok (.vl ys) S
  | [.fz ys] => .ok (.vl ys) S
  | [.ref p] => match S[p]? with
    | some (DO.lst ys) => .ok (.vl ys) S
    | none => .no
  | _ => .no
def asBls : List D → Option (List Bool)
  | [] => some []
  | .bl b :: r => (asBls r).map (b :: ·)
  | _ => none
def asInts : List D → Option (List Int)
  | [] => some []
  | .int i :: r => (asInts r).map (i :: ·)
  | _ => none
def blsO (f : List Bool → Bool) (xs : List D) (S : DS) : Ou D := match xs with
  | [.vl ys] => match asBls ys with
    | some bs => .ok (.bl (f bs)) S
    | none => .no
  | _ => .no
abbrev allO := blsO fun bs => bs.all id
abbrev anyO := blsO fun bs => bs.any id
def sumO (xs : List D) (S : DS) : Ou D := match xs with
  | [.vl ys] => match asInts ys with
    | some ns => .ok (.int ns.sum) S
    | none => .no
  | _ => .no
def min2O (xs : List D) (S : DS) : Ou D := match xs with
  | [.int i, .int j] => .ok (.int (if j < i then j else i)) S
  | _ => .no
def max2O (xs : List D) (S : DS) : Ou D := match xs with
  | [.int i, .int j] => .ok (.int (if j > i then j else i)) S
  | _ => .no
section
variable {X : Cx} {cm : CM} {K : PySem.W.Frag} {xl al : List Addr} {H : Hp}
theorem reps1 {d : D} {vs : List V} (r : Reps K xl al H [d] vs) : ∃ v, vs = [v] ∧ Rep K xl al H d v := by
  cases r with
  | cons h r => cases r; exact ⟨_, rfl, h⟩
theorem reps2 {d e : D} {vs : List V} (r : Reps K xl al H [d, e] vs) : ∃ v u, vs = [v, u] ∧ Rep K xl al H d v ∧ Rep K xl al H e u := by
  cases r with
  | cons h r =>
    obtain ⟨u, rfl, h2⟩ := reps1 r
    exact ⟨_, _, rfl, h, h2⟩
theorem asBls_rep : ∀ {ds : List D} {vs : List V} {bs : List Bool}, Reps K xl al H ds vs → asBls ds = some bs → vs = bs.map V.bl
  | _, _, _, .nil, e => by simp only [asBls] at e; cases e; rfl
  | _, _, _, .cons h r, e => by
    cases h <;> simp only [asBls] at e <;> try (cases e)
    rw [Option.map_eq_some_iff] at e
    obtain ⟨bs, e1, rfl⟩ := e
    rw [List.map_cons, asBls_rep r e1]
theorem asInts_rep : ∀ {ds : List D} {vs : List V} {ns : List Int}, Reps K xl al H ds vs → asInts ds = some ns → vs = ns.map V.int
  | _, _, _, .nil, e => by simp only [asInts] at e; cases e; rfl
  | _, _, _, .cons h r, e => by
    cases h <;> simp only [asInts] at e <;> try (cases e)
    rw [Option.map_eq_some_iff] at e
    obtain ⟨bs, e1, rfl⟩ := e
    rw [List.map_cons, asInts_rep r e1]
theorem c_len : COk X cm (.builtin "len") lenO := by
  refine ⟨_, call_len_seq.or call_len_str, fun xl al H S xs vs Q W0 w rs p => ?_⟩
  unfold lenO at p
  split at p
  · obtain ⟨v, rfl, rv⟩ := reps1 rs
    obtain ⟨a, us, rfl, ha, r1⟩ := rep_tup rv
    refine .inl ⟨a, us, rfl, .inr ha, ?_⟩
    rw [← r1.length]
    exact p.here w _ (.int _)
  · obtain ⟨v, rfl, rv⟩ := reps1 rs
    obtain ⟨a, us, rfl, ha, na, nxa, r1⟩ := rep_ref_lst rv
    refine .inl ⟨a, us, rfl, .inl (SqL.of ha), ?_⟩
    rw [← r1.length]
    exact p.here w _ (.int _)
  · obtain ⟨v, rfl, rv⟩ := reps1 rs
    cases rv with
    | fz h n r =>
      refine .inl ⟨_, _, rfl, .inl (.inl (.inr ⟨_, h⟩)), ?_⟩
      rw [← r.length]
      exact p.here w _ (.int _)
    | fzK k c h r =>
      refine .inl ⟨_, _, rfl, .inl (h H), ?_⟩
      rw [← r.length]
      exact p.here w _ (.int _)
  · obtain ⟨v, rfl, rv⟩ := reps1 rs
    split at p
    · rename_i ys e
      cases rv with
      | ref h =>
        obtain ⟨a, us, h1, h2, h3⟩ := w.list e
        rw [h] at h1; cases h1
        refine .inl ⟨_, _, rfl, .inl (SqL.of h2), ?_⟩
        rw [← h3.length]
        exact p.here w _ (.int _)
    · exact p.elim
  · obtain ⟨v, rfl, rv⟩ := reps1 rs
    cases rv
    split at p
    · rename_i hl
      exact .inr ⟨_, rfl, hl, p.here w _ (.int _)⟩
    · exact p.elim
  · exact p.elim
theorem c_abs : COk X cm (.builtin "abs") absO := by
  refine ⟨_, call_abs, fun xl al H S xs vs Q W0 w rs p => ?_⟩
  unfold absO at p
  split at p
  · obtain ⟨v, rfl, rv⟩ := reps1 rs
    cases rv
    exact ⟨_, rfl, p.here w _ (.int _)⟩
  · exact p.elim
theorem c_int : COk X cm (.type "int") intO := by
  refine ⟨_, call_int1, fun xl al H S xs vs Q W0 w rs p => ?_⟩
  unfold intO at p
  split at p
  · obtain ⟨v, rfl, rv⟩ := reps1 rs
    cases rv
    exact .inl ⟨_, rfl, p.here w _ (.int _)⟩
  · obtain ⟨v, rfl, rv⟩ := reps1 rs
    cases rv
    exact .inr ⟨_, rfl, p.here w _ (.int _)⟩
  · exact p.elim
theorem c_tuple : COk X cm (.type "tuple") tupleO := by
  refine ⟨_, call_tuple_of, fun xl al H S xs vs Q W0 w rs p => ?_⟩
  unfold tupleO at p
  split at p
  · obtain ⟨v, rfl, rv⟩ := reps1 rs
    obtain ⟨a, us, rfl, ha, r1⟩ := rep_tup rv
    exact ⟨a, us, rfl, .inr ⟨ha, p.here w _ (.tup ha r1)⟩⟩
  · obtain ⟨v, rfl, rv⟩ := reps1 rs
    obtain ⟨a, us, rfl, ha, na, nxa, r1⟩ := rep_ref_lst rv
    exact ⟨a, us, rfl, .inl ⟨SqL.of ha, fun q hq => p al _ (ext_new hq) (w.put hq) _ (Rep.newTup (S := S) hq r1)⟩⟩
  · obtain ⟨v, rfl, rv⟩ := reps1 rs
    cases rv with
    | fz h n r => exact ⟨_, _, rfl, .inl ⟨.inl (.inr ⟨_, h⟩), fun q hq => p al _ (ext_new hq) (w.put hq) _ (Rep.newTup (S := S) hq r)⟩⟩
    | fzK k c h r => exact ⟨_, _, rfl, .inl ⟨h H, fun q hq => p al _ (ext_new hq) (w.put hq) _ (Rep.newTup (S := S) hq r)⟩⟩
  · obtain ⟨v, rfl, rv⟩ := reps1 rs
    split at p
    · rename_i ys e
      cases rv with
      | ref h =>
        obtain ⟨a, us, h1, h2, h3⟩ := w.list e
        rw [h] at h1; cases h1
        exact ⟨_, _, rfl, .inl ⟨SqL.of h2, fun q hq => p al _ (ext_new hq) (w.put hq) _ (Rep.newTup (S := S) hq h3)⟩⟩
    · exact p.elim
  · exact p.elim
theorem c_list : COk X cm (.type "list") listO := by
  refine ⟨_, call_list_of, fun xl al H S xs vs Q W0 w rs p => ?_⟩
  unfold listO at p
  split at p
  · obtain ⟨v, rfl, rv⟩ := reps1 rs
    obtain ⟨a, us, rfl, ha, r1⟩ := rep_tup rv
    exact ⟨a, us, rfl, .inr ha, fun q hq => p al _ (ext_new hq) (w.put hq) _ (Rep.newLst w hq r1)⟩
  · obtain ⟨v, rfl, rv⟩ := reps1 rs
    obtain ⟨a, us, rfl, ha, na, nxa, r1⟩ := rep_ref_lst rv
    exact ⟨a, us, rfl, .inl (SqL.of ha), fun q hq => p al _ (ext_new hq) (w.put hq) _ (Rep.newLst w hq r1)⟩
  · obtain ⟨v, rfl, rv⟩ := reps1 rs
    cases rv with
    | fz h n r => exact ⟨_, _, rfl, .inl (.inl (.inr ⟨_, h⟩)), fun q hq => p al _ (ext_new hq) (w.put hq) _ (Rep.newLst w hq r)⟩
    | fzK k c h r => exact ⟨_, _, rfl, .inl (h H), fun q hq => p al _ (ext_new hq) (w.put hq) _ (Rep.newLst w hq r)⟩
  · obtain ⟨v, rfl, rv⟩ := reps1 rs
    split at p
    · rename_i ys e
      cases rv with
      | ref h =>
        obtain ⟨a, us, h1, h2, h3⟩ := w.list e
        rw [h] at h1; cases h1
        exact ⟨_, _, rfl, .inl (SqL.of h2), fun q hq => p al _ (ext_new hq) (w.put hq) _ (Rep.newLst w hq h3)⟩
    · exact p.elim
  · exact p.elim
theorem c_bls {id : String} {f : List Bool → Bool} (h : CallR X (.builtin id) (fun vs H Q => ∃ (a : Addr) (bs : List Bool), vs = [V.ref a] ∧ SqL X.K H a (bs.map V.bl) ∧ Q (.bl (f bs)) H)) : COk X cm (.builtin id) (blsO f) := by
  refine ⟨_, h, fun xl al H S xs vs Q W0 w rs p => ?_⟩
  unfold blsO at p
  split at p
  · obtain ⟨v, rfl, rv⟩ := reps1 rs
    obtain ⟨a, us, rfl, ha, na, nxa, r1⟩ := rep_ref_lst rv
    split at p
    · rename_i bs e
      rw [asBls_rep r1 e] at ha
      exact ⟨a, bs, rfl, SqL.of ha, p.here w _ (.bl _)⟩
    · exact p.elim
  · exact p.elim
theorem c_all (hc : X.calm = true) : COk X cm (.builtin "all") allO := c_bls (cr_all hc)
theorem c_any (hc : X.calm = true) : COk X cm (.builtin "any") anyO := c_bls (cr_any hc)
theorem c_sum (hc : X.calm = true) : COk X cm (.builtin "sum") sumO := by
  refine ⟨_, cr_sum hc, fun xl al H S xs vs Q W0 w rs p => ?_⟩
  unfold sumO at p
  split at p
  · obtain ⟨v, rfl, rv⟩ := reps1 rs
    obtain ⟨a, us, rfl, ha, na, nxa, r1⟩ := rep_ref_lst rv
    split at p
    · rename_i bs e
      rw [asInts_rep r1 e] at ha
      exact ⟨a, bs, rfl, SqL.of ha, p.here w _ (.int _)⟩
    · exact p.elim
  · exact p.elim
theorem c_min2 (hc : X.calm = true) : COk X cm (.builtin "min") min2O := by
  refine ⟨_, call_min2 hc, fun xl al H S xs vs Q W0 w rs p => ?_⟩
  unfold min2O at p
  split at p
  · obtain ⟨v, u, rfl, rv, ru⟩ := reps2 rs
    cases rv; cases ru
    exact ⟨_, _, rfl, p.here w _ (.int _)⟩
  · exact p.elim
theorem c_max2 (hc : X.calm = true) : COk X cm (.builtin "max") max2O := by
  refine ⟨_, call_max2 hc, fun xl al H S xs vs Q W0 w rs p => ?_⟩
  unfold max2O at p
  split at p
  · obtain ⟨v, u, rfl, rv, ru⟩ := reps2 rs
    cases rv; cases ru
    exact ⟨_, _, rfl, p.here w _ (.int _)⟩
  · exact p.elim
end
end DL

namespace DL
open PySem PySem.Spec PyProof.Rows L2

/-! from an expression's outcome to a statement's -/
def lift {α : Type} (o : Ou α) (env : DE) (f : α → DS → Ou (Fl × DE)) : Ou (Fl × DE) := match o with
  | .ok a S => f a S
  | .ex x S => .ok (.xc x, env) S
  | .no => .no
@[simp] theorem lift_ok {α : Type} (a : α) (S : DS) (env : DE) (f : α → DS → Ou (Fl × DE)) : lift (.ok a S) env f = f a S := (rfl)
@[simp] theorem lift_ex {α : Type} (x : Exn) (S : DS) (env : DE) (f : α → DS → Ou (Fl × DE)) : lift (.ex x S) env f = .ok (.xc x, env) S := (rfl)
@[simp] theorem lift_no {α : Type} (env : DE) (f : α → DS → Ou (Fl × DE)) : lift .no env f = .no := (rfl)
section
variable {K : PySem.W.Frag} {cm : CM} {xl al : List Addr} {H : Hp} {W : WX} {D0 : Ends} {env : DE} {σ : L2.St} {α : Type}
theorem Post.lift {o : Ou α} {f : α → DS → Ou (Fl × DE)} (h : Post K cm xl noW (RS K cm xl W D0) (DL.lift o env f) al H) (r : EnvR K xl al H env σ) :
    Post K cm xl (fun c d H' => W c d σ H') (fun a S1 al1 H1 => Post K cm xl noW (RS K cm xl W D0) (f a S1) al1 H1) o al H := by
  cases o with
  | ok a S => exact fun al' H' e _ => Post.mono e h
  | ex x S => exact fun al' H' cls dx e w z => h al' H' e w σ (r.mono e) cls dx z
  | no => exact h
theorem Post.wk {R : α → DS → List Addr → Hp → Prop} {o : Ou α} {W0 : WH} (h : Post K cm xl noW R o al H) : Post K cm xl W0 R o al H := by
  cases o with
  | ok a S => exact h
  | ex x S => exact fun al' H' cls dx e w z => (h al' H' cls dx e w z).elim
  | no => exact h
end

def mRet (a : ME) : MS := fun env S => lift (a env S) env fun d S1 => .ok (.rt d, env) S1
def mRetN : MS := fun env S => .ok (.rt .non, env) S
def mNx : MS := fun env S => .ok (.nx, env) S
def mBk : MS := fun env S => .ok (.bk, env) S
def mCt : MS := fun env S => .ok (.ct, env) S
def mNever : MS := fun _ _ => .no
def mDo (a : ME) : MS := fun env S => lift (a env S) env fun _ S1 => .ok (.nx, env) S1
def mSet (i : Nat) (a : ME) : MS := fun env S => lift (a env S) env fun d S1 => .ok (.nx, env.set i (some d)) S1
def mAsg (g : MG) (a : ME) : MS := fun env S => lift (a env S) env fun d S1 => (g d env S1).bind fun env' S2 => .ok (.nx, env') S2
def mPar (i j : Nat) (a : MA) : MS := fun env S => lift (a env S) env fun ds S1 => match ds with
  | [x, y] => .ok (.nx, (env.set i (some x)).set j (some y)) S1
  | _ => .no
def mAug (i : Nat) (f : D → D → DS → Ou D) (a : ME) : MS := fun env S => match env[i]? with
  | some (some x) => lift (a env S) env fun y S1 => lift (f x y S1) env fun z S2 => .ok (.nx, env.set i (some z)) S2
  | _ => .no
def mIfS (c : MT) (a b : MS) : MS := fun env S => lift (c env S) env fun k S1 => if k = true then a env S1 else b env S1
def mSeq (a b : MS) : MS := fun env S => (a env S).bind fun r S1 => match r.1 with
  | .nx => b r.2 S1
  | f => .ok (f, r.2) S1

section
variable {X : Cx} {cm : CM} {W : WX} {a b c e : Expr} {es : List Expr} {ma mb mc : ME} {pos : Pos} {st : Stmt} {sts : List Stmt} {ms mr : MS}
theorem s_ret (h : EOk X cm W e ma) : SOk X cm W (.Return (some e) pos) (mRet ma) := by
  obtain ⟨t, p, d⟩ := h
  refine ⟨_, ps_ret p, fun xl al σ H S env D0 w r q => ?_⟩
  refine d xl al σ H S env _ w r ((q.lift r).imp fun x S1 al1 H1 e1 w1 p1 v rv => ?_)
  exact p1.here w1 σ (r.mono e1) v rv
theorem s_retN : SOk X cm W (.Return none pos) mRetN := ⟨_, ps_retN, fun xl al σ H S env D0 w r q => q.here w σ r _ .non⟩
theorem s_pass : SOk X cm W (.Pass pos) mNx := ⟨_, ps_pass, fun xl al σ H S env D0 w r q => q.here w σ r⟩
theorem s_break : SOk X cm W (.Break pos) mBk := ⟨_, ps_break, fun xl al σ H S env D0 w r q => q.here w σ r⟩
theorem s_continue : SOk X cm W (.Continue pos) mCt := ⟨_, ps_continue, fun xl al σ H S env D0 w r q => q.here w σ r⟩
theorem s_never : SOk X cm W st mNever := ⟨_, ps_never, fun xl al σ H S env D0 w r q => q.elim⟩
theorem s_do (h : EOk X cm W e ma) (hs : swapsWith e none pos.line X.env = pure false := by rfl) : SOk X cm W (.Expr e pos) (mDo ma) := by
  obtain ⟨t, p, d⟩ := h
  refine ⟨_, ps_expr p hs, fun xl al σ H S env D0 w r q => ?_⟩
  refine d xl al σ H S env _ w r ((q.lift r).imp fun x S1 al1 H1 e1 w1 p1 v rv => ?_)
  exact p1.here w1 σ (r.mono e1)
theorem s_set {i : Nat} {x : Str} {pos' : Pos} (hN : X.N.Nodup) (h : EOk X cm W e ma) (hi : X.N[i]? = some x := by rfl) (hx : Loc X.env.scope x := by first | exact Or.inl rfl | exact Or.inr rfl) (hs : swapsWith e (some (.Name x pos')) pos.line X.env = pure false := by rfl)
    (hf : X.fn x = true ∨ X.env.scope.names.lookup x = some .local := by first | exact .inl rfl | exact .inr rfl | assumption) : SOk X cm W (.Assign [.Name x pos'] e pos) (mSet i ma) := by
  obtain ⟨t, p, d⟩ := h
  refine ⟨_, ps_set hN hi hx p hs hf, fun xl al σ H S env D0 w r q => ?_⟩
  refine d xl al σ H S env _ w r ((q.lift r).imp fun x S1 al1 H1 e1 w1 p1 v rv => ?_)
  exact p1.here w1 _ ((r.mono e1).set rv i)
theorem s_asg {tg : Expr} {mg : MG} (h : EOk X cm W e ma) (hg : GOk X cm tg mg) (hs : swapsWithSole [tg] e pos.line X.env = pure false := by rfl) (hw : swappedStores [tg] e X.env = pure none := by rfl)
    (h1 : (assignEach [tg] X.env).map (·.2) = [assign tg X.env] := by rfl) : SOk X cm W (.Assign [tg] e pos) (mAsg mg ma) := by
  obtain ⟨t, p, d⟩ := h
  obtain ⟨tg', pg, dg⟩ := hg
  refine ⟨_, ps_asg p pg hs hw h1, fun xl al σ H S env D0 w r q => ?_⟩
  refine d xl al σ H S env _ w r ((q.lift r).imp fun x S1 al1 H1 e1 w1 p1 v rv => ?_)
  refine dg xl al1 σ H1 S1 env x v _ w1 (r.mono e1) rv (p1.bind.imp fun env' S2 al2 H2 e2 w2 p2 σ' r' => ?_)
  exact p2.here w2 σ' r'
theorem s_par {i j : Nat} {x y : Str} {px py pt : Pos} {kt k2 pt2} {mp : MA} (hc : X.calm = true) (hN : X.N.Nodup) (ha : AOk X cm W [a, b] mp) (hw : swappedStores [.Tuple [.Name x px, .Name y py] kt pt] (.Tuple [a, b] k2 pt2) X.env = pure (some [x, y]))
    (hi : X.N[i]? = some x := by rfl) (hj : X.N[j]? = some y := by rfl) (hij : i ≠ j := by decide) (hx : X.env.scope.names.lookup x = some .local := by rfl) (hy : X.env.scope.names.lookup y = some .local := by rfl)
    (hs : swapsWithSole [.Tuple [.Name x px, .Name y py] kt pt] (.Tuple [a, b] k2 pt2) pos.line X.env = pure false := by rfl) :
    SOk X cm W (.Assign [.Tuple [.Name x px, .Name y py] kt pt] (.Tuple [a, b] k2 pt2) pos) (mPar i j mp) := by
  obtain ⟨t, p, d⟩ := ha
  refine ⟨_, ps_par hc hN hi hj hij hx hy p hw hs, fun xl al σ H S env D0 w r q => ?_⟩
  refine d xl al σ H S env _ w r ((q.lift r).imp fun xs S1 al1 H1 e1 w1 p1 vs rvs => ?_)
  split at p1
  · obtain ⟨v, u, rfl, rv, ru⟩ := reps2 rvs
    exact ⟨v, u, rfl, p1.here w1 _ (((r.mono e1).set rv i).set ru j)⟩
  · exact p1.elim
theorem s_aug {i : Nat} {x : Str} {op : Operator} {f : D → D → DS → Ou D} {pos' : Pos} (hN : X.N.Nodup) (ho : OOk X cm (inplaceOp op) f) (h : EOk X cm W e ma) (hi : X.N[i]? = some x := by rfl) (hx : Loc X.env.scope x := by first | exact Or.inl rfl | exact Or.inr rfl)
    (hf : X.fn x = true ∨ X.env.scope.names.lookup x = some .local := by first | exact .inl rfl | exact .inr rfl | assumption) : SOk X cm W (.AugAssign (.Name x pos') op e pos) (mAug i f ma) := by
  obtain ⟨t, p, d⟩ := h
  obtain ⟨r0, hr, dr⟩ := ho
  refine ⟨_, ps_aug hN hi hx p (show PIp X op r0 from hr) hf, fun xl al σ H S env D0 w r q => ?_⟩
  unfold mAug at q
  split at q
  · rename_i x0 e0
    obtain ⟨v0, h0, rv0⟩ := r.at' i x0 e0
    refine ⟨v0, h0, ?_⟩
    refine d xl al σ H S env _ w r ((q.lift r).imp fun y S1 al1 H1 e1 w1 p1 v rv => ?_)
    refine dr xl al1 H1 S1 x0 y v0 v _ _ w1 (rv0.mono e1) rv ((p1.lift (r.mono e1)).imp fun z S2 al2 H2 e2 w2 p2 u ru => ?_)
    exact p2.here w2 _ (((r.mono e1).mono e2).set ru i)
  · exact q.elim
theorem s_if {mt : MT} {ta tb : List Stmt} (hc : TOk X cm W c mt) (ha : SsOk X cm W ta ms) (hb : SsOk X cm W tb mr) : SOk X cm W (.If c ta tb pos) (mIfS mt ms mr) := by
  obtain ⟨tc, pc, dc⟩ := hc
  obtain ⟨t1, p1, d1⟩ := ha
  obtain ⟨t2, p2, d2⟩ := hb
  refine ⟨_, ps_if pc p1 p2, fun xl al σ H S env D0 w r q => ?_⟩
  refine dc xl al σ H S env _ w r ((q.lift r).imp fun k S1 al1 H1 e1 w1 q1 => ?_)
  cases k with
  | true => exact d1 xl al1 σ H1 S1 env D0 w1 (r.mono e1) q1
  | false => exact d2 xl al1 σ H1 S1 env D0 w1 (r.mono e1) q1
theorem ss_nil : SsOk X cm W [] mNx := ⟨_, pss_nil, fun xl al σ H S env D0 w r q => q.here w σ r⟩
theorem ss_one (h : SOk X cm W st ms) : SsOk X cm W [st] ms := by
  obtain ⟨t, p, d⟩ := h
  exact ⟨_, pss_one p, d⟩
theorem ss_cons (h : SOk X cm W st ms) (h' : SsOk X cm W sts mr) : SsOk X cm W (st :: sts) (mSeq ms mr) := by
  obtain ⟨t, p, d⟩ := h
  obtain ⟨t', p', d'⟩ := h'
  refine ⟨_, pss_cons p p', fun xl al σ H S env D0 w r q => ?_⟩
  refine d xl al σ H S env { D0 with nx := t' D0 } w r (q.bind.imp fun z S1 al1 H1 e1 w1 q1 σ' r' => ?_)
  obtain ⟨f, env1⟩ := z
  cases f with
  | nx => exact d' xl al1 σ' H1 S1 env1 D0 w1 r' q1
  | rt d => exact Post.here w1 q1 σ' r'
  | bk => exact Post.here w1 q1 σ' r'
  | ct => exact Post.here w1 q1 σ' r'
  | xc x => exact Post.here w1 q1 σ' r'
end

/-! targets; vs: the slots that they store -/
def Agr (vs : List Nat) (σ' σ : L2.St) : Prop := σ'.length = σ.length ∧ ∀ j : Nat, j ∉ vs → σ'[j]? = σ[j]?
def DenGA (K : PySem.W.Frag) (cm : CM) (t : TG) (m : MG) (vs : List Nat) : Prop := ∀ xl al σ H S env d v (Q : L2.St → Hp → Prop), Wd K xl S al H → EnvR K xl al H env σ → Rep K xl al H d v →
  Post K cm xl noW (fun env' _ al' H' => ∀ σ', EnvR K xl al' H' env' σ' → Agr vs σ' σ → Q σ' H') (m d env S) al H → t v σ H Q
def GAOk (X : Cx) (cm : CM) (e : Expr) (m : MG) (vs : List Nat) : Prop := ∃ t, PG X e t ∧ DenGA X.K cm t m vs
def DenGsA (K : PySem.W.Frag) (cm : CM) (t : TGs) (m : List D → DE → DS → Ou DE) (vs : List Nat) : Prop := ∀ xl al σ H S env ds us (Q : L2.St → Hp → Prop), Wd K xl S al H → EnvR K xl al H env σ → Reps K xl al H ds us →
  Post K cm xl noW (fun env' _ al' H' => ∀ σ', EnvR K xl al' H' env' σ' → Agr vs σ' σ → Q σ' H') (m ds env S) al H → t us σ H Q
def GsAOk (X : Cx) (cm : CM) (es : List Expr) (m : List D → DE → DS → Ou DE) (vs : List Nat) : Prop := ∃ t, PGs X es t ∧ DenGsA X.K cm t m vs
def gN (i : Nat) : MG := fun d env S => .ok (env.set i (some d)) S
def gsN : List D → DE → DS → Ou DE := fun ds env S => match ds with
  | [] => .ok env S
  | _ => .no
def gsC (g : MG) (r : List D → DE → DS → Ou DE) : List D → DE → DS → Ou DE := fun ds env S => match ds with
  | d :: ds => (g d env S).bind fun env1 S1 => r ds env1 S1
  | _ => .no
def gT (n : Nat) (r : List D → DE → DS → Ou DE) : MG := fun d env S => match d with
  | .tup ds => if ds.length = n then r ds env S else .no
  | _ => .no
section
variable {X : Cx} {cm : CM} {W : WX} {e : Expr} {es : List Expr} {pos : Pos} {mg : MG} {vs ws : List Nat}
theorem GAOk.g (h : GAOk X cm e mg vs) : GOk X cm e mg := by
  obtain ⟨t, p, d⟩ := h
  exact ⟨t, p, fun xl al σ H S env d0 v Q w r rv q => d xl al σ H S env d0 v Q w r rv (q.imp fun env' S' al' H' e1 w1 p1 σ' r' _ => p1 σ' r')⟩
theorem ga_name {i : Nat} {x : Str} (hN : X.N.Nodup) (hi : X.N[i]? = some x := by rfl) (hx : Loc X.env.scope x := by first | exact Or.inl rfl | exact Or.inr rfl) (hf : X.fn x = true ∨ X.env.scope.names.lookup x = some .local := by first | exact .inl rfl | exact .inr rfl | assumption) :
    GAOk X cm (.Name x pos) (gN i) [i] := by
  refine ⟨_, pg_name hN hi hx hf, fun xl al σ H S env d v Q w r rv q => ?_⟩
  refine q.here w _ (r.set rv i) ⟨List.length_set, fun j hj => ?_⟩
  rw [List.getElem?_set_ne]
  intro z
  exact hj (by simp [z])
theorem gas_nil : GsAOk X cm [] gsN [] := by
  refine ⟨_, pgs_nil, fun xl al σ H S env ds us Q w r rs q => ?_⟩
  unfold gsN at q
  split at q
  · cases rs
    exact ⟨rfl, q.here w _ r ⟨rfl, fun _ _ => rfl⟩⟩
  · exact q.elim
theorem gas_cons {mr : List D → DE → DS → Ou DE} (h : GAOk X cm e mg vs) (h' : GsAOk X cm es mr ws) (hs : (assignEach (e :: es) X.env).map (·.2) = assign e X.env :: (assignEach es X.env).map (·.2) := by rfl) : GsAOk X cm (e :: es) (gsC mg mr) (vs ++ ws) := by
  obtain ⟨t, p, d⟩ := h
  obtain ⟨t', p', d'⟩ := h'
  refine ⟨_, pgs_cons p p' hs, fun xl al σ H S env ds us Q w r rs q => ?_⟩
  unfold gsC at q
  split at q
  · cases rs with
    | cons rv rs =>
      refine ⟨_, _, rfl, ?_⟩
      refine d xl al σ H S env _ _ _ w r rv (q.bind.imp fun env1 S1 al1 H1 e1 w1 q1 σ1 r1 a1 => ?_)
      refine d' xl al1 σ1 H1 S1 env1 _ _ _ w1 r1 (rs.mono e1) (q1.imp fun env2 S2 al2 H2 e2 w2 q2 σ2 r2 a2 => ?_)
      refine q2 σ2 r2 ⟨a2.1.trans a1.1, fun j hj => ?_⟩
      rw [List.mem_append, not_or] at hj
      exact (a2.2 j hj.2).trans (a1.2 j hj.1)
  · exact q.elim
theorem ga_tup {mr : List D → DE → DS → Ou DE} {n k : Nat} (hc : X.calm = true) (h : GsAOk X cm es mr vs) (hn : (assignEach es X.env).length = n := by rfl) (hst : (assignEach es X.env).findIdx? (·.1) = none := by rfl) : GAOk X cm (.Tuple es k pos) (gT n mr) vs := by
  obtain ⟨t, p, d⟩ := h
  refine ⟨_, pg_tup hc p hn hst, fun xl al σ H S env d0 v Q w r rv q => ?_⟩
  unfold gT at q
  split at q
  · obtain ⟨a, us, rfl, ha, r1⟩ := rep_tup rv
    split at q
    · rename_i hl
      refine ⟨a, us, rfl, ha, r1.length ▸ hl, ?_⟩
      exact d xl al σ H S env _ us Q w r r1 q
    · exact q.elim
  · exact q.elim
end
/-! o[i] = v -/
def gSubM (o i : ME) (f : D → D → D → DS → Ou Unit) : MG := fun v env S => (o env S).bind fun x S1 => (i env S1).bind fun k S2 => (f x k v S2).bind fun _ S3 => .ok env S3
def setO (x k v : D) (S : DS) : Ou Unit := match x, k with
  | .ref p, .int i => match S[p]? with
    | some (DO.lst xs) => match ixN xs.length i with
      | some j => .ok () (S.set p (.lst (xs.set j v)))
      | none => .no
    | none => .no
  | _, _ => .no
section
variable {X : Cx} {cm : CM} {o i : Expr} {mo mi : ME} {pos : Pos}
theorem g_sub (ho : EOk X cm (fun _ _ _ _ => False) o mo) (hi : EOk X cm (fun _ _ _ _ => False) i mi)
    (ha : ∀ v, assign (.Subscript o i pos) X.env v = (do
      let ov ← holding [v] (eval o X.env)
      let iv ← holding [v, ov] (eval i X.env)
      standAt pos
      holding [v, ov, iv] (setItem ov iv v)
      release [v, ov, iv] []) := by intro _; rfl) : GOk X cm (.Subscript o i pos) (gSubM mo mi setO) := by
  obtain ⟨to, po, dn⟩ := ho
  obtain ⟨ti, pi, di⟩ := hi
  refine ⟨_, pg_sub po pi set_list ha, fun xl al σ H S env d v Q w r rv q => ?_⟩
  refine dn xl al σ H S env _ w r (q.bind.imp fun x S1 al1 H1 e1 w1 q1 xv rx => ?_)
  refine di xl al1 σ H1 S1 env _ w1 (r.mono e1) (q1.bind.imp fun k S2 al2 H2 e2 w2 q2 kv rk => ?_)
  unfold setO at q2
  split at q2
  · rename_i p n
    split at q2
    · rename_i xs hS
      split at q2
      · rename_i j hj
        cases rk
        have rx2 := rx.mono e2
        cases rx2 with
        | ref h =>
          obtain ⟨a, us, h1, h2, h3⟩ := w2.list hS
          rw [h] at h1; cases h1
          have rv2 := (rv.mono e1).mono e2
          refine ⟨_, us, _, j, rfl, rfl, h2, by rw [← h3.length]; exact hj, ?_⟩
          exact q2 al2 _ (ext_write (List.mem_of_getElem? h) h2) (w2.write hS h h2 (h3.set rv2 j)) _ (((r.mono e1).mono e2).mono (ext_write (List.mem_of_getElem? h) h2))
      · exact q2.elim
    · exact q2.elim
  · exact q2.elim
end
end DL

namespace DL
open PySem PySem.Spec PyProof.Rows L2

/-! what is walked: its items, as they stood; a list that may be changed must stand still -/
structure Itm where
  items : List D
  g : Option Nat
def Itm.okB (it : Itm) (S : DS) : Prop := match it.g with
  | none => True
  | some p => S[p]? = some (DO.lst it.items)
open Classical in
noncomputable def Itm.gate {α : Type} (it : Itm) (S : DS) (k : Ou α) : Ou α := if it.okB S then k else .no
theorem gate_none {α : Type} (xs : List D) (S : DS) (k : Ou α) : (Itm.mk xs none).gate S k = k := if_pos True.intro
theorem gate_some {α : Type} (xs : List D) (p : Nat) (S : DS) (k : Ou α) (h : S[p]? = some (DO.lst xs)) : (Itm.mk xs (some p)).gate S k = k := if_pos (show (Itm.mk xs (some p)).okB S from h)
theorem Post.gate {K : PySem.W.Frag} {cm : CM} {xl al : List Addr} {H : Hp} {W0 : WH} {α : Type} {R : α → DS → List Addr → Hp → Prop} {it : Itm} {S : DS} {k : Ou α} (p : Post K cm xl W0 R (it.gate S k) al H) : it.okB S ∧ Post K cm xl W0 R k al H := by
  unfold Itm.gate at p
  split at p
  · rename_i h
    exact ⟨h, p⟩
  · exact p.elim
abbrev MIt := DE → DS → Ou Itm
def NewOnly (H H' : Hp) : Prop := ∀ a o, H a = some o → H' a = some o
theorem NewOnly.ext {al : List Addr} {H H' : Hp} (n : NewOnly H H') : Ext al H al H' := ⟨⟨[], by simp⟩, fun a o _ h => n a o h, fun a vs h => by
  rcases h with h | ⟨o, h⟩
  · exact .inl (n _ _ h)
  · exact .inr ⟨o, n _ _ h⟩, fun a h q => absurd h q⟩
theorem NewOnly.wd {K : PySem.W.Frag} {xl al : List Addr} {S : DS} {H H' : Hp} (n : NewOnly H H') (w : Wd K xl S al H) : Wd K xl S al H' := w.keep n.ext fun a h => by
  obtain ⟨_, _, _, e⟩ := w.at h
  rw [e, n a _ e]
/-- J gives the items, from (al1, H1) on -/
def Yields (K : PySem.W.Frag) (xl al1 : List Addr) (H1 : Hp) (it : Itm) (J : It) : Prop := ∀ xl' S' al' H', Ext al1 H1 al' H' → (∀ q, q ∈ xl' → q ∈ xl ∨ H1 q = none) → Wd K xl' S' al' H' → it.okB S' →
  (∀ (i : Nat) d, it.items[i]? = some d → J.go i H' ∧ ∀ x H'', J.yld i H' x H'' → NewOnly H' H'' ∧ Rep K xl' al' H'' d x) ∧ J.stop it.items.length H'
def IOk' (X : Cx) (cm : CM) (W : WX) (tg iter : Expr) (m : MIt) : Prop := ∃ wi, PI X tg iter wi ∧ ∀ xl al σ H S env (R : It → Hp → Prop), Wd X.K xl S al H → EnvR X.K xl al H env σ →
  Post X.K cm xl (fun c d H' => W c d σ H') (fun it S1 al1 H1 => ∀ J, Yields X.K xl al1 H1 it J → R J H1) (m env S) al H → wi σ H R

/-! for -/
noncomputable def forL (g : MG) (body : MS) (it : Itm) : List D → DE → DS → Ou (Fl × DE)
  | [], env, S => it.gate S (.ok (.nx, env) S)
  | d :: r, env, S => it.gate S ((g d env S).bind fun env1 S1 => (body env1 S1).bind fun q S2 => match q.1 with
    | .nx => forL g body it r q.2 S2
    | .ct => forL g body it r q.2 S2
    | .bk => .ok (.nx, q.2) S2
    | f => .ok (f, q.2) S2)
noncomputable def mFor (mi : MIt) (g : MG) (body : MS) : MS := fun env S => lift (mi env S) env fun it S1 => forL g body it it.items env S1
section
variable {X : Cx} {cm : CM} {W : WX} {pos : Pos}
theorem s_for {tg iter : Expr} {body : List Stmt} {mi : MIt} {mg : MG} {mb : MS} (hp : PassesOwn (model X.prog X.w) X.A X.env X.xe) (hc : X.calm = true) (hi : IOk' X cm W tg iter mi) (hg : GOk X cm tg mg) (hb : SsOk X cm W body mb)
    (hs : ∀ x, foldedSetIterable iter X.env x = pure x := by intro _; rfl) : SOk X cm W (.For tg iter body [] pos) (mFor mi mg mb) := by
  obtain ⟨wi, pi, di⟩ := hi
  obtain ⟨tgt, pg, dg⟩ := hg
  obtain ⟨tb, pb, db⟩ := hb
  refine ⟨_, ps_for hp hc pi pg pb hs, fun xl al σ H S env D0 w r q => ?_⟩
  refine di xl al σ H S env _ w r ((q.lift r).imp fun it S1 al1 H1 e1 w1 q1 J hJ => ?_)
  refine ⟨fun i m σ' H' => m = it.items.length - i ∧ i ≤ it.items.length ∧ ∃ al' S' env', Ext al1 H1 al' H' ∧ Wd X.K xl S' al' H' ∧ EnvR X.K xl al' H' env' σ' ∧ Post X.K cm xl noW (RS X.K cm xl W D0) (forL mg mb it (it.items.drop i) env' S') al' H',
    ⟨_, rfl, Nat.zero_le _, al1, S1, env, Ext.refl _ _, w1, r.mono e1, by rw [List.drop_zero]; exact q1⟩, ?_⟩
  rintro i m σ' H' ⟨rfl, hi, al', S', env', e', w', r', p'⟩
  by_cases hlt : i < it.items.length
  · refine .inr ?_
    rw [List.drop_eq_getElem_cons hlt] at p'
    unfold forL at p'
    obtain ⟨ok, p'⟩ := p'.gate
    obtain ⟨hy, _⟩ := hJ xl S' al' H' e' (fun q h => .inl h) w' ok
    obtain ⟨go, yld⟩ := hy i _ (List.getElem?_eq_getElem hlt)
    refine ⟨go, fun σ'' H'' => ∃ al'' S'' env'', Ext al1 H1 al'' H'' ∧ Wd X.K xl S'' al'' H'' ∧ EnvR X.K xl al'' H'' env'' σ'' ∧ Post X.K cm xl noW (RS X.K cm xl W D0) (forL mg mb it (it.items.drop (i + 1)) env'' S'') al'' H'',
      fun σ'' H'' hN => ⟨it.items.length - (i + 1), by omega, rfl, hlt, hN⟩, fun x H'' hyx => ?_⟩
    obtain ⟨no, rx⟩ := yld x H'' hyx
    have w2 := no.wd w'
    have e2 : Ext al1 H1 al' H'' := e'.trans no.ext
    refine dg xl al' σ' H'' S' env' _ x _ w2 (r'.mono no.ext) rx ((Post.mono no.ext p').bind.imp fun env1 S3 al3 H3 e3 w3 p3 σ3 r3 => ?_)
    refine db xl al3 σ3 H3 S3 env1 _ w3 r3 (p3.bind.imp fun z S4 al4 H4 e4 w4 p4 σ4 r4 => ?_)
    obtain ⟨f, env4⟩ := z
    have e5 : Ext al1 H1 al4 H4 := (e2.trans e3).trans e4
    cases f with
    | nx => exact ⟨al4, S4, env4, e5, w4, r4, p4⟩
    | ct => exact ⟨al4, S4, env4, e5, w4, r4, p4⟩
    | bk => exact Post.here w4 p4 σ4 r4
    | rt d => exact Post.here w4 p4 σ4 r4
    | xc x => exact Post.here w4 p4 σ4 r4
  · have ei : i = it.items.length := by omega
    subst ei
    rw [List.drop_length] at p'
    unfold forL at p'
    obtain ⟨ok, p'⟩ := p'.gate
    obtain ⟨_, hs⟩ := hJ xl S' al' H' e' (fun q h => .inl h) w' ok
    exact .inl ⟨hs, Post.here w' p' σ' r'⟩
end

/-! while -/
def whileL (c : MT) (body : MS) : Nat → DE → DS → Ou (Fl × DE)
  | 0, _, _ => .no
  | n + 1, env, S => lift (c env S) env fun k S1 => if k = true then (body env S1).bind fun q S2 => match q.1 with
    | .nx => whileL c body n q.2 S2
    | .ct => whileL c body n q.2 S2
    | .bk => .ok (.nx, q.2) S2
    | f => .ok (f, q.2) S2 else .ok (.nx, env) S1
theorem whileL_step {c : MT} {body : MS} : ∀ (n : Nat) (env : DE) (S : DS), whileL c body n env S ≠ .no → whileL c body (n + 1) env S = whileL c body n env S
  | 0, _, _, h => absurd rfl h
  | n + 1, env, S, h => by
    unfold whileL at h
    rw [whileL]
    conv => rhs; rw [whileL]
    cases hc : c env S with
    | no => rfl
    | ex x S1 => rfl
    | ok k S1 =>
      rw [hc] at h
      simp only [lift_ok] at h ⊢
      cases k with
      | false => rfl
      | true =>
        simp only [if_true] at h ⊢
        cases hb : body env S1 with
        | no => rfl
        | ex x S2 => rfl
        | ok q S2 =>
          obtain ⟨f, env2⟩ := q
          rw [hb] at h
          simp only [bind_ok] at h ⊢
          cases f with
          | nx => exact whileL_step n env2 S2 h
          | ct => exact whileL_step n env2 S2 h
          | bk => rfl
          | rt d => rfl
          | xc x => rfl
theorem whileL_mono {c : MT} {body : MS} {n m : Nat} {env : DE} {S : DS} (h : whileL c body n env S ≠ .no) (hm : n ≤ m) : whileL c body m env S = whileL c body n env S := by
  induction hm with
  | refl => rfl
  | step _ ih => rw [whileL_step _ _ _ (by rw [ih]; exact h), ih]
open Classical in
/-- the loop, run to its end -/
noncomputable def mWhile (c : MT) (body : MS) : MS := fun env S => if h : ∃ n, whileL c body n env S ≠ .no then whileL c body h.choose env S else .no
theorem mWhile_of {c : MT} {body : MS} {n : Nat} {env : DE} {S : DS} (h : whileL c body n env S ≠ .no) : mWhile c body env S = whileL c body n env S := by
  unfold mWhile
  have hx : ∃ n, whileL c body n env S ≠ .no := ⟨n, h⟩
  rw [dif_pos hx]
  rcases Nat.le_total n hx.choose with l | l
  · exact whileL_mono h l
  · exact (whileL_mono hx.choose_spec l).symm
theorem mWhile_no {c : MT} {body : MS} {env : DE} {S : DS} (h : ∀ n, whileL c body n env S = .no) : mWhile c body env S = .no := by
  unfold mWhile
  rw [dif_neg (fun ⟨n, q⟩ => q (h n))]
/-- one turn -/
theorem mWhile_eq (c : MT) (body : MS) (env : DE) (S : DS) : mWhile c body env S = lift (c env S) env fun k S1 => if k = true then (body env S1).bind fun q S2 => match q.1 with
    | .nx => mWhile c body q.2 S2
    | .ct => mWhile c body q.2 S2
    | .bk => .ok (.nx, q.2) S2
    | f => .ok (f, q.2) S2 else .ok (.nx, env) S1 := by
  have key : ∀ n, whileL c body (n + 1) env S = lift (c env S) env fun k S1 => if k = true then (body env S1).bind fun q S2 => match q.1 with
    | .nx => whileL c body n q.2 S2
    | .ct => whileL c body n q.2 S2
    | .bk => .ok (.nx, q.2) S2
    | f => .ok (f, q.2) S2 else .ok (.nx, env) S1 := fun n => rfl
  cases hc : c env S with
  | no => exact mWhile_no fun n => by cases n with
    | zero => rfl
    | succ n => rw [key, hc]; rfl
  | ex x S1 =>
    have e : whileL c body 1 env S = .ok (.xc x, env) S1 := by rw [key, hc]; rfl
    rw [mWhile_of (n := 1) (by rw [e]; exact fun z => nomatch z), e]; rfl
  | ok k S1 =>
    simp only [lift_ok]
    cases k with
    | false =>
      have e : whileL c body 1 env S = .ok (.nx, env) S1 := by rw [key, hc]; rfl
      rw [mWhile_of (n := 1) (by rw [e]; exact fun z => nomatch z), e]; rfl
    | true =>
      simp only [if_true]
      cases hb : body env S1 with
      | no => exact mWhile_no fun n => by cases n with
        | zero => rfl
        | succ n => rw [key, hc]; simp only [lift_ok, if_true, hb]; rfl
      | ex x S2 =>
        have e : whileL c body 1 env S = .ex x S2 := by rw [key, hc]; simp only [lift_ok, if_true, hb]; rfl
        rw [mWhile_of (n := 1) (by rw [e]; exact fun z => nomatch z), e]; rfl
      | ok q S2 =>
        obtain ⟨f, env2⟩ := q
        simp only [bind_ok]
        have key2 : ∀ n, whileL c body (n + 1) env S = match f with
            | .nx => whileL c body n env2 S2
            | .ct => whileL c body n env2 S2
            | .bk => .ok (.nx, env2) S2
            | f => .ok (f, env2) S2 := fun n => by rw [key, hc]; simp only [lift_ok, if_true, hb]; cases f <;> rfl
        have rec' : (∀ n, whileL c body (n + 1) env S = whileL c body n env2 S2) → mWhile c body env S = mWhile c body env2 S2 := fun hr => by
          by_cases hx : ∃ n, whileL c body n env2 S2 ≠ .no
          · obtain ⟨n, hn⟩ := hx
            rw [mWhile_of (n := n + 1) (by rw [hr]; exact hn), hr, mWhile_of hn]
          · have hx' : ∀ n, whileL c body n env2 S2 = .no := fun n => Classical.byContradiction fun z => hx ⟨n, z⟩
            rw [mWhile_no hx']
            exact mWhile_no fun n => by cases n with
              | zero => rfl
              | succ n => rw [hr, hx']
        cases f with
        | nx => exact rec' key2
        | ct => exact rec' key2
        | bk => rw [mWhile_of (n := 1) (by rw [key2]; exact fun z => nomatch z), key2]
        | rt d => rw [mWhile_of (n := 1) (by rw [key2]; exact fun z => nomatch z), key2]
        | xc x => rw [mWhile_of (n := 1) (by rw [key2]; exact fun z => nomatch z), key2]
section
variable {X : Cx} {cm : CM} {W : WX} {pos : Pos}
theorem s_while {c : Expr} {body : List Stmt} {mc : MT} {mb : MS} (hp : PassesOwn (model X.prog X.w) X.A X.env X.xe) (hc : TOk X cm W c mc) (hb : SsOk X cm W body mb) : SOk X cm W (.While c body [] pos) (mWhile mc mb) := by
  obtain ⟨tc, pc, dc⟩ := hc
  obtain ⟨tb, pb, db⟩ := hb
  refine ⟨_, ps_while hp pc pb, fun xl al σ H S env D0 w r q => ?_⟩
  by_cases hx : ∃ n, whileL mc mb n env S ≠ .no
  · obtain ⟨n, hn⟩ := hx
    rw [mWhile_of hn] at q
    refine ⟨fun m σ' H' => ∃ al' S' env', Wd X.K xl S' al' H' ∧ EnvR X.K xl al' H' env' σ' ∧ Post X.K cm xl noW (RS X.K cm xl W D0) (whileL mc mb m env' S') al' H', ⟨n, al, S, env, w, r, q⟩, ?_⟩
    rintro m σ' H' ⟨al', S', env', w', r', p'⟩
    cases m with
    | zero => exact p'.elim
    | succ m =>
      unfold whileL at p'
      refine dc xl al' σ' H' S' env' _ w' r' ((p'.lift r').imp fun k S1 al1 H1 e1 w1 q1 => ?_)
      cases k with
      | false => exact Post.here w1 q1 σ' (r'.mono e1)
      | true =>
        refine ⟨fun σ'' H'' => ∃ al'' S'' env'', Wd X.K xl S'' al'' H'' ∧ EnvR X.K xl al'' H'' env'' σ'' ∧ Post X.K cm xl noW (RS X.K cm xl W D0) (whileL mc mb m env'' S'') al'' H'', fun σ'' H'' hN => ⟨m, Nat.lt_succ_self _, hN⟩, ?_⟩
        have q2 : Post X.K cm xl noW (RS X.K cm xl W D0) ((mb env' S1).bind _) al1 H1 := q1
        refine db xl al1 σ' H1 S1 env' _ w1 (r'.mono e1) (q2.bind.imp fun z S4 al4 H4 e4 w4 p4 σ4 r4 => ?_)
        obtain ⟨f, env4⟩ := z
        cases f with
        | nx => exact ⟨al4, S4, env4, w4, r4, p4⟩
        | ct => exact ⟨al4, S4, env4, w4, r4, p4⟩
        | bk => exact Post.here w4 p4 σ4 r4
        | rt d => exact Post.here w4 p4 σ4 r4
        | xc x => exact Post.here w4 p4 σ4 r4
  · rw [mWhile_no fun n => Classical.byContradiction fun z => hx ⟨n, z⟩] at q
    exact q.elim
end

/-! comprehensions -/
abbrev noX : WX := fun _ _ _ _ => False
/-- an exception on the way: not told -/
def Ou.bindN {α β : Type} (m : Ou α) (f : α → DS → Ou β) : Ou β := match m with
  | .ok a S => f a S
  | _ => .no
@[simp] theorem bindN_ok {α β : Type} (a : α) (S : DS) (f : α → DS → Ou β) : (Ou.ok a S).bindN f = f a S := (rfl)
theorem bindN_bind {α β γ : Type} (o : Ou α) (f : α → DS → Ou β) (g : β → DS → Ou γ) : ((o.bindN f).bind g) = o.bindN fun a S => (f a S).bind g := by cases o <;> rfl
theorem Post.bindN {K : PySem.W.Frag} {cm : CM} {xl xl' al al0 : List Addr} {H H0 : Hp} {W0 : WH} {α β : Type} {R : β → DS → List Addr → Hp → Prop} {R' : α → DS → List Addr → Hp → Prop} {o : Ou α} {f : α → DS → Ou β}
    (p : Post K cm xl W0 R (o.bindN f) al0 H0) (k : ∀ a S1 al1 H1, Ext al H al1 H1 → Wd K xl' S1 al1 H1 → Post K cm xl W0 R (f a S1) al0 H0 → R' a S1 al1 H1) : Post K cm xl' noW R' o al H := by
  cases o with
  | ok a S => exact fun al1 H1 e w => k a S al1 H1 e w p
  | ex x S => exact p.elim
  | no => exact p.elim
def wipeE (env : DE) : List Nat → DE
  | [] => env
  | i :: vs => (wipeE env vs).set i none
noncomputable def lcL (g : MG) (tt : MT) (el : ME) (env : DE) (it : Itm) : List D → List D → DS → Ou (List D)
  | [], acc, S => it.gate S (.ok acc S)
  | d :: r, acc, S => it.gate S ((g d env S).bindN fun env1 S1 => (tt env1 S1).bindN fun b S2 => if b = true then (el env1 S2).bindN fun y S3 => lcL g tt el env it r (acc ++ [y]) S3 else lcL g tt el env it r acc S2)
noncomputable def lcM (mi : MIt) (g : MG) (tt : MT) (el : ME) (vs : List Nat) (fin : List D → DS → Ou D) : ME := fun env S => (mi env S).bind fun it S1 => if it.items.length ≤ sizeLine then (lcL g tt el (wipeE env vs) it it.items [] S1).bind fin else .no
def finV (xs : List D) (S : DS) : Ou D := .ok (.vl xs) S
def finR (xs : List D) (S : DS) : Ou D := .ok (.ref S.length) (S ++ [.lst xs])
def mYes : MT := fun _ S => .ok true S
def TsOk (X : Cx) (cm : CM) (W : WX) (es : List Expr) (m : MT) : Prop := ∃ t, PTs X es t ∧ DenT X.K cm W t m
theorem ts_nil {X : Cx} {cm : CM} {W : WX} : TsOk X cm W [] mYes := ⟨_, pts_nil, fun xl al σ H S env Q w r p => Post.hereT w p⟩
theorem ts_one {X : Cx} {cm : CM} {W : WX} {c : Expr} {m : MT} (h : TOk X cm W c m) : TsOk X cm W [c] m := by
  obtain ⟨t, p, d⟩ := h
  exact ⟨_, pts_one p, d⟩
theorem EnvR.wipes {K : PySem.W.Frag} {xl al : List Addr} {H : Hp} {env : DE} {σ : L2.St} (r : EnvR K xl al H env σ) : ∀ (vs : List Nat), EnvR K xl al H (wipeE env vs) (L2.wipe σ vs)
  | [] => r
  | i :: vs => (EnvR.wipes r vs).wipe i
theorem set_agr {σ' σ : L2.St} (i : Nat) (hl : σ'.length = σ.length) (h : ∀ j : Nat, j ≠ i → σ'[j]? = σ[j]?) : σ'.set i none = σ.set i none := by
  refine List.ext_getElem? fun j => ?_
  by_cases e : j = i
  · subst e
    by_cases hj : j < σ.length
    · rw [List.getElem?_set_self hj, List.getElem?_set_self (by rw [hl]; exact hj)]
    · rw [List.getElem?_eq_none (by rw [List.length_set]; omega), List.getElem?_eq_none (by rw [List.length_set]; omega)]
  · rw [List.getElem?_set_ne (Ne.symm e), List.getElem?_set_ne (Ne.symm e)]
    exact h j e
theorem wipe_get {σ : L2.St} {j : Nat} : ∀ {vs : List Nat}, j ∉ vs → (L2.wipe σ vs)[j]? = σ[j]? := fun h => wipe_out h
theorem wipe_get2 {σ' σ : L2.St} (hl : σ'.length = σ.length) {j : Nat} : ∀ {vs : List Nat}, j ∈ vs → (L2.wipe σ' vs)[j]? = (L2.wipe σ vs)[j]?
  | i :: vs, h => by
    show ((L2.wipe σ' vs).set i none)[j]? = ((L2.wipe σ vs).set i none)[j]?
    have hw : (L2.wipe σ' vs).length = (L2.wipe σ vs).length := by rw [wipe_length, wipe_length, hl]
    by_cases e : j = i
    · subst e
      by_cases hj : j < (L2.wipe σ vs).length
      · rw [List.getElem?_set_self hj, List.getElem?_set_self (by omega)]
      · rw [List.getElem?_eq_none (by rw [List.length_set]; omega), List.getElem?_eq_none (by rw [List.length_set]; omega)]
    · rw [List.getElem?_set_ne (Ne.symm e), List.getElem?_set_ne (Ne.symm e)]
      exact wipe_get2 hl ((List.mem_cons.mp h).resolve_left e)
theorem wipe_agr {vs : List Nat} {σ' σ : L2.St} (a : Agr vs σ' σ) : L2.wipe σ' vs = L2.wipe σ vs := by
  refine List.ext_getElem? fun j => ?_
  by_cases h : j ∈ vs
  · exact wipe_get2 a.1 h
  · rw [wipe_get h, wipe_get h]
    exact a.2 j h
theorem wipe_wipe (vs : List Nat) (σ : L2.St) : L2.wipe (L2.wipe σ vs) vs = L2.wipe σ vs := wipe_agr ⟨wipe_length σ vs, fun j hj => wipe_out hj⟩

/-- the made list, handed on -/
def FinOk (K : PySem.W.Frag) (cm : CM) (fin : List D → DS → Ou D) : Prop := ∀ xl al1 H1 al H S acc us (D0 : Addr) (Q : VK) (W0 : WH), Ext al1 H1 al H → H1 D0 = none → Wd K xl S al H → H D0 = some (.lst us) → D0 ∉ al → D0 ∉ xl → Reps K (D0 :: xl) al H acc us → Wd K (D0 :: xl) S al H →
  Post K cm xl W0 (RE K xl Q) (fin acc S) al1 H1 → Q (.ref D0) H
/-- the reading of a comprehension -/
theorem den_lc {X : Cx} {cm : CM} {W : WX} {wi : TI} {g : TG} {tt : TT} {te : TE} {vs : List Nat} {mi : MIt} {mg : MG} {mt : MT} {me : ME} {fin : List D → DS → Ou D}
    (di : ∀ xl al σ H S env (R : It → Hp → Prop), Wd X.K xl S al H → EnvR X.K xl al H env σ → Post X.K cm xl (fun c d H' => W c d σ H') (fun it S1 al1 H1 => ∀ J, Yields X.K xl al1 H1 it J → R J H1) (mi env S) al H → wi σ H R)
    (dg : DenGA X.K cm g mg vs) (dt : DenT X.K cm noX tt mt) (de : DenE X.K cm noX te me)
    (hfin : FinOk X.K cm fin) :
    DenE X.K cm W (tLc wi g tt te vs) (lcM mi mg mt me vs fin) := by
  intro xl al σ H S env Q w r q
  refine di xl al σ H S env _ w r (q.bind.imp fun it S1 al1 H1 e1 w1 q1 J hJ => ?_)
  split at q1
  case isFalse => exact q1.elim
  rename_i hlen
  intro D0 hD0
  obtain ⟨nD1, nD2⟩ := w1.new hD0
  have r1 := r.mono e1
  let WW : WH := fun c d H' => W c d σ H'
  let I : List D → List Addr → DS → Hp → Prop := fun acc al' S' H' => Ext al1 H1 al' H' ∧ Wd X.K (D0 :: xl) S' al' H' ∧ ∃ us, H' D0 = some (.lst us) ∧ Reps X.K (D0 :: xl) al' H' acc us
  have keyEnv : ∀ {al' H'}, Ext al1 H1 al' H' → EnvR X.K (D0 :: xl) al' H' (wipeE env vs) (L2.wipe σ vs) := fun e => ((r1.more hD0).mono e).wipes vs
  have start : I [] al1 S1 (upd H1 D0 (.lst [])) := by
    refine ⟨ext_new hD0, ?_, [], upd_same, .nil⟩
    have w2 := w1.put (o := .lst []) hD0
    refine ⟨w2.nd, w2.len, fun p xs h => ?_, fun a h => ?_⟩
    · obtain ⟨a, us, h1, h2, h3⟩ := w1.ob p xs h
      refine ⟨a, us, h1, ?_, (h3.more hD0).mono (ext_new hD0)⟩
      rw [upd_ne (ne_of_none h2 hD0)]; exact h2
    · rcases List.mem_cons.mp h with e | h
      · subst e
        exact ⟨nD1, by rw [upd_same]; exact fun z => nomatch z⟩
      · exact w2.xs a h
  have weak : ∀ {al' S' H'}, Wd X.K (D0 :: xl) S' al' H' → Wd X.K xl S' al' H' := fun w => ⟨w.nd, w.len, fun p xs h => by
    obtain ⟨a, us, h1, h2, h3⟩ := w.ob p xs h
    exact ⟨a, us, h1, h2, h3.less fun a h => List.mem_cons_of_mem _ h⟩, fun a h => w.xs a (List.mem_cons_of_mem _ h)⟩
  refine ⟨fun i m H' => m = it.items.length - i ∧ i ≤ it.items.length ∧ ∃ acc al' S', acc.length ≤ i ∧ I acc al' S' H' ∧ Post X.K cm xl WW (RE X.K xl Q) ((lcL mg mt me (wipeE env vs) it (it.items.drop i) acc S').bind fin) al1 H1,
    ⟨_, rfl, Nat.zero_le _, [], al1, S1, Nat.le_refl _, start, by rw [List.drop_zero]; exact q1⟩, ?_⟩
  rintro i m H' ⟨rfl, hi, acc, al', S', hacc, ⟨e', w', us, hD', hus⟩, p'⟩
  have hxl : ∀ q, q ∈ D0 :: xl → q ∈ xl ∨ H1 q = none := fun q h => (List.mem_cons.mp h).elim (fun e => .inr (e ▸ hD0)) .inl
  by_cases hlt : i < it.items.length
  · refine .inr ?_
    rw [List.drop_eq_getElem_cons hlt] at p'
    unfold lcL at p'
    have p2 : it.okB S' ∧ Post X.K cm xl WW (RE X.K xl Q) (((mg it.items[i] (wipeE env vs) S').bindN fun env1 S1 => (mt env1 S1).bindN fun b S2 => if b = true then (me env1 S2).bindN fun y S3 => lcL mg mt me (wipeE env vs) it (it.items.drop (i + 1)) (acc ++ [y]) S3 else lcL mg mt me (wipeE env vs) it (it.items.drop (i + 1)) acc S2).bind fin) al1 H1 := by
      unfold Itm.gate at p'
      split at p'
      · rename_i h
        exact ⟨h, p'⟩
      · exact p'.elim
    obtain ⟨ok, p2⟩ := p2
    obtain ⟨hy, _⟩ := hJ (D0 :: xl) S' al' H' e' hxl w' ok
    obtain ⟨go, yld⟩ := hy i _ (List.getElem?_eq_getElem hlt)
    refine ⟨go, fun H'' => ∃ acc al'' S'', acc.length ≤ i + 1 ∧ I acc al'' S'' H'' ∧ Post X.K cm xl WW (RE X.K xl Q) ((lcL mg mt me (wipeE env vs) it (it.items.drop (i + 1)) acc S'').bind fin) al1 H1,
      fun H'' hN => ⟨it.items.length - (i + 1), by omega, rfl, hlt, hN⟩, fun x H'' hyx => ?_⟩
    obtain ⟨no, rx⟩ := yld x H'' hyx
    have w2 := no.wd w'
    have e2 : Ext al1 H1 al' H'' := e'.trans no.ext
    have hD2 : H'' D0 = some (.lst us) := no _ _ hD'
    rw [bindN_bind] at p2
    refine dg (D0 :: xl) al' (L2.wipe σ vs) H'' S' (wipeE env vs) _ x _ w2 (keyEnv e2) rx (p2.bindN fun env1 S3 al3 H3 e3 w3 p3 σ3 r3 a3 => ?_)
    refine ⟨(wipe_agr a3).trans (wipe_wipe vs σ), ?_⟩
    rw [bindN_bind] at p3
    refine dt (D0 :: xl) al3 σ3 H3 S3 env1 _ w3 r3 (p3.bindN fun b S4 al4 H4 e4 w4 p4 => ?_)
    have eA : Ext al' H'' al4 H4 := e3.trans e4
    have nD3 : ∀ {al5 H5 S5}, Wd X.K (D0 :: xl) S5 al5 H5 → D0 ∉ al5 := fun w => (w.xs D0 (by simp)).1
    cases b with
    | true =>
      rw [if_pos rfl, bindN_bind] at p4
      show te σ3 H4 _
      refine de (D0 :: xl) al4 σ3 H4 S4 env1 _ w4 (r3.mono e4) (p4.bindN fun y S5 al5 H5 e5 w5 p5 v rv => ?_)
      have eB : Ext al' H'' al5 H5 := eA.trans e5
      have hD5 : H5 D0 = some (.lst us) := eB.fr _ _ (nD3 w2) hD2
      have hus5 : Reps X.K (D0 :: xl) al5 H5 acc us := (hus.mono no.ext).mono eB
      refine ⟨us, hD5, ?_, acc ++ [y], al5, S5, ?_, ⟨?_, ?_, us ++ [v], upd_same, ?_⟩, ?_⟩
      · rw [← hus.length]; omega
      · rw [List.length_append, List.length_singleton]; omega
      · refine ⟨(e2.trans eB).pre, fun a o n h => ?_, fun a ws h => ?_, (e2.trans eB).new⟩
        · rw [upd_ne (ne_of_none h hD0)]; exact (e2.trans eB).fr a o n h
        · obtain ⟨o, ho⟩ := rd_some h
          have := (e2.trans eB).tup a ws h
          rcases this with z | ⟨o', z⟩
          · exact .inl (by rw [upd_ne (ne_of_none ho hD0)]; exact z)
          · exact .inr ⟨o', by rw [upd_ne (ne_of_none ho hD0)]; exact z⟩
      · refine ⟨w5.nd, w5.len, fun p xs h => ?_, fun a h => ⟨(w5.xs a h).1, ?_⟩⟩
        · obtain ⟨a, ws, h1, h2, h3⟩ := w5.ob p xs h
          refine ⟨a, ws, h1, ?_, h3.atx hD5 (by simp)⟩
          have ne : a ≠ D0 := fun z => nD3 w5 (z ▸ List.mem_of_getElem? h1)
          rw [upd_ne ne]; exact h2
        · unfold upd
          split
          · exact fun z => nomatch z
          · exact (w5.xs a h).2
      · exact (hus5.append (.cons rv .nil)).atx hD5 (by simp)
      · exact p5
    | false =>
      rw [if_neg Bool.false_ne_true] at p4
      exact ⟨acc, al4, S4, by omega, ⟨e2.trans eA, w4, us, eA.fr _ _ (nD3 w2) hD2, (hus.mono no.ext).mono eA⟩, p4⟩
  · have ei : i = it.items.length := by omega
    subst ei
    rw [List.drop_length] at p'
    unfold lcL at p'
    have p2 : it.okB S' ∧ Post X.K cm xl WW (RE X.K xl Q) (fin acc S') al1 H1 := by
      unfold Itm.gate at p'
      split at p'
      · rename_i h
        exact ⟨h, p'⟩
      · exact p'.elim
    obtain ⟨ok, p2⟩ := p2
    obtain ⟨_, hs⟩ := hJ (D0 :: xl) S' al' H' e' hxl w' ok
    have nD3 : D0 ∉ al' := fun h => (w'.xs D0 (by simp)).1 h
    exact .inl ⟨hs, hfin xl al1 H1 al' H' S' acc us D0 Q _ e' hD0 (weak w') hD' nD3 nD2 hus w' p2⟩
end DL

namespace DL
open PySem PySem.Spec PyProof.Rows L2

/-! a list or a tuple, by a flag -/
def SqV (K : PySem.W.Frag) (k : Bool) (H : Hp) (a : Addr) (vs : List V) : Prop := match k with
  | true => SqL K H a vs
  | false => SqT K H a vs
def IsS (k : Bool) (h : Heap) (a : Addr) (items : Array Value) : Prop := match k with
  | true => h.IsList a items
  | false => h.IsTuple a items
def ItAt (k : Bool) (h : Heap) (it a : Addr) (i : Nat) : Prop := match k with
  | true => h.IsListIter it a i
  | false => h.IsTupleIter it a i
def itO (k : Bool) (a : Addr) : Obj := match k with
  | true => { cls := .type "list_iterator", data := .fields #[.ref a, .int 0 0] }
  | false => { cls := .type "tuple_iterator", data := .fields #[.ref a, .int 0 0] }
theorem src {X : Cx} {pins : List (Addr × Obj)} {σ : L2.St} {H : Hp} {s : Shared} {k : Bool} {a : Addr} {vs : List V} (I : Inv X pins σ H s) (h : SqV X.K k H a vs) :
    ∃ its : List Value, Vals vs its ∧ IsS k s.heap a its.toArray := by
  cases k with
  | true =>
    obtain ⟨its, r, p, _⟩ := I.list h
    exact ⟨its, r, p.isList⟩
  | false =>
    obtain ⟨its, r, p, _⟩ := I.tuple h
    exact ⟨its, r, p⟩
theorem src_inj {X : Cx} {pins : List (Addr × Obj)} {σ : L2.St} {H : Hp} {s : Shared} {k : Bool} {a : Addr} {vs us : List V} (I : Inv X pins σ H s) (h : SqV X.K k H a vs) (h' : SqV X.K k H a us) : vs = us := by
  cases k with
  | true => exact I.list_inj h h'
  | false => exact I.tuple_inj h h'
theorem IsS.lt {k : Bool} {h : Heap} {a : Addr} {items : Array Value} (x : IsS k h a items) : a < h.objs.size := by
  cases k with
  | true => obtain ⟨o, e, _⟩ := (show h.IsList a items from x); exact Heap.lt_size e
  | false => obtain ⟨o, e, _⟩ := (show h.IsTuple a items from x); exact Heap.lt_size e
theorem drawsK {prog : Program} {w : World} {A : Around} (k : Bool) (hh : A.handled = none) (it a : Addr) (hne : a ≠ it) (items : Array Value) :
    Draws prog w A it [it, a] items.size (fun i v => items[i]? = some v) (fun i h => ItAt k h it a i ∧ IsS k h a items) := by
  cases k with
  | true => exact Draws.list hh it a hne items
  | false => exact Draws.tuple hh it a hne items
theorem beginsK (k : Bool) (a : Addr) (items : Array Value) : Begins (.ref a) (itO k a) (fun h => IsS k h a items) := by
  cases k with
  | true => exact begins_list a items
  | false => exact begins_tuple a items
theorem ItAt.live {k : Bool} {h : Heap} {it a : Addr} {i : Nat} (x : ItAt k h it a i) : ∃ o, h.get? it = some o ∧ ∀ v, o.data ≠ .cell v := by
  cases k with
  | true => obtain ⟨o, e, c, d⟩ := (show h.IsListIter it a i from x); exact ⟨o, e, fun v z => by rw [d] at z; cases z⟩
  | false => obtain ⟨o, e, c, d⟩ := (show h.IsTupleIter it a i from x); exact ⟨o, e, fun v z => by rw [d] at z; cases z⟩
theorem ItAt.keep {k : Bool} {h h' : Heap} {it a : Addr} {i : Nat} (x : ItAt k h it a i) (e : ∀ o, h.get? it = some o → h'.get? it = some o) : ItAt k h' it a i := by
  cases k with
  | true => exact Heap.IsListIter.at (show h.IsListIter it a i from x) e
  | false => exact Heap.IsTupleIter.at (show h.IsTupleIter it a i from x) e
theorem itO_at {k : Bool} {h : Heap} {it a : Addr} (e : h.get? it = some (itO k a)) : ItAt k h it a 0 := by
  cases k with
  | true => exact ⟨_, e, rfl, rfl⟩
  | false => exact ⟨_, e, rfl, rfl⟩

/-! x in s -/
def SeqIt (K : PySem.W.Frag) (k : Bool) (a : Addr) : It := match k with
  | true => Itl K a
  | false => Itt K a
def iSeqD (K : PySem.W.Frag) (tl : TE) : TI := fun σ H R => tl σ H fun x H1 => ∃ a k, x = .ref a ∧ (∃ vs, SqV K k H1 a vs) ∧ R (SeqIt K k a) H1
theorem pi_seqD {X : Cx} {tg l : Expr} {tl : TE} (hl : PE X l tl) : PI X tg l (iSeqD X.K tl) := by
  refine ⟨fun pins s σ H R I h => thn (hl.run pins s σ H _ I h) fun v s1 ⟨x, H1, I1, r1, a, k, e, ⟨xs, hq⟩, q⟩ => ?_⟩
  subst e
  cases r1
  have new : ∀ o, Inv X pins σ H1 { s1 with heap := s1.heap.push o } := fun o => I1.kept (t' := s1.toks) fun _ _ e => Heap.get?_push_of_some _ e
  have fp : ∀ b, b ∈ [s1.heap.objs.size] → FpOk X pins H1 b := fun b hb => by
    rw [List.mem_singleton.mp hb]
    exact I1.fpOk (Nat.le_refl _) (I1.hok.fresh (Nat.le_refl _))
  cases k with
  | true =>
    obtain ⟨its, rv, p, _⟩ := I1.list hq
    exact wpAny_pyIter_list p.isList ⟨_, _, _, _, H1, rfl, new _, turn_list a _, ⟨_, Heap.get?_push_size _ rfl, rfl, rfl⟩, fp, q⟩
  | false =>
    obtain ⟨its, rv, p, _⟩ := I1.tuple hq
    exact wpAny_pyIter_tuple (show s1.heap.IsTuple a its.toArray from p) ⟨_, _, _, _, H1, rfl, new _, turn_tuple a _, ⟨_, Heap.get?_push_size _ rfl, rfl, rfl⟩, fp, q⟩

/-! enumerate -/
def ItE (K : PySem.W.Frag) (k : Bool) (a : Addr) (n0 : Int) : It :=
  ⟨fun i H => ∃ vs x, SqV K k H a vs ∧ vs[i]? = some x,
   fun i H v H' => ∃ T x, v = .ref T ∧ H T = none ∧ H' = upd H T (.tup [.int (n0 + (i : Int)), x]) ∧ ∀ vs, SqV K k H a vs → vs[i]? = some x,
   fun i H => ∃ vs, SqV K k H a vs ∧ i = vs.length⟩
theorem turn_enumK {P : Program} {w : World} {K : PySem.W.Frag} {elts : List Expr} {kk : Nat} {tpos : Pos} {k : Bool} {a e it : Addr} {n0 : Int} (h1 : e ≠ it) (h2 : e ∉ [it, a]) (h3 : a ≠ it) :
    Turn P w K (.Tuple elts kk tpos) (ItE K k a n0) [e, it] e (fun i h => (∃ old, IsEnum h e it (n0 + (i : Int)) old) ∧ ItAt k h it a i) where
  mem := by simp
  obj := fun i h st b hb => by
    obtain ⟨⟨old, he⟩, hi⟩ := st
    rcases (show b = e ∨ b = it by simpa using hb) with rfl | rfl
    · exact ⟨_, he, fun v z => nomatch z⟩
    · exact hi.live
  keep := fun i h h' st q => by
    obtain ⟨⟨old, he⟩, hi⟩ := st
    exact ⟨⟨old, q e (by simp) _ he⟩, hi.keep fun o z => q it (by simp) o z⟩
  item := by
    intro X hP hw hK hc i pins s σ H E I hf st hg
    subst hP hw hK
    obtain ⟨vs, x, hq, hx⟩ := hg
    obtain ⟨its, rv, hs⟩ := src I hq
    obtain ⟨u, hu, ru⟩ := rv.get hx
    have hi : i < its.toArray.size := by
      have := (List.getElem?_eq_some_iff.mp hu).1
      simpa using this
    refine (GoesN.enumFrom n0 (drawsK k (by exact I.ok.hd hc) it a h3 its.toArray) e h1 h2 (by simp)).goes i s _ E hi ⟨st.1, st.2, hs⟩ fun v h' tk hY st' hk htk => ?_
    obtain ⟨T, t, x0, rfl, hT, hx0, hTup⟩ := hY
    have ex : x0 = u := by
      rw [List.getElem?_toArray, hu] at hx0
      exact (Option.some.inj hx0).symm
    subst ex
    have new : ObjOk X.prog X.w (upd H T (.tup [.int (n0 + (i : Int)), x])) h' T (.tup [.int (n0 + (i : Int)), x]) :=
      ⟨by show 2 ≤ sizeLine; decide, [.int (n0 + (i : Int)) t, x0], .cons ⟨_, rfl⟩ (.cons ru .nil), hTup⟩
    refine ⟨.ref T, _, I.turnedNew (t' := tk) (ch := [e, it]) hk hf hT new, rfl, ⟨T, x, rfl, I.hok.fresh hT, rfl, fun us hus => by rw [src_inj I hus hq]; exact hx⟩, ⟨st'.1, st'.2.1⟩, fun b hb => ?_⟩
    have hbl : b < s.heap.objs.size := by
      rcases (show b = e ∨ b = it by simpa using hb) with rfl | rfl
      · obtain ⟨⟨_, he⟩, _⟩ := st; exact Heap.lt_size he
      · obtain ⟨_, z, _⟩ := st.2.live; exact Heap.lt_size z
    rw [upd_ne (Nat.ne_of_lt (Nat.lt_of_lt_of_le hbl hT))]
    exact (hf b hb).1
  done := by
    intro X hP hw hK hc i pins s σ H E I hf st hg
    subst hP hw hK
    obtain ⟨vs, hq, hn⟩ := hg
    obtain ⟨its, rv, hs⟩ := src I hq
    have hi : i = its.toArray.size := by rw [hn, rv.length, List.size_toArray]
    subst hi
    exact (GoesN.enumFrom n0 (drawsK k (by exact I.ok.hd hc) it a h3 its.toArray) e h1 h2 (by simp) (elts := elts) (x1 := kk) (pos := tpos)).stops s _ E ⟨st.1, st.2, hs⟩ fun h' tk hk htk => I.turnedL (t' := tk) (ch := [e, it]) (fun c o hb q => hk c o hb q) hf
  self := fun A i s Q E st h => by
    obtain ⟨⟨_, he⟩, _⟩ := st
    exact wpAny_pyIter_enum he h
theorem enum_new1 {v : Value} {ob : Obj} {G : Heap → Prop} (B : Begins v ob G) :
    Meets (Builtin.«enumerate.__new__» ⟨[.type "enumerate", v], []⟩) (fun _ R s => G s.heap ∧
      R (.ok (.ret (.ref (s.heap.push ob).objs.size))) { s with heap := (s.heap.push ob).push { cls := .type "enumerate", data := .fields #[.none, .bool false, .ref s.heap.objs.size, rawInt 0, .none, .none] } }) := by
  refine .of_wp fun prog w A R s h => ?_
  obtain ⟨hp, g, d, tk, os⟩ := s
  obtain ⟨hG, h⟩ := h
  have hsub := sub_enumerate
  have begin_ : ∀ {A' : Around} {E : Value → Shared → Prop} {Q : Value → Shared → Prop}, Q (.ref hp.objs.size) ⟨hp.push ob, g, d, tk, os⟩ → wpAny (model prog w) A' (pyIter v) Q E ⟨hp, g, d, tk, os⟩ := fun q => B.iter _ _ _ _ ⟨hp, g, d, tk, os⟩ _ hG q
  wp_walk using begin_
  refine wpAny_stack_any fun st => wpAny_pure ?_
  split
  · rename_i c _ _ _ _ _
    cases (c == Value.type "enumerate") <;> (wp_walk using begin_; exact ⟨_, rfl, h⟩)
  · wp_walk using begin_
    exact ⟨_, rfl, h⟩
def iEnumD (K : PySem.W.Frag) (ta : TA) : TI := fun σ H R => ta σ H fun vs H1 => ∃ a k, vs = [.ref a] ∧ (∃ us, SqV K k H1 a us) ∧ R (ItE K k a 0) H1
theorem pi_enumD {X : Cx} {e : Expr} {ta : TA} {p pos tpos : Pos} {elts : List Expr} {kk : Nat} (hg : Gl X "enumerate") (hm : X.mg "enumerate" = none) (ha : PA X [e] ta) (hs : starEach [e] X.env = [(false, eval e X.env)] := by rfl) :
    PI X (.Tuple elts kk tpos) (.Call (.Name "enumerate" p) [e] [] pos) (iEnumD X.K ta) := by
  refine ⟨fun pins s σ H R I h => Call_ (ld_blt I hg hm boot_enumerate (PyProof.Rows.callWith_type1 (thn (ha.run pos pins s σ H _ I h) fun us s1 ⟨vs, H1, I1, r1, a, k, ex, ⟨xs, hq⟩, q⟩ => ?_) hs rfl))⟩
  subst ex
  cases r1 with
  | cons r rr =>
    cases rr
    cases r
    obtain ⟨its, rv, hS⟩ := src I1 hq
    refine callType_new F.called_enumerate (by decide) (F.typeCall_enumerate_1 _) (F.newCall_enumerate_1 _) (fun obj => F.args_object_init_2 obj _) F.entry_enumerate_new (enum_new1 (beginsK k a its.toArray)) ⟨hS, ?_⟩
    have z1 : (s1.heap.push (itO k a)).objs.size = s1.heap.objs.size + 1 := Heap.size_push ..
    show _ ∧ _
    rw [z1]
    have he := Heap.get?_push_size (s1.heap.push (itO k a)) (o := { cls := .type "enumerate", data := .fields #[.none, .bool false, .ref s1.heap.objs.size, rawInt 0, .none, .none] }) rfl
    rw [z1] at he
    have hit : ItAt k ((s1.heap.push (itO k a)).push { cls := .type "enumerate", data := .fields #[.none, .bool false, .ref s1.heap.objs.size, rawInt 0, .none, .none] }) s1.heap.objs.size a 0 :=
      itO_at (Heap.get?_push_of_some _ (Heap.get?_push_size _ (by cases k <;> rfl)))
    refine ⟨⟨_, he, rfl⟩, wpAny_pyIter_enum he ?_⟩
    have hne : a ≠ s1.heap.objs.size := Nat.ne_of_lt hS.lt
    refine ⟨s1.heap.objs.size + 1, [s1.heap.objs.size + 1, s1.heap.objs.size], _, _, H1, rfl, I1.kept (t' := s1.toks) (fun b o z => Heap.get?_push_of_some _ (Heap.get?_push_of_some _ z)),
      turn_enumK (Nat.succ_ne_self _) ?_ hne, ⟨⟨.none, he⟩, hit⟩, fun b hb => ?_, q⟩
    · intro z
      rcases (show s1.heap.objs.size + 1 = s1.heap.objs.size ∨ s1.heap.objs.size + 1 = a by simpa using z) with z | z
      · exact Nat.succ_ne_self _ z
      · exact absurd hS.lt (by rw [← z]; exact Nat.not_lt.mpr (Nat.le_succ _))
    · have hle : s1.heap.objs.size ≤ b := by
        rcases (show b = s1.heap.objs.size + 1 ∨ b = s1.heap.objs.size by simpa using hb) with z | z
        · rw [z]; exact Nat.le_succ _
        · rw [z]; exact Nat.le_refl _
      exact I1.fpOk hle (I1.hok.fresh hle)

/-! zip of two -/
def ItZ (K : PySem.W.Frag) (k1 k2 : Bool) (a b : Addr) : It :=
  ⟨fun i H => ∃ vs us x y, SqV K k1 H a vs ∧ SqV K k2 H b us ∧ vs[i]? = some x ∧ us[i]? = some y,
   fun i H v H' => ∃ T x y, v = .ref T ∧ H T = none ∧ H' = upd H T (.tup [x, y]) ∧ (∀ vs, SqV K k1 H a vs → vs[i]? = some x) ∧ ∀ us, SqV K k2 H b us → us[i]? = some y,
   fun i H => ∃ vs us, SqV K k1 H a vs ∧ SqV K k2 H b us ∧ i = min vs.length us.length⟩
theorem turn_zipK {P : Program} {w : World} {K : PySem.W.Frag} {elts : List Expr} {kk : Nat} {tpos : Pos} {k1 k2 : Bool} {a b z TI TO i1 i2 : Addr} (S : ZipSep2 z TI TO i1 i2 [i1, a] [i2, b]) (h1 : a ≠ i1) (h2 : b ≠ i2) :
    Turn P w K (.Tuple elts kk tpos) (ItZ K k1 k2 a b) [z, TI, TO, i1, i2] z (fun i h => IsZip h z TI TO .none ∧ IsTupOf2 h TI (.ref i1) (.ref i2) ∧ (∃ a1 a2, IsTupOf2 h TO a1 a2) ∧ ItAt k1 h i1 a i ∧ ItAt k2 h i2 b i) where
  mem := by simp
  obj := fun i h st c hcm => by
    obtain ⟨hz, hTI, ⟨x, y, hTO⟩, g1, g2⟩ := st
    rcases (show c = z ∨ c = TI ∨ c = TO ∨ c = i1 ∨ c = i2 by simpa using hcm) with rfl | rfl | rfl | rfl | rfl
    · exact ⟨_, hz, fun v q => nomatch q⟩
    · exact ⟨_, hTI, fun v q => nomatch q⟩
    · exact ⟨_, hTO, fun v q => nomatch q⟩
    · exact g1.live
    · exact g2.live
  keep := fun i h h' st q => by
    obtain ⟨hz, hTI, ⟨x, y, hTO⟩, g1, g2⟩ := st
    exact ⟨q z (by simp) _ hz, q TI (by simp) _ hTI, ⟨x, y, q TO (by simp) _ hTO⟩, g1.keep fun o e => q i1 (by simp) o e, g2.keep fun o e => q i2 (by simp) o e⟩
  item := by
    intro X hP hw hK hc i pins s σ H E I hf st hg
    subst hP hw hK
    obtain ⟨vs, us, x, y, hqx, hqy, hx, hy⟩ := hg
    obtain ⟨its, rv, hs1⟩ := src I hqx
    obtain ⟨its2, rv2, hs2⟩ := src I hqy
    obtain ⟨u, hu, ru⟩ := rv.get hx
    obtain ⟨u2, hu2, ru2⟩ := rv2.get hy
    have hi : i < min its.toArray.size its2.toArray.size := by
      have := (List.getElem?_eq_some_iff.mp hu).1
      have := (List.getElem?_eq_some_iff.mp hu2).1
      simp only [List.size_toArray]
      omega
    obtain ⟨hz, hTI, hTO, g1, g2⟩ := st
    refine (GoesN.zip2 S (drawsK k1 (by exact I.ok.hd hc) i1 a h1 its.toArray) (drawsK k2 (by exact I.ok.hd hc) i2 b h2 its2.toArray)).goes i s _ E hi ⟨hz, hTI, hTO, ⟨g1, hs1⟩, g2, hs2⟩ fun v h' tk hY st' hk htk => ?_
    obtain ⟨T, x0, y0, rfl, hT, hx0, hy0, hTup⟩ := hY
    have ex : x0 = u := by
      rw [List.getElem?_toArray, hu] at hx0
      exact (Option.some.inj hx0).symm
    have ey : y0 = u2 := by
      rw [List.getElem?_toArray, hu2] at hy0
      exact (Option.some.inj hy0).symm
    subst ex ey
    have new : ObjOk X.prog X.w (upd H T (.tup [x, y])) h' T (.tup [x, y]) := ⟨by show 2 ≤ sizeLine; decide, [x0, y0], .cons ru (.cons ru2 .nil), hTup⟩
    refine ⟨.ref T, _, I.turnedNew (t' := tk) (ch := [z, TI, TO, i1, i2]) (fun c o hb q => hk c o (fun m => hb ?_) q) hf hT new, rfl,
      ⟨T, x, y, rfl, I.hok.fresh hT, rfl, fun l hl => by rw [src_inj I hl hqx]; exact hx, fun l hl => by rw [src_inj I hl hqy]; exact hy⟩, ⟨st'.1, st'.2.1, st'.2.2.1, st'.2.2.2.1.1, st'.2.2.2.2.1⟩, fun c hcm => ?_⟩
    · rcases (show c = z ∨ c = TO ∨ c = i1 ∨ c = i2 by simpa using m) with e | e | e | e <;> simp [e]
    · have hbl : c < s.heap.objs.size := by
        rcases (show c = z ∨ c = TI ∨ c = TO ∨ c = i1 ∨ c = i2 by simpa using hcm) with e | e | e | e | e
        · rw [e]; exact Heap.lt_size hz
        · rw [e]; exact Heap.lt_size hTI
        · obtain ⟨_, _, q⟩ := hTO; rw [e]; exact Heap.lt_size q
        · obtain ⟨_, q, _⟩ := g1.live; rw [e]; exact Heap.lt_size q
        · obtain ⟨_, q, _⟩ := g2.live; rw [e]; exact Heap.lt_size q
      rw [upd_ne (Nat.ne_of_lt (Nat.lt_of_lt_of_le hbl hT))]
      exact (hf c hcm).1
  done := by
    intro X hP hw hK hc i pins s σ H E I hf st hg
    subst hP hw hK
    obtain ⟨vs, us, hqx, hqy, hn⟩ := hg
    obtain ⟨its, rv, hs1⟩ := src I hqx
    obtain ⟨its2, rv2, hs2⟩ := src I hqy
    have hi : i = min its.toArray.size its2.toArray.size := by rw [hn, rv.length, rv2.length, List.size_toArray, List.size_toArray]
    subst hi
    obtain ⟨hz, hTI, hTO, g1, g2⟩ := st
    refine (GoesN.zip2 S (drawsK k1 (by exact I.ok.hd hc) i1 a h1 its.toArray) (drawsK k2 (by exact I.ok.hd hc) i2 b h2 its2.toArray) (elts := elts) (x1 := kk) (pos := tpos)).stops s _ E ⟨hz, hTI, hTO, ⟨g1, hs1⟩, g2, hs2⟩ fun h' tk hk htk =>
      I.turnedL (t' := tk) (ch := [z, TI, TO, i1, i2]) (fun c o hb q => hk c o (fun m => hb ?_) q) hf
    rcases (show c = z ∨ c = TO ∨ c = i1 ∨ c = i2 by simpa using m) with e | e | e | e <;> simp [e]
  self := fun A i s Q E st h => wpAny_pyIter_zip st.1 h
def iZipD (K : PySem.W.Frag) (ta : TA) : TI := fun σ H R => ta σ H fun vs H1 => ∃ a b k1 k2, vs = [.ref a, .ref b] ∧ (∃ us, SqV K k1 H1 a us) ∧ (∃ us, SqV K k2 H1 b us) ∧ R (ItZ K k1 k2 a b) H1
theorem pi_zipD {X : Cx} {e e2 : Expr} {ta : TA} {p pos tpos : Pos} {elts : List Expr} {kk : Nat} (hg : Gl X "zip") (hm : X.mg "zip" = none) (ha : PA X [e, e2] ta)
    (hs : starEach [e, e2] X.env = (false, eval e X.env) :: starEach [e2] X.env := by rfl) (hpl : (backTo pos (starEach [e2] X.env)).any (·.1) = false := by rfl) :
    PI X (.Tuple elts kk tpos) (.Call (.Name "zip" p) [e, e2] [] pos) (iZipD X.K ta) := by
  refine ⟨fun pins s σ H R I h => Call_ (ld_blt I hg hm PyProof.Rows.boot_zip (PyProof.Rows.callWith_type1 (thn (ha.run pos pins s σ H _ I h) fun us s1 ⟨vs, H1, I1, r1, a, b, k1, k2, ex, ⟨xs, hqx⟩, ⟨ys, hqy⟩, q⟩ => ?_) hs hpl))⟩
  subst ex
  cases r1 with
  | cons r rr =>
    cases rr with
    | cons r' rr =>
      cases rr
      cases r
      cases r'
      obtain ⟨its, rv, hS1⟩ := src I1 hqx
      obtain ⟨its2, rv2, hS2⟩ := src I1 hqy
      refine zip_begins2 (beginsK k1 a its.toArray) (beginsK k2 b its2.toArray) hS1 hS2 fun h' hz hTI hTO g1 g2 hsz hk => wpAny_pyIter_zip hz ?_
      refine ⟨s1.heap.objs.size + 4, [s1.heap.objs.size + 4, s1.heap.objs.size + 2, s1.heap.objs.size + 3, s1.heap.objs.size, s1.heap.objs.size + 1], _, _, H1, rfl, I1.kept (t' := s1.toks) hk,
        turn_zipK (zip_sep2 (fp1 := [a]) (fp2 := [b]) (fun c hcm => by rw [List.mem_singleton.mp hcm]; exact hS1.lt) (fun c hcm => by rw [List.mem_singleton.mp hcm]; exact hS2.lt)) (Nat.ne_of_lt hS1.lt) (Nat.ne_of_lt (Nat.lt_succ_of_lt hS2.lt)),
        ⟨hz, hTI, ⟨_, _, hTO⟩, itO_at g1, itO_at g2⟩, fun c hcm => ?_, q⟩
      have hle : s1.heap.objs.size ≤ c := by
        rcases (show c = s1.heap.objs.size + 4 ∨ c = s1.heap.objs.size + 2 ∨ c = s1.heap.objs.size + 3 ∨ c = s1.heap.objs.size ∨ c = s1.heap.objs.size + 1 by simpa using hcm) with e | e | e | e | e <;> rw [e] <;> first | exact Nat.le_refl _ | exact Nat.le_add_right _ _
      exact I1.fpOk hle (I1.hok.fresh hle)
end DL

namespace DL
open PySem PySem.Spec PyProof.Rows L2

section
variable {K : PySem.W.Frag} {xl xl' al al' : List Addr} {H : Hp}
mutual
theorem Rep.chg (s : ∀ q, q ∈ xl' → q ∈ xl ∨ H q = none) : ∀ {d : D} {v : V}, Rep K xl al H d v → Rep K xl' al H d v
  | _, _, .non => .non
  | _, _, .bl b => .bl b
  | _, _, .int i => .int i
  | _, _, .str x => .str x
  | _, _, .tup h r => .tup h (r.chg s)
  | _, _, .vl h n n' r => .vl h n (fun m => (s _ m).elim n' fun z => by rw [z] at h; cases h) (r.chg s)
  | _, _, .fz h n r => .fz h n (r.chg s)
  | _, _, .fzK k c h r => .fzK k c h (r.chg s)
  | _, _, .ref h => .ref h
theorem Reps.chg (s : ∀ q, q ∈ xl' → q ∈ xl ∨ H q = none) : ∀ {ds : List D} {vs : List V}, Reps K xl al H ds vs → Reps K xl' al H ds vs
  | _, _, .nil => .nil
  | _, _, .cons h r => .cons (h.chg s) (r.chg s)
end
end

/-! what is walked -/
def refItm (p : Nat) (S : DS) : Ou Itm := match S[p]? with
  | some (DO.lst xs) => .ok ⟨xs, some p⟩ S
  | none => .no
def asItm (d : D) (S : DS) : Ou Itm := match d with
  | .tup xs => .ok ⟨xs, none⟩ S
  | .vl xs => .ok ⟨xs, none⟩ S
  | .fz xs => .ok ⟨xs, none⟩ S
  | .ref p => refItm p S
  | _ => .no
def mSeqI (a : ME) : MIt := fun env S => (a env S).bind asItm
def rangeD (lo : Int) (n : Nat) : List D := (List.range n).map fun (i : Nat) => D.int (lo + (i : Int))
def rng1O (xs : List D) (S : DS) : Ou Itm := match xs with
  | [.int j] => if -(2 ^ 62) ≤ j ∧ j < 2 ^ 62 then .ok ⟨rangeD 0 j.toNat, none⟩ S else .no
  | _ => .no
def rng2O (xs : List D) (S : DS) : Ou Itm := match xs with
  | [.int i, .int j] => if -(2 ^ 62) ≤ i ∧ i < 2 ^ 62 ∧ -(2 ^ 62) ≤ j ∧ j < 2 ^ 62 then .ok ⟨rangeD i (j - i).toNat, none⟩ S else .no
  | _ => .no
def enumD : Nat → List D → List D
  | _, [] => []
  | n, x :: xs => .tup [.int (n : Int), x] :: enumD (n + 1) xs
def zipD : List D → List D → List D
  | x :: xs, y :: ys => .tup [x, y] :: zipD xs ys
  | _, _ => []
def asSeq (d : D) : Option (List D) := match d with
  | .tup xs => some xs
  | .vl xs => some xs
  | _ => none
def enumO (xs : List D) (S : DS) : Ou Itm := match xs with
  | [d] => match asSeq d with
    | some ys => .ok ⟨enumD 0 ys, none⟩ S
    | none => .no
  | _ => .no
def zipO (xs : List D) (S : DS) : Ou Itm := match xs with
  | [d, e] => match asSeq d, asSeq e with
    | some ys, some zs => .ok ⟨zipD ys zs, none⟩ S
    | _, _ => .no
  | _ => .no
def mArgI (f : List D → DS → Ou Itm) (a : MA) : MIt := fun env S => (a env S).bind f

theorem enumD_get : ∀ (n : Nat) (xs : List D) (i : Nat), (enumD n xs)[i]? = (xs[i]?).map fun x => .tup [.int ((n + i : Nat) : Int), x]
  | _, [], i => by simp [enumD]
  | n, x :: xs, 0 => by simp [enumD]
  | n, x :: xs, i + 1 => by
    rw [enumD, List.getElem?_cons_succ, List.getElem?_cons_succ, enumD_get (n + 1) xs i]
    rw [show n + 1 + i = n + (i + 1) by omega]
theorem enumD_len : ∀ (n : Nat) (xs : List D), (enumD n xs).length = xs.length
  | _, [] => rfl
  | n, x :: xs => by rw [enumD, List.length_cons, List.length_cons, enumD_len]
theorem zipD_get : ∀ (xs ys : List D) (i : Nat) (d : D), (zipD xs ys)[i]? = some d → ∃ x y, xs[i]? = some x ∧ ys[i]? = some y ∧ d = .tup [x, y]
  | [], _, _, _, h => by simp [zipD] at h
  | _ :: _, [], _, _, h => by simp [zipD] at h
  | x :: xs, y :: ys, 0, d, h => by
    simp [zipD] at h
    exact ⟨x, y, rfl, rfl, h.symm⟩
  | x :: xs, y :: ys, i + 1, d, h => by
    rw [zipD, List.getElem?_cons_succ] at h
    obtain ⟨x', y', h1, h2, h3⟩ := zipD_get xs ys i d h
    exact ⟨x', y', by simpa using h1, by simpa using h2, h3⟩
theorem zipD_len : ∀ (xs ys : List D), (zipD xs ys).length = min xs.length ys.length
  | [], ys => by simp [zipD]
  | _ :: _, [] => by simp [zipD]
  | x :: xs, y :: ys => by rw [zipD, List.length_cons, List.length_cons, List.length_cons, zipD_len]; omega

section
variable {X : Cx} {cm : CM} {W : WX} {tg e e2 : Expr} {ma : ME} {mm : MA}
/-- a sequence's place, told for later -/
theorem seq_later {K : PySem.W.Frag} {xl al1 : List Addr} {H1 : Hp} {d : D} {v : V} {ys : List D} (h : asSeq d = some ys) (r : Rep K xl al1 H1 d v) :
    ∃ a k us, v = .ref a ∧ SqV K k H1 a us ∧ Reps K xl al1 H1 ys us ∧ ∀ al' H', Ext al1 H1 al' H' → SqV K k H' a us := by
  cases r with
  | tup h0 r =>
    simp only [asSeq, Option.some.injEq] at h
    subst h
    exact ⟨_, false, _, rfl, h0, r, fun al' H' e => e.sqt h0⟩
  | vl h0 n n' r =>
    simp only [asSeq, Option.some.injEq] at h
    subst h
    exact ⟨_, true, _, rfl, SqL.of h0, r, fun al' H' e => SqL.of (e.fr _ _ n h0)⟩
  | _ => simp [asSeq] at h
theorem sqv_at {K : PySem.W.Frag} {k : Bool} {a : Addr} {H : Hp} {us : List V} (h : SqV K k H a us) (J : It) (hJ : J = SeqIt K k a) {i : Nat} {v : V} (hv : us[i]? = some v) : J.go i H ∧ ∀ x H'', J.yld i H x H'' → H'' = H ∧ x = v := by
  subst hJ
  cases k with
  | true =>
    refine ⟨⟨us, v, h, hv⟩, fun x H'' y => ?_⟩
    obtain ⟨e, y⟩ := y
    have := y us h
    rw [hv] at this
    exact ⟨e, (Option.some.inj this).symm⟩
  | false =>
    refine ⟨⟨us, v, h, hv⟩, fun x H'' y => ?_⟩
    obtain ⟨e, y⟩ := y
    have := y us h
    rw [hv] at this
    exact ⟨e, (Option.some.inj this).symm⟩
theorem sqv_end {K : PySem.W.Frag} {k : Bool} {a : Addr} {H : Hp} {us : List V} (h : SqV K k H a us) : (SeqIt K k a).stop us.length H := by
  cases k with
  | true => exact ⟨us, h, Nat.le_refl _⟩
  | false => exact ⟨us, h, Nat.le_refl _⟩
theorem yields_static {K : PySem.W.Frag} {xl al1 : List Addr} {H1 : Hp} {k : Bool} {a : Addr} {us : List V} {ys : List D} (r : Reps K xl al1 H1 ys us) (l : ∀ al' H', Ext al1 H1 al' H' → SqV K k H' a us) : Yields K xl al1 H1 ⟨ys, none⟩ (SeqIt K k a) := by
  intro xl' S' al' H' e hx w _
  have hS := l al' H' e
  refine ⟨fun i d hd => ?_, ?_⟩
  · obtain ⟨v, hv, rv⟩ := r.get hd
    obtain ⟨g, y⟩ := sqv_at hS _ rfl hv
    refine ⟨g, fun x H'' hy => ?_⟩
    obtain ⟨e1, e2⟩ := y x H'' hy
    subst e1 e2
    exact ⟨fun _ _ h => h, (rv.chg hx).mono e⟩
  · have := sqv_end hS
    rw [← r.length] at this
    exact this
theorem it_seq (h : EOk X cm W e ma) : IOk' X cm W tg e (mSeqI ma) := by
  obtain ⟨t, p, d⟩ := h
  refine ⟨_, pi_seqD p, fun xl al σ H S env R w r q => ?_⟩
  refine d xl al σ H S env _ w r (q.bind.imp fun x S1 al1 H1 e1 w1 p1 v rv => ?_)
  cases x with
  | tup xs =>
    obtain ⟨a, k, us, rfl, hS, r1, l⟩ := seq_later (d := .tup xs) rfl rv
    exact ⟨a, k, rfl, ⟨us, hS⟩, p1.here w1 _ (yields_static r1 l)⟩
  | vl xs =>
    obtain ⟨a, k, us, rfl, hS, r1, l⟩ := seq_later (d := .vl xs) rfl rv
    exact ⟨a, k, rfl, ⟨us, hS⟩, p1.here w1 _ (yields_static r1 l)⟩
  | fz xs =>
    cases rv with
    | fz h n r1 => exact ⟨_, true, rfl, ⟨_, show SqL X.K H1 _ _ from .inl (.inr ⟨_, h⟩)⟩, p1.here w1 _ (yields_static (k := true) r1 fun al' H' e => show SqL X.K H' _ _ from .inl (.inr ⟨_, e.fr _ _ n h⟩))⟩
    | fzK k c h r1 => exact ⟨_, true, rfl, ⟨_, show SqL X.K H1 _ _ from h H1⟩, p1.here w1 _ (yields_static (k := true) r1 fun al' H' e => show SqL X.K H' _ _ from h H')⟩
  | ref n =>
    replace p1 : Post X.K cm xl (fun c d H' => W c d σ H') (fun it S1 al1 H1 => ∀ (J : It), Yields X.K xl al1 H1 it J → R J H1) (refItm n S1) al1 H1 := p1
    unfold refItm at p1
    split at p1
    · rename_i xs hS
      cases rv with
      | ref ha =>
        rename_i a
        obtain ⟨a', us, h1, h2, h3⟩ := w1.list hS
        rw [ha] at h1; cases h1
        refine ⟨a, true, rfl, ⟨us, show SqL X.K H1 a us from SqL.of h2⟩, p1.here w1 _ ?_⟩
        intro xl' S' al' H' e hx w' ok
        obtain ⟨b, us', g1, g2, g3⟩ := w'.list (show S'[n]? = some (DO.lst xs) from ok)
        rw [e.get ha] at g1; cases g1
        have hS' : SqV X.K true H' a us' := SqL.of g2
        refine ⟨fun i d hd => ?_, ?_⟩
        · obtain ⟨v, hv, rv⟩ := g3.get hd
          obtain ⟨g, y⟩ := sqv_at hS' _ rfl hv
          refine ⟨g, fun x H'' hy => ?_⟩
          obtain ⟨e1, e2⟩ := y x H'' hy
          subst e1 e2
          exact ⟨fun _ _ h => h, rv⟩
        · have := sqv_end hS'
          rw [← g3.length] at this
          exact this
    · exact p1.elim
  | _ => exact p1.elim
theorem range_yields {K : PySem.W.Frag} {xl al1 : List Addr} {H1 : Hp} {lo : Int} {n : Nat} : Yields K xl al1 H1 ⟨rangeD lo n, none⟩ (Itr lo n) := by
  intro xl' S' al' H' e hx w _
  refine ⟨fun i d hd => ?_, ?_⟩
  · have hl : i < n := by
      have := (List.getElem?_eq_some_iff.mp hd).1
      simpa [rangeD] using this
    refine ⟨hl, fun x H'' hy => ?_⟩
    obtain ⟨e1, e2⟩ := hy
    subst e1 e2
    have ed : d = .int (lo + (i : Int)) := by
      have : (rangeD lo n)[i]? = some d := hd
      unfold rangeD at this
      rw [List.getElem?_map, List.getElem?_range hl] at this
      exact (Option.some.inj this).symm
    subst ed
    exact ⟨fun _ _ h => h, .int _⟩
  · show n ≤ (rangeD lo n).length
    simp [rangeD]
theorem it_range1 {p pos : Pos} (hg : Gl X "range") (hm : X.mg "range" = none) (ha : AOk X cm W [e] mm) (hs : starEach [e] X.env = [(false, eval e X.env)] := by rfl) : IOk' X cm W tg (.Call (.Name "range" p) [e] [] pos) (mArgI rng1O mm) := by
  obtain ⟨t, pt, d⟩ := ha
  refine ⟨_, pi_range1 hg hm pt hs, fun xl al σ H S env R w r q => ?_⟩
  refine d xl al σ H S env _ w r (q.bind.imp fun xs S1 al1 H1 e1 w1 p1 vs rs => ?_)
  unfold rng1O at p1
  split at p1
  · obtain ⟨v, rfl, rv⟩ := reps1 rs
    cases rv
    split at p1
    · rename_i hc
      exact ⟨_, rfl, hc.1, hc.2, p1.here w1 _ range_yields⟩
    · exact p1.elim
  · exact p1.elim
theorem it_range2 {p pos : Pos} (hg : Gl X "range") (hm : X.mg "range" = none) (ha : AOk X cm W [e, e2] mm) (hs : starEach [e, e2] X.env = [(false, eval e X.env), (false, eval e2 X.env)] := by rfl) (hs2 : starEach [e2] X.env = [(false, eval e2 X.env)] := by rfl) : IOk' X cm W tg (.Call (.Name "range" p) [e, e2] [] pos) (mArgI rng2O mm) := by
  obtain ⟨t, pt, d⟩ := ha
  refine ⟨_, pi_range2 hg hm pt hs hs2, fun xl al σ H S env R w r q => ?_⟩
  refine d xl al σ H S env _ w r (q.bind.imp fun xs S1 al1 H1 e1 w1 p1 vs rs => ?_)
  unfold rng2O at p1
  split at p1
  · obtain ⟨v, u, rfl, rv, ru⟩ := reps2 rs
    cases rv; cases ru
    split at p1
    · rename_i hc
      exact ⟨_, _, rfl, hc, p1.here w1 _ range_yields⟩
    · exact p1.elim
  · exact p1.elim
theorem enum_yields {K : PySem.W.Frag} {xl al1 : List Addr} {H1 : Hp} {k : Bool} {a : Addr} {us : List V} {ys : List D} (r : Reps K xl al1 H1 ys us) (l : ∀ al' H', Ext al1 H1 al' H' → SqV K k H' a us) : Yields K xl al1 H1 ⟨enumD 0 ys, none⟩ (ItE K k a 0) := by
  intro xl' S' al' H' e hx w _
  have hS := l al' H' e
  refine ⟨fun i d hd => ?_, ?_⟩
  · have hd' : (enumD 0 ys)[i]? = some d := hd
    rw [enumD_get, Option.map_eq_some_iff] at hd'
    obtain ⟨y, hy, rfl⟩ := hd'
    obtain ⟨v, hv, rv⟩ := r.get hy
    refine ⟨⟨us, v, hS, hv⟩, fun x H'' hyx => ?_⟩
    obtain ⟨T, x0, rfl, nT, rfl, hx0⟩ := hyx
    have ex : x0 = v := by
      have := hx0 us hS
      rw [hv] at this
      exact (Option.some.inj this).symm
    subst ex
    refine ⟨fun b o h => by rw [upd_ne (ne_of_none h nT)]; exact h, ?_⟩
    have : Reps K xl' al' H' [.int ((0 + i : Nat) : Int), y] [.int (0 + (i : Int)), x0] := .cons (by rw [Nat.zero_add, Int.zero_add]; exact .int _) (.cons ((rv.chg hx).mono e) .nil)
    exact Rep.newTup (S := S') nT this
  · show (ItE K k a 0).stop (enumD 0 ys).length H'
    rw [enumD_len]
    exact ⟨us, hS, r.length⟩
theorem it_enum {p pos tpos : Pos} {elts : List Expr} {kk : Nat} (hg : Gl X "enumerate") (hm : X.mg "enumerate" = none) (ha : AOk X cm W [e] mm) (hs : starEach [e] X.env = [(false, eval e X.env)] := by rfl) : IOk' X cm W (.Tuple elts kk tpos) (.Call (.Name "enumerate" p) [e] [] pos) (mArgI enumO mm) := by
  obtain ⟨t, pt, d⟩ := ha
  refine ⟨_, pi_enumD hg hm pt hs, fun xl al σ H S env R w r q => ?_⟩
  refine d xl al σ H S env _ w r (q.bind.imp fun xs S1 al1 H1 e1 w1 p1 vs rs => ?_)
  unfold enumO at p1
  split at p1
  · obtain ⟨v, rfl, rv⟩ := reps1 rs
    split at p1
    · rename_i ys hd
      obtain ⟨a, k, us, rfl, hS, r1, l⟩ := seq_later hd rv
      exact ⟨a, k, rfl, ⟨us, hS⟩, p1.here w1 _ (enum_yields r1 l)⟩
    · exact p1.elim
  · exact p1.elim
theorem zip_yields {K : PySem.W.Frag} {xl al1 : List Addr} {H1 : Hp} {k1 k2 : Bool} {a b : Addr} {us vs : List V} {ys zs : List D} (r : Reps K xl al1 H1 ys us) (l : ∀ al' H', Ext al1 H1 al' H' → SqV K k1 H' a us) (r2 : Reps K xl al1 H1 zs vs) (l2 : ∀ al' H', Ext al1 H1 al' H' → SqV K k2 H' b vs) :
    Yields K xl al1 H1 ⟨zipD ys zs, none⟩ (ItZ K k1 k2 a b) := by
  intro xl' S' al' H' e hx w _
  have hS := l al' H' e
  have hS2 := l2 al' H' e
  refine ⟨fun i d hd => ?_, ?_⟩
  · obtain ⟨y, z, hy, hz, rfl⟩ := zipD_get ys zs i d hd
    obtain ⟨v, hv, rv⟩ := r.get hy
    obtain ⟨u, hu, ru⟩ := r2.get hz
    refine ⟨⟨us, vs, v, u, hS, hS2, hv, hu⟩, fun x H'' hyx => ?_⟩
    obtain ⟨T, x0, y0, rfl, nT, rfl, hx0, hy0⟩ := hyx
    have ex : x0 = v := by
      have := hx0 us hS
      rw [hv] at this
      exact (Option.some.inj this).symm
    have ey : y0 = u := by
      have := hy0 vs hS2
      rw [hu] at this
      exact (Option.some.inj this).symm
    subst ex ey
    refine ⟨fun b o h => by rw [upd_ne (ne_of_none h nT)]; exact h, ?_⟩
    exact Rep.newTup (S := S') nT (.cons ((rv.chg hx).mono e) (.cons ((ru.chg hx).mono e) .nil))
  · show (ItZ K k1 k2 a b).stop (zipD ys zs).length H'
    rw [zipD_len]
    exact ⟨us, vs, hS, hS2, by rw [r.length, r2.length]⟩
theorem it_zip {p pos tpos : Pos} {elts : List Expr} {kk : Nat} (hg : Gl X "zip") (hm : X.mg "zip" = none) (ha : AOk X cm W [e, e2] mm)
    (hs : starEach [e, e2] X.env = (false, eval e X.env) :: starEach [e2] X.env := by rfl) (hpl : (backTo pos (starEach [e2] X.env)).any (·.1) = false := by rfl) : IOk' X cm W (.Tuple elts kk tpos) (.Call (.Name "zip" p) [e, e2] [] pos) (mArgI zipO mm) := by
  obtain ⟨t, pt, d⟩ := ha
  refine ⟨_, pi_zipD hg hm pt hs hpl, fun xl al σ H S env R w r q => ?_⟩
  refine d xl al σ H S env _ w r (q.bind.imp fun xs S1 al1 H1 e1 w1 p1 vs rs => ?_)
  unfold zipO at p1
  split at p1
  · obtain ⟨v, u, rfl, rv, ru⟩ := reps2 rs
    split at p1
    · rename_i ys zs hd he
      obtain ⟨a, k, us, rfl, hS, r1, l⟩ := seq_later hd rv
      obtain ⟨b, k2, us2, rfl, hS2, r2, l2⟩ := seq_later he ru
      exact ⟨a, b, k, k2, rfl, ⟨us, hS⟩, ⟨us2, hS2⟩, p1.here w1 _ (zip_yields r1 l r2 l2)⟩
    · exact p1.elim
  · exact p1.elim
end

/-! comprehensions as expressions -/
section
variable {X : Cx} {cm : CM} {W : WX}
theorem finV_ok {K : PySem.W.Frag} : FinOk K cm finV := fun xl al1 H1 al H S acc us D0 Q W0 e _ w h n1 n2 r _ p =>
  p al H e w _ (.vl h n1 n2 (r.less fun a h => List.mem_cons_of_mem _ h))
mutual
theorem Rep.join {K : PySem.W.Frag} {xl al : List Addr} {H : Hp} {q : Addr} {us : List V} (hq : H q = some (.lst us)) : ∀ {d : D} {v : V}, Rep K (q :: xl) al H d v → Rep K xl (al ++ [q]) H d v
  | _, _, .non => .non
  | _, _, .bl b => .bl b
  | _, _, .int i => .int i
  | _, _, .str x => .str x
  | _, _, .tup h r => .tup h (r.join hq)
  | _, _, .vl h n n' r => .vl h (fun m => (List.mem_append.mp m).elim n fun z => n' (by rw [List.mem_singleton.mp z]; exact List.mem_cons_self)) (fun m => n' (List.mem_cons_of_mem _ m)) (r.join hq)
  | _, _, .fz h n r => .fz h (fun m => (List.mem_append.mp m).elim n fun z => by rw [List.mem_singleton.mp z, hq] at h; cases h) (r.join hq)
  | _, _, .fzK k c h r => .fzK k c h (r.join hq)
  | _, _, .ref (p := p) h => .ref (by
      have hl : p < al.length := by
        by_cases z : p < al.length
        · exact z
        · rw [List.getElem?_eq_none (by omega)] at h; cases h
      rw [List.getElem?_append_left hl]; exact h)
theorem Reps.join {K : PySem.W.Frag} {xl al : List Addr} {H : Hp} {q : Addr} {us : List V} (hq : H q = some (.lst us)) : ∀ {ds : List D} {vs : List V}, Reps K (q :: xl) al H ds vs → Reps K xl (al ++ [q]) H ds vs
  | _, _, .nil => .nil
  | _, _, .cons h r => .cons (h.join hq) (r.join hq)
end
theorem finR_ok {K : PySem.W.Frag} : FinOk K cm finR := by
  intro xl al1 H1 al H S acc us D0 Q W0 e h1 w h n1 n2 r w' p
  refine p (al ++ [D0]) H ⟨?_, e.fr, e.tup, fun a ha na => ?_⟩ ⟨?_, by simp [w.len], fun q xs hx => ?_, fun a ha => ⟨fun m => ?_, (w.xs a ha).2⟩⟩ _ (Rep.newRef' w)
  · obtain ⟨m, em⟩ := e.pre
    exact ⟨m ++ [D0], by rw [em, List.append_assoc]⟩
  · rcases List.mem_append.mp ha with z | z
    · exact e.new a z na
    · rw [List.mem_singleton.mp z]; exact h1
  · rw [List.nodup_append]
    exact ⟨w.nd, by simp, fun a ha b hb z => by rw [List.mem_singleton.mp hb] at z; exact n1 (z ▸ ha)⟩
  · by_cases hq : q < S.length
    · rw [List.getElem?_append_left hq] at hx
      obtain ⟨a, ws, g1, g2, g3⟩ := w'.ob q xs hx
      exact ⟨a, ws, by rw [List.getElem?_append_left (by rw [w.len]; exact hq)]; exact g1, g2, g3.join h⟩
    · have hq2 : q = S.length := by
        by_cases z : q < (S ++ [DO.lst acc]).length
        · simp at z; omega
        · rw [List.getElem?_eq_none (by omega)] at hx; cases hx
      subst hq2
      rw [List.getElem?_append_right (Nat.le_refl _), Nat.sub_self] at hx
      simp at hx; subst hx
      refine ⟨D0, us, ?_, h, r.join h⟩
      rw [← w.len, List.getElem?_append_right (Nat.le_refl _), Nat.sub_self]; rfl
  · rcases List.mem_append.mp m with z | z
    · exact (w.xs a ha).1 z
    · rw [List.mem_singleton.mp z] at ha; exact n2 ha
theorem lc_den {elt tg : Expr} {ifs : List Expr} {scope : Scope} {own : List (Str × Nat)} {wi : TI} {mi : MIt} {mg : MG} {mt : MT} {me : ME} {fin : List D → DS → Ou D}
    (di : ∀ xl al σ H S env (R : It → Hp → Prop), Wd X.K xl S al H → EnvR X.K xl al H env σ → Post X.K cm xl (fun c d H' => W c d σ H') (fun it S1 al1 H1 => ∀ J, Yields X.K xl al1 H1 it J → R J H1) (mi env S) al H → wi σ H R)
    (hfin : FinOk X.K cm fin)
    (hg : ∀ (s : Shared) (H : Hp) (C : Addr) (cl : List (Str × Addr)) (fp : List Addr), GAOk (X.blk s H scope (compEnvC scope cl C X.env) fp) cm tg mg (own.map (·.2)))
    (ht : ∀ (s : Shared) (H : Hp) (C : Addr) (cl : List (Str × Addr)) (fp : List Addr), TsOk (X.blk s H scope (compEnvC scope cl C X.env) fp) cm noX ifs mt)
    (he : ∀ (s : Shared) (H : Hp) (C : Addr) (cl : List (Str × Addr)) (fp : List Addr), EOk (X.blk s H scope (compEnvC scope cl C X.env) fp) cm noX elt me) :
    ∃ g tt te, (∀ (s : Shared) (H : Hp) (C : Addr) (cl : List (Str × Addr)) (fp : List Addr), PG (X.blk s H scope (compEnvC scope cl C X.env) fp) tg g) ∧
      (∀ (s : Shared) (H : Hp) (C : Addr) (cl : List (Str × Addr)) (fp : List Addr), PTs (X.blk s H scope (compEnvC scope cl C X.env) fp) ifs tt) ∧
      (∀ (s : Shared) (H : Hp) (C : Addr) (cl : List (Str × Addr)) (fp : List Addr), PE (X.blk s H scope (compEnvC scope cl C X.env) fp) elt te) ∧
      DenE X.K cm W (tLc wi g tt te (own.map (·.2))) (lcM mi mg mt me (own.map (·.2)) fin) := by
  let G := fun (s : Shared) (H : Hp) (C : Addr) (cl : List (Str × Addr)) (fp : List Addr) => (hg s H C cl fp).choose
  let T := fun (s : Shared) (H : Hp) (C : Addr) (cl : List (Str × Addr)) (fp : List Addr) => (ht s H C cl fp).choose
  let E := fun (s : Shared) (H : Hp) (C : Addr) (cl : List (Str × Addr)) (fp : List Addr) => (he s H C cl fp).choose
  refine ⟨fun v σ H' Q => ∀ s H C cl fp, G s H C cl fp v σ H' Q, fun σ H' Q => ∀ s H C cl fp, T s H C cl fp σ H' Q, fun σ H' Q => ∀ s H C cl fp, E s H C cl fp σ H' Q, fun s H C cl fp => ⟨fun pins s' σ H' v u Q I r h => ?_⟩,
    fun s H C cl fp => ⟨fun pins s' σ H' Q I h => ?_⟩, fun s H C cl fp => ⟨fun pins s' σ H' Q I h => ?_⟩, ?_⟩
  · exact (hg s H C cl fp).choose_spec.1.run pins s' σ H' v u Q I r (h s H C cl fp)
  · exact (ht s H C cl fp).choose_spec.1.run pins s' σ H' Q I (h s H C cl fp)
  · exact (he s H C cl fp).choose_spec.1.run pins s' σ H' Q I (h s H C cl fp)
  · refine den_lc di (fun xl al σ H S env d v Q w r rv p s H0 C cl fp => ?_) (fun xl al σ H S env Q w r p s H0 C cl fp => ?_) (fun xl al σ H S env Q w r p s H0 C cl fp => ?_) hfin
    · exact (hg s H0 C cl fp).choose_spec.2 xl al σ H S env d v Q w r rv p
    · exact (ht s H0 C cl fp).choose_spec.2 xl al σ H S env Q w r p
    · exact (he s H0 C cl fp).choose_spec.2 xl al σ H S env Q w r p
theorem e_lc {elt tg iter : Expr} {ifs : List Expr} {scope : Scope} {own : List (Str × Nat)} {pos : Pos} {mi : MIt} {mg : MG} {mt : MT} {me : ME} {fin : List D → DS → Ou D} (hc : X.calm = true) (hN : X.N.Nodup) (hi : IOk' X cm W tg iter mi) (ok : BlkOk X.N X.env.scope scope own) (hfin : FinOk X.K cm fin)
    (hg : ∀ (s : Shared) (H : Hp) (C : Addr) (cl : List (Str × Addr)) (fp : List Addr), GAOk (X.blk s H scope (compEnvC scope cl C X.env) fp) cm tg mg (own.map (·.2)))
    (ht : ∀ (s : Shared) (H : Hp) (C : Addr) (cl : List (Str × Addr)) (fp : List Addr), TsOk (X.blk s H scope (compEnvC scope cl C X.env) fp) cm noX ifs mt)
    (he : ∀ (s : Shared) (H : Hp) (C : Addr) (cl : List (Str × Addr)) (fp : List Addr), EOk (X.blk s H scope (compEnvC scope cl C X.env) fp) cm noX elt me) (hs : ∀ x, foldedSetIterable iter X.env x = pure x := by intro _; rfl) :
    EOk X cm W (.ListComp elt [⟨tg, iter, ifs, 0⟩] scope pos) (lcM mi mg mt me (own.map (·.2)) fin) := by
  obtain ⟨wi, pi, di⟩ := hi
  obtain ⟨g, tt, te, h1, h2, h3, h4⟩ := lc_den di hfin hg ht he
  exact ⟨_, pe_lc hc hN pi ok h1 h2 h3 hs, h4⟩
/-- y = [..] on one line, y a plain local -/
theorem s_setLc {i : Nat} {y : Str} {py spos : Pos} {elt tg iter : Expr} {ifs : List Expr} {scope : Scope} {own : List (Str × Nat)} {pos : Pos} {mi : MIt} {mg : MG} {mt : MT} {me : ME} {fin : List D → DS → Ou D} (hc : X.calm = true) (hN : X.N.Nodup)
    (hsw : swapsWith (.ListComp elt [⟨tg, iter, ifs, 0⟩] scope pos) (some (.Name y py)) spos.line X.env = pure true) (hi : IOk' X cm W tg iter mi) (ok : BlkOk X.N X.env.scope scope own) (hfin : FinOk X.K cm fin)
    (hg : ∀ (s : Shared) (H : Hp) (C : Addr) (cl : List (Str × Addr)) (fp : List Addr), GAOk (X.blk s H scope (compEnvC scope cl C X.env) fp) cm tg mg (own.map (·.2)))
    (ht : ∀ (s : Shared) (H : Hp) (C : Addr) (cl : List (Str × Addr)) (fp : List Addr), TsOk (X.blk s H scope (compEnvC scope cl C X.env) fp) cm noX ifs mt)
    (he : ∀ (s : Shared) (H : Hp) (C : Addr) (cl : List (Str × Addr)) (fp : List Addr), EOk (X.blk s H scope (compEnvC scope cl C X.env) fp) cm noX elt me)
    (hy : X.N[i]? = some y := by rfl) (hyl : X.env.scope.names.lookup y = some .local := by rfl) (hs : ∀ x, foldedSetIterable iter X.env x = pure x := by intro _; rfl) :
    SOk X cm W (.Assign [.Name y py] (.ListComp elt [⟨tg, iter, ifs, 0⟩] scope pos) spos) (mSet i (lcM mi mg mt me (own.map (·.2)) fin)) := by
  obtain ⟨wi, pi, di⟩ := hi
  obtain ⟨g, tt, te, h1, h2, h3, h4⟩ := lc_den di hfin hg ht he
  refine ⟨_, ps_setLc hc hN hy hyl hsw pi ok h1 h2 h3 hs, fun xl al σ H S env D0 w r q => ?_⟩
  refine h4 xl al σ H S env _ w r ((q.lift r).imp fun x S1 al1 H1 e1 w1 p1 v rv => ?_)
  exact p1.here w1 _ ((r.mono e1).set rv i)
end
end DL

namespace DL
open PySem PySem.Spec PyProof.Rows L2

/-! methods of built-in types -/
inductive RcT where
  | lst | str
def RcT.name : RcT → String
  | .lst => "list"
  | .str => "str"
def RcT.ok : RcT → D → Bool
  | .lst, .ref _ => true
  | .lst, .vl _ => true
  | .lst, .fz _ => true
  | .str, .str _ => true
  | _, _ => false
def mMeth (T : RcT) (f : D → List D → DS → Ou D) (o : ME) (a : MA) : ME := fun env S => (o env S).bind fun x S1 => if T.ok x = true then (a env S1).bind fun xs S2 => f x xs S2 else .no
def mMeth0 (T : RcT) (f : D → List D → DS → Ou D) (o : ME) : ME := fun env S => (o env S).bind fun x S1 => if T.ok x = true then f x [] S1 else .no
def MtOk (X : Cx) (cm : CM) (id : String) (op : D → List D → DS → Ou D) : Prop := ∃ r, MtR X id r ∧ ∀ xl al H S x v xs vs (Q : VK) (W0 : WH), Wd X.K xl S al H → Rep X.K xl al H x v → Reps X.K xl al H xs vs → Post X.K cm xl W0 (RE X.K xl Q) (op x xs S) al H → r v vs H Q
section
variable {X : Cx} {cm : CM} {W : WX} {o e : Expr} {es : List Expr} {mo : ME} {mm : MA} {name : Str} {apos cpos : Pos} {id : String} {f : D → List D → DS → Ou D}
theorem recv {K : PySem.W.Frag} {xl al : List Addr} {H : Hp} {S : DS} {x : D} {v : V} {T : RcT} (w : Wd K xl S al H) (r : Rep K xl al H x v) (h : T.ok x = true) : tyV K T.name v H := by
  cases T with
  | lst =>
    cases r with
    | vl h0 _ _ _ => exact .inl ⟨rfl, _, SqL.of h0⟩
    | fz h0 _ _ => exact .inl ⟨rfl, _, .inl (.inr ⟨_, h0⟩)⟩
    | fzK _ _ h0 _ => exact .inl ⟨rfl, _, h0 H⟩
    | ref h0 =>
      obtain ⟨_, us, _, hu⟩ := w.at (List.mem_of_getElem? h0)
      exact .inl ⟨rfl, us, SqL.of hu⟩
    | _ => simp [RcT.ok] at h
  | str =>
    cases r with
    | str x => rfl
    | _ => simp [RcT.ok] at h
theorem e_meth (T : RcT) (pa : PlainAttrs T.name) (slot : Slot T.name name id) (hty : typeOf (.builtin id) = pure (.type "method_descriptor")) (hm : MtOk X cm id f) (ho : EOk X cm W o mo) (ha : AOk X cm W (e :: es) mm)
    (hbase : attributeBase o name X.env (eval o X.env) = eval o X.env := by rfl)
    (hfew : ((backTo cpos (starEach (e :: es) X.env)).all (fun x => !x.1) && (backToKw cpos (keywordEach [] X.env)).all (fun x => x.1.isSome)
      && decide ((e :: es).length + ([] : List Keyword).length + (if ([] : List Keyword).isEmpty then 0 else 1) < 30)) = true := by rfl)
    (hline : (apos.endLine == cpos.line) = true := by rfl) (hs : starEach (e :: es) X.env = (false, eval e X.env) :: starEach es X.env := by rfl) (hplain : (backTo cpos (starEach es X.env)).any (·.1) = false := by rfl) :
    EOk X cm W (.Call (.Attribute o name apos) (e :: es) [] cpos) (mMeth T f mo mm) := by
  obtain ⟨r, hr, dr⟩ := hm
  obtain ⟨t, p, d⟩ := ho
  obtain ⟨t', p', d'⟩ := ha
  refine ⟨_, pe_bm pa slot hty hr p p' hbase hfew hline hs hplain, fun xl al σ H S env Q w r q => ?_⟩
  refine d xl al σ H S env _ w r (q.bind.imp fun x S1 al1 H1 e1 w1 p1 v rv => ?_)
  split at p1
  · rename_i hT
    refine ⟨recv w1 rv hT, ?_⟩
    exact d' xl al1 σ H1 S1 env _ w1 (r.mono e1) (p1.bind.imp fun xs S2 al2 H2 e2 w2 p2 vs rs => dr xl al2 H2 S2 x v xs vs Q _ w2 (rv.mono e2) rs p2)
  · exact p1.elim
theorem e_meth0 (T : RcT) (pa : PlainAttrs T.name) (slot : Slot T.name name id) (hty : typeOf (.builtin id) = pure (.type "method_descriptor")) (hm : MtOk X cm id f) (ho : EOk X cm W o mo)
    (hbase : attributeBase o name X.env (eval o X.env) = eval o X.env := by rfl) (hline : (apos.endLine == cpos.line) = true := by rfl) : EOk X cm W (.Call (.Attribute o name apos) [] [] cpos) (mMeth0 T f mo) := by
  obtain ⟨r, hr, dr⟩ := hm
  obtain ⟨t, p, d⟩ := ho
  refine ⟨_, pe_bm0 pa slot hty hr p hbase hline, fun xl al σ H S env Q w r q => ?_⟩
  refine d xl al σ H S env _ w r (q.bind.imp fun x S1 al1 H1 e1 w1 p1 v rv => ?_)
  split at p1
  · rename_i hT
    exact ⟨recv w1 rv hT, dr xl al1 H1 S1 x v [] [] Q _ w1 rv .nil p1⟩
  · exact p1.elim
end
def appendO (x : D) (xs : List D) (S : DS) : Ou D := match x, xs with
  | .ref p, [y] => match S[p]? with
    | some (DO.lst ys) => if ys.length < sizeLine then .ok .non (S.set p (.lst (ys ++ [y]))) else .no
    | none => .no
  | _, _ => .no
def insertO (x : D) (xs : List D) (S : DS) : Ou D := match x, xs with
  | .ref p, [.int i, y] => match S[p]? with
    | some (DO.lst ys) => if ys.length < sizeLine ∧ 0 ≤ i ∧ i < 2 ^ 63 then .ok .non (S.set p (.lst (ys.take i.toNat ++ [y] ++ ys.drop i.toNat))) else .no
    | none => .no
  | _, _ => .no
def extendO (x : D) (xs : List D) (S : DS) : Ou D := match x, xs with
  | .ref p, [.vl zs] => match S[p]? with
    | some (DO.lst ys) => if ys.length + zs.length ≤ sizeLine then .ok .non (S.set p (.lst (ys ++ zs))) else .no
    | none => .no
  | _, _ => .no
section
variable {X : Cx} {cm : CM}
theorem mm_append : MtOk X cm "list.append" appendO := by
  refine ⟨_, mt_append, fun xl al H S x v xs vs Q W0 w rv rs p => ?_⟩
  unfold appendO at p
  split at p
  · obtain ⟨u, rfl, ru⟩ := reps1 rs
    split at p
    · rename_i ys hS
      split at p
      · rename_i hl
        cases rv with
        | ref ha =>
          obtain ⟨a, us, h1, h2, h3⟩ := w.list hS
          rw [ha] at h1; cases h1
          refine ⟨_, us, u, rfl, rfl, h2, by rw [← h3.length]; exact hl, ?_⟩
          exact p al _ (ext_write (List.mem_of_getElem? ha) h2) (w.write hS ha h2 (h3.append (.cons ru .nil))) _ .non
      · exact p.elim
    · exact p.elim
  · exact p.elim
theorem mm_insert : MtOk X cm "list.insert" insertO := by
  refine ⟨_, mt_insert, fun xl al H S x v xs vs Q W0 w rv rs p => ?_⟩
  unfold insertO at p
  split at p
  · obtain ⟨z, u, rfl, rz, ru⟩ := reps2 rs
    cases rz
    split at p
    · rename_i ys hS
      split at p
      · rename_i hl
        cases rv with
        | ref ha =>
          obtain ⟨a, us, h1, h2, h3⟩ := w.list hS
          rw [ha] at h1; cases h1
          refine ⟨_, us, _, u, rfl, rfl, h2, by rw [← h3.length]; exact hl.1, hl.2.1, hl.2.2, ?_⟩
          exact p al _ (ext_write (List.mem_of_getElem? ha) h2) (w.write hS ha h2 (((h3.take _).append (.cons ru .nil)).append (h3.drop _))) _ .non
      · exact p.elim
    · exact p.elim
  · exact p.elim
theorem mm_extend : MtOk X cm "list.extend" extendO := by
  refine ⟨_, mt_extend, fun xl al H S x v xs vs Q W0 w rv rs p => ?_⟩
  unfold extendO at p
  split at p
  · obtain ⟨u, rfl, ru⟩ := reps1 rs
    obtain ⟨b, zs, rfl, hb, nb, nxb, r2⟩ := rep_ref_lst ru
    split at p
    · rename_i ys hS
      split at p
      · rename_i hl
        cases rv with
        | ref ha =>
          obtain ⟨a, us, h1, h2, h3⟩ := w.list hS
          rw [ha] at h1; cases h1
          refine ⟨_, b, us, zs, rfl, rfl, h2, hb, by rw [← h3.length, ← r2.length]; exact hl, ?_⟩
          exact p al _ (ext_write (List.mem_of_getElem? ha) h2) (w.write hS ha h2 (h3.append r2)) _ .non
      · exact p.elim
    · exact p.elim
  · exact p.elim
end

/-! isinstance -/
def tyName : D → String
  | .non => "NoneType"
  | .bl _ => "bool"
  | .int _ => "int"
  | .str _ => "str"
  | .tup _ => "tuple"
  | .vl _ => "list"
  | .fz _ => "list"
  | .ref _ => "list"
def isTy (T : String) (d : D) : Option Bool := match T, d with
  | "int", .int _ => some true
  | "int", .bl _ => some true
  | "int", _ => some false
  | "bool", .bl _ => some true
  | "bool", _ => some false
  | "str", .str _ => some true
  | "str", _ => some false
  | "tuple", .tup _ => some true
  | "tuple", _ => some false
  | "list", .vl _ => some true
  | "list", .fz _ => some true
  | "list", .ref _ => some true
  | "list", _ => some false
  | "dict", _ => some false
  | _, _ => none
def isiM (T : String) (a : ME) : ME := fun env S => (a env S).bind fun d S1 => match isTy T d with
  | some b => .ok (.bl b) S1
  | none => .no
def isiM2 (T U : String) (a : ME) : ME := fun env S => (a env S).bind fun d S1 => match isTy T d, isTy U d with
  | some b, some c => .ok (.bl (b || c)) S1
  | _, _ => .no
theorem isTy_kit {K : PySem.W.Frag} {T : String} {d : D} {b : Bool} (h : isTy T d = some b) : PySem.W.kitOne K (.type (tyName d)) (.type T) = some b := by
  refine kit_ty ?_
  unfold isTy at h
  split at h <;> first
    | (cases h; simp only [tyName]; decide +kernel)
    | (cases h; cases d <;> first | (simp only [tyName]; decide +kernel) | simp_all)
    | cases h
theorem rep_ty {K : PySem.W.Frag} {xl al : List Addr} {H : Hp} {S : DS} {d : D} {v : V} (w : Wd K xl S al H) (r : Rep K xl al H d v) : TyX K H v (.type (tyName d)) := by
  cases r with
  | non => exact .base .non
  | bl b => exact .base (.bl b)
  | int i => exact .base (.int i)
  | str x => exact .base (.str x)
  | tup h r =>
    rcases h with (h | ⟨o, h⟩) | ⟨o, its, n, hk, hc, hd, hz, hv⟩
    · exact .base (.tup h)
    · exact .fTuple h
    · exact .kTuple hk hc
  | vl h _ _ _ => exact .base (.lst h)
  | fz h _ _ => exact .base (.frz h)
  | fzK k c _ _ => exact .kList k c
  | ref h =>
    obtain ⟨_, us, _, hu⟩ := w.at (List.mem_of_getElem? h)
    exact .base (.lst hu)
section
variable {X : Cx} {cm : CM} {W : WX} {e : Expr} {me : ME} {p p2 p3 pos tp : Pos} {T U : String} {xT xU : Str}
theorem e_isi (hg : Gl X "isinstance") (hm : X.mg "isinstance" = none) (hgT : Gl X xT) (hmT : X.mg xT = none) (hvT : bootBuiltins xT = some (.type T)) (he : EOk X cm W e me) (hnT : xT ≠ "__name__" := by decide) (hdT : (xT == ("__debug__" : Str)) = false := by decide)
    (hs1 : starEach [e, .Name xT p2] X.env = (false, eval e X.env) :: starEach [.Name xT p2] X.env := by rfl) (hs2 : starEach [.Name xT p2] X.env = (false, eval (.Name xT p2) X.env) :: starEach [] X.env := by rfl)
    (hpl : (backTo pos (starEach [.Name xT p2] X.env)).any (·.1) = false := by rfl) : EOk X cm W (.Call (.Name "isinstance" p) [e, .Name xT p2] [] pos) (isiM T me) := by
  obtain ⟨t, pt, d⟩ := he
  refine ⟨_, pe_callB call_isi hg hm PyProof.Rows.boot_isinstance (pa_cons pt (pa_cons (pe_bltn (v := .ty T) hgT hmT hvT rfl hnT hdT) pa_nil hs2) hs1) (by decide) (by decide) hs1 hpl, fun xl al σ H S env Q w r q => ?_⟩
  refine d xl al σ H S env _ w r (q.bind.imp fun x S1 al1 H1 e1 w1 p1 v rv => ?_)
  split at p1
  · rename_i b hb
    exact ⟨v, .ty T, _, _, b, rfl, .ty T, rep_ty w1 rv, isTy_kit hb, p1.here w1 _ (.bl b)⟩
  · exact p1.elim
theorem e_isi2 {k : Nat} (hg : Gl X "isinstance") (hm : X.mg "isinstance" = none) (hgT : Gl X xT) (hmT : X.mg xT = none) (hvT : bootBuiltins xT = some (.type T)) (hgU : Gl X xU) (hmU : X.mg xU = none) (hvU : bootBuiltins xU = some (.type U)) (he : EOk X cm W e me)
    (hnT : xT ≠ "__name__" := by decide) (hdT : (xT == ("__debug__" : Str)) = false := by decide) (hnU : xU ≠ "__name__" := by decide) (hdU : (xU == ("__debug__" : Str)) = false := by decide)
    (hsa : starEach [.Name xT p2, .Name xU p3] X.env = (false, eval (.Name xT p2) X.env) :: starEach [.Name xU p3] X.env := by rfl) (hsb : starEach [.Name xU p3] X.env = (false, eval (.Name xU p3) X.env) :: starEach [] X.env := by rfl)
    (hs1 : starEach [e, .Tuple [.Name xT p2, .Name xU p3] k tp] X.env = (false, eval e X.env) :: starEach [.Tuple [.Name xT p2, .Name xU p3] k tp] X.env := by rfl) (hs2 : starEach [.Tuple [.Name xT p2, .Name xU p3] k tp] X.env = (false, eval (.Tuple [.Name xT p2, .Name xU p3] k tp) X.env) :: starEach [] X.env := by rfl)
    (hpl : (backTo pos (starEach [.Tuple [.Name xT p2, .Name xU p3] k tp] X.env)).any (·.1) = false := by rfl) : EOk X cm W (.Call (.Name "isinstance" p) [e, .Tuple [.Name xT p2, .Name xU p3] k tp] [] pos) (isiM2 T U me) := by
  obtain ⟨t, pt, d⟩ := he
  refine ⟨_, pe_callB call_isiT hg hm PyProof.Rows.boot_isinstance (pa_cons pt (pa_cons (pe_tup (pa_cons (pe_bltn (v := .ty T) hgT hmT hvT rfl hnT hdT) (pa_cons (pe_bltn (v := .ty U) hgU hmU hvU rfl hnU hdU) pa_nil hsb) hsa)) pa_nil hs2) hs1) (by decide) (by decide) hs1 hpl,
    fun xl al σ H S env Q w r q => ?_⟩
  refine d xl al σ H S env _ w r (q.bind.imp fun x S1 al1 H1 e1 w1 p1 v rv => ?_)
  refine ⟨by show 2 ≤ sizeLine; decide, fun a ha => ?_⟩
  split at p1
  · rename_i b c hb hc
    refine ⟨v, a, [.ty T, .ty U], _, [.type T, .type U], b || c, rfl, upd_same, .cons (.ty T) (.cons (.ty U) .nil), rep_ty (w1.put (o := .tup [.ty T, .ty U]) ha) (rv.mono (ext_new ha)), ?_, ?_⟩
    · refine kitAny_cons (isTy_kit hb) (fun e => kitAny_cons (isTy_kit hc) (fun e2 => ?_) fun e2 => ?_) fun e => ?_
      · rw [e, e2]; exact kitAny_nil
      · rw [e2, Bool.or_true]
      · rw [e, Bool.true_or]
    · exact p1 al1 _ (ext_new ha) (w1.put ha) _ (.bl _)
  · exact p1.elim
end

/-! repr, str -/
def reprO (xs : List D) (S : DS) : Ou D := match xs with
  | [d] => match toPy d with
    | some q => if q.showable = true ∧ SeqAt.shaped q = true ∧ q.shown.length ≤ sizeLine then .ok (.str q.shown) S else .no
    | none => .no
  | _ => .no
def strO (xs : List D) (S : DS) : Ou D := match xs with
  | [.int i] => if i.natAbs.log2 < 1920 then .ok (.str (toString i)) S else .no
  | _ => .no
def rRepr (K : PySem.W.Frag) : List V → Hp → VK → Prop := fun xs H Q => ∃ v q, xs = [v] ∧ Dp K H v q ∧ q.showable = true ∧ SeqAt.shaped q = true ∧ q.shown.length ≤ sizeLine ∧ Q (.str q.shown) H
section
variable {X : Cx} {cm : CM}
theorem call_reprD (hg : X.A.guards = some []) (hu : X.A.units + 65 < cLine) : CallR X (.builtin "repr") (rRepr X.K) := by
  intro pins s σ H xs us Q I r h
  obtain ⟨v, q, rfl, hd, h1, h2, h3, hq⟩ := h
  obtain ⟨u, rfl, ru⟩ := vals1 r
  have fin : ∀ (h' : Heap) (t : Tok) (tk : Nat), (∀ b o, s.heap.get? b = some o → h'.get? b = some o) → EP X pins σ Q (.str q.shown t) { s with heap := h', toks := tk } := fun h' t tk hk => ⟨.str q.shown, H, I.kept hk, ⟨t, rfl⟩, hq⟩
  have one : ∀ {t : Tok}, EP X pins σ Q (.str q.shown t) { s with toks := s.toks + 1 } := fun {t} => ⟨.str q.shown, H, I.tok _, ⟨t, rfl⟩, hq⟩
  have isRef : ∀ a, u = .ref a → wpAny (model X.prog X.w) X.A (call (.builtin "repr") [.ref a]) (EP X pins σ Q) X.xe s := fun a e => by
    subst e
    obtain ⟨as, R⟩ := Dp.reads I q v _ hd ru
    refine repr_of_reads' R h1 (PyData.noDict_hsm (PyData.hasDict_of_canLay q (SeqAt.canLay_of_shaped h2))) hg ?_ (fun _ _ e => e) (fun h' t tk hk => fin h' t tk hk) h3
    have := SeqAt.depth_of_shaped h2
    omega
  cases hd with
  | non => cases ru; exact PySem.P.repr_of_none one
  | bl b => cases ru; exact PySem.P.repr_of_bool one
  | int i =>
    obtain ⟨t, rfl⟩ := ru
    exact PySem.P.repr_of_int (by simpa [PyData.showable] using h1) one
  | str x =>
    obtain ⟨t, rfl⟩ := ru
    exact PySem.P.repr_of_str one h3
  | lst ha _ => cases ru; exact isRef _ rfl
  | tup ha _ => cases ru; exact isRef _ rfl
theorem c_repr (hg : X.A.guards = some []) (hu : X.A.units + 65 < cLine) : COk X cm (.builtin "repr") reprO := by
  refine ⟨_, call_reprD hg hu, fun xl al H S xs vs Q W0 w rs p => ?_⟩
  unfold reprO at p
  split at p
  · obtain ⟨v, rfl, rv⟩ := reps1 rs
    split at p
    · rename_i q hq
      split at p
      · rename_i hc
        exact ⟨v, q, rfl, rv.dp hq, hc.1, hc.2.1, hc.2.2, p.here w _ (.str _)⟩
      · exact p.elim
    · exact p.elim
  · exact p.elim
theorem c_str : COk X cm (.type "str") strO := by
  refine ⟨_, call_str_int, fun xl al H S xs vs Q W0 w rs p => ?_⟩
  unfold strO at p
  split at p
  · obtain ⟨v, rfl, rv⟩ := reps1 rs
    cases rv
    split at p
    · rename_i hc
      exact ⟨_, rfl, hc, p.here w _ (.str _)⟩
    · exact p.elim
  · exact p.elim
end
end DL

namespace DL
open PySem PySem.Spec PyProof.Rows L2

/-! a def's promise -/
structure FnG (P : Program) (w : World) (K : PySem.W.Frag) (mg : Str → Option Value) (base : Heap) (cm : CM) (k : Nat) (f : Addr) (fd : FuncData) (ps : List Str) (mf : List D → DS → Ou D) : Prop where
  len : ∀ ds S, mf ds S ≠ .no → ds.length = ps.length
  run : ∀ (A : Around) (outer : List Env) (s : Shared) (H : Hp) (args : Args) (us : List Value) (vs : List V) (Q : VK) (E : XK) (xl al : List Addr) (S : DS) (ds : List D), Room k A → A.guards = some [] → Env0 P w K mg base A outer s H →
    BindsTo s fd args (ps.zip us) → Vals vs us → Wd K xl S al H → Reps K xl al H ds vs → Post K cm xl E (RE K xl Q) (mf ds S) al H → codeAny (model P w) A (.call (.ref f) args) (CR (L2.CX P w) outer P w H s Q E) s
theorem FnG.mono {P : Program} {w : World} {K : PySem.W.Frag} {mg : Str → Option Value} {base : Heap} {cm : CM} {j k : Nat} {f : Addr} {fd : FuncData} {ps : List Str} {mf : List D → DS → Ou D} (F : FnG P w K mg base cm j f fd ps mf) (h : j ≤ k) : FnG P w K mg base cm k f fd ps mf :=
  ⟨F.len, fun A outer s H args us vs Q E xl al S ds hr => F.run A outer s H args us vs Q E xl al S ds (hr.mono h)⟩
/-- a def that stands at a name -/
structure FnC (P : Program) (w : World) (K : PySem.W.Frag) (mg : Str → Option Value) (base : Heap) (cm : CM) (k : Nat) (x : Str) (mf : List D → DS → Ou D) : Prop where
  ex : ∃ f fd ps, mg x = some (.ref f) ∧ PySem.W.keepIn K (.ref f) = true ∧ Binds K fd ps [] ∧ FnG P w K mg base cm k f fd ps mf ∧ ∃ oc od sl, K.lookup f = some ⟨oc, od, .func fd, sl⟩
theorem FnC.mono {P : Program} {w : World} {K : PySem.W.Frag} {mg : Str → Option Value} {base : Heap} {cm : CM} {j k : Nat} {x : Str} {mf : List D → DS → Ou D} (F : FnC P w K mg base cm j x mf) (h : j ≤ k) : FnC P w K mg base cm k x mf := by
  obtain ⟨f, fd, ps, h1, h2, h3, h4, h5⟩ := F.ex
  exact ⟨f, fd, ps, h1, h2, h3, h4.mono h, h5⟩
/-- what stands around a body -/
structure Ctx (X : Cx) (W : WX) (k : Nat) : Prop where
  tk : Takes X W
  gd : X.A.guards = some []
  rm : Room k X.A
  calm : X.calm = true
  nd : X.N.Nodup
  po : PassesOwn (model X.prog X.w) X.A X.env X.xe
section
variable {X : Cx} {cm : CM} {W : WX} {j k : Nat}
theorem Ctx.un (C : Ctx X W k) : X.A.units + 64 < cLine := C.rm.units
theorem Ctx.un1 (C : Ctx X W k) : X.A.units + 65 < cLine := by have := C.rm.un; omega
theorem Ctx.blk (C : Ctx X W k) (s : Shared) (H : Hp) (scope : Scope) (cenv : Env) (fp : List Addr) : Ctx (X.blk s H scope cenv fp) noX k :=
  ⟨takes0, C.gd, C.rm, C.calm, C.nd, PassesOwn.never⟩
theorem run_G {x : Str} {f : Addr} {fd : FuncData} {ps : List Str} {mf : List D → DS → Ou D} (C : Ctx X W k) (F : FnG X.prog X.w X.K X.mg X.base cm j f fd ps mf) (hj : j ≤ k) (hb : Binds X.K fd ps []) {pins : List (Addr × Obj)} {σ : L2.St} {H : Hp} {s : Shared} {Q : VK} {us : List Value} {vs : List V}
    {xl al : List Addr} {S : DS} {ds : List D} (I : Inv X pins σ H s) (r : Vals vs us) (w : Wd X.K xl S al H) (rd : Reps X.K xl al H ds vs) (p : Post X.K cm xl (fun c d H' => W c d σ H') (RE X.K xl Q) (mf ds S) al H) :
    wpAny (model X.prog X.w) X.A (call (.ref f) us) (EP X pins σ Q) X.xe s := by
  have hne : mf ds S ≠ .no := fun z => by rw [z] at p; exact p
  have hl : us.length = ps.length := by rw [← r.length, ← rd.length]; exact F.len ds S hne
  have b := hb s us I.kIn (by rw [List.append_nil]; exact hl)
  rw [List.append_nil] at b
  refine wpAny_call (codeAny_mono (F.run X.A X.stack s H ⟨us, []⟩ us vs Q (fun c d H' => W c d σ H') xl al S ds (C.rm.mono hj) C.gd I.env0 b r w rd p) fun fl s' hq => ?_)
  cases fl with
  | error e => exact C.tk e s' (XE.of_call I (fun _ _ _ h => h) hq)
  | ok fl =>
    cases fl with
    | ret u => exact I.after hq
    | next => exact False.elim hq
    | brk => exact False.elim hq
    | cont => exact False.elim hq
/-- a call, as data -/
def tG (K : PySem.W.Frag) (cm : CM) (W : WX) (mf : List D → DS → Ou D) (t : TA) : TE := fun σ H Q => t σ H fun vs H1 => ∃ xl al S ds, Wd K xl S al H1 ∧ Reps K xl al H1 ds vs ∧ Post K cm xl (fun c d H' => W c d σ H') (RE K xl Q) (mf ds S) al H1
theorem e_call {x : Str} {mf : List D → DS → Ou D} {p pos : Pos} {e : Expr} {es : List Expr} {ma : MA} (C : Ctx X W k) (F : FnC X.prog X.w X.K X.mg X.base cm j x mf) (hj : j ≤ k) (hg : Gl X x) (ha : AOk X cm W (e :: es) ma) (hdb : (x == ("__debug__" : Str)) = false := by decide)
    (he : starEach (e :: es) X.env = (false, eval e X.env) :: starEach es X.env := by rfl) (hpl : (backTo pos (starEach es X.env)).any (·.1) = false := by rfl) : EOk X cm W (.Call (.Name x p) (e :: es) [] pos) (mL mf ma) := by
  obtain ⟨f, fd, ps, hm, hk, hb, G, _⟩ := F.ex
  obtain ⟨t, pt, d⟩ := ha
  refine ⟨tG X.K cm W mf t, ⟨fun pins s σ H Q I h => wpAny_Call_Name_kw (ld_glob I hg hm ?_ hdb)⟩, fun xl al σ H S env Q w r q => ?_⟩
  · refine PySem.W.callWith_K (h₀ := X.base) I.ok.mod.kin hk (thn (pt.run pos pins s σ H _ I h) fun us s1 ⟨vs, H1, I1, r, q⟩ => ⟨I1.kIn, ?_⟩) he hpl
    obtain ⟨xl, al, S, ds, w, rd, p⟩ := q
    exact run_G (x := x) C G hj hb I1 r w rd p
  · exact d xl al σ H S env _ w r (q.bind.imp fun xs S1 al1 H1 e1 w1 p1 vs rs => ⟨xl, al1, S1, xs, w1, rs, p1⟩)
theorem e_call0 {x : Str} {mf : List D → DS → Ou D} {p pos : Pos} (C : Ctx X W k) (F : FnC X.prog X.w X.K X.mg X.base cm j x mf) (hj : j ≤ k) (hg : Gl X x) (hdb : (x == ("__debug__" : Str)) = false := by decide) : EOk X cm W (.Call (.Name x p) [] [] pos) (mL mf maN) := by
  obtain ⟨f, fd, ps, hm, hk, hb, G, _⟩ := F.ex
  refine ⟨tG X.K cm W mf tNil, ⟨fun pins s σ H Q I h => wpAny_Call_Name_kw (ld_glob I hg hm ?_ hdb)⟩, fun xl al σ H S env Q w r q => ?_⟩
  · refine PySem.W.callWith_K0 I.kIn hk ?_
    obtain ⟨xl, al, S, ds, w, rd, p⟩ := h
    exact run_G (x := x) C G hj hb I .nil w rd p
  · exact ⟨xl, al, S, [], w, .nil, q⟩
end

/-! a def's body -/
mutual
/-- speaks of none of the lists from n on -/
def under (n : Nat) : D → Bool
  | .tup xs => unders n xs
  | .vl xs => unders n xs
  | .fz xs => unders n xs
  | .ref p => decide (p < n)
  | _ => true
def unders (n : Nat) : List D → Bool
  | [] => true
  | x :: xs => under n x && unders n xs
end
def underO (n : Nat) : DO → Bool
  | .lst xs => unders n xs
def dropO (n : Nat) (o : Ou D) : Ou D := match o with
  | .ok d S => if under n d = true ∧ (S.take n).all (underO n) = true then .ok d (S.take n) else .no
  | o => o
def retO (o : Ou (Fl × DE)) : Ou D := match o with
  | .ok (.rt d, _) S => .ok d S
  | .ok (.nx, _) S => .ok .non S
  | .ok (.xc x, _) S => .ex x S
  | _ => .no
def startE (N : Nat) (ds : List D) : DE := ds.map some ++ List.replicate (N - ds.length) none
def defM (n N : Nat) (body : MS) : List D → DS → Ou D := fun ds S => if ds.length = n then retO (body (startE N ds) S) else .no
/-- its own lists forgotten at the end -/
def defD (n N : Nat) (body : MS) : List D → DS → Ou D := fun ds S => if ds.length = n then dropO S.length (retO (body (startE N ds) S)) else .no
section
variable {K : PySem.W.Frag} {cm : CM} {xl al al' : List Addr} {H H' : Hp} {S : DS}
mutual
theorem Rep.cut (e : Ext al H al' H') : ∀ {d : D} {v : V}, Rep K xl al' H' d v → under al.length d = true → Rep K xl al H' d v
  | _, _, .non, _ => .non
  | _, _, .bl b, _ => .bl b
  | _, _, .int i, _ => .int i
  | _, _, .str x, _ => .str x
  | _, _, .tup h r, u => .tup h (r.cutd e (by simpa [under] using u))
  | _, _, .vl h n n' r, u => .vl h (fun m => n (by obtain ⟨more, q⟩ := e.pre; rw [q]; exact List.mem_append_left _ m)) n' (r.cutd e (by simpa [under] using u))
  | _, _, .fz h n r, u => .fz h (fun m => n (by obtain ⟨more, q⟩ := e.pre; rw [q]; exact List.mem_append_left _ m)) (r.cutd e (by simpa [under] using u))
  | _, _, .fzK k c h r, u => .fzK k c h (r.cutd e (by simpa [under] using u))
  | _, _, .ref (p := p) h, u => .ref (by
      obtain ⟨more, q⟩ := e.pre
      have hl : p < al.length := by simpa [under] using u
      rw [q, List.getElem?_append_left hl] at h
      exact h)
theorem Reps.cutd (e : Ext al H al' H') : ∀ {ds : List D} {vs : List V}, Reps K xl al' H' ds vs → unders al.length ds = true → Reps K xl al H' ds vs
  | _, _, .nil, _ => .nil
  | _, _, .cons h r, u => by
    rw [unders, Bool.and_eq_true] at u
    exact .cons (h.cut e u.1) (r.cutd e u.2)
end
theorem Ext.cut (e : Ext al H al' H') : Ext al H al H' := ⟨⟨[], by simp⟩, e.fr, e.tup, fun a h n => absurd h n⟩
theorem Wd.cut {S' : DS} (w0 : Wd K xl S al H) (e : Ext al H al' H') (w : Wd K xl S' al' H') (u : (S'.take S.length).all (underO S.length) = true) : Wd K xl (S'.take S.length) al H' := by
  obtain ⟨more, q⟩ := e.pre
  have hl : S.length ≤ S'.length := by
    have := w.len
    rw [q, List.length_append, w0.len] at this
    omega
  refine ⟨w0.nd, by rw [List.length_take, w0.len]; omega, fun p xs h => ?_, fun a h => ⟨(w0.xs a h).1, (w.xs a h).2⟩⟩
  have hp : p < S.length := by
    by_cases z : p < S.length
    · exact z
    · rw [List.getElem?_eq_none (by rw [List.length_take]; omega)] at h; cases h
  have hu := List.all_eq_true.mp u _ (List.mem_of_getElem? h)
  rw [List.getElem?_take_of_lt hp] at h
  obtain ⟨a, vs, h1, h2, h3⟩ := w.ob p xs h
  rw [q, List.getElem?_append_left (by rw [w0.len]; exact hp)] at h1
  refine ⟨a, vs, h1, h2, h3.cutd e ?_⟩
  rw [w0.len]
  exact hu
theorem Post.drop {E : WH} {Q : VK} {o : Ou D} (w : Wd K xl S al H) (p : Post K cm xl E (RE K xl Q) (dropO S.length o) al H) : Post K cm xl E (RE K xl Q) o al H := by
  cases o with
  | ok d S' =>
    unfold dropO at p
    intro al' H' e w' v rv
    simp only at p
    split at p
    · rename_i hu
      exact p al H' e.cut (w.cut e w' hu.2) v (rv.cut e (by rw [w.len]; exact hu.1))
    · exact p.elim
  | ex x S' => exact p
  | no => exact p
theorem start_env {N : List Str} {ds : List D} {vs : List V} (r : Reps K xl al H ds vs) : EnvR K xl al H (startE N.length ds) (L2.start N vs) := by
  unfold startE L2.start
  refine ⟨by simp [r.length], fun i d h => ?_⟩
  by_cases hi : i < ds.length
  · rw [List.getElem?_append_left (by simpa using hi), List.getElem?_map] at h
    cases e : ds[i]? with
    | none => rw [e] at h; cases h
    | some d' =>
      rw [e] at h; cases h
      obtain ⟨v, hv, rv⟩ := r.get e
      refine ⟨v, ?_, rv⟩
      rw [List.getElem?_append_left (by rw [List.length_map, ← r.length]; exact hi), List.getElem?_map, hv]
      rfl
  · rw [List.getElem?_append_right (by simpa using Nat.le_of_not_lt hi), List.getElem?_replicate] at h
    split at h <;> cases h
theorem Post.ret {E : XK} {Q : VK} {o : Ou (Fl × DE)} (p : Post K cm xl E (RE K xl Q) (retO o) al H) : Post K cm xl noW (RS K cm xl (fun c d _ H' => E c d H') { nx := fun _ H' => Q .non H', rt := Q }) o al H := by
  cases o with
  | ok z S' =>
    obtain ⟨f, env'⟩ := z
    cases f with
    | nx => exact fun al' H' e w σ' r => p al' H' e w _ .non
    | rt d => exact fun al' H' e w σ' r v rv => p al' H' e w v rv
    | bk => exact p.elim
    | ct => exact p.elim
    | xc x => exact fun al' H' e w σ' r cls dx z => p al' H' cls dx e w z
  | ex x S' => exact p.elim
  | no => exact p.elim
end

section
variable {P : Program} {w : World} {K : PySem.W.Frag} {mg : Str → Option Value} {base : Heap} {cm : CM}
/-- a def of the text, by its body -/
theorem fnG_of {x qual : Str} {st : Stmt} {f : Addr} {fd : FuncData} {N ps : List Str} {k : Nat} {mb : MS} {mf : List D → DS → Ou D} (F : Fun K x qual st f fd) (Sc : FnScope N ps (defScope st)) (hlen : ∀ ds S, mf ds S ≠ .no → ds.length = ps.length)
    (hmf : ∀ xl al H S ds (Q : VK) (E : XK), Wd K xl S al H → Post K cm xl E (RE K xl Q) (mf ds S) al H → Post K cm xl E (RE K xl Q) (retO (mb (startE N.length ds) S)) al H)
    (body : ∀ (cdv : Value) (A : Around) (outer : List Env) (s : Shared) (H : Hp) (E : XK), Ctx (cxOf (L2.CX P w) P w K mg base N qual (defScope st) f cdv A outer s H E) (fun c d _ H => E c d H) k →
      SsOk (cxOf (L2.CX P w) P w K mg base N qual (defScope st) f cdv A outer s H E) cm (fun c d _ H => E c d H) (defBody st) mb) :
    FnG P w K mg base cm (k + 1) f fd ps mf := by
  obtain ⟨oc, od, kV, doc, pm, an, cdv, ct, osl, rfl, lk, hcd⟩ := F.ex
  refine ⟨hlen, fun A outer s H args us vs Q E xl al S ds hr hgd e0 hb rv wd rd p => ?_⟩
  have hne : mf ds S ≠ .no := fun z => by rw [z] at p; exact p
  have hl : vs.length = ps.length := by rw [← rd.length]; exact hlen ds S hne
  have stays : ∀ b o, base.get? b = some o → s.heap.get? b = some o := fun b o e => (e0.bs b o e).1
  have KX : K.In s.heap := e0.mod.kin.keeps stays
  have hkind : ∀ y ∈ ps.zip us, (defScope st).names.lookup y.1 = some .local ∨ ((defScope st).names.lookup y.1 = some .cell ∧ ((cellsFrom (s.heap.objs.size + 1) (defScope st).names []).lookup y.1).isSome = true) := by
    rintro ⟨n, v⟩ hy
    exact (Sc.par n (List.of_mem_zip hy).1).imp id fun q => ⟨q, PySem.W.cellsFrom_some _ _ _ (.inl q)⟩
  refine codeAny_call_function hr.depth (KX _ _ lk) rfl Sc.co Sc.gen rfl (PySem.W.codeRec_of KX hcd) (hb _ _ _ _ (wpAny_newFunctionEnv_cells Sc.kind hkind fun env he s1 x => ?_))
  subst he
  refine ⟨(e0.mod.nolimit.keeps stays).keeps x.toInCall.keep, codeAny_func ?_⟩
  let X : Cx := cxOf (L2.CX P w) P w K mg base N qual (defScope st) f cdv A outer s H E
  have C : Ctx X (fun c d _ H => E c d H) k := ⟨takes_of (E := E) rfl rfl rfl rfl, hgd, hr.deeper _, rfl, Sc.nd, passes_of rfl⟩
  obtain ⟨t, ht, hd⟩ := body cdv A outer s H E C
  have I : Inv X [] (L2.start N vs) H s1 := inv_start Sc hr.hd e0 hl rv x
  have q : t { nx := fun _ H' => Q .non H', rt := Q } (L2.start N vs) H := hd xl al _ H S (startE N.length ds) _ wd (start_env rd) (Post.ret (hmf xl al H S ds Q E wd p))
  refine wpAny_mono (ht.run [] s1 _ H _ I q) (fun fl s' hs => ?_) fun _ _ z => z
  have fin : ∀ {σ' : L2.St} {H' : Hp} {v : V} {u : Value}, Inv X [] σ' H' s' → RelV v u → Q v H' → CE outer P w H s Q u s' := fun J rv q => ⟨_, _, J.os, J.bare, J.base, J.hok, rv, q⟩
  cases fl with
  | ret u => obtain ⟨v, σ', H', J, rv, q⟩ := hs; exact fin J rv q
  | next => obtain ⟨σ', H', J, q⟩ := hs; exact fin (v := V.non) (u := Value.none) J rfl q
  | brk => obtain ⟨_, _, _, q⟩ := hs; exact False.elim q
  | cont => obtain ⟨_, _, _, q⟩ := hs; exact False.elim q
theorem defM_len {n N : Nat} {body : MS} : ∀ ds S, defM n N body ds S ≠ .no → ds.length = n := fun ds S h => Classical.byContradiction fun z => h (if_neg z)
theorem defD_len {n N : Nat} {body : MS} : ∀ ds S, defD n N body ds S ≠ .no → ds.length = n := fun ds S h => Classical.byContradiction fun z => h (if_neg z)
theorem defM_post {n N : Nat} {mb : MS} : ∀ xl al H S ds (Q : VK) (E : XK), Wd K xl S al H → Post K cm xl E (RE K xl Q) (defM n N mb ds S) al H → Post K cm xl E (RE K xl Q) (retO (mb (startE N ds) S)) al H := fun xl al H S ds Q E _ p => by
  unfold defM at p
  split at p
  · exact p
  · exact p.elim
theorem defD_post {n N : Nat} {mb : MS} : ∀ xl al H S ds (Q : VK) (E : XK), Wd K xl S al H → Post K cm xl E (RE K xl Q) (defD n N mb ds S) al H → Post K cm xl E (RE K xl Q) (retO (mb (startE N ds) S)) al H := fun xl al H S ds Q E wd p => by
  unfold defD at p
  split at p
  · exact Post.drop wd p
  · exact p.elim
end
end DL

namespace DL
open PySem PySem.Spec PyProof.Rows L2

theorem reps_ints {K : PySem.W.Frag} {xl al : List Addr} {H : Hp} : ∀ ns : List Int, Reps K xl al H (ns.map D.int) (ns.map V.int)
  | [] => .nil
  | n :: r => .cons (.int n) (reps_ints r)
theorem wd_nil {K : PySem.W.Frag} {H : Hp} : Wd K [] [] [] H := ⟨List.nodup_nil, rfl, fun p xs h => by simp at h, fun a h => by simp at h⟩

/-- the law's call, behind the top -/
theorem law_callD {P : Program} {w : World} {K : PySem.W.Frag} {mg mb : Str → Option Value} {cm : CM} {k : Nat} {fa a : Addr} {fd : FuncData} {x : Str} {mf : List D → DS → Ou D} {s1 : Shared} {vs : List Value} {ns : List Int}
    (KX : K.In s1.heap) (hns : s1.heap.Ns mainGlobals mg) (hb : s1.heap.Ns builtinsNs mb) (hbb : ∀ x : Str, x ≠ "__name__" → mb x = bootBuiltins x) (hlim : s1.heap.NoLimit) (hg : s1.gens = #[])
    (ha : s1.heap.get? a = some { cls := .type "list", data := .seq vs.toArray }) (hi : IntsAre vs ns) (hl : ns.length ≤ sizeLine) (hr : Room k callerA)
    (F : ∀ base : Heap, K.In base → base.Ns mainGlobals mg → FnG P w K mg base cm k fa fd [x] mf) (hbind : ∀ (s : Shared) (u : Value), BindsTo s fd ⟨[u], []⟩ [(x, u)])
    (hp : ∃ S', mf [.fz (ns.map D.int)] [] = .ok (.bl true) S') :
    codeAny (model P w) callerA (.call (.ref fa) ⟨[.ref a], []⟩) (fun r s' => r = .ok (.ret (.bool true)) ∧ OldK s1.heap s'.heap ∧ s'.os = s1.os ∧ AllBare s'.gens) s1 := by
  have rv := vals_ints hi
  have lenV := hi.length
  -- one heap: the script frozen, or of the module
  have main : ∀ H : Hp, (∀ b o, H b = some o → b = a ∧ o = .frz { cls := .type "list", data := .seq vs.toArray } (.lst (ns.map V.int))) → (∀ o, H a = some o → K.lookup a = none) →
      Rep K [] [] H (.fz (ns.map D.int)) (.ref a) →
      codeAny (model P w) callerA (.call (.ref fa) ⟨[.ref a], []⟩) (fun r s' => r = .ok (.ret (.bool true)) ∧ OldK s1.heap s'.heap ∧ s'.os = s1.os ∧ AllBare s'.gens) s1 := by
    intro H hH hK hrep
    have hok : HOk P w H s1.heap := fun b o e => by
      obtain ⟨rfl, rfl⟩ := hH b o e
      exact ⟨ha, by rw [List.length_map]; exact hl, vs, _, rv, ha⟩
    have notD : ∀ {b : Addr} {o : Obj} {es : Array DictEntry} {ep : Nat}, s1.heap.get? b = some o → o.data = .dict es ep → H b = none := fun {b o es ep} e d => by
      cases q : H b with
      | none => rfl
      | some u =>
        obtain ⟨rfl, _⟩ := hH b u q
        rw [ha] at e
        cases e
        exact nomatch (show Data.seq vs.toArray _ = Data.dict es ep from d)
    have nsK : ∀ {b : Addr} {m : Str → Option Value}, s1.heap.Ns b m → (hidT s1.heap H).Ns b m := by
      rintro b m ⟨o, es, ep, e, d, r⟩
      exact ⟨o, es, ep, hidT_get e (notD e d), d, r⟩
    have hKb : K.In (hidT s1.heap H) := fun b o e => hidT_get (KX b o e) (by
      cases q : H b with
      | none => rfl
      | some u =>
        obtain ⟨rfl, _⟩ := hH b u q
        rw [hK u q] at e
        cases e)
    obtain ⟨mc, l1, l2⟩ := hlim
    have e0 : Env0 P w K mg (hidT s1.heap H) callerA [] s1 H := ⟨rfl, ⟨hKb, nsK hns, ⟨mb, nsK hb, hbb⟩, mc, nsK l1, l2⟩, fun b o e => of_hidT e, Nat.le_of_eq (hidT_size _ _), trivial, fun b z => absurd (show b ∈ ([] : List Addr) from z) (by simp), hok, .of_eq hg⟩
    obtain ⟨S', hS'⟩ := hp
    have post : Post K cm [] (fun _ _ _ => False) (RE K [] fun v _ => v = .bl true) (mf [.fz (ns.map D.int)] []) [] H := by
      rw [hS']
      intro al' H' e w' v rv
      cases rv
      rfl
    refine codeAny_mono ((F _ hKb (nsK hns)).run callerA [] s1 H ⟨[.ref a], []⟩ [.ref a] [.ref a] _ _ [] [] [] [.fz (ns.map D.int)] hr rfl e0 (hbind s1 (.ref a)) (.cons rfl .nil) wd_nil (.cons hrep .nil) post) fun r s' h => ?_
    cases r with
    | error e =>
      obtain ⟨_, _, _, _, _, _, _, _, _, _, _, _, z⟩ := h
      exact z.elim
    | ok fl =>
      cases fl with
      | next => exact False.elim h
      | brk => exact False.elim h
      | cont => exact False.elim h
      | ret u =>
        obtain ⟨v, H', os, bare, un, hok', r', rfl⟩ := h
        obtain rfl : u = Value.bool true := r'
        refine ⟨rfl, OldK.of_keep fun b o e => ?_, os, bare⟩
        cases q : H b with
        | none => exact un.keep b o e q (fun z => absurd (show b ∈ ([] : List Addr) from z) (by simp)) (by simp)
        | some u =>
          obtain ⟨rfl, rfl⟩ := hH b u q
          obtain ⟨e2, _⟩ := hok' b _ (un.frzs b _ _ q)
          rw [ha] at e
          cases e
          exact e2
  cases hk : K.lookup a with
  | some o =>
    have e := KX a o hk
    rw [ha] at e
    cases e
    have hS : ∀ H, SqL K H a (ns.map V.int) := fun H => .inr ⟨_, vs.toArray, _, hk, rfl, rfl, rfl, by rw [List.size_toArray, lenV]; exact hl, by simpa using rv⟩
    exact main (fun _ => none) (fun b u z => nomatch z) (fun o z => nomatch z) (.fzK hk rfl hS (reps_ints ns))
  | none =>
    refine main (fun b => if b = a then some (.frz { cls := .type "list", data := .seq vs.toArray } (.lst (ns.map V.int))) else none) (fun b u z => ?_) (fun _ _ => hk) (.fz (if_pos rfl) (by simp) (reps_ints ns))
    by_cases hb : b = a
    · subst hb
      exact ⟨rfl, (Option.some.inj ((if_pos rfl).symm.trans z)).symm⟩
    · exact nomatch ((if_neg hb).symm.trans z)

/-- the goal that the head leaves, from the law's function -/
theorem walk_ofD {l : PySem.W.OpenLaw} {n k : Nat} {q : Program} {loose : List Str} {XP : (Str → Option Value) → Heap → Prop} {YP : World → Heap → Prop} {d : DefRec} {K : Params → PySem.W.Frag} {cm : World → (Str → Option Value) → CM} {mf : World → (Str → Option Value) → List D → DS → Ou D} {x : Str}
    (hn : l.most = some n) (hn2 : n ≤ sizeLine) (hdf : d.params.defaults = []) (hr : Room k callerA)
    (hY : ∀ (w : World) (h : Heap), YP w h → (K w.params).In h)
    (F : ∀ (w : World) (mg : Str → Option Value) (fa : Addr) (h : Heap), (K w.params).In h → h.Ns mainGlobals mg → mg d.name = some (.ref fa) →
      ∃ fd : FuncData, (∀ (s : Shared) (u : Value), BindsTo s fd ⟨[u], []⟩ [(x, u)]) ∧
        ∀ base : Heap, (K w.params).In base → base.Ns mainGlobals mg → FnG l.prog w (K w.params) mg base (cm w mg) k fa fd [x] (mf w mg))
    (hlaw : ∀ (w : World) (mg : Str → Option Value) (ns : List Int), ns.length ≤ n → ∃ S', mf w mg [.fz (ns.map D.int)] [] = .ok (.bl true) S') :
    PySem.W.WalkO q loose XP YP l.row.toRowW d [] (fun f vs => PySem.call f vs) := by
  refine Att.attach_call hn hdf fun w s₀ s1 mg mb fa o pm cd doc a vs ns G Y ho hd hcd hmg hobj hints hlen hg => ?_
  have KX := hY w _ Y
  obtain ⟨fd, hb, hF⟩ := F w mg fa _ KX G.T.g hmg
  exact law_callD KX G.T.g G.T.b G.T.builtins G.T.nolimit hg hobj hints (Nat.le_trans hlen hn2) hr hF hb (hlaw w mg ns hlen)
end DL

namespace DL
open PySem PySem.Spec PyProof.Rows L2

theorem Ctx.nox {X : Cx} {W : WX} {k : Nat} (C : Ctx X W k) : Ctx X noX k := ⟨takes0, C.gd, C.rm, C.calm, C.nd, C.po⟩

/-! constants and defs of the module -/
structure CAt (K : PySem.W.Frag) (mg : Str → Option Value) (x : Str) (d : D) : Prop where
  ex : ∃ v u, mg x = some u ∧ RelV v u ∧ ∀ xl al H, Rep K xl al H d v
theorem CAt.int {K : PySem.W.Frag} {mg : Str → Option Value} {x : Str} {i : Int} {t : Tok} (h : mg x = some (.int i t)) : CAt K mg x (.int i) := ⟨.int i, _, h, ⟨_, rfl⟩, fun _ _ _ => .int i⟩
theorem CAt.str {K : PySem.W.Frag} {mg : Str → Option Value} {x : Str} {i : Str} {t : Tok} (h : mg x = some (.str i t)) : CAt K mg x (.str i) := ⟨.str i, _, h, ⟨_, rfl⟩, fun _ _ _ => .str i⟩
theorem CAt.tup {K : PySem.W.Frag} {mg : Str → Option Value} {x : Str} {a : Addr} {co : Option Addr} {ci : List Value} {cn : Nat} {cs : Array (Option Value)} {vs : List V} {ds : List D} (h : mg x = some (.ref a))
    (kl : K.lookup a = some ⟨.type "tuple", co, .seq ci.toArray cn, cs⟩) (kv : Vals vs ci) (r : ∀ {xl al H}, Reps K xl al H ds vs) (hl : vs.length ≤ sizeLine := by decide) : CAt K mg x (.tup ds) :=
  ⟨.ref a, _, h, rfl, fun xl al H => .tup (.inr ⟨_, ci.toArray, cn, kl, rfl, rfl, by rw [List.size_toArray, ← kv.length]; exact hl, by simpa using kv⟩) r⟩
theorem e_const {X : Cx} {cm : CM} {W : WX} {x : Str} {d : D} {pos : Pos} (hg : Gl X x) (h : CAt X.K X.mg x d) (hd : (x == ("__debug__" : Str)) = false := by decide) : EOk X cm W (.Name x pos) (mC d) := by
  obtain ⟨v, u, h1, h2, h3⟩ := h.ex
  exact e_glob hg h1 h2 h3 hd
structure DAt (K : PySem.W.Frag) (mg : Str → Option Value) (x name : Str) (st : Stmt) (ps : List Str) : Prop where of ::
  ex : ∃ f fd, mg x = some (.ref f) ∧ PySem.W.keepIn K (.ref f) = true ∧ Fun K name name st f fd ∧ ∀ us : List Value, us.length = ps.length → bindArgs fd ⟨us, []⟩ = pure (ps.zip us)
theorem DAt.mk {K : PySem.W.Frag} {mg : Str → Option Value} {x name : Str} {st : Stmt} {ps : List Str} {f : Addr} {fd : FuncData} (h : mg x = some (.ref f)) (k : PySem.W.keepIn K (.ref f) = true) (F : Fun K name name st f fd)
    (hb : ∀ (kV doc pm : Value) (an : Option Addr) (cdv ct : Value) (us : List Value), us.length = ps.length → bindArgs (PySem.W.fnOf name name (defArgs st) (defBody st) (defScope st) .none kV doc pm an cdv ct) ⟨us, []⟩ = pure (ps.zip us)) : DAt K mg x name st ps := by
  refine ⟨f, fd, h, k, F, ?_⟩
  obtain ⟨oc, od, kV, doc, pm, an, cdv, ct, osl, rfl, lk, hcd⟩ := F.ex
  exact hb kV doc pm an cdv ct
section
variable {P : Program} {w : World} {K : PySem.W.Frag} {mg : Str → Option Value} {base : Heap} {cm : CM} {x name : Str} {st : Stmt} {ps N : List Str} {k : Nat} {mb : MS}
theorem DAt.okM (G : DAt K mg x name st ps) (Sc : FnScope N ps (defScope st))
    (body : ∀ (f : Addr) (cdv : Value) (A : Around) (outer : List Env) (s : Shared) (H : Hp) (E : XK), Ctx (cxOf (L2.CX P w) P w K mg base N name (defScope st) f cdv A outer s H E) (fun c d _ H => E c d H) k →
      SsOk (cxOf (L2.CX P w) P w K mg base N name (defScope st) f cdv A outer s H E) cm (fun c d _ H => E c d H) (defBody st) mb) : FnC P w K mg base cm (k + 1) x (defM ps.length N.length mb) := by
  obtain ⟨f, fd, h1, h2, F, hb⟩ := G.ex
  obtain ⟨oc, od, kV, doc, pm, an, cdv, ct, osl, rfl, lk, hcd⟩ := F.ex
  exact ⟨f, _, ps, h1, h2, .all hb, fnG_of F Sc defM_len defM_post (body f), ⟨_, _, _, lk⟩⟩
theorem DAt.okD (G : DAt K mg x name st ps) (Sc : FnScope N ps (defScope st))
    (body : ∀ (f : Addr) (cdv : Value) (A : Around) (outer : List Env) (s : Shared) (H : Hp) (E : XK), Ctx (cxOf (L2.CX P w) P w K mg base N name (defScope st) f cdv A outer s H E) (fun c d _ H => E c d H) k →
      SsOk (cxOf (L2.CX P w) P w K mg base N name (defScope st) f cdv A outer s H E) cm (fun c d _ H => E c d H) (defBody st) mb) : FnC P w K mg base cm (k + 1) x (defD ps.length N.length mb) := by
  obtain ⟨f, fd, h1, h2, F, hb⟩ := G.ex
  obtain ⟨oc, od, kV, doc, pm, an, cdv, ct, osl, rfl, lk, hcd⟩ := F.ex
  exact ⟨f, _, ps, h1, h2, .all hb, fnG_of F Sc defD_len defD_post (body f), ⟨_, _, _, lk⟩⟩
/-- the law's own function, for walk_ofD -/
def LawF (P : Program) (w : World) (K : PySem.W.Frag) (mg : Str → Option Value) (cm : CM) (k : Nat) (fa : Addr) (y : Str) (mf : List D → DS → Ou D) : Prop :=
  ∃ fd : FuncData, (∀ (s : Shared) (u : Value), BindsTo s fd ⟨[u], []⟩ [(y, u)]) ∧ ∀ base : Heap, K.In base → base.Ns mainGlobals mg → FnG P w K mg base cm k fa fd [y] mf
theorem DAt.lawM {y : Str} {fa : Addr} (G : DAt K mg x name st [y]) (Sc : FnScope N [y] (defScope st))
    (body : ∀ (base : Heap) (f : Addr) (cdv : Value) (A : Around) (outer : List Env) (s : Shared) (H : Hp) (E : XK), Ctx (cxOf (L2.CX P w) P w K mg base N name (defScope st) f cdv A outer s H E) (fun c d _ H => E c d H) k →
      SsOk (cxOf (L2.CX P w) P w K mg base N name (defScope st) f cdv A outer s H E) cm (fun c d _ H => E c d H) (defBody st) mb) (hm : mg x = some (.ref fa)) : LawF P w K mg cm (k + 1) fa y (defM [y].length N.length mb) := by
  obtain ⟨f, fd, h1, h2, F, hb⟩ := G.ex
  rw [hm] at h1; cases h1
  obtain ⟨oc, od, kV, doc, pm, an, cdv, ct, osl, rfl, lk, hcd⟩ := F.ex
  exact ⟨_, fun s u => .of_eq (hb [u] rfl), fun base hK hN => fnG_of F Sc defM_len defM_post (body base fa)⟩
theorem DAt.lawD {y : Str} {fa : Addr} (G : DAt K mg x name st [y]) (Sc : FnScope N [y] (defScope st))
    (body : ∀ (base : Heap) (f : Addr) (cdv : Value) (A : Around) (outer : List Env) (s : Shared) (H : Hp) (E : XK), Ctx (cxOf (L2.CX P w) P w K mg base N name (defScope st) f cdv A outer s H E) (fun c d _ H => E c d H) k →
      SsOk (cxOf (L2.CX P w) P w K mg base N name (defScope st) f cdv A outer s H E) cm (fun c d _ H => E c d H) (defBody st) mb) (hm : mg x = some (.ref fa)) : LawF P w K mg cm (k + 1) fa y (defD [y].length N.length mb) := by
  obtain ⟨f, fd, h1, h2, F, hb⟩ := G.ex
  rw [hm] at h1; cases h1
  obtain ⟨oc, od, kV, doc, pm, an, cdv, ct, osl, rfl, lk, hcd⟩ := F.ex
  exact ⟨_, fun s u => .of_eq (hb [u] rfl), fun base hK hN => fnG_of F Sc defD_len defD_post (body base fa)⟩
end

/-! in, not in -/
def inD (x y : D) : Option Bool := match toPy x, toPy y with
  | some d, some (.list ds) => if SeqAt.shaped d = true ∧ SeqAt.shaped (.list ds) = true then some (ds.any fun z => PyData.eqv z d) else none
  | some d, some (.tuple ds) => if SeqAt.shaped d = true ∧ SeqAt.shaped (.list ds) = true then some (ds.any fun z => PyData.eqv z d) else none
  | _, _ => none
def inO (x y : D) (S : DS) : Ou D := match inD x y with
  | some b => .ok (.bl b) S
  | none => .no
def ninO (x y : D) (S : DS) : Ou D := match inD x y with
  | some b => .ok (.bl (!b)) S
  | none => .no
section
variable {X : Cx} {cm : CM}
theorem room_in1 {d : PyData} {ds : List PyData} (sd : SeqAt.shaped d = true) (hu : X.A.units + 65 < cLine) : X.A.units + 1 + min (PyData.depthAll ds) d.depth < cLine := room_in_shaped sd hu
theorem op_inT (neg : Bool) (hu : X.A.units + 65 < cLine) : OpR X (compareOp (if neg then .NotIn else .In)) (fun x y H Q => ∃ d ds, Dp X.K H x d ∧ (Dp X.K H y (.list ds) ∨ Dp X.K H y (.tuple ds)) ∧ SeqAt.shaped d = true ∧ SeqAt.shaped (.list ds) = true ∧ Q (.bl (if neg then !(ds.any fun z => PyData.eqv z d) else ds.any fun z => PyData.eqv z d)) H) := by
  intro pins s σ H x y v u Q I rx ry h
  obtain ⟨d, ds, hd, he, sd, se, q⟩ := h
  obtain ⟨as, r1⟩ := Dp.reads I d x v hd rx
  rcases he with he | he
  · obtain ⟨bs, r2⟩ := Dp.reads I (.list ds) y u he ry
    cases neg with
    | false => exact SeqAt.in_list_reads r2 r1 (SeqAt.canLay_of_shaped se) (SeqAt.canLay_of_shaped sd) (room_in_shaped sd hu) ⟨.bl _, H, I, rfl, q⟩
    | true => exact SeqAt.notIn_list_reads r2 r1 (SeqAt.canLay_of_shaped se) (SeqAt.canLay_of_shaped sd) (room_in_shaped sd hu) ⟨.bl _, H, I, rfl, q⟩
  · obtain ⟨bs, r2⟩ := Dp.reads I (.tuple ds) y u he ry
    cases neg with
    | false => exact SeqAt.in_tuple_reads r2 r1 (SeqAt.canLay_of_shaped se) (SeqAt.canLay_of_shaped sd) (room_in_shaped sd hu) ⟨.bl _, H, I, rfl, q⟩
    | true => exact SeqAt.notIn_tuple_reads r2 r1 (SeqAt.canLay_of_shaped se) (SeqAt.canLay_of_shaped sd) (room_in_shaped sd hu) ⟨.bl _, H, I, rfl, q⟩
theorem inD_rep {K : PySem.W.Frag} {xl al : List Addr} {H : Hp} {x y : D} {v u : V} {b : Bool} (h : inD x y = some b) (rv : Rep K xl al H x v) (ru : Rep K xl al H y u) :
    ∃ d ds, Dp K H v d ∧ (Dp K H u (.list ds) ∨ Dp K H u (.tuple ds)) ∧ SeqAt.shaped d = true ∧ SeqAt.shaped (.list ds) = true ∧ b = ds.any fun z => PyData.eqv z d := by
  unfold inD at h
  split at h
  · rename_i d ds e1 e2
    split at h
    · rename_i hs
      cases h
      exact ⟨d, ds, rv.dp e1, .inl (ru.dp e2), hs.1, hs.2, rfl⟩
    · cases h
  · rename_i d ds e1 e2
    split at h
    · rename_i hs
      cases h
      exact ⟨d, ds, rv.dp e1, .inr (ru.dp e2), hs.1, hs.2, rfl⟩
    · cases h
  · cases h
theorem o_in (hu : X.A.units + 65 < cLine) : OOk X cm (compareOp .In) inO := by
  refine ⟨_, op_inT false hu, fun xl al H S x y v u Q W0 w rv ru p => ?_⟩
  unfold inO at p
  split at p
  · rename_i b e
    obtain ⟨d, ds, h1, h2, h3, h4, rfl⟩ := inD_rep e rv ru
    exact ⟨d, ds, h1, h2, h3, h4, p.here w _ (.bl _)⟩
  · exact p.elim
theorem o_nin (hu : X.A.units + 65 < cLine) : OOk X cm (compareOp .NotIn) ninO := by
  refine ⟨_, op_inT true hu, fun xl al H S x y v u Q W0 w rv ru p => ?_⟩
  unfold ninO at p
  split at p
  · rename_i b e
    obtain ⟨d, ds, h1, h2, h3, h4, rfl⟩ := inD_rep e rv ru
    exact ⟨d, ds, h1, h2, h3, h4, p.here w _ (.bl _)⟩
  · exact p.elim
end

/-! a list made to be changed, from another -/
def listR (xs : List D) (S : DS) : Ou D := match xs with
  | [.tup ys] => .ok (.ref S.length) (S ++ [.lst ys])
  | [.vl ys] => .ok (.ref S.length) (S ++ [.lst ys])
  | [.fz ys] => .ok (.ref S.length) (S ++ [.lst ys])
  | [.ref p] => match S[p]? with
    | some (DO.lst ys) => .ok (.ref S.length) (S ++ [.lst ys])
    | none => .no
  | _ => .no
theorem c_listR {X : Cx} {cm : CM} : COk X cm (.type "list") listR := by
  refine ⟨_, call_list_of, fun xl al H S xs vs Q W0 w rs p => ?_⟩
  unfold listR at p
  split at p
  · obtain ⟨v, rfl, rv⟩ := reps1 rs
    obtain ⟨a, us, rfl, ha, r1⟩ := rep_tup rv
    exact ⟨a, us, rfl, .inr ha, fun q hq => p _ _ (ext_ref w hq) (w.addRef hq r1) _ (Rep.newRef' w)⟩
  · obtain ⟨v, rfl, rv⟩ := reps1 rs
    obtain ⟨a, us, rfl, ha, na, nxa, r1⟩ := rep_ref_lst rv
    exact ⟨a, us, rfl, .inl (SqL.of ha), fun q hq => p _ _ (ext_ref w hq) (w.addRef hq r1) _ (Rep.newRef' w)⟩
  · obtain ⟨v, rfl, rv⟩ := reps1 rs
    cases rv with
    | fz h n r => exact ⟨_, _, rfl, .inl (.inl (.inr ⟨_, h⟩)), fun q hq => p _ _ (ext_ref w hq) (w.addRef hq r) _ (Rep.newRef' w)⟩
    | fzK k c h r => exact ⟨_, _, rfl, .inl (h H), fun q hq => p _ _ (ext_ref w hq) (w.addRef hq r) _ (Rep.newRef' w)⟩
  · obtain ⟨v, rfl, rv⟩ := reps1 rs
    split at p
    · rename_i ys e
      cases rv with
      | ref h =>
        obtain ⟨a, us, h1, h2, h3⟩ := w.list e
        rw [h] at h1; cases h1
        exact ⟨_, _, rfl, .inl (SqL.of h2), fun q hq => p _ _ (ext_ref w hq) (w.addRef hq h3) _ (Rep.newRef' w)⟩
    · exact p.elim
  · exact p.elim

/-! x += y, x -= y -/
def iaddO (x y : D) (S : DS) : Ou D := match x, y with
  | .int i, .int j => .ok (.int (i + j)) S
  | .str a, .str b => if a.length + b.length ≤ sizeLine then .ok (.str (a ++ b)) S else .no
  | _, _ => .no
section
variable {X : Cx} {cm : CM}
theorem o_iadd : OOk X cm (inplaceOp .Add) iaddO := by
  refine ⟨_, iop_add.or iop_add_str, fun xl al H S x y v u Q W0 w rv ru p => ?_⟩
  unfold iaddO at p
  split at p
  · cases rv; cases ru
    exact .inl ⟨_, _, rfl, rfl, p.here w _ (.int _)⟩
  · split at p
    · rename_i hl
      cases rv; cases ru
      exact .inr ⟨_, _, rfl, rfl, hl, p.here w _ (.str _)⟩
    · exact p.elim
  · exact p.elim
theorem o_isub : OOk X cm (inplaceOp .Sub) subO := by
  refine ⟨_, iop_sub, fun xl al H S x y v u Q W0 w rv ru p => ?_⟩
  unfold subO at p
  split at p
  · cases rv; cases ru
    exact ⟨_, _, rfl, rfl, p.here w _ (.int _)⟩
  · exact p.elim
end

/-! truth -/
def truD (S : DS) : D → Option Bool
  | .non => some false
  | .bl b => some b
  | .int i => some (i != 0)
  | .str y => if y.length ≤ sizeLine then some ((y.length : Int) != 0) else none
  | .tup xs => some (!xs.isEmpty)
  | .vl xs => some (!xs.isEmpty)
  | .fz xs => some (!xs.isEmpty)
  | .ref p => match S[p]? with
    | some (DO.lst xs) => some (!xs.isEmpty)
    | none => none
def mTr (a : ME) : MT := fun env S => (a env S).bind fun d S1 => match truD S1 d with
  | some b => .ok b S1
  | none => .no
theorem Reps.isE {K : PySem.W.Frag} {xl al : List Addr} {H : Hp} {ds : List D} {vs : List V} (r : Reps K xl al H ds vs) : (!vs.isEmpty) = !ds.isEmpty := by cases r <;> rfl
theorem t_tru {X : Cx} {cm : CM} {W : WX} {e : Expr} {ma : ME} (h : EOk X cm W e ma) (he : ∀ whole, isTrue e X.env whole = (do let v ← whole; standAt e.pos; holding [v] (truthy v)) := by intro _; rfl) : TOk X cm W e (mTr ma) := by
  obtain ⟨t, p, d⟩ := h
  refine ⟨_, pt_truth p he, fun xl al σ H S env Q w r q => ?_⟩
  refine d xl al σ H S env _ w r (q.bind.imp fun x S1 al1 H1 e1 w1 p1 v rv => ?_)
  split at p1
  · rename_i b hb
    refine ⟨b, ?_, p1.here w1⟩
    unfold truD at hb
    split at hb
    · cases rv; cases hb; rfl
    · cases rv; cases hb; rfl
    · cases rv; cases hb; rfl
    · split at hb
      · rename_i hl
        cases rv; cases hb
        exact ⟨hl, rfl⟩
      · cases hb
    · obtain ⟨a, us, rfl, ha, r1⟩ := rep_tup rv
      cases hb
      exact .inr (.inl ⟨us, ha, r1.isE.symm⟩)
    · obtain ⟨a, us, rfl, ha, na, nxa, r1⟩ := rep_ref_lst rv
      cases hb
      exact .inl ⟨us, SqL.of ha, r1.isE.symm⟩
    · cases rv with
      | fz h n r => cases hb; exact .inl ⟨_, .inl (.inr ⟨_, h⟩), r.isE.symm⟩
      | fzK k c h r => cases hb; exact .inl ⟨_, h H1, r.isE.symm⟩
    · split at hb
      · rename_i xs e
        cases hb
        cases rv with
        | ref h =>
          obtain ⟨a, us, h1, h2, h3⟩ := w1.list e
          rw [h] at h1; cases h1
          exact .inl ⟨us, SqL.of h2, h3.isE.symm⟩
      · cases hb
  · exact p1.elim

/-! a, b, c = x, y, z -/
def mPar3 (i j l : Nat) (a : MA) : MS := fun env S => lift (a env S) env fun ds S1 => match ds with
  | [x, y, z] => .ok (.nx, ((env.set i (some x)).set j (some y)).set l (some z)) S1
  | _ => .no
theorem reps3 {K : PySem.W.Frag} {xl al : List Addr} {H : Hp} {d e f : D} {vs : List V} (r : Reps K xl al H [d, e, f] vs) : ∃ v u t, vs = [v, u, t] ∧ Rep K xl al H d v ∧ Rep K xl al H e u ∧ Rep K xl al H f t := by
  cases r with
  | cons h r =>
    obtain ⟨u, t, rfl, h2, h3⟩ := reps2 r
    exact ⟨_, _, _, rfl, h, h2, h3⟩
theorem s_par3 {X : Cx} {cm : CM} {W : WX} {i j l : Nat} {x y z : Str} {a b c : Expr} {px py pz pt pos : Pos} {kt k2 pt2} {mp : MA} (hc : X.calm = true) (hN : X.N.Nodup) (ha : AOk X cm W [a, b, c] mp)
    (hw : swappedStores [.Tuple [.Name x px, .Name y py, .Name z pz] kt pt] (.Tuple [a, b, c] k2 pt2) X.env = pure (some [x, y, z]))
    (hi : X.N[i]? = some x := by rfl) (hj : X.N[j]? = some y := by rfl) (hl : X.N[l]? = some z := by rfl) (hij : i ≠ j := by decide) (hil : i ≠ l := by decide) (hjl : j ≠ l := by decide)
    (hx : X.env.scope.names.lookup x = some .local := by rfl) (hy : X.env.scope.names.lookup y = some .local := by rfl) (hz : X.env.scope.names.lookup z = some .local := by rfl)
    (hs : swapsWithSole [.Tuple [.Name x px, .Name y py, .Name z pz] kt pt] (.Tuple [a, b, c] k2 pt2) pos.line X.env = pure false := by rfl) :
    SOk X cm W (.Assign [.Tuple [.Name x px, .Name y py, .Name z pz] kt pt] (.Tuple [a, b, c] k2 pt2) pos) (mPar3 i j l mp) := by
  obtain ⟨t, p, d⟩ := ha
  refine ⟨_, ps_par3 hc hN hi hj hl hij hil hjl hx hy hz p hw hs, fun xl al σ H S env D0 w r q => ?_⟩
  refine d xl al σ H S env _ w r ((q.lift r).imp fun xs S1 al1 H1 e1 w1 p1 vs rvs => ?_)
  split at p1
  · obtain ⟨v, u, s, rfl, rv, ru, rs⟩ := reps3 rvs
    exact ⟨v, u, s, rfl, p1.here w1 _ ((((r.mono e1).set rv i).set ru j).set rs l)⟩
  · exact p1.elim
end DL

namespace DL
open PySem PySem.Spec PyProof.Rows L2

/-! ### plain reckoning with the printed functions: what stands first is worked out first -/
section
variable {α β : Type} {f : D → D → DS → Ou D} {a b c : ME} {env : DE} {S : DS}
@[simp] theorem mC_at (d : D) : mC d env S = .ok d S := (rfl)
@[simp] theorem mV_at (i : Nat) : mV i env S = match env[i]? with
  | some (some d) => .ok d S
  | _ => .no := (rfl)
@[simp] theorem m1_at (f : D → DS → Ou D) : m1 f a env S = (a env S).bind f := (rfl)
def m2K (f : D → D → DS → Ou D) (b : ME) (env : DE) (o : Ou D) : Ou D := o.bind fun x S1 => (b env S1).bind fun y S2 => f x y S2
def m2J (f : D → D → DS → Ou D) (x : D) (o : Ou D) : Ou D := o.bind fun y S2 => f x y S2
@[simp] theorem m2_at : m2 f a b env S = m2K f b env (a env S) := (rfl)
@[simp] theorem m2K_ok (x : D) : m2K f b env (.ok x S) = m2J f x (b env S) := (rfl)
@[simp] theorem m2J_ok (x y : D) : m2J f x (.ok y S) = f x y S := (rfl)
@[simp] theorem maN_at : maN env S = .ok [] S := (rfl)
def maK (r : MA) (env : DE) (o : Ou D) : Ou (List D) := o.bind fun x S1 => (r env S1).bind fun xs S2 => .ok (x :: xs) S2
def maJ (x : D) (o : Ou (List D)) : Ou (List D) := o.bind fun xs S2 => .ok (x :: xs) S2
@[simp] theorem maC_at (r : MA) : maC a r env S = maK r env (a env S) := (rfl)
@[simp] theorem maK_ok (r : MA) (x : D) : maK r env (.ok x S) = maJ x (r env S) := (rfl)
@[simp] theorem maJ_ok (x : D) (xs : List D) : maJ x (.ok xs S) = .ok (x :: xs) S := (rfl)
@[simp] theorem mL_at (f : List D → DS → Ou D) (r : MA) : mL f r env S = (r env S).bind f := (rfl)
def tK (o : Ou D) : Ou Bool := o.bind fun d S1 => match d with
  | .bl b => .ok b S1
  | _ => .no
@[simp] theorem mT_at : mT a env S = tK (a env S) := (rfl)
@[simp] theorem tK_ok (b : Bool) : tK (.ok (.bl b) S) = .ok b S := (rfl)
def truK (o : Ou D) : Ou Bool := o.bind fun d S1 => match truD S1 d with
  | some b => .ok b S1
  | none => .no
@[simp] theorem mTr_at : mTr a env S = truK (a env S) := (rfl)
@[simp] theorem truK_ok (d : D) : truK (.ok d S) = match truD S d with
  | some b => .ok b S
  | none => .no := (rfl)
def andK (b : MT) (env : DE) (o : Ou Bool) : Ou Bool := o.bind fun c S1 => if c = true then b env S1 else .ok false S1
def orK (b : MT) (env : DE) (o : Ou Bool) : Ou Bool := o.bind fun c S1 => if c = true then .ok true S1 else b env S1
def notK (o : Ou Bool) : Ou Bool := o.bind fun c S1 => .ok (!c) S1
@[simp] theorem mAnd_at (p q : MT) : mAnd p q env S = andK q env (p env S) := (rfl)
@[simp] theorem andK_t (q : MT) : andK q env (.ok true S) = q env S := (rfl)
@[simp] theorem andK_f (q : MT) : andK q env (.ok false S) = .ok false S := (rfl)
theorem andK_ok (q : MT) (k : Bool) : andK q env (.ok k S) = if k = true then q env S else .ok false S := (rfl)
@[simp] theorem mOr_at (p q : MT) : mOr p q env S = orK q env (p env S) := (rfl)
@[simp] theorem orK_t (q : MT) : orK q env (.ok true S) = .ok true S := (rfl)
@[simp] theorem orK_f (q : MT) : orK q env (.ok false S) = q env S := (rfl)
theorem orK_ok (q : MT) (k : Bool) : orK q env (.ok k S) = if k = true then .ok true S else q env S := (rfl)
@[simp] theorem mNot_at (p : MT) : mNot p env S = notK (p env S) := (rfl)
@[simp] theorem notK_ok (k : Bool) : notK (.ok k S) = .ok (!k) S := (rfl)
def andVK (b : ME) (env : DE) (o : Ou D) : Ou D := o.bind fun d S1 => match d with
  | .bl c => if c = true then b env S1 else .ok (.bl false) S1
  | _ => .no
def orVK (b : ME) (env : DE) (o : Ou D) : Ou D := o.bind fun d S1 => match d with
  | .bl c => if c = true then .ok (.bl true) S1 else b env S1
  | _ => .no
def notVK (o : Ou D) : Ou D := o.bind fun d S1 => match d with
  | .bl c => .ok (.bl (!c)) S1
  | _ => .no
@[simp] theorem mAndV_at : mAndV a b env S = andVK b env (a env S) := (rfl)
@[simp] theorem andVK_t : andVK b env (.ok (.bl true) S) = b env S := (rfl)
@[simp] theorem andVK_f : andVK b env (.ok (.bl false) S) = .ok (.bl false) S := (rfl)
theorem andVK_ok (k : Bool) : andVK b env (.ok (.bl k) S) = if k = true then b env S else .ok (.bl false) S := (rfl)
@[simp] theorem mOrV_at : mOrV a b env S = orVK b env (a env S) := (rfl)
@[simp] theorem orVK_t : orVK b env (.ok (.bl true) S) = .ok (.bl true) S := (rfl)
@[simp] theorem orVK_f : orVK b env (.ok (.bl false) S) = b env S := (rfl)
theorem orVK_ok (k : Bool) : orVK b env (.ok (.bl k) S) = if k = true then .ok (.bl true) S else b env S := (rfl)
@[simp] theorem mNotV_at : mNotV a env S = notVK (a env S) := (rfl)
@[simp] theorem notVK_ok (k : Bool) : notVK (.ok (.bl k) S) = .ok (.bl (!k)) S := (rfl)
def ifK (a b : ME) (env : DE) (o : Ou Bool) : Ou D := o.bind fun k S1 => if k = true then a env S1 else b env S1
@[simp] theorem mIf_at (p : MT) : mIf p a b env S = ifK a b env (p env S) := (rfl)
@[simp] theorem ifK_t : ifK a b env (.ok true S) = a env S := (rfl)
@[simp] theorem ifK_f : ifK a b env (.ok false S) = b env S := (rfl)
theorem ifK_ok (k : Bool) : ifK a b env (.ok k S) = if k = true then a env S else b env S := (rfl)
def chK (f g : D → D → DS → Ou D) (b c : ME) (env : DE) (o : Ou D) : Ou D := o.bind fun x S1 => (b env S1).bind fun y S2 => (f x y S2).bind fun k S3 => match k with
  | .bl k => if k = true then (c env S3).bind fun z S4 => g y z S4 else .ok (.bl false) S3
  | _ => .no
def chJ (f g : D → D → DS → Ou D) (c : ME) (env : DE) (x : D) (o : Ou D) : Ou D := o.bind fun y S2 => (f x y S2).bind fun k S3 => match k with
  | .bl k => if k = true then (c env S3).bind fun z S4 => g y z S4 else .ok (.bl false) S3
  | _ => .no
def chI (g : D → D → DS → Ou D) (c : ME) (env : DE) (y : D) (o : Ou D) : Ou D := o.bind fun k S3 => match k with
  | .bl k => if k = true then (c env S3).bind fun z S4 => g y z S4 else .ok (.bl false) S3
  | _ => .no
variable {g : D → D → DS → Ou D}
@[simp] theorem mChain_at : mChain f g a b c env S = chK f g b c env (a env S) := (rfl)
@[simp] theorem chK_ok (x : D) : chK f g b c env (.ok x S) = chJ f g c env x (b env S) := (rfl)
@[simp] theorem chJ_ok (x y : D) : chJ f g c env x (.ok y S) = chI g c env y (f x y S) := (rfl)
@[simp] theorem chI_t (y : D) : chI g c env y (.ok (.bl true) S) = m2J g y (c env S) := (rfl)
@[simp] theorem chI_f (y : D) : chI g c env y (.ok (.bl false) S) = .ok (.bl false) S := (rfl)
theorem chI_ok (y : D) (k : Bool) : chI g c env y (.ok (.bl k) S) = if k = true then m2J g y (c env S) else .ok (.bl false) S := by cases k <;> rfl
def slK (f : D → Option Int → Option Int → DS → Ou D) (lo hi : MO) (env : DE) (o : Ou D) : Ou D := o.bind fun x S1 => (lo env S1).bind fun l S2 => (hi env S2).bind fun u S3 => f x l u S3
def slJ (f : D → Option Int → Option Int → DS → Ou D) (hi : MO) (env : DE) (x : D) (o : Ou (Option Int)) : Ou D := o.bind fun l S2 => (hi env S2).bind fun u S3 => f x l u S3
def slI (f : D → Option Int → Option Int → DS → Ou D) (x : D) (l : Option Int) (o : Ou (Option Int)) : Ou D := o.bind fun u S3 => f x l u S3
variable {h : D → Option Int → Option Int → DS → Ou D} {lo hi : MO}
@[simp] theorem mSl_at : mSl h a lo hi env S = slK h lo hi env (a env S) := (rfl)
@[simp] theorem slK_ok (x : D) : slK h lo hi env (.ok x S) = slJ h hi env x (lo env S) := (rfl)
@[simp] theorem slJ_ok (x : D) (l : Option Int) : slJ h hi env x (.ok l S) = slI h x l (hi env S) := (rfl)
@[simp] theorem slI_ok (x : D) (l u : Option Int) : slI h x l (.ok u S) = h x l u S := (rfl)
@[simp] theorem moN_at : moN env S = .ok none S := (rfl)
def moK (o : Ou D) : Ou (Option Int) := o.bind fun d S1 => match d with
  | .int i => .ok (some i) S1
  | _ => .no
@[simp] theorem moS_at : moS a env S = moK (a env S) := (rfl)
@[simp] theorem moK_ok (i : Int) : moK (.ok (.int i) S) = .ok (some i) S := (rfl)
def isiK (T : String) (o : Ou D) : Ou D := o.bind fun d S1 => match isTy T d with
  | some b => .ok (.bl b) S1
  | none => .no
def isi2K (T U : String) (o : Ou D) : Ou D := o.bind fun d S1 => match isTy T d, isTy U d with
  | some b, some c => .ok (.bl (b || c)) S1
  | _, _ => .no
@[simp] theorem isiM_at (T : String) : isiM T a env S = isiK T (a env S) := (rfl)
@[simp] theorem isiK_ok (T : String) (d : D) : isiK T (.ok d S) = match isTy T d with
  | some b => .ok (.bl b) S
  | none => .no := (rfl)
@[simp] theorem isiM2_at (T U : String) : isiM2 T U a env S = isi2K T U (a env S) := (rfl)
@[simp] theorem isi2K_ok (T U : String) (d : D) : isi2K T U (.ok d S) = match isTy T d, isTy U d with
  | some b, some c => .ok (.bl (b || c)) S
  | _, _ => .no := (rfl)
def methK (T : RcT) (f : D → List D → DS → Ou D) (r : MA) (env : DE) (o : Ou D) : Ou D := o.bind fun x S1 => if T.ok x = true then (r env S1).bind fun xs S2 => f x xs S2 else .no
def methJ (f : D → List D → DS → Ou D) (x : D) (o : Ou (List D)) : Ou D := o.bind fun xs S2 => f x xs S2
@[simp] theorem mMeth_at (T : RcT) (f : D → List D → DS → Ou D) (r : MA) : mMeth T f a r env S = methK T f r env (a env S) := (rfl)
@[simp] theorem methK_ok (T : RcT) (f : D → List D → DS → Ou D) (r : MA) (x : D) : methK T f r env (.ok x S) = if T.ok x = true then methJ f x (r env S) else .no := (rfl)
@[simp] theorem methJ_ok (f : D → List D → DS → Ou D) (x : D) (xs : List D) : methJ f x (.ok xs S) = f x xs S := (rfl)
/-! statements -/
def retK (env : DE) (o : Ou D) : Ou (Fl × DE) := lift o env fun d S1 => .ok (.rt d, env) S1
def setK (i : Nat) (env : DE) (o : Ou D) : Ou (Fl × DE) := lift o env fun d S1 => .ok (.nx, env.set i (some d)) S1
def doK (env : DE) (o : Ou D) : Ou (Fl × DE) := lift o env fun _ S1 => .ok (.nx, env) S1
def gK (o : Ou DE) : Ou (Fl × DE) := o.bind fun env' S2 => .ok (.nx, env') S2
def asgK (g : MG) (env : DE) (o : Ou D) : Ou (Fl × DE) := lift o env fun d S1 => gK (g d env S1)
def parK (i j : Nat) (env : DE) (o : Ou (List D)) : Ou (Fl × DE) := lift o env fun ds S1 => match ds with
  | [x, y] => .ok (.nx, (env.set i (some x)).set j (some y)) S1
  | _ => .no
def par3K (i j l : Nat) (env : DE) (o : Ou (List D)) : Ou (Fl × DE) := lift o env fun ds S1 => match ds with
  | [x, y, z] => .ok (.nx, ((env.set i (some x)).set j (some y)).set l (some z)) S1
  | _ => .no
def ifSK (p q : MS) (env : DE) (o : Ou Bool) : Ou (Fl × DE) := lift o env fun k S1 => if k = true then p env S1 else q env S1
def seqK (b : MS) (o : Ou (Fl × DE)) : Ou (Fl × DE) := o.bind fun r S1 => match r.1 with
  | .nx => b r.2 S1
  | f => .ok (f, r.2) S1
variable {i j l : Nat} {p q : MS} {d x y z : D} {env' : DE} {r : MA} {mt : MT} {mg : MG}
@[simp] theorem mRet_at : mRet a env S = retK env (a env S) := (rfl)
@[simp] theorem retK_ok : retK env (.ok d S) = .ok (.rt d, env) S := (rfl)
@[simp] theorem mRetN_at : mRetN env S = .ok (.rt .non, env) S := (rfl)
@[simp] theorem mNx_at : mNx env S = .ok (.nx, env) S := (rfl)
@[simp] theorem mBk_at : mBk env S = .ok (.bk, env) S := (rfl)
@[simp] theorem mCt_at : mCt env S = .ok (.ct, env) S := (rfl)
@[simp] theorem mDo_at : mDo a env S = doK env (a env S) := (rfl)
@[simp] theorem doK_ok : doK env (.ok d S) = .ok (.nx, env) S := (rfl)
@[simp] theorem mSet_at : mSet i a env S = setK i env (a env S) := (rfl)
@[simp] theorem setK_ok : setK i env (.ok d S) = .ok (.nx, env.set i (some d)) S := (rfl)
@[simp] theorem mAsg_at : mAsg mg a env S = asgK mg env (a env S) := (rfl)
@[simp] theorem asgK_ok : asgK mg env (.ok d S) = gK (mg d env S) := (rfl)
@[simp] theorem gK_ok : gK (.ok env' S) = .ok (.nx, env') S := (rfl)
@[simp] theorem mPar_at : mPar i j r env S = parK i j env (r env S) := (rfl)
@[simp] theorem parK_ok : parK i j env (.ok [x, y] S) = .ok (.nx, (env.set i (some x)).set j (some y)) S := (rfl)
@[simp] theorem mPar3_at : mPar3 i j l r env S = par3K i j l env (r env S) := (rfl)
@[simp] theorem par3K_ok : par3K i j l env (.ok [x, y, z] S) = .ok (.nx, ((env.set i (some x)).set j (some y)).set l (some z)) S := (rfl)
@[simp] theorem mIfS_at : mIfS mt p q env S = ifSK p q env (mt env S) := (rfl)
@[simp] theorem ifSK_t : ifSK p q env (.ok true S) = p env S := (rfl)
@[simp] theorem ifSK_f : ifSK p q env (.ok false S) = q env S := (rfl)
theorem ifSK_ok (k : Bool) : ifSK p q env (.ok k S) = if k = true then p env S else q env S := (rfl)
@[simp] theorem mSeq_at : mSeq p q env S = seqK q (p env S) := (rfl)
@[simp] theorem seqK_nx : seqK q (.ok (.nx, env) S) = q env S := (rfl)
@[simp] theorem seqK_rt : seqK q (.ok (.rt d, env) S) = .ok (.rt d, env) S := (rfl)
@[simp] theorem seqK_bk : seqK q (.ok (.bk, env) S) = .ok (.bk, env) S := (rfl)
@[simp] theorem seqK_ct : seqK q (.ok (.ct, env) S) = .ok (.ct, env) S := (rfl)
@[simp] theorem seqK_xc (x : Exn) : seqK q (.ok (.xc x, env) S) = .ok (.xc x, env) S := (rfl)
def augK (i : Nat) (f : D → D → DS → Ou D) (env : DE) (x : D) (o : Ou D) : Ou (Fl × DE) := lift o env fun y S1 => setK i env (f x y S1)
@[simp] theorem mAug_at : mAug i f a env S = match env[i]? with
  | some (some x) => augK i f env x (a env S)
  | _ => .no := (rfl)
@[simp] theorem augK_ok : augK i f env x (.ok y S) = setK i env (f x y S) := (rfl)
@[simp] theorem retO_rt : retO (.ok (.rt d, env) S) = .ok d S := (rfl)
@[simp] theorem retO_nx : retO (.ok (.nx, env) S) = .ok .non S := (rfl)
theorem defM_at (n N : Nat) (ds : List D) : defM n N p ds S = if ds.length = n then retO (p (startE N ds) S) else .no := (rfl)
theorem defD_at (n N : Nat) (ds : List D) : defD n N p ds S = if ds.length = n then dropO S.length (retO (p (startE N ds) S)) else .no := (rfl)
@[simp] theorem gN_at : gN i d env S = .ok (env.set i (some d)) S := (rfl)
@[simp] theorem gsN_at : gsN [] env S = .ok env S := (rfl)
def gsK (r : List D → DE → DS → Ou DE) (ds : List D) (o : Ou DE) : Ou DE := o.bind fun env1 S1 => r ds env1 S1
@[simp] theorem gsC_at (r : List D → DE → DS → Ou DE) (ds : List D) : gsC mg r (d :: ds) env S = gsK r ds (mg d env S) := (rfl)
@[simp] theorem gsK_ok (r : List D → DE → DS → Ou DE) (ds : List D) : gsK r ds (.ok env S) = r ds env S := (rfl)
@[simp] theorem gT_at (n : Nat) (r : List D → DE → DS → Ou DE) (ds : List D) : gT n r (.tup ds) env S = if ds.length = n then r ds env S else .no := (rfl)
def gSubK (i : ME) (f : D → D → D → DS → Ou Unit) (v : D) (env : DE) (o : Ou D) : Ou DE := o.bind fun x S1 => (i env S1).bind fun k S2 => (f x k v S2).bind fun _ S3 => .ok env S3
def gSubJ (f : D → D → D → DS → Ou Unit) (v : D) (env : DE) (x : D) (o : Ou D) : Ou DE := o.bind fun k S2 => (f x k v S2).bind fun _ S3 => .ok env S3
def gSubI (env : DE) (o : Ou Unit) : Ou DE := o.bind fun _ S3 => .ok env S3
variable {sf : D → D → D → DS → Ou Unit}
@[simp] theorem gSubM_at : gSubM a b sf d env S = gSubK b sf d env (a env S) := (rfl)
@[simp] theorem gSubK_ok : gSubK b sf d env (.ok x S) = gSubJ sf d env x (b env S) := (rfl)
@[simp] theorem gSubJ_ok : gSubJ sf d env x (.ok y S) = gSubI env (sf x y d S) := (rfl)
@[simp] theorem gSubI_ok : gSubI env (.ok () S) = .ok env S := (rfl)
/-! loops -/
noncomputable def forK (mg : MG) (p : MS) (env : DE) (o : Ou Itm) : Ou (Fl × DE) := lift o env fun it S1 => forL mg p it it.items env S1
@[simp] theorem mFor_at (mi : MIt) : mFor mi mg p env S = forK mg p env (mi env S) := (rfl)
@[simp] theorem forK_ok (it : Itm) : forK mg p env (.ok it S) = forL mg p it it.items env S := (rfl)
@[simp] theorem mSeqI_at : mSeqI a env S = (a env S).bind asItm := (rfl)
@[simp] theorem mArgI_at (f : List D → DS → Ou Itm) : mArgI f r env S = (r env S).bind f := (rfl)
@[simp] theorem asItm_tup (xs : List D) : asItm (.tup xs) S = .ok ⟨xs, none⟩ S := (rfl)
@[simp] theorem asItm_vl (xs : List D) : asItm (.vl xs) S = .ok ⟨xs, none⟩ S := (rfl)
@[simp] theorem asItm_fz (xs : List D) : asItm (.fz xs) S = .ok ⟨xs, none⟩ S := (rfl)
/-- one turn of a for -/
def turn (mg : MG) (p : MS) (d : D) (env : DE) (S : DS) : Ou (Fl × DE) := (mg d env S).bind fun env1 S1 => p env1 S1
def turnK (p : MS) (o : Ou DE) : Ou (Fl × DE) := o.bind fun env1 S1 => p env1 S1
@[simp] theorem turn_at : turn mg p d env S = turnK p (mg d env S) := (rfl)
@[simp] theorem turnK_ok : turnK p (.ok env S) = p env S := (rfl)
noncomputable def forN (mg : MG) (p : MS) (it : Itm) (r : List D) (o : Ou (Fl × DE)) : Ou (Fl × DE) := o.bind fun q S2 => match q.1 with
    | .nx => forL mg p it r q.2 S2
    | .ct => forL mg p it r q.2 S2
    | .bk => .ok (.nx, q.2) S2
    | f => .ok (f, q.2) S2
variable {it : Itm}
theorem forL_nil (h : it.g = none) : forL mg p it [] env S = .ok (.nx, env) S := by
  obtain ⟨xs, g⟩ := it
  cases h
  exact gate_none _ _ _
theorem forL_cons (h : it.g = none) (r : List D) : forL mg p it (d :: r) env S = forN mg p it r (turn mg p d env S) := by
  obtain ⟨xs, g⟩ := it
  cases h
  have e : forL mg p ⟨xs, none⟩ (d :: r) env S = (mg d env S).bind fun env1 S1 => (p env1 S1).bind fun q S2 => match q.1 with
    | .nx => forL mg p ⟨xs, none⟩ r q.2 S2
    | .ct => forL mg p ⟨xs, none⟩ r q.2 S2
    | .bk => .ok (.nx, q.2) S2
    | f => .ok (f, q.2) S2 := gate_none _ _ _
  rw [e]
  unfold forN turn
  cases mg d env S <;> rfl
@[simp] theorem forN_nx (r : List D) : forN mg p it r (.ok (.nx, env) S) = forL mg p it r env S := (rfl)
@[simp] theorem forN_ct (r : List D) : forN mg p it r (.ok (.ct, env) S) = forL mg p it r env S := (rfl)
@[simp] theorem forN_bk (r : List D) : forN mg p it r (.ok (.bk, env) S) = .ok (.nx, env) S := (rfl)
@[simp] theorem forN_rt (r : List D) : forN mg p it r (.ok (.rt d, env) S) = .ok (.rt d, env) S := (rfl)
@[simp] theorem forN_xc (r : List D) (x : Exn) : forN mg p it r (.ok (.xc x, env) S) = .ok (.xc x, env) S := (rfl)
/-- the first item that answers -/
theorem forL_find (hg : it.g = none) {E : DE → Prop} {f : D → Option D} {S : DS} : ∀ (ds : List D) (env : DE), E env →
    (∀ d ∈ ds, ∀ env, E env → ∃ env', E env' ∧ turn mg p d env S = match f d with
      | none => .ok (.nx, env') S
      | some x => .ok (.rt x, env') S) → ∃ env', E env' ∧ forL mg p it ds env S = match ds.findSome? f with
      | none => .ok (.nx, env') S
      | some x => .ok (.rt x, env') S
  | [], env, he, _ => ⟨env, he, forL_nil hg⟩
  | d :: ds, env, he, h => by
    obtain ⟨env1, h1, e1⟩ := h d (List.mem_cons_self ..) env he
    rw [forL_cons hg, e1, List.findSome?_cons]
    cases f d with
    | none => exact forL_find hg ds env1 h1 fun d hd => h d (List.mem_cons_of_mem _ hd)
    | some x => exact ⟨env1, h1, rfl⟩
/-- a for that goes to its end, or returns what Q says -/
theorem forL_inv (hg : it.g = none) {I : Nat → DE → DS → Prop} {Q : D → DS → Prop} : ∀ (ds : List D) (k : Nat) (env : DE) (S : DS), I k env S →
    (∀ i d, ds[i]? = some d → ∀ env S, I (k + i) env S → (∃ env' S', turn mg p d env S = .ok (.nx, env') S' ∧ I (k + i + 1) env' S') ∨ (∃ x env' S', turn mg p d env S = .ok (.rt x, env') S' ∧ Q x S')) →
    (∃ env' S', forL mg p it ds env S = .ok (.nx, env') S' ∧ I (k + ds.length) env' S') ∨ (∃ x env' S', forL mg p it ds env S = .ok (.rt x, env') S' ∧ Q x S')
  | [], k, env, S, he, _ => .inl ⟨env, S, forL_nil hg, he⟩
  | d :: ds, k, env, S, he, h => by
    rw [forL_cons hg]
    rcases h 0 d rfl env S he with ⟨env1, S1, e1, h1⟩ | ⟨x, env1, S1, e1, h1⟩
    · rw [e1, forN_nx]
      have := forL_inv hg (I := I) (Q := Q) ds (k + 1) env1 S1 h1 fun i d hd env S hi => by
        have := h (i + 1) d (by simpa using hd) env S (by rw [show k + (i + 1) = k + 1 + i by omega]; exact hi)
        rw [show k + (i + 1) = k + 1 + i by omega] at this
        exact this
      rw [show k + (d :: ds).length = k + 1 + ds.length by simp; omega]
      exact this
    · exact .inr ⟨x, env1, S1, by rw [e1, forN_rt], h1⟩
/-- .. that always goes to its end -/
theorem forL_all (hg : it.g = none) {I : Nat → DE → DS → Prop} (ds : List D) (k : Nat) (env : DE) (S : DS) (h0 : I k env S)
    (h : ∀ i d, ds[i]? = some d → ∀ env S, I (k + i) env S → ∃ env' S', turn mg p d env S = .ok (.nx, env') S' ∧ I (k + i + 1) env' S') :
    ∃ env' S', forL mg p it ds env S = .ok (.nx, env') S' ∧ I (k + ds.length) env' S' := by
  rcases forL_inv hg (Q := fun _ _ => False) ds k env S h0 fun i d hd env S hi => .inl (h i d hd env S hi) with h | ⟨_, _, _, _, h⟩
  · exact h
  · exact h.elim
/-! comprehensions -/
noncomputable def lcK (g : MG) (tt : MT) (el : ME) (vs : List Nat) (fin : List D → DS → Ou D) (env : DE) (o : Ou Itm) : Ou D := o.bind fun it S1 => if it.items.length ≤ sizeLine then (lcL g tt el (wipeE env vs) it it.items [] S1).bind fin else .no
variable {tt : MT} {el : ME} {vs : List Nat} {fin : List D → DS → Ou D}
@[simp] theorem lcM_at (mi : MIt) : lcM mi mg tt el vs fin env S = lcK mg tt el vs fin env (mi env S) := (rfl)
theorem lcK_ok : lcK mg tt el vs fin env (.ok it S) = if it.items.length ≤ sizeLine then (lcL mg tt el (wipeE env vs) it it.items [] S).bind fin else .no := (rfl)
@[simp] theorem mYes_at : mYes env S = .ok true S := (rfl)
@[simp] theorem finV_at (xs : List D) : finV xs S = .ok (.vl xs) S := (rfl)
@[simp] theorem finR_at (xs : List D) : finR xs S = .ok (.ref S.length) (S ++ [.lst xs]) := (rfl)
/-- one item of a comprehension without tests -/
def cell (g : MG) (el : ME) (d : D) (env : DE) (S : DS) : Ou D := (g d env S).bind fun env1 S1 => el env1 S1
def cellK (el : ME) (o : Ou DE) : Ou D := o.bind fun env1 S1 => el env1 S1
@[simp] theorem cell_at : cell mg el d env S = cellK el (mg d env S) := (rfl)
@[simp] theorem cellK_ok : cellK el (.ok env S) = el env S := (rfl)
theorem lcL_nil (h : it.g = none) (acc : List D) : lcL mg tt el env it [] acc S = .ok acc S := by
  obtain ⟨xs, g⟩ := it
  cases h
  exact gate_none _ _ _
theorem lcL_cons (h : it.g = none) (r acc : List D) {y : D} {S' : DS} (e : cell mg el d env S = .ok y S') : lcL mg mYes el env it (d :: r) acc S = lcL mg mYes el env it r (acc ++ [y]) S' := by
  obtain ⟨xs, g⟩ := it
  cases h
  have e1 : lcL mg mYes el env ⟨xs, none⟩ (d :: r) acc S = (mg d env S).bindN fun env1 S1 => (mYes env1 S1).bindN fun b S2 => if b = true then (el env1 S2).bindN fun y S3 => lcL mg mYes el env ⟨xs, none⟩ r (acc ++ [y]) S3 else lcL mg mYes el env ⟨xs, none⟩ r acc S2 := gate_none _ _ _
  rw [e1]
  unfold cell at e
  cases h : mg d env S with
  | ok env1 S1 =>
    rw [h] at e
    have e : el env1 S1 = .ok y S' := e
    simp [e]
  | ex x S1 => rw [h] at e; cases e
  | no => rw [h] at e; cases e
/-- every item by itself, the state untouched -/
theorem lcL_map (hg : it.g = none) {f : D → D} : ∀ (ds acc : List D), (∀ d ∈ ds, cell mg el d env S = .ok (f d) S) → lcL mg mYes el env it ds acc S = .ok (acc ++ ds.map f) S
  | [], acc, _ => by rw [lcL_nil hg, List.map_nil, List.append_nil]
  | d :: ds, acc, h => by
    rw [lcL_cons hg ds acc (h d (List.mem_cons_self ..)), lcL_map hg ds _ fun d hd => h d (List.mem_cons_of_mem _ hd), List.map_cons, List.append_assoc]
    rfl
/-- .. with a state that is kept in I; P: what is said of the item made at i -/
theorem lcL_inv (hg : it.g = none) {I : DS → Prop} {P : Nat → D → Prop} : ∀ (ds acc : List D) (k : Nat) (S : DS), I S → (∀ i d, ds[i]? = some d → ∀ S, I S → ∃ y S', cell mg el d env S = .ok y S' ∧ I S' ∧ P (k + i) y) →
    ∃ ys S', lcL mg mYes el env it ds acc S = .ok (acc ++ ys) S' ∧ I S' ∧ ys.length = ds.length ∧ ∀ i y, ys[i]? = some y → P (k + i) y
  | [], acc, k, S, hi, _ => ⟨[], S, by rw [lcL_nil hg, List.append_nil], hi, rfl, fun i y h => by simp at h⟩
  | d :: ds, acc, k, S, hi, h => by
    obtain ⟨y, S1, e1, h1, p1⟩ := h 0 d rfl S hi
    obtain ⟨ys, S2, e2, h2, l2, p2⟩ := lcL_inv hg (P := P) ds (acc ++ [y]) (k + 1) S1 h1 fun i d hd S hs => by
      have := h (i + 1) d (by simpa using hd) S hs
      rw [show k + (i + 1) = k + 1 + i by omega] at this
      exact this
    refine ⟨y :: ys, S2, by rw [lcL_cons hg ds acc e1, e2, List.append_assoc]; rfl, h2, by simp [l2], fun i z hz => ?_⟩
    cases i with
    | zero => simp at hz; subst hz; exact p1
    | succ i =>
      have := p2 i z (by simpa using hz)
      rw [show k + (i + 1) = k + 1 + i by omega]
      exact this
end
end DL

namespace DL
open PySem PySem.Spec PyProof.Rows L2

@[simp] theorem startE_at (N : Nat) (ds : List D) : startE N ds = ds.map some ++ List.replicate (N - ds.length) none := (rfl)
@[simp] theorem addO_int (i j : Int) (S : DS) : addO (.int i) (.int j) S = .ok (.int (i + j)) S := (rfl)
@[simp] theorem subO_int (i j : Int) (S : DS) : subO (.int i) (.int j) S = .ok (.int (i - j)) S := (rfl)
@[simp] theorem negO_int (i : Int) (S : DS) : negO (.int i) S = .ok (.int (-i)) S := (rfl)
@[simp] theorem modO_int (i j : Int) (S : DS) : modO (.int i) (.int j) S = if j ≠ 0 then .ok (.int (i.fmod j)) S else .no := (rfl)
@[simp] theorem cmpO_int (f : Int → Int → Bool) (i j : Int) (S : DS) : cmpO f (.int i) (.int j) S = .ok (.bl (f i j)) S := (rfl)
@[simp] theorem eqO_int (i j : Int) (S : DS) : eqO (.int i) (.int j) S = .ok (.bl (decide (i = j))) S := (rfl)
@[simp] theorem neO_int (i j : Int) (S : DS) : neO (.int i) (.int j) S = .ok (.bl (!decide (i = j))) S := (rfl)
@[simp] theorem eqO_str (i j : Str) (S : DS) : eqO (.str i) (.str j) S = .ok (.bl (decide (i = j))) S := (rfl)
@[simp] theorem neO_str (i j : Str) (S : DS) : neO (.str i) (.str j) S = .ok (.bl (!decide (i = j))) S := (rfl)
@[simp] theorem eqO_is (i : Int) (j : Str) (S : DS) : eqO (.int i) (.str j) S = .ok (.bl false) S := (rfl)
@[simp] theorem neO_is (i : Int) (j : Str) (S : DS) : neO (.int i) (.str j) S = .ok (.bl true) S := (rfl)
@[simp] theorem eqO_si (i : Int) (j : Str) (S : DS) : eqO (.str j) (.int i) S = .ok (.bl false) S := (rfl)
@[simp] theorem ixO_tup (xs : List D) (i : Int) (S : DS) : ixO (.tup xs) (.int i) S = getI xs i S := (rfl)
@[simp] theorem ixO_vl (xs : List D) (i : Int) (S : DS) : ixO (.vl xs) (.int i) S = getI xs i S := (rfl)
@[simp] theorem ixO_ref (p : Nat) (i : Int) (S : DS) : ixO (.ref p) (.int i) S = match S[p]? with
    | some (DO.lst xs) => getI xs i S
    | none => .no := (rfl)
theorem ixN_nat {n : Nat} {i : Int} (h0 : 0 ≤ i) (h1 : i < n) : ixN n i = some i.toNat := by
  unfold ixN
  rw [if_pos h0, if_pos h1]
theorem getI_nat {xs : List D} {i : Int} {d : D} {S : DS} (h0 : 0 ≤ i) (h : xs[i.toNat]? = some d) : getI xs i S = .ok d S := by
  have hl : i.toNat < xs.length := by
    by_cases z : i.toNat < xs.length
    · exact z
    · rw [List.getElem?_eq_none (by omega)] at h; cases h
  have e : atI xs i = some d := by
    unfold atI
    rw [ixN_nat h0 (by omega)]
    exact h
  unfold getI
  rw [e]
theorem getI_neg {xs : List D} {i : Int} {d : D} {S : DS} (h1 : i < 0) (h2 : -(xs.length : Int) ≤ i) (h : xs[(i + xs.length).toNat]? = some d) : getI xs i S = .ok d S := by
  have e : atI xs i = some d := by
    unfold atI ixN
    rw [if_neg (by omega), if_pos h2]
    exact h
  unfold getI
  rw [e]

/-! data that may be shown: ints of at most k digits -/
mutual
def okD (k : Nat) : D → Bool
  | .non => true
  | .bl _ => true
  | .int i => decide (i.natAbs < 10 ^ k)
  | .str x => PyData.strOk x
  | .tup xs => okDs k xs
  | .vl xs => okDs k xs
  | .fz xs => okDs k xs
  | .ref _ => false
def okDs (k : Nat) : List D → Bool
  | [] => true
  | x :: xs => okD k x && okDs k xs
end
mutual
def pyD : D → PyData
  | .non => .none
  | .bl b => .bool b
  | .int i => .int i
  | .str x => .str x
  | .tup xs => .tuple (pyDs xs)
  | .vl xs => .list (pyDs xs)
  | .fz xs => .list (pyDs xs)
  | .ref _ => .none
def pyDs : List D → List PyData
  | [] => []
  | x :: xs => pyD x :: pyDs xs
end
mutual
def dep : D → Nat
  | .tup xs => deps xs + 1
  | .vl xs => deps xs + 1
  | .fz xs => deps xs + 1
  | _ => 0
def deps : List D → Nat
  | [] => 0
  | x :: xs => max (dep x) (deps xs)
end
mutual
def siz (k : Nat) : D → Nat
  | .int _ => 4 * k
  | .str x => x.cps.size
  | .tup xs => sizs k xs
  | .vl xs => sizs k xs
  | .fz xs => sizs k xs
  | _ => 0
def sizs (k : Nat) : List D → Nat
  | [] => 0
  | x :: xs => siz k x + 1 + sizs k xs
end
structure PyOk (k : Nat) (d : D) : Prop where
  py : toPy d = some (pyD d)
  lay : (pyD d).canLay0 = true
  dp : (pyD d).depth = dep d
  wt : (pyD d).weight ≤ siz k d
  sh : (pyD d).intsShort (k + 1) = true
  sw : k ≤ 570 → (pyD d).showable = true
structure PysOk (k : Nat) (ds : List D) : Prop where
  py : toPys ds = some (pyDs ds)
  lay : PyData.canLayAll0 (pyDs ds) = true
  dp : PyData.depthAll (pyDs ds) = deps ds
  wt : PyData.weightAll (pyDs ds) ≤ sizs k ds
  sh : PyData.intsShortAll (k + 1) (pyDs ds) = true
  sw : k ≤ 570 → PyData.showableAll (pyDs ds) = true
theorem pow_10_2 (k : Nat) : (10 : Nat) ^ k ≤ 2 ^ (4 * k) := by
  rw [Nat.pow_mul]
  exact Nat.pow_le_pow_left (by decide) k
theorem log_lt {n k : Nat} (h : n < 10 ^ k) (h0 : n ≠ 0) : n.log2 < 4 * k := (Nat.log2_lt h0).mpr (Nat.lt_of_lt_of_le h (pow_10_2 k))
theorem log_1920 {n k : Nat} (hk : k ≤ 570) (h : n < 10 ^ k) : n.log2 < 1920 := by
  by_cases h0 : n = 0
  · subst h0; decide
  · refine (Nat.log2_lt h0).mpr (Nat.lt_of_lt_of_le h ?_)
    refine Nat.le_trans (Nat.pow_le_pow_right (by decide) hk) (by decide +kernel)
mutual
theorem ok_py {k : Nat} (hk : 0 < k) : ∀ {d : D}, okD k d = true → PyOk k d
  | .non, _ => ⟨rfl, rfl, rfl, Nat.le_refl _, rfl, fun _ => rfl⟩
  | .bl _, _ => ⟨rfl, rfl, rfl, Nat.le_refl _, rfl, fun _ => rfl⟩
  | .int i, h => by
    have h' : i.natAbs < 10 ^ k := by simpa [okD] using h
    refine ⟨rfl, rfl, rfl, ?_, ?_, fun hk => ?_⟩
    · show (if i == 0 then 0 else i.natAbs.log2 + 1) ≤ 4 * k
      split
      · omega
      · rename_i h0
        have := log_lt h' (by simpa using h0)
        omega
    · have e := int_text_length_le10 hk h'
      show decide ((Str.ofString (toString i)).length ≤ k + 1) = true
      rw [PySem.ofString_length]
      exact decide_eq_true e
    · exact decide_eq_true (log_1920 hk h')
  | .str x, h => ⟨rfl, h, rfl, Nat.le_refl _, rfl, fun _ => rfl⟩
  | .tup xs, h => by
    have q := oks_py hk (ds := xs) (by simpa [okD] using h)
    exact ⟨by simp [toPy, q.py, pyD], by simpa [pyD, PyData.canLay0] using q.lay, by simp [pyD, PyData.depth, q.dp, dep], by simpa [pyD, PyData.weight, siz] using q.wt, by simpa [pyD, PyData.intsShort] using q.sh, fun z => by simpa [pyD, PyData.showable] using q.sw z⟩
  | .vl xs, h => by
    have q := oks_py hk (ds := xs) (by simpa [okD] using h)
    exact ⟨by simp [toPy, q.py, pyD], by simpa [pyD, PyData.canLay0] using q.lay, by simp [pyD, PyData.depth, q.dp, dep], by simpa [pyD, PyData.weight, siz] using q.wt, by simpa [pyD, PyData.intsShort] using q.sh, fun z => by simpa [pyD, PyData.showable] using q.sw z⟩
  | .fz xs, h => by
    have q := oks_py hk (ds := xs) (by simpa [okD] using h)
    exact ⟨by simp [toPy, q.py, pyD], by simpa [pyD, PyData.canLay0] using q.lay, by simp [pyD, PyData.depth, q.dp, dep], by simpa [pyD, PyData.weight, siz] using q.wt, by simpa [pyD, PyData.intsShort] using q.sh, fun z => by simpa [pyD, PyData.showable] using q.sw z⟩
  | .ref _, h => by simp [okD] at h
theorem oks_py {k : Nat} (hk : 0 < k) : ∀ {ds : List D}, okDs k ds = true → PysOk k ds
  | [], _ => ⟨rfl, rfl, rfl, Nat.le_refl _, rfl, fun _ => rfl⟩
  | x :: xs, h => by
    rw [okDs, Bool.and_eq_true] at h
    have p := ok_py hk h.1
    have q := oks_py hk h.2
    refine ⟨by simp [toPys, p.py, q.py, pyDs], by simp [pyDs, PyData.canLayAll0, p.lay, q.lay], by simp [pyDs, PyData.depthAll, p.dp, q.dp, deps], ?_, by simp [pyDs, PyData.intsShortAll, p.sh, q.sh], fun z => by simp [pyDs, PyData.showableAll, p.sw z, q.sw z]⟩
    have h1 := p.wt
    have h2 := q.wt
    simp only [pyDs, PyData.weightAll, sizs]
    omega
end
theorem shaped_of {k : Nat} {d : D} (q : PyOk k d) (h : dep d ≤ 64) : SeqAt.shaped (pyD d) = true := by
  unfold SeqAt.shaped
  rw [q.lay, q.dp]
  simpa using h
theorem eqP_ok {k : Nat} {x y : D} (p : PyOk k x) (q : PyOk k y) (hx : dep x ≤ 64) (hy : dep y ≤ 64) : eqP x y = some (PyData.eqv (pyD x) (pyD y)) := by
  unfold eqP
  rw [p.py, q.py]
  exact if_pos ⟨shaped_of p hx, shaped_of q hy⟩
theorem repr_ok {k : Nat} {d : D} {S : DS} (hk : 7 ≤ k) (hk2 : k ≤ 570) (h : okD k d = true) (hd : dep d ≤ 64) (hs : (k + 3) * siz k d + (k + 1) ≤ sizeLine) : reprO [d] S = .ok (.str (pyD d).shown) S := by
  have q := ok_py (by omega) h
  show (match toPy d with
    | some q => if q.showable = true ∧ SeqAt.shaped q = true ∧ q.shown.length ≤ sizeLine then Ou.ok (D.str q.shown) S else .no
    | none => .no) = _
  rw [q.py]
  refine if_pos ⟨q.sw hk2, shaped_of q hd, ?_⟩
  have h1 := PyData.shown_le (k + 1) (by omega) (pyD d) (PyData.leavesShort_of_canLay0 (k + 1) (pyD d) q.lay q.sh)
  have h2 : (k + 1 + 2) * (pyD d).weight ≤ (k + 3) * siz k d := Nat.mul_le_mul_left _ q.wt
  omega
/-- a thing is equal to itself -/
theorem eqP_self {k : Nat} {x : D} (hk : 0 < k) (h : okD k x = true) (hd : dep x ≤ 64) : eqP x x = some true := by
  have p := ok_py hk h
  rw [eqP_ok p p hd hd, SeqAt.eqv_refl _ p.lay]
theorem eqO_self {k : Nat} {x : D} {S : DS} (hk : 0 < k) (h : okD k x = true) (hd : dep x ≤ 64) : eqO x x S = .ok (.bl true) S := by
  unfold eqO eqB
  split
  · rename_i b e
    have : b = true := by
      split at e
      · rename_i z; unfold scalD at z; cases x <;> simp at z <;> (cases e; simp_all)
      · rw [eqP_self hk h hd] at e; cases e; rfl
    rw [this]
  · rename_i e
    split at e
    · cases e
    · rw [eqP_self hk h hd] at e; cases e
theorem neO_self {k : Nat} {x : D} {S : DS} (hk : 0 < k) (h : okD k x = true) (hd : dep x ≤ 64) : neO x x S = .ok (.bl false) S := by
  have e := eqO_self (S := S) hk h hd
  unfold eqO at e
  unfold neO
  split at e
  · rename_i b hb
    cases e
    rfl
  · cases e
/-- pairs of ints -/
theorem eqP_pair (a b c d : Int) : eqP (.tup [.int a, .int b]) (.tup [.int c, .int d]) = some (decide (a = c) && decide (b = d)) := by
  unfold eqP
  simp [toPy, toPys, SeqAt.shaped, PyData.canLay0, PyData.canLayAll0, PyData.depth, PyData.depthAll, PyData.eqv, PyData.eqvAll]
  rfl
theorem eqO_pair (a b c d : Int) (S : DS) : eqO (.tup [.int a, .int b]) (.tup [.int c, .int d]) S = .ok (.bl (decide (a = c) && decide (b = d))) S := by
  unfold eqO eqB
  rw [show scalD (.tup [.int a, .int b]) (.tup [.int c, .int d]) = none from rfl, eqP_pair]
theorem neO_pair (a b c d : Int) (S : DS) : neO (.tup [.int a, .int b]) (.tup [.int c, .int d]) S = .ok (.bl (!(decide (a = c) && decide (b = d)))) S := by
  unfold neO eqB
  rw [show scalD (.tup [.int a, .int b]) (.tup [.int c, .int d]) = none from rfl, eqP_pair]
end DL

namespace DL
open PySem PySem.Spec PyProof.Rows L2
section
variable {α : Type} {mg : MG} {p : MS} {el : ME} {it : Itm} {env : DE} {S : DS}
/-- a comprehension over a list that is known -/
theorem lcL_F (hg : it.g = none) (g f : α → D) (as : List α) : ∀ (acc : List D), (∀ a ∈ as, cell mg el (g a) env S = .ok (f a) S) → lcL mg mYes el env it (as.map g) acc S = .ok (acc ++ as.map f) S := by
  induction as with
  | nil => exact fun acc _ => by rw [List.map_nil, lcL_nil hg, List.map_nil, List.append_nil]
  | cons a as ih =>
    intro acc h
    rw [List.map_cons, lcL_cons hg _ acc (h a (List.mem_cons_self ..)), ih _ fun b hb => h b (List.mem_cons_of_mem _ hb), List.map_cons, List.append_assoc]
    rfl
theorem lcK_F {vs : List Nat} {fin : List D → DS → Ou D} (g f : α → D) (as : List α) (hl : as.length ≤ sizeLine) (h : ∀ a ∈ as, cell mg el (g a) (wipeE env vs) S = .ok (f a) S) :
    lcK mg mYes el vs fin env (.ok ⟨as.map g, none⟩ S) = fin (as.map f) S := by
  rw [lcK_ok, if_pos (by rw [List.length_map]; exact hl), lcL_F rfl g f as [] h]
  rfl
theorem forL_F (hg : it.g = none) {E : DE → Prop} {S : DS} (g : α → D) (f : α → Option D) (as : List α) : ∀ (env : DE), E env →
    (∀ a ∈ as, ∀ env, E env → ∃ env', E env' ∧ turn mg p (g a) env S = match f a with
      | none => .ok (.nx, env') S
      | some x => .ok (.rt x, env') S) → ∃ env', E env' ∧ forL mg p it (as.map g) env S = match as.findSome? f with
      | none => .ok (.nx, env') S
      | some x => .ok (.rt x, env') S := by
  induction as with
  | nil => exact fun env he _ => ⟨env, he, forL_nil hg⟩
  | cons a as ih =>
    intro env he h
    obtain ⟨env1, h1, e1⟩ := h a (List.mem_cons_self ..) env he
    rw [List.map_cons, forL_cons hg, e1, List.findSome?_cons]
    cases f a with
    | none => exact ih env1 h1 fun d hd => h d (List.mem_cons_of_mem _ hd)
    | some x => exact ⟨env1, h1, rfl⟩
theorem rng1_nat (n : Nat) (h : n < 2 ^ 62) : rng1O [.int n] S = .ok ⟨(List.range n).map fun (i : Nat) => D.int (i : Int), none⟩ S := by
  have e : rng1O [.int n] S = if -(2 ^ 62) ≤ (n : Int) ∧ (n : Int) < 2 ^ 62 then .ok ⟨rangeD 0 (n : Int).toNat, none⟩ S else .no := rfl
  rw [e, if_pos ⟨by omega, by omega⟩]
  unfold rangeD
  simp
theorem getI_map (g : α → D) (as : List α) (i : Nat) {a : α} (h : as[i]? = some a) : getI (as.map g) (i : Int) S = .ok (g a) S := getI_nat (by omega) (by simp [h])
theorem asBls_true (as : List α) : asBls (as.map fun _ => D.bl true) = some (as.map fun _ => true) := by
  induction as with
  | nil => rfl
  | cons a as ih => simp [asBls, ih]
theorem all_true (as : List α) : allO [.vl (as.map fun _ => D.bl true)] S = .ok (.bl true) S := by
  show (match asBls (as.map fun _ => D.bl true) with
    | some bs => Ou.ok (D.bl (bs.all id)) S
    | none => .no) = _
  rw [asBls_true]
  simp
theorem lenO_tup (xs : List D) : lenO [.tup xs] S = .ok (.int xs.length) S := rfl
theorem lenO_vl (xs : List D) : lenO [.vl xs] S = .ok (.int xs.length) S := rfl
theorem tupO_le {xs : List D} (h : xs.length ≤ 1000) : tupO xs S = .ok (.tup xs) S := if_pos h
theorem lstO_le {xs : List D} (h : xs.length ≤ 1000) : lstO xs S = .ok (.vl xs) S := if_pos h
theorem tupleO_vl (xs : List D) : tupleO [.vl xs] S = .ok (.tup xs) S := rfl
theorem tupleO_tup (xs : List D) : tupleO [.tup xs] S = .ok (.tup xs) S := rfl
theorem intO_int (i : Int) : intO [.int i] S = .ok (.int i) S := rfl
theorem absO_nat (n : Nat) : absO [.int (n : Int)] S = .ok (.int (n : Int)) S := by
  have e : absO [.int (n : Int)] S = .ok (.int (if (n : Int) < 0 then -(n : Int) else n)) S := rfl
  rw [e, if_neg (by omega)]
theorem zipD_map {β : Type} (g : α → D) (f : β → D) : ∀ (as : List α) (bs : List β), zipD (as.map g) (bs.map f) = (as.zip bs).map fun x => .tup [g x.1, f x.2]
  | [], _ => by simp [zipD]
  | _ :: _, [] => by simp [zipD]
  | a :: as, b :: bs => by
    rw [List.map_cons, List.map_cons, zipD, List.zip_cons_cons, List.map_cons, zipD_map g f as bs]
theorem zipO_tup (xs ys : List D) : zipO [.tup xs, .tup ys] S = .ok ⟨zipD xs ys, none⟩ S := rfl
theorem okDs_map (K : Nat) (g : α → D) : ∀ as : List α, (∀ a ∈ as, okD K (g a) = true) → okDs K (as.map g) = true
  | [], _ => rfl
  | a :: as, h => by
    rw [List.map_cons, okDs, h a (List.mem_cons_self ..), okDs_map K g as fun b hb => h b (List.mem_cons_of_mem _ hb)]
    rfl
theorem deps_map (m : Nat) (g : α → D) : ∀ as : List α, (∀ a ∈ as, dep (g a) ≤ m) → deps (as.map g) ≤ m
  | [], _ => Nat.zero_le _
  | a :: as, h => by
    rw [List.map_cons, deps]
    exact Nat.max_le.mpr ⟨h a (List.mem_cons_self ..), deps_map m g as fun b hb => h b (List.mem_cons_of_mem _ hb)⟩
theorem sizs_map (K m : Nat) (g : α → D) : ∀ as : List α, (∀ a ∈ as, siz K (g a) ≤ m) → sizs K (as.map g) ≤ (m + 1) * as.length
  | [], _ => Nat.zero_le _
  | a :: as, h => by
    have h1 := h a (List.mem_cons_self ..)
    have h2 := sizs_map K m g as fun b hb => h b (List.mem_cons_of_mem _ hb)
    rw [List.map_cons, sizs, List.length_cons, Nat.mul_succ]
    omega
end
end DL

namespace K85
open PySem PySem.Spec PyProof.Rows L2 DL
/-! ### the text, printed from T.py -/
def topS (i : Nat) : Stmt := PySem.Challenge.pw_everyprice_k85_whole_levels_or_years_tha.main.body.getD i (.Pass ⟨0, 0, 0, 0⟩)
abbrev s_is_integer : Stmt := topS 7
theorem sc_is_integer : FnScope ["thing"] ["thing"] (defScope s_is_integer) := ⟨rfl, rfl, rfl, by decide +kernel, rfl, by decide +kernel, by decide +kernel⟩
abbrev s_is_within : Stmt := topS 8
theorem sc_is_within : FnScope ["thing", "low", "high"] ["thing", "low", "high"] (defScope s_is_within) := ⟨rfl, rfl, rfl, by decide +kernel, rfl, by decide +kernel, by decide +kernel⟩
abbrev s_is_sized : Stmt := topS 9
theorem sc_is_sized : FnScope ["thing", "low", "high"] ["thing", "low", "high"] (defScope s_is_sized) := ⟨rfl, rfl, rfl, by decide +kernel, rfl, by decide +kernel, by decide +kernel⟩
abbrev s_common : Stmt := topS 10
theorem sc_common : FnScope ["one", "other"] ["one", "other"] (defScope s_common) := ⟨rfl, rfl, rfl, by decide +kernel, rfl, by decide +kernel, by decide +kernel⟩
abbrev s_share : Stmt := topS 11
theorem sc_share : FnScope ["top", "bottom", "part"] ["top", "bottom"] (defScope s_share) := ⟨rfl, rfl, rfl, by decide +kernel, rfl, by decide +kernel, by decide +kernel⟩
abbrev s_is_share : Stmt := topS 12
theorem sc_is_share : FnScope ["thing"] ["thing"] (defScope s_is_share) := ⟨rfl, rfl, rfl, by decide +kernel, rfl, by decide +kernel, by decide +kernel⟩
abbrev s_plus : Stmt := topS 13
theorem sc_plus : FnScope ["one", "other"] ["one", "other"] (defScope s_plus) := ⟨rfl, rfl, rfl, by decide +kernel, rfl, by decide +kernel, by decide +kernel⟩
abbrev s_times : Stmt := topS 14
theorem sc_times : FnScope ["one", "other"] ["one", "other"] (defScope s_times) := ⟨rfl, rfl, rfl, by decide +kernel, rfl, by decide +kernel, by decide +kernel⟩
abbrev s_over : Stmt := topS 15
theorem sc_over : FnScope ["one", "other"] ["one", "other"] (defScope s_over) := ⟨rfl, rfl, rfl, by decide +kernel, rfl, by decide +kernel, by decide +kernel⟩
abbrev s_summed : Stmt := topS 16
theorem sc_summed : FnScope ["many", "found", "one"] ["many"] (defScope s_summed) := ⟨rfl, rfl, rfl, by decide +kernel, rfl, by decide +kernel, by decide +kernel⟩
abbrev s_dot : Stmt := topS 18
theorem sc_dot : FnScope ["one", "other", "first", "second"] ["one", "other"] (defScope s_dot) := ⟨rfl, rfl, rfl, by decide +kernel, rfl, by decide +kernel, by decide +kernel⟩
abbrev s_is_positive : Stmt := topS 26
theorem sc_is_positive : FnScope ["thing"] ["thing"] (defScope s_is_positive) := ⟨rfl, rfl, rfl, by decide +kernel, rfl, by decide +kernel, by decide +kernel⟩
abbrev s_is_grid : Stmt := topS 27
theorem sc_is_grid : FnScope ["thing", "many", "part"] ["thing", "many"] (defScope s_is_grid) := ⟨rfl, rfl, rfl, by decide +kernel, rfl, by decide +kernel, by decide +kernel⟩
abbrev s_levels : Stmt := topS 28
theorem sc_levels : FnScope ["table", "many", "one", "other", "third", "line"] ["table"] (defScope s_levels) := ⟨rfl, rfl, rfl, by decide +kernel, rfl, by decide +kernel, by decide +kernel⟩
abbrev s_is_rows : Stmt := topS 29
theorem sc_is_rows : FnScope ["thing", "line"] ["thing"] (defScope s_is_rows) := ⟨rfl, rfl, rfl, by decide +kernel, rfl, by decide +kernel, by decide +kernel⟩
abbrev s_basket_table : Stmt := topS 30
theorem sc_basket_table : FnScope ["prices", "baskets", "kind", "found", "one", "first", "row", "other", "second", "basket"] ["prices", "baskets", "kind"] (defScope s_basket_table) := ⟨rfl, rfl, rfl, by decide +kernel, rfl, by decide +kernel, by decide +kernel⟩
abbrev s__law_hand : Stmt := topS 32
theorem sc__law_hand : FnScope ["script", "cells", "cell"] ["script"] (defScope s__law_hand) := ⟨rfl, rfl, rfl, by decide +kernel, rfl, by decide +kernel, by decide +kernel⟩
abbrev s__law_draw : Stmt := topS 33
theorem sc__law_draw : FnScope ["hand", "many", "number", "cell", "digit"] ["hand", "many"] (defScope s__law_draw) := ⟨rfl, rfl, rfl, by decide +kernel, rfl, by decide +kernel, by decide +kernel⟩
abbrev s__law_any : Stmt := topS 34
theorem sc__law_any : FnScope ["hand", "some"] ["hand", "some"] (defScope s__law_any) := ⟨rfl, rfl, rfl, by decide +kernel, rfl, by decide +kernel, by decide +kernel⟩
abbrev s__law_low : Stmt := topS 35
theorem sc__law_low : FnScope ["top", "bottom", "one", "other"] ["top", "bottom"] (defScope s__law_low) := ⟨rfl, rfl, rfl, by decide +kernel, rfl, by decide +kernel, by decide +kernel⟩
abbrev s__law_add : Stmt := topS 36
theorem sc__law_add : FnScope ["one", "other"] ["one", "other"] (defScope s__law_add) := ⟨rfl, rfl, rfl, by decide +kernel, rfl, by decide +kernel, by decide +kernel⟩
abbrev s__law_mul : Stmt := topS 37
theorem sc__law_mul : FnScope ["one", "other"] ["one", "other"] (defScope s__law_mul) := ⟨rfl, rfl, rfl, by decide +kernel, rfl, by decide +kernel, by decide +kernel⟩
abbrev s__law_over : Stmt := topS 38
theorem sc__law_over : FnScope ["one", "other"] ["one", "other"] (defScope s__law_over) := ⟨rfl, rfl, rfl, by decide +kernel, rfl, by decide +kernel, by decide +kernel⟩
abbrev s__law_sum : Stmt := topS 39
theorem sc__law_sum : FnScope ["some", "found", "one"] ["some"] (defScope s__law_sum) := ⟨rfl, rfl, rfl, by decide +kernel, rfl, by decide +kernel, by decide +kernel⟩
abbrev s__law_dot : Stmt := topS 40
theorem sc__law_dot : FnScope ["row", "other", "one", "two"] ["row", "other"] (defScope s__law_dot) := ⟨rfl, rfl, rfl, by decide +kernel, rfl, by decide +kernel, by decide +kernel⟩
abbrev s__law_positive : Stmt := topS 41
theorem sc__law_positive : FnScope ["hand", "bottom"] ["hand"] (defScope s__law_positive) := ⟨rfl, rfl, rfl, by decide +kernel, rfl, by decide +kernel, by decide +kernel⟩
abbrev s__law_due : Stmt := topS 42
theorem sc__law_due : FnScope ["table", "many", "i", "j", "k"] ["table"] (defScope s__law_due) := ⟨rfl, rfl, rfl, by decide +kernel, rfl, by decide +kernel, by decide +kernel⟩
abbrev s__law_of : Stmt := topS 43
theorem sc__law_of : FnScope ["heights", "one", "other"] ["heights"] (defScope s__law_of) := ⟨rfl, rfl, rfl, by decide +kernel, rfl, by decide +kernel, by decide +kernel⟩
abbrev s__law_is_told : Stmt := topS 44
theorem sc__law_is_told : FnScope ["table", "found", "due"] ["table"] (defScope s__law_is_told) := ⟨rfl, rfl, rfl, by decide +kernel, rfl, by decide +kernel, by decide +kernel⟩
abbrev s__law_spoiled : Stmt := topS 45
theorem sc__law_spoiled : FnScope ["hand", "table", "one", "row", "i", "j"] ["hand", "table"] (defScope s__law_spoiled) := ⟨rfl, rfl, rfl, by decide +kernel, rfl, by decide +kernel, by decide +kernel⟩
abbrev s__law_table : Stmt := topS 46
theorem sc__law_table : FnScope ["prices", "baskets", "kind", "found", "i", "row", "j", "basket"] ["prices", "baskets", "kind"] (defScope s__law_table) := ⟨rfl, rfl, rfl, by decide +kernel, rfl, by decide +kernel, by decide +kernel⟩
abbrev s__law_is_basket_right : Stmt := topS 47
theorem sc__law_is_basket_right : FnScope ["hand", "year", "told", "kind", "costs", "back", "many", "goods", "prices", "baskets", "row", "i", "good", "one", "j"] ["hand"] (defScope s__law_is_basket_right) := ⟨rfl, rfl, rfl, by decide +kernel, rfl, by decide +kernel, by decide +kernel⟩
abbrev s_law : Stmt := topS 48
theorem sc_law : FnScope ["script", "hand", "turn", "many", "heights", "table", "again", "drawn", "i", "year", "j"] ["script"] (defScope s_law) := ⟨rfl, rfl, rfl, by decide +kernel, rfl, by decide +kernel, by decide +kernel⟩
/-! ### what each def does -/
noncomputable def m_is_integer : List D → DS → Ou D := defM 1 1
    (mRet (mAndV (isiM "int" (mV 0)) (mNotV (isiM "bool" (mV 0)))))
noncomputable def m_is_within : List D → DS → Ou D := defM 3 3
    (mRet (mAndV (mL m_is_integer (maC (mV 0) maN)) (mChain leO leO (mV 1) (mV 0) (mV 2))))
noncomputable def m_is_sized : List D → DS → Ou D := defM 3 3
    (mRet (mAndV (isiM "tuple" (mV 0)) (mChain leO leO (mV 1) (mL lenO (maC (mV 0) maN)) (mV 2))))
noncomputable def m_common : List D → DS → Ou D := defM 2 2
    (mSeq (mWhile (mT (m2 neO (mV 1) (mC (.int 0))))
    (mPar 0 1 (maC (mV 1) (maC (m2 modO (mV 0) (mV 1)) maN))))
    (mRet (mL absO (maC (mV 0) maN))))
noncomputable def m_share : List D → DS → Ou D := defM 2 3
    (mSeq (mSet 2 (mL m_common (maC (mV 0) (maC (mV 1) maN))))
    (mSeq (mIfS (mT (m2 ltO (mV 1) (mC (.int 0))))
    (mSet 2 (m1 negO (mV 2)))
    mNx)
    (mRet (mL tupO (maC (m2 fdivO (mV 0) (mV 2)) (maC (m2 fdivO (mV 1) (mV 2)) maN))))))
noncomputable def m_is_share : List D → DS → Ou D := defM 1 1
    (mSeq (mIfS (mOr (mNot (mT (mL m_is_sized (maC (mV 0) (maC (mC (.int 2)) (maC (mC (.int 2)) maN)))))) (mOr (mNot (mT (mL m_is_integer (maC (m2 ixO (mV 0) (mC (.int 0))) maN)))) (mNot (mT (mL m_is_integer (maC (m2 ixO (mV 0) (mC (.int 1))) maN))))))
    (mRet (mC (.bl false)))
    mNx)
    (mRet (mAndV (m2 gtO (m2 ixO (mV 0) (mC (.int 1))) (mC (.int 0))) (m2 eqO (mL m_common (maC (m2 ixO (mV 0) (mC (.int 0))) (maC (m2 ixO (mV 0) (mC (.int 1))) maN))) (mC (.int 1))))))
noncomputable def m_plus : List D → DS → Ou D := defM 2 2
    (mSeq (mIfS (mT (m2 eqO (m2 ixO (mV 0) (mC (.int 1))) (m2 ixO (mV 1) (mC (.int 1)))))
    (mRet (mL m_share (maC (m2 addO (m2 ixO (mV 0) (mC (.int 0))) (m2 ixO (mV 1) (mC (.int 0)))) (maC (m2 ixO (mV 0) (mC (.int 1))) maN))))
    mNx)
    (mRet (mL m_share (maC (m2 addO (m2 mulO (m2 ixO (mV 0) (mC (.int 0))) (m2 ixO (mV 1) (mC (.int 1)))) (m2 mulO (m2 ixO (mV 1) (mC (.int 0))) (m2 ixO (mV 0) (mC (.int 1))))) (maC (m2 mulO (m2 ixO (mV 0) (mC (.int 1))) (m2 ixO (mV 1) (mC (.int 1)))) maN)))))
noncomputable def m_times : List D → DS → Ou D := defM 2 2
    (mRet (mL m_share (maC (m2 mulO (m2 ixO (mV 0) (mC (.int 0))) (m2 ixO (mV 1) (mC (.int 0)))) (maC (m2 mulO (m2 ixO (mV 0) (mC (.int 1))) (m2 ixO (mV 1) (mC (.int 1)))) maN))))
noncomputable def m_over : List D → DS → Ou D := defM 2 2
    (mRet (mL m_share (maC (m2 mulO (m2 ixO (mV 0) (mC (.int 0))) (m2 ixO (mV 1) (mC (.int 1)))) (maC (m2 mulO (m2 ixO (mV 0) (mC (.int 1))) (m2 ixO (mV 1) (mC (.int 0)))) maN))))
noncomputable def m_summed : List D → DS → Ou D := defM 1 3
    (mSeq (mSet 1 (mC (.tup [(.int 0), (.int 1)])))
    (mSeq (mFor (mSeqI (mV 0)) (gN 2)
    (mSet 1 (mL m_plus (maC (mV 1) (maC (mV 2) maN)))))
    (mRet (mV 1))))
noncomputable def m_dot : List D → DS → Ou D := defM 2 4
    (mRet (mL m_summed (maC (lcM (mArgI zipO (maC (mV 0) (maC (mV 1) maN))) (gT 2 (gsC (gN 2) (gsC (gN 3) gsN))) mYes (mL m_times (maC (mV 2) (maC (mV 3) maN))) [2, 3] finV) maN)))
noncomputable def m_is_positive : List D → DS → Ou D := defM 1 1
    (mRet (mAndV (mL m_is_share (maC (mV 0) maN)) (m2 gtO (m2 ixO (mV 0) (mC (.int 0))) (mC (.int 0)))))
noncomputable def m_is_grid : List D → DS → Ou D := defM 2 3
    (mRet (mAndV (mL m_is_sized (maC (mV 0) (maC (mV 1) (maC (mV 1) maN)))) (mL allO (maC (lcM (mSeqI (mV 0)) (gN 2) mYes (mL m_is_positive (maC (mV 2) maN)) [2] finV) maN))))
noncomputable def m_levels : List D → DS → Ou D := defM 1 6
    (mSeq (mIfS (mOr (mNot (mT (mL m_is_sized (maC (mV 0) (maC (mC (.int 1)) (maC (mC (.int 12)) maN)))))) (mNot (mT (mL allO (maC (lcM (mSeqI (mV 0)) (gN 5) mYes (mL m_is_grid (maC (mV 5) (maC (mL lenO (maC (mV 0) maN)) maN))) [5] finV) maN)))))
    mNever
    mNx)
    (mSeq (mSet 1 (mL lenO (maC (mV 0) maN)))
    (mSeq (mFor (mArgI rng1O (maC (mV 1) maN)) (gN 2)
    (mFor (mArgI rng1O (maC (mV 1) maN)) (gN 3)
    (mFor (mArgI rng1O (maC (mV 1) maN)) (gN 4)
    (mIfS (mT (m2 neO (mL m_times (maC (m2 ixO (m2 ixO (mV 0) (mV 2)) (mV 3)) (maC (m2 ixO (m2 ixO (mV 0) (mV 3)) (mV 4)) maN))) (m2 ixO (m2 ixO (mV 0) (mV 2)) (mV 4))))
    (mRet (mL tupO (maC (mC (.str "turn")) (maC (mV 2) (maC (mV 3) (maC (mV 4) maN))))))
    mNx))))
    (mRet (mL tupO (maC (mC (.str "levels")) (maC (m2 ixO (mV 0) (mC (.int 0))) maN)))))))
noncomputable def m_is_rows : List D → DS → Ou D := defM 1 2
    (mSeq (mIfS (mOr (mNot (mT (mL m_is_sized (maC (mV 0) (maC (mC (.int 1)) (maC (mC (.int 12)) maN)))))) (mNot (mT (mL m_is_sized (maC (m2 ixO (mV 0) (mC (.int 0))) (maC (mC (.int 1)) (maC (mC (.int 6)) maN)))))))
    (mRet (mC (.bl false)))
    mNx)
    (mRet (mL allO (maC (lcM (mSeqI (mV 0)) (gN 1) mYes (mL m_is_grid (maC (mV 1) (maC (mL lenO (maC (m2 ixO (mV 0) (mC (.int 0))) maN)) maN))) [1] finV) maN))))
noncomputable def m_basket_table : List D → DS → Ou D := defD 3 10
    (mSeq (mIfS (mNot (mT (mL m_is_rows (maC (mV 0) maN))))
    mNever
    mNx)
    (mSeq (mIfS (mOr (mNot (mT (mL m_is_rows (maC (mV 1) maN)))) (mOr (mT (m2 neO (mL lenO (maC (mV 1) maN)) (mL lenO (maC (mV 0) maN)))) (mT (m2 neO (mL lenO (maC (m2 ixO (mV 1) (mC (.int 0))) maN)) (mL lenO (maC (m2 ixO (mV 0) (mC (.int 0))) maN))))))
    mNever
    mNx)
    (mSeq (mIfS (mAnd (mNot (mT (mL m_is_within (maC (mV 2) (maC (mC (.int 0)) (maC (m2 subO (mL lenO (maC (mV 0) maN)) (mC (.int 1))) maN)))))) (mNot (mAnd (mT (isiM "str" (mV 2))) (mT (m2 inO (mV 2) (mL tupO (maC (mC (.str "old")) (maC (mC (.str "new")) maN))))))))
    mNever
    mNx)
    (mSeq (mSet 3 (mL refO maN))
    (mSeq (mFor (mArgI enumO (maC (mV 0) maN)) (gT 2 (gsC (gN 4) (gsC (gN 5) gsN)))
    (mSeq (mSet 6 (mL refO maN))
    (mSeq (mFor (mArgI enumO (maC (mV 0) maN)) (gT 2 (gsC (gN 7) (gsC (gN 8) gsN)))
    (mSeq (mSet 9 (m2 ixO (mV 1) (mIf (mT (m2 eqO (mV 2) (mC (.str "old")))) (mV 4) (mIf (mT (m2 eqO (mV 2) (mC (.str "new")))) (mV 7) (mV 2)))))
    (mDo (mMeth .lst appendO (mV 6) (maC (mL m_over (maC (mL m_dot (maC (mV 9) (maC (mV 8) maN))) (maC (mL m_dot (maC (mV 9) (maC (mV 5) maN))) maN))) maN)))))
    (mDo (mMeth .lst appendO (mV 3) (maC (mL tupleO (maC (mV 6) maN)) maN))))))
    (mRet (mL tupleO (maC (mV 3) maN))))))))
noncomputable def m_law_hand : List D → DS → Ou D := defM 1 3
    (mSeq (mSet 1 (lcM (mSeqI (mSl slO (mV 0) moN (moS (mC (.int 63))))) (gN 2) mYes (mL absO (maC (mL intO (maC (mV 2) maN)) maN)) [2] finV))
    (mRet (mL refO (maC (mV 1) (maC (mC (.int 0)) (maC (mC (.int 0)) (maC (m2 addO (mC (.int 83)) (m2 mulO (mC (.int 5)) (mL lenO (maC (mV 1) maN)))) (maC (mC (.int 0)) maN))))))))
noncomputable def m_law_draw : List D → DS → Ou D := defM 2 5
    (mSeq (mIfS (mAnd (mT (m2 eqO (m2 ixO (mV 0) (mC (.int 2))) (mC (.int 0)))) (mT (m2 ltO (m2 ixO (mV 0) (mC (.int 1))) (mL lenO (maC (m2 ixO (mV 0) (mC (.int 0))) maN)))))
    (mSeq (mSet 3 (m2 ixO (m2 ixO (mV 0) (mC (.int 0))) (m2 ixO (mV 0) (mC (.int 1)))))
    (mSeq (mAsg (gSubM (mV 0) (mC (.int 1)) setO) (m2 addO (m2 ixO (mV 0) (mC (.int 1))) (mC (.int 1))))
    (mSeq (mAsg (gSubM (mV 0) (mC (.int 3)) setO) (m2 modO (mL intO (maC (m2 addO (m2 addO (m2 mulO (m2 ixO (mV 0) (mC (.int 3))) (mC (.int 69621))) (m2 mulO (mV 3) (mC (.int 40692)))) (mC (.int 17))) maN)) (mC (.int 2147483629))))
    (mIfS (mT (m2 geO (mV 3) (m2 powO (mC (.int 10)) (mC (.int 18)))))
    (mAsg (gSubM (mV 0) (mC (.int 2)) setO) (mV 3))
    mNx))))
    mNx)
    (mSeq (mIfS (mT (m2 gtO (m2 ixO (mV 0) (mC (.int 2))) (mC (.int 0))))
    (mSeq (mSet 4 (m2 modO (mL intO (maC (m2 ixO (mV 0) (mC (.int 2))) maN)) (mV 1)))
    (mSeq (mAsg (gSubM (mV 0) (mC (.int 2)) setO) (m2 fdivO (m2 ixO (mV 0) (mC (.int 2))) (mV 1)))
    (mRet (mV 4))))
    mNx)
    (mSeq (mAsg (gSubM (mV 0) (mC (.int 4)) setO) (m2 addO (m2 ixO (mV 0) (mC (.int 4))) (mC (.int 1))))
    (mSeq (mSet 2 (m2 modO (mL intO (maC (m2 mulO (mL intO (maC (m2 addO (m2 ixO (mV 0) (mC (.int 3))) (m2 mulO (mC (.int 7919)) (m2 ixO (mV 0) (mC (.int 4))))) maN)) (mC (.int 48271))) maN)) (mC (.int 2147483647))))
    (mSeq (mSet 2 (m2 modO (mL intO (maC (m2 mulO (mV 2) (m2 addO (m2 fdivO (mV 2) (mC (.int 1009))) (mC (.int 69621)))) maN)) (mC (.int 2147483647))))
    (mSeq (mSet 2 (m2 modO (mL intO (maC (m2 mulO (mV 2) (m2 addO (m2 fdivO (mV 2) (mC (.int 2003))) (mC (.int 40014)))) maN)) (mC (.int 2147483563))))
    (mRet (m2 modO (mL intO (maC (m2 fdivO (mV 2) (mC (.int 16))) maN)) (mV 1)))))))))
noncomputable def m_law_any : List D → DS → Ou D := defM 2 2
    (mRet (m2 ixO (mV 1) (mL m_law_draw (maC (mV 0) (maC (mL lenO (maC (mV 1) maN)) maN)))))
noncomputable def m_law_low : List D → DS → Ou D := defM 2 4
    (mSeq (mPar 2 3 (maC (mL absO (maC (mV 0) maN)) (maC (mL absO (maC (mV 1) maN)) maN)))
    (mSeq (mWhile (mT (m2 neO (mV 3) (mC (.int 0))))
    (mPar 2 3 (maC (mV 3) (maC (m2 modO (mL intO (maC (mV 2) maN)) (mV 3)) maN))))
    (mRet (mIf (mT (m2 gtO (mV 1) (mC (.int 0)))) (mL tupO (maC (m2 fdivO (mV 0) (mV 2)) (maC (m2 fdivO (mV 1) (mV 2)) maN))) (mL tupO (maC (m2 subO (mC (.int 0)) (m2 fdivO (mV 0) (mV 2))) (maC (m2 subO (mC (.int 0)) (m2 fdivO (mV 1) (mV 2))) maN)))))))
noncomputable def m_law_add : List D → DS → Ou D := defM 2 2
    (mRet (mL m_law_low (maC (m2 addO (m2 mulO (m2 ixO (mV 0) (mC (.int 0))) (m2 ixO (mV 1) (mC (.int 1)))) (m2 mulO (m2 ixO (mV 1) (mC (.int 0))) (m2 ixO (mV 0) (mC (.int 1))))) (maC (m2 mulO (m2 ixO (mV 0) (mC (.int 1))) (m2 ixO (mV 1) (mC (.int 1)))) maN))))
noncomputable def m_law_mul : List D → DS → Ou D := defM 2 2
    (mRet (mL m_law_low (maC (m2 mulO (m2 ixO (mV 0) (mC (.int 0))) (m2 ixO (mV 1) (mC (.int 0)))) (maC (m2 mulO (m2 ixO (mV 0) (mC (.int 1))) (m2 ixO (mV 1) (mC (.int 1)))) maN))))
noncomputable def m_law_over : List D → DS → Ou D := defM 2 2
    (mRet (mL m_law_low (maC (m2 mulO (m2 ixO (mV 0) (mC (.int 0))) (m2 ixO (mV 1) (mC (.int 1)))) (maC (m2 mulO (m2 ixO (mV 0) (mC (.int 1))) (m2 ixO (mV 1) (mC (.int 0)))) maN))))
noncomputable def m_law_sum : List D → DS → Ou D := defM 1 3
    (mSeq (mSet 1 (mL tupO (maC (mC (.int 0)) (maC (mC (.int 1)) maN))))
    (mSeq (mFor (mSeqI (mV 0)) (gN 2)
    (mSet 1 (mL m_law_add (maC (mV 1) (maC (mV 2) maN)))))
    (mRet (mV 1))))
noncomputable def m_law_dot : List D → DS → Ou D := defM 2 4
    (mRet (mL m_law_sum (maC (lcM (mArgI zipO (maC (mV 0) (maC (mV 1) maN))) (gT 2 (gsC (gN 2) (gsC (gN 3) gsN))) mYes (mL m_law_mul (maC (mV 2) (maC (mV 3) maN))) [2, 3] finV) maN)))
noncomputable def m_law_positive : List D → DS → Ou D := defM 1 2
    (mSeq (mSet 1 (m2 addO (mC (.int 1)) (mL m_law_any (maC (mV 0) (maC (mL lstO (maC (mC (.int 0)) (maC (mC (.int 0)) (maC (mC (.int 1)) (maC (mC (.int 2)) (maC (mC (.int 9)) (maC (mL m_law_draw (maC (mV 0) (maC (mC (.int 50)) maN))) maN))))))) maN)))))
    (mRet (mL m_law_low (maC (m2 addO (mC (.int 1)) (mL m_law_draw (maC (mV 0) (maC (m2 mulO (mC (.int 3)) (mV 1)) maN)))) (maC (mV 1) maN)))))
noncomputable def m_law_due : List D → DS → Ou D := defM 1 5
    (mSeq (mSet 1 (mL lenO (maC (mV 0) maN)))
    (mSeq (mFor (mArgI rng1O (maC (mV 1) maN)) (gN 2)
    (mFor (mArgI rng1O (maC (mV 1) maN)) (gN 3)
    (mFor (mArgI rng1O (maC (mV 1) maN)) (gN 4)
    (mIfS (mT (m2 neO (mL m_law_mul (maC (m2 ixO (m2 ixO (mV 0) (mV 2)) (mV 3)) (maC (m2 ixO (m2 ixO (mV 0) (mV 3)) (mV 4)) maN))) (m2 ixO (m2 ixO (mV 0) (mV 2)) (mV 4))))
    (mRet (mL tupO (maC (mC (.str "turn")) (maC (mV 2) (maC (mV 3) (maC (mV 4) maN))))))
    mNx))))
    (mRet (mL tupO (maC (mC (.str "levels")) (maC (m2 ixO (mV 0) (mC (.int 0))) maN))))))
noncomputable def m_law_of : List D → DS → Ou D := defM 1 3
    (mRet (mL tupleO (maC (lcM (mSeqI (mV 0)) (gN 1) mYes (mL tupleO (maC (lcM (mSeqI (mV 0)) (gN 2) mYes (mL m_law_over (maC (mV 2) (maC (mV 1) maN))) [2] finV) maN)) [1] finV) maN)))
noncomputable def m_law_is_told : List D → DS → Ou D := defM 1 3
    (mSeq (mPar 1 2 (maC (mL m_levels (maC (mV 0) maN)) (maC (mL m_law_due (maC (mV 0) maN)) maN)))
    (mSeq (mIfS (mOr (mT (m2 neO (mL reprO (maC (mV 1) maN)) (mL reprO (maC (mV 2) maN)))) (mT (m2 neO (mL reprO (maC (mL m_levels (maC (mV 0) maN)) maN)) (mL reprO (maC (mV 2) maN)))))
    (mRet (mC (.bl false)))
    mNx)
    (mRet (mOrV (m2 eqO (m2 ixO (mV 2) (mC (.int 0))) (mC (.str "turn"))) (mAndV (m2 eqO (mL m_law_of (maC (m2 ixO (mV 1) (mC (.int 1))) maN)) (mV 0)) (m2 eqO (m2 ixO (m2 ixO (mV 1) (mC (.int 1))) (mC (.int 0))) (mL tupO (maC (mC (.int 1)) (maC (mC (.int 1)) maN)))))))))
noncomputable def m_law_spoiled : List D → DS → Ou D := defM 2 6
    (mSeq (mPar 4 5 (maC (mL m_law_draw (maC (mV 0) (maC (mL lenO (maC (mV 1) maN)) maN))) (maC (mL m_law_draw (maC (mV 0) (maC (mL lenO (maC (mV 1) maN)) maN))) maN)))
    (mSeq (mSet 2 (mL m_law_any (maC (mV 0) (maC (mL lstO (maC (mL m_law_positive (maC (mV 0) maN)) (maC (mL m_law_over (maC (mL tupO (maC (mC (.int 1)) (maC (mC (.int 1)) maN))) (maC (m2 ixO (m2 ixO (mV 1) (mV 4)) (mV 5)) maN))) (maC (mL m_law_add (maC (m2 ixO (m2 ixO (mV 1) (mV 4)) (mV 5)) (maC (mL tupO (maC (mC (.int 1)) (maC (mC (.int 9)) maN))) maN))) maN)))) maN))))
    (mSeq (mSet 3 (m2 addO (m2 addO (mSl slO (m2 ixO (mV 1) (mV 4)) moN (moS (mV 5))) (mL tupO (maC (mV 2) maN))) (mSl slO (m2 ixO (mV 1) (mV 4)) (moS (m2 addO (mV 5) (mC (.int 1)))) moN)))
    (mRet (m2 addO (m2 addO (mSl slO (mV 1) moN (moS (mV 4))) (mL tupO (maC (mV 3) maN))) (mSl slO (mV 1) (moS (m2 addO (mV 4) (mC (.int 1)))) moN))))))
noncomputable def m_law_table : List D → DS → Ou D := defD 3 8
    (mSeq (mSet 3 (mL refO maN))
    (mSeq (mFor (mArgI rng1O (maC (mL lenO (maC (mV 0) maN)) maN)) (gN 4)
    (mSeq (mSet 5 (mL refO maN))
    (mSeq (mFor (mArgI rng1O (maC (mL lenO (maC (mV 0) maN)) maN)) (gN 6)
    (mSeq (mSet 7 (m2 ixO (mV 1) (mIf (mT (m2 eqO (mV 2) (mC (.str "old")))) (mV 4) (mIf (mT (m2 eqO (mV 2) (mC (.str "new")))) (mV 6) (mV 2)))))
    (mDo (mMeth .lst appendO (mV 5) (maC (mL m_law_over (maC (mL m_law_dot (maC (mV 7) (maC (m2 ixO (mV 0) (mV 6)) maN))) (maC (mL m_law_dot (maC (mV 7) (maC (m2 ixO (mV 0) (mV 4)) maN))) maN))) maN)))))
    (mDo (mMeth .lst appendO (mV 3) (maC (mL tupleO (maC (mV 5) maN)) maN))))))
    (mRet (mL tupleO (maC (mV 3) maN)))))
noncomputable def m_law_is_basket_right : List D → DS → Ou D := defD 1 15
    (mSeq (mAsg (gT 2 (gsC (gN 6) (gsC (gN 7) gsN))) (mL tupO (maC (m2 addO (mC (.int 1)) (mL m_law_draw (maC (mV 0) (maC (mL m_law_any (maC (mV 0) (maC (mL lstO (maC (mC (.int 3)) (maC (mC (.int 5)) (maC (mC (.int 12)) maN)))) maN))) maN)))) (maC (m2 addO (mC (.int 1)) (mL m_law_draw (maC (mV 0) (maC (mC (.int 6)) maN)))) maN))))
    (mSeq (mAsg (gT 2 (gsC (gN 8) (gsC (gN 9) gsN))) (mL tupO (maC (mL refO maN) (maC (mL refO maN) maN))))
    (mSeq (mFor (mArgI rng1O (maC (mV 6) maN)) (gN 1)
    (mSeq (mDo (mMeth .lst appendO (mV 8) (maC (mL tupleO (maC (lcM (mArgI rng1O (maC (mV 7) maN)) (gN 12) mYes (mL m_law_positive (maC (mV 0) maN)) [12] finV) maN)) maN)))
    (mDo (mMeth .lst appendO (mV 9) (maC (mL tupleO (maC (lcM (mArgI rng1O (maC (mV 7) maN)) (gN 12) mYes (mL m_law_positive (maC (mV 0) maN)) [12] finV) maN)) maN)))))
    (mSeq (mAsg (gT 3 (gsC (gN 8) (gsC (gN 9) (gsC (gN 1) gsN)))) (mL tupO (maC (mL tupleO (maC (mV 8) maN)) (maC (mL tupleO (maC (mV 9) maN)) (maC (mL m_law_draw (maC (mV 0) (maC (mV 6) maN))) maN)))))
    (mSeq (mSet 2 (mL refO maN))
    (mSeq (mFor (mSeqI (mL tupO (maC (mC (.str "old")) (maC (mC (.str "new")) (maC (mV 1) maN))))) (gN 3)
    (mSeq (mDo (mMeth .lst appendO (mV 2) (maC (mL m_basket_table (maC (mV 8) (maC (mV 9) (maC (mV 3) maN)))) maN)))
    (mIfS (mOr (mT (m2 neO (mL reprO (maC (m2 ixO (mV 2) (m1 negO (mC (.int 1)))) maN)) (mL reprO (maC (mL m_law_table (maC (mV 8) (maC (mV 9) (maC (mV 3) maN)))) maN)))) (mNot (mT (mL m_law_is_told (maC (m2 ixO (mV 2) (m1 negO (mC (.int 1)))) maN)))))
    (mRet (mC (.bl false)))
    mNx)))
    (mSeq (mSet 4 (lcM (mSeqI (mV 8)) (gN 10) mYes (mL m_law_dot (maC (m2 ixO (mV 9) (mV 1)) (maC (mV 10) maN))) [10] finV))
    (mSeq (mIfS (mT (m2 neO (mL m_levels (maC (m2 ixO (mV 2) (mC (.int 2))) maN)) (mL tupO (maC (mC (.str "levels")) (maC (mL tupleO (maC (lcM (mSeqI (mV 4)) (gN 13) mYes (mL m_law_over (maC (mV 13) (maC (m2 ixO (mV 4) (mC (.int 0))) maN))) [13] finV) maN)) maN)))))
    (mRet (mC (.bl false)))
    mNx)
    (mSeq (mIfS (mAnd (mT (m2 eqO (mV 7) (mC (.int 1)))) (mT (m2 neO (mL lstO (maC (m2 ixO (mL m_levels (maC (m2 ixO (mV 2) (mC (.int 0))) maN)) (mC (.int 0))) (maC (m2 ixO (mL m_levels (maC (m2 ixO (mV 2) (mC (.int 1))) maN)) (mC (.int 0))) maN))) (mL lstO (maC (mC (.str "levels")) (maC (mC (.str "levels")) maN))))))
    (mRet (mC (.bl false)))
    mNx)
    (mSeq (mSet 5 (mL tupleO (maC (lcM (mArgI rng1O (maC (mV 6) maN)) (gN 11) mYes (mL tupleO (maC (lcM (mArgI rng1O (maC (mV 6) maN)) (gN 14) mYes (mL m_law_over (maC (mL tupO (maC (mC (.int 1)) (maC (mC (.int 1)) maN))) (maC (m2 ixO (m2 ixO (m2 ixO (mV 2) (mC (.int 0))) (mV 14)) (mV 11)) maN))) [14] finV) maN)) [11] finV) maN)))
    (mRet (m2 eqO (m2 ixO (mV 2) (mC (.int 1))) (mV 5)))))))))))))
noncomputable def m_law : List D → DS → Ou D := defM 1 11
    (mSeq (mSet 1 (mL m_law_hand (maC (mV 0) maN)))
    (mSeq (mFor (mArgI rng1O (maC (mC (.int 4)) maN)) (gN 2)
    (mSeq (mSet 3 (m2 addO (mC (.int 1)) (mL m_law_draw (maC (mV 1) (maC (mL m_law_any (maC (mV 1) (maC (mL lstO (maC (mC (.int 3)) (maC (mC (.int 5)) (maC (mC (.int 12)) maN)))) maN))) maN)))))
    (mSeq (mSet 4 (m2 addO (mL tupO (maC (mL tupO (maC (mC (.int 1)) (maC (mC (.int 1)) maN))) maN)) (mL tupleO (maC (lcM (mArgI rng1O (maC (m2 subO (mV 3) (mC (.int 1))) maN)) (gN 9) mYes (mL m_law_positive (maC (mV 1) maN)) [9] finV) maN))))
    (mSeq (mSet 5 (mL m_law_of (maC (mV 4) maN)))
    (mSeq (mIfS (mOr (mT (m2 neO (mL m_levels (maC (mV 5) maN)) (mL tupO (maC (mC (.str "levels")) (maC (mV 4) maN))))) (mNot (mT (mL m_law_is_told (maC (mV 5) maN)))))
    (mRet (mC (.bl false)))
    mNx)
    (mSeq (mFor (mArgI rng1O (maC (mC (.int 3)) maN)) (gN 6)
    (mIfS (mNot (mT (mL m_law_is_told (maC (mL m_law_spoiled (maC (mV 1) (maC (mV 5) maN))) maN))))
    (mRet (mC (.bl false)))
    mNx))
    (mSeq (mSet 7 (mL tupleO (maC (lcM (mArgI rng1O (maC (mV 3) maN)) (gN 8) mYes (mL tupleO (maC (lcM (mArgI rng1O (maC (mV 3) maN)) (gN 10) mYes (mL m_law_positive (maC (mV 1) maN)) [10] finV) maN)) [8] finV) maN)))
    (mIfS (mOr (mNot (mT (mL m_law_is_told (maC (mV 7) maN)))) (mNot (mT (mL m_law_is_basket_right (maC (mV 1) maN)))))
    (mRet (mC (.bl false)))
    mNx))))))))
    (mRet (mC (.bl true)))))
/-! ### what the top has left -/
structure Fx (K : PySem.W.Frag) (mg : Str → Option Value) : Prop where
  n_abs : mg "abs" = none
  n_all : mg "all" = none
  n_bool : mg "bool" = none
  n_enumerate : mg "enumerate" = none
  n_int : mg "int" = none
  n_isinstance : mg "isinstance" = none
  n_len : mg "len" = none
  n_range : mg "range" = none
  n_repr : mg "repr" = none
  n_str : mg "str" = none
  n_tuple : mg "tuple" = none
  n_zip : mg "zip" = none
  c_ZERO : CAt K mg "ZERO" (.tup [(.int 0), (.int 1)])
  c_MOST_TABLE : CAt K mg "MOST_TABLE" (.int 12)
  c_TURN : CAt K mg "TURN" (.str "turn")
  c_LEVELS : CAt K mg "LEVELS" (.str "levels")
  c_MOST_GOODS : CAt K mg "MOST_GOODS" (.int 6)
  c_NEW : CAt K mg "NEW" (.str "new")
  c_OLD : CAt K mg "OLD" (.str "old")
  d_is_integer : DAt K mg "is_integer" "is_integer" s_is_integer ["thing"]
  d_is_within : DAt K mg "is_within" "is_within" s_is_within ["thing", "low", "high"]
  d_is_sized : DAt K mg "is_sized" "is_sized" s_is_sized ["thing", "low", "high"]
  d_common : DAt K mg "common" "common" s_common ["one", "other"]
  d_share : DAt K mg "share" "share" s_share ["top", "bottom"]
  d_is_share : DAt K mg "is_share" "is_share" s_is_share ["thing"]
  d_plus : DAt K mg "plus" "plus" s_plus ["one", "other"]
  d_times : DAt K mg "times" "times" s_times ["one", "other"]
  d_over : DAt K mg "over" "over" s_over ["one", "other"]
  d_summed : DAt K mg "summed" "summed" s_summed ["many"]
  d_dot : DAt K mg "dot" "dot" s_dot ["one", "other"]
  d_is_positive : DAt K mg "is_positive" "is_positive" s_is_positive ["thing"]
  d_is_grid : DAt K mg "is_grid" "is_grid" s_is_grid ["thing", "many"]
  d_levels : DAt K mg "levels" "levels" s_levels ["table"]
  d_is_rows : DAt K mg "is_rows" "is_rows" s_is_rows ["thing"]
  d_basket_table : DAt K mg "basket_table" "basket_table" s_basket_table ["prices", "baskets", "kind"]
  d__law_hand : DAt K mg "_law_hand" "_law_hand" s__law_hand ["script"]
  d__law_draw : DAt K mg "_law_draw" "_law_draw" s__law_draw ["hand", "many"]
  d__law_any : DAt K mg "_law_any" "_law_any" s__law_any ["hand", "some"]
  d__law_low : DAt K mg "_law_low" "_law_low" s__law_low ["top", "bottom"]
  d__law_add : DAt K mg "_law_add" "_law_add" s__law_add ["one", "other"]
  d__law_mul : DAt K mg "_law_mul" "_law_mul" s__law_mul ["one", "other"]
  d__law_over : DAt K mg "_law_over" "_law_over" s__law_over ["one", "other"]
  d__law_sum : DAt K mg "_law_sum" "_law_sum" s__law_sum ["some"]
  d__law_dot : DAt K mg "_law_dot" "_law_dot" s__law_dot ["row", "other"]
  d__law_positive : DAt K mg "_law_positive" "_law_positive" s__law_positive ["hand"]
  d__law_due : DAt K mg "_law_due" "_law_due" s__law_due ["table"]
  d__law_of : DAt K mg "_law_of" "_law_of" s__law_of ["heights"]
  d__law_is_told : DAt K mg "_law_is_told" "_law_is_told" s__law_is_told ["table"]
  d__law_spoiled : DAt K mg "_law_spoiled" "_law_spoiled" s__law_spoiled ["hand", "table"]
  d__law_table : DAt K mg "_law_table" "_law_table" s__law_table ["prices", "baskets", "kind"]
  d__law_is_basket_right : DAt K mg "_law_is_basket_right" "_law_is_basket_right" s__law_is_basket_right ["hand"]
  d_law : DAt K mg "law" "law" s_law ["script"]
section
variable {P : Program} {w : World} {K : PySem.W.Frag} {mg : Str → Option Value} {base : Heap} {cm : CM}
theorem ok_is_integer (G : Fx K mg) : FnC P w K mg base cm 1 "is_integer" m_is_integer := G.d_is_integer.okM sc_is_integer fun f cdv A outer s H E C =>
    (ss_one (s_ret (e_and (e_isi (by rfl) G.n_isinstance (by rfl) G.n_int PyProof.Rows.boot_int (e_var 0)) (e_one (e_not (e_isi (by rfl) G.n_isinstance (by rfl) G.n_bool PyProof.Rows.boot_bool (e_var 0)))))))
theorem ok_is_within (G : Fx K mg) : FnC P w K mg base cm 2 "is_within" m_is_within := G.d_is_within.okM sc_is_within fun f cdv A outer s H E C =>
    (ss_one (s_ret (e_and (e_call C (ok_is_integer G) (by decide) (by rfl) (a_cons (e_var 0) a_nil)) (e_one (e_chain o_le o_le (e_var 1) (e_var 0) (e_var 2))))))
theorem ok_is_sized (G : Fx K mg) : FnC P w K mg base cm 1 "is_sized" m_is_sized := G.d_is_sized.okM sc_is_sized fun f cdv A outer s H E C =>
    (ss_one (s_ret (e_and (e_isi (by rfl) G.n_isinstance (by rfl) G.n_tuple PyProof.Rows.boot_tuple (e_var 0)) (e_one (e_chain o_le o_le (e_var 1) (e_callB c_len (by rfl) G.n_len (by decide +kernel) (a_cons (e_var 0) a_nil)) (e_var 2))))))
theorem ok_common (G : Fx K mg) : FnC P w K mg base cm 1 "common" m_common := G.d_common.okM sc_common fun f cdv A outer s H E C =>
    (ss_cons (s_while C.po (t_cmp (o_ne C.un) (e_var 1) e_int)
    (ss_one (s_par C.calm C.nd (a_cons (e_var 1) (a_cons (e_op o_mod (e_var 0) (e_var 1)) a_nil)) (by rfl))))
    (ss_one (s_ret (e_callB c_abs (by rfl) G.n_abs (by decide +kernel) (a_cons (e_var 0) a_nil)))))
theorem ok_share (G : Fx K mg) : FnC P w K mg base cm 2 "share" m_share := G.d_share.okM sc_share fun f cdv A outer s H E C =>
    (ss_cons (s_set C.nd (e_call C (ok_common G) (by decide) (by rfl) (a_cons (e_var 0) (a_cons (e_var 1) a_nil))))
    (ss_cons (s_if (t_cmp o_lt (e_var 1) e_int)
    (ss_one (s_set C.nd (e_un u_neg (e_var 2))))
    ss_nil)
    (ss_one (s_ret (e_tup (a_cons (e_op o_fdiv (e_var 0) (e_var 2)) (a_cons (e_op o_fdiv (e_var 1) (e_var 2)) a_nil)))))))
theorem ok_is_share (G : Fx K mg) : FnC P w K mg base cm 2 "is_share" m_is_share := G.d_is_share.okM sc_is_share fun f cdv A outer s H E C =>
    (ss_cons (s_if (w_or (t_not (t_val (e_call C (ok_is_sized G) (by decide) (by rfl) (a_cons (e_var 0) (a_cons e_int (a_cons e_int a_nil)))))) (w_or (t_not (t_val (e_call C (ok_is_integer G) (by decide) (by rfl) (a_cons (e_ix i_seq (e_var 0) e_int) a_nil)))) (w_or1 (t_not (t_val (e_call C (ok_is_integer G) (by decide) (by rfl) (a_cons (e_ix i_seq (e_var 0) e_int) a_nil))))))).t
    (ss_one (s_ret e_bl))
    ss_nil)
    (ss_one (s_ret (e_and (e_cmp o_gt (e_ix i_seq (e_var 0) e_int) e_int) (e_one (e_cmp (o_eq C.un) (e_call C (ok_common G) (by decide) (by rfl) (a_cons (e_ix i_seq (e_var 0) e_int) (a_cons (e_ix i_seq (e_var 0) e_int) a_nil))) e_int))))))
theorem ok_plus (G : Fx K mg) : FnC P w K mg base cm 3 "plus" m_plus := G.d_plus.okM sc_plus fun f cdv A outer s H E C =>
    (ss_cons (s_if (t_cmp (o_eq C.un) (e_ix i_seq (e_var 0) e_int) (e_ix i_seq (e_var 1) e_int))
    (ss_one (s_ret (e_call C (ok_share G) (by decide) (by rfl) (a_cons (e_op o_add (e_ix i_seq (e_var 0) e_int) (e_ix i_seq (e_var 1) e_int)) (a_cons (e_ix i_seq (e_var 0) e_int) a_nil)))))
    ss_nil)
    (ss_one (s_ret (e_call C (ok_share G) (by decide) (by rfl) (a_cons (e_op o_add (e_op o_mul (e_ix i_seq (e_var 0) e_int) (e_ix i_seq (e_var 1) e_int)) (e_op o_mul (e_ix i_seq (e_var 1) e_int) (e_ix i_seq (e_var 0) e_int))) (a_cons (e_op o_mul (e_ix i_seq (e_var 0) e_int) (e_ix i_seq (e_var 1) e_int)) a_nil))))))
theorem ok_times (G : Fx K mg) : FnC P w K mg base cm 3 "times" m_times := G.d_times.okM sc_times fun f cdv A outer s H E C =>
    (ss_one (s_ret (e_call C (ok_share G) (by decide) (by rfl) (a_cons (e_op o_mul (e_ix i_seq (e_var 0) e_int) (e_ix i_seq (e_var 1) e_int)) (a_cons (e_op o_mul (e_ix i_seq (e_var 0) e_int) (e_ix i_seq (e_var 1) e_int)) a_nil)))))
theorem ok_over (G : Fx K mg) : FnC P w K mg base cm 3 "over" m_over := G.d_over.okM sc_over fun f cdv A outer s H E C =>
    (ss_one (s_ret (e_call C (ok_share G) (by decide) (by rfl) (a_cons (e_op o_mul (e_ix i_seq (e_var 0) e_int) (e_ix i_seq (e_var 1) e_int)) (a_cons (e_op o_mul (e_ix i_seq (e_var 0) e_int) (e_ix i_seq (e_var 1) e_int)) a_nil)))))
theorem ok_summed (G : Fx K mg) : FnC P w K mg base cm 4 "summed" m_summed := G.d_summed.okM sc_summed fun f cdv A outer s H E C =>
    (ss_cons (s_set C.nd (e_const (by rfl) G.c_ZERO))
    (ss_cons (s_for C.po C.calm (it_seq (e_var 0)) ((ga_name C.nd)).g
    (ss_one (s_set C.nd (e_call C (ok_plus G) (by decide) (by rfl) (a_cons (e_var 1) (a_cons (e_var 2) a_nil))))))
    (ss_one (s_ret (e_var 1)))))
theorem ok_dot (G : Fx K mg) : FnC P w K mg base cm 5 "dot" m_dot := G.d_dot.okM sc_dot fun f cdv A outer s H E C =>
    (ss_one (s_ret (e_call C (ok_summed G) (by decide) (by rfl) (a_cons (e_lc (own := [("first", 2), ("second", 3)]) C.calm C.nd (it_zip (by rfl) G.n_zip (a_cons (e_var 0) (a_cons (e_var 1) a_nil))) (blkOk_by (by kernel_rfl)) finV_ok (fun _ _ _ _ _ => (ga_tup (C.blk _ _ _ _ _).calm (gas_cons (ga_name (C.blk _ _ _ _ _).nd) (gas_cons (ga_name (C.blk _ _ _ _ _).nd) gas_nil)))) (fun _ _ _ _ _ => ts_nil) (fun _ _ _ _ _ => (e_call (C.blk _ _ _ _ _) (ok_times G) (by decide) (by rfl) (a_cons (e_var 2) (a_cons (e_var 3) a_nil))))) a_nil))))
theorem ok_is_positive (G : Fx K mg) : FnC P w K mg base cm 3 "is_positive" m_is_positive := G.d_is_positive.okM sc_is_positive fun f cdv A outer s H E C =>
    (ss_one (s_ret (e_and (e_call C (ok_is_share G) (by decide) (by rfl) (a_cons (e_var 0) a_nil)) (e_one (e_cmp o_gt (e_ix i_seq (e_var 0) e_int) e_int)))))
theorem ok_is_grid (G : Fx K mg) : FnC P w K mg base cm 4 "is_grid" m_is_grid := G.d_is_grid.okM sc_is_grid fun f cdv A outer s H E C =>
    (ss_one (s_ret (e_and (e_call C (ok_is_sized G) (by decide) (by rfl) (a_cons (e_var 0) (a_cons (e_var 1) (a_cons (e_var 1) a_nil)))) (e_one (e_callB (c_all C.calm) (by rfl) G.n_all (by decide +kernel) (a_cons (e_lc (own := [("part", 2)]) C.calm C.nd (it_seq (e_var 0)) (blkOk_by (by kernel_rfl)) finV_ok (fun _ _ _ _ _ => (ga_name (C.blk _ _ _ _ _).nd)) (fun _ _ _ _ _ => ts_nil) (fun _ _ _ _ _ => (e_call (C.blk _ _ _ _ _) (ok_is_positive G) (by decide) (by rfl) (a_cons (e_var 2) a_nil)))) a_nil))))))
theorem ok_levels (G : Fx K mg) : FnC P w K mg base cm 5 "levels" m_levels := G.d_levels.okM sc_levels fun f cdv A outer s H E C =>
    (ss_cons (s_if (w_or (t_not (t_val (e_call C (ok_is_sized G) (by decide) (by rfl) (a_cons (e_var 0) (a_cons e_int (a_cons (e_const (by rfl) G.c_MOST_TABLE) a_nil)))))) (w_or1 (t_not (t_val (e_callB (c_all C.calm) (by rfl) G.n_all (by decide +kernel) (a_cons (e_lc (own := [("line", 5)]) C.calm C.nd (it_seq (e_var 0)) (blkOk_by (by kernel_rfl)) finV_ok (fun _ _ _ _ _ => (ga_name (C.blk _ _ _ _ _).nd)) (fun _ _ _ _ _ => ts_nil) (fun _ _ _ _ _ => (e_call (C.blk _ _ _ _ _) (ok_is_grid G) (by decide) (by rfl) (a_cons (e_var 5) (a_cons (e_callB c_len (by rfl) G.n_len (by decide +kernel) (a_cons (e_var 0) a_nil)) a_nil))))) a_nil)))))).t
    (ss_one s_never)
    ss_nil)
    (ss_cons (s_set C.nd (e_callB c_len (by rfl) G.n_len (by decide +kernel) (a_cons (e_var 0) a_nil)))
    (ss_cons (s_for C.po C.calm (it_range1 (by rfl) G.n_range (a_cons (e_var 1) a_nil)) ((ga_name C.nd)).g
    (ss_one (s_for C.po C.calm (it_range1 (by rfl) G.n_range (a_cons (e_var 1) a_nil)) ((ga_name C.nd)).g
    (ss_one (s_for C.po C.calm (it_range1 (by rfl) G.n_range (a_cons (e_var 1) a_nil)) ((ga_name C.nd)).g
    (ss_one (s_if (t_cmp (o_ne C.un) (e_call C (ok_times G) (by decide) (by rfl) (a_cons (e_ix i_seq (e_ix i_seq (e_var 0) (e_var 2)) (e_var 3)) (a_cons (e_ix i_seq (e_ix i_seq (e_var 0) (e_var 3)) (e_var 4)) a_nil))) (e_ix i_seq (e_ix i_seq (e_var 0) (e_var 2)) (e_var 4)))
    (ss_one (s_ret (e_tup (a_cons (e_const (by rfl) G.c_TURN) (a_cons (e_var 2) (a_cons (e_var 3) (a_cons (e_var 4) a_nil)))))))
    ss_nil)))))))
    (ss_one (s_ret (e_tup (a_cons (e_const (by rfl) G.c_LEVELS) (a_cons (e_ix i_seq (e_var 0) e_int) a_nil))))))))
theorem ok_is_rows (G : Fx K mg) : FnC P w K mg base cm 5 "is_rows" m_is_rows := G.d_is_rows.okM sc_is_rows fun f cdv A outer s H E C =>
    (ss_cons (s_if (w_or (t_not (t_val (e_call C (ok_is_sized G) (by decide) (by rfl) (a_cons (e_var 0) (a_cons e_int (a_cons (e_const (by rfl) G.c_MOST_TABLE) a_nil)))))) (w_or1 (t_not (t_val (e_call C (ok_is_sized G) (by decide) (by rfl) (a_cons (e_ix i_seq (e_var 0) e_int) (a_cons e_int (a_cons (e_const (by rfl) G.c_MOST_GOODS) a_nil)))))))).t
    (ss_one (s_ret e_bl))
    ss_nil)
    (ss_one (s_ret (e_callB (c_all C.calm) (by rfl) G.n_all (by decide +kernel) (a_cons (e_lc (own := [("line", 1)]) C.calm C.nd (it_seq (e_var 0)) (blkOk_by (by kernel_rfl)) finV_ok (fun _ _ _ _ _ => (ga_name (C.blk _ _ _ _ _).nd)) (fun _ _ _ _ _ => ts_nil) (fun _ _ _ _ _ => (e_call (C.blk _ _ _ _ _) (ok_is_grid G) (by decide) (by rfl) (a_cons (e_var 1) (a_cons (e_callB c_len (by rfl) G.n_len (by decide +kernel) (a_cons (e_ix i_seq (e_var 0) e_int) a_nil)) a_nil))))) a_nil)))))
theorem ok_basket_table (G : Fx K mg) : FnC P w K mg base cm 6 "basket_table" m_basket_table := G.d_basket_table.okD sc_basket_table fun f cdv A outer s H E C =>
    (ss_cons (s_if (t_not (t_val (e_call C (ok_is_rows G) (by decide) (by rfl) (a_cons (e_var 0) a_nil))))
    (ss_one s_never)
    ss_nil)
    (ss_cons (s_if (w_or (t_not (t_val (e_call C (ok_is_rows G) (by decide) (by rfl) (a_cons (e_var 1) a_nil)))) (w_or (t_cmp (o_ne C.un) (e_callB c_len (by rfl) G.n_len (by decide +kernel) (a_cons (e_var 1) a_nil)) (e_callB c_len (by rfl) G.n_len (by decide +kernel) (a_cons (e_var 0) a_nil))) (w_or1 (t_cmp (o_ne C.un) (e_callB c_len (by rfl) G.n_len (by decide +kernel) (a_cons (e_ix i_seq (e_var 1) e_int) a_nil)) (e_callB c_len (by rfl) G.n_len (by decide +kernel) (a_cons (e_ix i_seq (e_var 0) e_int) a_nil)))))).t
    (ss_one s_never)
    ss_nil)
    (ss_cons (s_if (w_and (t_not (t_val (e_call C (ok_is_within G) (by decide) (by rfl) (a_cons (e_var 2) (a_cons e_int (a_cons (e_op o_sub (e_callB c_len (by rfl) G.n_len (by decide +kernel) (a_cons (e_var 0) a_nil)) e_int) a_nil)))))) (w_and1 (t_not (w_and (t_val (e_isi (by rfl) G.n_isinstance (by rfl) G.n_str PyProof.Rows.boot_str (e_var 2))) (w_and1 (t_cmp (o_in C.un1) (e_var 2) (e_tup (a_cons (e_const (by rfl) G.c_OLD) (a_cons (e_const (by rfl) G.c_NEW) a_nil)))))).t))).t
    (ss_one s_never)
    ss_nil)
    (ss_cons (s_set C.nd (e_ref a_nil))
    (ss_cons (s_for C.po C.calm (it_enum (by rfl) G.n_enumerate (a_cons (e_var 0) a_nil)) ((ga_tup C.calm (gas_cons (ga_name C.nd) (gas_cons (ga_name C.nd) gas_nil)))).g
    (ss_cons (s_set C.nd (e_ref a_nil))
    (ss_cons (s_for C.po C.calm (it_enum (by rfl) G.n_enumerate (a_cons (e_var 0) a_nil)) ((ga_tup C.calm (gas_cons (ga_name C.nd) (gas_cons (ga_name C.nd) gas_nil)))).g
    (ss_cons (s_set C.nd (e_ix i_seq (e_var 1) (e_if (t_cmp (o_eq C.un) (e_var 2) (e_const (by rfl) G.c_OLD)) (e_var 4) (e_if (t_cmp (o_eq C.un) (e_var 2) (e_const (by rfl) G.c_NEW)) (e_var 7) (e_var 2)))))
    (ss_one (s_do (e_meth .lst PySem.F.plainAttrs_list PySem.F.slot_list_append PySem.F.type_list_append mm_append (e_var 6) (a_cons (e_call C (ok_over G) (by decide) (by rfl) (a_cons (e_call C (ok_dot G) (by decide) (by rfl) (a_cons (e_var 9) (a_cons (e_var 8) a_nil))) (a_cons (e_call C (ok_dot G) (by decide) (by rfl) (a_cons (e_var 9) (a_cons (e_var 5) a_nil))) a_nil))) a_nil))))))
    (ss_one (s_do (e_meth .lst PySem.F.plainAttrs_list PySem.F.slot_list_append PySem.F.type_list_append mm_append (e_var 3) (a_cons (e_callTy c_tuple (by rfl) G.n_tuple (by decide +kernel) (a_cons (e_var 6) a_nil)) a_nil)))))))
    (ss_one (s_ret (e_callTy c_tuple (by rfl) G.n_tuple (by decide +kernel) (a_cons (e_var 3) a_nil)))))))))
theorem ok__law_hand (G : Fx K mg) : FnC P w K mg base cm 1 "_law_hand" m_law_hand := G.d__law_hand.okM sc__law_hand fun f cdv A outer s H E C =>
    (ss_cons (s_setLc (own := [("cell", 2)]) C.calm C.nd (sw_true rfl rfl rfl (by decide +kernel)) (it_seq (e_slice l_seq (e_var 0) p_none (p_some e_int))) (blkOk_by (by kernel_rfl)) finV_ok (fun _ _ _ _ _ => (ga_name (C.blk _ _ _ _ _).nd)) (fun _ _ _ _ _ => ts_nil) (fun _ _ _ _ _ => (e_callB c_abs (by rfl) G.n_abs (by decide +kernel) (a_cons (e_callTy c_int (by rfl) G.n_int (by decide +kernel) (a_cons (e_var 2) a_nil)) a_nil))))
    (ss_one (s_ret (e_ref (a_cons (e_var 1) (a_cons e_int (a_cons e_int (a_cons (e_op o_add e_int (e_op o_mul e_int (e_callB c_len (by rfl) G.n_len (by decide +kernel) (a_cons (e_var 1) a_nil)))) (a_cons e_int a_nil)))))))))
theorem ok__law_draw (G : Fx K mg) : FnC P w K mg base cm 1 "_law_draw" m_law_draw := G.d__law_draw.okM sc__law_draw fun f cdv A outer s H E C =>
    (ss_cons (s_if (w_and (t_cmp (o_eq C.un) (e_ix i_seq (e_var 0) e_int) e_int) (w_and1 (t_cmp o_lt (e_ix i_seq (e_var 0) e_int) (e_callB c_len (by rfl) G.n_len (by decide +kernel) (a_cons (e_ix i_seq (e_var 0) e_int) a_nil))))).t
    (ss_cons (s_set C.nd (e_ix i_seq (e_ix i_seq (e_var 0) e_int) (e_ix i_seq (e_var 0) e_int)))
    (ss_cons (s_asg (e_op o_add (e_ix i_seq (e_var 0) e_int) e_int) (g_sub (e_var 0) e_int))
    (ss_cons (s_asg (e_op o_mod (e_callTy c_int (by rfl) G.n_int (by decide +kernel) (a_cons (e_op o_add (e_op o_add (e_op o_mul (e_ix i_seq (e_var 0) e_int) e_int) (e_op o_mul (e_var 3) e_int)) e_int) a_nil)) e_int) (g_sub (e_var 0) e_int))
    (ss_one (s_if (t_cmp o_ge (e_var 3) (e_op o_pow e_int e_int))
    (ss_one (s_asg (e_var 3) (g_sub (e_var 0) e_int)))
    ss_nil)))))
    ss_nil)
    (ss_cons (s_if (t_cmp o_gt (e_ix i_seq (e_var 0) e_int) e_int)
    (ss_cons (s_set C.nd (e_op o_mod (e_callTy c_int (by rfl) G.n_int (by decide +kernel) (a_cons (e_ix i_seq (e_var 0) e_int) a_nil)) (e_var 1)))
    (ss_cons (s_asg (e_op o_fdiv (e_ix i_seq (e_var 0) e_int) (e_var 1)) (g_sub (e_var 0) e_int))
    (ss_one (s_ret (e_var 4)))))
    ss_nil)
    (ss_cons (s_asg (e_op o_add (e_ix i_seq (e_var 0) e_int) e_int) (g_sub (e_var 0) e_int))
    (ss_cons (s_set C.nd (e_op o_mod (e_callTy c_int (by rfl) G.n_int (by decide +kernel) (a_cons (e_op o_mul (e_callTy c_int (by rfl) G.n_int (by decide +kernel) (a_cons (e_op o_add (e_ix i_seq (e_var 0) e_int) (e_op o_mul e_int (e_ix i_seq (e_var 0) e_int))) a_nil)) e_int) a_nil)) e_int))
    (ss_cons (s_set C.nd (e_op o_mod (e_callTy c_int (by rfl) G.n_int (by decide +kernel) (a_cons (e_op o_mul (e_var 2) (e_op o_add (e_op o_fdiv (e_var 2) e_int) e_int)) a_nil)) e_int))
    (ss_cons (s_set C.nd (e_op o_mod (e_callTy c_int (by rfl) G.n_int (by decide +kernel) (a_cons (e_op o_mul (e_var 2) (e_op o_add (e_op o_fdiv (e_var 2) e_int) e_int)) a_nil)) e_int))
    (ss_one (s_ret (e_op o_mod (e_callTy c_int (by rfl) G.n_int (by decide +kernel) (a_cons (e_op o_fdiv (e_var 2) e_int) a_nil)) (e_var 1))))))))))
theorem ok__law_any (G : Fx K mg) : FnC P w K mg base cm 2 "_law_any" m_law_any := G.d__law_any.okM sc__law_any fun f cdv A outer s H E C =>
    (ss_one (s_ret (e_ix i_seq (e_var 1) (e_call C (ok__law_draw G) (by decide) (by rfl) (a_cons (e_var 0) (a_cons (e_callB c_len (by rfl) G.n_len (by decide +kernel) (a_cons (e_var 1) a_nil)) a_nil))))))
theorem ok__law_low (G : Fx K mg) : FnC P w K mg base cm 1 "_law_low" m_law_low := G.d__law_low.okM sc__law_low fun f cdv A outer s H E C =>
    (ss_cons (s_par C.calm C.nd (a_cons (e_callB c_abs (by rfl) G.n_abs (by decide +kernel) (a_cons (e_var 0) a_nil)) (a_cons (e_callB c_abs (by rfl) G.n_abs (by decide +kernel) (a_cons (e_var 1) a_nil)) a_nil)) (by rfl))
    (ss_cons (s_while C.po (t_cmp (o_ne C.un) (e_var 3) e_int)
    (ss_one (s_par C.calm C.nd (a_cons (e_var 3) (a_cons (e_op o_mod (e_callTy c_int (by rfl) G.n_int (by decide +kernel) (a_cons (e_var 2) a_nil)) (e_var 3)) a_nil)) (by rfl))))
    (ss_one (s_ret (e_if (t_cmp o_gt (e_var 1) e_int) (e_tup (a_cons (e_op o_fdiv (e_var 0) (e_var 2)) (a_cons (e_op o_fdiv (e_var 1) (e_var 2)) a_nil))) (e_tup (a_cons (e_op o_sub e_int (e_op o_fdiv (e_var 0) (e_var 2))) (a_cons (e_op o_sub e_int (e_op o_fdiv (e_var 1) (e_var 2))) a_nil))))))))
theorem ok__law_add (G : Fx K mg) : FnC P w K mg base cm 2 "_law_add" m_law_add := G.d__law_add.okM sc__law_add fun f cdv A outer s H E C =>
    (ss_one (s_ret (e_call C (ok__law_low G) (by decide) (by rfl) (a_cons (e_op o_add (e_op o_mul (e_ix i_seq (e_var 0) e_int) (e_ix i_seq (e_var 1) e_int)) (e_op o_mul (e_ix i_seq (e_var 1) e_int) (e_ix i_seq (e_var 0) e_int))) (a_cons (e_op o_mul (e_ix i_seq (e_var 0) e_int) (e_ix i_seq (e_var 1) e_int)) a_nil)))))
theorem ok__law_mul (G : Fx K mg) : FnC P w K mg base cm 2 "_law_mul" m_law_mul := G.d__law_mul.okM sc__law_mul fun f cdv A outer s H E C =>
    (ss_one (s_ret (e_call C (ok__law_low G) (by decide) (by rfl) (a_cons (e_op o_mul (e_ix i_seq (e_var 0) e_int) (e_ix i_seq (e_var 1) e_int)) (a_cons (e_op o_mul (e_ix i_seq (e_var 0) e_int) (e_ix i_seq (e_var 1) e_int)) a_nil)))))
theorem ok__law_over (G : Fx K mg) : FnC P w K mg base cm 2 "_law_over" m_law_over := G.d__law_over.okM sc__law_over fun f cdv A outer s H E C =>
    (ss_one (s_ret (e_call C (ok__law_low G) (by decide) (by rfl) (a_cons (e_op o_mul (e_ix i_seq (e_var 0) e_int) (e_ix i_seq (e_var 1) e_int)) (a_cons (e_op o_mul (e_ix i_seq (e_var 0) e_int) (e_ix i_seq (e_var 1) e_int)) a_nil)))))
theorem ok__law_sum (G : Fx K mg) : FnC P w K mg base cm 3 "_law_sum" m_law_sum := G.d__law_sum.okM sc__law_sum fun f cdv A outer s H E C =>
    (ss_cons (s_set C.nd (e_tup (a_cons e_int (a_cons e_int a_nil))))
    (ss_cons (s_for C.po C.calm (it_seq (e_var 0)) ((ga_name C.nd)).g
    (ss_one (s_set C.nd (e_call C (ok__law_add G) (by decide) (by rfl) (a_cons (e_var 1) (a_cons (e_var 2) a_nil))))))
    (ss_one (s_ret (e_var 1)))))
theorem ok__law_dot (G : Fx K mg) : FnC P w K mg base cm 4 "_law_dot" m_law_dot := G.d__law_dot.okM sc__law_dot fun f cdv A outer s H E C =>
    (ss_one (s_ret (e_call C (ok__law_sum G) (by decide) (by rfl) (a_cons (e_lc (own := [("one", 2), ("two", 3)]) C.calm C.nd (it_zip (by rfl) G.n_zip (a_cons (e_var 0) (a_cons (e_var 1) a_nil))) (blkOk_by (by kernel_rfl)) finV_ok (fun _ _ _ _ _ => (ga_tup (C.blk _ _ _ _ _).calm (gas_cons (ga_name (C.blk _ _ _ _ _).nd) (gas_cons (ga_name (C.blk _ _ _ _ _).nd) gas_nil)))) (fun _ _ _ _ _ => ts_nil) (fun _ _ _ _ _ => (e_call (C.blk _ _ _ _ _) (ok__law_mul G) (by decide) (by rfl) (a_cons (e_var 2) (a_cons (e_var 3) a_nil))))) a_nil))))
theorem ok__law_positive (G : Fx K mg) : FnC P w K mg base cm 3 "_law_positive" m_law_positive := G.d__law_positive.okM sc__law_positive fun f cdv A outer s H E C =>
    (ss_cons (s_set C.nd (e_op o_add e_int (e_call C (ok__law_any G) (by decide) (by rfl) (a_cons (e_var 0) (a_cons (e_lst (a_cons e_int (a_cons e_int (a_cons e_int (a_cons e_int (a_cons e_int (a_cons (e_call C (ok__law_draw G) (by decide) (by rfl) (a_cons (e_var 0) (a_cons e_int a_nil))) a_nil))))))) a_nil)))))
    (ss_one (s_ret (e_call C (ok__law_low G) (by decide) (by rfl) (a_cons (e_op o_add e_int (e_call C (ok__law_draw G) (by decide) (by rfl) (a_cons (e_var 0) (a_cons (e_op o_mul e_int (e_var 1)) a_nil)))) (a_cons (e_var 1) a_nil))))))
theorem ok__law_due (G : Fx K mg) : FnC P w K mg base cm 3 "_law_due" m_law_due := G.d__law_due.okM sc__law_due fun f cdv A outer s H E C =>
    (ss_cons (s_set C.nd (e_callB c_len (by rfl) G.n_len (by decide +kernel) (a_cons (e_var 0) a_nil)))
    (ss_cons (s_for C.po C.calm (it_range1 (by rfl) G.n_range (a_cons (e_var 1) a_nil)) ((ga_name C.nd)).g
    (ss_one (s_for C.po C.calm (it_range1 (by rfl) G.n_range (a_cons (e_var 1) a_nil)) ((ga_name C.nd)).g
    (ss_one (s_for C.po C.calm (it_range1 (by rfl) G.n_range (a_cons (e_var 1) a_nil)) ((ga_name C.nd)).g
    (ss_one (s_if (t_cmp (o_ne C.un) (e_call C (ok__law_mul G) (by decide) (by rfl) (a_cons (e_ix i_seq (e_ix i_seq (e_var 0) (e_var 2)) (e_var 3)) (a_cons (e_ix i_seq (e_ix i_seq (e_var 0) (e_var 3)) (e_var 4)) a_nil))) (e_ix i_seq (e_ix i_seq (e_var 0) (e_var 2)) (e_var 4)))
    (ss_one (s_ret (e_tup (a_cons e_str (a_cons (e_var 2) (a_cons (e_var 3) (a_cons (e_var 4) a_nil)))))))
    ss_nil)))))))
    (ss_one (s_ret (e_tup (a_cons e_str (a_cons (e_ix i_seq (e_var 0) e_int) a_nil)))))))
theorem ok__law_of (G : Fx K mg) : FnC P w K mg base cm 3 "_law_of" m_law_of := G.d__law_of.okM sc__law_of fun f cdv A outer s H E C =>
    (ss_one (s_ret (e_callTy c_tuple (by rfl) G.n_tuple (by decide +kernel) (a_cons (e_lc (own := [("one", 1)]) C.calm C.nd (it_seq (e_var 0)) (blkOk_by (by kernel_rfl)) finV_ok (fun _ _ _ _ _ => (ga_name (C.blk _ _ _ _ _).nd)) (fun _ _ _ _ _ => ts_nil) (fun _ _ _ _ _ => (e_callTy c_tuple (by rfl) G.n_tuple (by decide +kernel) (a_cons (e_lc (own := [("other", 2)]) (C.blk _ _ _ _ _).calm (C.blk _ _ _ _ _).nd (it_seq (e_var 0)) (blkOk_by (by kernel_rfl)) finV_ok (fun _ _ _ _ _ => (ga_name ((C.blk _ _ _ _ _).blk _ _ _ _ _).nd)) (fun _ _ _ _ _ => ts_nil) (fun _ _ _ _ _ => (e_call ((C.blk _ _ _ _ _).blk _ _ _ _ _) (ok__law_over G) (by decide) (by rfl) (a_cons (e_var 2) (a_cons (e_var 1) a_nil))))) a_nil)))) a_nil))))
theorem ok__law_is_told (G : Fx K mg) : FnC P w K mg base cm 6 "_law_is_told" m_law_is_told := G.d__law_is_told.okM sc__law_is_told fun f cdv A outer s H E C =>
    (ss_cons (s_par C.calm C.nd (a_cons (e_call C (ok_levels G) (by decide) (by rfl) (a_cons (e_var 0) a_nil)) (a_cons (e_call C (ok__law_due G) (by decide) (by rfl) (a_cons (e_var 0) a_nil)) a_nil)) (by rfl))
    (ss_cons (s_if (w_or (t_cmp (o_ne C.un) (e_callB (c_repr C.gd C.un1) (by rfl) G.n_repr (by decide +kernel) (a_cons (e_var 1) a_nil)) (e_callB (c_repr C.gd C.un1) (by rfl) G.n_repr (by decide +kernel) (a_cons (e_var 2) a_nil))) (w_or1 (t_cmp (o_ne C.un) (e_callB (c_repr C.gd C.un1) (by rfl) G.n_repr (by decide +kernel) (a_cons (e_call C (ok_levels G) (by decide) (by rfl) (a_cons (e_var 0) a_nil)) a_nil)) (e_callB (c_repr C.gd C.un1) (by rfl) G.n_repr (by decide +kernel) (a_cons (e_var 2) a_nil))))).t
    (ss_one (s_ret e_bl))
    ss_nil)
    (ss_one (s_ret (e_or (e_cmp (o_eq C.un) (e_ix i_seq (e_var 2) e_int) e_str) (e_one (e_and (e_cmp (o_eq C.un) (e_call C (ok__law_of G) (by decide) (by rfl) (a_cons (e_ix i_seq (e_var 1) e_int) a_nil)) (e_var 0)) (e_one (e_cmp (o_eq C.un) (e_ix i_seq (e_ix i_seq (e_var 1) e_int) e_int) (e_tup (a_cons e_int (a_cons e_int a_nil))))))))))))
theorem ok__law_spoiled (G : Fx K mg) : FnC P w K mg base cm 4 "_law_spoiled" m_law_spoiled := G.d__law_spoiled.okM sc__law_spoiled fun f cdv A outer s H E C =>
    (ss_cons (s_par C.calm C.nd (a_cons (e_call C (ok__law_draw G) (by decide) (by rfl) (a_cons (e_var 0) (a_cons (e_callB c_len (by rfl) G.n_len (by decide +kernel) (a_cons (e_var 1) a_nil)) a_nil))) (a_cons (e_call C (ok__law_draw G) (by decide) (by rfl) (a_cons (e_var 0) (a_cons (e_callB c_len (by rfl) G.n_len (by decide +kernel) (a_cons (e_var 1) a_nil)) a_nil))) a_nil)) (by rfl))
    (ss_cons (s_set C.nd (e_call C (ok__law_any G) (by decide) (by rfl) (a_cons (e_var 0) (a_cons (e_lst (a_cons (e_call C (ok__law_positive G) (by decide) (by rfl) (a_cons (e_var 0) a_nil)) (a_cons (e_call C (ok__law_over G) (by decide) (by rfl) (a_cons (e_tup (a_cons e_int (a_cons e_int a_nil))) (a_cons (e_ix i_seq (e_ix i_seq (e_var 1) (e_var 4)) (e_var 5)) a_nil))) (a_cons (e_call C (ok__law_add G) (by decide) (by rfl) (a_cons (e_ix i_seq (e_ix i_seq (e_var 1) (e_var 4)) (e_var 5)) (a_cons (e_tup (a_cons e_int (a_cons e_int a_nil))) a_nil))) a_nil)))) a_nil))))
    (ss_cons (s_set C.nd (e_op o_add (e_op o_add (e_slice l_seq (e_ix i_seq (e_var 1) (e_var 4)) p_none (p_some (e_var 5))) (e_tup (a_cons (e_var 2) a_nil))) (e_slice l_seq (e_ix i_seq (e_var 1) (e_var 4)) (p_some (e_op o_add (e_var 5) e_int)) p_none)))
    (ss_one (s_ret (e_op o_add (e_op o_add (e_slice l_seq (e_var 1) p_none (p_some (e_var 4))) (e_tup (a_cons (e_var 3) a_nil))) (e_slice l_seq (e_var 1) (p_some (e_op o_add (e_var 4) e_int)) p_none)))))))
theorem ok__law_table (G : Fx K mg) : FnC P w K mg base cm 5 "_law_table" m_law_table := G.d__law_table.okD sc__law_table fun f cdv A outer s H E C =>
    (ss_cons (s_set C.nd (e_ref a_nil))
    (ss_cons (s_for C.po C.calm (it_range1 (by rfl) G.n_range (a_cons (e_callB c_len (by rfl) G.n_len (by decide +kernel) (a_cons (e_var 0) a_nil)) a_nil)) ((ga_name C.nd)).g
    (ss_cons (s_set C.nd (e_ref a_nil))
    (ss_cons (s_for C.po C.calm (it_range1 (by rfl) G.n_range (a_cons (e_callB c_len (by rfl) G.n_len (by decide +kernel) (a_cons (e_var 0) a_nil)) a_nil)) ((ga_name C.nd)).g
    (ss_cons (s_set C.nd (e_ix i_seq (e_var 1) (e_if (t_cmp (o_eq C.un) (e_var 2) e_str) (e_var 4) (e_if (t_cmp (o_eq C.un) (e_var 2) e_str) (e_var 6) (e_var 2)))))
    (ss_one (s_do (e_meth .lst PySem.F.plainAttrs_list PySem.F.slot_list_append PySem.F.type_list_append mm_append (e_var 5) (a_cons (e_call C (ok__law_over G) (by decide) (by rfl) (a_cons (e_call C (ok__law_dot G) (by decide) (by rfl) (a_cons (e_var 7) (a_cons (e_ix i_seq (e_var 0) (e_var 6)) a_nil))) (a_cons (e_call C (ok__law_dot G) (by decide) (by rfl) (a_cons (e_var 7) (a_cons (e_ix i_seq (e_var 0) (e_var 4)) a_nil))) a_nil))) a_nil))))))
    (ss_one (s_do (e_meth .lst PySem.F.plainAttrs_list PySem.F.slot_list_append PySem.F.type_list_append mm_append (e_var 3) (a_cons (e_callTy c_tuple (by rfl) G.n_tuple (by decide +kernel) (a_cons (e_var 5) a_nil)) a_nil)))))))
    (ss_one (s_ret (e_callTy c_tuple (by rfl) G.n_tuple (by decide +kernel) (a_cons (e_var 3) a_nil))))))
theorem ok__law_is_basket_right (G : Fx K mg) : FnC P w K mg base cm 7 "_law_is_basket_right" m_law_is_basket_right := G.d__law_is_basket_right.okD sc__law_is_basket_right fun f cdv A outer s H E C =>
    (ss_cons (s_asg (e_tup (a_cons (e_op o_add e_int (e_call C (ok__law_draw G) (by decide) (by rfl) (a_cons (e_var 0) (a_cons (e_call C (ok__law_any G) (by decide) (by rfl) (a_cons (e_var 0) (a_cons (e_lst (a_cons e_int (a_cons e_int (a_cons e_int a_nil)))) a_nil))) a_nil)))) (a_cons (e_op o_add e_int (e_call C (ok__law_draw G) (by decide) (by rfl) (a_cons (e_var 0) (a_cons e_int a_nil)))) a_nil))) ((ga_tup C.calm (gas_cons (ga_name C.nd) (gas_cons (ga_name C.nd) gas_nil)))).g)
    (ss_cons (s_asg (e_tup (a_cons (e_ref a_nil) (a_cons (e_ref a_nil) a_nil))) ((ga_tup C.calm (gas_cons (ga_name C.nd) (gas_cons (ga_name C.nd) gas_nil)))).g)
    (ss_cons (s_for C.po C.calm (it_range1 (by rfl) G.n_range (a_cons (e_var 6) a_nil)) ((ga_name C.nd)).g
    (ss_cons (s_do (e_meth .lst PySem.F.plainAttrs_list PySem.F.slot_list_append PySem.F.type_list_append mm_append (e_var 8) (a_cons (e_callTy c_tuple (by rfl) G.n_tuple (by decide +kernel) (a_cons (e_lc (own := [("good", 12)]) C.calm C.nd (it_range1 (by rfl) G.n_range (a_cons (e_var 7) a_nil)) (blkOk_by (by kernel_rfl)) finV_ok (fun _ _ _ _ _ => (ga_name (C.blk _ _ _ _ _).nd)) (fun _ _ _ _ _ => ts_nil) (fun _ _ _ _ _ => (e_call (C.blk _ _ _ _ _) (ok__law_positive G) (by decide) (by rfl) (a_cons (e_var 0) a_nil)))) a_nil)) a_nil)))
    (ss_one (s_do (e_meth .lst PySem.F.plainAttrs_list PySem.F.slot_list_append PySem.F.type_list_append mm_append (e_var 9) (a_cons (e_callTy c_tuple (by rfl) G.n_tuple (by decide +kernel) (a_cons (e_lc (own := [("good", 12)]) C.calm C.nd (it_range1 (by rfl) G.n_range (a_cons (e_var 7) a_nil)) (blkOk_by (by kernel_rfl)) finV_ok (fun _ _ _ _ _ => (ga_name (C.blk _ _ _ _ _).nd)) (fun _ _ _ _ _ => ts_nil) (fun _ _ _ _ _ => (e_call (C.blk _ _ _ _ _) (ok__law_positive G) (by decide) (by rfl) (a_cons (e_var 0) a_nil)))) a_nil)) a_nil))))))
    (ss_cons (s_asg (e_tup (a_cons (e_callTy c_tuple (by rfl) G.n_tuple (by decide +kernel) (a_cons (e_var 8) a_nil)) (a_cons (e_callTy c_tuple (by rfl) G.n_tuple (by decide +kernel) (a_cons (e_var 9) a_nil)) (a_cons (e_call C (ok__law_draw G) (by decide) (by rfl) (a_cons (e_var 0) (a_cons (e_var 6) a_nil))) a_nil)))) ((ga_tup C.calm (gas_cons (ga_name C.nd) (gas_cons (ga_name C.nd) (gas_cons (ga_name C.nd) gas_nil))))).g)
    (ss_cons (s_set C.nd (e_ref a_nil))
    (ss_cons (s_for C.po C.calm (it_seq (e_tup (a_cons e_str (a_cons e_str (a_cons (e_var 1) a_nil))))) ((ga_name C.nd)).g
    (ss_cons (s_do (e_meth .lst PySem.F.plainAttrs_list PySem.F.slot_list_append PySem.F.type_list_append mm_append (e_var 2) (a_cons (e_call C (ok_basket_table G) (by decide) (by rfl) (a_cons (e_var 8) (a_cons (e_var 9) (a_cons (e_var 3) a_nil)))) a_nil)))
    (ss_one (s_if (w_or (t_cmp (o_ne C.un) (e_callB (c_repr C.gd C.un1) (by rfl) G.n_repr (by decide +kernel) (a_cons (e_ix i_seq (e_var 2) (e_un u_neg e_int)) a_nil)) (e_callB (c_repr C.gd C.un1) (by rfl) G.n_repr (by decide +kernel) (a_cons (e_call C (ok__law_table G) (by decide) (by rfl) (a_cons (e_var 8) (a_cons (e_var 9) (a_cons (e_var 3) a_nil)))) a_nil))) (w_or1 (t_not (t_val (e_call C (ok__law_is_told G) (by decide) (by rfl) (a_cons (e_ix i_seq (e_var 2) (e_un u_neg e_int)) a_nil)))))).t
    (ss_one (s_ret e_bl))
    ss_nil))))
    (ss_cons (s_set C.nd (e_lc (own := [("row", 10)]) C.calm C.nd (it_seq (e_var 8)) (blkOk_by (by kernel_rfl)) finV_ok (fun _ _ _ _ _ => (ga_name (C.blk _ _ _ _ _).nd)) (fun _ _ _ _ _ => ts_nil) (fun _ _ _ _ _ => (e_call (C.blk _ _ _ _ _) (ok__law_dot G) (by decide) (by rfl) (a_cons (e_ix i_seq (e_var 9) (e_var 1)) (a_cons (e_var 10) a_nil))))))
    (ss_cons (s_if (t_cmp (o_ne C.un) (e_call C (ok_levels G) (by decide) (by rfl) (a_cons (e_ix i_seq (e_var 2) e_int) a_nil)) (e_tup (a_cons e_str (a_cons (e_callTy c_tuple (by rfl) G.n_tuple (by decide +kernel) (a_cons (e_lc (own := [("one", 13)]) C.calm C.nd (it_seq (e_var 4)) (blkOk_by (by kernel_rfl)) finV_ok (fun _ _ _ _ _ => (ga_name (C.blk _ _ _ _ _).nd)) (fun _ _ _ _ _ => ts_nil) (fun _ _ _ _ _ => (e_call (C.blk _ _ _ _ _) (ok__law_over G) (by decide) (by rfl) (a_cons (e_var 13) (a_cons (e_ix i_seq (e_var 4) e_int) a_nil))))) a_nil)) a_nil))))
    (ss_one (s_ret e_bl))
    ss_nil)
    (ss_cons (s_if (w_and (t_cmp (o_eq C.un) (e_var 7) e_int) (w_and1 (t_cmp (o_ne C.un) (e_lst (a_cons (e_ix i_seq (e_call C (ok_levels G) (by decide) (by rfl) (a_cons (e_ix i_seq (e_var 2) e_int) a_nil)) e_int) (a_cons (e_ix i_seq (e_call C (ok_levels G) (by decide) (by rfl) (a_cons (e_ix i_seq (e_var 2) e_int) a_nil)) e_int) a_nil))) (e_lst (a_cons e_str (a_cons e_str a_nil)))))).t
    (ss_one (s_ret e_bl))
    ss_nil)
    (ss_cons (s_set C.nd (e_callTy c_tuple (by rfl) G.n_tuple (by decide +kernel) (a_cons (e_lc (own := [("i", 11)]) C.calm C.nd (it_range1 (by rfl) G.n_range (a_cons (e_var 6) a_nil)) (blkOk_by (by kernel_rfl)) finV_ok (fun _ _ _ _ _ => (ga_name (C.blk _ _ _ _ _).nd)) (fun _ _ _ _ _ => ts_nil) (fun _ _ _ _ _ => (e_callTy c_tuple (by rfl) G.n_tuple (by decide +kernel) (a_cons (e_lc (own := [("j", 14)]) (C.blk _ _ _ _ _).calm (C.blk _ _ _ _ _).nd (it_range1 (by rfl) G.n_range (a_cons (e_var 6) a_nil)) (blkOk_by (by kernel_rfl)) finV_ok (fun _ _ _ _ _ => (ga_name ((C.blk _ _ _ _ _).blk _ _ _ _ _).nd)) (fun _ _ _ _ _ => ts_nil) (fun _ _ _ _ _ => (e_call ((C.blk _ _ _ _ _).blk _ _ _ _ _) (ok__law_over G) (by decide) (by rfl) (a_cons (e_tup (a_cons e_int (a_cons e_int a_nil))) (a_cons (e_ix i_seq (e_ix i_seq (e_ix i_seq (e_var 2) e_int) (e_var 14)) (e_var 11)) a_nil))))) a_nil)))) a_nil)))
    (ss_one (s_ret (e_cmp (o_eq C.un) (e_ix i_seq (e_var 2) e_int) (e_var 5))))))))))))))
theorem ok_law (G : Fx K mg) {fa : Addr} (hm : mg "law" = some (.ref fa)) : LawF P w K mg cm 8 fa "script" m_law := G.d_law.lawM sc_law (fun base f cdv A outer s H E C =>
    (ss_cons (s_set C.nd (e_call C (ok__law_hand G) (by decide) (by rfl) (a_cons (e_var 0) a_nil)))
    (ss_cons (s_for C.po C.calm (it_range1 (by rfl) G.n_range (a_cons e_int a_nil)) ((ga_name C.nd)).g
    (ss_cons (s_set C.nd (e_op o_add e_int (e_call C (ok__law_draw G) (by decide) (by rfl) (a_cons (e_var 1) (a_cons (e_call C (ok__law_any G) (by decide) (by rfl) (a_cons (e_var 1) (a_cons (e_lst (a_cons e_int (a_cons e_int (a_cons e_int a_nil)))) a_nil))) a_nil)))))
    (ss_cons (s_set C.nd (e_op o_add (e_tup (a_cons (e_tup (a_cons e_int (a_cons e_int a_nil))) a_nil)) (e_callTy c_tuple (by rfl) G.n_tuple (by decide +kernel) (a_cons (e_lc (own := [("year", 9)]) C.calm C.nd (it_range1 (by rfl) G.n_range (a_cons (e_op o_sub (e_var 3) e_int) a_nil)) (blkOk_by (by kernel_rfl)) finV_ok (fun _ _ _ _ _ => (ga_name (C.blk _ _ _ _ _).nd)) (fun _ _ _ _ _ => ts_nil) (fun _ _ _ _ _ => (e_call (C.blk _ _ _ _ _) (ok__law_positive G) (by decide) (by rfl) (a_cons (e_var 1) a_nil)))) a_nil))))
    (ss_cons (s_set C.nd (e_call C (ok__law_of G) (by decide) (by rfl) (a_cons (e_var 4) a_nil)))
    (ss_cons (s_if (w_or (t_cmp (o_ne C.un) (e_call C (ok_levels G) (by decide) (by rfl) (a_cons (e_var 5) a_nil)) (e_tup (a_cons e_str (a_cons (e_var 4) a_nil)))) (w_or1 (t_not (t_val (e_call C (ok__law_is_told G) (by decide) (by rfl) (a_cons (e_var 5) a_nil)))))).t
    (ss_one (s_ret e_bl))
    ss_nil)
    (ss_cons (s_for C.po C.calm (it_range1 (by rfl) G.n_range (a_cons e_int a_nil)) ((ga_name C.nd)).g
    (ss_one (s_if (t_not (t_val (e_call C (ok__law_is_told G) (by decide) (by rfl) (a_cons (e_call C (ok__law_spoiled G) (by decide) (by rfl) (a_cons (e_var 1) (a_cons (e_var 5) a_nil))) a_nil))))
    (ss_one (s_ret e_bl))
    ss_nil)))
    (ss_cons (s_set C.nd (e_callTy c_tuple (by rfl) G.n_tuple (by decide +kernel) (a_cons (e_lc (own := [("i", 8)]) C.calm C.nd (it_range1 (by rfl) G.n_range (a_cons (e_var 3) a_nil)) (blkOk_by (by kernel_rfl)) finV_ok (fun _ _ _ _ _ => (ga_name (C.blk _ _ _ _ _).nd)) (fun _ _ _ _ _ => ts_nil) (fun _ _ _ _ _ => (e_callTy c_tuple (by rfl) G.n_tuple (by decide +kernel) (a_cons (e_lc (own := [("j", 10)]) (C.blk _ _ _ _ _).calm (C.blk _ _ _ _ _).nd (it_range1 (by rfl) G.n_range (a_cons (e_var 3) a_nil)) (blkOk_by (by kernel_rfl)) finV_ok (fun _ _ _ _ _ => (ga_name ((C.blk _ _ _ _ _).blk _ _ _ _ _).nd)) (fun _ _ _ _ _ => ts_nil) (fun _ _ _ _ _ => (e_call ((C.blk _ _ _ _ _).blk _ _ _ _ _) (ok__law_positive G) (by decide) (by rfl) (a_cons (e_var 1) a_nil)))) a_nil)))) a_nil)))
    (ss_one (s_if (w_or (t_not (t_val (e_call C (ok__law_is_told G) (by decide) (by rfl) (a_cons (e_var 7) a_nil)))) (w_or1 (t_not (t_val (e_call C (ok__law_is_basket_right G) (by decide) (by rfl) (a_cons (e_var 1) a_nil)))))).t
    (ss_one (s_ret e_bl))
    ss_nil)))))))))
    (ss_one (s_ret e_bl))))) hm
end
/-! ### the facts, from the head -/
theorem fx_mk {K : PySem.W.Frag} {h : Heap} {mg : Str → Option Value} (X : K.In h) (G : h.Ns mainGlobals mg)
    {ca_ZERO : Addr} {co_ZERO : Option Addr} {ci_ZERO : List Value} {cn_ZERO : Nat} {cs_ZERO : Array (Option Value)}
    {ct_MOST_TABLE : Tok}
    {ct_TURN : Tok}
    {ct_LEVELS : Tok}
    {ct_MOST_GOODS : Tok}
    {ct_NEW : Tok}
    {ct_OLD : Tok}
    {f_is_integer : Addr} {od_is_integer an_is_integer : Option Addr} {sl_is_integer : Array (Option Value)} {oc_is_integer kV_is_integer dc_is_integer pm_is_integer cd_is_integer ct_is_integer : Value}
    {f_is_within : Addr} {od_is_within an_is_within : Option Addr} {sl_is_within : Array (Option Value)} {oc_is_within kV_is_within dc_is_within pm_is_within cd_is_within ct_is_within : Value}
    {f_is_sized : Addr} {od_is_sized an_is_sized : Option Addr} {sl_is_sized : Array (Option Value)} {oc_is_sized kV_is_sized dc_is_sized pm_is_sized cd_is_sized ct_is_sized : Value}
    {f_common : Addr} {od_common an_common : Option Addr} {sl_common : Array (Option Value)} {oc_common kV_common dc_common pm_common cd_common ct_common : Value}
    {f_share : Addr} {od_share an_share : Option Addr} {sl_share : Array (Option Value)} {oc_share kV_share dc_share pm_share cd_share ct_share : Value}
    {f_is_share : Addr} {od_is_share an_is_share : Option Addr} {sl_is_share : Array (Option Value)} {oc_is_share kV_is_share dc_is_share pm_is_share cd_is_share ct_is_share : Value}
    {f_plus : Addr} {od_plus an_plus : Option Addr} {sl_plus : Array (Option Value)} {oc_plus kV_plus dc_plus pm_plus cd_plus ct_plus : Value}
    {f_times : Addr} {od_times an_times : Option Addr} {sl_times : Array (Option Value)} {oc_times kV_times dc_times pm_times cd_times ct_times : Value}
    {f_over : Addr} {od_over an_over : Option Addr} {sl_over : Array (Option Value)} {oc_over kV_over dc_over pm_over cd_over ct_over : Value}
    {f_summed : Addr} {od_summed an_summed : Option Addr} {sl_summed : Array (Option Value)} {oc_summed kV_summed dc_summed pm_summed cd_summed ct_summed : Value}
    {f_dot : Addr} {od_dot an_dot : Option Addr} {sl_dot : Array (Option Value)} {oc_dot kV_dot dc_dot pm_dot cd_dot ct_dot : Value}
    {f_is_positive : Addr} {od_is_positive an_is_positive : Option Addr} {sl_is_positive : Array (Option Value)} {oc_is_positive kV_is_positive dc_is_positive pm_is_positive cd_is_positive ct_is_positive : Value}
    {f_is_grid : Addr} {od_is_grid an_is_grid : Option Addr} {sl_is_grid : Array (Option Value)} {oc_is_grid kV_is_grid dc_is_grid pm_is_grid cd_is_grid ct_is_grid : Value}
    {f_levels : Addr} {od_levels an_levels : Option Addr} {sl_levels : Array (Option Value)} {oc_levels kV_levels dc_levels pm_levels cd_levels ct_levels : Value}
    {f_is_rows : Addr} {od_is_rows an_is_rows : Option Addr} {sl_is_rows : Array (Option Value)} {oc_is_rows kV_is_rows dc_is_rows pm_is_rows cd_is_rows ct_is_rows : Value}
    {f_basket_table : Addr} {od_basket_table an_basket_table : Option Addr} {sl_basket_table : Array (Option Value)} {oc_basket_table kV_basket_table dc_basket_table pm_basket_table cd_basket_table ct_basket_table : Value}
    {f__law_hand : Addr} {od__law_hand an__law_hand : Option Addr} {sl__law_hand : Array (Option Value)} {oc__law_hand kV__law_hand dc__law_hand pm__law_hand cd__law_hand ct__law_hand : Value}
    {f__law_draw : Addr} {od__law_draw an__law_draw : Option Addr} {sl__law_draw : Array (Option Value)} {oc__law_draw kV__law_draw dc__law_draw pm__law_draw cd__law_draw ct__law_draw : Value}
    {f__law_any : Addr} {od__law_any an__law_any : Option Addr} {sl__law_any : Array (Option Value)} {oc__law_any kV__law_any dc__law_any pm__law_any cd__law_any ct__law_any : Value}
    {f__law_low : Addr} {od__law_low an__law_low : Option Addr} {sl__law_low : Array (Option Value)} {oc__law_low kV__law_low dc__law_low pm__law_low cd__law_low ct__law_low : Value}
    {f__law_add : Addr} {od__law_add an__law_add : Option Addr} {sl__law_add : Array (Option Value)} {oc__law_add kV__law_add dc__law_add pm__law_add cd__law_add ct__law_add : Value}
    {f__law_mul : Addr} {od__law_mul an__law_mul : Option Addr} {sl__law_mul : Array (Option Value)} {oc__law_mul kV__law_mul dc__law_mul pm__law_mul cd__law_mul ct__law_mul : Value}
    {f__law_over : Addr} {od__law_over an__law_over : Option Addr} {sl__law_over : Array (Option Value)} {oc__law_over kV__law_over dc__law_over pm__law_over cd__law_over ct__law_over : Value}
    {f__law_sum : Addr} {od__law_sum an__law_sum : Option Addr} {sl__law_sum : Array (Option Value)} {oc__law_sum kV__law_sum dc__law_sum pm__law_sum cd__law_sum ct__law_sum : Value}
    {f__law_dot : Addr} {od__law_dot an__law_dot : Option Addr} {sl__law_dot : Array (Option Value)} {oc__law_dot kV__law_dot dc__law_dot pm__law_dot cd__law_dot ct__law_dot : Value}
    {f__law_positive : Addr} {od__law_positive an__law_positive : Option Addr} {sl__law_positive : Array (Option Value)} {oc__law_positive kV__law_positive dc__law_positive pm__law_positive cd__law_positive ct__law_positive : Value}
    {f__law_due : Addr} {od__law_due an__law_due : Option Addr} {sl__law_due : Array (Option Value)} {oc__law_due kV__law_due dc__law_due pm__law_due cd__law_due ct__law_due : Value}
    {f__law_of : Addr} {od__law_of an__law_of : Option Addr} {sl__law_of : Array (Option Value)} {oc__law_of kV__law_of dc__law_of pm__law_of cd__law_of ct__law_of : Value}
    {f__law_is_told : Addr} {od__law_is_told an__law_is_told : Option Addr} {sl__law_is_told : Array (Option Value)} {oc__law_is_told kV__law_is_told dc__law_is_told pm__law_is_told cd__law_is_told ct__law_is_told : Value}
    {f__law_spoiled : Addr} {od__law_spoiled an__law_spoiled : Option Addr} {sl__law_spoiled : Array (Option Value)} {oc__law_spoiled kV__law_spoiled dc__law_spoiled pm__law_spoiled cd__law_spoiled ct__law_spoiled : Value}
    {f__law_table : Addr} {od__law_table an__law_table : Option Addr} {sl__law_table : Array (Option Value)} {oc__law_table kV__law_table dc__law_table pm__law_table cd__law_table ct__law_table : Value}
    {f__law_is_basket_right : Addr} {od__law_is_basket_right an__law_is_basket_right : Option Addr} {sl__law_is_basket_right : Array (Option Value)} {oc__law_is_basket_right kV__law_is_basket_right dc__law_is_basket_right pm__law_is_basket_right cd__law_is_basket_right ct__law_is_basket_right : Value}
    {f_law : Addr} {od_law an_law : Option Addr} {sl_law : Array (Option Value)} {oc_law kV_law dc_law pm_law cd_law ct_law : Value}
    (z_abs : PySem.W.nsIn K mainGlobals "abs" = some none)
    (z_all : PySem.W.nsIn K mainGlobals "all" = some none)
    (z_bool : PySem.W.nsIn K mainGlobals "bool" = some none)
    (z_enumerate : PySem.W.nsIn K mainGlobals "enumerate" = some none)
    (z_int : PySem.W.nsIn K mainGlobals "int" = some none)
    (z_isinstance : PySem.W.nsIn K mainGlobals "isinstance" = some none)
    (z_len : PySem.W.nsIn K mainGlobals "len" = some none)
    (z_range : PySem.W.nsIn K mainGlobals "range" = some none)
    (z_repr : PySem.W.nsIn K mainGlobals "repr" = some none)
    (z_str : PySem.W.nsIn K mainGlobals "str" = some none)
    (z_tuple : PySem.W.nsIn K mainGlobals "tuple" = some none)
    (z_zip : PySem.W.nsIn K mainGlobals "zip" = some none)
    (ka_ZERO : PySem.W.nsIn K mainGlobals "ZERO" = some (some (.ref ca_ZERO))) (kl_ZERO : K.lookup ca_ZERO = some ⟨.type "tuple", co_ZERO, .seq ci_ZERO.toArray cn_ZERO, cs_ZERO⟩) (kv_ZERO : Vals [V.int 0, V.int 1] ci_ZERO)
    (ka_MOST_TABLE : PySem.W.nsIn K mainGlobals "MOST_TABLE" = some (some (.int 12 ct_MOST_TABLE)))
    (ka_TURN : PySem.W.nsIn K mainGlobals "TURN" = some (some (.str "turn" ct_TURN)))
    (ka_LEVELS : PySem.W.nsIn K mainGlobals "LEVELS" = some (some (.str "levels" ct_LEVELS)))
    (ka_MOST_GOODS : PySem.W.nsIn K mainGlobals "MOST_GOODS" = some (some (.int 6 ct_MOST_GOODS)))
    (ka_NEW : PySem.W.nsIn K mainGlobals "NEW" = some (some (.str "new" ct_NEW)))
    (ka_OLD : PySem.W.nsIn K mainGlobals "OLD" = some (some (.str "old" ct_OLD)))
    (a_is_integer : PySem.W.nsIn K mainGlobals "is_integer" = some (some (.ref f_is_integer))) (l_is_integer : K.lookup f_is_integer = some ⟨oc_is_integer, od_is_integer, .func (PySem.W.fnOf "is_integer" "is_integer" (defArgs s_is_integer) (defBody s_is_integer) (defScope s_is_integer) .none kV_is_integer dc_is_integer pm_is_integer an_is_integer cd_is_integer ct_is_integer), sl_is_integer⟩) (c_is_integer : PySem.W.codeIn K cd_is_integer "is_integer" = true) (k_is_integer : PySem.W.keepIn K (.ref f_is_integer) = true)
    (a_is_within : PySem.W.nsIn K mainGlobals "is_within" = some (some (.ref f_is_within))) (l_is_within : K.lookup f_is_within = some ⟨oc_is_within, od_is_within, .func (PySem.W.fnOf "is_within" "is_within" (defArgs s_is_within) (defBody s_is_within) (defScope s_is_within) .none kV_is_within dc_is_within pm_is_within an_is_within cd_is_within ct_is_within), sl_is_within⟩) (c_is_within : PySem.W.codeIn K cd_is_within "is_within" = true) (k_is_within : PySem.W.keepIn K (.ref f_is_within) = true)
    (a_is_sized : PySem.W.nsIn K mainGlobals "is_sized" = some (some (.ref f_is_sized))) (l_is_sized : K.lookup f_is_sized = some ⟨oc_is_sized, od_is_sized, .func (PySem.W.fnOf "is_sized" "is_sized" (defArgs s_is_sized) (defBody s_is_sized) (defScope s_is_sized) .none kV_is_sized dc_is_sized pm_is_sized an_is_sized cd_is_sized ct_is_sized), sl_is_sized⟩) (c_is_sized : PySem.W.codeIn K cd_is_sized "is_sized" = true) (k_is_sized : PySem.W.keepIn K (.ref f_is_sized) = true)
    (a_common : PySem.W.nsIn K mainGlobals "common" = some (some (.ref f_common))) (l_common : K.lookup f_common = some ⟨oc_common, od_common, .func (PySem.W.fnOf "common" "common" (defArgs s_common) (defBody s_common) (defScope s_common) .none kV_common dc_common pm_common an_common cd_common ct_common), sl_common⟩) (c_common : PySem.W.codeIn K cd_common "common" = true) (k_common : PySem.W.keepIn K (.ref f_common) = true)
    (a_share : PySem.W.nsIn K mainGlobals "share" = some (some (.ref f_share))) (l_share : K.lookup f_share = some ⟨oc_share, od_share, .func (PySem.W.fnOf "share" "share" (defArgs s_share) (defBody s_share) (defScope s_share) .none kV_share dc_share pm_share an_share cd_share ct_share), sl_share⟩) (c_share : PySem.W.codeIn K cd_share "share" = true) (k_share : PySem.W.keepIn K (.ref f_share) = true)
    (a_is_share : PySem.W.nsIn K mainGlobals "is_share" = some (some (.ref f_is_share))) (l_is_share : K.lookup f_is_share = some ⟨oc_is_share, od_is_share, .func (PySem.W.fnOf "is_share" "is_share" (defArgs s_is_share) (defBody s_is_share) (defScope s_is_share) .none kV_is_share dc_is_share pm_is_share an_is_share cd_is_share ct_is_share), sl_is_share⟩) (c_is_share : PySem.W.codeIn K cd_is_share "is_share" = true) (k_is_share : PySem.W.keepIn K (.ref f_is_share) = true)
    (a_plus : PySem.W.nsIn K mainGlobals "plus" = some (some (.ref f_plus))) (l_plus : K.lookup f_plus = some ⟨oc_plus, od_plus, .func (PySem.W.fnOf "plus" "plus" (defArgs s_plus) (defBody s_plus) (defScope s_plus) .none kV_plus dc_plus pm_plus an_plus cd_plus ct_plus), sl_plus⟩) (c_plus : PySem.W.codeIn K cd_plus "plus" = true) (k_plus : PySem.W.keepIn K (.ref f_plus) = true)
    (a_times : PySem.W.nsIn K mainGlobals "times" = some (some (.ref f_times))) (l_times : K.lookup f_times = some ⟨oc_times, od_times, .func (PySem.W.fnOf "times" "times" (defArgs s_times) (defBody s_times) (defScope s_times) .none kV_times dc_times pm_times an_times cd_times ct_times), sl_times⟩) (c_times : PySem.W.codeIn K cd_times "times" = true) (k_times : PySem.W.keepIn K (.ref f_times) = true)
    (a_over : PySem.W.nsIn K mainGlobals "over" = some (some (.ref f_over))) (l_over : K.lookup f_over = some ⟨oc_over, od_over, .func (PySem.W.fnOf "over" "over" (defArgs s_over) (defBody s_over) (defScope s_over) .none kV_over dc_over pm_over an_over cd_over ct_over), sl_over⟩) (c_over : PySem.W.codeIn K cd_over "over" = true) (k_over : PySem.W.keepIn K (.ref f_over) = true)
    (a_summed : PySem.W.nsIn K mainGlobals "summed" = some (some (.ref f_summed))) (l_summed : K.lookup f_summed = some ⟨oc_summed, od_summed, .func (PySem.W.fnOf "summed" "summed" (defArgs s_summed) (defBody s_summed) (defScope s_summed) .none kV_summed dc_summed pm_summed an_summed cd_summed ct_summed), sl_summed⟩) (c_summed : PySem.W.codeIn K cd_summed "summed" = true) (k_summed : PySem.W.keepIn K (.ref f_summed) = true)
    (a_dot : PySem.W.nsIn K mainGlobals "dot" = some (some (.ref f_dot))) (l_dot : K.lookup f_dot = some ⟨oc_dot, od_dot, .func (PySem.W.fnOf "dot" "dot" (defArgs s_dot) (defBody s_dot) (defScope s_dot) .none kV_dot dc_dot pm_dot an_dot cd_dot ct_dot), sl_dot⟩) (c_dot : PySem.W.codeIn K cd_dot "dot" = true) (k_dot : PySem.W.keepIn K (.ref f_dot) = true)
    (a_is_positive : PySem.W.nsIn K mainGlobals "is_positive" = some (some (.ref f_is_positive))) (l_is_positive : K.lookup f_is_positive = some ⟨oc_is_positive, od_is_positive, .func (PySem.W.fnOf "is_positive" "is_positive" (defArgs s_is_positive) (defBody s_is_positive) (defScope s_is_positive) .none kV_is_positive dc_is_positive pm_is_positive an_is_positive cd_is_positive ct_is_positive), sl_is_positive⟩) (c_is_positive : PySem.W.codeIn K cd_is_positive "is_positive" = true) (k_is_positive : PySem.W.keepIn K (.ref f_is_positive) = true)
    (a_is_grid : PySem.W.nsIn K mainGlobals "is_grid" = some (some (.ref f_is_grid))) (l_is_grid : K.lookup f_is_grid = some ⟨oc_is_grid, od_is_grid, .func (PySem.W.fnOf "is_grid" "is_grid" (defArgs s_is_grid) (defBody s_is_grid) (defScope s_is_grid) .none kV_is_grid dc_is_grid pm_is_grid an_is_grid cd_is_grid ct_is_grid), sl_is_grid⟩) (c_is_grid : PySem.W.codeIn K cd_is_grid "is_grid" = true) (k_is_grid : PySem.W.keepIn K (.ref f_is_grid) = true)
    (a_levels : PySem.W.nsIn K mainGlobals "levels" = some (some (.ref f_levels))) (l_levels : K.lookup f_levels = some ⟨oc_levels, od_levels, .func (PySem.W.fnOf "levels" "levels" (defArgs s_levels) (defBody s_levels) (defScope s_levels) .none kV_levels dc_levels pm_levels an_levels cd_levels ct_levels), sl_levels⟩) (c_levels : PySem.W.codeIn K cd_levels "levels" = true) (k_levels : PySem.W.keepIn K (.ref f_levels) = true)
    (a_is_rows : PySem.W.nsIn K mainGlobals "is_rows" = some (some (.ref f_is_rows))) (l_is_rows : K.lookup f_is_rows = some ⟨oc_is_rows, od_is_rows, .func (PySem.W.fnOf "is_rows" "is_rows" (defArgs s_is_rows) (defBody s_is_rows) (defScope s_is_rows) .none kV_is_rows dc_is_rows pm_is_rows an_is_rows cd_is_rows ct_is_rows), sl_is_rows⟩) (c_is_rows : PySem.W.codeIn K cd_is_rows "is_rows" = true) (k_is_rows : PySem.W.keepIn K (.ref f_is_rows) = true)
    (a_basket_table : PySem.W.nsIn K mainGlobals "basket_table" = some (some (.ref f_basket_table))) (l_basket_table : K.lookup f_basket_table = some ⟨oc_basket_table, od_basket_table, .func (PySem.W.fnOf "basket_table" "basket_table" (defArgs s_basket_table) (defBody s_basket_table) (defScope s_basket_table) .none kV_basket_table dc_basket_table pm_basket_table an_basket_table cd_basket_table ct_basket_table), sl_basket_table⟩) (c_basket_table : PySem.W.codeIn K cd_basket_table "basket_table" = true) (k_basket_table : PySem.W.keepIn K (.ref f_basket_table) = true)
    (a__law_hand : PySem.W.nsIn K mainGlobals "_law_hand" = some (some (.ref f__law_hand))) (l__law_hand : K.lookup f__law_hand = some ⟨oc__law_hand, od__law_hand, .func (PySem.W.fnOf "_law_hand" "_law_hand" (defArgs s__law_hand) (defBody s__law_hand) (defScope s__law_hand) .none kV__law_hand dc__law_hand pm__law_hand an__law_hand cd__law_hand ct__law_hand), sl__law_hand⟩) (c__law_hand : PySem.W.codeIn K cd__law_hand "_law_hand" = true) (k__law_hand : PySem.W.keepIn K (.ref f__law_hand) = true)
    (a__law_draw : PySem.W.nsIn K mainGlobals "_law_draw" = some (some (.ref f__law_draw))) (l__law_draw : K.lookup f__law_draw = some ⟨oc__law_draw, od__law_draw, .func (PySem.W.fnOf "_law_draw" "_law_draw" (defArgs s__law_draw) (defBody s__law_draw) (defScope s__law_draw) .none kV__law_draw dc__law_draw pm__law_draw an__law_draw cd__law_draw ct__law_draw), sl__law_draw⟩) (c__law_draw : PySem.W.codeIn K cd__law_draw "_law_draw" = true) (k__law_draw : PySem.W.keepIn K (.ref f__law_draw) = true)
    (a__law_any : PySem.W.nsIn K mainGlobals "_law_any" = some (some (.ref f__law_any))) (l__law_any : K.lookup f__law_any = some ⟨oc__law_any, od__law_any, .func (PySem.W.fnOf "_law_any" "_law_any" (defArgs s__law_any) (defBody s__law_any) (defScope s__law_any) .none kV__law_any dc__law_any pm__law_any an__law_any cd__law_any ct__law_any), sl__law_any⟩) (c__law_any : PySem.W.codeIn K cd__law_any "_law_any" = true) (k__law_any : PySem.W.keepIn K (.ref f__law_any) = true)
    (a__law_low : PySem.W.nsIn K mainGlobals "_law_low" = some (some (.ref f__law_low))) (l__law_low : K.lookup f__law_low = some ⟨oc__law_low, od__law_low, .func (PySem.W.fnOf "_law_low" "_law_low" (defArgs s__law_low) (defBody s__law_low) (defScope s__law_low) .none kV__law_low dc__law_low pm__law_low an__law_low cd__law_low ct__law_low), sl__law_low⟩) (c__law_low : PySem.W.codeIn K cd__law_low "_law_low" = true) (k__law_low : PySem.W.keepIn K (.ref f__law_low) = true)
    (a__law_add : PySem.W.nsIn K mainGlobals "_law_add" = some (some (.ref f__law_add))) (l__law_add : K.lookup f__law_add = some ⟨oc__law_add, od__law_add, .func (PySem.W.fnOf "_law_add" "_law_add" (defArgs s__law_add) (defBody s__law_add) (defScope s__law_add) .none kV__law_add dc__law_add pm__law_add an__law_add cd__law_add ct__law_add), sl__law_add⟩) (c__law_add : PySem.W.codeIn K cd__law_add "_law_add" = true) (k__law_add : PySem.W.keepIn K (.ref f__law_add) = true)
    (a__law_mul : PySem.W.nsIn K mainGlobals "_law_mul" = some (some (.ref f__law_mul))) (l__law_mul : K.lookup f__law_mul = some ⟨oc__law_mul, od__law_mul, .func (PySem.W.fnOf "_law_mul" "_law_mul" (defArgs s__law_mul) (defBody s__law_mul) (defScope s__law_mul) .none kV__law_mul dc__law_mul pm__law_mul an__law_mul cd__law_mul ct__law_mul), sl__law_mul⟩) (c__law_mul : PySem.W.codeIn K cd__law_mul "_law_mul" = true) (k__law_mul : PySem.W.keepIn K (.ref f__law_mul) = true)
    (a__law_over : PySem.W.nsIn K mainGlobals "_law_over" = some (some (.ref f__law_over))) (l__law_over : K.lookup f__law_over = some ⟨oc__law_over, od__law_over, .func (PySem.W.fnOf "_law_over" "_law_over" (defArgs s__law_over) (defBody s__law_over) (defScope s__law_over) .none kV__law_over dc__law_over pm__law_over an__law_over cd__law_over ct__law_over), sl__law_over⟩) (c__law_over : PySem.W.codeIn K cd__law_over "_law_over" = true) (k__law_over : PySem.W.keepIn K (.ref f__law_over) = true)
    (a__law_sum : PySem.W.nsIn K mainGlobals "_law_sum" = some (some (.ref f__law_sum))) (l__law_sum : K.lookup f__law_sum = some ⟨oc__law_sum, od__law_sum, .func (PySem.W.fnOf "_law_sum" "_law_sum" (defArgs s__law_sum) (defBody s__law_sum) (defScope s__law_sum) .none kV__law_sum dc__law_sum pm__law_sum an__law_sum cd__law_sum ct__law_sum), sl__law_sum⟩) (c__law_sum : PySem.W.codeIn K cd__law_sum "_law_sum" = true) (k__law_sum : PySem.W.keepIn K (.ref f__law_sum) = true)
    (a__law_dot : PySem.W.nsIn K mainGlobals "_law_dot" = some (some (.ref f__law_dot))) (l__law_dot : K.lookup f__law_dot = some ⟨oc__law_dot, od__law_dot, .func (PySem.W.fnOf "_law_dot" "_law_dot" (defArgs s__law_dot) (defBody s__law_dot) (defScope s__law_dot) .none kV__law_dot dc__law_dot pm__law_dot an__law_dot cd__law_dot ct__law_dot), sl__law_dot⟩) (c__law_dot : PySem.W.codeIn K cd__law_dot "_law_dot" = true) (k__law_dot : PySem.W.keepIn K (.ref f__law_dot) = true)
    (a__law_positive : PySem.W.nsIn K mainGlobals "_law_positive" = some (some (.ref f__law_positive))) (l__law_positive : K.lookup f__law_positive = some ⟨oc__law_positive, od__law_positive, .func (PySem.W.fnOf "_law_positive" "_law_positive" (defArgs s__law_positive) (defBody s__law_positive) (defScope s__law_positive) .none kV__law_positive dc__law_positive pm__law_positive an__law_positive cd__law_positive ct__law_positive), sl__law_positive⟩) (c__law_positive : PySem.W.codeIn K cd__law_positive "_law_positive" = true) (k__law_positive : PySem.W.keepIn K (.ref f__law_positive) = true)
    (a__law_due : PySem.W.nsIn K mainGlobals "_law_due" = some (some (.ref f__law_due))) (l__law_due : K.lookup f__law_due = some ⟨oc__law_due, od__law_due, .func (PySem.W.fnOf "_law_due" "_law_due" (defArgs s__law_due) (defBody s__law_due) (defScope s__law_due) .none kV__law_due dc__law_due pm__law_due an__law_due cd__law_due ct__law_due), sl__law_due⟩) (c__law_due : PySem.W.codeIn K cd__law_due "_law_due" = true) (k__law_due : PySem.W.keepIn K (.ref f__law_due) = true)
    (a__law_of : PySem.W.nsIn K mainGlobals "_law_of" = some (some (.ref f__law_of))) (l__law_of : K.lookup f__law_of = some ⟨oc__law_of, od__law_of, .func (PySem.W.fnOf "_law_of" "_law_of" (defArgs s__law_of) (defBody s__law_of) (defScope s__law_of) .none kV__law_of dc__law_of pm__law_of an__law_of cd__law_of ct__law_of), sl__law_of⟩) (c__law_of : PySem.W.codeIn K cd__law_of "_law_of" = true) (k__law_of : PySem.W.keepIn K (.ref f__law_of) = true)
    (a__law_is_told : PySem.W.nsIn K mainGlobals "_law_is_told" = some (some (.ref f__law_is_told))) (l__law_is_told : K.lookup f__law_is_told = some ⟨oc__law_is_told, od__law_is_told, .func (PySem.W.fnOf "_law_is_told" "_law_is_told" (defArgs s__law_is_told) (defBody s__law_is_told) (defScope s__law_is_told) .none kV__law_is_told dc__law_is_told pm__law_is_told an__law_is_told cd__law_is_told ct__law_is_told), sl__law_is_told⟩) (c__law_is_told : PySem.W.codeIn K cd__law_is_told "_law_is_told" = true) (k__law_is_told : PySem.W.keepIn K (.ref f__law_is_told) = true)
    (a__law_spoiled : PySem.W.nsIn K mainGlobals "_law_spoiled" = some (some (.ref f__law_spoiled))) (l__law_spoiled : K.lookup f__law_spoiled = some ⟨oc__law_spoiled, od__law_spoiled, .func (PySem.W.fnOf "_law_spoiled" "_law_spoiled" (defArgs s__law_spoiled) (defBody s__law_spoiled) (defScope s__law_spoiled) .none kV__law_spoiled dc__law_spoiled pm__law_spoiled an__law_spoiled cd__law_spoiled ct__law_spoiled), sl__law_spoiled⟩) (c__law_spoiled : PySem.W.codeIn K cd__law_spoiled "_law_spoiled" = true) (k__law_spoiled : PySem.W.keepIn K (.ref f__law_spoiled) = true)
    (a__law_table : PySem.W.nsIn K mainGlobals "_law_table" = some (some (.ref f__law_table))) (l__law_table : K.lookup f__law_table = some ⟨oc__law_table, od__law_table, .func (PySem.W.fnOf "_law_table" "_law_table" (defArgs s__law_table) (defBody s__law_table) (defScope s__law_table) .none kV__law_table dc__law_table pm__law_table an__law_table cd__law_table ct__law_table), sl__law_table⟩) (c__law_table : PySem.W.codeIn K cd__law_table "_law_table" = true) (k__law_table : PySem.W.keepIn K (.ref f__law_table) = true)
    (a__law_is_basket_right : PySem.W.nsIn K mainGlobals "_law_is_basket_right" = some (some (.ref f__law_is_basket_right))) (l__law_is_basket_right : K.lookup f__law_is_basket_right = some ⟨oc__law_is_basket_right, od__law_is_basket_right, .func (PySem.W.fnOf "_law_is_basket_right" "_law_is_basket_right" (defArgs s__law_is_basket_right) (defBody s__law_is_basket_right) (defScope s__law_is_basket_right) .none kV__law_is_basket_right dc__law_is_basket_right pm__law_is_basket_right an__law_is_basket_right cd__law_is_basket_right ct__law_is_basket_right), sl__law_is_basket_right⟩) (c__law_is_basket_right : PySem.W.codeIn K cd__law_is_basket_right "_law_is_basket_right" = true) (k__law_is_basket_right : PySem.W.keepIn K (.ref f__law_is_basket_right) = true)
    (a_law : PySem.W.nsIn K mainGlobals "law" = some (some (.ref f_law))) (l_law : K.lookup f_law = some ⟨oc_law, od_law, .func (PySem.W.fnOf "law" "law" (defArgs s_law) (defBody s_law) (defScope s_law) .none kV_law dc_law pm_law an_law cd_law ct_law), sl_law⟩) (c_law : PySem.W.codeIn K cd_law "law" = true) (k_law : PySem.W.keepIn K (.ref f_law) = true)
    : Fx K mg := ⟨PySem.W.mg_none_of X G z_abs,
    PySem.W.mg_none_of X G z_all,
    PySem.W.mg_none_of X G z_bool,
    PySem.W.mg_none_of X G z_enumerate,
    PySem.W.mg_none_of X G z_int,
    PySem.W.mg_none_of X G z_isinstance,
    PySem.W.mg_none_of X G z_len,
    PySem.W.mg_none_of X G z_range,
    PySem.W.mg_none_of X G z_repr,
    PySem.W.mg_none_of X G z_str,
    PySem.W.mg_none_of X G z_tuple,
    PySem.W.mg_none_of X G z_zip,
    CAt.tup (PySem.W.mg_of X G ka_ZERO) kl_ZERO kv_ZERO (reps_ints [0, 1]),
    CAt.int (PySem.W.mg_of X G ka_MOST_TABLE),
    CAt.str (PySem.W.mg_of X G ka_TURN),
    CAt.str (PySem.W.mg_of X G ka_LEVELS),
    CAt.int (PySem.W.mg_of X G ka_MOST_GOODS),
    CAt.str (PySem.W.mg_of X G ka_NEW),
    CAt.str (PySem.W.mg_of X G ka_OLD),
    DAt.mk (PySem.W.mg_of X G a_is_integer) k_is_integer (fun_mk l_is_integer c_is_integer k_is_integer) (fun _ _ _ _ _ _ us hl => match us, hl with | [_], _ => rfl),
    DAt.mk (PySem.W.mg_of X G a_is_within) k_is_within (fun_mk l_is_within c_is_within k_is_within) (fun _ _ _ _ _ _ us hl => match us, hl with | [_, _, _], _ => rfl),
    DAt.mk (PySem.W.mg_of X G a_is_sized) k_is_sized (fun_mk l_is_sized c_is_sized k_is_sized) (fun _ _ _ _ _ _ us hl => match us, hl with | [_, _, _], _ => rfl),
    DAt.mk (PySem.W.mg_of X G a_common) k_common (fun_mk l_common c_common k_common) (fun _ _ _ _ _ _ us hl => match us, hl with | [_, _], _ => rfl),
    DAt.mk (PySem.W.mg_of X G a_share) k_share (fun_mk l_share c_share k_share) (fun _ _ _ _ _ _ us hl => match us, hl with | [_, _], _ => rfl),
    DAt.mk (PySem.W.mg_of X G a_is_share) k_is_share (fun_mk l_is_share c_is_share k_is_share) (fun _ _ _ _ _ _ us hl => match us, hl with | [_], _ => rfl),
    DAt.mk (PySem.W.mg_of X G a_plus) k_plus (fun_mk l_plus c_plus k_plus) (fun _ _ _ _ _ _ us hl => match us, hl with | [_, _], _ => rfl),
    DAt.mk (PySem.W.mg_of X G a_times) k_times (fun_mk l_times c_times k_times) (fun _ _ _ _ _ _ us hl => match us, hl with | [_, _], _ => rfl),
    DAt.mk (PySem.W.mg_of X G a_over) k_over (fun_mk l_over c_over k_over) (fun _ _ _ _ _ _ us hl => match us, hl with | [_, _], _ => rfl),
    DAt.mk (PySem.W.mg_of X G a_summed) k_summed (fun_mk l_summed c_summed k_summed) (fun _ _ _ _ _ _ us hl => match us, hl with | [_], _ => rfl),
    DAt.mk (PySem.W.mg_of X G a_dot) k_dot (fun_mk l_dot c_dot k_dot) (fun _ _ _ _ _ _ us hl => match us, hl with | [_, _], _ => rfl),
    DAt.mk (PySem.W.mg_of X G a_is_positive) k_is_positive (fun_mk l_is_positive c_is_positive k_is_positive) (fun _ _ _ _ _ _ us hl => match us, hl with | [_], _ => rfl),
    DAt.mk (PySem.W.mg_of X G a_is_grid) k_is_grid (fun_mk l_is_grid c_is_grid k_is_grid) (fun _ _ _ _ _ _ us hl => match us, hl with | [_, _], _ => rfl),
    DAt.mk (PySem.W.mg_of X G a_levels) k_levels (fun_mk l_levels c_levels k_levels) (fun _ _ _ _ _ _ us hl => match us, hl with | [_], _ => rfl),
    DAt.mk (PySem.W.mg_of X G a_is_rows) k_is_rows (fun_mk l_is_rows c_is_rows k_is_rows) (fun _ _ _ _ _ _ us hl => match us, hl with | [_], _ => rfl),
    DAt.mk (PySem.W.mg_of X G a_basket_table) k_basket_table (fun_mk l_basket_table c_basket_table k_basket_table) (fun _ _ _ _ _ _ us hl => match us, hl with | [_, _, _], _ => rfl),
    DAt.mk (PySem.W.mg_of X G a__law_hand) k__law_hand (fun_mk l__law_hand c__law_hand k__law_hand) (fun _ _ _ _ _ _ us hl => match us, hl with | [_], _ => rfl),
    DAt.mk (PySem.W.mg_of X G a__law_draw) k__law_draw (fun_mk l__law_draw c__law_draw k__law_draw) (fun _ _ _ _ _ _ us hl => match us, hl with | [_, _], _ => rfl),
    DAt.mk (PySem.W.mg_of X G a__law_any) k__law_any (fun_mk l__law_any c__law_any k__law_any) (fun _ _ _ _ _ _ us hl => match us, hl with | [_, _], _ => rfl),
    DAt.mk (PySem.W.mg_of X G a__law_low) k__law_low (fun_mk l__law_low c__law_low k__law_low) (fun _ _ _ _ _ _ us hl => match us, hl with | [_, _], _ => rfl),
    DAt.mk (PySem.W.mg_of X G a__law_add) k__law_add (fun_mk l__law_add c__law_add k__law_add) (fun _ _ _ _ _ _ us hl => match us, hl with | [_, _], _ => rfl),
    DAt.mk (PySem.W.mg_of X G a__law_mul) k__law_mul (fun_mk l__law_mul c__law_mul k__law_mul) (fun _ _ _ _ _ _ us hl => match us, hl with | [_, _], _ => rfl),
    DAt.mk (PySem.W.mg_of X G a__law_over) k__law_over (fun_mk l__law_over c__law_over k__law_over) (fun _ _ _ _ _ _ us hl => match us, hl with | [_, _], _ => rfl),
    DAt.mk (PySem.W.mg_of X G a__law_sum) k__law_sum (fun_mk l__law_sum c__law_sum k__law_sum) (fun _ _ _ _ _ _ us hl => match us, hl with | [_], _ => rfl),
    DAt.mk (PySem.W.mg_of X G a__law_dot) k__law_dot (fun_mk l__law_dot c__law_dot k__law_dot) (fun _ _ _ _ _ _ us hl => match us, hl with | [_, _], _ => rfl),
    DAt.mk (PySem.W.mg_of X G a__law_positive) k__law_positive (fun_mk l__law_positive c__law_positive k__law_positive) (fun _ _ _ _ _ _ us hl => match us, hl with | [_], _ => rfl),
    DAt.mk (PySem.W.mg_of X G a__law_due) k__law_due (fun_mk l__law_due c__law_due k__law_due) (fun _ _ _ _ _ _ us hl => match us, hl with | [_], _ => rfl),
    DAt.mk (PySem.W.mg_of X G a__law_of) k__law_of (fun_mk l__law_of c__law_of k__law_of) (fun _ _ _ _ _ _ us hl => match us, hl with | [_], _ => rfl),
    DAt.mk (PySem.W.mg_of X G a__law_is_told) k__law_is_told (fun_mk l__law_is_told c__law_is_told k__law_is_told) (fun _ _ _ _ _ _ us hl => match us, hl with | [_], _ => rfl),
    DAt.mk (PySem.W.mg_of X G a__law_spoiled) k__law_spoiled (fun_mk l__law_spoiled c__law_spoiled k__law_spoiled) (fun _ _ _ _ _ _ us hl => match us, hl with | [_, _], _ => rfl),
    DAt.mk (PySem.W.mg_of X G a__law_table) k__law_table (fun_mk l__law_table c__law_table k__law_table) (fun _ _ _ _ _ _ us hl => match us, hl with | [_, _, _], _ => rfl),
    DAt.mk (PySem.W.mg_of X G a__law_is_basket_right) k__law_is_basket_right (fun_mk l__law_is_basket_right c__law_is_basket_right k__law_is_basket_right) (fun _ _ _ _ _ _ us hl => match us, hl with | [_], _ => rfl),
    DAt.mk (PySem.W.mg_of X G a_law) k_law (fun_mk l_law c_law k_law) (fun _ _ _ _ _ _ us hl => match us, hl with | [_], _ => rfl)⟩

end K85
namespace K85
open PySem PySem.Spec PyProof.Rows L2 DL

/-! ### fractions -/
theorem fdiv_small {i j : Int} (h : j.natAbs < 2 ^ 9000) : Builtin.divisionGoesByPylong i j = false := by
  unfold Builtin.divisionGoesByPylong
  have e : ¬ ((if (j == 0) = true then 0 else j.natAbs.log2 / 30 + 1) > 300) := by
    split
    · omega
    · rename_i h0
      have := (Nat.log2_lt (n := j.natAbs) (k := 9000) (by simpa using h0)).mpr h
      omega
  simp only [decide_eq_false e, Bool.false_and]
theorem fdivO_nat {a b : Nat} (S : DS) (h0 : 0 < b) (h : b < 2 ^ 9000) : fdivO (.int a) (.int b) S = .ok (.int ((a / b : Nat) : Int)) S := by
  have e : fdivO (.int a) (.int b) S = if (b : Int) ≠ 0 ∧ Builtin.divisionGoesByPylong a b = false then .ok (.int ((a : Int).fdiv b)) S else .no := rfl
  rw [e, if_pos ⟨by omega, fdiv_small (by simpa using h)⟩, Int.fdiv_eq_ediv_of_nonneg _ (by omega)]
  rfl
theorem fmod_nat (a b : Nat) : (a : Int).fmod b = ((a % b : Nat) : Int) := by
  rw [Int.fmod_eq_emod_of_nonneg _ (by omega)]
  rfl
theorem mul_nat {a b : Nat} (S : DS) (h : a < 2 ^ 9000) (h2 : b < 2 ^ 9000) : mulO (.int a) (.int b) S = .ok (.int ((a * b : Nat) : Int)) S := by
  have e : mulO (.int a) (.int b) S = if CMulA a b then .ok (.int ((a : Int) * b)) S else .no := rfl
  rw [e, if_pos]
  · rfl
  · refine .inr ?_
    have l : ∀ n : Nat, n < 2 ^ 9000 → n.log2 ≤ 9000 := fun n h => by
      by_cases h0 : n = 0
      · subst h0; decide
      · exact Nat.le_of_lt ((Nat.log2_lt h0).mpr h)
    have h3 := l a h
    have h4 := l b h2
    show (a : Int).natAbs.log2 + (b : Int).natAbs.log2 < 1000000
    simp only [Int.natAbs_natCast]
    omega
abbrev cW : MT := mT (m2 neO (mV 1) (mC (.int 0)))
abbrev cB : MS := mPar 0 1 (maC (mV 1) (maC (m2 modO (mV 0) (mV 1)) maN))
theorem common_loop (S : DS) : ∀ (b a : Nat), mWhile cW cB [some (.int a), some (.int b)] S = .ok (.nx, [some (.int (Nat.gcd a b : Nat)), some (.int 0)]) S := by
  intro b
  induction b using Nat.strongRecOn with
  | _ b ih =>
    intro a
    rw [mWhile_eq]
    by_cases h0 : b = 0
    · subst h0
      simp
    · have e : ((b : Int) = 0) = False := by simp [h0]
      have := ih (a % b) (Nat.mod_lt _ (by omega)) b
      simp [-Int.natCast_ediv, -Int.natCast_emod, e, h0, fmod_nat]
      rw [this]
      rw [Nat.gcd_comm a b, Nat.gcd_rec b a, Nat.gcd_comm (a % b) b]
theorem common_ok (a b : Nat) (S : DS) : m_common [.int a, .int b] S = .ok (.int (Nat.gcd a b : Nat)) S := by
  have := common_loop S b a
  simp only [m_common, defM_at]
  simp
  rw [this]
  simp [absO, show ¬ ((Nat.gcd a b : Nat) : Int) < 0 by omega]
def low (t b : Nat) : Nat × Nat := (t / Nat.gcd t b, b / Nat.gcd t b)
def enc (q : Nat × Nat) : D := .tup [.int (q.1 : Nat), .int (q.2 : Nat)]
theorem gcd_lt {t b : Nat} (h0 : 0 < b) (h : b < 2 ^ 9000) : 0 < Nat.gcd t b ∧ Nat.gcd t b < 2 ^ 9000 :=
  ⟨Nat.gcd_pos_of_pos_right t h0, Nat.lt_of_le_of_lt (Nat.gcd_le_right t h0) h⟩
theorem share_ok (t b : Nat) (S : DS) (h0 : 0 < b) (h : b < 2 ^ 9000) : m_share [.int t, .int b] S = .ok (enc (low t b)) S := by
  obtain ⟨g0, g1⟩ := gcd_lt (t := t) h0 h
  simp only [m_share, defM_at]
  have e : ¬ ((b : Int) < 0) := by omega
  simp [-Int.natCast_ediv, -Int.natCast_emod, common_ok, e, fdivO_nat S g0 g1, tupO, enc, low]
abbrev lW : MT := mT (m2 neO (mV 3) (mC (.int 0)))
abbrev lB : MS := mPar 2 3 (maC (mV 3) (maC (m2 modO (mL intO (maC (mV 2) maN)) (mV 3)) maN))
theorem low_loop (S : DS) (x y : Option D) : ∀ (b a : Nat), mWhile lW lB [x, y, some (.int a), some (.int b)] S = .ok (.nx, [x, y, some (.int (Nat.gcd a b : Nat)), some (.int 0)]) S := by
  intro b
  induction b using Nat.strongRecOn with
  | _ b ih =>
    intro a
    rw [mWhile_eq]
    by_cases h0 : b = 0
    · subst h0
      simp
    · have e : ((b : Int) = 0) = False := by simp [h0]
      have := ih (a % b) (Nat.mod_lt _ (by omega)) b
      simp [-Int.natCast_ediv, -Int.natCast_emod, e, h0, fmod_nat, intO]
      rw [this]
      rw [Nat.gcd_comm a b, Nat.gcd_rec b a, Nat.gcd_comm (a % b) b]
theorem low_ok (t b : Nat) (S : DS) (h0 : 0 < b) (h : b < 2 ^ 9000) : m_law_low [.int t, .int b] S = .ok (enc (low t b)) S := by
  obtain ⟨g0, g1⟩ := gcd_lt (t := t) h0 h
  simp only [m_law_low, defM_at]
  have e : ((0 : Int) < b) := by omega
  have e1 : ¬ ((t : Int) < 0) := by omega
  have e2 : ¬ ((b : Int) < 0) := by omega
  have := low_loop S (some (.int t)) (some (.int b)) b t
  simp [-Int.natCast_ediv, -Int.natCast_emod, absO, e1, e2, this, e, h0, fdivO_nat S g0 g1, tupO, enc, low]
/-! the fractions as rationals -/
def val (q : Nat × Nat) : Rat := mkRat (q.1 : Int) q.2
def mulQ (p q : Nat × Nat) := low (p.1 * q.1) (p.2 * q.2)
def overQ (p q : Nat × Nat) := low (p.1 * q.2) (p.2 * q.1)
def addQ (p q : Nat × Nat) := low (p.1 * q.2 + q.1 * p.2) (p.2 * q.2)
/-- in lowest terms, positive, below 2 ^ k -/
structure Rk (k : Nat) (q : Nat × Nat) : Prop where
  p1 : 0 < q.1
  p2 : 0 < q.2
  l1 : q.1 < 2 ^ k
  l2 : q.2 < 2 ^ k
  co : Nat.Coprime q.1 q.2
theorem Rk.mono {j k : Nat} {q : Nat × Nat} (h : Rk j q) (hk : j ≤ k) : Rk k q :=
  ⟨h.p1, h.p2, Nat.lt_of_lt_of_le h.l1 (Nat.pow_le_pow_right (by decide) hk), Nat.lt_of_lt_of_le h.l2 (Nat.pow_le_pow_right (by decide) hk), h.co⟩
theorem lowRk {k t b : Nat} (ht : 0 < t) (hb : 0 < b) (lt : t < 2 ^ k) (lb : b < 2 ^ k) : Rk k (low t b) := by
  have g := Nat.gcd_pos_of_pos_right t hb
  refine ⟨Nat.div_pos (Nat.gcd_le_left b ht) g, Nat.div_pos (Nat.gcd_le_right t hb) g, Nat.lt_of_le_of_lt (Nat.div_le_self _ _) lt, Nat.lt_of_le_of_lt (Nat.div_le_self _ _) lb, Nat.coprime_div_gcd_div_gcd g⟩
theorem val_low (t b : Nat) (hb : 0 < b) : val (low t b) = mkRat (t : Int) b := by
  have g := Nat.gcd_pos_of_pos_right t hb
  unfold val low
  rw [Rat.mkRat_eq_iff (by have := Nat.div_pos (Nat.gcd_le_right t hb) g; simp only; omega) (by omega)]
  have e1 : t / Nat.gcd t b * b = t * (b / Nat.gcd t b) := by
    obtain ⟨x, hx⟩ := Nat.gcd_dvd_left t b
    obtain ⟨y, hy⟩ := Nat.gcd_dvd_right t b
    have h1 : t / Nat.gcd t b = x := Nat.div_eq_of_eq_mul_right g hx
    have h2 : b / Nat.gcd t b = y := Nat.div_eq_of_eq_mul_right g hy
    rw [h1, h2]
    calc x * b = x * (Nat.gcd t b * y) := by rw [← hy]
      _ = (Nat.gcd t b * x) * y := by rw [Nat.mul_comm x, Nat.mul_assoc, Nat.mul_comm y x, ← Nat.mul_assoc]
      _ = t * y := by rw [← hx]
  exact_mod_cast e1
theorem val_inj {j k : Nat} {p q : Nat × Nat} (hp : Rk j p) (hq : Rk k q) (h : val p = val q) : p = q := by
  unfold val at h
  have h2 := hp.p2
  have h3 := hq.p2
  rw [Rat.mkRat_eq_iff (by omega) (by omega)] at h
  have e : p.1 * q.2 = q.1 * p.2 := by exact_mod_cast h
  have d1 : p.1 ∣ q.1 := hp.co.dvd_of_dvd_mul_right ⟨q.2, e.symm⟩
  have d2 : q.1 ∣ p.1 := hq.co.dvd_of_dvd_mul_right ⟨p.2, e⟩
  have e1 := Nat.dvd_antisymm d1 d2
  have e2 : p.2 = q.2 := by
    rw [e1] at e
    exact (Nat.eq_of_mul_eq_mul_left hq.p1 e).symm
  exact Prod.ext e1 e2
theorem val_ne {k : Nat} {q : Nat × Nat} (h : Rk k q) : val q ≠ 0 := by
  have h1 := h.p1
  have h2 := h.p2
  unfold val
  rw [Rat.mkRat_ne_zero (by omega)]
  omega
theorem val_mul {p q : Nat × Nat} (hp : 0 < p.2) (hq : 0 < q.2) : val (mulQ p q) = val p * val q := by
  unfold mulQ
  rw [val_low _ _ (Nat.mul_pos hp hq)]
  unfold val
  rw [Rat.mkRat_mul_mkRat]
  rfl
theorem val_add {p q : Nat × Nat} (hp : 0 < p.2) (hq : 0 < q.2) : val (addQ p q) = val p + val q := by
  unfold addQ
  rw [val_low _ _ (Nat.mul_pos hp hq)]
  unfold val
  rw [Rat.mkRat_add_mkRat _ _ (by omega) (by omega)]
  simp
theorem val_over {p q : Nat × Nat} (hp : 0 < p.2) (hq1 : 0 < q.1) (hq : 0 < q.2) : val (overQ p q) = val p / val q := by
  have e : val (overQ p q) * val q = val p := by
    unfold overQ
    rw [val_low _ _ (Nat.mul_pos hp hq1)]
    unfold val
    rw [Rat.mkRat_mul_mkRat, Rat.mkRat_eq_iff (by have := Nat.mul_pos (Nat.mul_pos hp hq1) hq; omega) (by omega)]
    have : p.1 * q.2 * q.1 * p.2 = p.1 * (p.2 * q.1 * q.2) := by grind
    exact_mod_cast this
  have h0 : val q ≠ 0 := by
    unfold val
    rw [Rat.mkRat_ne_zero (by omega)]
    omega
  grind
theorem val_one : val (1, 1) = 1 := by
  unfold val
  decide
theorem rk_one {k : Nat} (hk : 0 < k) : Rk k (1, 1) := by
  have : 2 ^ 1 ≤ 2 ^ k := Nat.pow_le_pow_right (by decide) hk
  exact ⟨by decide, by decide, by simp only; omega, by simp only; omega, by decide⟩
theorem mul_lt {a b j k : Nat} (h1 : a < 2 ^ j) (h2 : b < 2 ^ k) : a * b < 2 ^ (j + k) := by
  rw [Nat.pow_add]
  exact Nat.mul_lt_mul'' h1 h2
theorem mulRk {j k : Nat} {p q : Nat × Nat} (hp : Rk j p) (hq : Rk k q) : Rk (j + k) (mulQ p q) :=
  lowRk (Nat.mul_pos hp.p1 hq.p1) (Nat.mul_pos hp.p2 hq.p2) (mul_lt hp.l1 hq.l1) (mul_lt hp.l2 hq.l2)
theorem overRk {j k : Nat} {p q : Nat × Nat} (hp : Rk j p) (hq : Rk k q) : Rk (j + k) (overQ p q) :=
  lowRk (Nat.mul_pos hp.p1 hq.p2) (Nat.mul_pos hp.p2 hq.p1) (mul_lt hp.l1 hq.l2) (mul_lt hp.l2 hq.l1)
theorem sum_lt {a b k : Nat} (h1 : a < 2 ^ k) (h2 : b < 2 ^ k) : a + b < 2 ^ (k + 1) := by
  rw [Nat.pow_succ]; omega
theorem addRk {j k : Nat} {p q : Nat × Nat} (hp : p.2 < 2 ^ j ∧ p.1 < 2 ^ j ∧ 0 < p.2) (hq : Rk k q) : Rk (j + k + 1) (addQ p q) :=
  lowRk (Nat.lt_of_lt_of_le (Nat.mul_pos hq.p1 hp.2.2) (Nat.le_add_left _ _)) (Nat.mul_pos hp.2.2 hq.p2) (sum_lt (mul_lt hp.2.1 hq.l2) (by rw [Nat.add_comm]; exact mul_lt hq.l1 hp.1)) (Nat.lt_trans (mul_lt hp.1 hq.l2) (Nat.pow_lt_pow_right (by decide) (by omega)))
theorem addRk' {j k : Nat} {p q : Nat × Nat} (hp : Rk j p) (hq : Rk k q) : Rk (j + k + 1) (addQ p q) := addRk ⟨hp.l2, hp.l1, hp.p2⟩ hq
/-! the laws of fractions that the text leans on -/
theorem chain_over {k : Nat} {a b c : Nat × Nat} (ha : Rk k a) (hb : Rk k b) (hc : Rk k c) : mulQ (overQ b a) (overQ c b) = overQ c a := by
  refine val_inj (mulRk (overRk hb ha) (overRk hc hb)) (overRk hc ha) ?_
  rw [val_mul (overRk hb ha).p2 (overRk hc hb).p2, val_over hb.p2 ha.p1 ha.p2, val_over hc.p2 hb.p1 hb.p2, val_over hc.p2 ha.p1 ha.p2]
  have h1 := val_ne ha
  have h2 := val_ne hb
  grind
theorem over_one {k : Nat} {a : Nat × Nat} (ha : Rk k a) : overQ a (1, 1) = a := by
  refine val_inj (overRk ha (rk_one (k := 1) (by decide))) ha ?_
  rw [val_over ha.p2 (by decide) (by decide), val_one]
  grind
theorem one_over {k : Nat} {a b : Nat × Nat} (ha : Rk k a) (hb : Rk k b) : overQ (1, 1) (overQ a b) = overQ b a := by
  refine val_inj (overRk (rk_one (k := 1) (by decide)) (overRk ha hb)) (overRk hb ha) ?_
  rw [val_over (by decide) (overRk ha hb).p1 (overRk ha hb).p2, val_one, val_over ha.p2 hb.p1 hb.p2, val_over hb.p2 ha.p1 ha.p2]
  have h1 := val_ne ha
  have h2 := val_ne hb
  grind
theorem over_of_mul {k : Nat} {a b c : Nat × Nat} (ha : Rk k a) (hb : Rk k b) (hc : Rk k c) (h : mulQ a b = c) : overQ c a = b := by
  refine val_inj (overRk hc ha) hb ?_
  rw [val_over hc.p2 ha.p1 ha.p2, ← h, val_mul ha.p2 hb.p2]
  have h1 := val_ne ha
  grind
theorem one_of_sq {k : Nat} {a : Nat × Nat} (ha : Rk k a) (h : mulQ a a = a) : a = (1, 1) := by
  refine val_inj ha (rk_one (k := 1) (by decide)) ?_
  have e : val a * val a = val a := by rw [← val_mul ha.p2 ha.p2, h]
  have h1 := val_ne ha
  rw [val_one]
  grind
theorem zero_add {k : Nat} {a : Nat × Nat} (ha : Rk k a) : addQ (0, 1) a = a := by
  refine val_inj (addRk (j := 1) ⟨by decide, by decide, by decide⟩ ha) ha ?_
  rw [val_add (by decide) ha.p2]
  have : val (0, 1) = 0 := by unfold val; decide
  rw [this]
  grind
theorem over_mul {k : Nat} {a b c : Nat × Nat} (ha : Rk k a) (hb : Rk k b) (hc : Rk k c) : overQ (mulQ a b) (mulQ a c) = overQ b c := by
  refine val_inj (overRk (mulRk ha hb) (mulRk ha hc)) (overRk hb hc) ?_
  rw [val_over (mulRk ha hb).p2 (mulRk ha hc).p1 (mulRk ha hc).p2, val_mul ha.p2 hb.p2, val_mul ha.p2 hc.p2, val_over hb.p2 hc.p1 hc.p2]
  have h1 := val_ne ha
  have h2 := val_ne hc
  grind
/-! ### the defs on fractions -/
theorem getI_0 (x : D) (xs : List D) (S : DS) : getI (x :: xs) 0 S = .ok x S := getI_nat (by decide) rfl
theorem getI_1 (x y : D) (xs : List D) (S : DS) : getI (x :: y :: xs) 1 S = .ok y S := getI_nat (by decide) rfl
theorem getI_2 (x y z : D) (xs : List D) (S : DS) : getI (x :: y :: z :: xs) 2 S = .ok z S := getI_nat (by decide) rfl
theorem getI_3 (x y z u : D) (xs : List D) (S : DS) : getI (x :: y :: z :: u :: xs) 3 S = .ok u S := getI_nat (by decide) rfl
theorem getI_4 (x y z u v : D) (xs : List D) (S : DS) : getI (x :: y :: z :: u :: v :: xs) 4 S = .ok v S := getI_nat (by decide) rfl
theorem lt9 {n k : Nat} (h : n < 2 ^ k) (hk : k ≤ 9000) : n < 2 ^ 9000 := Nat.lt_of_lt_of_le h (Nat.pow_le_pow_right (by decide) hk)
section
variable {j k : Nat} {p q : Nat × Nat} (S : DS)
theorem times_ok (hp : Rk j p) (hq : Rk k q) (h : j + k ≤ 9000) : m_times [enc p, enc q] S = .ok (enc (mulQ p q)) S := by
  have s := share_ok (p.1 * q.1) (p.2 * q.2) S (Nat.mul_pos hp.p2 hq.p2) (lt9 (mul_lt hp.l2 hq.l2) h)
  have m1 := mul_nat S (lt9 hp.l1 (by omega)) (lt9 hq.l1 (by omega))
  have m2 := mul_nat S (lt9 hp.l2 (by omega)) (lt9 hq.l2 (by omega))
  simp only [m_times, defM_at]
  simp [-Int.natCast_mul, enc, getI_0, getI_1, m1, m2, s, mulQ]
theorem over_ok (hp : Rk j p) (hq : Rk k q) (h : j + k ≤ 9000) : m_over [enc p, enc q] S = .ok (enc (overQ p q)) S := by
  have s := share_ok (p.1 * q.2) (p.2 * q.1) S (Nat.mul_pos hp.p2 hq.p1) (lt9 (mul_lt hp.l2 hq.l1) h)
  have m1 := mul_nat S (lt9 hp.l1 (by omega)) (lt9 hq.l2 (by omega))
  have m2 := mul_nat S (lt9 hp.l2 (by omega)) (lt9 hq.l1 (by omega))
  simp only [m_over, defM_at]
  simp [-Int.natCast_mul, enc, getI_0, getI_1, m1, m2, s, overQ]
theorem lmul_ok (hp : Rk j p) (hq : Rk k q) (h : j + k ≤ 9000) : m_law_mul [enc p, enc q] S = .ok (enc (mulQ p q)) S := by
  have s := low_ok (p.1 * q.1) (p.2 * q.2) S (Nat.mul_pos hp.p2 hq.p2) (lt9 (mul_lt hp.l2 hq.l2) h)
  have m1 := mul_nat S (lt9 hp.l1 (by omega)) (lt9 hq.l1 (by omega))
  have m2 := mul_nat S (lt9 hp.l2 (by omega)) (lt9 hq.l2 (by omega))
  simp only [m_law_mul, defM_at]
  simp [-Int.natCast_mul, enc, getI_0, getI_1, m1, m2, s, mulQ]
theorem lover_ok (hp : Rk j p) (hq : Rk k q) (h : j + k ≤ 9000) : m_law_over [enc p, enc q] S = .ok (enc (overQ p q)) S := by
  have s := low_ok (p.1 * q.2) (p.2 * q.1) S (Nat.mul_pos hp.p2 hq.p1) (lt9 (mul_lt hp.l2 hq.l1) h)
  have m1 := mul_nat S (lt9 hp.l1 (by omega)) (lt9 hq.l2 (by omega))
  have m2 := mul_nat S (lt9 hp.l2 (by omega)) (lt9 hq.l1 (by omega))
  simp only [m_law_over, defM_at]
  simp [-Int.natCast_mul, enc, getI_0, getI_1, m1, m2, s, overQ]
/-- what a sum stands at -/
structure Zk (k : Nat) (q : Nat × Nat) : Prop where
  l2 : q.2 < 2 ^ k
  l1 : q.1 < 2 ^ k
  p2 : 0 < q.2
theorem Rk.z {k : Nat} {q : Nat × Nat} (h : Rk k q) : Zk k q := ⟨h.l2, h.l1, h.p2⟩
theorem low_scale (t b c : Nat) (hc : 0 < c) : low (t * c) (b * c) = low t b := by
  unfold low
  rw [Nat.gcd_mul_right, Nat.mul_div_mul_right _ _ hc, Nat.mul_div_mul_right _ _ hc]
theorem plus_ok (hp : Zk j p) (hq : Rk k q) (h : j + k ≤ 9000) : m_plus [enc p, enc q] S = .ok (enc (addQ p q)) S := by
  have s := share_ok (p.1 * q.2 + q.1 * p.2) (p.2 * q.2) S (Nat.mul_pos hp.p2 hq.p2) (lt9 (mul_lt hp.l2 hq.l2) h)
  have m1 := mul_nat S (lt9 hp.l1 (by omega)) (lt9 hq.l2 (by omega))
  have m2 := mul_nat S (lt9 hp.l2 (by omega)) (lt9 hq.l2 (by omega))
  have m3 := mul_nat S (lt9 hq.l1 (by omega)) (lt9 hp.l2 (by omega))
  have a1 : ∀ x y : Nat, addO (.int x) (.int y) S = .ok (.int ((x + y : Nat) : Int)) S := fun x y => rfl
  simp only [m_plus, defM_at]
  by_cases e : p.2 = q.2
  · have s2 := share_ok (p.1 + q.1) p.2 S hp.p2 (lt9 hp.l2 (by omega))
    have e2 : addQ p q = low (p.1 + q.1) p.2 := by
      unfold addQ
      rw [← e, ← Nat.add_mul, low_scale _ _ _ hp.p2]
    have e3 : addO (.int (p.1 : Int)) (.int (q.1 : Int)) S = .ok (.int ((p.1 + q.1 : Nat) : Int)) S := rfl
    simp only [enc]
    rw [e2]
    simp [-Int.natCast_mul, -Int.natCast_add, -addO_int, a1, getI_0, getI_1, e]
    rw [← e, s2]
    rfl
  · have e' : ((p.2 : Int) = q.2) = False := by simp; omega
    simp [-Int.natCast_mul, -Int.natCast_add, -addO_int, a1, enc, getI_0, getI_1, m1, m2, m3, e', s, addQ]
theorem ladd_ok (hp : Zk j p) (hq : Rk k q) (h : j + k ≤ 9000) : m_law_add [enc p, enc q] S = .ok (enc (addQ p q)) S := by
  have s := low_ok (p.1 * q.2 + q.1 * p.2) (p.2 * q.2) S (Nat.mul_pos hp.p2 hq.p2) (lt9 (mul_lt hp.l2 hq.l2) h)
  have m1 := mul_nat S (lt9 hp.l1 (by omega)) (lt9 hq.l2 (by omega))
  have m2 := mul_nat S (lt9 hp.l2 (by omega)) (lt9 hq.l2 (by omega))
  have m3 := mul_nat S (lt9 hq.l1 (by omega)) (lt9 hp.l2 (by omega))
  have a1 : ∀ x y : Nat, addO (.int x) (.int y) S = .ok (.int ((x + y : Nat) : Int)) S := fun x y => rfl
  simp only [m_law_add, defM_at]
  simp [-Int.natCast_mul, -Int.natCast_add, -addO_int, a1, enc, getI_0, getI_1, m1, m2, m3, s, addQ]
end
/-- the sum of fractions -/
def sumFrom (z : Nat × Nat) : List (Nat × Nat) → Nat × Nat
  | [] => z
  | q :: r => sumFrom (addQ z q) r
theorem addZk {j k : Nat} {p q : Nat × Nat} (hp : Zk j p) (hq : Rk k q) : Rk (j + k + 1) (addQ p q) := addRk ⟨hp.l2, hp.l1, hp.p2⟩ hq
theorem sumRk {k : Nat} : ∀ {qs : List (Nat × Nat)} {j : Nat} {z : Nat × Nat}, Zk j z → (∀ q ∈ qs, Rk k q) → qs ≠ [] → Rk (j + (k + 1) * qs.length) (sumFrom z qs)
  | [], _, _, _, _, h => absurd rfl h
  | [q], j, z, hz, h, _ => by
    have := addZk hz (h q (List.mem_cons_self ..))
    simpa [sumFrom, Nat.add_assoc] using this
  | q :: q2 :: r, j, z, hz, h, _ => by
    have := addZk hz (h q (List.mem_cons_self ..))
    have := sumRk (k := k) (qs := q2 :: r) this.z (fun x hx => h x (List.mem_cons_of_mem _ hx)) (by simp)
    have e : j + k + 1 + (k + 1) * (q2 :: r).length = j + (k + 1) * (q :: q2 :: r).length := by simp [Nat.mul_add, Nat.mul_succ]; omega
    rw [e] at this
    exact this
noncomputable abbrev sB : MS := mSet 1 (mL m_plus (maC (mV 1) (maC (mV 2) maN)))
theorem sum_loop {k : Nat} (S : DS) (it : Itm) (hg : it.g = none) (x : Option D) : ∀ (qs : List (Nat × Nat)) (j : Nat) (z : Nat × Nat) (y : Option D), Zk j z → (∀ q ∈ qs, Rk k q) → j + (k + 1) * qs.length ≤ 9000 →
    ∃ y', forL (gN 2) sB it (qs.map enc) [x, some (enc z), y] S = .ok (.nx, [x, some (enc (sumFrom z qs)), y']) S
  | [], j, z, y, _, _, _ => ⟨y, forL_nil hg⟩
  | q :: r, j, z, y, hz, h, hj => by
    have h1 := h q (List.mem_cons_self ..)
    have hl : j + k + 1 + (k + 1) * r.length ≤ 9000 := by
      rw [List.length_cons, Nat.mul_succ] at hj; omega
    obtain ⟨y', e⟩ := sum_loop S it hg x r (j + k + 1) (addQ z q) (some (enc q)) (addZk hz h1).z (fun x hx => h x (List.mem_cons_of_mem _ hx)) hl
    refine ⟨y', ?_⟩
    have hp := plus_ok S hz h1 (by omega)
    rw [List.map_cons, forL_cons hg]
    simp [hp, sumFrom, e]
noncomputable abbrev sB' : MS := mSet 1 (mL m_law_add (maC (mV 1) (maC (mV 2) maN)))
theorem lsum_turn {j k : Nat} {z q : Nat × Nat} (S : DS) (x y : Option D) (hz : Zk j z) (h1 : Rk k q) (h : j + k ≤ 9000) : turn (gN 2) sB' (enc q) [x, some (enc z), y] S = .ok (.nx, [x, some (enc (addQ z q)), some (enc q)]) S := by
  have hp := ladd_ok S hz h1 h
  simp [hp]
theorem lsum_loop {k : Nat} (S : DS) (it : Itm) (hg : it.g = none) (x : Option D) (qs : List (Nat × Nat)) : ∀ (j : Nat) (z : Nat × Nat) (y : Option D), Zk j z → (∀ q ∈ qs, Rk k q) → j + (k + 1) * qs.length ≤ 9000 →
    ∃ y', forL (gN 2) sB' it (qs.map enc) [x, some (enc z), y] S = .ok (.nx, [x, some (enc (sumFrom z qs)), y']) S := by
  induction qs with
  | nil => exact fun j z y _ _ _ => ⟨y, forL_nil hg⟩
  | cons q r ih =>
    intro j z y hz h hj
    have h1 := h q (List.mem_cons_self ..)
    have hl : j + k + 1 + (k + 1) * r.length ≤ 9000 := by
      rw [List.length_cons, Nat.mul_succ] at hj; omega
    obtain ⟨y', e⟩ := ih (j + k + 1) (addQ z q) (some (enc q)) (addZk hz h1).z (fun x hx => h x (List.mem_cons_of_mem _ hx)) hl
    refine ⟨y', ?_⟩
    rw [List.map_cons, forL_cons hg, lsum_turn S x y hz h1 (by omega), forN_nx, e]
    rfl
theorem zk0 : Zk 1 (0, 1) := ⟨by decide, by decide, by decide⟩
theorem summed_ok {k : Nat} (S : DS) (qs : List (Nat × Nat)) (h : ∀ q ∈ qs, Rk k q) (hj : 1 + (k + 1) * qs.length ≤ 9000) : m_summed [.vl (qs.map enc)] S = .ok (enc (sumFrom (0, 1) qs)) S := by
  obtain ⟨y', e⟩ := sum_loop S ⟨qs.map enc, none⟩ rfl (some (.vl (qs.map enc))) qs 1 (0, 1) none zk0 h hj
  simp only [m_summed, defM_at]
  have e0 : enc (0, 1) = .tup [.int 0, .int 1] := rfl
  rw [e0] at e
  simp [e]
theorem lsum_ok {k : Nat} (S : DS) (qs : List (Nat × Nat)) (h : ∀ q ∈ qs, Rk k q) (hj : 1 + (k + 1) * qs.length ≤ 9000) : m_law_sum [.vl (qs.map enc)] S = .ok (enc (sumFrom (0, 1) qs)) S := by
  obtain ⟨y', e⟩ := lsum_loop S ⟨qs.map enc, none⟩ rfl (some (.vl (qs.map enc))) qs 1 (0, 1) none zk0 h hj
  simp only [m_law_sum, defM_at]
  have e0 : enc (0, 1) = .tup [.int 0, .int 1] := rfl
  rw [e0] at e
  simp [tupO, e]
end K85

namespace K85
open PySem PySem.Spec PyProof.Rows L2 DL
def encR (r : List (Nat × Nat)) : D := .tup (r.map enc)
def encT (T : List (List (Nat × Nat))) : D := .tup (T.map encR)
def dotQ (a b : List (Nat × Nat)) : Nat × Nat := sumFrom (0, 1) ((a.zip b).map fun x => mulQ x.1 x.2)
theorem le_line {n : Nat} (h : n ≤ 9000) : n ≤ sizeLine := Nat.le_trans h (by decide)
section
variable {j k : Nat} (S : DS)
theorem zip_rk {a b : List (Nat × Nat)} (ha : ∀ q ∈ a, Rk j q) (hb : ∀ q ∈ b, Rk k q) : ∀ q ∈ (a.zip b).map fun x => mulQ x.1 x.2, Rk (j + k) q := by
  intro q hq
  obtain ⟨x, hx, rfl⟩ := List.mem_map.mp hq
  obtain ⟨h1, h2⟩ := List.of_mem_zip hx
  exact mulRk (ha _ h1) (hb _ h2)
theorem dot_rk {a b : List (Nat × Nat)} (ha : ∀ q ∈ a, Rk j q) (hb : ∀ q ∈ b, Rk k q) (h0 : (a.zip b) ≠ []) : Rk (1 + (j + k + 1) * (a.zip b).length) (dotQ a b) := by
  have := sumRk zk0 (zip_rk ha hb) (by simpa using h0)
  rwa [List.length_map] at this
theorem dot_ok {a b : List (Nat × Nat)} (ha : ∀ q ∈ a, Rk j q) (hb : ∀ q ∈ b, Rk k q) (hj : 1 + (j + k + 1) * (a.zip b).length ≤ 9000) : m_dot [encR a, encR b] S = .ok (enc (dotQ a b)) S := by
  have hl : (a.zip b).length ≤ 9000 := by
    have : (a.zip b).length * 1 ≤ (j + k + 1) * (a.zip b).length := by rw [Nat.mul_comm]; exact Nat.mul_le_mul_right _ (by omega)
    omega
  have hs := summed_ok S _ (zip_rk ha hb) (by simpa using hj)
  simp only [m_dot, defM_at]
  simp [encR, zipO_tup, zipD_map]
  rw [lcK_F (fun x : (Nat × Nat) × (Nat × Nat) => D.tup [enc x.1, enc x.2]) (fun x => enc (mulQ x.1 x.2)) (a.zip b) (le_line hl)]
  · simp only [List.map_map] at hs
    have e : (enc ∘ fun x : (Nat × Nat) × (Nat × Nat) => mulQ x.1 x.2) = fun x => enc (mulQ x.1 x.2) := rfl
    rw [e] at hs
    simp [hs, dotQ]
  · intro x hx
    obtain ⟨h1, h2⟩ := List.of_mem_zip hx
    have : j + k ≤ 9000 := by
      have : 0 < (a.zip b).length := List.length_pos_of_mem hx
      have : (j + k + 1) * 1 ≤ (j + k + 1) * (a.zip b).length := Nat.mul_le_mul_left _ (by omega)
      omega
    have t := times_ok S (ha _ h1) (hb _ h2) this
    simp [wipeE, t]
theorem ldot_ok {a b : List (Nat × Nat)} (ha : ∀ q ∈ a, Rk j q) (hb : ∀ q ∈ b, Rk k q) (hj : 1 + (j + k + 1) * (a.zip b).length ≤ 9000) : m_law_dot [encR a, encR b] S = .ok (enc (dotQ a b)) S := by
  have hl : (a.zip b).length ≤ 9000 := by
    have : (a.zip b).length * 1 ≤ (j + k + 1) * (a.zip b).length := by rw [Nat.mul_comm]; exact Nat.mul_le_mul_right _ (by omega)
    omega
  have hs := lsum_ok S _ (zip_rk ha hb) (by simpa using hj)
  simp only [m_law_dot, defM_at]
  simp [encR, zipO_tup, zipD_map]
  rw [lcK_F (fun x : (Nat × Nat) × (Nat × Nat) => D.tup [enc x.1, enc x.2]) (fun x => enc (mulQ x.1 x.2)) (a.zip b) (le_line hl)]
  · simp only [List.map_map] at hs
    have e : (enc ∘ fun x : (Nat × Nat) × (Nat × Nat) => mulQ x.1 x.2) = fun x => enc (mulQ x.1 x.2) := rfl
    rw [e] at hs
    simp [hs, dotQ]
  · intro x hx
    obtain ⟨h1, h2⟩ := List.of_mem_zip hx
    have : j + k ≤ 9000 := by
      have : 0 < (a.zip b).length := List.length_pos_of_mem hx
      have : (j + k + 1) * 1 ≤ (j + k + 1) * (a.zip b).length := Nat.mul_le_mul_left _ (by omega)
      omega
    have t := lmul_ok S (ha _ h1) (hb _ h2) this
    simp [wipeE, t]
def lawOf (hs : List (Nat × Nat)) : List (List (Nat × Nat)) := hs.map fun one => hs.map fun other => overQ other one
theorem of_ok {hs : List (Nat × Nat)} (h : ∀ q ∈ hs, Rk k q) (hl : hs.length ≤ 9000) (hk : k + k ≤ 9000) : m_law_of [encR hs] S = .ok (encT (lawOf hs)) S := by
  simp only [m_law_of, defM_at]
  simp [encR]
  rw [lcK_F enc (fun one => encR (hs.map fun other => overQ other one)) hs (le_line hl)]
  · simp [tupleO_vl, encT, lawOf]
  · intro one h1
    simp [wipeE]
    rw [lcK_F enc (fun other => enc (overQ other one)) hs (le_line hl)]
    · simp [tupleO_vl, encR]
    · intro other h2
      have t := lover_ok S (h _ h2) (h _ h1) hk
      simp [wipeE, t]
/-! the guards -/
theorem sized_ok (xs : List D) (lo hi : Nat) (h1 : lo ≤ xs.length) (h2 : xs.length ≤ hi) : m_is_sized [.tup xs, .int lo, .int hi] S = .ok (.bl true) S := by
  simp only [m_is_sized, defM_at]
  simp [isTy, lenO_tup, h1, h2]
theorem integer_ok (i : Int) : m_is_integer [.int i] S = .ok (.bl true) S := by
  simp only [m_is_integer, defM_at]
  simp [isTy]
theorem is_share_ok {p : Nat × Nat} (h : Rk k p) : m_is_share [enc p] S = .ok (.bl true) S := by
  have h0 := h.p2
  have hc : Nat.gcd p.1 p.2 = 1 := h.co
  have sz := sized_ok S [.int (p.1 : Nat), .int (p.2 : Nat)] 2 2 (by simp) (by simp)
  simp only [m_is_share, defM_at]
  simp at sz
  simp [enc, sz, getI_0, getI_1, integer_ok, common_ok, hc, h0]
theorem is_positive_ok {p : Nat × Nat} (h : Rk k p) : m_is_positive [enc p] S = .ok (.bl true) S := by
  have h0 := h.p1
  have hs := is_share_ok S h
  simp only [m_is_positive, defM_at]
  simp [hs]
  simp [enc, getI_0, h0]
theorem is_grid_ok {r : List (Nat × Nat)} (h : ∀ q ∈ r, Rk k q) (hl : r.length ≤ 9000) : m_is_grid [encR r, .int r.length] S = .ok (.bl true) S := by
  have sz := sized_ok S (r.map enc) r.length r.length (by simp) (by simp)
  simp only [m_is_grid, defM_at]
  simp [encR, sz]
  rw [lcK_F enc (fun _ => .bl true) r (le_line hl)]
  · simp [all_true]
  · intro q hq
    simp [wipeE, is_positive_ok S (h q hq)]
end
end K85

namespace K85
open PySem PySem.Spec PyProof.Rows L2 DL
abbrev Tab := List (List (Nat × Nat))
def rowA (T : Tab) (i : Nat) : List (Nat × Nat) := T.getD i []
def at' (T : Tab) (i j : Nat) : Nat × Nat := (rowA T i).getD j (1, 1)
def f3 (T : Tab) (i j k : Nat) : Option D := if mulQ (at' T i j) (at' T j k) = at' T i k then none else some (.tup [.str "turn", .int (i : Nat), .int (j : Nat), .int (k : Nat)])
def f2 (T : Tab) (i j : Nat) : Option D := (List.range T.length).findSome? (f3 T i j)
def f1 (T : Tab) (i : Nat) : Option D := (List.range T.length).findSome? (f2 T i)
def dueF (T : Tab) : D := match (List.range T.length).findSome? (f1 T) with
  | some x => x
  | none => .tup [.str "levels", encR (rowA T 0)]
structure Tk (k : Nat) (T : Tab) : Prop where
  lo : 1 ≤ T.length
  hi : T.length ≤ 12
  rows : ∀ r ∈ T, r.length = T.length ∧ ∀ q ∈ r, Rk k q
section
variable {k : Nat} {T : Tab} (h : Tk k T) (S : DS)
include h
theorem Tk.row {i : Nat} (hi : i < T.length) : T[i]? = some (rowA T i) := by
  unfold rowA
  rw [List.getD_eq_getElem?_getD, List.getElem?_eq_getElem hi]; rfl
theorem Tk.rowK {i : Nat} (hi : i < T.length) : (rowA T i).length = T.length ∧ ∀ q ∈ rowA T i, Rk k q := h.rows _ (List.mem_of_getElem? (h.row hi))
theorem Tk.cell {i j : Nat} (hi : i < T.length) (hj : j < T.length) : (rowA T i)[j]? = some (at' T i j) := by
  have := (h.rowK hi).1
  unfold at'
  rw [List.getD_eq_getElem?_getD (l := rowA T i), List.getElem?_eq_getElem (by omega)]; rfl
theorem Tk.rk {i j : Nat} (hi : i < T.length) (hj : j < T.length) : Rk k (at' T i j) := (h.rowK hi).2 _ (List.mem_of_getElem? (h.cell hi hj))
theorem Tk.get1 {i : Nat} (hi : i < T.length) : ixO (encT T) (.int (i : Nat)) S = .ok (encR (rowA T i)) S := getI_map encR T i (h.row hi)
theorem Tk.get2 {i j : Nat} (hi : i < T.length) (hj : j < T.length) : ixO (encR (rowA T i)) (.int (j : Nat)) S = .ok (enc (at' T i j)) S := getI_map enc _ j (h.cell hi hj)
omit h in
theorem neO_enc (p q : Nat × Nat) : neO (enc p) (enc q) S = .ok (.bl (!decide (p = q))) S := by
  unfold enc
  rw [neO_pair]
  congr 3
  rw [Bool.eq_iff_iff]
  simp
  constructor
  · rintro ⟨h1, h2⟩
    exact Prod.ext (by omega) (by omega)
  · rintro rfl
    exact ⟨rfl, rfl⟩
theorem is_table : m_is_sized [encT T, .int 1, .int 12] S = .ok (.bl true) S := by
  have := sized_ok S (T.map encR) 1 12 (by simpa using h.lo) (by simpa using h.hi)
  exact this
theorem grids : m_is_sized [encT T, .int 1, .int 12] S = .ok (.bl true) S := by
  have := sized_ok S (T.map encR) 1 12 (by simpa using h.lo) (by simpa using h.hi)
  exact this
omit h in
theorem lenT (T : Tab) : lenO [encT T] S = .ok (.int (T.length : Nat)) S := by
  show Ou.ok (D.int ((T.map encR).length : Nat)) S = _
  rw [List.length_map]
abbrev b3 (f : D → D → DS → Ou D) (m : List D → DS → Ou D) : MS := mIfS (mT (m2 neO (mL m (maC (m2 f (m2 f (mV 0) (mV 2)) (mV 3)) (maC (m2 f (m2 f (mV 0) (mV 3)) (mV 4)) maN))) (m2 f (m2 f (mV 0) (mV 2)) (mV 4))))
    (mRet (mL tupO (maC (mC (.str "turn")) (maC (mV 2) (maC (mV 3) (maC (mV 4) maN))))))
    mNx
omit h in
theorem rng_at (n : Nat) (hn : n ≤ 12) : rng1O [.int (n : Nat)] S = .ok ⟨(List.range n).map fun (i : Nat) => D.int (i : Int), none⟩ S := rng1_nat n (by omega)
/-- the three loops; R: what else stands in the slots -/
theorem loops {m : List D → DS → Ou D} (hm : ∀ {p q : Nat × Nat}, Rk k p → Rk k q → m [enc p, enc q] S = .ok (enc (mulQ p q)) S) (R : DE) (x y z : Option D) :
    ∃ x' y' z', forL (gN 2) (mFor (mArgI rng1O (maC (mV 1) maN)) (gN 3) (mFor (mArgI rng1O (maC (mV 1) maN)) (gN 4) (b3 ixO m))) ⟨(List.range T.length).map fun (i : Nat) => D.int (i : Int), none⟩ ((List.range T.length).map fun (i : Nat) => D.int (i : Int)) (some (encT T) :: some (.int (T.length : Nat)) :: x :: y :: z :: R) S =
      match (List.range T.length).findSome? (f1 T) with
      | none => .ok (.nx, some (encT T) :: some (.int (T.length : Nat)) :: x' :: y' :: z' :: R) S
      | some d => .ok (.rt d, some (encT T) :: some (.int (T.length : Nat)) :: x' :: y' :: z' :: R) S := by
  have hr := rng_at S T.length h.hi
  have key := forL_F (it := ⟨(List.range T.length).map fun (i : Nat) => D.int (i : Int), none⟩) (mg := gN 2) (p := mFor (mArgI rng1O (maC (mV 1) maN)) (gN 3) (mFor (mArgI rng1O (maC (mV 1) maN)) (gN 4) (b3 ixO m))) rfl (S := S)
    (E := fun env => ∃ x y z, env = some (encT T) :: some (.int (T.length : Nat)) :: x :: y :: z :: R) (fun (i : Nat) => D.int (i : Int)) (f1 T) (List.range T.length) _ ⟨x, y, z, rfl⟩ ?_
  · obtain ⟨env', ⟨x', y', z', rfl⟩, e⟩ := key
    exact ⟨x', y', z', e⟩
  intro i hi env henv
  obtain ⟨x, y, z, rfl⟩ := henv
  have hi' : i < T.length := by simpa using hi
  have key := forL_F (it := ⟨(List.range T.length).map fun (i : Nat) => D.int (i : Int), none⟩) (mg := gN 3) (p := mFor (mArgI rng1O (maC (mV 1) maN)) (gN 4) (b3 ixO m)) rfl (S := S)
    (E := fun env => ∃ y z, env = some (encT T) :: some (.int (T.length : Nat)) :: some (.int (i : Int)) :: y :: z :: R) (fun (i : Nat) => D.int (i : Int)) (f2 T i) (List.range T.length) _ ⟨y, z, rfl⟩ ?_
  · obtain ⟨env', ⟨y', z', rfl⟩, e⟩ := key
    refine ⟨_, ⟨some (.int (i : Int)), y', z', rfl⟩, ?_⟩
    refine Eq.trans ?_ e
    simp [hr]
  intro j hj env henv
  obtain ⟨y, z, rfl⟩ := henv
  have hj' : j < T.length := by simpa using hj
  have key := forL_F (it := ⟨(List.range T.length).map fun (i : Nat) => D.int (i : Int), none⟩) (mg := gN 4) (p := b3 ixO m) rfl (S := S)
    (E := fun env => ∃ z, env = some (encT T) :: some (.int (T.length : Nat)) :: some (.int (i : Int)) :: some (.int (j : Int)) :: z :: R) (fun (i : Nat) => D.int (i : Int)) (f3 T i j) (List.range T.length) _ ⟨z, rfl⟩ ?_
  · obtain ⟨env', ⟨z', rfl⟩, e⟩ := key
    refine ⟨_, ⟨some (.int (j : Int)), z', rfl⟩, ?_⟩
    refine Eq.trans ?_ e
    simp [hr]
  intro l hl env henv
  obtain ⟨z, rfl⟩ := henv
  have hl' : l < T.length := by simpa using hl
  refine ⟨some (encT T) :: some (.int (T.length : Nat)) :: some (.int (i : Int)) :: some (.int (j : Int)) :: some (.int (l : Int)) :: R, ⟨_, rfl⟩, ?_⟩
  have g1 := h.get1 S hi'
  have g2 := h.get1 S hj'
  have g3 := h.get2 S hi' hj'
  have g4 := h.get2 S hj' hl'
  have g5 := h.get2 S hi' hl'
  have ht := hm (h.rk hi' hj') (h.rk hj' hl')
  unfold f3
  by_cases e : mulQ (at' T i j) (at' T j l) = at' T i l
  · simp [g1, g2, g3, g4, g5, ht, neO_enc, e]
  · simp [g1, g2, g3, g4, g5, ht, neO_enc, e, tupO]
theorem due_ok (hk : k + k ≤ 9000) : m_law_due [encT T] S = .ok (dueF T) S := by
  obtain ⟨x', y', z', e⟩ := loops h S (m := m_law_mul) (fun hp hq => lmul_ok S hp hq hk) [] none none none
  have g := h.get1 S (i := 0) (by have := h.lo; omega)
  have hr := rng_at S T.length h.hi
  simp only [m_law_due, defM_at]
  unfold dueF
  simp at g
  simp [lenT, hr]
  rw [e]
  cases (List.range T.length).findSome? (f1 T) with
  | none => simp [g, tupO]
  | some d => simp
theorem levels_ok (hk : k + k ≤ 9000) : m_levels [encT T] S = .ok (dueF T) S := by
  obtain ⟨x', y', z', e⟩ := loops h S (m := m_times) (fun hp hq => times_ok S hp hq hk) [none] none none none
  have g := h.get1 S (i := 0) (by have := h.lo; omega)
  have hi := h.hi
  have h1 := is_table h S
  have hr := rng_at S T.length h.hi
  have e2 : asItm (encT T) S = .ok ⟨T.map encR, none⟩ S := rfl
  have h2 : lcK (gN 5) mYes (mL m_is_grid (maC (mV 5) (maC (mL lenO (maC (mV 0) maN)) maN))) [5] finV [some (encT T), none, none, none, none, none] (.ok ⟨T.map encR, none⟩ S) = .ok (.vl (T.map fun _ => .bl true)) S := by
    rw [lcK_F encR (fun _ => .bl true) T (le_line (by omega))]
    · rfl
    · intro r hr
      obtain ⟨l1, l2⟩ := h.rows r hr
      have := is_grid_ok S l2 (by omega)
      rw [l1] at this
      simp [wipeE, lenT, this]
  simp only [m_levels, defM_at]
  unfold dueF
  simp at g
  simp [lenT, hr, h1, e2, h2, all_true]
  rw [e]
  cases (List.range T.length).findSome? (f1 T) with
  | none => simp [g, tupO]
  | some d => simp
end
end K85

namespace K85
open PySem PySem.Spec PyProof.Rows L2 DL
theorem findSome_some {α β : Type} {f : α → Option β} {b : β} : ∀ {l : List α}, l.findSome? f = some b → ∃ a ∈ l, f a = some b
  | [], h => by simp at h
  | a :: l, h => by
    rw [List.findSome?_cons] at h
    split at h
    · rename_i x e
      cases h
      exact ⟨a, List.mem_cons_self .., e⟩
    · obtain ⟨a', h1, h2⟩ := findSome_some h
      exact ⟨a', List.mem_cons_of_mem _ h1, h2⟩
theorem findSome_none {α β : Type} {f : α → Option β} : ∀ {l : List α}, l.findSome? f = none → ∀ a ∈ l, f a = none
  | [], _, _, h => by simp at h
  | a :: l, h, b, hb => by
    rw [List.findSome?_cons] at h
    split at h
    · cases h
    · rename_i e
      rcases List.mem_cons.mp hb with rfl | hb
      · exact e
      · exact findSome_none h b hb
theorem due_cases (T : Tab) : (dueF T = .tup [.str "levels", encR (rowA T 0)] ∧ ∀ i j l : Nat, i < T.length → j < T.length → l < T.length → mulQ (at' T i j) (at' T j l) = at' T i l) ∨
    ∃ i j l : Nat, i < T.length ∧ j < T.length ∧ l < T.length ∧ dueF T = .tup [.str "turn", .int i, .int j, .int l] := by
  unfold dueF
  cases e : (List.range T.length).findSome? (f1 T) with
  | none =>
    refine .inl ⟨rfl, fun i j l hi hj hl => ?_⟩
    have h1 := findSome_none e i (by simpa using hi)
    have h2 := findSome_none h1 j (by simpa using hj)
    have h3 := findSome_none h2 l (by simpa using hl)
    unfold f3 at h3
    split at h3
    · rename_i z; exact z
    · cases h3
  | some x =>
    obtain ⟨i, hi, h1⟩ := findSome_some e
    obtain ⟨j, hj, h2⟩ := findSome_some h1
    obtain ⟨l, hl, h3⟩ := findSome_some h2
    unfold f3 at h3
    split at h3
    · cases h3
    · cases h3
      exact .inr ⟨i, j, l, by simpa using hi, by simpa using hj, by simpa using hl, rfl⟩
theorem lt_pow10 {n k : Nat} (h : n < 2 ^ k) : n < 10 ^ k := Nat.lt_of_lt_of_le h (Nat.pow_le_pow_left (by decide) k)
theorem enc_ok {k : Nat} {q : Nat × Nat} (h : Rk k q) : okD k (enc q) = true := by
  simp [enc, okD, okDs, lt_pow10 h.l1, lt_pow10 h.l2]
theorem enc_dep (q : Nat × Nat) : dep (enc q) = 1 := rfl
theorem enc_siz (K : Nat) (q : Nat × Nat) : siz K (enc q) = 8 * K + 2 := by
  simp [enc, siz, sizs]
  omega
theorem encR_ok {k : Nat} {r : List (Nat × Nat)} (h : ∀ q ∈ r, Rk k q) : okD k (encR r) = true := okDs_map k enc r fun q hq => enc_ok (h q hq)
theorem encR_dep (r : List (Nat × Nat)) : dep (encR r) ≤ 2 := Nat.succ_le_succ (deps_map 1 enc r fun q _ => Nat.le_refl _)
theorem encR_siz (K : Nat) (r : List (Nat × Nat)) : siz K (encR r) ≤ (8 * K + 3) * r.length := sizs_map K (8 * K + 2) enc r fun q _ => Nat.le_of_eq (enc_siz K q)
theorem encT_ok {k : Nat} {T : Tab} (h : ∀ r ∈ T, ∀ q ∈ r, Rk k q) : okD k (encT T) = true := okDs_map k encR T fun r hr => encR_ok (h r hr)
theorem encT_dep (T : Tab) : dep (encT T) ≤ 3 := Nat.succ_le_succ (deps_map 2 encR T fun r _ => encR_dep r)
theorem small_pow {n k : Nat} (h : n < 12) (hk : 2 ≤ k) : n < 10 ^ k := Nat.lt_of_lt_of_le h (Nat.le_trans (by decide : 12 ≤ 10 ^ 2) (Nat.pow_le_pow_right (by decide) hk))
section
variable {k : Nat} {T : Tab} (h : Tk k T) (S : DS)
include h
theorem due_show (hk1 : 7 ≤ k) (hk : k ≤ 300) : ∃ s, reprO [dueF T] S = .ok (.str s) S := by
  have hl := h.hi
  have key : okD k (dueF T) = true ∧ dep (dueF T) ≤ 64 ∧ siz k (dueF T) ≤ 30000 := by
    rcases due_cases T with ⟨e, _⟩ | ⟨i, j, l, hi, hj, hl, e⟩
    · rw [e]
      obtain ⟨r1, r2⟩ := h.rowK (i := 0) (by have := h.lo; omega)
      have o := encR_ok r2
      have d := encR_dep (rowA T 0)
      have z := encR_siz k (rowA T 0)
      refine ⟨?_, ?_, ?_⟩
      · simp only [okD, okDs, o]; decide +kernel
      · simp only [dep, deps]; omega
      · have e1 : siz k (.tup [.str "levels", encR (rowA T 0)]) = (("levels" : Str).cps.size + 1 + (siz k (encR (rowA T 0)) + 1 + 0)) := rfl
        have e2 : ("levels" : Str).cps.size = 6 := by decide
        rw [e1, e2]
        have e3 : (8 * k + 3) * (rowA T 0).length ≤ 2403 * 12 := Nat.mul_le_mul (by omega) (by omega)
        omega
    · rw [e]
      have p1 := small_pow (k := k) (n := i) (by omega) (by omega)
      have p2 := small_pow (k := k) (n := j) (by omega) (by omega)
      have p3 := small_pow (k := k) (n := l) (by omega) (by omega)
      refine ⟨?_, by simp [dep, deps], ?_⟩
      · simp [okD, okDs, p1, p2, p3]; decide +kernel
      · have e1 : siz k (.tup [.str "turn", .int (i : Nat), .int (j : Nat), .int (l : Nat)]) = ("turn" : Str).cps.size + 1 + (4 * k + 1 + (4 * k + 1 + (4 * k + 1 + 0))) := rfl
        have e2 : ("turn" : Str).cps.size = 4 := by decide
        rw [e1, e2]
        omega
  obtain ⟨h1, h2, h3⟩ := key
  refine ⟨_, repr_ok hk1 (by omega) h1 h2 ?_⟩
  have e3 : (k + 3) * siz k (dueF T) ≤ 303 * 30000 := Nat.mul_le_mul (by omega) h3
  have : sizeLine = 16777216 := rfl
  omega
theorem table_of (hm : ∀ i j l : Nat, i < T.length → j < T.length → l < T.length → mulQ (at' T i j) (at' T j l) = at' T i l) : lawOf (rowA T 0) = T ∧ at' T 0 0 = (1, 1) := by
  have hlo := h.lo
  obtain ⟨r1, r2⟩ := h.rowK (i := 0) (by omega)
  refine ⟨?_, one_of_sq (h.rk (by omega) (by omega)) (hm 0 0 0 (by omega) (by omega) (by omega))⟩
  refine List.ext_getElem? fun i => ?_
  by_cases hi : i < T.length
  · have e1 := h.cell (i := 0) (j := i) (by omega) hi
    unfold lawOf
    rw [List.getElem?_map, e1, h.row hi, Option.map_some]
    congr 1
    refine List.ext_getElem? fun j => ?_
    by_cases hj : j < T.length
    · rw [List.getElem?_map, h.cell (i := 0) (by omega) hj, h.cell hi hj, Option.map_some]
      congr 1
      exact over_of_mul (h.rk (by omega) hi) (h.rk hi hj) (h.rk (by omega) hj) (hm 0 i j (by omega) hi hj)
    · have q := (h.rowK hi).1
      rw [List.getElem?_eq_none (by rw [List.length_map]; omega), List.getElem?_eq_none (by omega)]
  · rw [List.getElem?_eq_none (by unfold lawOf; rw [List.length_map]; omega), List.getElem?_eq_none (by omega)]
theorem told_ok (hk1 : 7 ≤ k) (hk : k ≤ 300) : m_law_is_told [encT T] S = .ok (.bl true) S := by
  have hlo := h.lo
  have hhi := h.hi
  have l1 := levels_ok h S (by omega)
  have l2 := due_ok h S (by omega)
  obtain ⟨s, hs⟩ := due_show h S hk1 hk
  simp only [m_law_is_told, defM_at]
  rcases due_cases T with ⟨e, hm⟩ | ⟨i, j, l, hi, hj, hl, e⟩
  · obtain ⟨t1, t2⟩ := table_of h hm
    obtain ⟨r1, r2⟩ := h.rowK (i := 0) (by omega)
    have o := of_ok S r2 (by omega) (by omega)
    rw [t1] at o
    have q1 : eqO (encT T) (encT T) S = .ok (.bl true) S := eqO_self (k := k) (by omega) (encT_ok fun r hr => (h.rows r hr).2) (Nat.le_trans (encT_dep T) (by decide))
    have q2 := h.get2 S (i := 0) (j := 0) (by omega) (by omega)
    rw [t2] at q2
    have q3 : eqO (enc (1, 1)) (.tup [.int 1, .int 1]) S = .ok (.bl true) S := by
      show eqO (.tup [.int 1, .int 1]) (.tup [.int 1, .int 1]) S = _
      rw [eqO_pair]; rfl
    have q4 : decide (("levels" : Str) = "turn") = false := by decide
    simp at q2
    simp only [e] at l1 l2 hs
    simp [l1, l2, hs, getI_0, getI_1, o, q1, q2, q3, q4, tupO]
  · simp only [e] at l1 l2 hs
    simp [l1, l2, hs, getI_0]
end
end K85

namespace K85
open PySem PySem.Spec PyProof.Rows L2 DL
def hnd (cells : List Int) (a r m c : Int) : List D := [.vl (cells.map D.int), .int a, .int r, .int m, .int c]
inductive Hand : List D → Prop where
  | mk (cells : List Int) (a r m c : Int) : (∀ x ∈ cells, 0 ≤ x) → 0 ≤ a → 0 ≤ r → Hand (hnd cells a r m c)
def nF0 (m c : Int) : Int := ((m + 7919 * c) * 48271).fmod 2147483647
def nF1 (m c : Int) : Int := (nF0 m c * ((nF0 m c).fdiv 1009 + 69621)).fmod 2147483647
def nF2 (m c : Int) : Int := (nF1 m c * ((nF1 m c).fdiv 2003 + 40014)).fmod 2147483563
theorem mulO_r (a c : Int) (S : DS) (h : -(2 ^ 64) < c ∧ c < 2 ^ 64) : mulO (.int a) (.int c) S = .ok (.int (a * c)) S := if_pos (.inl (.inr h))
theorem mulO_l (a c : Int) (S : DS) (h : -(2 ^ 64) < a ∧ a < 2 ^ 64) : mulO (.int a) (.int c) S = .ok (.int (a * c)) S := if_pos (.inl (.inl h))
theorem fdivO_s (a c : Int) (S : DS) (h0 : 0 < c) (h : c < 2 ^ 64) : fdivO (.int a) (.int c) S = .ok (.int (a.fdiv c)) S :=
  if_pos ⟨by omega, fdiv_small (Nat.lt_of_lt_of_le (show c.natAbs < 2 ^ 64 by omega) (Nat.pow_le_pow_right (by decide) (by decide)))⟩
theorem fmod_lo (a : Int) {b : Int} (h : 0 < b) : 0 ≤ a.fmod b := Int.fmod_nonneg_of_pos a h
theorem fmod_hi (a : Int) {b : Int} (h : 0 < b) : a.fmod b < b := Int.fmod_lt_of_pos a h
theorem setO_at (p : Nat) (xs : List D) (S : DS) (k : Nat) (v : D) (h : S[p]? = some (DO.lst xs)) (hk : k < xs.length) : setO (.ref p) (.int (k : Nat)) v S = .ok () (S.set p (.lst (xs.set k v))) := by
  show (match S[p]? with
    | some (DO.lst xs) => match ixN xs.length (k : Int) with
      | some j => Ou.ok () (S.set p (.lst (xs.set j v)))
      | none => .no
    | none => .no) = _
  rw [h]
  simp only
  rw [ixN_nat (by omega) (by omega)]
  rfl
section
variable (R : DS) (x0 x1 x2 x3 x4 v : D)
abbrev h5 : DS := .lst [x0, x1, x2, x3, x4] :: R
theorem set5_1 : setO (.ref 0) (.int 1) v (h5 R x0 x1 x2 x3 x4) = .ok () (h5 R x0 v x2 x3 x4) := setO_at 0 [x0, x1, x2, x3, x4] _ 1 v rfl (by simp)
theorem set5_2 : setO (.ref 0) (.int 2) v (h5 R x0 x1 x2 x3 x4) = .ok () (h5 R x0 x1 v x3 x4) := setO_at 0 [x0, x1, x2, x3, x4] _ 2 v rfl (by simp)
theorem set5_3 : setO (.ref 0) (.int 3) v (h5 R x0 x1 x2 x3 x4) = .ok () (h5 R x0 x1 x2 v x4) := setO_at 0 [x0, x1, x2, x3, x4] _ 3 v rfl (by simp)
theorem set5_4 : setO (.ref 0) (.int 4) v (h5 R x0 x1 x2 x3 x4) = .ok () (h5 R x0 x1 x2 x3 v) := setO_at 0 [x0, x1, x2, x3, x4] _ 4 v rfl (by simp)
end
theorem pow_18 (S : DS) : powO (.int 10) (.int 18) S = .ok (.int 1000000000000000000) S := by
  show (if CPow 10 18 then Ou.ok (D.int (10 ^ (18 : Int).toNat)) S else .no) = _
  rw [if_pos ⟨by decide, by decide, by decide⟩]
  rfl
theorem draw_ok {h : List D} (hh : Hand h) (R : DS) (many : Int) (m0 : 0 < many) (m1 : many ≤ 1000) :
    ∃ d h', m_law_draw [.ref 0, .int many] (.lst h :: R) = .ok (.int d) (.lst h' :: R) ∧ Hand h' ∧ 0 ≤ d ∧ d < many := by
  obtain ⟨cells, a, r, m, c, hc, ha, hr⟩ := hh
  have nm : many ≠ 0 := by omega
  have digit : ∀ (r : Int), 0 < r → ∀ S, modO (.int r) (.int many) S = .ok (.int (r.fmod many)) S := fun r _ S => if_pos nm
  have dvd : ∀ (r : Int) S, fdivO (.int r) (.int many) S = .ok (.int (r.fdiv many)) S := fun r S => fdivO_s r many S m0 (by omega)
  have n0 : ∀ m c : Int, 0 ≤ nF0 m c ∧ nF0 m c < 2147483647 := fun m c => ⟨fmod_lo _ (by decide), fmod_hi _ (by decide)⟩
  have n1 : ∀ m c : Int, 0 ≤ nF1 m c ∧ nF1 m c < 2147483647 := fun m c => ⟨fmod_lo _ (by decide), fmod_hi _ (by decide)⟩
  have q1 : ∀ (i : Int) S, mulO (.int 7919) (.int i) S = .ok (.int (7919 * i)) S := fun i S => mulO_l _ _ S (by decide)
  have q2 : ∀ (i : Int) S, mulO (.int i) (.int 48271) S = .ok (.int (i * 48271)) S := fun i S => mulO_r _ _ S (by decide)
  have q3 : ∀ (i : Int) S, mulO (.int i) (.int 69621) S = .ok (.int (i * 69621)) S := fun i S => mulO_r _ _ S (by decide)
  have q4 : ∀ (i : Int) S, mulO (.int i) (.int 40692) S = .ok (.int (i * 40692)) S := fun i S => mulO_r _ _ S (by decide)
  have q5 : ∀ (i : Int) S, fdivO (.int i) (.int 1009) S = .ok (.int (i.fdiv 1009)) S := fun i S => fdivO_s _ _ S (by decide) (by decide)
  have q6 : ∀ (i : Int) S, fdivO (.int i) (.int 2003) S = .ok (.int (i.fdiv 2003)) S := fun i S => fdivO_s _ _ S (by decide) (by decide)
  have q7 : ∀ (i : Int) S, fdivO (.int i) (.int 16) S = .ok (.int (i.fdiv 16)) S := fun i S => fdivO_s _ _ S (by decide) (by decide)
  have q8 : ∀ (m c j : Int) S, mulO (.int (nF0 m c)) (.int j) S = .ok (.int (nF0 m c * j)) S := fun m c j S => mulO_l _ _ S (by have := n0 m c; omega)
  have q9 : ∀ (m c j : Int) S, mulO (.int (nF1 m c)) (.int j) S = .ok (.int (nF1 m c * j)) S := fun m c j S => mulO_l _ _ S (by have := n1 m c; omega)
  have f0 : ∀ m c : Int, ((m + 7919 * c) * 48271).fmod 2147483647 = nF0 m c := fun _ _ => rfl
  have f1 : ∀ m c : Int, (nF0 m c * ((nF0 m c).fdiv 1009 + 69621)).fmod 2147483647 = nF1 m c := fun _ _ => rfl
  have f2 : ∀ m c : Int, (nF1 m c * ((nF1 m c).fdiv 2003 + 40014)).fmod 2147483563 = nF2 m c := fun _ _ => rfl
  have lenC : ∀ S, lenO [.vl (cells.map D.int)] S = .ok (.int (cells.length : Nat)) S := fun S => by rw [lenO_vl, List.length_map]
  have num : ∀ (m c : Int), Hand (hnd cells a 0 m c) → True := fun _ _ _ => trivial
  unfold hnd
  by_cases h1 : r = 0
  · subst h1
    by_cases h2 : a < (cells.length : Int)
    · have hx : cells[a.toNat]? = some (cells.getD a.toNat 0) := by
        rw [List.getD_eq_getElem?_getD, List.getElem?_eq_getElem (by omega)]; rfl
      generalize cells.getD a.toNat 0 = x at hx
      have hx0 := hc x (List.mem_of_getElem? hx)
      have gx : ∀ S, getI (cells.map D.int) a S = .ok (.int x) S := fun S => getI_nat ha (by rw [List.getElem?_map, hx]; rfl)
      by_cases h3 : 1000000000000000000 ≤ x
      · have h4 : 0 < x := by omega
        refine ⟨x.fmod many, hnd cells (a + 1) (x.fdiv many) ((m * 69621 + x * 40692 + 17).fmod 2147483629) c, ?_, ⟨_, _, _, _, _, hc, by omega, Int.fdiv_nonneg (by omega) (by omega)⟩, fmod_lo _ m0, fmod_hi _ m0⟩
        simp only [m_law_draw, defM_at]
        simp [getI_0, getI_1, getI_2, getI_3, getI_4, lenC, h2, gx, set5_1, set5_2, set5_3, set5_4, q3, q4, intO_int, pow_18, h3, h4, digit, dvd, hnd, nm]
      · refine ⟨((nF2 ((m * 69621 + x * 40692 + 17).fmod 2147483629) (c + 1)).fdiv 16).fmod many, hnd cells (a + 1) 0 ((m * 69621 + x * 40692 + 17).fmod 2147483629) (c + 1), ?_, ⟨_, _, _, _, _, hc, by omega, by omega⟩, fmod_lo _ m0, fmod_hi _ m0⟩
        simp only [m_law_draw, defM_at]
        simp [getI_0, getI_1, getI_2, getI_3, getI_4, lenC, h2, gx, set5_1, set5_2, set5_3, set5_4, q1, q2, q3, q4, q5, q6, q7, q8, q9, f0, f1, f2, intO_int, pow_18, h3, dvd, hnd, nm]
    · refine ⟨((nF2 m (c + 1)).fdiv 16).fmod many, hnd cells a 0 m (c + 1), ?_, ⟨_, _, _, _, _, hc, ha, by omega⟩, fmod_lo _ m0, fmod_hi _ m0⟩
      simp only [m_law_draw, defM_at]
      simp [getI_0, getI_1, getI_2, getI_3, getI_4, lenC, h2, set5_1, set5_2, set5_3, set5_4, q1, q2, q3, q4, q5, q6, q7, q8, q9, f0, f1, f2, intO_int, dvd, hnd, nm]
  · have h4 : 0 < r := by omega
    refine ⟨r.fmod many, hnd cells a (r.fdiv many) m c, ?_, ⟨_, _, _, _, _, hc, ha, Int.fdiv_nonneg (by omega) (by omega)⟩, fmod_lo _ m0, fmod_hi _ m0⟩
    simp only [m_law_draw, defM_at]
    simp [getI_0, getI_1, getI_2, getI_3, getI_4, h1, set5_1, set5_2, set5_3, set5_4, intO_int, h4, digit, dvd, hnd, nm]
end K85

namespace K85
open PySem PySem.Spec PyProof.Rows L2 DL
theorem any_ok {h : List D} (hh : Hand h) (R : DS) (xs : List D) (h0 : xs ≠ []) (h1 : xs.length ≤ 1000) :
    ∃ x h', m_law_any [.ref 0, .vl xs] (.lst h :: R) = .ok x (.lst h' :: R) ∧ Hand h' ∧ x ∈ xs := by
  have hp : 0 < xs.length := List.length_pos_iff.mpr h0
  obtain ⟨d, h', e, hh', d0, d1⟩ := draw_ok hh R (xs.length : Nat) (by omega) (by omega)
  obtain ⟨x, hx⟩ : ∃ x, xs[d.toNat]? = some x := ⟨xs[d.toNat]'(by omega), List.getElem?_eq_getElem (by omega)⟩
  refine ⟨x, h', ?_, hh', List.mem_of_getElem? hx⟩
  have g : ∀ S, getI xs d S = .ok x S := fun S => getI_nat d0 hx
  simp only [m_law_any, defM_at]
  simp [lenO_vl, e, g]
theorem positive_ok {h : List D} (hh : Hand h) (R : DS) : ∃ q h', m_law_positive [.ref 0] (.lst h :: R) = .ok (enc q) (.lst h' :: R) ∧ Hand h' ∧ Rk 8 q := by
  obtain ⟨d, h1, e1, hh1, d0, d1⟩ := draw_ok hh R 50 (by decide) (by decide)
  obtain ⟨x, h2, e2, hh2, hx⟩ := any_ok hh1 R [.int 0, .int 0, .int 1, .int 2, .int 9, .int d] (by simp) (by simp)
  obtain ⟨b, rfl, b0, b1⟩ : ∃ b : Nat, x = .int b ∧ 0 ≤ b ∧ b < 50 := by
    simp only [List.mem_cons, List.not_mem_nil, or_false] at hx
    rcases hx with rfl | rfl | rfl | rfl | rfl | rfl
    · exact ⟨0, rfl, by omega, by omega⟩
    · exact ⟨0, rfl, by omega, by omega⟩
    · exact ⟨1, rfl, by omega, by omega⟩
    · exact ⟨2, rfl, by omega, by omega⟩
    · exact ⟨9, rfl, by omega, by omega⟩
    · exact ⟨d.toNat, by rw [Int.toNat_of_nonneg d0], by omega, by omega⟩
  obtain ⟨t, h3, e3, hh3, t0, t1⟩ := draw_ok hh2 R (3 * (1 + b)) (by omega) (by omega)
  obtain ⟨n, rfl⟩ : ∃ n : Nat, t = n := ⟨t.toNat, by omega⟩
  refine ⟨low (1 + n) (1 + b), h3, ?_, hh3, lowRk (by omega) (by omega) (by omega) (by omega)⟩
  have el := low_ok (1 + n) (1 + b) (.lst h3 :: R) (by omega) (Nat.lt_of_lt_of_le (show 1 + b < 2 ^ 8 by omega) (Nat.pow_le_pow_right (by decide) (by decide)))
  have m3 : mulO (.int 3) (.int (1 + (b : Int))) (.lst h2 :: R) = .ok (.int (3 * (1 + (b : Int)))) (.lst h2 :: R) := mulO_l _ _ _ (by decide)
  have c1 : ((1 + n : Nat) : Int) = 1 + (n : Int) := by omega
  have c2 : ((1 + b : Nat) : Int) = 1 + (b : Int) := by omega
  rw [c1, c2] at el
  simp only [m_law_positive, defM_at]
  simp [e1, lstO, e2, m3, e3, el]
/-- a list of drawn fractions -/
theorem enc_list : ∀ (ys : List D), (∀ y ∈ ys, ∃ q, Rk 8 q ∧ y = enc q) → ∃ qs : List (Nat × Nat), ys = qs.map enc ∧ ∀ q ∈ qs, Rk 8 q
  | [], _ => ⟨[], rfl, by simp⟩
  | y :: ys, h => by
    obtain ⟨q, hq, rfl⟩ := h y (List.mem_cons_self ..)
    obtain ⟨qs, rfl, hqs⟩ := enc_list ys fun z hz => h z (List.mem_cons_of_mem _ hz)
    exact ⟨q :: qs, rfl, by
      intro r hr
      rcases List.mem_cons.mp hr with rfl | hr
      · exact hq
      · exact hqs r hr⟩
theorem encR_list (n : Nat) : ∀ (ys : List D), (∀ y ∈ ys, ∃ r : List (Nat × Nat), (r.length = n ∧ ∀ q ∈ r, Rk 8 q) ∧ y = encR r) → ∃ T : Tab, ys = T.map encR ∧ ∀ r ∈ T, r.length = n ∧ ∀ q ∈ r, Rk 8 q
  | [], _ => ⟨[], rfl, by simp⟩
  | y :: ys, h => by
    obtain ⟨q, hq, rfl⟩ := h y (List.mem_cons_self ..)
    obtain ⟨qs, rfl, hqs⟩ := encR_list n ys fun z hz => h z (List.mem_cons_of_mem _ hz)
    exact ⟨q :: qs, rfl, by
      intro r hr
      rcases List.mem_cons.mp hr with rfl | hr
      · exact hq
      · exact hqs r hr⟩
/-- [_law_positive(hand) for .. in range(n)], in any of the defs -/
theorem pos_list {h : List D} (hh : Hand h) (R : DS) (n s t : Nat) (hn : n ≤ 1000) (env : DE) (vs : List Nat) (he : ∀ d : D, (((wipeE env vs).set s (some d))[t]?) = some (some (.ref 0))) :
    ∃ (qs : List (Nat × Nat)) (h' : List D), lcK (gN s) mYes (mL m_law_positive (maC (mV t) maN)) vs finV env (.ok ⟨(List.range n).map fun (i : Nat) => D.int (i : Int), none⟩ (.lst h :: R)) = .ok (.vl (qs.map enc)) (.lst h' :: R) ∧ Hand h' ∧ qs.length = n ∧ ∀ q ∈ qs, Rk 8 q := by
  obtain ⟨ys, S', e, ⟨h', hh', rfl⟩, l, p⟩ := lcL_inv (mg := gN s) (el := mL m_law_positive (maC (mV t) maN)) (it := ⟨(List.range n).map fun (i : Nat) => D.int (i : Int), none⟩) (env := wipeE env vs) rfl (I := fun S => ∃ h, Hand h ∧ S = .lst h :: R) (P := fun _ y => ∃ q, Rk 8 q ∧ y = enc q)
    ((List.range n).map fun (i : Nat) => D.int (i : Int)) [] 0 (.lst h :: R) ⟨h, hh, rfl⟩ (fun i d hd S hS => by
      obtain ⟨h, hh, rfl⟩ := hS
      obtain ⟨q, h', e, hh', hq⟩ := positive_ok hh R
      refine ⟨enc q, .lst h' :: R, ?_, ⟨h', hh', rfl⟩, q, hq, rfl⟩
      simp [he d, e])
  obtain ⟨qs, rfl, hqs⟩ := enc_list ys fun y hy => by
    obtain ⟨i, hi⟩ := List.getElem?_of_mem hy
    exact p i y hi
  refine ⟨qs, h', ?_, hh', by simpa using l, hqs⟩
  rw [lcK_ok, if_pos (by rw [List.length_map, List.length_range]; exact le_line (by omega)), e]
  simp
theorem cut_lo (xs : List D) (i : Nat) : DL.cutD xs none (some (i : Int)) = xs.take i := by
  unfold DL.cutD
  rw [HT.sIx_none, HT.sIx_nat, List.drop_zero, Nat.sub_zero]
  by_cases h : i ≤ xs.length
  · rw [Nat.min_eq_left h]
  · rw [Nat.min_eq_right (by omega), List.take_of_length_le (Nat.le_refl _), List.take_of_length_le (by omega)]
theorem cut_hi (xs : List D) (i : Nat) : DL.cutD xs (some (i : Int)) none = xs.drop i := by
  unfold DL.cutD
  rw [HT.sIx_none, HT.sIx_nat]
  by_cases h : i ≤ xs.length
  · rw [Nat.min_eq_left h, List.take_of_length_le (by rw [List.length_drop]; omega)]
  · rw [Nat.min_eq_right (by omega), List.drop_eq_nil_of_le (Nat.le_refl _), List.drop_eq_nil_of_le (by omega)]
    simp
theorem slO_tup (xs : List D) (lo hi : Option Int) (S : DS) : slO (.tup xs) lo hi S = .ok (.tup (DL.cutD xs lo hi)) S := rfl
theorem addO_tup {xs ys : List D} (S : DS) (h : xs.length + ys.length ≤ 9000) : addO (.tup xs) (.tup ys) S = .ok (.tup (xs ++ ys)) S := if_pos (le_line h)
theorem spoiled_ok {k : Nat} {T : Tab} (ht : Tk k T) (hk : 8 ≤ k) {h : List D} (hh : Hand h) (R : DS) (hk2 : k ≤ 3000) :
    ∃ (T' : Tab) (h' : List D), m_law_spoiled [.ref 0, encT T] (.lst h :: R) = .ok (encT T') (.lst h' :: R) ∧ Hand h' ∧ Tk (k + 5) T' := by
  have hlo := ht.lo
  have hhi := ht.hi
  obtain ⟨i, h1, e1, hh1, i0, i1⟩ := draw_ok hh R (T.length : Nat) (by omega) (by omega)
  obtain ⟨j, h2, e2, hh2, j0, j1⟩ := draw_ok hh1 R (T.length : Nat) (by omega) (by omega)
  obtain ⟨i, rfl⟩ : ∃ n : Nat, i = n := ⟨i.toNat, by omega⟩
  obtain ⟨j, rfl⟩ : ∃ n : Nat, j = n := ⟨j.toNat, by omega⟩
  have hi : i < T.length := by omega
  have hj : j < T.length := by omega
  obtain ⟨q, h3, e3, hh3, hq⟩ := positive_ok hh2 R
  have rk := ht.rk hi hj
  have r19 : Rk 4 (1, 9) := ⟨by decide, by decide, by decide, by decide, by decide⟩
  have o1 := lover_ok (.lst h3 :: R) (rk_one (k := 1) (by decide)) rk (by omega)
  have o2 := ladd_ok (.lst h3 :: R) rk.z r19 (by omega)
  have c1 : enc (1, 1) = .tup [.int 1, .int 1] := rfl
  have c2 : enc (1, 9) = .tup [.int 1, .int 9] := rfl
  rw [c1] at o1
  rw [c2] at o2
  obtain ⟨x, h4, e4, hh4, hx⟩ := any_ok hh3 R [enc q, enc (overQ (1, 1) (at' T i j)), enc (addQ (at' T i j) (1, 9))] (by simp) (by simp)
  obtain ⟨z, rfl, hz⟩ : ∃ z, x = enc z ∧ Rk (k + 5) z := by
    simp only [List.mem_cons, List.not_mem_nil, or_false] at hx
    rcases hx with rfl | rfl | rfl
    · exact ⟨_, rfl, hq.mono (by omega)⟩
    · exact ⟨_, rfl, (overRk (rk_one (k := 1) (by decide)) rk).mono (by omega)⟩
    · exact ⟨_, rfl, (addRk' rk r19).mono (by omega)⟩
  obtain ⟨rl, rm⟩ := ht.rowK hi
  let row : List (Nat × Nat) := (rowA T i).take j ++ [z] ++ (rowA T i).drop (j + 1)
  refine ⟨T.take i ++ [row] ++ T.drop (i + 1), h4, ?_, hh4, ?_⟩
  · have g1 := ht.get1 (.lst h3 :: R) hi
    have g2 := ht.get2 (.lst h3 :: R) hi hj
    have g3 := ht.get1 (.lst h4 :: R) hi
    have d1 : slO (encR (rowA T i)) none (some (j : Int)) (.lst h4 :: R) = .ok (.tup (((rowA T i).map enc).take j)) (.lst h4 :: R) := by
      show slO (.tup _) _ _ _ = _
      rw [slO_tup, cut_lo]
    have d2 : slO (encR (rowA T i)) (some ((j : Int) + 1)) none (.lst h4 :: R) = .ok (.tup (((rowA T i).map enc).drop (j + 1))) (.lst h4 :: R) := by
      show slO (.tup _) _ _ _ = _
      rw [slO_tup, show ((j : Int) + 1) = ((j + 1 : Nat) : Int) from rfl, cut_hi]
    have d3 : slO (encT T) none (some (i : Int)) (.lst h4 :: R) = .ok (.tup ((T.map encR).take i)) (.lst h4 :: R) := by
      show slO (.tup _) _ _ _ = _
      rw [slO_tup, cut_lo]
    have d4 : slO (encT T) (some ((i : Int) + 1)) none (.lst h4 :: R) = .ok (.tup ((T.map encR).drop (i + 1))) (.lst h4 :: R) := by
      show slO (.tup _) _ _ _ = _
      rw [slO_tup, show ((i : Int) + 1) = ((i + 1 : Nat) : Int) from rfl, cut_hi]
    have a1 : ∀ (xs : List D) (y : D) S, xs.length ≤ 100 → addO (.tup xs) (.tup [y]) S = .ok (.tup (xs ++ [y])) S := fun xs y S h => addO_tup S (by simp; omega)
    have a2 : ∀ (xs ys : List D) S, xs.length ≤ 100 → ys.length ≤ 100 → addO (.tup xs) (.tup ys) S = .ok (.tup (xs ++ ys)) S := fun xs ys S h h2 => addO_tup S (by omega)
    have l1 : ∀ n, (((rowA T i).map enc).take n).length ≤ 13 := fun n => by rw [List.length_take, List.length_map]; omega
    have l2 : ∀ n, (((rowA T i).map enc).drop n).length ≤ 13 := fun n => by rw [List.length_drop, List.length_map]; omega
    have l3 : ∀ n, ((T.map encR).take n).length ≤ 13 := fun n => by rw [List.length_take, List.length_map]; omega
    have l4 : ∀ n, ((T.map encR).drop n).length ≤ 13 := fun n => by rw [List.length_drop, List.length_map]; omega
    have m1 := a1 (((rowA T i).map enc).take j) (enc z) (.lst h4 :: R) (by have := l1 j; omega)
    have m2 := a2 (((rowA T i).map enc).take j ++ [enc z]) (((rowA T i).map enc).drop (j + 1)) (.lst h4 :: R) (by have := l1 j; rw [List.length_append]; simp only [List.length_cons, List.length_nil]; omega) (by have := l2 (j + 1); omega)
    have er : encR row = .tup (((rowA T i).map enc).take j ++ [enc z] ++ ((rowA T i).map enc).drop (j + 1)) := by
      simp [row, encR, List.map_take, List.map_drop]
    have m3 := a1 ((T.map encR).take i) (encR row) (.lst h4 :: R) (by have := l3 i; omega)
    have m4 := a2 ((T.map encR).take i ++ [encR row]) ((T.map encR).drop (i + 1)) (.lst h4 :: R) (by have := l3 i; rw [List.length_append]; simp only [List.length_cons, List.length_nil]; omega) (by have := l4 (i + 1); omega)
    rw [← er] at m2
    have eT : encT (T.take i ++ [row] ++ T.drop (i + 1)) = .tup ((T.map encR).take i ++ [encR row] ++ (T.map encR).drop (i + 1)) := by
      simp [encT, List.map_take, List.map_drop]
    simp only [m_law_spoiled, defM_at]
    rw [eT]
    simp [-List.append_assoc, lenT, e1, e2, e3, g1, g2, g3, o1, o2, tupO_le, lstO_le, e4, d1, d2, d3, d4, m1, m2, m3, m4]
  · have hl : (T.take i ++ [row] ++ T.drop (i + 1)).length = T.length := by simp; omega
    refine ⟨by omega, by omega, fun r hr => ?_⟩
    rw [hl]
    rw [List.mem_append, List.mem_append, List.mem_singleton] at hr
    rcases hr with (hr | rfl) | hr
    · obtain ⟨a, b⟩ := ht.rows r (List.mem_of_mem_take hr)
      exact ⟨a, fun q hq => (b q hq).mono (by omega)⟩
    · refine ⟨by simp [row, rl]; omega, fun q hq => ?_⟩
      rw [List.mem_append, List.mem_append, List.mem_singleton] at hq
      rcases hq with (hq | rfl) | hq
      · exact (rm q (List.mem_of_mem_take hq)).mono (by omega)
      · exact hz
      · exact (rm q (List.mem_of_mem_drop hq)).mono (by omega)
    · obtain ⟨a, b⟩ := ht.rows r (List.mem_of_mem_drop hr)
      exact ⟨a, fun q hq => (b q hq).mono (by omega)⟩
end K85

namespace K85
open PySem PySem.Spec PyProof.Rows L2 DL
inductive KindR (n : Nat) : D → (Nat → Nat → Nat) → Prop where
  | old : KindR n (.str "old") fun i _ => i
  | new : KindR n (.str "new") fun _ j => j
  | year (y : Nat) : y < n → KindR n (.int (y : Nat)) fun _ _ => y
structure Gr (g : Nat) (P : Tab) : Prop where
  lo : 1 ≤ P.length
  hi : P.length ≤ 12
  g0 : 1 ≤ g
  g1 : g ≤ 6
  rows : ∀ r ∈ P, r.length = g ∧ ∀ q ∈ r, Rk 8 q
def dotB (P B : Tab) (f : Nat → Nat → Nat) (i j l : Nat) : Nat × Nat := dotQ (rowA B (f i j)) (rowA P l)
def cellB (P B : Tab) (f : Nat → Nat → Nat) (i j : Nat) : Nat × Nat := overQ (dotB P B f i j j) (dotB P B f i j i)
def rowB (P B : Tab) (f : Nat → Nat → Nat) (i : Nat) : List (Nat × Nat) := (List.range P.length).map (cellB P B f i)
def basketT (P B : Tab) (f : Nat → Nat → Nat) : Tab := (List.range P.length).map (rowB P B f)
theorem app_at {S J : DS} {ys : List D} (y : D) (h : ys.length ≤ 9000) : appendO (.ref S.length) [y] (S ++ .lst ys :: J) = .ok .non (S ++ .lst (ys ++ [y]) :: J) := by
  unfold appendO
  simp only [List.getElem?_append_right (Nat.le_refl _), Nat.sub_self, List.getElem?_cons_zero]
  rw [if_pos (Nat.lt_of_le_of_lt h (by decide)), List.set_append_right _ _ (Nat.le_refl _), Nat.sub_self]
  rfl
theorem range_map_succ {α : Type} (f : Nat → α) (k : Nat) : (List.range (k + 1)).map f = (List.range k).map f ++ [f k] := by
  rw [List.range_succ, List.map_append]; rfl
section
variable {g : Nat} {P B : Tab} {f : Nat → Nat → Nat} {kd : D} (hP : Gr g P) (hB : Gr g B) (hl : B.length = P.length) (hk : KindR P.length kd f)
theorem Gr.row {g : Nat} {P : Tab} (h : Gr g P) {i : Nat} (hi : i < P.length) : P[i]? = some (rowA P i) := by
  unfold rowA
  rw [List.getD_eq_getElem?_getD, List.getElem?_eq_getElem hi]; rfl
theorem Gr.rowK {g : Nat} {P : Tab} (h : Gr g P) {i : Nat} (hi : i < P.length) : (rowA P i).length = g ∧ ∀ q ∈ rowA P i, Rk 8 q := h.rows _ (List.mem_of_getElem? (h.row hi))
theorem Gr.get {g : Nat} {P : Tab} (h : Gr g P) (S : DS) {i : Nat} (hi : i < P.length) : ixO (encT P) (.int (i : Nat)) S = .ok (encR (rowA P i)) S := getI_map encR P i (h.row hi)
include hk in
theorem kind_lt {i j : Nat} (hi : i < P.length) (hj : j < P.length) : f i j < P.length := by
  cases hk with
  | old => exact hi
  | new => exact hj
  | year y h => exact h
include hP hB hl hk
theorem dot_at {i j l : Nat} (hi : i < P.length) (hj : j < P.length) (hll : l < P.length) (S : DS) :
    m_dot [encR (rowA B (f i j)), encR (rowA P l)] S = .ok (enc (dotB P B f i j l)) S ∧ m_law_dot [encR (rowA B (f i j)), encR (rowA P l)] S = .ok (enc (dotB P B f i j l)) S ∧ Rk 103 (dotB P B f i j l) := by
  obtain ⟨b1, b2⟩ := hB.rowK (i := f i j) (by rw [hl]; exact kind_lt hk hi hj)
  obtain ⟨p1, p2⟩ := hP.rowK hll
  have g0 := hP.g0
  have g1 := hP.g1
  have hz : ((rowA B (f i j)).zip (rowA P l)).length = g := by rw [List.length_zip]; omega
  have hb : 1 + (8 + 8 + 1) * ((rowA B (f i j)).zip (rowA P l)).length ≤ 103 := by rw [hz]; omega
  refine ⟨dot_ok S b2 p2 (by omega), ldot_ok S b2 p2 (by omega), (dot_rk b2 p2 fun z => ?_).mono hb⟩
  rw [z] at hz
  simp at hz
  omega
theorem cell_at' {i j : Nat} (hi : i < P.length) (hj : j < P.length) (S : DS) :
    m_over [enc (dotB P B f i j j), enc (dotB P B f i j i)] S = .ok (enc (cellB P B f i j)) S ∧ m_law_over [enc (dotB P B f i j j), enc (dotB P B f i j i)] S = .ok (enc (cellB P B f i j)) S ∧ Rk 206 (cellB P B f i j) := by
  have d1 := (dot_at hP hB hl hk hi hj hj S).2.2
  have d2 := (dot_at hP hB hl hk hi hj hi S).2.2
  exact ⟨over_ok S d1 d2 (by omega), lover_ok S d1 d2 (by omega), overRk d1 d2⟩
theorem basketTk : Tk 206 (basketT P B f) := by
  have hl' : (basketT P B f).length = P.length := by simp [basketT]
  refine ⟨by rw [hl']; exact hP.lo, by rw [hl']; exact hP.hi, fun r hr => ?_⟩
  obtain ⟨i, hi, rfl⟩ := List.mem_map.mp hr
  refine ⟨by simp [rowB, hl'], fun q hq => ?_⟩
  obtain ⟨j, hj, rfl⟩ := List.mem_map.mp hq
  exact (cell_at' hP hB hl hk (by simpa using hi) (by simpa using hj) []).2.2
omit hP hB hl in
/-- which basket -/
theorem pick_ok (a b : Nat) (env : DE) (S : DS) {i j : Nat} (ha : env[a]? = some (some (.int (i : Nat)))) (hb : env[b]? = some (some (.int (j : Nat)))) (hkd : env[2]? = some (some kd)) :
    mIf (mT (m2 eqO (mV 2) (mC (.str "old")))) (mV a) (mIf (mT (m2 eqO (mV 2) (mC (.str "new")))) (mV b) (mV 2)) env S = .ok (.int (f i j : Nat)) S := by
  have n1 : (Str.ofString "new" = Str.ofString "old") = False := eq_false (by decide)
  cases hk with
  | old => simp [ha, hkd]
  | new => simp [hb, hkd, n1]
  | year y h => simp [hkd]
noncomputable abbrev ltIn : MS := (mSeq (mSet 7 (m2 ixO (mV 1) (mIf (mT (m2 eqO (mV 2) (mC (.str "old")))) (mV 4) (mIf (mT (m2 eqO (mV 2) (mC (.str "new")))) (mV 6) (mV 2)))))
    (mDo (mMeth .lst appendO (mV 5) (maC (mL m_law_over (maC (mL m_law_dot (maC (mV 7) (maC (m2 ixO (mV 0) (mV 6)) maN))) (maC (mL m_law_dot (maC (mV 7) (maC (m2 ixO (mV 0) (mV 4)) maN))) maN))) maN))))
theorem lt_inner (i : Nat) (hi : i < P.length) (S1 : DS) (fd : D) (x6 x7 : Option D) :
    ∃ x6' x7', forL (gN 6) ltIn ⟨(List.range P.length).map fun (i : Nat) => D.int (i : Int), none⟩ ((List.range P.length).map fun (i : Nat) => D.int (i : Int))
      [some (encT P), some (encT B), some kd, some fd, some (.int (i : Nat)), some (.ref S1.length), x6, x7] (S1 ++ [.lst []]) =
      .ok (.nx, [some (encT P), some (encT B), some kd, some fd, some (.int (i : Nat)), some (.ref S1.length), x6', x7']) (S1 ++ [.lst ((rowB P B f i).map enc)]) := by
  obtain ⟨env', S', e, ⟨x6', x7', rfl, rfl⟩⟩ := forL_all (it := ⟨(List.range P.length).map fun (i : Nat) => D.int (i : Int), none⟩) (mg := gN 6) (p := ltIn) rfl
    (I := fun k env S => ∃ x6 x7, env = [some (encT P), some (encT B), some kd, some fd, some (.int (i : Nat)), some (.ref S1.length), x6, x7] ∧ S = S1 ++ [.lst (((List.range k).map (cellB P B f i)).map enc)])
    ((List.range P.length).map fun (i : Nat) => D.int (i : Int)) 0 [some (encT P), some (encT B), some kd, some fd, some (.int (i : Nat)), some (.ref S1.length), x6, x7] (S1 ++ [.lst []]) ⟨x6, x7, rfl, rfl⟩ (fun j d hd env S hI => by
      obtain ⟨x6, x7, rfl, rfl⟩ := hI
      rw [Nat.zero_add]
      have hj : j < P.length := by
        by_cases z : j < P.length
        · exact z
        · rw [List.getElem?_eq_none (by simp; omega)] at hd; cases hd
      rw [List.getElem?_map, List.getElem?_range hj] at hd
      cases hd
      have hb := kind_lt hk hi hj
      generalize hS : S1 ++ [DO.lst (((List.range j).map (cellB P B f i)).map enc)] = S
      have p := pick_ok hk 4 6 [some (encT P), some (encT B), some kd, some fd, some (.int (i : Nat)), some (.ref S1.length), some (.int (j : Nat)), x7] S (i := i) (j := j) rfl rfl rfl
      have gb := hB.get S (i := f i j) (by rw [hl]; exact hb)
      have g1 := hP.get S hi
      have g2 := hP.get S hj
      obtain ⟨_, d1, _⟩ := dot_at hP hB hl hk hi hj hj S
      obtain ⟨_, d2, _⟩ := dot_at hP hB hl hk hi hj hi S
      obtain ⟨_, c1, _⟩ := cell_at' hP hB hl hk hi hj S
      have ap := app_at (S := S1) (J := []) (ys := ((List.range j).map (cellB P B f i)).map enc) (enc (cellB P B f i j)) (by have := hP.hi; simp; omega)
      rw [hS] at ap
      refine ⟨_, _, ?_, ⟨some (.int (j : Nat)), some (encR (rowA B (f i j))), rfl, rfl⟩⟩
      rw [range_map_succ, List.map_append]
      simp only [turn_at, gN_at, turnK_ok, mSeq_at, mSet_at, m2_at, List.set_cons_succ, List.set_cons_zero, p, mV_at, List.getElem?_cons_succ, List.getElem?_cons_zero, m2K_ok, m2J_ok, gb, setK_ok, seqK_nx, mDo_at, mMeth_at, methK_ok]
      simp [RcT.ok, g1, g2, d1, d2, c1, ap])
  refine ⟨x6', x7', ?_⟩
  rw [e]
  simp [rowB]
end
end K85

namespace K85
open PySem PySem.Spec PyProof.Rows L2 DL
theorem unders_map {α : Type} (n : Nat) (g : α → D) : ∀ as : List α, (∀ a ∈ as, under n (g a) = true) → unders n (as.map g) = true
  | [], _ => rfl
  | a :: as, h => by
    rw [List.map_cons, unders, h a (List.mem_cons_self ..), unders_map n g as fun b hb => h b (List.mem_cons_of_mem _ hb)]
    rfl
theorem under_enc (n : Nat) (q : Nat × Nat) : under n (enc q) = true := rfl
theorem under_encR (n : Nat) (r : List (Nat × Nat)) : under n (encR r) = true := unders_map n enc r fun q _ => under_enc n q
theorem under_encT (n : Nat) (T : Tab) : under n (encT T) = true := unders_map n encR T fun r _ => under_encR n r
/-- no list of the state speaks of another -/
def Cl (S : DS) : Prop := ∀ n, S.all (underO n) = true
theorem drop_ok {S : DS} (h : Cl S) (d : D) (hd : ∀ n, under n d = true) (J : DS) : dropO S.length (.ok d (S ++ J)) = .ok d S := by
  unfold dropO
  simp only [List.take_left']
  rw [if_pos ⟨hd _, h _⟩]
theorem ref_at {S J : DS} {ys : List D} : (S ++ DO.lst ys :: J)[S.length]? = some (DO.lst ys) := by
  rw [List.getElem?_append_right (Nat.le_refl _), Nat.sub_self]; rfl
theorem tupleO_ref {S J : DS} {ys : List D} : tupleO [.ref S.length] (S ++ .lst ys :: J) = .ok (.tup ys) (S ++ .lst ys :: J) := by
  unfold tupleO
  simp only [ref_at]
theorem refO_at (S : DS) : refO [] S = .ok (.ref S.length) (S ++ [.lst []]) := if_pos (by decide)
section
variable {g : Nat} {P B : Tab} {f : Nat → Nat → Nat} {kd : D} (hP : Gr g P) (hB : Gr g B) (hl : B.length = P.length) (hk : KindR P.length kd f)
include hP hB hl hk
noncomputable abbrev ltOut : MS := (mSeq (mSet 5 (mL refO maN))
    (mSeq (mFor (mArgI rng1O (maC (mL lenO (maC (mV 0) maN)) maN)) (gN 6) ltIn)
    (mDo (mMeth .lst appendO (mV 3) (maC (mL tupleO (maC (mV 5) maN)) maN)))))
theorem law_table_ok (S0 : DS) (hc : Cl S0) : m_law_table [encT P, encT B, kd] S0 = .ok (encT (basketT P B f)) S0 := by
  have hr : ∀ S, rng1O [.int (P.length : Nat)] S = .ok ⟨(List.range P.length).map fun (i : Nat) => D.int (i : Int), none⟩ S := fun S => rng_at S P.length hP.hi
  obtain ⟨env', S', e, ⟨x4, x5, x6, x7, J, rfl, rfl⟩⟩ := forL_all (it := ⟨(List.range P.length).map fun (i : Nat) => D.int (i : Int), none⟩) (mg := gN 4) (p := ltOut) rfl
    (I := fun k env S => ∃ x4 x5 x6 x7 J, env = [some (encT P), some (encT B), some kd, some (.ref S0.length), x4, x5, x6, x7] ∧ S = S0 ++ .lst (((List.range k).map (rowB P B f)).map encR) :: J)
    ((List.range P.length).map fun (i : Nat) => D.int (i : Int)) 0 [some (encT P), some (encT B), some kd, some (.ref S0.length), none, none, none, none] (S0 ++ [.lst []]) ⟨none, none, none, none, [], rfl, rfl⟩ (fun i d hd env S hI => by
      obtain ⟨x4, x5, x6, x7, J, rfl, rfl⟩ := hI
      rw [Nat.zero_add]
      have hi : i < P.length := by
        by_cases z : i < P.length
        · exact z
        · rw [List.getElem?_eq_none (by simp; omega)] at hd; cases hd
      rw [List.getElem?_map, List.getElem?_range hi] at hd
      cases hd
      generalize hF : ((List.range i).map (rowB P B f)).map encR = F
      have hFl : F.length ≤ 9000 := by have := hP.hi; rw [← hF]; simp; omega
      obtain ⟨x6', x7', e⟩ := lt_inner hP hB hl hk i hi (S0 ++ .lst F :: J) (.ref S0.length) x6 x7
      have ra := refO_at (S0 ++ .lst F :: J)
      have ta := tupleO_ref (S := S0 ++ .lst F :: J) (J := []) (ys := (rowB P B f i).map enc)
      have ap := app_at (S := S0) (J := J ++ [.lst ((rowB P B f i).map enc)]) (ys := F) (encR (rowB P B f i)) hFl
      have as : (S0 ++ .lst F :: J) ++ [DO.lst ((rowB P B f i).map enc)] = S0 ++ .lst F :: (J ++ [.lst ((rowB P B f i).map enc)]) := by simp
      rw [← as] at ap
      generalize hS1 : S0 ++ DO.lst F :: J = S1 at *
      refine ⟨_, _, ?_, ⟨some (.int (i : Nat)), some (.ref S1.length), x6', x7', J ++ [.lst ((rowB P B f i).map enc)], rfl, rfl⟩⟩
      rw [range_map_succ, List.map_append, hF]
      have ta' : tupleO [.ref S1.length] (S1 ++ [.lst ((rowB P B f i).map enc)]) = .ok (encR (rowB P B f i)) (S1 ++ [.lst ((rowB P B f i).map enc)]) := ta
      simp only [turn_at, gN_at, turnK_ok, mSeq_at, mSet_at, mL_at, maN_at, bind_ok, ra, setK_ok, List.set_cons_succ, List.set_cons_zero, seqK_nx, mFor_at, mArgI_at, maC_at, mV_at, List.getElem?_cons_zero, maK_ok, maJ_ok, lenT, hr, forK_ok, e]
      simp [RcT.ok, ta', ap])
  have ta := tupleO_ref (S := S0) (J := J) (ys := ((List.range P.length).map (rowB P B f)).map encR)
  have ta' : tupleO [.ref S0.length] (S0 ++ .lst (((List.range P.length).map (rowB P B f)).map encR) :: J) = .ok (encT (basketT P B f)) (S0 ++ .lst (((List.range P.length).map (rowB P B f)).map encR) :: J) := ta
  have e0 : 0 + ((List.range P.length).map fun (i : Nat) => D.int (i : Int)).length = P.length := by simp
  rw [e0] at e
  have ra := refO_at S0
  simp only [m_law_table, defD_at]
  rw [startE_at]
  simp only [List.map_cons, List.map_nil, List.length_cons, List.length_nil, Nat.reduceAdd, Nat.reduceSub, List.reduceReplicate, if_true, List.cons_append, List.nil_append, mSeq_at, mSet_at, mL_at, maN_at, bind_ok, ra, setK_ok, List.set_cons_succ, List.set_cons_zero, seqK_nx, mFor_at, mArgI_at, maC_at, mV_at, List.getElem?_cons_zero, maK_ok, maJ_ok, lenT, hr, forK_ok, e]
  simp only [mRet_at, mL_at, maC_at, mV_at, List.getElem?_cons_succ, List.getElem?_cons_zero, maK_ok, maN_at, maJ_ok, bind_ok, ta', retK_ok, retO_rt]
  exact drop_ok hc _ (fun n => under_encT n _) _
noncomputable abbrev btIn : MS := (mSeq (mSet 9 (m2 ixO (mV 1) (mIf (mT (m2 eqO (mV 2) (mC (.str "old")))) (mV 4) (mIf (mT (m2 eqO (mV 2) (mC (.str "new")))) (mV 7) (mV 2)))))
    (mDo (mMeth .lst appendO (mV 6) (maC (mL m_over (maC (mL m_dot (maC (mV 9) (maC (mV 8) maN))) (maC (mL m_dot (maC (mV 9) (maC (mV 5) maN))) maN))) maN))))
noncomputable abbrev btOut : MS := (mSeq (mSet 6 (mL refO maN))
    (mSeq (mFor (mArgI enumO (maC (mV 0) maN)) (gT 2 (gsC (gN 7) (gsC (gN 8) gsN))) btIn)
    (mDo (mMeth .lst appendO (mV 3) (maC (mL tupleO (maC (mV 6) maN)) maN)))))
abbrev enP (P : Tab) : List D := (List.range P.length).map fun (i : Nat) => D.tup [.int (i : Int), encR (rowA P i)]
omit hP hB hl hk in
theorem enum_at (P : Tab) (S : DS) : enumO [encT P] S = .ok ⟨enP P, none⟩ S := by
  have e : enumD 0 (P.map encR) = enP P := by
    refine List.ext_getElem? fun i => ?_
    rw [enumD_get, List.getElem?_map, List.getElem?_map]
    by_cases h : i < P.length
    · rw [List.getElem?_range h, List.getElem?_eq_getElem h]
      simp [rowA, h]
    · rw [List.getElem?_eq_none (by omega), List.getElem?_eq_none (by simp; omega)]
      rfl
  show Ou.ok (Itm.mk (enumD 0 (P.map encR)) none) S = _
  rw [e]
theorem bt_inner (i : Nat) (hi : i < P.length) (S1 : DS) (fd : D) (x7 x8 x9 : Option D) :
    ∃ x7' x8' x9', forL (gT 2 (gsC (gN 7) (gsC (gN 8) gsN))) btIn ⟨enP P, none⟩ (enP P)
      [some (encT P), some (encT B), some kd, some fd, some (.int (i : Nat)), some (encR (rowA P i)), some (.ref S1.length), x7, x8, x9] (S1 ++ [.lst []]) =
      .ok (.nx, [some (encT P), some (encT B), some kd, some fd, some (.int (i : Nat)), some (encR (rowA P i)), some (.ref S1.length), x7', x8', x9']) (S1 ++ [.lst ((rowB P B f i).map enc)]) := by
  obtain ⟨env', S', e, ⟨x7', x8', x9', rfl, rfl⟩⟩ := forL_all (it := ⟨enP P, none⟩) (mg := gT 2 (gsC (gN 7) (gsC (gN 8) gsN))) (p := btIn) rfl
    (I := fun k env S => ∃ x7 x8 x9, env = [some (encT P), some (encT B), some kd, some fd, some (.int (i : Nat)), some (encR (rowA P i)), some (.ref S1.length), x7, x8, x9] ∧ S = S1 ++ [.lst (((List.range k).map (cellB P B f i)).map enc)])
    (enP P) 0 [some (encT P), some (encT B), some kd, some fd, some (.int (i : Nat)), some (encR (rowA P i)), some (.ref S1.length), x7, x8, x9] (S1 ++ [.lst []]) ⟨x7, x8, x9, rfl, rfl⟩ (fun j d hd env S hI => by
      obtain ⟨x7, x8, x9, rfl, rfl⟩ := hI
      rw [Nat.zero_add]
      have hj : j < P.length := by
        by_cases z : j < P.length
        · exact z
        · rw [List.getElem?_eq_none (by simp; omega)] at hd; cases hd
      rw [List.getElem?_map, List.getElem?_range hj] at hd
      cases hd
      have hb := kind_lt hk hi hj
      generalize hS : S1 ++ [DO.lst (((List.range j).map (cellB P B f i)).map enc)] = S
      have p := pick_ok hk 4 7 [some (encT P), some (encT B), some kd, some fd, some (.int (i : Nat)), some (encR (rowA P i)), some (.ref S1.length), some (.int (j : Nat)), some (encR (rowA P j)), x9] S (i := i) (j := j) rfl rfl rfl
      have gb := hB.get S (i := f i j) (by rw [hl]; exact hb)
      obtain ⟨d1, _, _⟩ := dot_at hP hB hl hk hi hj hj S
      obtain ⟨d2, _, _⟩ := dot_at hP hB hl hk hi hj hi S
      obtain ⟨c1, _, _⟩ := cell_at' hP hB hl hk hi hj S
      have ap := app_at (S := S1) (J := []) (ys := ((List.range j).map (cellB P B f i)).map enc) (enc (cellB P B f i j)) (by have := hP.hi; simp; omega)
      rw [hS] at ap
      refine ⟨_, _, ?_, ⟨some (.int (j : Nat)), some (encR (rowA P j)), some (encR (rowA B (f i j))), rfl, rfl⟩⟩
      rw [range_map_succ, List.map_append]
      simp only [turn_at, gT_at, gsC_at, gsN_at, gsK_ok, List.length_cons, List.length_nil, Nat.reduceAdd, if_true, gN_at, turnK_ok, mSeq_at, mSet_at, m2_at, List.set_cons_succ, List.set_cons_zero, p, mV_at, List.getElem?_cons_succ, List.getElem?_cons_zero, m2K_ok, m2J_ok, gb, setK_ok, seqK_nx, mDo_at, mMeth_at, methK_ok]
      simp [RcT.ok, d1, d2, c1, ap])
  refine ⟨x7', x8', x9', ?_⟩
  rw [e]
  simp [rowB]
end
end K85

namespace K85
open PySem PySem.Spec PyProof.Rows L2 DL
theorem is_rows_ok {g : Nat} {P : Tab} (h : Gr g P) (S : DS) : m_is_rows [encT P] S = .ok (.bl true) S := by
  have hlo := h.lo
  have hhi := h.hi
  have h0 := h.g0
  have h1 := h.g1
  have g0 := h.get S (i := 0) (by omega)
  obtain ⟨r1, r2⟩ := h.rowK (i := 0) (by omega)
  have s1 : m_is_sized [encT P, .int 1, .int 12] S = .ok (.bl true) S := sized_ok S (P.map encR) 1 12 (by simpa using h.lo) (by simpa using h.hi)
  have s2 : m_is_sized [encR (rowA P 0), .int 1, .int 6] S = .ok (.bl true) S := sized_ok S ((rowA P 0).map enc) 1 6 (by simp; omega) (by simp; omega)
  have e2 : asItm (encT P) S = .ok ⟨P.map encR, none⟩ S := rfl
  have ln : lenO [encR (rowA P 0)] S = .ok (.int (g : Nat)) S := by
    show Ou.ok (D.int (((rowA P 0).map enc).length : Nat)) S = _
    rw [List.length_map, r1]
  simp at g0
  have h2 : lcK (gN 1) mYes (mL m_is_grid (maC (mV 1) (maC (mL lenO (maC (m2 ixO (mV 0) (mC (.int 0))) maN)) maN))) [1] finV [some (encT P), none] (.ok ⟨P.map encR, none⟩ S) = .ok (.vl (P.map fun _ => .bl true)) S := by
    rw [lcK_F encR (fun _ => .bl true) P (le_line (by omega))]
    · rfl
    · intro r hr
      obtain ⟨l1, l2⟩ := h.rows r hr
      have := is_grid_ok S l2 (by omega)
      rw [l1] at this
      simp [wipeE, g0, ln, this]
  simp only [m_is_rows, defM_at]
  simp [s1, s2, g0, e2, h2, all_true]
theorem in_old : ∀ S, inO (.str "old") (.tup [.str "old", .str "new"]) S = .ok (.bl true) S := fun S => by
  unfold inO
  rw [show inD (.str "old") (.tup [.str "old", .str "new"]) = some true from by decide +kernel]
theorem in_new : ∀ S, inO (.str "new") (.tup [.str "old", .str "new"]) S = .ok (.bl true) S := fun S => by
  unfold inO
  rw [show inD (.str "new") (.tup [.str "old", .str "new"]) = some true from by decide +kernel]
theorem not_int (x : Str) (lo hi : D) (S : DS) : m_is_within [.str x, lo, hi] S = .ok (.bl false) S := by
  have : m_is_integer [.str x] S = .ok (.bl false) S := by
    simp only [m_is_integer, defM_at]
    simp [isTy]
  simp only [m_is_within, defM_at]
  simp [this]
section
variable {g : Nat} {P B : Tab} {f : Nat → Nat → Nat} {kd : D} (hP : Gr g P) (hB : Gr g B) (hl : B.length = P.length) (hk : KindR P.length kd f)
include hP hB hl hk
theorem basket_table_ok (S0 : DS) (hc : Cl S0) : m_basket_table [encT P, encT B, kd] S0 = .ok (encT (basketT P B f)) S0 := by
  obtain ⟨env', S', e, ⟨x4, x5, x6, x7, x8, x9, J, rfl, rfl⟩⟩ := forL_all (it := ⟨enP P, none⟩) (mg := gT 2 (gsC (gN 4) (gsC (gN 5) gsN))) (p := btOut) rfl
    (I := fun k env S => ∃ x4 x5 x6 x7 x8 x9 J, env = [some (encT P), some (encT B), some kd, some (.ref S0.length), x4, x5, x6, x7, x8, x9] ∧ S = S0 ++ .lst (((List.range k).map (rowB P B f)).map encR) :: J)
    (enP P) 0 [some (encT P), some (encT B), some kd, some (.ref S0.length), none, none, none, none, none, none] (S0 ++ [.lst []]) ⟨none, none, none, none, none, none, [], rfl, rfl⟩ (fun i d hd env S hI => by
      obtain ⟨x4, x5, x6, x7, x8, x9, J, rfl, rfl⟩ := hI
      rw [Nat.zero_add]
      have hi : i < P.length := by
        by_cases z : i < P.length
        · exact z
        · rw [List.getElem?_eq_none (by simp; omega)] at hd; cases hd
      rw [List.getElem?_map, List.getElem?_range hi] at hd
      cases hd
      generalize hF : ((List.range i).map (rowB P B f)).map encR = F
      have hFl : F.length ≤ 9000 := by have := hP.hi; rw [← hF]; simp; omega
      obtain ⟨x7', x8', x9', e⟩ := bt_inner hP hB hl hk i hi (S0 ++ .lst F :: J) (.ref S0.length) x7 x8 x9
      have ra := refO_at (S0 ++ .lst F :: J)
      have ta := tupleO_ref (S := S0 ++ .lst F :: J) (J := []) (ys := (rowB P B f i).map enc)
      have ap := app_at (S := S0) (J := J ++ [.lst ((rowB P B f i).map enc)]) (ys := F) (encR (rowB P B f i)) hFl
      have as : (S0 ++ .lst F :: J) ++ [DO.lst ((rowB P B f i).map enc)] = S0 ++ .lst F :: (J ++ [.lst ((rowB P B f i).map enc)]) := by simp
      rw [← as] at ap
      generalize hS1 : S0 ++ DO.lst F :: J = S1 at *
      refine ⟨_, _, ?_, ⟨some (.int (i : Nat)), some (encR (rowA P i)), some (.ref S1.length), x7', x8', x9', J ++ [.lst ((rowB P B f i).map enc)], rfl, rfl⟩⟩
      rw [range_map_succ, List.map_append, hF]
      have ta' : tupleO [.ref S1.length] (S1 ++ [.lst ((rowB P B f i).map enc)]) = .ok (encR (rowB P B f i)) (S1 ++ [.lst ((rowB P B f i).map enc)]) := ta
      simp only [turn_at, gT_at, gsC_at, gsN_at, gsK_ok, List.length_cons, List.length_nil, Nat.reduceAdd, if_true, gN_at, turnK_ok, mSeq_at, mSet_at, mL_at, maN_at, bind_ok, ra, setK_ok, List.set_cons_succ, List.set_cons_zero, seqK_nx, mFor_at, mArgI_at, maC_at, mV_at, List.getElem?_cons_zero, maK_ok, maJ_ok, enum_at, forK_ok, e]
      simp [RcT.ok, ta', ap])
  have ta := tupleO_ref (S := S0) (J := J) (ys := ((List.range P.length).map (rowB P B f)).map encR)
  have ta' : tupleO [.ref S0.length] (S0 ++ .lst (((List.range P.length).map (rowB P B f)).map encR) :: J) = .ok (encT (basketT P B f)) (S0 ++ .lst (((List.range P.length).map (rowB P B f)).map encR) :: J) := ta
  have e0 : 0 + (enP P).length = P.length := by simp
  rw [e0] at e
  have ra := refO_at S0
  have hlo := hP.lo
  have r1 := is_rows_ok hP S0
  have r2 := is_rows_ok hB S0
  have l1 := lenT S0 P
  have l2 := lenT S0 B
  rw [hl] at l2
  have p0 := hP.get S0 (i := 0) (by omega)
  have b0 := hB.get S0 (i := 0) (by omega)
  simp at p0 b0
  have pl : lenO [encR (rowA P 0)] S0 = .ok (.int (g : Nat)) S0 := by
    show Ou.ok (D.int (((rowA P 0).map enc).length : Nat)) S0 = _
    rw [List.length_map, (hP.rowK (i := 0) (by omega)).1]
  have bl : lenO [encR (rowA B 0)] S0 = .ok (.int (g : Nat)) S0 := by
    show Ou.ok (D.int (((rowA B 0).map enc).length : Nat)) S0 = _
    rw [List.length_map, (hB.rowK (i := 0) (by omega)).1]
  have guard : mAnd (mNot (mT (mL m_is_within (maC (mV 2) (maC (mC (.int 0)) (maC (m2 subO (mL lenO (maC (mV 0) maN)) (mC (.int 1))) maN)))))) (mNot (mAnd (mT (isiM "str" (mV 2))) (mT (m2 inO (mV 2) (mL tupO (maC (mC (.str "old")) (maC (mC (.str "new")) maN)))))))
      [some (encT P), some (encT B), some kd, none, none, none, none, none, none, none] S0 = .ok false S0 := by
    cases hk with
    | old => simp [l1, not_int, isTy, tupO, in_old]
    | new => simp [l1, not_int, isTy, tupO, in_new]
    | year y h =>
      have w : m_is_within [.int (y : Nat), .int 0, .int ((P.length : Int) - 1)] S0 = .ok (.bl true) S0 := by
        simp only [m_is_within, defM_at]
        have q : ((y : Int) ≤ (P.length : Int) - 1) = True := eq_true (by omega)
        simp [integer_ok, q]
      simp [l1, w]
  simp only [m_basket_table, defD_at]
  rw [startE_at]
  simp only [List.map_cons, List.map_nil, List.length_cons, List.length_nil, Nat.reduceAdd, Nat.reduceSub, List.reduceReplicate, if_true, List.cons_append, List.nil_append]
  have st1 : mIfS (mNot (mT (mL m_is_rows (maC (mV 0) maN)))) mNever mNx [some (encT P), some (encT B), some kd, none, none, none, none, none, none, none] S0 = .ok (.nx, [some (encT P), some (encT B), some kd, none, none, none, none, none, none, none]) S0 := by
    simp [r1]
  have st2 : mIfS (mOr (mNot (mT (mL m_is_rows (maC (mV 1) maN)))) (mOr (mT (m2 neO (mL lenO (maC (mV 1) maN)) (mL lenO (maC (mV 0) maN)))) (mT (m2 neO (mL lenO (maC (m2 ixO (mV 1) (mC (.int 0))) maN)) (mL lenO (maC (m2 ixO (mV 0) (mC (.int 0))) maN)))))) mNever mNx
      [some (encT P), some (encT B), some kd, none, none, none, none, none, none, none] S0 = .ok (.nx, [some (encT P), some (encT B), some kd, none, none, none, none, none, none, none]) S0 := by
    simp [r2, l1, l2, p0, b0, pl, bl]
  rw [mSeq_at, st1, seqK_nx, mSeq_at, st2, seqK_nx, mSeq_at, mIfS_at, guard, ifSK_f, mNx_at, seqK_nx]
  simp only [mSeq_at, mSet_at, mL_at, maN_at, bind_ok, ra, setK_ok, List.set_cons_succ, List.set_cons_zero, seqK_nx, mFor_at, mArgI_at, maC_at, mV_at, List.getElem?_cons_zero, maK_ok, maJ_ok, enum_at, forK_ok, e]
  simp only [mRet_at, mL_at, maC_at, mV_at, List.getElem?_cons_succ, List.getElem?_cons_zero, maK_ok, maN_at, maJ_ok, bind_ok, ta', retK_ok, retO_rt]
  exact drop_ok hc _ (fun n => under_encT n _) _
end
end K85

namespace K85
open PySem PySem.Spec PyProof.Rows L2 DL
/-! ### what the tables say of each other -/
theorem lawOf_len (cs : List (Nat × Nat)) : (lawOf cs).length = cs.length := by simp [lawOf]
theorem lawOf_row {cs : List (Nat × Nat)} {i : Nat} {c : Nat × Nat} (h : cs[i]? = some c) : rowA (lawOf cs) i = cs.map fun other => overQ other c := by
  unfold rowA lawOf
  rw [List.getD_eq_getElem?_getD, List.getElem?_map, h]
  rfl
theorem lawOf_at {cs : List (Nat × Nat)} {i j : Nat} {c d : Nat × Nat} (h : cs[i]? = some c) (h2 : cs[j]? = some d) : at' (lawOf cs) i j = overQ d c := by
  unfold at'
  rw [lawOf_row h, List.getD_eq_getElem?_getD, List.getElem?_map, h2]
  rfl
theorem lawOfTk {k : Nat} {cs : List (Nat × Nat)} (h : ∀ q ∈ cs, Rk k q) (h1 : 1 ≤ cs.length) (h2 : cs.length ≤ 12) : Tk (k + k) (lawOf cs) := by
  refine ⟨by rw [lawOf_len]; exact h1, by rw [lawOf_len]; exact h2, fun r hr => ?_⟩
  obtain ⟨a, ha, rfl⟩ := List.mem_map.mp hr
  refine ⟨by rw [lawOf_len, List.length_map], fun q hq => ?_⟩
  obtain ⟨b, hb, rfl⟩ := List.mem_map.mp hq
  exact overRk (h b hb) (h a ha)
theorem lawOf_due {k : Nat} {c : Nat × Nat} {cs : List (Nat × Nat)} (h : ∀ q ∈ c :: cs, Rk k q) : dueF (lawOf (c :: cs)) = .tup [.str "levels", encR ((c :: cs).map fun one => overQ one c)] := by
  rcases due_cases (lawOf (c :: cs)) with ⟨e, _⟩ | ⟨i, j, l, hi, hj, hl, e⟩
  · rw [e, lawOf_row (c := c) rfl]
  · exfalso
    rw [lawOf_len] at hi hj hl
    have g : ∀ n, n < (c :: cs).length → ∃ x, (c :: cs)[n]? = some x ∧ Rk k x := fun n hn => ⟨(c :: cs)[n], List.getElem?_eq_getElem hn, h _ (List.getElem_mem hn)⟩
    unfold dueF at e
    cases f : (List.range (lawOf (c :: cs)).length).findSome? (f1 (lawOf (c :: cs))) with
    | none =>
      rw [f] at e
      simp only at e
      have : ("levels" : Str) = "turn" := by
        injection e with e
        injection e with e _
        injection e
      exact absurd this (by decide)
    | some x =>
      obtain ⟨i, hi, h1⟩ := findSome_some f
      obtain ⟨j, hj, h2⟩ := findSome_some h1
      obtain ⟨l, hl, h3⟩ := findSome_some h2
      rw [lawOf_len, List.mem_range] at hi hj hl
      obtain ⟨a, ga, ka⟩ := g i hi
      obtain ⟨b, gb, kb⟩ := g j hj
      obtain ⟨d, gd, kd⟩ := g l hl
      unfold f3 at h3
      rw [lawOf_at ga gb, lawOf_at gb gd, lawOf_at ga gd, chain_over ka kb kd, if_pos rfl] at h3
      cases h3
theorem lt63 {n : Nat} (h : n < 2 ^ 206) : n < 10 ^ 63 := Nat.lt_trans h (by decide +kernel)
theorem enc63 {k : Nat} {q : Nat × Nat} (h : Rk k q) (hk : k ≤ 206) : okD 63 (enc q) = true := by
  have h' := h.mono hk
  simp [enc, okD, okDs, lt63 h'.l1, lt63 h'.l2]
theorem encR63 {k : Nat} {r : List (Nat × Nat)} (h : ∀ q ∈ r, Rk k q) (hk : k ≤ 206) : okD 63 (encR r) = true := okDs_map 63 enc r fun q hq => enc63 (h q hq) hk
theorem encT63 {k : Nat} {T : Tab} (h : Tk k T) (hk : k ≤ 206) : okD 63 (encT T) = true := okDs_map 63 encR T fun r hr => encR63 (h.rows r hr).2 hk
theorem repr_table {k : Nat} {T : Tab} (h : Tk k T) (hk : k ≤ 206) (S : DS) : ∃ s, reprO [encT T] S = .ok (.str s) S := by
  refine ⟨_, repr_ok (k := 63) (by decide) (by decide) (encT63 h hk) (Nat.le_trans (encT_dep T) (by decide)) ?_⟩
  have hi := h.hi
  have e : siz 63 (encT T) ≤ (507 * 12 + 1) * T.length := sizs_map 63 (507 * 12) encR T fun r hr => by
    have := encR_siz 63 r
    have h2 := (h.rows r hr).1
    have : (8 * 63 + 3) * r.length ≤ 507 * 12 := Nat.mul_le_mul (by decide) (by omega)
    omega
  have e2 : (507 * 12 + 1) * T.length ≤ 6085 * 12 := Nat.mul_le_mul (by decide) hi
  have : sizeLine = 16777216 := rfl
  omega
theorem levels_self {k : Nat} {r : List (Nat × Nat)} (h : ∀ q ∈ r, Rk k q) (hk : 0 < k) (S : DS) : neO (.tup [.str "levels", encR r]) (.tup [.str "levels", encR r]) S = .ok (.bl false) S := by
  refine neO_self (k := k) hk ?_ ?_
  · simp only [okD, okDs, encR_ok h]; decide +kernel
  · have := encR_dep r
    simp only [dep, deps]; omega
section
variable {g : Nat} {P B : Tab} (hP : Gr g P) (hB : Gr g B) (hl : B.length = P.length)
include hP hB hl
/-- a year's basket: the table of its costs -/
theorem year_table (y : Nat) : basketT P B (fun _ _ => y) = lawOf (P.map fun r => dotQ (rowA B y) r) := by
  refine List.ext_getElem? fun i => ?_
  unfold basketT lawOf
  by_cases hi : i < P.length
  · rw [List.getElem?_map, List.getElem?_range hi, List.getElem?_map, List.getElem?_map, hP.row hi]
    simp only [Option.map_some]
    congr 1
    refine List.ext_getElem? fun j => ?_
    unfold rowB
    by_cases hj : j < P.length
    · rw [List.getElem?_map, List.getElem?_range hj, List.getElem?_map, List.getElem?_map, hP.row hj]
      rfl
    · rw [List.getElem?_eq_none (by simp; omega), List.getElem?_eq_none (by simp; omega)]
  · rw [List.getElem?_eq_none (by simp; omega), List.getElem?_eq_none (by simp; omega)]
theorem old_new : basketT P B (fun _ j => j) = (List.range P.length).map fun i => (List.range P.length).map fun j => overQ (1, 1) (at' (basketT P B fun i _ => i) j i) := by
  refine List.map_congr_left fun i hi => List.map_congr_left fun j hj => ?_
  have hi : i < P.length := by simpa using hi
  have hj : j < P.length := by simpa using hj
  have e : at' (basketT P B fun i _ => i) j i = cellB P B (fun i _ => i) j i := by
    unfold at' rowA basketT rowB
    simp [hi, hj]
  rw [e]
  obtain ⟨_, _, d1⟩ := dot_at hP hB hl (.old (n := P.length)) hj hi hi []
  obtain ⟨_, _, d2⟩ := dot_at hP hB hl (.old (n := P.length)) hj hi hj []
  exact (one_over d1 d2).symm
theorem one_good (hg : g = 1) {kd : D} {f : Nat → Nat → Nat} (hk : KindR P.length kd f) : basketT P B f = lawOf (P.map fun r => r.getD 0 (1, 1)) := by
  refine List.ext_getElem? fun i => ?_
  unfold basketT lawOf
  by_cases hi : i < P.length
  · rw [List.getElem?_map, List.getElem?_range hi, List.getElem?_map, List.getElem?_map, hP.row hi]
    simp only [Option.map_some]
    congr 1
    refine List.ext_getElem? fun j => ?_
    unfold rowB
    by_cases hj : j < P.length
    · rw [List.getElem?_map, List.getElem?_range hj, List.getElem?_map, List.getElem?_map, hP.row hj]
      simp only [Option.map_some]
      congr 1
      obtain ⟨b1, b2⟩ := hB.rowK (i := f i j) (by rw [hl]; exact kind_lt hk hi hj)
      obtain ⟨p1, p2⟩ := hP.rowK hi
      obtain ⟨q1, q2⟩ := hP.rowK hj
      unfold cellB dotB
      rw [hg] at b1 p1 q1
      match h1 : rowA B (f i j), b1, b2 with
      | [b], _, b2 =>
        match h2 : rowA P i, p1, p2 with
        | [p], _, p2 =>
          match h3 : rowA P j, q1, q2 with
          | [q], _, q2 =>
            have kb := b2 b (by simp)
            have kp := p2 p (by simp)
            have kq := q2 q (by simp)
            simp only [dotQ, List.zip_cons_cons, List.zip_nil_left, List.map_cons, List.map_nil, sumFrom, List.getD_cons_zero]
            rw [zero_add (mulRk kb kq), zero_add (mulRk kb kp)]
            exact over_mul kb kq kp
    · rw [List.getElem?_eq_none (by simp; omega), List.getElem?_eq_none (by simp; omega)]
  · rw [List.getElem?_eq_none (by simp; omega), List.getElem?_eq_none (by simp; omega)]
end
end K85

namespace K85
open PySem PySem.Spec PyProof.Rows L2 DL
theorem under_ints (n : Nat) (xs : List Int) : unders n (xs.map D.int) = true := unders_map n D.int xs fun _ _ => rfl
theorem hand_under {h : List D} (hh : Hand h) (n : Nat) : underO n (.lst h) = true := by
  obtain ⟨cells, a, r, m, c, _, _, _⟩ := hh
  simp [hnd, underO, unders, DL.under, under_ints]
theorem rows_under (n : Nat) (T : Tab) : underO n (.lst (T.map encR)) = true := unders_map n encR T fun r _ => under_encR n r
theorem tabs_under (n : Nat) (Ts : List Tab) : underO n (.lst (Ts.map encT)) = true := unders_map n encT Ts fun r _ => under_encT n r
theorem rng_int (n : Nat) (i : Int) (h : i = n) (hn : n ≤ 1000) (S : DS) : rng1O [.int i] S = .ok ⟨(List.range n).map fun (i : Nat) => D.int (i : Int), none⟩ S := by
  subst h
  exact rng1_nat n (by omega)
theorem any3 {h : List D} (hh : Hand h) (R : DS) : ∃ (n : Nat) (h' : List D), m_law_any [.ref 0, .vl [.int 3, .int 5, .int 12]] (.lst h :: R) = .ok (.int (n : Nat)) (.lst h' :: R) ∧ Hand h' ∧ 0 < n ∧ n ≤ 12 := by
  obtain ⟨x, h', e, hh', hx⟩ := any_ok hh R [.int 3, .int 5, .int 12] (by simp) (by simp)
  simp only [List.mem_cons, List.not_mem_nil, or_false] at hx
  rcases hx with rfl | rfl | rfl
  · exact ⟨3, h', e, hh', by decide, by decide⟩
  · exact ⟨5, h', e, hh', by decide, by decide⟩
  · exact ⟨12, h', e, hh', by decide, by decide⟩
theorem drawN {h : List D} (hh : Hand h) (R : DS) (n : Nat) (h0 : 0 < n) (h1 : n ≤ 1000) : ∃ (d : Nat) (h' : List D), m_law_draw [.ref 0, .int (n : Nat)] (.lst h :: R) = .ok (.int (d : Nat)) (.lst h' :: R) ∧ Hand h' ∧ d < n := by
  obtain ⟨d, h', e, hh', d0, d1⟩ := draw_ok hh R (n : Nat) (by omega) (by omega)
  exact ⟨d.toNat, h', by rw [Int.toNat_of_nonneg d0]; exact e, hh', by omega⟩
theorem app1 {h p : List D} (R : DS) (y : D) (hp : p.length ≤ 9000) : appendO (.ref 1) [y] (.lst h :: .lst p :: R) = .ok .non (.lst h :: .lst (p ++ [y]) :: R) := app_at (S := [.lst h]) (J := R) y hp
theorem app2 {h p q : List D} (R : DS) (y : D) (hq : q.length ≤ 9000) : appendO (.ref 2) [y] (.lst h :: .lst p :: .lst q :: R) = .ok .non (.lst h :: .lst p :: .lst (q ++ [y]) :: R) := app_at (S := [.lst h, .lst p]) (J := R) y hq
theorem app3 {h p q t : List D} (R : DS) (y : D) (hq : t.length ≤ 9000) : appendO (.ref 3) [y] (.lst h :: .lst p :: .lst q :: .lst t :: R) = .ok .non (.lst h :: .lst p :: .lst q :: .lst (t ++ [y]) :: R) := app_at (S := [.lst h, .lst p, .lst q]) (J := R) y hq
noncomputable abbrev grB : MS := (mSeq (mDo (mMeth .lst appendO (mV 8) (maC (mL tupleO (maC (lcM (mArgI rng1O (maC (mV 7) maN)) (gN 12) mYes (mL m_law_positive (maC (mV 0) maN)) [12] finV) maN)) maN)))
    (mDo (mMeth .lst appendO (mV 9) (maC (mL tupleO (maC (lcM (mArgI rng1O (maC (mV 7) maN)) (gN 12) mYes (mL m_law_positive (maC (mV 0) maN)) [12] finV) maN)) maN))))
/-- the drawing of prices and baskets -/
theorem draw_grids (n g : Nat) (hn : n ≤ 12) (hg : g ≤ 6) (gi : Int) (hgi : gi = g) {h : List D} (hh : Hand h) (m : D) :
    ∃ (P B : Tab) (h' : List D) (x1 x12 : Option D), forL (gN 1) grB ⟨(List.range n).map fun (i : Nat) => D.int (i : Int), none⟩ ((List.range n).map fun (i : Nat) => D.int (i : Int))
      [some (.ref 0), none, none, none, none, none, some m, some (.int gi), some (.ref 1), some (.ref 2), none, none, none, none, none] [.lst h, .lst [], .lst []] =
      .ok (.nx, [some (.ref 0), x1, none, none, none, none, some m, some (.int gi), some (.ref 1), some (.ref 2), none, none, x12, none, none]) [.lst h', .lst (P.map encR), .lst (B.map encR)] ∧ Hand h' ∧
      P.length = n ∧ B.length = n ∧ (∀ r ∈ P, r.length = g ∧ ∀ q ∈ r, Rk 8 q) ∧ ∀ r ∈ B, r.length = g ∧ ∀ q ∈ r, Rk 8 q := by
  obtain ⟨env', S', e, ⟨P, B, h', x1, x12, rfl, rfl, hh', p1, p2, p3, p4⟩⟩ := forL_all (it := ⟨(List.range n).map fun (i : Nat) => D.int (i : Int), none⟩) (mg := gN 1) (p := grB) rfl
    (I := fun k env S => ∃ (P B : Tab) (h' : List D) (x1 x12 : Option D), env = [some (.ref 0), x1, none, none, none, none, some m, some (.int gi), some (.ref 1), some (.ref 2), none, none, x12, none, none] ∧
      S = [.lst h', .lst (P.map encR), .lst (B.map encR)] ∧ Hand h' ∧ P.length = k ∧ B.length = k ∧ (∀ r ∈ P, r.length = g ∧ ∀ q ∈ r, Rk 8 q) ∧ ∀ r ∈ B, r.length = g ∧ ∀ q ∈ r, Rk 8 q)
    ((List.range n).map fun (i : Nat) => D.int (i : Int)) 0 _ _ ⟨[], [], h, none, none, rfl, rfl, hh, rfl, rfl, by simp, by simp⟩ (fun i d hd env S hI => by
      obtain ⟨P, B, h', x1, x12, rfl, rfl, hh', p1, p2, p3, p4⟩ := hI
      rw [Nat.zero_add] at p1 p2 ⊢
      have hi : i < n := by
        by_cases z : i < n
        · exact z
        · rw [List.getElem?_eq_none (by simp; omega)] at hd; cases hd
      have hr : ∀ S, rng1O [.int gi] S = .ok ⟨(List.range g).map fun (i : Nat) => D.int (i : Int), none⟩ S := rng_int g gi hgi (by omega)
      obtain ⟨qs, h1, e1, hh1, l1, k1⟩ := pos_list hh' [.lst (P.map encR), .lst (B.map encR)] g 12 0 (by omega) [some (.ref 0), some d, none, none, none, none, some m, some (.int gi), some (.ref 1), some (.ref 2), none, none, x12, none, none] [12] (fun d => rfl)
      obtain ⟨rs, h2, e2, hh2, l2, k2⟩ := pos_list hh1 [.lst (P.map encR ++ [encR qs]), .lst (B.map encR)] g 12 0 (by omega) [some (.ref 0), some d, none, none, none, none, some m, some (.int gi), some (.ref 1), some (.ref 2), none, none, x12, none, none] [12] (fun d => rfl)
      have a1 := app1 (h := h1) (p := P.map encR) [.lst (B.map encR)] (encR qs) (by simp; omega)
      have a2 := app2 (h := h2) (p := P.map encR ++ [encR qs]) (q := B.map encR) [] (encR rs) (by simp; omega)
      refine ⟨_, _, ?_, ⟨P ++ [qs], B ++ [rs], h2, some d, x12, rfl, rfl, hh2, by simp [p1], by simp [p2], ?_, ?_⟩⟩
      · have t1 : ∀ (xs : List (Nat × Nat)) S, tupleO [.vl (xs.map enc)] S = .ok (encR xs) S := fun xs S => rfl
        simp [hr, e1, t1, RcT.ok, a1, e2, a2]
      · intro r hr
        rw [List.mem_append, List.mem_singleton] at hr
        rcases hr with hr | rfl
        · exact p3 r hr
        · exact ⟨l1, k1⟩
      · intro r hr
        rw [List.mem_append, List.mem_singleton] at hr
        rcases hr with hr | rfl
        · exact p4 r hr
        · exact ⟨l2, k2⟩)
  refine ⟨P, B, h', x1, x12, e, hh', ?_, ?_, p3, p4⟩
  · simpa using p1
  · simpa using p2
end K85

namespace K85
open PySem PySem.Spec PyProof.Rows L2 DL
theorem getE {P : Tab} {i : Nat} {r : List (Nat × Nat)} (h : P[i]? = some r) (S : DS) : ixO (encT P) (.int (i : Nat)) S = .ok (encR r) S := getI_map encR P i h
theorem asT (P : Tab) (S : DS) : asItm (encT P) S = .ok ⟨P.map encR, none⟩ S := rfl
theorem tupP (P : Tab) (p : Nat) (S : DS) (h : S[p]? = some (.lst (P.map encR))) : tupleO [.ref p] S = .ok (encT P) S := by
  unfold tupleO
  simp only [h]
  rfl
noncomputable abbrev kdB : MS := (mSeq (mDo (mMeth .lst appendO (mV 2) (maC (mL m_basket_table (maC (mV 8) (maC (mV 9) (maC (mV 3) maN)))) maN)))
    (mIfS (mOr (mT (m2 neO (mL reprO (maC (m2 ixO (mV 2) (m1 negO (mC (.int 1)))) maN)) (mL reprO (maC (mL m_law_table (maC (mV 8) (maC (mV 9) (maC (mV 3) maN)))) maN)))) (mNot (mT (mL m_law_is_told (maC (m2 ixO (mV 2) (m1 negO (mC (.int 1)))) maN)))))
    (mRet (mC (.bl false)))
    mNx))
section
variable {g : Nat} {P B : Tab} (hP : Gr g P) (hB : Gr g B) (hl : B.length = P.length)
include hP hB hl
/-- one kind of basket -/
theorem kind_turn {kd : D} {f : Nat → Nat → Nat} (hk : KindR P.length kd f) (y x3 x12 x1 m gg : Option D) {h : List D} (hh : Hand h) (Ts : List Tab) (hT : Ts.length ≤ 10) :
    turn (gN 3) kdB kd [some (.ref 0), x1, some (.ref 3), x3, none, none, m, gg, some (encT P), some (encT B), none, none, x12, none, none] [.lst h, .lst (P.map encR), .lst (B.map encR), .lst (Ts.map encT)] =
    .ok (.nx, [some (.ref 0), x1, some (.ref 3), some kd, none, none, m, gg, some (encT P), some (encT B), none, none, x12, none, none]) [.lst h, .lst (P.map encR), .lst (B.map encR), .lst ((Ts ++ [basketT P B f]).map encT)] := by
  have cl : ∀ Ts : List Tab, Cl [.lst h, .lst (P.map encR), .lst (B.map encR), .lst (Ts.map encT)] := fun Ts n => by
    simp only [List.all_cons, List.all_nil, hand_under hh n, rows_under, tabs_under, Bool.and_true]
  have b1 := basket_table_ok hP hB hl hk _ (cl Ts)
  have ap := app3 (h := h) (p := P.map encR) (q := B.map encR) (t := Ts.map encT) [] (encT (basketT P B f)) (by simp; omega)
  have e1 : Ts.map encT ++ [encT (basketT P B f)] = (Ts ++ [basketT P B f]).map encT := by simp
  rw [e1] at ap
  generalize hS : ([.lst h, .lst (P.map encR), .lst (B.map encR), .lst ((Ts ++ [basketT P B f]).map encT)] : DS) = S at *
  have b2 := law_table_ok hP hB hl hk S (by rw [← hS]; exact cl _)
  have ht := basketTk hP hB hl hk
  obtain ⟨s, hs⟩ := repr_table ht (by decide) S
  have told := told_ok ht S (by decide) (by decide)
  have last : ixO (.ref 3) (.int (-1)) S = .ok (encT (basketT P B f)) S := by
    rw [← hS, ixO_ref]
    simp only [List.getElem?_cons_succ, List.getElem?_cons_zero]
    refine getI_neg (by decide) (by simp; omega) ?_
    rw [List.length_map, List.length_append, List.length_singleton, List.map_append]
    rw [show ((-1 : Int) + ((Ts.length + 1 : Nat) : Int)).toNat = Ts.length by omega]
    rw [List.getElem?_append_right (by simp), List.length_map, Nat.sub_self]
    rfl
  simp [b1, RcT.ok, ap, last, hs, b2, told]
end
/-- the law's own look at the tables of baskets -/
theorem basket_right_ok {h : List D} (hh : Hand h) : ∃ h', m_law_is_basket_right [.ref 0] [.lst h] = .ok (.bl true) [.lst h'] ∧ Hand h' := by
  obtain ⟨n0, h1, e1, hh1, n00, n01⟩ := any3 hh []
  obtain ⟨d, h2, e2, hh2, d1⟩ := drawN hh1 [] n0 n00 (by omega)
  obtain ⟨gd, h3, e3, hh3, g1⟩ := drawN hh2 [] 6 (by decide) (by decide)
  have e3' : m_law_draw [.ref 0, .int 6] [.lst h2] = .ok (.int (gd : Nat)) [.lst h3] := e3
  obtain ⟨n, hn⟩ : ∃ n : Nat, (1 + (d : Int)) = n := ⟨1 + d, by omega⟩
  obtain ⟨g, hg⟩ : ∃ g : Nat, (1 + (gd : Int)) = g := ⟨1 + gd, by omega⟩
  obtain ⟨P, B, h4, x1, x12, e4, hh4, p1, p2, p3, p4⟩ := draw_grids n g (by omega) (by omega) (g : Int) rfl hh3 (.int (n : Nat))
  have hP : Gr g P := ⟨by omega, by omega, by omega, by omega, p3⟩
  have hB : Gr g B := ⟨by omega, by omega, by omega, by omega, p4⟩
  have hl : B.length = P.length := by omega
  obtain ⟨y, h5, e5, hh5, y1⟩ := drawN hh4 [.lst (P.map encR), .lst (B.map encR)] n (by omega) (by omega)
  have rn : ∀ S, rng1O [.int (n : Nat)] S = .ok ⟨(List.range n).map fun (i : Nat) => D.int (i : Int), none⟩ S := rng_int n (n : Nat) rfl (by omega)
  have ky : KindR P.length (.int (y : Nat)) fun _ _ => y := .year y (by omega)
  have kt0 := kind_turn hP hB hl .old (some (.int (y : Nat))) none x12 (some (.int (y : Nat))) (some (.int (n : Nat))) (some (.int (g : Nat))) hh5 [] (by simp)
  have kt1 := kind_turn hP hB hl .new (some (.int (y : Nat))) (some (.str "old")) x12 (some (.int (y : Nat))) (some (.int (n : Nat))) (some (.int (g : Nat))) hh5 ([] ++ [basketT P B fun i _ => i]) (by simp)
  have kt2 := kind_turn hP hB hl ky (some (.int (y : Nat))) (some (.str "new")) x12 (some (.int (y : Nat))) (some (.int (n : Nat))) (some (.int (g : Nat))) hh5 ([] ++ [basketT P B fun i _ => i] ++ [basketT P B fun _ j => j]) (by simp)
  have k0 := basketTk hP hB hl (.old (n := P.length))
  have k1 := basketTk hP hB hl (.new (n := P.length))
  have k2 := basketTk hP hB hl ky
  have yt := year_table hP hB hl y
  have onq := old_new hP hB hl
  have og0 := fun z => one_good hP hB hl z (.old (n := P.length))
  have og1 := fun z => one_good hP hB hl z (.new (n := P.length))
  generalize hT0 : (basketT P B fun i _ => i) = T0 at *
  generalize hT1 : (basketT P B fun _ j => j) = T1 at *
  generalize hT2 : (basketT P B fun _ _ => y) = T2 at *
  obtain ⟨cs, hcs⟩ : ∃ cs, (P.map fun r => dotQ (rowA B y) r) = cs := ⟨_, rfl⟩
  rw [hcs] at yt
  have bR := hB.rowK (i := y) (by omega)
  have dots : ∀ r ∈ P, (∀ S, m_law_dot [encR (rowA B y), encR r] S = .ok (enc (dotQ (rowA B y) r)) S) ∧ Rk 103 (dotQ (rowA B y) r) := by
    intro r hr
    have q := p3 r hr
    have hz : ((rowA B y).zip r).length = g := by rw [List.length_zip]; omega
    have hb : 1 + (8 + 8 + 1) * ((rowA B y).zip r).length ≤ 103 := by rw [hz]; omega
    refine ⟨fun S => ldot_ok S bR.2 q.2 (by omega), (dot_rk bR.2 q.2 fun z => ?_).mono hb⟩
    rw [z] at hz
    simp at hz
    omega
  have csk : ∀ q ∈ cs, Rk 103 q := by
    intro q hq
    rw [← hcs] at hq
    obtain ⟨r, hr, rfl⟩ := List.mem_map.mp hq
    exact (dots r hr).2
  have csl : cs.length = n := by rw [← hcs, List.length_map, p1]
  have u0 : ∀ S : DS, S[3]? = some (.lst ([T0, T1, T2].map encT)) → ixO (.ref 3) (.int 0) S = .ok (encT T0) S := fun S hS => by
    rw [ixO_ref, hS]; exact getI_0 ..
  have u1 : ∀ S : DS, S[3]? = some (.lst ([T0, T1, T2].map encT)) → ixO (.ref 3) (.int 1) S = .ok (encT T1) S := fun S hS => by
    rw [ixO_ref, hS]; exact getI_1 ..
  have u2 : ∀ S : DS, S[3]? = some (.lst ([T0, T1, T2].map encT)) → ixO (.ref 3) (.int 2) S = .ok (encT T2) S := fun S hS => by
    rw [ixO_ref, hS]; exact getI_2 ..
  have st1 : (mAsg (gT 2 (gsC (gN 6) (gsC (gN 7) gsN))) (mL tupO (maC (m2 addO (mC (.int 1)) (mL m_law_draw (maC (mV 0) (maC (mL m_law_any (maC (mV 0) (maC (mL lstO (maC (mC (.int 3)) (maC (mC (.int 5)) (maC (mC (.int 12)) maN)))) maN))) maN)))) (maC (m2 addO (mC (.int 1)) (mL m_law_draw (maC (mV 0) (maC (mC (.int 6)) maN)))) maN)))) [some (.ref 0), none, none, none, none, none, none, none, none, none, none, none, none, none, none] [.lst h] = .ok (.nx, [some (.ref 0), none, none, none, none, none, some (.int (n : Nat)), some (.int (g : Nat)), none, none, none, none, none, none, none]) [.lst h3] := by
    simp [lstO, e1, e2, e3', hn, hg, tupO]
  have st2 : (mAsg (gT 2 (gsC (gN 8) (gsC (gN 9) gsN))) (mL tupO (maC (mL refO maN) (maC (mL refO maN) maN)))) [some (.ref 0), none, none, none, none, none, some (.int (n : Nat)), some (.int (g : Nat)), none, none, none, none, none, none, none] [.lst h3] = .ok (.nx, [some (.ref 0), none, none, none, none, none, some (.int (n : Nat)), some (.int (g : Nat)), some (.ref 1), some (.ref 2), none, none, none, none, none]) [.lst h3, .lst [], .lst []] := by
    simp [refO, tupO]
  have st3 : (mFor (mArgI rng1O (maC (mV 6) maN)) (gN 1) grB) [some (.ref 0), none, none, none, none, none, some (.int (n : Nat)), some (.int (g : Nat)), some (.ref 1), some (.ref 2), none, none, none, none, none] [.lst h3, .lst [], .lst []] = .ok (.nx, [some (.ref 0), x1, none, none, none, none, some (.int (n : Nat)), some (.int (g : Nat)), some (.ref 1), some (.ref 2), none, none, x12, none, none]) [.lst h4, .lst (P.map encR), .lst (B.map encR)] := by
    simp only [mFor_at, mArgI_at, maC_at, mV_at, maN_at, List.getElem?_cons_succ, List.getElem?_cons_zero, maK_ok, maJ_ok, bind_ok, rn, forK_ok]
    exact e4
  have tq1 : tupleO [.ref 1] [.lst h4, .lst (P.map encR), .lst (B.map encR)] = .ok (encT P) [.lst h4, .lst (P.map encR), .lst (B.map encR)] := tupP P 1 _ rfl
  have tq2 : tupleO [.ref 2] [.lst h4, .lst (P.map encR), .lst (B.map encR)] = .ok (encT B) [.lst h4, .lst (P.map encR), .lst (B.map encR)] := tupP B 2 _ rfl
  have st4 : (mAsg (gT 3 (gsC (gN 8) (gsC (gN 9) (gsC (gN 1) gsN)))) (mL tupO (maC (mL tupleO (maC (mV 8) maN)) (maC (mL tupleO (maC (mV 9) maN)) (maC (mL m_law_draw (maC (mV 0) (maC (mV 6) maN))) maN))))) [some (.ref 0), x1, none, none, none, none, some (.int (n : Nat)), some (.int (g : Nat)), some (.ref 1), some (.ref 2), none, none, x12, none, none] [.lst h4, .lst (P.map encR), .lst (B.map encR)] = .ok (.nx, [some (.ref 0), some (.int (y : Nat)), none, none, none, none, some (.int (n : Nat)), some (.int (g : Nat)), some (encT P), some (encT B), none, none, x12, none, none]) [.lst h5, .lst (P.map encR), .lst (B.map encR)] := by
    simp [tq1, tq2, e5, tupO]
  have st5 : (mSet 2 (mL refO maN)) [some (.ref 0), some (.int (y : Nat)), none, none, none, none, some (.int (n : Nat)), some (.int (g : Nat)), some (encT P), some (encT B), none, none, x12, none, none] [.lst h5, .lst (P.map encR), .lst (B.map encR)] = .ok (.nx, [some (.ref 0), some (.int (y : Nat)), some (.ref 3), none, none, none, some (.int (n : Nat)), some (.int (g : Nat)), some (encT P), some (encT B), none, none, x12, none, none]) [.lst h5, .lst (P.map encR), .lst (B.map encR), .lst []] := by
    simp [refO]
  have st6 : (mFor (mSeqI (mL tupO (maC (mC (.str "old")) (maC (mC (.str "new")) (maC (mV 1) maN))))) (gN 3) kdB) [some (.ref 0), some (.int (y : Nat)), some (.ref 3), none, none, none, some (.int (n : Nat)), some (.int (g : Nat)), some (encT P), some (encT B), none, none, x12, none, none] [.lst h5, .lst (P.map encR), .lst (B.map encR), .lst []] = .ok (.nx, [some (.ref 0), some (.int (y : Nat)), some (.ref 3), some (.int (y : Nat)), none, none, some (.int (n : Nat)), some (.int (g : Nat)), some (encT P), some (encT B), none, none, x12, none, none]) [.lst h5, .lst (P.map encR), .lst (B.map encR), .lst ([T0, T1, T2].map encT)] := by
    have a : mSeqI (mL tupO (maC (mC (.str "old")) (maC (mC (.str "new")) (maC (mV 1) maN)))) [some (.ref 0), some (.int (y : Nat)), some (.ref 3), none, none, none, some (.int (n : Nat)), some (.int (g : Nat)), some (encT P), some (encT B), none, none, x12, none, none] [.lst h5, .lst (P.map encR), .lst (B.map encR), .lst []] = .ok ⟨[.str "old", .str "new", .int (y : Nat)], none⟩ [.lst h5, .lst (P.map encR), .lst (B.map encR), .lst []] := by
      simp [tupO]
    rw [mFor_at, a, forK_ok, forL_cons rfl]
    rw [show (turn (gN 3) kdB (.str "old") [some (.ref 0), some (.int (y : Nat)), some (.ref 3), none, none, none, some (.int (n : Nat)), some (.int (g : Nat)), some (encT P), some (encT B), none, none, x12, none, none] [.lst h5, .lst (P.map encR), .lst (B.map encR), .lst []]) = _ from kt0, forN_nx, forL_cons rfl, kt1, forN_nx, forL_cons rfl, kt2, forN_nx, forL_nil rfl]
    rfl
  generalize hST : ([.lst h5, .lst (P.map encR), .lst (B.map encR), .lst ([T0, T1, T2].map encT)] : DS) = ST at *
  have v0 := u0 ST (by rw [← hST]; rfl)
  have v1 := u1 ST (by rw [← hST]; rfl)
  have v2 := u2 ST (by rw [← hST]; rfl)
  have l0 := levels_ok k0 ST (by decide)
  have l1 := levels_ok k1 ST (by decide)
  have l2 := levels_ok k2 ST (by decide)
  have st7 : (mSet 4 (lcM (mSeqI (mV 8)) (gN 10) mYes (mL m_law_dot (maC (m2 ixO (mV 9) (mV 1)) (maC (mV 10) maN))) [10] finV)) [some (.ref 0), some (.int (y : Nat)), some (.ref 3), some (.int (y : Nat)), none, none, some (.int (n : Nat)), some (.int (g : Nat)), some (encT P), some (encT B), none, none, x12, none, none] ST = .ok (.nx, [some (.ref 0), some (.int (y : Nat)), some (.ref 3), some (.int (y : Nat)), some (.vl (cs.map enc)), none, some (.int (n : Nat)), some (.int (g : Nat)), some (encT P), some (encT B), none, none, x12, none, none]) ST := by
    have a : mSeqI (mV 8) [some (.ref 0), some (.int (y : Nat)), some (.ref 3), some (.int (y : Nat)), none, none, some (.int (n : Nat)), some (.int (g : Nat)), some (encT P), some (encT B), none, none, x12, none, none] ST = .ok ⟨P.map encR, none⟩ ST := by
      simp [asT]
    rw [mSet_at, lcM_at, a, lcK_F encR (fun r => enc (dotQ (rowA B y) r)) P (le_line (by omega)) ?_, finV_at, setK_ok, ← hcs, List.map_map]
    · rfl
    · intro r hr
      have b := hB.get ST (i := y) (by omega)
      simp [wipeE, b, (dots r hr).1]
  obtain ⟨c, cs', hc⟩ : ∃ c cs', cs = c :: cs' := by
    cases cs with
    | nil => simp at csl; omega
    | cons c cs' => exact ⟨c, cs', rfl⟩
  have due2 : dueF T2 = .tup [.str "levels", encR (cs.map fun one => overQ one c)] := by
    rw [yt, hc]
    exact lawOf_due (by rw [← hc]; exact csk)
  have kc : Rk 103 c := csk c (by rw [hc]; exact List.mem_cons_self ..)
  have cov : ∀ q ∈ cs.map fun one => overQ one c, Rk 206 q := by
    intro q hq
    obtain ⟨r, hr, rfl⟩ := List.mem_map.mp hq
    exact overRk (csk r hr) kc
  have self2 := levels_self cov (by decide) ST
  have cget : ∀ S, ixO (.vl (cs.map enc)) (.int 0) S = .ok (enc c) S := fun S => by
    rw [hc]; exact getI_0 ..
  have ovl : lcM (mSeqI (mV 4)) (gN 13) mYes (mL m_law_over (maC (mV 13) (maC (m2 ixO (mV 4) (mC (.int 0))) maN))) [13] finV [some (.ref 0), some (.int (y : Nat)), some (.ref 3), some (.int (y : Nat)), some (.vl (cs.map enc)), none, some (.int (n : Nat)), some (.int (g : Nat)), some (encT P), some (encT B), none, none, x12, none, none] ST = .ok (.vl ((cs.map fun one => overQ one c).map enc)) ST := by
    have a : mSeqI (mV 4) [some (.ref 0), some (.int (y : Nat)), some (.ref 3), some (.int (y : Nat)), some (.vl (cs.map enc)), none, some (.int (n : Nat)), some (.int (g : Nat)), some (encT P), some (encT B), none, none, x12, none, none] ST = .ok ⟨cs.map enc, none⟩ ST := by
      simp
    rw [lcM_at, a, lcK_F enc (fun one => enc (overQ one c)) cs (le_line (by omega)) ?_, finV_at, List.map_map]
    · rfl
    · intro r hr
      have b := lover_ok ST (csk r hr) kc (by decide)
      simp [wipeE, cget, b]
  have st8 : (mIfS (mT (m2 neO (mL m_levels (maC (m2 ixO (mV 2) (mC (.int 2))) maN)) (mL tupO (maC (mC (.str "levels")) (maC (mL tupleO (maC (lcM (mSeqI (mV 4)) (gN 13) mYes (mL m_law_over (maC (mV 13) (maC (m2 ixO (mV 4) (mC (.int 0))) maN))) [13] finV) maN)) maN)))))
    (mRet (mC (.bl false)))
    mNx) [some (.ref 0), some (.int (y : Nat)), some (.ref 3), some (.int (y : Nat)), some (.vl (cs.map enc)), none, some (.int (n : Nat)), some (.int (g : Nat)), some (encT P), some (encT B), none, none, x12, none, none] ST = .ok (.nx, [some (.ref 0), some (.int (y : Nat)), some (.ref 3), some (.int (y : Nat)), some (.vl (cs.map enc)), none, some (.int (n : Nat)), some (.int (g : Nat)), some (encT P), some (encT B), none, none, x12, none, none]) ST := by
    have tt : ∀ xs : List (Nat × Nat), tupleO [.vl (xs.map enc)] ST = .ok (encR xs) ST := fun xs => rfl
    simp only [mIfS_at, mT_at, m2_at, mL_at, maC_at, maN_at, mV_at, mC_at, List.getElem?_cons_succ, List.getElem?_cons_zero, m2K_ok, m2J_ok, v2, maK_ok, maJ_ok, bind_ok, l2, due2, ovl, tt]
    rw [tupO_le (by simp)]
    simp only [bind_ok, m2J_ok, self2, tK_ok, ifSK_f, mNx_at]
  have lv : ∀ T : Tab, (∃ cs : List (Nat × Nat), cs ≠ [] ∧ (∃ k, ∀ q ∈ cs, Rk k q) ∧ T = lawOf cs) → ∃ r, dueF T = .tup [.str "levels", r] := by
    rintro T ⟨cs, h0, ⟨k, hk⟩, rfl⟩
    cases cs with
    | nil => exact absurd rfl h0
    | cons c cs => exact ⟨_, lawOf_due hk⟩
  have st9 : (mIfS (mAnd (mT (m2 eqO (mV 7) (mC (.int 1)))) (mT (m2 neO (mL lstO (maC (m2 ixO (mL m_levels (maC (m2 ixO (mV 2) (mC (.int 0))) maN)) (mC (.int 0))) (maC (m2 ixO (mL m_levels (maC (m2 ixO (mV 2) (mC (.int 1))) maN)) (mC (.int 0))) maN))) (mL lstO (maC (mC (.str "levels")) (maC (mC (.str "levels")) maN))))))
    (mRet (mC (.bl false)))
    mNx) [some (.ref 0), some (.int (y : Nat)), some (.ref 3), some (.int (y : Nat)), some (.vl (cs.map enc)), none, some (.int (n : Nat)), some (.int (g : Nat)), some (encT P), some (encT B), none, none, x12, none, none] ST = .ok (.nx, [some (.ref 0), some (.int (y : Nat)), some (.ref 3), some (.int (y : Nat)), some (.vl (cs.map enc)), none, some (.int (n : Nat)), some (.int (g : Nat)), some (encT P), some (encT B), none, none, x12, none, none]) ST := by
    by_cases z : g = 1
    · have w : ∃ cs : List (Nat × Nat), cs ≠ [] ∧ (∃ k, ∀ q ∈ cs, Rk k q) ∧ (lawOf (P.map fun r => r.getD 0 (1, 1))) = lawOf cs := by
        refine ⟨_, ?_, ⟨8, ?_⟩, rfl⟩
        · intro e
          have := congrArg List.length e
          simp at this
          subst this
          simp at p1
          omega
        · intro q hq
          obtain ⟨r, hr, rfl⟩ := List.mem_map.mp hq
          have q := p3 r hr
          cases r with
          | nil => simp at q; omega
          | cons a r => exact q.2 a (List.mem_cons_self ..)
      obtain ⟨r0, f0⟩ := lv T0 (by rw [og0 z]; exact w)
      obtain ⟨r1, f1⟩ := lv T1 (by rw [og1 z]; exact w)
      have g0 : ∀ r, ixO (.tup [.str "levels", r]) (.int 0) ST = .ok (.str "levels") ST := fun r => getI_0 (.str "levels") [r] ST
      have ne : neO (.vl [.str "levels", .str "levels"]) (.vl [.str "levels", .str "levels"]) ST = .ok (.bl false) ST := neO_self (k := 1) (by decide) (by decide +kernel) (by decide +kernel)
      simp [z, v0, v1, l0, l1, f0, f1, g0, lstO, ne]
    · have z' : ¬ (g : Int) = 1 := by omega
      simp [z']
  have i0 : ∀ j i : Nat, j < n → i < n → ixO (encT T0) (.int (j : Nat)) ST = .ok (encR (rowA T0 j)) ST ∧ ixO (encR (rowA T0 j)) (.int (i : Nat)) ST = .ok (enc (at' T0 j i)) ST ∧ Rk 206 (at' T0 j i) := by
    intro j i hj hi
    have tl : T0.length = n := by rw [← hT0]; simp [basketT, p1]
    exact ⟨k0.get1 ST (by omega), k0.get2 ST (by omega) (by omega), k0.rk (by omega) (by omega)⟩
  have st10 : (mSet 5 (mL tupleO (maC (lcM (mArgI rng1O (maC (mV 6) maN)) (gN 11) mYes (mL tupleO (maC (lcM (mArgI rng1O (maC (mV 6) maN)) (gN 14) mYes (mL m_law_over (maC (mL tupO (maC (mC (.int 1)) (maC (mC (.int 1)) maN))) (maC (m2 ixO (m2 ixO (m2 ixO (mV 2) (mC (.int 0))) (mV 14)) (mV 11)) maN))) [14] finV) maN)) [11] finV) maN))) [some (.ref 0), some (.int (y : Nat)), some (.ref 3), some (.int (y : Nat)), some (.vl (cs.map enc)), none, some (.int (n : Nat)), some (.int (g : Nat)), some (encT P), some (encT B), none, none, x12, none, none] ST = .ok (.nx, [some (.ref 0), some (.int (y : Nat)), some (.ref 3), some (.int (y : Nat)), some (.vl (cs.map enc)), some (encT T1), some (.int (n : Nat)), some (.int (g : Nat)), some (encT P), some (encT B), none, none, x12, none, none]) ST := by
    rw [onq, p1]
    have inner : ∀ i : Nat, i < n → ∀ env : DE, env = [some (.ref 0), some (.int (y : Nat)), some (.ref 3), some (.int (y : Nat)), some (.vl (cs.map enc)), none, some (.int (n : Nat)), some (.int (g : Nat)), some (encT P), some (encT B), none, some (.int (i : Nat)), x12, none, none] → lcM (mArgI rng1O (maC (mV 6) maN)) (gN 14) mYes (mL m_law_over (maC (mL tupO (maC (mC (.int 1)) (maC (mC (.int 1)) maN))) (maC (m2 ixO (m2 ixO (m2 ixO (mV 2) (mC (.int 0))) (mV 14)) (mV 11)) maN))) [14] finV env ST = .ok (.vl (((List.range n).map fun j => overQ (1, 1) (at' T0 j i)).map enc)) ST := by
      rintro i hi env rfl
      simp only [lcM_at, mArgI_at, maC_at, mV_at, maN_at, List.getElem?_cons_succ, List.getElem?_cons_zero, maK_ok, maJ_ok, bind_ok, rn]
      rw [lcK_F (fun (i : Nat) => D.int (i : Int)) (fun j => enc (overQ (1, 1) (at' T0 j i))) (List.range n) (le_line (by simp; omega)) ?_, finV_at, List.map_map]
      · rfl
      · intro j hj
        have hj : j < n := by simpa using hj
        obtain ⟨a, b, r⟩ := i0 j i hj hi
        have o := lover_ok ST (rk_one (k := 1) (by decide)) r (by decide)
        have o' : m_law_over [.tup [.int 1, .int 1], enc (at' T0 j i)] ST = .ok (enc (overQ (1, 1) (at' T0 j i))) ST := o
        simp [wipeE, tupO, v0, a, b, o']
    simp only [mSet_at, mL_at, maC_at, maN_at, lcM_at, mArgI_at, mV_at, List.getElem?_cons_succ, List.getElem?_cons_zero, maK_ok, maJ_ok, bind_ok, rn]
    rw [lcK_F (fun (i : Nat) => D.int (i : Int)) (fun i => encR ((List.range n).map fun j => overQ (1, 1) (at' T0 j i))) (List.range n) (le_line (by simp; omega)) ?_]
    · simp only [finV_at, maK_ok, maN_at, maJ_ok, bind_ok, tupleO_vl, setK_ok, List.set_cons_succ, List.set_cons_zero]
      unfold encT
      rw [List.map_map]
      rfl
    · intro i hi
      have hi : i < n := by simpa using hi
      rw [cell_at, gN_at, cellK_ok, mL_at, maC_at, inner i hi _ ?_]
      · rfl
      · rfl
  have self1 : eqO (encT T1) (encT T1) ST = .ok (.bl true) ST := eqO_self (k := 63) (by decide) (encT63 k1 (by decide)) (Nat.le_trans (encT_dep T1) (by decide))
  refine ⟨h5, ?_, hh5⟩
  simp only [m_law_is_basket_right, defD_at]
  rw [startE_at]
  simp only [List.map_cons, List.map_nil, List.length_cons, List.length_nil, Nat.reduceAdd, Nat.reduceSub, List.reduceReplicate, if_true, List.cons_append, List.nil_append]
  rw [mSeq_at, st1, seqK_nx, mSeq_at, st2, seqK_nx, mSeq_at, st3, seqK_nx, mSeq_at, st4, seqK_nx, mSeq_at, st5, seqK_nx, mSeq_at, st6, seqK_nx, mSeq_at, st7, seqK_nx, mSeq_at, st8, seqK_nx, mSeq_at, st9, seqK_nx, mSeq_at, st10, seqK_nx]
  simp only [mRet_at, m2_at, mV_at, mC_at, List.getElem?_cons_succ, List.getElem?_cons_zero, m2K_ok, m2J_ok, v1, self1, retK_ok, retO_rt]
  rw [← hST]
  exact drop_ok (S := [.lst h5]) (fun n => by simp [hand_under hh5 n]) (.bl true) (fun n => rfl) [.lst (P.map encR), .lst (B.map encR), .lst ([T0, T1, T2].map encT)]
end K85

namespace K85
open PySem PySem.Spec PyProof.Rows L2 DL
theorem hand_ok (ns : List Int) (hl : ns.length ≤ 63) : ∃ h, m_law_hand [.fz (ns.map D.int)] [] = .ok (.ref 0) [.lst h] ∧ Hand h := by
  have cut : ∀ S, slO (.fz (ns.map D.int)) none (some 63) S = .ok (.vl (ns.map D.int)) S := fun S => by
    show Ou.ok (D.vl (DL.cutD (ns.map D.int) none (some ((63 : Nat) : Int)))) S = _
    rw [cut_lo, List.take_of_length_le (by rw [List.length_map]; exact hl)]
  have ab : ∀ (i : Int) S, absO [.int i] S = .ok (.int (i.natAbs : Int)) S := fun i S => by
    show Ou.ok (D.int (if i < 0 then -i else i)) S = _
    have : (if i < 0 then -i else i) = (i.natAbs : Int) := by split <;> omega
    rw [this]
  have hc : hnd (ns.map fun i => (i.natAbs : Int)) 0 0 (83 + 5 * (ns.length : Int)) 0 = [.vl (ns.map fun i => D.int (i.natAbs : Int)), .int 0, .int 0, .int (83 + 5 * (ns.length : Int)), .int 0] := by
    unfold hnd
    rw [List.map_map]
    rfl
  refine ⟨hnd (ns.map fun i => (i.natAbs : Int)) 0 0 (83 + 5 * (ns.length : Int)) 0, ?_, .mk _ _ _ _ _ (by
    intro x hx
    obtain ⟨i, _, rfl⟩ := List.mem_map.mp hx
    omega) (by omega) (by omega)⟩
  rw [hc]
  simp only [m_law_hand, defM_at]
  rw [startE_at]
  simp only [List.map_cons, List.map_nil, List.length_cons, List.length_nil, Nat.reduceAdd, Nat.reduceSub, List.reduceReplicate, if_true, List.cons_append, List.nil_append]
  have a : mSeqI (mSl slO (mV 0) moN (moS (mC (.int 63)))) [some (.fz (ns.map D.int)), none, none] [] = .ok ⟨ns.map D.int, none⟩ [] := by
    simp [cut]
  have m5 : ∀ S, mulO (.int 5) (.int (ns.length : Int)) S = .ok (.int (5 * (ns.length : Int))) S := fun S => mulO_l _ _ _ (by decide)
  rw [mSeq_at, mSet_at, lcM_at, a, lcK_F D.int (fun i => D.int (i.natAbs : Int)) ns (le_line (by omega)) ?_, finV_at, setK_ok, seqK_nx]
  · simp [lenO_vl, m5, refO]
  · intro i hi
    simp [wipeE, intO_int, ab]
/-! ### one turn of the law -/
noncomputable abbrev spB : MS := mIfS (mNot (mT (mL m_law_is_told (maC (mL m_law_spoiled (maC (mV 1) (maC (mV 5) maN))) maN)))) (mRet (mC (.bl false))) mNx
noncomputable abbrev lawB : MS := (mSeq (mSet 3 (m2 addO (mC (.int 1)) (mL m_law_draw (maC (mV 1) (maC (mL m_law_any (maC (mV 1) (maC (mL lstO (maC (mC (.int 3)) (maC (mC (.int 5)) (maC (mC (.int 12)) maN)))) maN))) maN)))))
    (mSeq (mSet 4 (m2 addO (mL tupO (maC (mL tupO (maC (mC (.int 1)) (maC (mC (.int 1)) maN))) maN)) (mL tupleO (maC (lcM (mArgI rng1O (maC (m2 subO (mV 3) (mC (.int 1))) maN)) (gN 9) mYes (mL m_law_positive (maC (mV 1) maN)) [9] finV) maN))))
    (mSeq (mSet 5 (mL m_law_of (maC (mV 4) maN)))
    (mSeq (mIfS (mOr (mT (m2 neO (mL m_levels (maC (mV 5) maN)) (mL tupO (maC (mC (.str "levels")) (maC (mV 4) maN))))) (mNot (mT (mL m_law_is_told (maC (mV 5) maN))))) (mRet (mC (.bl false))) mNx)
    (mSeq (mFor (mArgI rng1O (maC (mC (.int 3)) maN)) (gN 6) spB)
    (mSeq (mSet 7 (mL tupleO (maC (lcM (mArgI rng1O (maC (mV 3) maN)) (gN 8) mYes (mL tupleO (maC (lcM (mArgI rng1O (maC (mV 3) maN)) (gN 10) mYes (mL m_law_positive (maC (mV 1) maN)) [10] finV) maN)) [8] finV) maN)))
    (mIfS (mOr (mNot (mT (mL m_law_is_told (maC (mV 7) maN)))) (mNot (mT (mL m_law_is_basket_right (maC (mV 1) maN))))) (mRet (mC (.bl false))) mNx)))))))
theorem spoil3 (sc d : D) (x3 x4 x6 x7 x8 x9 x10 : Option D) {k : Nat} {T : Tab} (kT : Tk k T) (hk : 8 ≤ k) (hk2 : k ≤ 200) {h : List D} (hh : Hand h) :
    ∃ y6 h', (mFor (mArgI rng1O (maC (mC (.int 3)) maN)) (gN 6) spB : MS) [some sc, some (.ref 0), some d, x3, x4, some (encT T), x6, x7, x8, x9, x10] [.lst h] = .ok (.nx, [some sc, some (.ref 0), some d, x3, x4, some (encT T), y6, x7, x8, x9, x10]) [.lst h'] ∧ Hand h' := by
  obtain ⟨env', S', e, ⟨y6, h', hh', rfl, rfl⟩⟩ := forL_all (it := ⟨(List.range 3).map fun (i : Nat) => D.int (i : Int), none⟩) (mg := gN 6) (p := spB) rfl
    (I := fun _ env S => ∃ y6 h, Hand h ∧ env = [some sc, some (.ref 0), some d, x3, x4, some (encT T), y6, x7, x8, x9, x10] ∧ S = [.lst h])
    ((List.range 3).map fun (i : Nat) => D.int (i : Int)) 0 [some sc, some (.ref 0), some d, x3, x4, some (encT T), x6, x7, x8, x9, x10] [.lst h] ⟨x6, h, hh, rfl, rfl⟩ (fun i d' hd env S hI => by
      obtain ⟨y6, h, hh, rfl, rfl⟩ := hI
      obtain ⟨T', h', e, hh', kT'⟩ := spoiled_ok kT hk hh [] (by omega)
      have told := told_ok kT' [.lst h'] (by omega) (by omega)
      refine ⟨_, _, ?_, ⟨some d', h', hh', rfl, rfl⟩⟩
      simp [e, told])
  refine ⟨y6, h', ?_, hh'⟩
  simp only [mFor_at, mArgI_at, maC_at, mC_at, maN_at, maK_ok, maJ_ok, bind_ok, rng_int 3 3 rfl (by decide), forK_ok]
  exact e
theorem drawn_table (sc d : D) (x3 x4 x5 x6 x7 x8 x9 x10 : Option D) (n : Nat) (hn : n ≤ 12) {h : List D} (hh : Hand h) :
    ∃ (T2 : Tab) (h' : List D), (mSet 7 (mL tupleO (maC (lcM (mArgI rng1O (maC (mV 3) maN)) (gN 8) mYes (mL tupleO (maC (lcM (mArgI rng1O (maC (mV 3) maN)) (gN 10) mYes (mL m_law_positive (maC (mV 1) maN)) [10] finV) maN)) [8] finV) maN)) : MS) [some sc, some (.ref 0), some d, some (.int (n : Nat)), x4, x5, x6, x7, x8, x9, x10] [.lst h] = .ok (.nx, [some sc, some (.ref 0), some d, some (.int (n : Nat)), x4, x5, x6, some (encT T2), x8, x9, x10]) [.lst h'] ∧ Hand h' ∧ T2.length = n ∧ ∀ r ∈ T2, r.length = n ∧ ∀ q ∈ r, Rk 8 q := by
  have rn : ∀ S, rng1O [.int (n : Nat)] S = .ok ⟨(List.range n).map fun (i : Nat) => D.int (i : Int), none⟩ S := rng_int n (n : Nat) rfl (by omega)
  obtain ⟨ys, S', e, ⟨h', hh', rfl⟩, l, p⟩ := lcL_inv (mg := gN 8) (el := mL tupleO (maC (lcM (mArgI rng1O (maC (mV 3) maN)) (gN 10) mYes (mL m_law_positive (maC (mV 1) maN)) [10] finV) maN)) (it := ⟨(List.range n).map fun (i : Nat) => D.int (i : Int), none⟩) (env := wipeE [some sc, some (.ref 0), some d, some (.int (n : Nat)), x4, x5, x6, x7, x8, x9, x10] [8]) rfl
    (I := fun S => ∃ h, Hand h ∧ S = [.lst h]) (P := fun _ y => ∃ r : List (Nat × Nat), (r.length = n ∧ ∀ q ∈ r, Rk 8 q) ∧ y = encR r)
    ((List.range n).map fun (i : Nat) => D.int (i : Int)) [] 0 [.lst h] ⟨h, hh, rfl⟩ (fun i d' hd S hS => by
      obtain ⟨h, hh, rfl⟩ := hS
      obtain ⟨qs, h', e, hh', lq, kq⟩ := pos_list hh [] n 10 1 (by omega) [some sc, some (.ref 0), some d, some (.int (n : Nat)), x4, x5, x6, x7, some d', x9, x10] [10] (fun d => rfl)
      refine ⟨encR qs, [.lst h'], ?_, ⟨h', hh', rfl⟩, qs, ⟨lq, kq⟩, rfl⟩
      have w : wipeE [some sc, some (.ref 0), some d, some (.int (n : Nat)), x4, x5, x6, x7, x8, x9, x10] [8] = [some sc, some (.ref 0), some d, some (.int (n : Nat)), x4, x5, x6, x7, none, x9, x10] := rfl
      rw [w]
      simp only [cell_at, gN_at, cellK_ok, List.set_cons_succ, List.set_cons_zero, mL_at, maC_at, maN_at, lcM_at, mArgI_at, mV_at, List.getElem?_cons_succ, List.getElem?_cons_zero, maK_ok, maJ_ok, bind_ok, rn, e]
      rfl)
  obtain ⟨T2, rfl, hT2⟩ := encR_list n ys fun y hy => by
    obtain ⟨i, hi⟩ := List.getElem?_of_mem hy
    exact p i y hi
  refine ⟨T2, h', ?_, hh', by simpa using l, hT2⟩
  simp only [mSet_at, mL_at, maC_at, maN_at, lcM_at, mArgI_at, mV_at, List.getElem?_cons_succ, List.getElem?_cons_zero, maK_ok, maJ_ok, bind_ok, rn]
  rw [lcK_ok, if_pos (by rw [List.length_map, List.length_range]; exact le_line (by omega)), e]
  rfl
theorem law_turn (sc d : D) (x2 x3 x4 x5 x6 x7 x8 x9 x10 : Option D) {h : List D} (hh : Hand h) :
    ∃ y3 y4 y5 y6 y7 h', turn (gN 2) lawB d [some sc, some (.ref 0), x2, x3, x4, x5, x6, x7, x8, x9, x10] [.lst h] = .ok (.nx, [some sc, some (.ref 0), some d, y3, y4, y5, y6, y7, x8, x9, x10]) [.lst h'] ∧ Hand h' := by
  obtain ⟨n0, h1, e1, hh1, n00, n01⟩ := any3 hh []
  obtain ⟨dr, h2, e2, hh2, d1⟩ := drawN hh1 [] n0 n00 (by omega)
  obtain ⟨n, hn⟩ : ∃ n : Nat, (1 + (dr : Int)) = n := ⟨1 + dr, by omega⟩
  have rd : ∀ S, rng1O [.int ((n : Int) - 1)] S = .ok ⟨(List.range dr).map fun (i : Nat) => D.int (i : Int), none⟩ S := rng_int dr _ (by omega) (by omega)
  obtain ⟨qs, h3, e3, hh3, lq, kq⟩ := pos_list hh2 [] dr 9 1 (by omega) [some sc, some (.ref 0), some d, some (.int (n : Nat)), x4, x5, x6, x7, x8, x9, x10] [9] (fun d => rfl)
  have kh : ∀ q ∈ (1, 1) :: qs, Rk 8 q := by
    intro q hq
    rcases List.mem_cons.mp hq with rfl | hq
    · exact rk_one (by decide)
    · exact kq q hq
  obtain ⟨T, hT⟩ : ∃ T, lawOf ((1, 1) :: qs) = T := ⟨_, rfl⟩
  have kT : Tk 16 T := by
    rw [← hT]
    exact lawOfTk kh (by simp) (by simp; omega)
  have dT : dueF T = .tup [.str "levels", encR ((1, 1) :: qs)] := by
    rw [← hT, lawOf_due kh]
    have : ((1, 1) :: qs).map (fun one => overQ one (1, 1)) = (1, 1) :: qs := by
      conv => rhs; rw [← List.map_id ((1, 1) :: qs)]
      exact List.map_congr_left fun q hq => over_one (kh q hq)
    rw [this]
  obtain ⟨y6, h4, e4, hh4⟩ := spoil3 sc d (some (.int (n : Nat))) (some (encR ((1, 1) :: qs))) x6 x7 x8 x9 x10 kT (by decide) (by decide) hh3
  obtain ⟨T2, h5, e5, hh5, l5, k5⟩ := drawn_table sc d (some (.int (n : Nat))) (some (encR ((1, 1) :: qs))) (some (encT T)) y6 x7 x8 x9 x10 n (by omega) hh4
  have kT2 : Tk 8 T2 := ⟨by omega, by omega, by rw [l5]; exact k5⟩
  have told2 := told_ok kT2 [.lst h5] (by decide) (by decide)
  obtain ⟨h6, e6, hh6⟩ := basket_right_ok hh5
  have st1 : (mSet 3 (m2 addO (mC (.int 1)) (mL m_law_draw (maC (mV 1) (maC (mL m_law_any (maC (mV 1) (maC (mL lstO (maC (mC (.int 3)) (maC (mC (.int 5)) (maC (mC (.int 12)) maN)))) maN))) maN)))) : MS) [some sc, some (.ref 0), some d, x3, x4, x5, x6, x7, x8, x9, x10] [.lst h] = .ok (.nx, [some sc, some (.ref 0), some d, some (.int (n : Nat)), x4, x5, x6, x7, x8, x9, x10]) [.lst h2] := by
    simp [lstO, e1, e2, hn]
  have st2 : (mSet 4 (m2 addO (mL tupO (maC (mL tupO (maC (mC (.int 1)) (maC (mC (.int 1)) maN))) maN)) (mL tupleO (maC (lcM (mArgI rng1O (maC (m2 subO (mV 3) (mC (.int 1))) maN)) (gN 9) mYes (mL m_law_positive (maC (mV 1) maN)) [9] finV) maN))) : MS) [some sc, some (.ref 0), some d, some (.int (n : Nat)), x4, x5, x6, x7, x8, x9, x10] [.lst h2] = .ok (.nx, [some sc, some (.ref 0), some d, some (.int (n : Nat)), some (encR ((1, 1) :: qs)), x5, x6, x7, x8, x9, x10]) [.lst h3] := by
    have ad : addO (.tup [.tup [.int 1, .int 1]]) (.tup (qs.map enc)) [.lst h3] = .ok (encR ((1, 1) :: qs)) [.lst h3] := addO_tup _ (by simp; omega)
    simp [tupO, rd, e3, tupleO_vl, ad]
  have st3 : (mSet 5 (mL m_law_of (maC (mV 4) maN)) : MS) [some sc, some (.ref 0), some d, some (.int (n : Nat)), some (encR ((1, 1) :: qs)), x5, x6, x7, x8, x9, x10] [.lst h3] = .ok (.nx, [some sc, some (.ref 0), some d, some (.int (n : Nat)), some (encR ((1, 1) :: qs)), some (encT T), x6, x7, x8, x9, x10]) [.lst h3] := by
    have o := of_ok [.lst h3] kh (by simp; omega) (by decide)
    rw [hT] at o
    simp [o]
  have st4 : (mIfS (mOr (mT (m2 neO (mL m_levels (maC (mV 5) maN)) (mL tupO (maC (mC (.str "levels")) (maC (mV 4) maN))))) (mNot (mT (mL m_law_is_told (maC (mV 5) maN))))) (mRet (mC (.bl false))) mNx : MS) [some sc, some (.ref 0), some d, some (.int (n : Nat)), some (encR ((1, 1) :: qs)), some (encT T), x6, x7, x8, x9, x10] [.lst h3] = .ok (.nx, [some sc, some (.ref 0), some d, some (.int (n : Nat)), some (encR ((1, 1) :: qs)), some (encT T), x6, x7, x8, x9, x10]) [.lst h3] := by
    have l := levels_ok kT [.lst h3] (by decide)
    rw [dT] at l
    have t := told_ok kT [.lst h3] (by decide) (by decide)
    have ne := levels_self kh (by decide) [.lst h3]
    simp [l, tupO, ne, t]
  have st7 : (mIfS (mOr (mNot (mT (mL m_law_is_told (maC (mV 7) maN)))) (mNot (mT (mL m_law_is_basket_right (maC (mV 1) maN))))) (mRet (mC (.bl false))) mNx : MS) [some sc, some (.ref 0), some d, some (.int (n : Nat)), some (encR ((1, 1) :: qs)), some (encT T), y6, some (encT T2), x8, x9, x10] [.lst h5] = .ok (.nx, [some sc, some (.ref 0), some d, some (.int (n : Nat)), some (encR ((1, 1) :: qs)), some (encT T), y6, some (encT T2), x8, x9, x10]) [.lst h6] := by
    simp [told2, e6]
  refine ⟨some (.int (n : Nat)), some (encR ((1, 1) :: qs)), some (encT T), y6, some (encT T2), h6, ?_, hh6⟩
  rw [turn_at, gN_at, turnK_ok]
  simp only [List.set_cons_succ, List.set_cons_zero]
  unfold lawB
  rw [mSeq_at, st1, seqK_nx, mSeq_at, st2, seqK_nx, mSeq_at, st3, seqK_nx, mSeq_at, st4, seqK_nx, mSeq_at, e4, seqK_nx, mSeq_at, e5, seqK_nx]
  exact st7
theorem law_true (ns : List Int) (hl : ns.length ≤ 63) : ∃ S', m_law [.fz (ns.map D.int)] [] = .ok (.bl true) S' := by
  obtain ⟨h, e1, hh⟩ := hand_ok ns hl
  obtain ⟨env', S', e, ⟨h', y2, y3, y4, y5, y6, y7, y8, y9, y10, hh', rfl, rfl⟩⟩ := forL_all (it := ⟨(List.range 4).map fun (i : Nat) => D.int (i : Int), none⟩) (mg := gN 2) (p := lawB) rfl
    (I := fun _ env S => ∃ h x2 x3 x4 x5 x6 x7 x8 x9 x10, Hand h ∧ env = [some (.fz (ns.map D.int)), some (.ref 0), x2, x3, x4, x5, x6, x7, x8, x9, x10] ∧ S = [.lst h])
    ((List.range 4).map fun (i : Nat) => D.int (i : Int)) 0 [some (.fz (ns.map D.int)), some (.ref 0), none, none, none, none, none, none, none, none, none] [.lst h] ⟨h, none, none, none, none, none, none, none, none, none, hh, rfl, rfl⟩ (fun i d hd env S hI => by
      obtain ⟨h, x2, x3, x4, x5, x6, x7, x8, x9, x10, hh, rfl, rfl⟩ := hI
      obtain ⟨y3, y4, y5, y6, y7, h', e, hh'⟩ := law_turn (.fz (ns.map D.int)) d x2 x3 x4 x5 x6 x7 x8 x9 x10 hh
      exact ⟨_, _, e, h', _, _, _, _, _, _, _, _, _, hh', rfl, rfl⟩)
  refine ⟨[.lst h'], ?_⟩
  simp only [m_law, defM_at]
  rw [startE_at]
  simp only [List.map_cons, List.map_nil, List.length_cons, List.length_nil, Nat.reduceAdd, Nat.reduceSub, List.reduceReplicate, if_true, List.cons_append, List.nil_append, mSeq_at, mSet_at, mL_at, maC_at, mV_at, maN_at, List.getElem?_cons_zero, maK_ok, maJ_ok, bind_ok, e1, setK_ok, List.set_cons_succ, List.set_cons_zero, seqK_nx, mFor_at, mArgI_at, mC_at, rng_int 4 4 rfl (by decide), forK_ok]
  rw [e]
  rfl
end K85

open PySem PySem.W PyProof.Rows
set_option maxHeartbeats 0 in
theorem PySem.Challenge.cw_everyprice_k85_whole_levels_or_years_tha_holds : PySem.Challenge.rw_everyprice_k85_whole_levels_or_years_tha.Holds := by
  w_on; o_law; k_head; (case hw => w_witness2)
  k_fill
  refine DL.walk_ofD (l := PySem.Challenge.rw_everyprice_k85_whole_levels_or_years_tha) (n := 63) (k := 8) (x := "script") (cm := fun _ _ => fun _ => none) (mf := fun _ _ => K85.m_law) rfl (by decide) rfl ⟨rfl, by decide, by decide⟩ (fun w h Y => PySem.W.kIn_of Y) ?F (fun _ _ ns hl => K85.law_true ns hl)
  case F =>
    intro w mg fa h KX G hmg
    refine K85.ok_law ?X hmg
    case X =>
      refine' K85.fx_mk KX G ?z_abs ?z_all ?z_bool ?z_enumerate ?z_int ?z_isinstance ?z_len ?z_range ?z_repr ?z_str ?z_tuple ?z_zip ?ka_ZERO ?kl_ZERO ?kv_ZERO ?ka_MOST_TABLE ?ka_TURN ?ka_LEVELS ?ka_MOST_GOODS ?ka_NEW ?ka_OLD ?a_is_integer ?l_is_integer ?c_is_integer ?k_is_integer ?a_is_within ?l_is_within ?c_is_within ?k_is_within ?a_is_sized ?l_is_sized ?c_is_sized ?k_is_sized ?a_common ?l_common ?c_common ?k_common ?a_share ?l_share ?c_share ?k_share ?a_is_share ?l_is_share ?c_is_share ?k_is_share ?a_plus ?l_plus ?c_plus ?k_plus ?a_times ?l_times ?c_times ?k_times ?a_over ?l_over ?c_over ?k_over ?a_summed ?l_summed ?c_summed ?k_summed ?a_dot ?l_dot ?c_dot ?k_dot ?a_is_positive ?l_is_positive ?c_is_positive ?k_is_positive ?a_is_grid ?l_is_grid ?c_is_grid ?k_is_grid ?a_levels ?l_levels ?c_levels ?k_levels ?a_is_rows ?l_is_rows ?c_is_rows ?k_is_rows ?a_basket_table ?l_basket_table ?c_basket_table ?k_basket_table ?a__law_hand ?l__law_hand ?c__law_hand ?k__law_hand ?a__law_draw ?l__law_draw ?c__law_draw ?k__law_draw ?a__law_any ?l__law_any ?c__law_any ?k__law_any ?a__law_low ?l__law_low ?c__law_low ?k__law_low ?a__law_add ?l__law_add ?c__law_add ?k__law_add ?a__law_mul ?l__law_mul ?c__law_mul ?k__law_mul ?a__law_over ?l__law_over ?c__law_over ?k__law_over ?a__law_sum ?l__law_sum ?c__law_sum ?k__law_sum ?a__law_dot ?l__law_dot ?c__law_dot ?k__law_dot ?a__law_positive ?l__law_positive ?c__law_positive ?k__law_positive ?a__law_due ?l__law_due ?c__law_due ?k__law_due ?a__law_of ?l__law_of ?c__law_of ?k__law_of ?a__law_is_told ?l__law_is_told ?c__law_is_told ?k__law_is_told ?a__law_spoiled ?l__law_spoiled ?c__law_spoiled ?k__law_spoiled ?a__law_table ?l__law_table ?c__law_table ?k__law_table ?a__law_is_basket_right ?l__law_is_basket_right ?c__law_is_basket_right ?k__law_is_basket_right ?a_law ?l_law ?c_law ?k_law
      (case z_abs => k_is)
      (case z_all => k_is)
      (case z_bool => k_is)
      (case z_enumerate => k_is)
      (case z_int => k_is)
      (case z_isinstance => k_is)
      (case z_len => k_is)
      (case z_range => k_is)
      (case z_repr => k_is)
      (case z_str => k_is)
      (case z_tuple => k_is)
      (case z_zip => k_is)
      (case ka_ZERO => k_is)
      (case kl_ZERO => k_is)
      (case kv_ZERO => repeat (first | exact .nil | refine .cons ⟨_, rfl⟩ ?_))
      (case ka_MOST_TABLE => k_is)
      (case ka_TURN => k_is)
      (case ka_LEVELS => k_is)
      (case ka_MOST_GOODS => k_is)
      (case ka_NEW => k_is)
      (case ka_OLD => k_is)
      (case a_is_integer => k_is)
      (case l_is_integer => k_is)
      (case c_is_integer => k_is)
      (case k_is_integer => k_is)
      (case a_is_within => k_is)
      (case l_is_within => k_is)
      (case c_is_within => k_is)
      (case k_is_within => k_is)
      (case a_is_sized => k_is)
      (case l_is_sized => k_is)
      (case c_is_sized => k_is)
      (case k_is_sized => k_is)
      (case a_common => k_is)
      (case l_common => k_is)
      (case c_common => k_is)
      (case k_common => k_is)
      (case a_share => k_is)
      (case l_share => k_is)
      (case c_share => k_is)
      (case k_share => k_is)
      (case a_is_share => k_is)
      (case l_is_share => k_is)
      (case c_is_share => k_is)
      (case k_is_share => k_is)
      (case a_plus => k_is)
      (case l_plus => k_is)
      (case c_plus => k_is)
      (case k_plus => k_is)
      (case a_times => k_is)
      (case l_times => k_is)
      (case c_times => k_is)
      (case k_times => k_is)
      (case a_over => k_is)
      (case l_over => k_is)
      (case c_over => k_is)
      (case k_over => k_is)
      (case a_summed => k_is)
      (case l_summed => k_is)
      (case c_summed => k_is)
      (case k_summed => k_is)
      (case a_dot => k_is)
      (case l_dot => k_is)
      (case c_dot => k_is)
      (case k_dot => k_is)
      (case a_is_positive => k_is)
      (case l_is_positive => k_is)
      (case c_is_positive => k_is)
      (case k_is_positive => k_is)
      (case a_is_grid => k_is)
      (case l_is_grid => k_is)
      (case c_is_grid => k_is)
      (case k_is_grid => k_is)
      (case a_levels => k_is)
      (case l_levels => k_is)
      (case c_levels => k_is)
      (case k_levels => k_is)
      (case a_is_rows => k_is)
      (case l_is_rows => k_is)
      (case c_is_rows => k_is)
      (case k_is_rows => k_is)
      (case a_basket_table => k_is)
      (case l_basket_table => k_is)
      (case c_basket_table => k_is)
      (case k_basket_table => k_is)
      (case a__law_hand => k_is)
      (case l__law_hand => k_is)
      (case c__law_hand => k_is)
      (case k__law_hand => k_is)
      (case a__law_draw => k_is)
      (case l__law_draw => k_is)
      (case c__law_draw => k_is)
      (case k__law_draw => k_is)
      (case a__law_any => k_is)
      (case l__law_any => k_is)
      (case c__law_any => k_is)
      (case k__law_any => k_is)
      (case a__law_low => k_is)
      (case l__law_low => k_is)
      (case c__law_low => k_is)
      (case k__law_low => k_is)
      (case a__law_add => k_is)
      (case l__law_add => k_is)
      (case c__law_add => k_is)
      (case k__law_add => k_is)
      (case a__law_mul => k_is)
      (case l__law_mul => k_is)
      (case c__law_mul => k_is)
      (case k__law_mul => k_is)
      (case a__law_over => k_is)
      (case l__law_over => k_is)
      (case c__law_over => k_is)
      (case k__law_over => k_is)
      (case a__law_sum => k_is)
      (case l__law_sum => k_is)
      (case c__law_sum => k_is)
      (case k__law_sum => k_is)
      (case a__law_dot => k_is)
      (case l__law_dot => k_is)
      (case c__law_dot => k_is)
      (case k__law_dot => k_is)
      (case a__law_positive => k_is)
      (case l__law_positive => k_is)
      (case c__law_positive => k_is)
      (case k__law_positive => k_is)
      (case a__law_due => k_is)
      (case l__law_due => k_is)
      (case c__law_due => k_is)
      (case k__law_due => k_is)
      (case a__law_of => k_is)
      (case l__law_of => k_is)
      (case c__law_of => k_is)
      (case k__law_of => k_is)
      (case a__law_is_told => k_is)
      (case l__law_is_told => k_is)
      (case c__law_is_told => k_is)
      (case k__law_is_told => k_is)
      (case a__law_spoiled => k_is)
      (case l__law_spoiled => k_is)
      (case c__law_spoiled => k_is)
      (case k__law_spoiled => k_is)
      (case a__law_table => k_is)
      (case l__law_table => k_is)
      (case c__law_table => k_is)
      (case k__law_table => k_is)
      (case a__law_is_basket_right => k_is)
      (case l__law_is_basket_right => k_is)
      (case c__law_is_basket_right => k_is)
      (case k__law_is_basket_right => k_is)
      (case a_law => k_is)
      (case l_law => k_is)
      (case c_law => k_is)
      (case k_law => k_is)

