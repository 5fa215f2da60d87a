import PyProof.Rows.All
import Wide.All
import OpenK.AllK
import Wide.FinOn
import HandS.ForMost
import HandS.ForExc
import HandS.Walk
import HandS.Zip
import HandS.IsInst
import HandS.Wide
import HandS.WideMore
import HandS.TupAny
import HandS.TupMul
import HandS.ExcInit
import HandS.TryMany
import KE.DataEq
import HandS.Conv
import HandS.Style
import HandS.RaiseMore
import HandS.SortInts
import HandS.TupSets
import KE.GoesMore
import KE.GoesEnum
import KE.KRevSl
import HandS.Defaults
import HandS.HeadEnd
import HandS.HeadHook1
import HandS.HeadHook2
import HandS.Head2
import KE.KExcSuper
import HandS.ExcField
import HandS.ExcIs
import PySem.Challenge.RW_allworlds_k71_whole_best_courses
set_option Elab.async false
set_option linter.all false
set_option maxRecDepth 100000
set_option maxHeartbeats 4000000
/-! DL0: the values of the D-layer and how the abstract heap bears them. -/
namespace DL
open PySem PySem.Spec PyProof.Rows L2

/-- values: data as a whole; ref: an object of the store -/
inductive D where
  | non | bl (b : Bool) | int (i : Int) | str (s : Str)
  | tup (ds : List D) | lst (ds : List D) | ins (c : Nat) (ns : List Str) (ds : List D)
  | ref (n : Nat) | exn (c : Nat) (d : D) | scr (ds : List D) | ty (n : String) | cls (c : Nat)
/-- objects of the store -/
inductive DO where
  | lst (ds : List D) | ins (c : Nat) (ns : List Str) (ds : List D)
abbrev Store := List DO
abbrev Env := List (Option D)

/-- an exception of an own class: its number, its field's value -/
structure DX where
  c : Nat
  v : D

/-- what the program's text gives: classes by number -/
structure Tbl where
  K : PySem.W.Frag
  cls : Nat → Option Addr
  exc : Nat → Option (Addr × Str)
  hid : List Addr

/-- the script: locked, or an object of the module -/
def Scr (K : PySem.W.Frag) (H : Hp) (a : Addr) (xs : List V) : Prop :=
  (∃ o, H a = some (.frz o (.lst xs))) ∨
    ∃ (o : Obj) (its : Array Value) (n : Nat), K.lookup a = some o ∧ o.cls = .type "list" ∧ o.dict = none ∧ o.data = .seq its n ∧ its.size ≤ sizeLine ∧ Vals xs its.toList
theorem Scr.sq {K : PySem.W.Frag} {H : Hp} {a : Addr} {xs : List V} (h : Scr K H a xs) : SqL K H a xs := by
  rcases h with h | h
  · exact .inl (.inr h)
  · exact .inr h
mutual
inductive Rp (T : Tbl) (H : Hp) (al : List Addr) : D → V → Prop
  | non : Rp T H al .non .non
  | bl (b : Bool) : Rp T H al (.bl b) (.bl b)
  | int (i : Int) : Rp T H al (.int i) (.int i)
  | str (s : Str) : Rp T H al (.str s) (.str s)
  | tup {a : Addr} {xs : List V} {ds : List D} : SqT T.K H a xs → RpL T H al ds xs → Rp T H al (.tup ds) (.ref a)
  | scr {a : Addr} {xs : List V} {ds : List D} : Scr T.K H a xs → RpL T H al ds xs → Rp T H al (.scr ds) (.ref a)
  | ty (n : String) : Rp T H al (.ty n) (.ty n)
  | cls {c : Nat} {C : Addr} : T.cls c = some C → Rp T H al (.cls c) (.ref C)
  | lst {a : Addr} {xs : List V} {ds : List D} : H a = some (.lst xs) → a ∉ al → a ∉ T.hid → RpL T H al ds xs → Rp T H al (.lst ds) (.ref a)
  | ins {a C dx : Addr} {c : Nat} {ns : List Str} {fs : List (Str × V)} {ds : List D} : T.cls c = some C → H a = some (.ins C dx fs) → a ∉ al → a ∉ T.hid → fs.map Prod.fst = ns →
      RpL T H al ds (fs.map Prod.snd) → Rp T H al (.ins c ns ds) (.ref a)
  | ref {n : Nat} {a : Addr} : al[n]? = some a → Rp T H al (.ref n) (.ref a)
inductive RpL (T : Tbl) (H : Hp) (al : List Addr) : List D → List V → Prop
  | nil : RpL T H al [] []
  | cons {d : D} {v : V} {ds : List D} {vs : List V} : Rp T H al d v → RpL T H al ds vs → RpL T H al (d :: ds) (v :: vs)
end

/-- how the heap may have come on: new objects, those of the store changed, all else kept -/
structure Gw (al : List Addr) (H : Hp) (al' : List Addr) (H' : Hp) : Prop where
  pre : ∃ be, al' = al ++ be ∧ ∀ b ∈ be, H b = none
  keep : ∀ a o, a ∉ al → H a = some o → H' a = some o
  tups : ∀ a xs, Rd H a (.tup xs) → Rd H' a (.tup xs)
  frzs : ∀ a o u, H a = some (.frz o u) → H' a = some (.frz o u)
  dom : ∀ a, H a ≠ none → H' a ≠ none

theorem Gw.refl (al : List Addr) (H : Hp) : Gw al H al H :=
  ⟨⟨[], by simp, by simp⟩, fun _ _ _ h => h, fun _ _ h => h, fun _ _ _ h => h, fun _ h => h⟩
theorem Gw.notin {al al' : List Addr} {H H' : Hp} (g : Gw al H al' H') {a : Addr} (h : a ∉ al) (n : H a ≠ none) : a ∉ al' := by
  obtain ⟨be, rfl, hb⟩ := g.pre
  rw [List.mem_append]
  rintro (z | z)
  · exact h z
  · exact n (hb a z)
theorem Gw.trans {a1 a2 a3 : List Addr} {H1 H2 H3 : Hp} (g : Gw a1 H1 a2 H2) (g' : Gw a2 H2 a3 H3) : Gw a1 H1 a3 H3 := by
  refine ⟨?_, fun a o n h => ?_, fun a xs h => g'.tups a xs (g.tups a xs h), fun a o u h => g'.frzs a o u (g.frzs a o u h), fun a h => g'.dom a (g.dom a h)⟩
  · obtain ⟨be, rfl, hb⟩ := g.pre
    obtain ⟨be', rfl, hb'⟩ := g'.pre
    refine ⟨be ++ be', by rw [List.append_assoc], fun b hm => ?_⟩
    rcases List.mem_append.mp hm with z | z
    · exact hb b z
    · cases q : H1 b with
      | none => rfl
      | some o => exact absurd (hb' b z) (g.dom b (by rw [q]; simp))
  · exact g'.keep a o (g.notin n (by rw [h]; simp)) (g.keep a o n h)
theorem Gw.at {al al' : List Addr} {H H' : Hp} (g : Gw al H al' H') {n : Nat} {a : Addr} (h : al[n]? = some a) : al'[n]? = some a := by
  obtain ⟨be, rfl, _⟩ := g.pre
  rw [List.getElem?_append_left]
  · exact h
  · exact (List.getElem?_eq_some_iff.mp h).1
theorem Gw.scr {al al' : List Addr} {H H' : Hp} (g : Gw al H al' H') {K : PySem.W.Frag} {a : Addr} {xs : List V} (h : Scr K H a xs) : Scr K H' a xs := by
  rcases h with ⟨o, h⟩ | h
  · exact .inl ⟨o, g.frzs a o _ h⟩
  · exact .inr h
theorem rd_some {H : Hp} {a : Addr} {o : HO} (h : Rd H a o) : H a ≠ none := by
  rcases h with h | ⟨_, h⟩ <;> rw [h] <;> simp
theorem Gw.sqt {al al' : List Addr} {H H' : Hp} (g : Gw al H al' H') {K : PySem.W.Frag} {a : Addr} {xs : List V} (h : SqT K H a xs) : SqT K H' a xs := by
  rcases h with h | h
  · exact .inl (g.tups a xs h)
  · exact .inr h

section
variable {T : Tbl} {H H' : Hp} {al al' : List Addr}
mutual
theorem Rp.mono (g : Gw al H al' H') : ∀ {d : D} {v : V}, Rp T H al d v → Rp T H' al' d v
  | _, _, .non => .non
  | _, _, .bl b => .bl b
  | _, _, .int i => .int i
  | _, _, .str s => .str s
  | _, _, .tup h r => .tup (g.sqt h) (RpL.mono g r)
  | _, _, .scr h r => .scr (g.scr h) (RpL.mono g r)
  | _, _, .ty n => .ty n
  | _, _, .cls h => .cls h
  | _, _, .lst h n hd r => .lst (g.keep _ _ n h) (g.notin n (by rw [h]; simp)) hd (RpL.mono g r)
  | _, _, .ins hc h n hd e r => .ins hc (g.keep _ _ n h) (g.notin n (by rw [h]; simp)) hd e (RpL.mono g r)
  | _, _, .ref h => .ref (g.at h)
theorem RpL.mono (g : Gw al H al' H') : ∀ {ds : List D} {vs : List V}, RpL T H al ds vs → RpL T H' al' ds vs
  | _, _, .nil => .nil
  | _, _, .cons h r => .cons (Rp.mono g h) (RpL.mono g r)
end
theorem RpL.length : ∀ {ds : List D} {vs : List V}, RpL T H al ds vs → ds.length = vs.length
  | _, _, .nil => rfl
  | _, _, .cons _ r => by rw [List.length_cons, List.length_cons, RpL.length r]
theorem RpL.get : ∀ {ds : List D} {vs : List V} {i : Nat} {d : D}, RpL T H al ds vs → ds[i]? = some d → ∃ v, vs[i]? = some v ∧ Rp T H al d v
  | _, _, _, _, .nil, e => by simp at e
  | _, _, 0, _, .cons h _, e => by
    simp at e
    subst e
    exact ⟨_, rfl, h⟩
  | _, _, i + 1, d, .cons _ r, e => by
    obtain ⟨v, h1, h2⟩ := RpL.get (i := i) (d := d) r (by simpa using e)
    exact ⟨v, by simpa using h1, h2⟩
theorem RpL.getV : ∀ {ds : List D} {vs : List V} {i : Nat} {v : V}, RpL T H al ds vs → vs[i]? = some v → ∃ d, ds[i]? = some d ∧ Rp T H al d v
  | _, _, _, _, .nil, e => by simp at e
  | _, _, 0, _, .cons h _, e => by
    simp at e
    subst e
    exact ⟨_, rfl, h⟩
  | _, _, i + 1, d, .cons _ r, e => by
    obtain ⟨v, h1, h2⟩ := RpL.getV (i := i) (v := d) r (by simpa using e)
    exact ⟨v, by simpa using h1, h2⟩
theorem RpL.append : ∀ {ds es : List D} {vs ws : List V}, RpL T H al ds vs → RpL T H al es ws → RpL T H al (ds ++ es) (vs ++ ws)
  | _, _, _, _, .nil, s => s
  | _, _, _, _, .cons h r, s => .cons h (RpL.append r s)
theorem RpL.take : ∀ {ds : List D} {vs : List V} (n : Nat), RpL T H al ds vs → RpL T H al (ds.take n) (vs.take n)
  | _, _, 0, _ => .nil
  | _, _, _ + 1, .nil => .nil
  | _, _, n + 1, .cons h r => .cons h (RpL.take n r)
theorem RpL.drop : ∀ {ds : List D} {vs : List V} (n : Nat), RpL T H al ds vs → RpL T H al (ds.drop n) (vs.drop n)
  | _, _, 0, r => r
  | _, _, _ + 1, .nil => .nil
  | _, _, n + 1, .cons _ r => RpL.drop n r
theorem RpL.set : ∀ {ds : List D} {vs : List V} {d : D} {v : V} (i : Nat), Rp T H al d v → RpL T H al ds vs → RpL T H al (ds.set i d) (vs.set i v)
  | _, _, _, _, _, _, .nil => .nil
  | _, _, _, _, 0, q, .cons _ r => .cons q r
  | _, _, _, _, i + 1, q, .cons h r => .cons h (RpL.set i q r)
theorem RpL.reverse {ds : List D} {vs : List V} (h : RpL T H al ds vs) : RpL T H al ds.reverse vs.reverse := by
  induction ds generalizing vs with
  | nil =>
    cases h
    exact .nil
  | cons d ds ih =>
    cases h with
    | cons h r =>
      rw [List.reverse_cons, List.reverse_cons]
      exact (ih r).append (.cons h .nil)
theorem RpL.rep {ds : List D} {vs : List V} (h : RpL T H al ds vs) : ∀ k : Nat, RpL T H al (List.replicate k ds).flatten (List.replicate k vs).flatten
  | 0 => .nil
  | k + 1 => by
    rw [List.replicate_succ, List.replicate_succ, List.flatten_cons, List.flatten_cons]
    exact h.append (RpL.rep h k)
theorem RpL.dropLast {ds : List D} {vs : List V} (h : RpL T H al ds vs) : RpL T H al ds.dropLast vs.dropLast := by
  rw [List.dropLast_eq_take, List.dropLast_eq_take, h.length]
  exact h.take _
theorem RpL.insertIdx : ∀ {ds : List D} {vs : List V} {d : D} {v : V} (i : Nat), Rp T H al d v → RpL T H al ds vs → RpL T H al (ds.insertIdx i d) (vs.insertIdx i v)
  | _, _, _, _, 0, q, r => .cons q r
  | _, _, _, _, _ + 1, _, .nil => .nil
  | _, _, _, _, i + 1, q, .cons h r => by
    rw [List.insertIdx_succ_cons, List.insertIdx_succ_cons]
    exact .cons h (RpL.insertIdx i q r)
end

/-! ### the store, the slots -/
def ROb (T : Tbl) (H : Hp) (al : List Addr) (a : Addr) : DO → Prop
  | .lst ds => ∃ xs, H a = some (.lst xs) ∧ RpL T H al ds xs
  | .ins c ns ds => ∃ C dx gs, T.cls c = some C ∧ H a = some (.ins C dx gs) ∧ gs.map Prod.fst = ns ∧ RpL T H al ds (gs.map Prod.snd)
structure Ste (T : Tbl) (al : List Addr) (mu : Store) (H : Hp) : Prop where
  len : al.length = mu.length
  nd : al.Nodup
  at_ : ∀ (n : Nat) (o : DO) (a : Addr), mu[n]? = some o → al[n]? = some a → ROb T H al a o
  hd : ∀ h ∈ T.hid, H h ≠ none ∧ h ∉ al
/-- the slots: what is known of them -/
def RpS (T : Tbl) (H : Hp) (al : List Addr) (rh : Env) (si : L2.St) : Prop :=
  rh.length = si.length ∧ ∀ (i : Nat) (d : D), rh[i]? = some (some d) → ∃ v, si[i]? = some (some v) ∧ Rp T H al d v
section
variable {T : Tbl} {H H' : Hp} {al al' : List Addr} {mu mu' : Store} {rh : Env} {si : L2.St}
theorem RpS.mono (g : Gw al H al' H') (h : RpS T H al rh si) : RpS T H' al' rh si := ⟨h.1, fun i d e => by
  obtain ⟨v, q, r⟩ := h.2 i d e
  exact ⟨v, q, r.mono g⟩⟩
theorem RpS.set {i : Nat} {d : D} {v : V} (h : RpS T H al rh si) (r : Rp T H al d v) : RpS T H al (rh.set i (some d)) (si.set i (some v)) := by
  refine ⟨by rw [List.length_set, List.length_set]; exact h.1, fun j e q => ?_⟩
  by_cases hj : i = j
  · subst hj
    by_cases hl : i < rh.length
    · rw [List.getElem?_set_self hl] at q
      cases q
      exact ⟨v, List.getElem?_set_self (h.1 ▸ hl), r⟩
    · rw [List.getElem?_eq_none (by rw [List.length_set]; omega)] at q
      cases q
  · rw [List.getElem?_set_ne hj] at q ⊢
    exact h.2 j e q
theorem RpS.forget {i : Nat} {x : Option V} (h : RpS T H al rh si) : RpS T H al (rh.set i none) (si.set i x) := by
  refine ⟨by rw [List.length_set, List.length_set]; exact h.1, fun j e q => ?_⟩
  by_cases hj : i = j
  · subst hj
    by_cases hl : i < rh.length
    · rw [List.getElem?_set_self hl] at q
      cases q
    · rw [List.getElem?_eq_none (by rw [List.length_set]; omega)] at q
      cases q
  · rw [List.getElem?_set_ne hj] at q ⊢
    exact h.2 j e q
theorem RpS.forget1 {i : Nat} (h : RpS T H al rh si) : RpS T H al (rh.set i none) si := by
  refine ⟨by rw [List.length_set]; exact h.1, fun j e q => ?_⟩
  by_cases hj : i = j
  · subst hj
    by_cases hl : i < rh.length
    · rw [List.getElem?_set_self hl] at q
      cases q
    · rw [List.getElem?_eq_none (by rw [List.length_set]; omega)] at q
      cases q
  · rw [List.getElem?_set_ne hj] at q
    exact h.2 j e q
/-- something new beside the store -/
theorem gw_new {p : Addr} {o : HO} (hp : H p = none) : Gw al H al (upd H p o) := by
  refine ⟨⟨[], by simp, by simp⟩, fun a u _ h => ?_, fun a xs h => ?_, fun a ob u h => ?_, fun a h => ?_⟩
  · rw [upd_ne (ne_of_none h hp)]
    exact h
  · rcases h with h | ⟨ob, h⟩
    · exact .inl (by rw [upd_ne (ne_of_none h hp)]; exact h)
    · exact .inr ⟨ob, by rw [upd_ne (ne_of_none h hp)]; exact h⟩
  · rw [upd_ne (ne_of_none h hp)]
    exact h
  · by_cases e : a = p
    · rw [e] at h
      exact absurd hp h
    · rw [upd_ne e]
      exact h
theorem Ste.tr (s : Ste T al mu H) {n : Nat} {a : Addr} (h : al[n]? = some a) : ∃ o, mu[n]? = some o ∧ ROb T H al a o := by
  have hl : n < mu.length := by
    rw [← s.len]
    exact (List.getElem?_eq_some_iff.mp h).1
  exact ⟨mu[n], List.getElem?_eq_getElem hl, s.at_ n _ a (List.getElem?_eq_getElem hl) h⟩
theorem Ste.adr (s : Ste T al mu H) {n : Nat} {o : DO} (h : mu[n]? = some o) : ∃ a, al[n]? = some a ∧ ROb T H al a o := by
  have hl : n < al.length := by
    rw [s.len]
    exact (List.getElem?_eq_some_iff.mp h).1
  exact ⟨al[n], List.getElem?_eq_getElem hl, s.at_ n _ _ h (List.getElem?_eq_getElem hl)⟩
theorem ROb.there {a : Addr} {o : DO} (h : ROb T H al a o) : H a ≠ none := by
  cases o with
  | lst ds =>
    obtain ⟨xs, e, _⟩ := h
    rw [e]; simp
  | ins c ns ds =>
    obtain ⟨_, _, _, _, e, _⟩ := h
    rw [e]; simp
theorem ROb.mono {a : Addr} {o : DO} (g : Gw al H al' H') (hk : ∀ u, H a = some u → H' a = some u) (h : ROb T H al a o) : ROb T H' al' a o := by
  cases o with
  | lst ds =>
    obtain ⟨xs, e, r⟩ := h
    exact ⟨xs, hk _ e, r.mono g⟩
  | ins c ns ds =>
    obtain ⟨C, dx, gs, h1, h2, h3, h4⟩ := h
    exact ⟨C, dx, gs, h1, hk _ h2, h3, h4.mono g⟩
/-- the store stays where all of its objects do -/
theorem Ste.keep (s : Ste T al mu H) (g : Gw al H al H') (hk : ∀ a u, H a = some u → H' a = some u) : Ste T al mu H' :=
  ⟨s.len, s.nd, fun n o a h1 h2 => ROb.mono g (hk a) (s.at_ n o a h1 h2), fun h m => ⟨g.dom h (s.hd h m).1, (s.hd h m).2⟩⟩
theorem Ste.new (s : Ste T al mu H) {p : Addr} {o : HO} (hp : H p = none) : Ste T al mu (upd H p o) :=
  s.keep (gw_new hp) fun a u h => by rw [upd_ne (ne_of_none h hp)]; exact h
/-- a new object of the store -/
theorem Ste.notin (s : Ste T al mu H) {p : Addr} (hp : H p = none) : p ∉ al := fun h => by
  obtain ⟨n, e⟩ := List.getElem?_of_mem h
  obtain ⟨o, _, r⟩ := s.tr e
  exact r.there hp
theorem Ste.nohid (s : Ste T al mu H) {p : Addr} (hp : H p = none) : p ∉ T.hid := fun h => (s.hd p h).1 hp
theorem gw_alloc {p : Addr} {o : HO} (hp : H p = none) : Gw al H (al ++ [p]) (upd H p o) := by
  have g := gw_new (al := al) (o := o) hp
  exact ⟨⟨[p], rfl, by simpa using hp⟩, g.keep, g.tups, g.frzs, g.dom⟩
theorem Ste.alloc (s : Ste T al mu H) {p : Addr} {o : HO} {ob : DO} (hp : H p = none) (h : ROb T (upd H p o) (al ++ [p]) p ob) : Ste T (al ++ [p]) (mu ++ [ob]) (upd H p o) := by
  have g := gw_alloc (al := al) (o := o) hp
  refine ⟨by simp [s.len], ?_, fun n u a h1 h2 => ?_, fun z m => ⟨g.dom z (s.hd z m).1, fun hm => ?_⟩⟩
  rotate_left 2
  · rcases List.mem_append.mp hm with q | q
    · exact (s.hd z m).2 q
    · rw [List.mem_singleton] at q
      subst q
      exact (s.hd z m).1 hp
  · rw [List.nodup_append]
    refine ⟨s.nd, by simp, fun a ha b hb => ?_⟩
    rw [List.mem_singleton] at hb
    subst hb
    intro e
    subst e
    exact s.notin hp ha
  · by_cases hn : n < mu.length
    · rw [List.getElem?_append_left hn] at h1
      rw [List.getElem?_append_left (by rw [s.len]; exact hn)] at h2
      exact ROb.mono g (fun z hz => by rw [upd_ne (ne_of_none hz hp)]; exact hz) (s.at_ n u a h1 h2)
    · rw [List.getElem?_append_right (by omega)] at h1
      rw [List.getElem?_append_right (by rw [s.len]; omega)] at h2
      rw [s.len] at h2
      cases hk : n - mu.length with
      | zero =>
        rw [hk] at h1 h2
        simp at h1 h2
        subst h1 h2
        exact h
      | succ k =>
        rw [hk] at h1
        simp at h1
/-- an object of the store is changed -/
theorem gw_put {n : Nat} {a : Addr} {u o : HO} (ha : al[n]? = some a) (hu : H a = some u) (mu : Mut (some u)) : Gw al H al (upd H a o) := by
  have hm : a ∈ al := List.mem_of_getElem? ha
  refine ⟨⟨[], by simp, by simp⟩, fun b v nb h => ?_, fun b xs h => ?_, fun b ob v h => ?_, fun b h => ?_⟩
  · rw [upd_ne (fun e => nb (by rw [e]; exact hm))]
    exact h
  · have ne : b ≠ a := fun e => by
      subst e
      rcases h with h | ⟨ob, h⟩
      · rw [hu] at h
        cases h
        exact mu
      · rw [hu] at h
        cases h
        exact mu
    rcases h with h | ⟨ob, h⟩
    · exact .inl (by rw [upd_ne ne]; exact h)
    · exact .inr ⟨ob, by rw [upd_ne ne]; exact h⟩
  · have ne : b ≠ a := fun e => by
      subst e
      rw [hu] at h
      cases h
      exact mu
    rw [upd_ne ne]
    exact h
  · by_cases e : b = a
    · rw [e, upd_same]
      simp
    · rw [upd_ne e]
      exact h
theorem Ste.put (s : Ste T al mu H) {n : Nat} {a : Addr} {u o : HO} {ob : DO} (ha : al[n]? = some a) (hu : H a = some u) (mt : Mut (some u)) (h : ROb T (upd H a o) al a ob) :
    Ste T al (mu.set n ob) (upd H a o) := by
  have g := gw_put (o := o) ha hu mt
  refine ⟨by rw [List.length_set]; exact s.len, s.nd, fun m w b h1 h2 => ?_, fun z m => ⟨g.dom z (s.hd z m).1, (s.hd z m).2⟩⟩
  by_cases hm : n = m
  · subst hm
    rw [ha] at h2
    cases h2
    have hl : n < mu.length := by
      rw [← s.len]
      exact (List.getElem?_eq_some_iff.mp ha).1
    rw [List.getElem?_set_self hl] at h1
    cases h1
    exact h
  · rw [List.getElem?_set_ne hm] at h1
    have nb : b ≠ a := fun e => by
      subst e
      obtain ⟨hl1, e1⟩ := List.getElem?_eq_some_iff.mp ha
      obtain ⟨hl2, e2⟩ := List.getElem?_eq_some_iff.mp h2
      exact hm ((List.getElem_inj s.nd).mp (e1.trans e2.symm))
    exact ROb.mono g (fun z hz => by rw [upd_ne nb]; exact hz) (s.at_ m w b h1 h2)
end
end DL

set_option Elab.async false
set_option linter.all false
set_option maxRecDepth 100000
set_option maxHeartbeats 4000000
/-! DL1: readings of the D-layer: what a piece of code does with values, and that it does so. -/
namespace DL
open PySem PySem.Spec PyProof.Rows L2

inductive R (A : Type) where
  | val (a : A) (mu : Store) | exc (x : DX) (mu : Store) | bad
abbrev M (A : Type) := Store → R A
def bnd {A B : Type} (m : M A) (f : A → M B) : M B := fun mu => match m mu with
  | .val a mu' => f a mu'
  | .exc x mu' => .exc x mu'
  | .bad => .bad
def ret {A : Type} (a : A) : M A := fun mu => .val a mu
def bad {A : Type} : M A := fun _ => .bad
abbrev SE := Env → M D
abbrev SA := Env → M (List D)
abbrev SB := Env → M Bool

def XRp (T : Tbl) (H : Hp) (al : List Addr) (x : DX) (cls : Value) (dx : Option Addr) : Prop :=
  ∃ C f dd v, T.exc x.c = some (C, f) ∧ cls = .ref C ∧ dx = some dd ∧ H dd = some (.xd [(f, v)]) ∧ dd ∉ al ∧ Rp T H al x.v v

/-- a result is what is wanted: behind it whatever the heap has come to -/
def RV (T : Tbl) (W : WX) (si : L2.St) (al : List Addr) (H : Hp) {A B : Type} (P : Hp → List Addr → A → B → Prop) (Q : B → Hp → Prop) : R A → Prop
  | .val a mu' => ∀ v al' H', Gw al H al' H' → Ste T al' mu' H' → P H' al' a v → Q v H'
  | .exc x mu' => ∀ cls dx al' H', Gw al H al' H' → Ste T al' mu' H' → XRp T H' al' x cls dx → W cls dx si H'
  | .bad => False
section
variable {T : Tbl} {W : WX} {si : L2.St} {al : List Addr} {H : Hp} {A B A' B' : Type} {P : Hp → List Addr → A → B → Prop} {P' : Hp → List Addr → A' → B' → Prop} {Q : B → Hp → Prop} {Q' : B' → Hp → Prop}
theorem RV.grow {r : R A} {al1 : List Addr} {H1 : Hp} (h : RV T W si al H P Q r) (g : Gw al H al1 H1) : RV T W si al1 H1 P Q r := by
  cases r with
  | val a mu => exact fun v al' H' g' => h v al' H' (g.trans g')
  | exc x mu => exact fun c d al' H' g' => h c d al' H' (g.trans g')
  | bad => exact h
theorem RV.bind {m : M A} {f : A → M A'} {mu : Store} (h : RV T W si al H P' Q' (bnd m f mu)) :
    RV T W si al H P (fun v H' => ∃ al' a mu', Gw al H al' H' ∧ Ste T al' mu' H' ∧ P H' al' a v ∧ RV T W si al' H' P' Q' (f a mu')) (m mu) := by
  unfold bnd at h
  cases e : m mu with
  | val a mu' =>
    rw [e] at h
    exact fun v al' H' g s p => ⟨al', a, mu', g, s, p, h.grow g⟩
  | exc x mu' =>
    rw [e] at h
    exact h
  | bad =>
    rw [e] at h
    exact h.elim
theorem RV.imp {r : R A} {Q2 : B → Hp → Prop} (h : RV T W si al H P Q r) (hq : ∀ v H', Q v H' → Q2 v H') : RV T W si al H P Q2 r := by
  cases r with
  | val a mu => exact fun v al' H' g s p => hq v H' (h v al' H' g s p)
  | exc x mu => exact h
  | bad => exact h
end

/-! ### judgements -/
def tD (T : Tbl) (W : WX) (g : SE) : TE := fun si H Q => ∃ al rh mu, Ste T al mu H ∧ RpS T H al rh si ∧ RV T W si al H (fun H al d v => Rp T H al d v) Q (g rh mu)
def tDL (T : Tbl) (W : WX) (g : SA) : TA := fun si H Q => ∃ al rh mu, Ste T al mu H ∧ RpS T H al rh si ∧ RV T W si al H (fun H al d v => RpL T H al d v) Q (g rh mu)
def tDB (T : Tbl) (W : WX) (g : SB) : TT := fun si H Q => ∃ al rh mu, Ste T al mu H ∧ RpS T H al rh si ∧ RV T W si al H (fun _ _ (d v : Bool) => d = v) Q (g rh mu)
theorem PE.imp {X : Cx} {e : Expr} {t t' : TE} (h : PE X e t) (i : ∀ si H Q, t' si H Q → t si H Q) : PE X e t' := ⟨fun pins s si H Q I q => h.run pins s si H Q I (i si H Q q)⟩
theorem PA.imp {X : Cx} {e : List Expr} {t t' : TA} (h : PA X e t) (i : ∀ si H Q, t' si H Q → t si H Q) : PA X e t' := ⟨fun pos pins s si H Q I q => h.run pos pins s si H Q I (i si H Q q)⟩
theorem PT.imp {X : Cx} {e : Expr} {t t' : TT} (h : PT X e t) (i : ∀ si H Q, t' si H Q → t si H Q) : PT X e t' := ⟨fun pins s si H Q I q => h.run pins s si H Q I (i si H Q q)⟩
theorem PW.imp {X : Cx} {e : Expr} {t t' : TT} (h : PW X e t) (i : ∀ si H Q, t' si H Q → t si H Q) : PW X e t' := ⟨fun wh pins s si H Q I q => h.run wh pins s si H Q I (i si H Q q)⟩
/-- a reading is the same whatever it wants more -/
theorem PE.post {X : Cx} {e : Expr} {t : TE} {P : TE} (h : PE X e t) : PE X e t := h

/-! ### names, constants -/
def eVar (i : Nat) : SE := fun rh => match rh[i]? with
  | some (some d) => ret d
  | _ => bad
def eC (d : D) : SE := fun _ => ret d
section
variable {T : Tbl} {W : WX} {X : Cx} {pos : Pos}
theorem se_var {i : Nat} {x : Str} (hN : X.N[i]? = some x) (hv : Vis X.env.scope x) (hd : (x == ("__debug__" : Str)) = false) (hcd : (x == ("__classdict__" : Str)) = false) : PE X (.Name x pos) (tD T W (eVar i)) := by
  refine PE.imp (pe_var hN hv hd hcd) fun si H Q ⟨al, rh, mu, s, rs, h⟩ => ?_
  unfold eVar at h
  cases e : rh[i]? with
  | none =>
    rw [e] at h
    exact h.elim
  | some o =>
    rw [e] at h
    cases o with
    | none => exact h.elim
    | some d =>
      obtain ⟨v, hv, r⟩ := rs.2 i d e
      exact ⟨v, hv, h v al H (Gw.refl al H) s r⟩
theorem se_const {e : Expr} {v : V} {d : D} (h : PE X e (tC v)) (r : ∀ H al, Rp T H al d v) : PE X e (tD T W (eC d)) :=
  PE.imp h fun si H Q ⟨al, rh, mu, s, rs, h⟩ => h v al H (Gw.refl al H) s (r H al)

/-! ### operations on values -/
abbrev F2 := D → D → M D
/-- f is what the reading r of a two-place operation wants -/
def Op2 (T : Tbl) (W : WX) (r : R2) (f : F2) : Prop := ∀ (si : L2.St) (al : List Addr) (mu : Store) (H : Hp) (d e : D) (x y : V) (Q : VK), Ste T al mu H → Rp T H al d x → Rp T H al e y →
  RV T W si al H (fun H al d v => Rp T H al d v) Q (f d e mu) → r x y H Q
abbrev F1 := D → M D
def Op1 (T : Tbl) (W : WX) (r : V → Hp → VK → Prop) (f : F1) : Prop := ∀ (si : L2.St) (al : List Addr) (mu : Store) (H : Hp) (d : D) (x : V) (Q : VK), Ste T al mu H → Rp T H al d x →
  RV T W si al H (fun H al d v => Rp T H al d v) Q (f d mu) → r x H Q
abbrev FL := List D → M D
def OpL (T : Tbl) (W : WX) (r : List V → Hp → VK → Prop) (f : FL) : Prop := ∀ (si : L2.St) (al : List Addr) (mu : Store) (H : Hp) (ds : List D) (xs : List V) (Q : VK), Ste T al mu H → RpL T H al ds xs →
  RV T W si al H (fun H al d v => Rp T H al d v) Q (f ds mu) → r xs H Q
def e2 (f : F2) (a b : SE) : SE := fun rh => bnd (a rh) fun d => bnd (b rh) fun e => f d e
def e1 (f : F1) (a : SE) : SE := fun rh => bnd (a rh) f
variable {a b : Expr} {ga gb : SE}
/-- two operands, then an operation -/
theorem t2_of {r : R2} {f : F2} (hf : Op2 T W r f) {si : L2.St} {H : Hp} {Q : VK} (h : tD T W (e2 f ga gb) si H Q) : tOp r (tD T W ga) (tD T W gb) si H Q := by
  obtain ⟨al, rh, mu, s, rs, h⟩ := h
  refine ⟨al, rh, mu, s, rs, (RV.bind (P := fun H al d v => Rp T H al d v) h).imp fun x H1 ⟨al1, d, mu1, g1, s1, r1, h1⟩ => ?_⟩
  refine ⟨al1, rh, mu1, s1, rs.mono g1, (RV.bind (P := fun H al d v => Rp T H al d v) h1).imp fun y H2 ⟨al2, e, mu2, g2, s2, r2, h2⟩ => ?_⟩
  exact hf si al2 mu2 H2 d e x y Q s2 (r1.mono g2) r2 h2
theorem t1_of {r : V → Hp → VK → Prop} {f : F1} (hf : Op1 T W r f) {si : L2.St} {H : Hp} {Q : VK} (h : tD T W (e1 f ga) si H Q) : tUn r (tD T W ga) si H Q := by
  obtain ⟨al, rh, mu, s, rs, h⟩ := h
  refine ⟨al, rh, mu, s, rs, (RV.bind (P := fun H al d v => Rp T H al d v) h).imp fun x H1 ⟨al1, d, mu1, g1, s1, r1, h1⟩ => ?_⟩
  exact hf si al1 mu1 H1 d x Q s1 r1 h1
theorem se_bin {op : Operator} {r : R2} {f : F2} (ho : OpR X (binaryOp op) r) (hf : Op2 T W r f) (ha : PE X a (tD T W ga)) (hb : PE X b (tD T W gb)) : PE X (.BinOp a op b pos) (tD T W (e2 f ga gb)) :=
  PE.imp (pe_op ho ha hb) fun si H Q h => t2_of hf h
theorem se_un {op : UnaryOp} {r : V → Hp → VK → Prop} {f : F1} (ho : UnR X (unaryOp op) r) (hf : Op1 T W r f) (ha : PE X a (tD T W ga)) : PE X (.UnaryOp op a pos) (tD T W (e1 f ga)) :=
  PE.imp (pe_un ho ha) fun si H Q h => t1_of hf h
theorem se_cmp {op : CmpOp} {r : R2} {f : F2} (ho : OpR X (compareOp op) r) (hf : Op2 T W r f) (ha : PE X a (tD T W ga)) (hb : PE X b (tD T W gb)) (hm : behindInMarks op b = false) : PE X (.Compare a [op] [b] pos) (tD T W (e2 f ga gb)) :=
  PE.imp (pe_cmpR ho ha hb hm) fun si H Q h => t2_of hf h
/-- a value that is True or False, as a test -/
def bOf (g : SE) : SB := fun rh => bnd (g rh) fun d => match d with
  | .bl k => ret k
  | _ => bad
theorem tb_of {t : TE} {g : SE} (i : ∀ si H Q, tD T W g si H Q → t si H Q) {si : L2.St} {H : Hp} {Q : Bool → Hp → Prop} (h : tDB T W (bOf g) si H Q) : t si H fun x H1 => ∃ c, x = .bl c ∧ Q c H1 := by
  obtain ⟨al, rh, mu, s, rs, h⟩ := h
  refine i si H _ ⟨al, rh, mu, s, rs, (RV.bind (P := fun H al d v => Rp T H al d v) h).imp fun x H1 ⟨al1, d, mu1, g1, s1, r1, h1⟩ => ?_⟩
  cases d with
  | bl k =>
    cases r1
    exact ⟨k, rfl, h1 k al1 H1 (Gw.refl _ _) s1 rfl⟩
  | _ => exact h1.elim
theorem st_cmp {op : CmpOp} {r : R2} {f : F2} (ho : OpR X (compareOp op) r) (hf : Op2 T W r f) (ha : PE X a (tD T W ga)) (hb : PE X b (tD T W gb)) (hm : behindInMarks op b = false) : PT X (.Compare a [op] [b] pos) (tDB T W (bOf (e2 f ga gb))) :=
  PT.imp (pt_cmpR ho ha hb hm) fun si H Q h => tb_of (fun si H Q h => t2_of hf h) h
/-- an expression of a plain form, as a test -/
theorem st_val {e : Expr} {g : SE} (h : PE X e (tD T W g)) (he : ∀ whole, isTrue e X.env whole = (do let v ← whole; standAt e.pos; holding [v] (truthy v))) : PT X e (tDB T W (bOf g)) :=
  PT.imp (pt_val h he) fun si H Q h => tb_of (t := tD T W g) (fun si H Q h => h) h
/-- a op1 b op2 c -/
def eChain (f f' : F2) (a b c : SE) : SE := fun rh => bnd (a rh) fun d => bnd (b rh) fun e => bnd (f d e) fun k => match k with
  | .bl true => bnd (c rh) fun d' => f' e d'
  | .bl false => ret (.bl false)
  | _ => bad
theorem tch_of {r r' : R2} {f f' : F2} {gc : SE} (hf : Op2 T W r f) (hf' : Op2 T W r' f') {si : L2.St} {H : Hp} {Q : VK} (h : tD T W (eChain f f' ga gb gc) si H Q) : tChain r r' (tD T W ga) (tD T W gb) (tD T W gc) si H Q := by
  obtain ⟨al, rh, mu, s, rs, h⟩ := h
  refine ⟨al, rh, mu, s, rs, (RV.bind (P := fun H al d v => Rp T H al d v) h).imp fun x H1 ⟨al1, d, mu1, g1, s1, r1, h1⟩ => ?_⟩
  refine ⟨al1, rh, mu1, s1, rs.mono g1, (RV.bind (P := fun H al d v => Rp T H al d v) h1).imp fun y H2 ⟨al2, e, mu2, g2, s2, r2, h2⟩ => ?_⟩
  refine hf si al2 mu2 H2 d e x y _ s2 (r1.mono g2) r2 ((RV.bind (P := fun H al d v => Rp T H al d v) h2).imp fun z H3 ⟨al3, k, mu3, g3, s3, r3, h3⟩ => ?_)
  cases k with
  | bl k =>
    cases r3
    refine ⟨k, rfl, ?_⟩
    cases k with
    | true =>
      rw [if_pos rfl]
      refine ⟨al3, rh, mu3, s3, (rs.mono g1).mono (g2.trans g3), (RV.bind (P := fun H al d v => Rp T H al d v) h3).imp fun w H4 ⟨al4, d', mu4, g4, s4, r4, h4⟩ => ?_⟩
      exact hf' si al4 mu4 H4 e d' y w Q s4 ((r2.mono g3).mono g4) r4 h4
    | false =>
      rw [if_neg Bool.false_ne_true]
      exact h3 _ al3 H3 (Gw.refl _ _) s3 (.bl false)
  | _ => exact h3.elim
theorem se_chain {op op' : CmpOp} {r r' : R2} {f f' : F2} {c : Expr} {gc : SE} (ho : OpR X (compareOp op) r) (ho' : OpR X (compareOp op') r') (hf : Op2 T W r f) (hf' : Op2 T W r' f') (ha : PE X a (tD T W ga)) (hb : PE X b (tD T W gb)) (hc : PE X c (tD T W gc))
    (hm : lastMarks [op, op'] [b, c] = false) : PE X (.Compare a [op, op'] [b, c] pos) (tD T W (eChain f f' ga gb gc)) :=
  PE.imp (pe_chain ho ho' ha hb hc hm) fun si H Q h => tch_of hf hf' h
theorem st_chain {op op' : CmpOp} {r r' : R2} {f f' : F2} {c : Expr} {gc : SE} (ho : OpR X (compareOp op) r) (ho' : OpR X (compareOp op') r') (hf : Op2 T W r f) (hf' : Op2 T W r' f') (ha : PE X a (tD T W ga)) (hb : PE X b (tD T W gb)) (hc : PE X c (tD T W gc))
    (hm : lastMarks [op, op'] [b, c] = false) : PT X (.Compare a [op, op'] [b, c] pos) (tDB T W (bOf (eChain f f' ga gb gc))) :=
  PT.imp (pt_chain ho ho' ha hb hc hm) fun si H Q h => tb_of (fun si H Q h => tch_of hf hf' h) h

/-! ### and, or, not, if -/
def bAnd (a b : SB) : SB := fun rh => bnd (a rh) fun k => if k = true then b rh else ret false
def bOr (a b : SB) : SB := fun rh => bnd (a rh) fun k => if k = true then ret true else b rh
def bNot (a : SB) : SB := fun rh => bnd (a rh) fun k => ret (!k)
variable {ta tb : SB} {rest : List Expr}
theorem tb_bind {t : SB} {si : L2.St} {H : Hp} {f : Bool → M Bool} {A B : Type} {P : Hp → List Addr → A → B → Prop} {Q : Bool → Hp → Prop} : True := trivial
theorem sw_and (ha : PT X a (tDB T W ta)) (hb : PW X (.BoolOp .And (b :: rest) pos) (tDB T W tb)) : PW X (.BoolOp .And (a :: b :: rest) pos) (tDB T W (bAnd ta tb)) :=
  PW.imp (pw_and ha hb) fun si H Q ⟨al, rh, mu, s, rs, h⟩ => by
    refine ⟨al, rh, mu, s, rs, (RV.bind (P := fun _ _ (d v : Bool) => d = v) h).imp fun x H1 ⟨al1, k, mu1, g1, s1, r1, h1⟩ => ?_⟩
    subst r1
    cases k with
    | true =>
      rw [if_pos rfl] at h1 ⊢
      exact ⟨al1, rh, mu1, s1, rs.mono g1, h1⟩
    | false =>
      rw [if_neg Bool.false_ne_true] at h1 ⊢
      exact h1 _ al1 H1 (Gw.refl _ _) s1 rfl
theorem sw_or (ha : PT X a (tDB T W ta)) (hb : PW X (.BoolOp .Or (b :: rest) pos) (tDB T W tb)) : PW X (.BoolOp .Or (a :: b :: rest) pos) (tDB T W (bOr ta tb)) :=
  PW.imp (pw_or ha hb) fun si H Q ⟨al, rh, mu, s, rs, h⟩ => by
    refine ⟨al, rh, mu, s, rs, (RV.bind (P := fun _ _ (d v : Bool) => d = v) h).imp fun x H1 ⟨al1, k, mu1, g1, s1, r1, h1⟩ => ?_⟩
    subst r1
    cases k with
    | true =>
      rw [if_pos rfl] at h1 ⊢
      exact h1 _ al1 H1 (Gw.refl _ _) s1 rfl
    | false =>
      rw [if_neg Bool.false_ne_true] at h1 ⊢
      exact ⟨al1, rh, mu1, s1, rs.mono g1, h1⟩
theorem st_not (ha : PT X a (tDB T W ta)) : PT X (.UnaryOp .Not a pos) (tDB T W (bNot ta)) :=
  PT.imp (pt_not ha) fun si H Q ⟨al, rh, mu, s, rs, h⟩ => by
    refine ⟨al, rh, mu, s, rs, (RV.bind (P := fun _ _ (d v : Bool) => d = v) h).imp fun x H1 ⟨al1, k, mu1, g1, s1, r1, h1⟩ => ?_⟩
    subst r1
    exact h1 _ al1 H1 (Gw.refl _ _) s1 rfl
/-- as values: bools -/
def eAnd (a b : SE) : SE := fun rh => bnd (a rh) fun k => match k with
  | .bl true => b rh
  | .bl false => ret (.bl false)
  | _ => bad
def eOr (a b : SE) : SE := fun rh => bnd (a rh) fun k => match k with
  | .bl true => ret (.bl true)
  | .bl false => b rh
  | _ => bad
def fNot : F1 := fun d => match d with
  | .bl k => ret (.bl (!k))
  | _ => bad
theorem se_and (ha : PE X a (tD T W ga)) (hb : PE X (.BoolOp .And (b :: rest) pos) (tD T W gb)) : PE X (.BoolOp .And (a :: b :: rest) pos) (tD T W (eAnd ga gb)) :=
  PE.imp (pe_and ha hb) fun si H Q ⟨al, rh, mu, s, rs, h⟩ => by
    refine ⟨al, rh, mu, s, rs, (RV.bind (P := fun H al d v => Rp T H al d v) h).imp fun x H1 ⟨al1, d, mu1, g1, s1, r1, h1⟩ => ?_⟩
    cases d with
    | bl k =>
      cases r1
      refine ⟨k, rfl, ?_⟩
      cases k with
      | true =>
        rw [if_pos rfl]
        exact ⟨al1, rh, mu1, s1, rs.mono g1, h1⟩
      | false =>
        rw [if_neg Bool.false_ne_true]
        exact h1 _ al1 H1 (Gw.refl _ _) s1 (.bl false)
    | _ => exact h1.elim
theorem se_or (ha : PE X a (tD T W ga)) (hb : PE X (.BoolOp .Or (b :: rest) pos) (tD T W gb)) : PE X (.BoolOp .Or (a :: b :: rest) pos) (tD T W (eOr ga gb)) :=
  PE.imp (pe_or ha hb) fun si H Q ⟨al, rh, mu, s, rs, h⟩ => by
    refine ⟨al, rh, mu, s, rs, (RV.bind (P := fun H al d v => Rp T H al d v) h).imp fun x H1 ⟨al1, d, mu1, g1, s1, r1, h1⟩ => ?_⟩
    cases d with
    | bl k =>
      cases r1
      refine ⟨k, rfl, ?_⟩
      cases k with
      | true =>
        rw [if_pos rfl]
        exact h1 _ al1 H1 (Gw.refl _ _) s1 (.bl true)
      | false =>
        rw [if_neg Bool.false_ne_true]
        exact ⟨al1, rh, mu1, s1, rs.mono g1, h1⟩
    | _ => exact h1.elim
theorem se_notV (ha : PE X a (tD T W ga)) : PE X (.UnaryOp .Not a pos) (tD T W (e1 fNot ga)) :=
  PE.imp (pe_not ha) fun si H Q ⟨al, rh, mu, s, rs, h⟩ => by
    refine ⟨al, rh, mu, s, rs, (RV.bind (P := fun H al d v => Rp T H al d v) h).imp fun x H1 ⟨al1, d, mu1, g1, s1, r1, h1⟩ => ?_⟩
    cases d with
    | bl k =>
      cases r1
      exact ⟨k, rfl, h1 _ al1 H1 (Gw.refl _ _) s1 (.bl _)⟩
    | _ => exact h1.elim
def eIf (t : SB) (a b : SE) : SE := fun rh => bnd (t rh) fun k => if k = true then a rh else b rh
theorem se_if {c : Expr} (hc : PT X c (tDB T W ta)) (ha : PE X a (tD T W ga)) (hb : PE X b (tD T W gb)) : PE X (.IfExp c a b pos) (tD T W (eIf ta ga gb)) :=
  PE.imp (pe_ifExp hc ha hb) fun si H Q ⟨al, rh, mu, s, rs, h⟩ => by
    refine ⟨al, rh, mu, s, rs, (RV.bind (P := fun _ _ (d v : Bool) => d = v) h).imp fun x H1 ⟨al1, k, mu1, g1, s1, r1, h1⟩ => ?_⟩
    subst r1
    cases k with
    | true =>
      rw [if_pos rfl] at h1 ⊢
      exact ⟨al1, rh, mu1, s1, rs.mono g1, h1⟩
    | false =>
      rw [if_neg Bool.false_ne_true] at h1 ⊢
      exact ⟨al1, rh, mu1, s1, rs.mono g1, h1⟩

/-! ### argument lists, displays -/
def aNil : SA := fun _ => ret []
def aCons (a : SE) (r : SA) : SA := fun rh => bnd (a rh) fun d => bnd (r rh) fun ds => ret (d :: ds)
theorem sa_nil : PA X [] (tDL T W aNil) := PA.imp pa_nil fun si H Q ⟨al, rh, mu, s, rs, h⟩ => h [] al H (Gw.refl _ _) s .nil
theorem sa_cons {e : Expr} {es : List Expr} {g : SE} {gs : SA} (ha : PE X e (tD T W g)) (hr : PA X es (tDL T W gs)) (hs : starEach (e :: es) X.env = (false, eval e X.env) :: starEach es X.env) : PA X (e :: es) (tDL T W (aCons g gs)) :=
  PA.imp (pa_cons ha hr hs) fun si H Q ⟨al, rh, mu, s, rs, h⟩ => by
    refine ⟨al, rh, mu, s, rs, (RV.bind (P := fun H al d v => Rp T H al d v) h).imp fun x H1 ⟨al1, d, mu1, g1, s1, r1, h1⟩ => ?_⟩
    refine ⟨al1, rh, mu1, s1, rs.mono g1, (RV.bind (P := fun H al d v => RpL T H al d v) h1).imp fun xs H2 ⟨al2, ds, mu2, g2, s2, r2, h2⟩ => ?_⟩
    exact h2 _ al2 H2 (Gw.refl _ _) s2 (.cons (r1.mono g2) r2)
/-- a new list: of the store, or as a value -/
def mkL (m : Bool) (ds : List D) : M D := fun mu => if m = true then .val (.ref mu.length) (mu ++ [.lst ds]) else .val (.lst ds) mu
theorem mkL_of {m : Bool} {ds : List D} {xs : List V} {si : L2.St} {al : List Addr} {mu : Store} {H : Hp} {Q : VK} (s : Ste T al mu H) (r : RpL T H al ds xs) (h : RV T W si al H (fun H al d v => Rp T H al d v) Q (mkL m ds mu)) :
    ∀ p, H p = none → Q (.ref p) (upd H p (.lst xs)) := by
  intro p hp
  unfold mkL at h
  cases m with
  | false =>
    rw [if_neg Bool.false_ne_true] at h
    have g := gw_new (al := al) (o := HO.lst xs) hp
    exact h _ al _ g (s.new hp) (.lst upd_same (s.notin hp) (s.nohid hp) (r.mono g))
  | true =>
    rw [if_pos rfl] at h
    have g := gw_alloc (al := al) (o := HO.lst xs) hp
    refine h _ (al ++ [p]) _ g (s.alloc hp ⟨xs, upd_same, r.mono g⟩) (.ref ?_)
    rw [List.getElem?_append_right (by rw [s.len]; omega), s.len]
    simp
theorem tup_of {ds : List D} {xs : List V} {si : L2.St} {al : List Addr} {mu : Store} {H : Hp} {Q : VK} (s : Ste T al mu H) (r : RpL T H al ds xs) (h : RV T W si al H (fun H al d v => Rp T H al d v) Q (ret (.tup ds) mu)) :
    ∀ p, H p = none → Q (.ref p) (upd H p (.tup xs)) := by
  intro p hp
  have g := gw_new (al := al) (o := HO.tup xs) hp
  exact h _ al _ g (s.new hp) (.tup (.inl (.inl upd_same)) (r.mono g))
def few (n : Nat) : Bool := decide (n ≤ 1000000)
theorem few_ok {n : Nat} (h : few n = true) : n ≤ sizeLine := Nat.le_trans (of_decide_eq_true h) (by rw [sizeLine_eq]; decide)
theorem few_lt {n : Nat} (h : few n = true) : n < sizeLine := Nat.lt_of_le_of_lt (of_decide_eq_true h) (by rw [sizeLine_eq]; decide)
def eTup (a : SA) : SE := fun rh => bnd (a rh) fun ds => if few ds.length = true then ret (.tup ds) else bad
def eLst (m : Bool) (a : SA) : SE := fun rh => bnd (a rh) fun ds => if few ds.length = true then mkL m ds else bad
theorem se_tup {es : List Expr} {x1 : Nat} {gs : SA} (h : PA X es (tDL T W gs)) : PE X (.Tuple es x1 pos) (tD T W (eTup gs)) :=
  PE.imp (pe_tup h) fun si H Q ⟨al, rh, mu, s, rs, h⟩ => by
    refine ⟨al, rh, mu, s, rs, (RV.bind (P := fun H al d v => RpL T H al d v) h).imp fun xs H1 ⟨al1, ds, mu1, g1, s1, r1, h1⟩ => ?_⟩
    by_cases hf : few ds.length = true
    · rw [if_pos hf] at h1
      exact ⟨by rw [← r1.length]; exact few_ok hf, tup_of s1 r1 h1⟩
    · rw [if_neg hf] at h1
      exact h1.elim
theorem se_lst {es : List Expr} {m : Bool} {gs : SA} (h : PA X es (tDL T W gs)) : PE X (.List es pos) (tD T W (eLst m gs)) :=
  PE.imp (pe_lst h) fun si H Q ⟨al, rh, mu, s, rs, h⟩ => by
    refine ⟨al, rh, mu, s, rs, (RV.bind (P := fun H al d v => RpL T H al d v) h).imp fun xs H1 ⟨al1, ds, mu1, g1, s1, r1, h1⟩ => ?_⟩
    by_cases hf : few ds.length = true
    · rw [if_pos hf] at h1
      exact ⟨by rw [← r1.length]; exact few_ok hf, mkL_of s1 r1 h1⟩
    · rw [if_neg hf] at h1
      exact h1.elim
end
end DL

set_option Elab.async false
set_option linter.all false
set_option maxRecDepth 100000
set_option maxHeartbeats 4000000
/-! DL2: the operators, subscripts, slices, fields. -/
namespace DL
open PySem PySem.Spec PyProof.Rows L2

/-! ### views -/
def vwL (mu : Store) : D → Option (List D)
  | .lst ds => some ds
  | .ref n => match mu[n]? with
    | some (.lst ds) => some ds
    | _ => none
  | _ => none
def vwT : D → Option (List D)
  | .tup ds => some ds
  | _ => none
/-- a list that is read: the script too -/
def vwR (mu : Store) : D → Option (List D)
  | .scr ds => some ds
  | d => vwL mu d
def vwQ (mu : Store) (d : D) : Option (List D) := match vwT d with
  | some ds => some ds
  | none => vwR mu d
section
variable {T : Tbl} {W : WX} {X : Cx} {pos : Pos} {al : List Addr} {mu : Store} {H : Hp} {d : D} {v : V} {ds : List D}
theorem vwL_ok (s : Ste T al mu H) (r : Rp T H al d v) (e : vwL mu d = some ds) : ∃ a xs, v = .ref a ∧ H a = some (.lst xs) ∧ RpL T H al ds xs := by
  cases r with
  | @lst a xs es h n hh r =>
    cases e
    exact ⟨a, xs, rfl, h, r⟩
  | @ref n a h =>
    obtain ⟨o, h1, h2⟩ := s.tr h
    simp only [vwL, h1] at e
    cases o with
    | lst es =>
      cases e
      obtain ⟨xs, h3, h4⟩ := h2
      exact ⟨a, xs, rfl, h3, h4⟩
    | ins c ns es => cases e
  | _ => cases e
theorem vwT_ok (r : Rp T H al d v) (e : vwT d = some ds) : ∃ a xs, v = .ref a ∧ SqT T.K H a xs ∧ RpL T H al ds xs := by
  cases r with
  | @tup a xs es h r =>
    cases e
    exact ⟨a, xs, rfl, h, r⟩
  | _ => cases e
theorem vwR_ok (s : Ste T al mu H) (r : Rp T H al d v) (e : vwR mu d = some ds) : ∃ a xs, v = .ref a ∧ SqL T.K H a xs ∧ RpL T H al ds xs := by
  unfold vwR at e
  split at e
  · cases e
    cases r with
    | scr h r => exact ⟨_, _, rfl, h.sq, r⟩
  · obtain ⟨a, xs, h1, h2, h3⟩ := vwL_ok s r e
    exact ⟨a, xs, h1, SqL.of h2, h3⟩
theorem vwQ_ok (s : Ste T al mu H) (r : Rp T H al d v) (e : vwQ mu d = some ds) : ∃ a xs, v = .ref a ∧ (SqL T.K H a xs ∨ SqT T.K H a xs) ∧ RpL T H al ds xs := by
  unfold vwQ at e
  cases q : vwT d with
  | some es =>
    rw [q] at e
    cases e
    obtain ⟨a, xs, h1, h2, h3⟩ := vwT_ok r q
    exact ⟨a, xs, h1, .inr h2, h3⟩
  | none =>
    rw [q] at e
    obtain ⟨a, xs, h1, h2, h3⟩ := vwR_ok s r e
    exact ⟨a, xs, h1, .inl h2, h3⟩
/-- an object of the store that is a list -/
theorem ref_lst (s : Ste T al mu H) {n : Nat} (r : Rp T H al (.ref n) v) (e : mu[n]? = some (.lst ds)) : ∃ a xs, v = .ref a ∧ al[n]? = some a ∧ H a = some (.lst xs) ∧ RpL T H al ds xs := by
  cases r with
  | @ref n a h =>
    obtain ⟨xs, h1, h2⟩ := s.at_ n _ a e h
    exact ⟨a, xs, rfl, h, h1, h2⟩

/-! ### + -/
def fAdd (m : Bool) : F2 := fun d e mu => match d, e with
  | .int i, .int j => .val (.int (i + j)) mu
  | .tup a, .tup b => if few (a.length + b.length) = true then .val (.tup (a ++ b)) mu else .bad
  | d, e => match vwL mu d, vwL mu e with
    | some a, some b => if few (a.length + b.length) = true then mkL m (a ++ b) mu else .bad
    | _, _ => .bad
def rAddA (K : PySem.W.Frag) : R2 := fun x y H Q => rI0 (fun i j => .int (i + j)) x y H Q ∨ rCatA K x y H Q ∨ rCat x y H Q
theorem op_addA : OpR X (binaryOp .Add) (rAddA X.K) := op_add.or (op_catA.or op_cat)
theorem fAdd_ok {m : Bool} : Op2 T W (rAddA T.K) (fAdd m) := by
  intro si al mu H d e x y Q s rd re h
  unfold fAdd at h
  split at h
  · cases rd
    cases re
    exact .inl ⟨_, _, rfl, rfl, h _ al H (Gw.refl _ _) s (.int _)⟩
  · rename_i a b
    split at h
    · rename_i hf
      obtain ⟨p, xs, rfl, h1, r1⟩ := vwT_ok (ds := a) rd rfl
      obtain ⟨q, ys, rfl, h2, r2⟩ := vwT_ok (ds := b) re rfl
      refine .inr (.inl ⟨p, q, xs, ys, rfl, rfl, h1, h2, by rw [← r1.length, ← r2.length]; exact few_ok hf, fun e => ?_, fun _ e => ?_, fun _ _ => tup_of s (r1.append r2) h⟩)
      · subst e
        cases r1
        exact h _ al H (Gw.refl _ _) s re
      · subst e
        cases r2
        rw [List.append_nil] at h
        exact h _ al H (Gw.refl _ _) s rd
    · exact h.elim
  · split at h
    · rename_i a b ha hb
      split at h
      · rename_i hf
        obtain ⟨p, xs, rfl, h1, r1⟩ := vwL_ok s rd ha
        obtain ⟨q, ys, rfl, h2, r2⟩ := vwL_ok s re hb
        exact .inr (.inr ⟨p, q, xs, ys, rfl, rfl, h1, h2, by rw [← r1.length, ← r2.length]; exact few_ok hf, mkL_of s (r1.append r2) h⟩)
      · exact h.elim
    · exact h.elim

/-! ### - * // % ** -/
def fSub : F2 := fun d e => match d, e with
  | .int i, .int j => ret (.int (i - j))
  | _, _ => bad
theorem fSub_ok : Op2 T W (rI0 fun i j => .int (i - j)) fSub := by
  intro si al mu H d e x y Q s rd re h
  unfold fSub at h
  split at h
  · cases rd
    cases re
    exact ⟨_, _, rfl, rfl, h _ al H (Gw.refl _ _) s (.int _)⟩
  · exact h.elim
def okMul (i j : Int) : Bool := decide (i.natAbs.log2 + j.natAbs.log2 < 1000000)
def fMul (m : Bool) : F2 := fun d e mu => match d, e with
  | .int i, .int j => if okMul i j = true then .val (.int (i * j)) mu else .bad
  | .tup a, .int k => if (decide (2 ≤ k) && decide (k ≤ 1000) && decide (a.length ≤ 1000) && !a.isEmpty) = true then .val (.tup (List.replicate k.toNat a).flatten) mu else .bad
  | d, .int k => match vwL mu d with
    | some a => if (decide (0 ≤ k) && decide (k ≤ 1000) && decide (a.length ≤ 1000)) = true then mkL m (List.replicate k.toNat a).flatten mu else .bad
    | none => .bad
  | _, _ => .bad
def rMulA (K : PySem.W.Frag) : R2 := fun x y H Q => rI CMulW (fun i j => .int (i * j)) x y H Q ∨ rRepT K x y H Q ∨ rRep x y H Q
theorem op_mulA : OpR X (binaryOp .Mult) (rMulA X.K) := op_mulW.or (op_repT.or op_rep)
theorem fMul_ok {m : Bool} : Op2 T W (rMulA T.K) (fMul m) := by
  intro si al mu H d e x y Q s rd re h
  unfold fMul at h
  split at h
  · split at h
    · rename_i hm
      cases rd
      cases re
      exact .inl ⟨_, _, rfl, rfl, (show _ < _ from of_decide_eq_true hm), h _ al H (Gw.refl _ _) s (.int _)⟩
    · exact h.elim
  · rename_i a k
    split at h
    · rename_i hc
      simp only [Bool.and_eq_true, decide_eq_true_eq, Bool.not_eq_true'] at hc
      obtain ⟨⟨⟨h1, h2⟩, h3⟩, h4⟩ := hc
      obtain ⟨p, xs, rfl, hx, r1⟩ := vwT_ok (ds := a) rd rfl
      cases re
      refine .inr (.inl ⟨p, k, xs, rfl, rfl, hx, ?_, h1, h2, by rw [← r1.length]; exact h3, tup_of s (r1.rep k.toNat) h⟩)
      intro e
      subst e
      cases r1
      cases h4
    · exact h.elim
  · rename_i k hnt hni
    split at h
    · rename_i a ha
      split at h
      · rename_i hc
        simp only [Bool.and_eq_true, decide_eq_true_eq] at hc
        obtain ⟨⟨h1, h2⟩, h3⟩ := hc
        obtain ⟨p, xs, rfl, hx, r1⟩ := vwL_ok s rd ha
        cases re
        refine .inr (.inr ⟨p, k, xs, rfl, rfl, hx, by omega, by omega, ?_, mkL_of s (r1.rep k.toNat) h⟩)
        rw [← r1.length, sizeLine_eq]
        have : a.length * k.toNat ≤ 1000 * 1000 := Nat.mul_le_mul h3 (by omega)
        omega
      · exact h.elim
    · exact h.elim
  · exact h.elim
def fDiv : F2 := fun d e => match d, e with
  | .int i, .int j => if (decide (0 < j) && decide (j.natAbs.log2 < 9000)) = true then ret (.int (i / j)) else bad
  | _, _ => bad
theorem fDiv_ok : Op2 T W (rI CDivW fun i j => .int (i / j)) fDiv := by
  intro si al mu H d e x y Q s rd re h
  unfold fDiv at h
  split at h
  · split at h
    · rename_i hc
      simp only [Bool.and_eq_true, decide_eq_true_eq] at hc
      cases rd
      cases re
      exact ⟨_, _, rfl, rfl, hc, h _ al H (Gw.refl _ _) s (.int _)⟩
    · exact h.elim
  · exact h.elim
def fMod : F2 := fun d e => match d, e with
  | .int i, .int j => if 0 < j then ret (.int (i % j)) else bad
  | _, _ => bad
theorem fMod_ok : Op2 T W (rI (fun _ j => 0 < j) fun i j => .int (i % j)) fMod := by
  intro si al mu H d e x y Q s rd re h
  unfold fMod at h
  split at h
  · split at h
    · rename_i hc
      cases rd
      cases re
      exact ⟨_, _, rfl, rfl, hc, h _ al H (Gw.refl _ _) s (.int _)⟩
    · exact h.elim
  · exact h.elim
def fPow : F2 := fun d e => match d, e with
  | .int i, .int j => if (decide (0 ≤ j) && decide (j ≤ 1000) && decide (i.natAbs < 2 ^ 64)) = true then ret (.int (i ^ j.toNat)) else bad
  | _, _ => bad
theorem fPow_ok : Op2 T W (rI CPow fun i j => .int (i ^ j.toNat)) fPow := by
  intro si al mu H d e x y Q s rd re h
  unfold fPow at h
  split at h
  · split at h
    · rename_i hc
      simp only [Bool.and_eq_true, decide_eq_true_eq] at hc
      cases rd
      cases re
      exact ⟨_, _, rfl, rfl, ⟨hc.1.1, by omega, hc.2⟩, h _ al H (Gw.refl _ _) s (.int _)⟩
    · exact h.elim
  · exact h.elim
def fNeg : F1 := fun d => match d with
  | .int i => ret (.int (-i))
  | _ => bad
theorem fNeg_ok : Op1 T W (rU fun i => .int (-i)) fNeg := by
  intro si al mu H d x Q s rd h
  unfold fNeg at h
  split at h
  · cases rd
    exact ⟨_, rfl, h _ al H (Gw.refl _ _) s (.int _)⟩
  · exact h.elim

/-! ### comparisons -/
mutual
def D.py : D → Option PyData
  | .non => some .none
  | .bl b => some (.bool b)
  | .int i => some (.int i)
  | .str s => some (.str s)
  | .tup ds => (D.pys ds).map .tuple
  | .lst ds => (D.pys ds).map .list
  | .ins _ _ _ => none
  | .ref _ => none
  | .exn _ _ => none
  | .scr _ => none
  | .ty _ => none
  | .cls _ => none
def D.pys : List D → Option (List PyData)
  | [] => some []
  | d :: ds => match D.py d, D.pys ds with
    | some p, some ps => some (p :: ps)
    | _, _ => none
end
mutual
theorem py_dp : ∀ {d : D} {v : V} {p : PyData}, Rp T H al d v → D.py d = some p → Dp T.K H v p
  | _, _, _, .non, e => by
    cases e
    exact .non
  | _, _, _, .bl b, e => by
    cases e
    exact .bl b
  | _, _, _, .int i, e => by
    cases e
    exact .int i
  | _, _, _, .str x, e => by
    cases e
    exact .str x
  | .tup ds, _, p, .tup h r, e => by
    unfold D.py at e
    cases q : D.pys ds with
    | none =>
      rw [q] at e
      cases e
    | some ps =>
      rw [q] at e
      cases e
      exact .tup h (pys_dp r q)
  | .lst ds, _, p, .lst h n hh r, e => by
    unfold D.py at e
    cases q : D.pys ds with
    | none =>
      rw [q] at e
      cases e
    | some ps =>
      rw [q] at e
      cases e
      exact .lst (SqL.of h) (pys_dp r q)
  | _, _, _, .ins .., e => by cases e
  | _, _, _, .ref .., e => by cases e
  | _, _, _, .scr .., e => by cases e
  | _, _, _, .ty .., e => by cases e
  | _, _, _, .cls .., e => by cases e
theorem pys_dp : ∀ {ds : List D} {vs : List V} {ps : List PyData}, RpL T H al ds vs → D.pys ds = some ps → DpAll T.K H vs ps
  | _, _, _, .nil, e => by
    cases e
    exact .nil
  | d :: ds, _, ps, .cons h r, e => by
    unfold D.pys at e
    cases q1 : D.py d with
    | none =>
      rw [q1] at e
      cases e
    | some p =>
      cases q2 : D.pys ds with
      | none =>
        rw [q1, q2] at e
        cases e
      | some pp =>
        rw [q1, q2] at e
        cases e
        exact .cons (py_dp h q1) (pys_dp r q2)
end
/-- the data of a value, or of a list of the store -/
def py0 (mu : Store) (d : D) : Option PyData := match d with
  | .ref n => match mu[n]? with
    | some (.lst ds) => D.py (.lst ds)
    | _ => none
  | d => D.py d
theorem py0_dp {p : PyData} (s : Ste T al mu H) (r : Rp T H al d v) (e : py0 mu d = some p) : Dp T.K H v p := by
  unfold py0 at e
  split at e
  · rename_i n
    split at e
    · rename_i ds hm
      obtain ⟨a, xs, rfl, _, h1, r1⟩ := ref_lst s r hm
      unfold D.py at e
      cases q : D.pys ds with
      | none =>
        rw [q] at e
        cases e
      | some ps =>
        rw [q] at e
        cases e
        exact .lst (.inl (.inl h1)) (pys_dp r1 q)
    · cases e
  · exact py_dp r e
def eqStr : D → D → Option Bool
  | .str x, .str y => some (x == y)
  | _, _ => none
def fEq : F2 := fun d e mu => match eqStr d e with
  | some k => .val (.bl k) mu
  | none => match py0 mu d, py0 mu e with
  | some p, some q => if (SeqAt.shaped p && SeqAt.shaped q) = true then .val (.bl (PyData.eqv p q)) mu else .bad
  | _, _ => .bad
def fNe : F2 := fun d e mu => match eqStr d e with
  | some k => .val (.bl (!k)) mu
  | none => match py0 mu d, py0 mu e with
  | some p, some q => if (SeqAt.shaped p && SeqAt.shaped q) = true then .val (.bl (!PyData.eqv p q)) mu else .bad
  | _, _ => .bad
def rEqA (K : PySem.W.Frag) : R2 := fun x y H Q => rEq x y H Q ∨ rEqD K x y H Q
def rNeA (K : PySem.W.Frag) : R2 := fun x y H Q => rNe x y H Q ∨ rNeD K x y H Q
theorem op_eqA (hu : X.A.units + 64 < cLine) : OpR X (compareOp .Eq) (rEqA X.K) := op_eq.or (op_eqD hu)
theorem op_neA (hu : X.A.units + 64 < cLine) : OpR X (compareOp .NotEq) (rNeA X.K) := op_ne.or (op_neD hu)
theorem fEq_ok : Op2 T W (rEqA T.K) fEq := by
  intro si al mu H d e x y Q s rd re h
  unfold fEq at h
  split at h
  · rename_i k hk
    unfold eqStr at hk
    split at hk
    · cases hk
      cases rd
      cases re
      refine .inl ⟨rfl, ?_⟩
      rw [dec_str]
      exact h _ al H (Gw.refl _ _) s (.bl _)
    · cases hk
  split at h
  · rename_i p q hp hq
    split at h
    · rename_i hc
      rw [Bool.and_eq_true] at hc
      exact .inr ⟨p, q, py0_dp s rd hp, py0_dp s re hq, hc.1, hc.2, h _ al H (Gw.refl _ _) s (.bl _)⟩
    · exact h.elim
  · exact h.elim
theorem fNe_ok : Op2 T W (rNeA T.K) fNe := by
  intro si al mu H d e x y Q s rd re h
  unfold fNe at h
  split at h
  · rename_i k hk
    unfold eqStr at hk
    split at hk
    · cases hk
      cases rd
      cases re
      refine .inl ⟨rfl, ?_⟩
      rw [dec_str]
      exact h _ al H (Gw.refl _ _) s (.bl _)
    · cases hk
  split at h
  · rename_i p q hp hq
    split at h
    · rename_i hc
      rw [Bool.and_eq_true] at hc
      exact .inr ⟨p, q, py0_dp s rd hp, py0_dp s re hq, hc.1, hc.2, h _ al H (Gw.refl _ _) s (.bl _)⟩
    · exact h.elim
  · exact h.elim
def fCmp (p : Int → Int → Bool) : F2 := fun d e => match d, e with
  | .int i, .int j => ret (.bl (p i j))
  | _, _ => bad
theorem fCmp_ok {p : Int → Int → Bool} : Op2 T W (rI0 fun i j => .bl (p i j)) (fCmp p) := by
  intro si al mu H d e x y Q s rd re h
  unfold fCmp at h
  split at h
  · cases rd
    cases re
    exact ⟨_, _, rfl, rfl, h _ al H (Gw.refl _ _) s (.bl _)⟩
  · exact h.elim
def fLt : F2 := fCmp fun i j => decide (i < j)
def fLe : F2 := fCmp fun i j => decide (i ≤ j)
def fGt : F2 := fCmp fun i j => decide (j < i)
def fGe : F2 := fCmp fun i j => decide (j ≤ i)
def D.isN : D → Bool
  | .non => true
  | _ => false
theorem isN_ok (r : Rp T H al d v) : decide (v = V.non) = d.isN := by
  cases r <;> simp [D.isN]
def fIsN : F2 := fun d e => match e with
  | .non => ret (.bl d.isN)
  | _ => bad
def fNotN : F2 := fun d e => match e with
  | .non => ret (.bl (!d.isN))
  | _ => bad
def rIsNo : R2 := fun x y H Q => y = .non ∧ Q (.bl (decide (x = .non))) H
def rNotNo : R2 := fun x y H Q => y = .non ∧ Q (.bl (!decide (x = .non))) H
theorem fIsN_ok : Op2 T W rIsNo fIsN := by
  intro si al mu H d e x y Q s rd re h
  unfold fIsN at h
  split at h
  · cases re
    refine ⟨rfl, ?_⟩
    rw [isN_ok rd]
    exact h _ al H (Gw.refl _ _) s (.bl _)
  · exact h.elim
theorem fNotN_ok : Op2 T W rNotNo fNotN := by
  intro si al mu H d e x y Q s rd re h
  unfold fNotN at h
  split at h
  · cases re
    refine ⟨rfl, ?_⟩
    rw [isN_ok rd]
    exact h _ al H (Gw.refl _ _) s (.bl _)
  · exact h.elim

/-! ### subscripts -/
/-- the place of an index of any sign -/
def ixD (ds : List D) (i : Int) : Option D := atI ds i
theorem atI_rp {i : Int} : ∀ {ds : List D} {xs : List V}, RpL T H al ds xs → atI ds i = some d → ∃ v, atI xs i = some v ∧ Rp T H al d v := by
  intro ds xs r e
  unfold atI at e ⊢
  rw [← r.length]
  cases q : ixN ds.length i with
  | none =>
    rw [q] at e
    cases e
  | some j =>
    rw [q] at e
    exact r.get e
def fIx : F2 := fun d e mu => match d, e with
  | .tup ds, .int i => match atI ds i with
    | some z => .val z mu
    | none => .bad
  | .str z, .int i => if few z.length = true then (match atI z.cps.toList i with
    | some c => .val (.str ⟨#[c]⟩) mu
    | none => .bad) else .bad
  | d, .int i => match vwL mu d with
    | some ds => match atI ds i with
      | some z => .val z mu
      | none => .bad
    | none => .bad
  | _, _ => .bad
theorem fIx_ok : Op2 T W (rIx T.K) fIx := by
  intro si al mu H d e x y Q s rd re h
  unfold fIx at h
  split at h
  · rename_i ds i
    split at h
    · rename_i z hz
      obtain ⟨p, xs, rfl, h1, r1⟩ := vwT_ok (ds := ds) rd rfl
      cases re
      obtain ⟨v, hv, rv⟩ := atI_rp r1 hz
      exact .inr (.inl ⟨p, xs, i, v, rfl, rfl, h1, hv, h v al H (Gw.refl _ _) s rv⟩)
    · exact h.elim
  · rename_i z i
    split at h
    · rename_i hf
      split at h
      · rename_i c hc
        cases rd
        cases re
        exact .inr (.inr ⟨z, i, c, rfl, rfl, few_ok hf, hc, h _ al H (Gw.refl _ _) s (.str _)⟩)
      · exact h.elim
    · exact h.elim
  · rename_i i _ _
    split at h
    · rename_i ds hd
      split at h
      · rename_i z hz
        obtain ⟨p, xs, rfl, h1, r1⟩ := vwL_ok s rd hd
        cases re
        obtain ⟨v, hv, rv⟩ := atI_rp r1 hz
        exact .inl ⟨p, xs, i, v, rfl, rfl, SqL.of h1, hv, h v al H (Gw.refl _ _) s rv⟩
      · exact h.elim
    · exact h.elim
  · exact h.elim
variable {a b : Expr} {ga gb : SE}
theorem se_ix (hT : T.K = X.K) (ha : PE X a (tD T W ga)) (hb : PE X b (tD T W gb)) (hs : PlainIx b) : PE X (.Subscript a b pos) (tD T W (e2 fIx ga gb)) :=
  PE.imp (pe_ix ix_seq ha hb hs) fun si H Q h => t2_of (r := rIx X.K) (hT ▸ fIx_ok) h

/-! ### slices -/
abbrev SO := Env → M (Option Int)
def tDO (T : Tbl) (W : WX) (g : SO) : TO := fun si H Q => ∃ al rh mu, Ste T al mu H ∧ RpS T H al rh si ∧ RV T W si al H (fun _ _ (o o' : Option Int) => o = o') Q (g rh mu)
def oNone : SO := fun _ => ret none
def oSome (a : SE) : SO := fun rh => bnd (a rh) fun d => match d with
  | .int i => ret (some i)
  | _ => bad
theorem PO.imp {X : Cx} {e : Option Expr} {t t' : TO} (h : PO X e t) (i : ∀ si H Q, t' si H Q → t si H Q) : PO X e t' := ⟨fun pins s si H Q I q => h.run pins s si H Q I (i si H Q q)⟩
theorem so_none : PO X none (tDO T W oNone) := PO.imp po_none fun si H Q ⟨al, rh, mu, s, rs, h⟩ => h _ al H (Gw.refl _ _) s rfl
theorem so_some (ha : PE X a (tD T W ga)) : PO X (some a) (tDO T W (oSome ga)) :=
  PO.imp (po_some ha) fun si H Q ⟨al, rh, mu, s, rs, h⟩ => by
    refine ⟨al, rh, mu, s, rs, (RV.bind (P := fun H al d v => Rp T H al d v) h).imp fun x H1 ⟨al1, d, mu1, g1, s1, r1, h1⟩ => ?_⟩
    cases d with
    | int i =>
      cases r1
      exact ⟨i, rfl, h1 _ al1 H1 (Gw.refl _ _) s1 rfl⟩
    | _ => exact h1.elim
def cutD (ds : List D) (lo hi : Option Int) : List D := (ds.drop (HT.sIx ds.length 0 lo)).take (HT.sIx ds.length ds.length hi - HT.sIx ds.length 0 lo)
theorem cut_rp {lo hi : Option Int} {xs : List V} (r : RpL T H al ds xs) : RpL T H al (cutD ds lo hi) (cutV xs lo hi) := by
  unfold cutD cutV
  rw [← r.length]
  exact (r.drop _).take _
def eSl (m : Bool) (a : SE) (lo hi : SO) : SE := fun rh => bnd (a rh) fun d => bnd (lo rh) fun l => bnd (hi rh) fun u => fun mu => match vwT d with
  | some ds => .val (.tup (cutD ds l u)) mu
  | none => match vwR mu d with
    | some ds => mkL m (cutD ds l u) mu
    | none => .bad
def rSlQ (K : PySem.W.Frag) : V → Option Int → Option Int → Hp → VK → Prop := fun x lo hi H Q => rSlA K x lo hi H Q ∨ rSlL K x lo hi H Q
theorem sl_q : SlR X (rSlQ X.K) := sl_tupA.or sl_list
theorem cut_all {lo hi : Option Int} (h1 : HT.sIx ds.length 0 lo = 0) (h2 : HT.sIx ds.length ds.length hi = ds.length) : cutD ds lo hi = ds := by
  unfold cutD
  rw [h1, h2]
  simp
theorem se_slice {m : Bool} {lo hi : Option Expr} {gl gh : SO} {p2 : Pos} (hT : T.K = X.K) (ha : PE X a (tD T W ga)) (hl : PO X lo (tDO T W gl)) (hh : PO X hi (tDO T W gh)) : PE X (.Subscript a (.Slice lo hi none p2) pos) (tD T W (eSl m ga gl gh)) :=
  PE.imp (pe_slice sl_q ha hl hh) fun si H Q ⟨al, rh, mu, s, rs, h⟩ => by
    refine ⟨al, rh, mu, s, rs, (RV.bind (P := fun H al d v => Rp T H al d v) h).imp fun x H1 ⟨al1, d, mu1, g1, s1, r1, h1⟩ => ?_⟩
    refine ⟨al1, rh, mu1, s1, rs.mono g1, (RV.bind (P := fun _ _ (o o' : Option Int) => o = o') h1).imp fun l H2 ⟨al2, l', mu2, g2, s2, r2, h2⟩ => ?_⟩
    subst r2
    refine ⟨al2, rh, mu2, s2, (rs.mono g1).mono g2, (RV.bind (P := fun _ _ (o o' : Option Int) => o = o') h2).imp fun u H3 ⟨al3, u', mu3, g3, s3, r3, h3⟩ => ?_⟩
    subst r3
    have r1' := (r1.mono g2).mono g3
    split at h3
    · rename_i ds hd
      obtain ⟨p, xs, rfl, hx, rx⟩ := vwT_ok r1' hd
      refine .inl ⟨p, xs, rfl, hT ▸ hx, fun hw => ?_, fun _ => tup_of s3 (cut_rp rx) h3⟩
      have e : d = .tup ds := by
        unfold vwT at hd
        split at hd
        · cases hd
          rfl
        · cases hd
      subst e
      refine h3 _ al3 H3 (Gw.refl _ _) s3 ?_
      rw [cut_all (by rw [rx.length]; exact hw.1) (by rw [rx.length]; exact hw.2)]
      exact r1'
    · split at h3
      · rename_i ds hd
        obtain ⟨p, xs, rfl, hx, rx⟩ := vwR_ok s3 r1' hd
        exact .inr ⟨p, xs, rfl, hT ▸ hx, mkL_of s3 (cut_rp rx) h3⟩
      · exact h3.elim

end
end DL

set_option Elab.async false
set_option linter.all false
set_option maxRecDepth 100000
set_option maxHeartbeats 4000000
/-! DL3: calls of built-ins, fields, methods of lists. -/
namespace DL
open PySem PySem.Spec PyProof.Rows L2

section
variable {T : Tbl} {W : WX} {X : Cx} {pos p : Pos} {al : List Addr} {mu : Store} {H : Hp} {d : D} {v : V} {ds : List D} {a b e : Expr} {es : List Expr} {ga gb : SE} {gs : SA}

def eCall (f : FL) (a : SA) : SE := fun rh => bnd (a rh) f
theorem tcall_of {r : List V → Hp → VK → Prop} {f : FL} (hf : OpL T W r f) {si : L2.St} {H : Hp} {Q : VK} (h : tD T W (eCall f gs) si H Q) : tCB r (tDL T W gs) si H Q := by
  obtain ⟨al, rh, mu, s, rs, h⟩ := h
  refine ⟨al, rh, mu, s, rs, (RV.bind (P := fun H al d v => RpL T H al d v) h).imp fun xs H1 ⟨al1, ds, mu1, g1, s1, r1, h1⟩ => ?_⟩
  exact hf si al1 mu1 H1 ds xs Q s1 r1 h1
theorem se_callB {id : String} {x : Str} {r : List V → Hp → VK → Prop} {f : FL} (hc : CallR X (.builtin id) r) (hf : OpL T W r f) (hg : Gl X x) (hm : X.mg x = none) (hv : bootBuiltins x = some (.builtin id)) (hn : x ≠ "__name__") (hdb : (x == ("__debug__" : Str)) = false)
    (he : starEach (e :: es) X.env = (false, eval e X.env) :: starEach es X.env) (hpl : (backTo pos (starEach es X.env)).any (·.1) = false) (ha : PA X (e :: es) (tDL T W gs)) : PE X (.Call (.Name x p) (e :: es) [] pos) (tD T W (eCall f gs)) :=
  PE.imp (pe_callB hc hg hm hv ha hn hdb he hpl) fun si H Q h => tcall_of hf h
theorem se_callTy {id : String} {x : Str} {r : List V → Hp → VK → Prop} {f : FL} (hc : CallR X (.type id) r) (hf : OpL T W r f) (hg : Gl X x) (hm : X.mg x = none) (hv : bootBuiltins x = some (.type id)) (hn : x ≠ "__name__") (hdb : (x == ("__debug__" : Str)) = false)
    (he : starEach (e :: es) X.env = (false, eval e X.env) :: starEach es X.env) (hpl : (backTo pos (starEach es X.env)).any (·.1) = false) (ha : PA X (e :: es) (tDL T W gs)) : PE X (.Call (.Name x p) (e :: es) [] pos) (tD T W (eCall f gs)) :=
  PE.imp (pe_callTy hc hg hm hv ha hn hdb he hpl) fun si H Q h => tcall_of hf h

theorem rpl1 {xs : List V} (r : RpL T H al [d] xs) : ∃ x, xs = [x] ∧ Rp T H al d x := by
  cases r with
  | cons h r =>
    cases r
    exact ⟨_, rfl, h⟩
theorem rpl2 {d' : D} {xs : List V} (r : RpL T H al [d, d'] xs) : ∃ x y, xs = [x, y] ∧ Rp T H al d x ∧ Rp T H al d' y := by
  cases r with
  | cons h r =>
    obtain ⟨y, rfl, h'⟩ := rpl1 r
    exact ⟨_, y, rfl, h, h'⟩

/-! ### len, abs, int -/
def fLen : FL := fun ds mu => match ds with
  | [.str z] => if few z.length = true then .val (.int z.length) mu else .bad
  | [d] => match vwQ mu d with
    | some es => .val (.int es.length) mu
    | none => .bad
  | _ => .bad
theorem fLen_ok : OpL T W (fun xs H Q => ∃ x n, xs = [x] ∧ LenV T.K x H n ∧ Q (.int n) H) fLen := by
  intro si al mu H ds xs Q s r h
  unfold fLen at h
  split at h
  · split at h
    · rename_i z hf
      obtain ⟨x, rfl, r1⟩ := rpl1 r
      cases r1
      exact ⟨_, z.length, rfl, ⟨few_ok hf, rfl⟩, h _ al H (Gw.refl _ _) s (.int _)⟩
    · exact h.elim
  · split at h
    · rename_i d _ es hq
      obtain ⟨x, rfl, r1⟩ := rpl1 r
      obtain ⟨a, xs, rfl, h1, r2⟩ := vwQ_ok s r1 hq
      refine ⟨_, es.length, rfl, ?_, h _ al H (Gw.refl _ _) s (.int _)⟩
      rcases h1 with h1 | h1
      · exact .inl ⟨xs, h1, r2.length⟩
      · exact .inr ⟨xs, h1, r2.length⟩
    · exact h.elim
  · exact h.elim
def fAbs : FL := fun ds => match ds with
  | [.int i] => ret (.int (if i < 0 then -i else i))
  | _ => bad
theorem fAbs_ok : OpL T W (fun xs H Q => ∃ i, xs = [.int i] ∧ Q (.int (if i < 0 then -i else i)) H) fAbs := by
  intro si al mu H ds xs Q s r h
  unfold fAbs at h
  split at h
  · obtain ⟨x, rfl, r1⟩ := rpl1 r
    cases r1
    exact ⟨_, rfl, h _ al H (Gw.refl _ _) s (.int _)⟩
  · exact h.elim
def fInt : FL := fun ds => match ds with
  | [.int i] => ret (.int i)
  | [.bl k] => ret (.int (if k then 1 else 0))
  | _ => bad
theorem fInt_ok : OpL T W (fun xs H Q => (∃ i, xs = [.int i] ∧ Q (.int i) H) ∨ ∃ k, xs = [.bl k] ∧ Q (.int (if k then 1 else 0)) H) fInt := by
  intro si al mu H ds xs Q s r h
  unfold fInt at h
  split at h
  · obtain ⟨x, rfl, r1⟩ := rpl1 r
    cases r1
    exact .inl ⟨_, rfl, h _ al H (Gw.refl _ _) s (.int _)⟩
  · obtain ⟨x, rfl, r1⟩ := rpl1 r
    cases r1
    exact .inr ⟨_, rfl, h _ al H (Gw.refl _ _) s (.int _)⟩
  · exact h.elim

/-! ### sum, all, any; max, min of two -/
def intsD : List D → Option (List Int)
  | [] => some []
  | .int i :: r => (intsD r).map (i :: ·)
  | _ :: _ => none
theorem intsD_ok : ∀ {ds : List D} {xs : List V} {ns : List Int}, RpL T H al ds xs → intsD ds = some ns → xs = ns.map V.int
  | _, _, _, .nil, e => by
    cases e
    rfl
  | .int i :: r, _, ns, .cons h t, e => by
    unfold intsD at e
    cases q : intsD r with
    | none =>
      rw [q] at e
      cases e
    | some ms =>
      rw [q] at e
      cases e
      cases h
      rw [intsD_ok t q]
      rfl
def blsD : List D → Option (List Bool)
  | [] => some []
  | .bl i :: r => (blsD r).map (i :: ·)
  | _ :: _ => none
theorem bls_ok : ∀ {ds : List D} {xs : List V} {ns : List Bool}, RpL T H al ds xs → blsD ds = some ns → xs = ns.map V.bl
  | _, _, _, .nil, e => by
    cases e
    rfl
  | .bl i :: r, _, ns, .cons h t, e => by
    unfold blsD at e
    cases q : blsD r with
    | none =>
      rw [q] at e
      cases e
    | some ms =>
      rw [q] at e
      cases e
      cases h
      rw [bls_ok t q]
      rfl
def fSum : FL := fun ds mu => match ds with
  | [d] => match (vwL mu d).bind intsD with
    | some ns => .val (.int ns.sum) mu
    | none => .bad
  | _ => .bad
theorem fSum_ok : OpL T W (rSum T.K) fSum := by
  intro si al mu H ds xs Q s r h
  unfold fSum at h
  split at h
  · split at h
    · rename_i d ns hq
      obtain ⟨es, h1, h2⟩ := Option.bind_eq_some_iff.mp hq
      obtain ⟨x, rfl, r1⟩ := rpl1 r
      obtain ⟨a, ys, rfl, h3, r2⟩ := vwL_ok s r1 h1
      have e := intsD_ok r2 h2
      subst e
      exact ⟨a, ns, rfl, SqL.of h3, h _ al H (Gw.refl _ _) s (.int _)⟩
    · exact h.elim
  · exact h.elim
def fAll : FL := fun ds mu => match ds with
  | [d] => match (vwL mu d).bind blsD with
    | some bs => .val (.bl (bs.all id)) mu
    | none => .bad
  | _ => .bad
theorem fAll_ok : OpL T W (rAll T.K) fAll := by
  intro si al mu H ds xs Q s r h
  unfold fAll at h
  split at h
  · split at h
    · rename_i d ns hq
      obtain ⟨es, h1, h2⟩ := Option.bind_eq_some_iff.mp hq
      obtain ⟨x, rfl, r1⟩ := rpl1 r
      obtain ⟨a, ys, rfl, h3, r2⟩ := vwL_ok s r1 h1
      have e := bls_ok r2 h2
      subst e
      exact ⟨a, ns, rfl, SqL.of h3, h _ al H (Gw.refl _ _) s (.bl _)⟩
    · exact h.elim
  · exact h.elim
def fAny : FL := fun ds mu => match ds with
  | [d] => match (vwL mu d).bind blsD with
    | some bs => .val (.bl (bs.any id)) mu
    | none => .bad
  | _ => .bad
theorem fAny_ok : OpL T W (rAny T.K) fAny := by
  intro si al mu H ds xs Q s r h
  unfold fAny at h
  split at h
  · split at h
    · rename_i d ns hq
      obtain ⟨es, h1, h2⟩ := Option.bind_eq_some_iff.mp hq
      obtain ⟨x, rfl, r1⟩ := rpl1 r
      obtain ⟨a, ys, rfl, h3, r2⟩ := vwL_ok s r1 h1
      have e := bls_ok r2 h2
      subst e
      exact ⟨a, ns, rfl, SqL.of h3, h _ al H (Gw.refl _ _) s (.bl _)⟩
    · exact h.elim
  · exact h.elim
def fMax2 : FL := fun ds => match ds with
  | [.int i, .int j] => ret (.int (if j > i then j else i))
  | _ => bad
theorem fMax2_ok : OpL T W (fun xs H Q => ∃ i j, xs = [.int i, .int j] ∧ Q (.int (if j > i then j else i)) H) fMax2 := by
  intro si al mu H ds xs Q s r h
  unfold fMax2 at h
  split at h
  · obtain ⟨x, y, rfl, r1, r2⟩ := rpl2 r
    cases r1
    cases r2
    exact ⟨_, _, rfl, h _ al H (Gw.refl _ _) s (.int _)⟩
  · exact h.elim
def fMin2 : FL := fun ds => match ds with
  | [.int i, .int j] => ret (.int (if j < i then j else i))
  | _ => bad
theorem fMin2_ok : OpL T W (fun xs H Q => ∃ i j, xs = [.int i, .int j] ∧ Q (.int (if j < i then j else i)) H) fMin2 := by
  intro si al mu H ds xs Q s r h
  unfold fMin2 at h
  split at h
  · obtain ⟨x, y, rfl, r1, r2⟩ := rpl2 r
    cases r1
    cases r2
    exact ⟨_, _, rfl, h _ al H (Gw.refl _ _) s (.int _)⟩
  · exact h.elim

/-! ### tuple(x), list(x) -/
def fTuple : FL := fun ds mu => match ds with
  | [.tup es] => .val (.tup es) mu
  | [d] => match vwL mu d with
    | some es => .val (.tup es) mu
    | none => .bad
  | _ => .bad
def rTupOf (K : PySem.W.Frag) : List V → Hp → VK → Prop := fun xs H Q => ∃ p ys, xs = [.ref p] ∧ ((SqL K H p ys ∧ ∀ l, H l = none → Q (.ref l) (upd H l (.tup ys))) ∨ (SqT K H p ys ∧ Q (.ref p) H))
theorem fTuple_ok : OpL T W (rTupOf T.K) fTuple := by
  intro si al mu H ds xs Q s r h
  unfold fTuple at h
  split at h
  · rename_i es
    obtain ⟨x, rfl, r1⟩ := rpl1 r
    obtain ⟨a, ys, rfl, h1, r2⟩ := vwT_ok (ds := es) r1 rfl
    exact ⟨a, ys, rfl, .inr ⟨h1, h _ al H (Gw.refl _ _) s r1⟩⟩
  · split at h
    · rename_i d _ es hq
      obtain ⟨x, rfl, r1⟩ := rpl1 r
      obtain ⟨a, ys, rfl, h1, r2⟩ := vwL_ok s r1 hq
      exact ⟨a, ys, rfl, .inl ⟨SqL.of h1, tup_of s r2 h⟩⟩
    · exact h.elim
  · exact h.elim
def fList (m : Bool) : FL := fun ds mu => match ds with
  | [d] => match vwQ mu d with
    | some es => mkL m es mu
    | none => .bad
  | _ => .bad
theorem fList_ok {m : Bool} : OpL T W (fun xs H Q => ∃ p ys, xs = [.ref p] ∧ (SqL T.K H p ys ∨ SqT T.K H p ys) ∧ ∀ l, H l = none → Q (.ref l) (upd H l (.lst ys))) (fList m) := by
  intro si al mu H ds xs Q s r h
  unfold fList at h
  split at h
  · split at h
    · rename_i d es hq
      obtain ⟨x, rfl, r1⟩ := rpl1 r
      obtain ⟨a, ys, rfl, h1, r2⟩ := vwQ_ok s r1 hq
      exact ⟨a, ys, rfl, h1, mkL_of s r2 h⟩
    · exact h.elim
  · exact h.elim
/-- the intsD of range(a, b) -/
def rgD (a b : Int) : List D := (List.range (b - a).toNat).map fun i => D.int (a + (i : Nat))
theorem rgD_rp {i j : Int} : RpL T H al (rgD i j) (rgV i j) := by
  unfold rgD rgV
  induction List.range (j - i).toNat with
  | nil => exact .nil
  | cons n r ih => exact .cons (.int _) ih
def okRg (i j : Int) : Bool := decide (-1000000 ≤ i) && decide (i ≤ 1000000) && decide (-1000000 ≤ j) && decide (j ≤ 1000000)
theorem okRg_ok {i j : Int} (h : okRg i j = true) : RgOk i j := by
  unfold okRg at h
  simp only [Bool.and_eq_true, decide_eq_true_eq] at h
  obtain ⟨⟨⟨h1, h2⟩, h3⟩, h4⟩ := h
  exact ⟨by omega, by omega, by omega, by omega, by omega⟩
theorem okRg_ends {i j : Int} (h : okRg i j = true) : -1000000 ≤ i ∧ i ≤ 1000000 ∧ -1000000 ≤ j ∧ j ≤ 1000000 := by
  unfold okRg at h
  simp only [Bool.and_eq_true, decide_eq_true_eq] at h
  exact ⟨h.1.1.1, h.1.1.2, h.1.2, h.2⟩
abbrev SR := Env → M (Int × Int)
def r1 (a : SE) : SR := fun rh => bnd (a rh) fun d => match d with
  | .int n => ret (0, n)
  | _ => bad
def r2 (a b : SE) : SR := fun rh => bnd (a rh) fun d => bnd (b rh) fun e => match d, e with
  | .int i, .int j => ret (i, j)
  | _, _ => bad
def tRg (T : Tbl) (W : WX) (g : SR) : L2.St → Hp → (Int → Int → Hp → Prop) → Prop := fun si H Q => ∃ al rh mu, Ste T al mu H ∧ RpS T H al rh si ∧ RV T W si al H (fun _ _ (o o' : Int × Int) => o = o') (fun o H' => Q o.1 o.2 H') (g rh mu)
theorem PRg.imp {t t' : L2.St → Hp → (Int → Int → Hp → Prop) → Prop} (h : PRg X e t) (i : ∀ si H Q, t' si H Q → t si H Q) : PRg X e t' := fun pins s si H Q I q => h pins s si H Q I (i si H Q q)
theorem sr_1 (hg : Gl X "range") (hm : X.mg "range" = none) (ha : PE X a (tD T W ga)) (na : starEach [a] X.env = (false, eval a X.env) :: starEach [] X.env) : PRg X (.Call (.Name "range" p) [a] [] pos) (tRg T W (r1 ga)) :=
  PRg.imp (prg_1 hg hm ha na) fun si H Q ⟨al, rh, mu, s, rs, h⟩ => by
    refine ⟨al, rh, mu, s, rs, (RV.bind (P := fun H al d v => Rp T H al d v) h).imp fun x H1 ⟨al1, d, mu1, g1, s1, q1, h1⟩ => ?_⟩
    cases d with
    | int n =>
      cases q1
      exact ⟨n, rfl, h1 (0, n) al1 H1 (Gw.refl _ _) s1 rfl⟩
    | _ => exact h1.elim
theorem sr_2 (hg : Gl X "range") (hm : X.mg "range" = none) (ha : PE X a (tD T W ga)) (hb : PE X b (tD T W gb)) (na : starEach [a, b] X.env = (false, eval a X.env) :: starEach [b] X.env) (nb : starEach [b] X.env = (false, eval b X.env) :: starEach [] X.env)
    (hp : (backTo pos (starEach [b] X.env)).any (·.1) = false) : PRg X (.Call (.Name "range" p) [a, b] [] pos) (tRg T W (r2 ga gb)) :=
  PRg.imp (prg_2 hg hm ha hb na nb hp) fun si H Q ⟨al, rh, mu, s, rs, h⟩ => by
    refine ⟨al, rh, mu, s, rs, (RV.bind (P := fun H al d v => Rp T H al d v) h).imp fun x H1 ⟨al1, d, mu1, g1, s1, q1, h1⟩ => ?_⟩
    refine ⟨al1, rh, mu1, s1, rs.mono g1, (RV.bind (P := fun H al d v => Rp T H al d v) h1).imp fun y H2 ⟨al2, d', mu2, g2, s2, q2, h2⟩ => ?_⟩
    cases d with
    | int i =>
      cases d' with
      | int j =>
        cases q1
        cases q2
        exact ⟨i, j, rfl, rfl, h2 (i, j) al2 H2 (Gw.refl _ _) s2 rfl⟩
      | _ => exact h2.elim
    | _ => exact h2.elim
def eTupRg (g : SR) : SE := fun rh => bnd (g rh) fun o => if okRg o.1 o.2 = true then ret (.tup (rgD o.1 o.2)) else bad
def eLstRg (m : Bool) (g : SR) : SE := fun rh => bnd (g rh) fun o => if okRg o.1 o.2 = true then mkL m (rgD o.1 o.2) else bad
theorem se_tupRg {g : SR} (hc : X.calm = true) (hg : Gl X "tuple") (hm : X.mg "tuple" = none) (he : PRg X e (tRg T W g)) (na : starEach [e] X.env = (false, eval e X.env) :: starEach [] X.env) : PE X (.Call (.Name "tuple" p) [e] [] pos) (tD T W (eTupRg g)) :=
  PE.imp (pe_tupRg hc hg hm he na) fun si H Q ⟨al, rh, mu, s, rs, h⟩ => by
    refine ⟨al, rh, mu, s, rs, (RV.bind (P := fun _ _ (o o' : Int × Int) => o = o') h).imp fun x H1 ⟨al1, d, mu1, g1, s1, q1, h1⟩ => ?_⟩
    subst q1
    split at h1
    · rename_i hk
      exact ⟨okRg_ok hk, tup_of s1 rgD_rp h1⟩
    · exact h1.elim
theorem se_lstRg {m : Bool} {g : SR} (hc : X.calm = true) (hg : Gl X "list") (hm : X.mg "list" = none) (he : PRg X e (tRg T W g)) (na : starEach [e] X.env = (false, eval e X.env) :: starEach [] X.env) : PE X (.Call (.Name "list" p) [e] [] pos) (tD T W (eLstRg m g)) :=
  PE.imp (pe_listRg hc hg hm he na) fun si H Q ⟨al, rh, mu, s, rs, h⟩ => by
    refine ⟨al, rh, mu, s, rs, (RV.bind (P := fun _ _ (o o' : Int × Int) => o = o') h).imp fun x H1 ⟨al1, d, mu1, g1, s1, q1, h1⟩ => ?_⟩
    subst q1
    split at h1
    · rename_i hk
      exact ⟨okRg_ok hk, mkL_of s1 rgD_rp h1⟩
    · exact h1.elim

/-! ### isinstance -/
/-- the built-in type of a value -/
def tyD (mu : Store) : D → Option String
  | .non => some "NoneType"
  | .bl _ => some "bool"
  | .int _ => some "int"
  | .str _ => some "str"
  | .tup _ => some "tuple"
  | .lst _ => some "list"
  | .ref n => match mu[n]? with
    | some (.lst _) => some "list"
    | _ => none
  | _ => none
theorem tyD_ok {t : String} (s : Ste T al mu H) (r : Rp T H al d v) (e : tyD mu d = some t) : TyX T.K H v (.type t) := by
  cases r with
  | non =>
    cases e
    exact .base .non
  | bl b =>
    cases e
    exact .base (.bl b)
  | int i =>
    cases e
    exact .base (.int i)
  | str x =>
    cases e
    exact .base (.str x)
  | @tup a xs es h r =>
    cases e
    rcases h with (h | ⟨o, h⟩) | ⟨o, its, n, h1, h2, h3⟩
    · exact .base (.tup h)
    · exact .fTuple h
    · exact .kTuple h1 h2
  | lst h n hh r =>
    cases e
    exact .base (.lst h)
  | @ref n a h =>
    obtain ⟨o, h1, h2⟩ := s.tr h
    simp only [tyD, h1] at e
    cases o with
    | lst es =>
      cases e
      obtain ⟨xs, h3, _⟩ := h2
      exact .base (.lst h3)
    | ins c ns es => cases e
  | _ => cases e
def fIsi : FL := fun ds mu => match ds with
  | [d, .ty n] => match tyD mu d with
    | some t => match kitB t n with
      | some k => .val (.bl k) mu
      | none => .bad
    | none => .bad
  | _ => .bad
theorem fIsi_ok : OpL T W (rIsi T.K) fIsi := by
  intro si al mu H ds xs Q s r h
  unfold fIsi at h
  split at h
  · split at h
    · rename_i d n _ t ht
      split at h
      · rename_i k hk
        obtain ⟨x, y, rfl, q1, q2⟩ := rpl2 r
        cases q2
        exact ⟨x, .ty n, .type t, .type n, k, rfl, .ty n, tyD_ok s q1 ht, kit_ty hk, h _ al H (Gw.refl _ _) s (.bl _)⟩
      · exact h.elim
    · exact h.elim
  · exact h.elim

/-! ### repr -/
def rRepr (K : PySem.W.Frag) : List V → Hp → VK → Prop := fun xs H Q =>
  (∃ i, xs = [.int i] ∧ i.natAbs.log2 < 1920 ∧ Q (.str (toString i)) H) ∨
    ∃ a d, xs = [.ref a] ∧ Dp K H (.ref a) d ∧ d.showable = true ∧ d.hasDict = false ∧ d.depth ≤ 60 ∧ d.shown.length ≤ sizeLine ∧ Q (.str d.shown) H
theorem call_reprD (hg : X.A.guards = some []) (hu : X.A.units + 64 < cLine) : CallR X (.builtin "repr") (rRepr X.K) := by
  intro pins s si H xs us Q I r h
  rcases h with h | ⟨a, d, rfl, hd, hs, hn, hz, hl, q⟩
  · exact SkE.call_repr_int pins s si H xs us Q I r h
  · have e := Vals.ref1 r
    subst e
    obtain ⟨as, rd⟩ := Dp.reads I d (.ref a) (.ref a) hd rfl
    exact repr_of_reads' rd hs (fun z => by rw [hn] at z; cases z) hg (by omega) (fun _ _ z => z) (fun h' u tk k => ⟨.str d.shown, H, I.kept (t' := tk) k, ⟨_, rfl⟩, q⟩) hl
def okShow (p : PyData) : Bool := p.showable && !p.hasDict && decide (p.depth ≤ 60) && decide (p.shown.length ≤ 1000000)
def fRepr : FL := fun ds mu => match ds with
  | [.int i] => if i.natAbs.log2 < 1920 then .val (.str (toString i)) mu else .bad
  | [.tup es] => match D.py (.tup es) with
    | some p => if okShow p = true then .val (.str p.shown) mu else .bad
    | none => .bad
  | _ => .bad
theorem fRepr_ok : OpL T W (rRepr T.K) fRepr := by
  intro si al mu H ds xs Q s r h
  unfold fRepr at h
  split at h
  · split at h
    · rename_i i hi
      obtain ⟨x, rfl, q1⟩ := rpl1 r
      cases q1
      exact .inl ⟨i, rfl, hi, h _ al H (Gw.refl _ _) s (.str _)⟩
    · exact h.elim
  · rename_i es
    split at h
    · rename_i p hp
      split at h
      · rename_i hk
        obtain ⟨x, rfl, q1⟩ := rpl1 r
        obtain ⟨a, ys, rfl, h1, r2⟩ := vwT_ok (ds := es) q1 rfl
        unfold okShow at hk
        simp only [Bool.and_eq_true, decide_eq_true_eq, Bool.not_eq_true'] at hk
        obtain ⟨⟨⟨k1, k2⟩, k3⟩, k4⟩ := hk
        exact .inr ⟨a, p, rfl, py_dp q1 hp, k1, k2, k3, Nat.le_trans k4 (by rw [sizeLine_eq]; decide), h _ al H (Gw.refl _ _) s (.str _)⟩
      · exact h.elim
    · exact h.elim
  · exact h.elim

/-! ### fields -/
/-- the class numbered c can be read as the layer reads it -/
structure ClsOk (T : Tbl) (c : Nat) (fl : List Str) : Prop where
  ok : ∀ C, T.cls c = some C → Cls T.K C ∧ ∀ f ∈ fl, NoAttr T.K C f
def fieldOf (f : Str) : List Str → List D → Option D
  | n :: ns, d :: ds => if n = f then some d else fieldOf f ns ds
  | _, _ => none
theorem fieldOf_ok {f : Str} : ∀ {ns : List Str} {ds : List D} {gs : List (Str × V)}, gs.map Prod.fst = ns → RpL T H al ds (gs.map Prod.snd) → fieldOf f ns ds = some d → ∃ v, gs.lookup f = some v ∧ Rp T H al d v
  | [], _, [], _, _, e => by cases e
  | n :: ns, d' :: ds, (m, y) :: gs, hn, r, e => by
    simp only [List.map_cons, List.cons.injEq] at hn
    obtain ⟨h1, h2⟩ := hn
    subst h1
    cases r with
    | cons r1 r2 =>
      unfold fieldOf at e
      by_cases q : m = f
      · rw [if_pos q] at e
        cases e
        subst q
        exact ⟨y, by simp [List.lookup], r1⟩
      · rw [if_neg q] at e
        obtain ⟨w, hw, rw'⟩ := fieldOf_ok h2 r2 e
        refine ⟨w, ?_, rw'⟩
        have : (f == m) = false := by simpa using fun z => q z.symm
        simp [List.lookup, this, hw]
  | n :: ns, [], (m, y) :: gs, _, r, e => by cases e
/-- e.f of an instance whose class is in the list -/
def fFld (cs : List (Nat × List Str)) (f : Str) : F1 := fun d mu => match d with
  | .ins c ns ds => if (cs.any fun q => q.1 == c && q.2.contains f) = true then (match fieldOf f ns ds with
    | some z => .val z mu
    | none => .bad) else .bad
  | .ref n => match mu[n]? with
    | some (.ins c ns ds) => if (cs.any fun q => q.1 == c && q.2.contains f) = true then (match fieldOf f ns ds with
      | some z => .val z mu
      | none => .bad) else .bad
    | _ => .bad
  | _ => .bad
theorem cls_any {cs : List (Nat × List Str)} {f : Str} {c : Nat} (hc : ∀ q ∈ cs, ClsOk T q.1 q.2) (h : (cs.any fun q => q.1 == c && q.2.contains f) = true) {C : Addr} (e : T.cls c = some C) : Cls T.K C ∧ NoAttr T.K C f := by
  obtain ⟨q, hq, hh⟩ := List.any_eq_true.mp h
  rw [Bool.and_eq_true] at hh
  have e1 : q.1 = c := by simpa using hh.1
  obtain ⟨h1, h2⟩ := (hc q hq).ok C (by rw [e1]; exact e)
  exact ⟨h1, h2 f (by simpa using hh.2)⟩
theorem se_fld {cs : List (Nat × List Str)} {f : Str} (hT : T.K = X.K) (hc : ∀ q ∈ cs, ClsOk T q.1 q.2) (he : PE X a (tD T W ga)) (hb : attributeBase a f X.env (eval a X.env) = eval a X.env) : PE X (.Attribute a f pos) (tD T W (e1 (fFld cs f) ga)) :=
  PE.imp (pe_fld he hb) fun si H Q ⟨al, rh, mu, s, rs, h⟩ => by
    refine ⟨al, rh, mu, s, rs, (RV.bind (P := fun H al d v => Rp T H al d v) h).imp fun x H1 ⟨al1, d, mu1, g1, s1, q1, h1⟩ => ?_⟩
    unfold fFld at h1
    split at h1
    · rename_i c ns ds
      split at h1
      · rename_i hk
        split at h1
        · rename_i z hz
          cases q1 with
          | @ins a C dx c ns fs ds hC hH hn hh e r =>
            obtain ⟨w, hw, rw'⟩ := fieldOf_ok e r hz
            obtain ⟨k1, k2⟩ := cls_any hc hk hC
            exact ⟨a, C, dx, fs, w, rfl, hH, hT ▸ k1, hT ▸ k2, hw, h1 w al1 H1 (Gw.refl _ _) s1 rw'⟩
        · exact h1.elim
      · exact h1.elim
    · rename_i n
      split at h1
      · rename_i c ns ds hm
        split at h1
        · rename_i hk
          split at h1
          · rename_i z hz
            cases q1 with
            | @ref n a hA =>
              obtain ⟨C, dx, gs, hC, hH, e, r⟩ := s1.at_ n _ a hm hA
              obtain ⟨w, hw, rw'⟩ := fieldOf_ok e r hz
              obtain ⟨k1, k2⟩ := cls_any hc hk hC
              exact ⟨a, C, dx, gs, w, rfl, hH, hT ▸ k1, hT ▸ k2, hw, h1 w al1 H1 (Gw.refl _ _) s1 rw'⟩
          · exact h1.elim
        · exact h1.elim
      · exact h1.elim
    · exact h1.elim

/-! ### methods of lists -/
/-- a method changes the list n of the store -/
def putS (n : Nat) (ds : List D) (d : D) : M D := fun mu => .val d (mu.set n (.lst ds))
theorem put_of {n : Nat} {a : Addr} {xs ys : List V} {es : List D} {si : L2.St} {Q : VK} (s : Ste T al mu H) (ha : al[n]? = some a) (hH : H a = some (.lst xs)) (r : RpL T H al es ys) (rd : Rp T H al d v)
    (h : RV T W si al H (fun H al d v => Rp T H al d v) Q (putS n es d mu)) : Q v (upd H a (.lst ys)) := by
  have g := gw_put (o := HO.lst ys) ha hH True.intro
  exact h v al _ g (s.put ha hH True.intro ⟨ys, upd_same, r.mono g⟩) (rd.mono g)
/-- o.m(..): the object, then the arguments -/
abbrev FM := D → List D → M D
def eMeth (f : FM) (o : SE) (a : SA) : SE := fun rh => bnd (o rh) fun d => bnd (a rh) fun ds => f d ds
def fAppend : FM := fun d ds mu => match d, ds with
  | .ref n, [e] => match mu[n]? with
    | some (.lst es) => if few es.length = true then putS n (es ++ [e]) .non mu else .bad
    | _ => .bad
  | _, _ => .bad
def fInsert : FM := fun d ds mu => match d, ds with
  | .ref n, [.int i, e] => match mu[n]? with
    | some (.lst es) => if (few es.length && decide (0 ≤ i) && decide (i ≤ 1000000)) = true then putS n (es.take i.toNat ++ [e] ++ es.drop i.toNat) .non mu else .bad
    | _ => .bad
  | _, _ => .bad
def fPop : FM := fun d ds mu => match d, ds with
  | .ref n, [] => match mu[n]? with
    | some (.lst es) => match es[es.length - 1]? with
      | some e => putS n es.dropLast e mu
      | none => .bad
    | _ => .bad
  | _, _ => .bad
/-- a method of lists with arguments -/
def OpM (T : Tbl) (W : WX) (r : V → List V → Hp → VK → Prop) (f : FM) : Prop := ∀ (si : L2.St) (al : List Addr) (mu : Store) (H : Hp) (d : D) (x : V) (ds : List D) (xs : List V) (Q : VK), Ste T al mu H → Rp T H al d x → RpL T H al ds xs →
  RV T W si al H (fun H al d v => Rp T H al d v) Q (f d ds mu) → r x xs H Q
/-- what the object must be while the arguments are asked: a list of the store -/
def isRefL (mu : Store) : D → Bool
  | .ref n => match mu[n]? with
    | some (.lst _) => true
    | _ => false
  | _ => false
theorem isRefL_ok (s : Ste T al mu H) (r : Rp T H al d v) (e : isRefL mu d = true) : tyV T.K "list" v H := by
  unfold isRefL at e
  split at e
  · split at e
    · rename_i n ds hm
      obtain ⟨a, xs, rfl, _, h1, _⟩ := ref_lst s r hm
      exact .inl ⟨rfl, _, .inl (.inl h1)⟩
    · cases e
  · cases e
def eMethL (f : FM) (o : SE) (a : SA) : SE := fun rh => bnd (o rh) fun d => fun mu => if isRefL mu d = true then bnd (a rh) (fun ds => f d ds) mu else .bad
theorem se_methL {name : Str} {id : String} {r : V → List V → Hp → VK → Prop} {f : FM} {apos cpos : Pos} {o : Expr} {go : SE} (hT : T.K = X.K) (slot : Slot "list" name id) (hty : typeOf (.builtin id) = pure (.type "method_descriptor")) (hm : MtR X id r) (hf : OpM T W r f)
    (hbase : attributeBase o name X.env (eval o X.env) = eval o X.env) (hline : (apos.endLine == cpos.line) = true)
    (hfew : ((backTo cpos (starEach (e :: es) X.env)).all (fun x => !x.1) && (backToKw cpos (keywordEach [] X.env)).all (fun x => x.1.isSome)
      && decide ((e :: es).length + ([] : List Keyword).length + (if ([] : List Keyword).isEmpty then 0 else 1) < 30)) = true)
    (hs : starEach (e :: es) X.env = (false, eval e X.env) :: starEach es X.env) (hplain : (backTo cpos (starEach es X.env)).any (·.1) = false)
    (ho : PE X o (tD T W go)) (ha : PA X (e :: es) (tDL T W gs)) : PE X (.Call (.Attribute o name apos) (e :: es) [] cpos) (tD T W (eMethL f go gs)) :=
  PE.imp (pe_bm PySem.F.plainAttrs_list slot hty hm ho ha hbase hfew hline hs hplain) fun si H Q ⟨al, rh, mu, s, rs, h⟩ => by
    refine ⟨al, rh, mu, s, rs, (RV.bind (P := fun H al d v => Rp T H al d v) h).imp fun x H1 ⟨al1, d, mu1, g1, s1, q1, h1⟩ => ?_⟩
    split at h1
    · rename_i hk
      refine ⟨hT ▸ isRefL_ok s1 q1 hk, al1, rh, mu1, s1, rs.mono g1, (RV.bind (P := fun H al d v => RpL T H al d v) h1).imp fun xs H2 ⟨al2, ds, mu2, g2, s2, q2, h2⟩ => ?_⟩
      exact hf si al2 mu2 H2 d x ds xs Q s2 (q1.mono g2) q2 h2
    · exact h1.elim
theorem se_methL0 {name : Str} {id : String} {r : V → List V → Hp → VK → Prop} {f : FM} {apos cpos : Pos} {o : Expr} {go : SE} (hT : T.K = X.K) (slot : Slot "list" name id) (hty : typeOf (.builtin id) = pure (.type "method_descriptor")) (hm : MtR X id r) (hf : OpM T W r f)
    (hbase : attributeBase o name X.env (eval o X.env) = eval o X.env) (hline : (apos.endLine == cpos.line) = true)
    (ho : PE X o (tD T W go)) : PE X (.Call (.Attribute o name apos) [] [] cpos) (tD T W (eMethL f go aNil)) :=
  PE.imp (pe_bm0 PySem.F.plainAttrs_list slot hty hm ho hbase hline) fun si H Q ⟨al, rh, mu, s, rs, h⟩ => by
    refine ⟨al, rh, mu, s, rs, (RV.bind (P := fun H al d v => Rp T H al d v) h).imp fun x H1 ⟨al1, d, mu1, g1, s1, q1, h1⟩ => ?_⟩
    split at h1
    · rename_i hk
      exact ⟨hT ▸ isRefL_ok s1 q1 hk, hf si al1 mu1 H1 d x [] [] Q s1 q1 .nil h1⟩
    · exact h1.elim
theorem fAppend_ok : OpM T W rAppend fAppend := by
  intro si al mu H d x ds xs Q s rd rds h
  unfold fAppend at h
  split at h
  · rename_i n e
    split at h
    · rename_i es hm
      split at h
      · rename_i hf
        obtain ⟨a, ys, rfl, ha, hH, r⟩ := ref_lst s rd hm
        obtain ⟨y, rfl, q⟩ := rpl1 rds
        exact ⟨a, ys, y, rfl, rfl, hH, by rw [← r.length]; exact few_lt hf, put_of s ha hH (r.append (.cons q .nil)) .non h⟩
      · exact h.elim
    · exact h.elim
  · exact h.elim
def rInsert : V → List V → Hp → VK → Prop := fun x vs H Q => ∃ (l : Addr) (xs : List V) (i : Int) (y : V), x = .ref l ∧ vs = [.int i, y] ∧ H l = some (.lst xs) ∧ xs.length < sizeLine ∧ 0 ≤ i ∧ i < 2 ^ 63 ∧
    Q .non (upd H l (.lst (xs.take i.toNat ++ [y] ++ xs.drop i.toNat)))
theorem fInsert_ok : OpM T W rInsert fInsert := by
  intro si al mu H d x ds xs Q s rd rds h
  unfold fInsert at h
  split at h
  · rename_i n i e
    split at h
    · rename_i es hm
      split at h
      · rename_i hf
        simp only [Bool.and_eq_true, decide_eq_true_eq] at hf
        obtain ⟨a, ys, rfl, ha, hH, r⟩ := ref_lst s rd hm
        obtain ⟨z, y, rfl, q0, q⟩ := rpl2 rds
        cases q0
        exact ⟨a, ys, i, y, rfl, rfl, hH, by rw [← r.length]; exact few_lt hf.1.1, hf.1.2, by omega, put_of s ha hH (((r.take _).append (.cons q .nil)).append (r.drop _)) .non h⟩
      · exact h.elim
    · exact h.elim
  · exact h.elim
theorem fPop_ok : OpM T W rPop fPop := by
  intro si al mu H d x ds xs Q s rd rds h
  unfold fPop at h
  split at h
  · rename_i n
    split at h
    · rename_i es hm
      split at h
      · rename_i e he
        obtain ⟨a, ys, rfl, ha, hH, r⟩ := ref_lst s rd hm
        cases rds
        obtain ⟨y, hy, q⟩ := r.get he
        rw [r.length] at hy
        exact ⟨a, ys, y, rfl, rfl, hH, hy, put_of s ha hH r.dropLast q h⟩
      · exact h.elim
    · exact h.elim
  · exact h.elim
end
end DL

set_option Elab.async false
set_option linter.all false
set_option maxRecDepth 100000
set_option maxHeartbeats 4000000
/-! DL4: statements, targets, loops. -/
namespace DL
open PySem PySem.Spec PyProof.Rows L2

inductive RS where
  | nx (rh : Env) (mu : Store) | rt (d : D) (mu : Store) | bk (rh : Env) (mu : Store) | ct (rh : Env) (mu : Store) | exc (x : DX) (rh : Env) (mu : Store) | bad
abbrev SS := Env → Store → RS
/-- behind a statement -/
def RVS (T : Tbl) (W : WX) (al : List Addr) (H : Hp) (D : Ends) : RS → Prop
  | .nx rh mu => ∀ si al' H', Gw al H al' H' → Ste T al' mu H' → RpS T H' al' rh si → D.nx si H'
  | .rt d mu => ∀ v al' H', Gw al H al' H' → Ste T al' mu H' → Rp T H' al' d v → D.rt v H'
  | .bk rh mu => ∀ si al' H', Gw al H al' H' → Ste T al' mu H' → RpS T H' al' rh si → D.bk si H'
  | .ct rh mu => ∀ si al' H', Gw al H al' H' → Ste T al' mu H' → RpS T H' al' rh si → D.ct si H'
  | .exc x rh mu => ∀ cls dx si al' H', Gw al H al' H' → Ste T al' mu H' → RpS T H' al' rh si → XRp T H' al' x cls dx → W cls dx si H'
  | .bad => False
def tS (T : Tbl) (W : WX) (g : SS) : TS := fun D si H => ∃ al rh mu, Ste T al mu H ∧ RpS T H al rh si ∧ RVS T W al H D (g rh mu)
theorem PS.imp {X : Cx} {e : Stmt} {t t' : TS} (h : PS X e t) (i : ∀ D si H, t' D si H → t D si H) : PS X e t' := ⟨fun pins s si H D I q => h.run pins s si H D I (i D si H q)⟩
theorem PSs.imp {X : Cx} {e : List Stmt} {t t' : TS} (h : PSs X e t) (i : ∀ D si H, t' D si H → t D si H) : PSs X e t' := ⟨fun pins s si H D I q => h.run pins s si H D I (i D si H q)⟩
section
variable {T : Tbl} {W : WX} {X : Cx} {pos : Pos} {al : List Addr} {H : Hp} {st : Stmt} {rest : List Stmt} {e : Expr} {ge : SE}
theorem RVS.grow {r : RS} {D : Ends} {al1 : List Addr} {H1 : Hp} (h : RVS T W al H D r) (g : Gw al H al1 H1) : RVS T W al1 H1 D r := by
  cases r with
  | nx rh mu => exact fun si al' H' g' => h si al' H' (g.trans g')
  | rt d mu => exact fun v al' H' g' => h v al' H' (g.trans g')
  | bk rh mu => exact fun si al' H' g' => h si al' H' (g.trans g')
  | ct rh mu => exact fun si al' H' g' => h si al' H' (g.trans g')
  | exc x rh mu => exact fun c d si al' H' g' => h c d si al' H' (g.trans g')
  | bad => exact h
/-- a reading of a value, then a statement -/
def stB {A : Type} (r : R A) (rh : Env) (k : A → Store → RS) : RS := match r with
  | .val a mu => k a mu
  | .exc x mu => .exc x rh mu
  | .bad => .bad
theorem RVS.bind {A B : Type} {P : Hp → List Addr → A → B → Prop} {D : Ends} {r : R A} {rh : Env} {si : L2.St} {k : A → Store → RS} (rs : RpS T H al rh si) (h : RVS T W al H D (stB r rh k)) :
    RV T W si al H P (fun v H' => ∃ al' a mu', Gw al H al' H' ∧ Ste T al' mu' H' ∧ P H' al' a v ∧ RVS T W al' H' D (k a mu')) r := by
  cases r with
  | val a mu => exact fun v al' H' g s p => ⟨al', a, mu, g, s, p, RVS.grow h g⟩
  | exc x mu => exact fun cls dx al' H' g s q => h cls dx si al' H' g s (rs.mono g) q
  | bad => exact h.elim

/-! ### blocks, small statements -/
def sNil : SS := fun rh mu => .nx rh mu
def sSeq (a b : SS) : SS := fun rh mu => match a rh mu with
  | .nx rh' mu' => b rh' mu'
  | r => r
theorem ss_nil : PSs X [] (tS T W sNil) := PSs.imp pss_nil fun D si H ⟨al, rh, mu, s, rs, h⟩ => h si al H (Gw.refl _ _) s rs
theorem ss_cons {a b : SS} (h1 : PS X st (tS T W a)) (h2 : PSs X rest (tS T W b)) : PSs X (st :: rest) (tS T W (sSeq a b)) :=
  PSs.imp (pss_cons h1 h2) fun D si H ⟨al, rh, mu, s, rs, h⟩ => by
    refine ⟨al, rh, mu, s, rs, ?_⟩
    unfold sSeq at h
    cases q : a rh mu with
    | nx rh' mu' =>
      rw [q] at h
      exact fun si' al' H' g s' rs' => ⟨al', rh', mu', s', rs', h.grow g⟩
    | rt d mu' =>
      rw [q] at h
      exact h
    | bk rh' mu' =>
      rw [q] at h
      exact h
    | ct rh' mu' =>
      rw [q] at h
      exact h
    | exc x rh' mu' =>
      rw [q] at h
      exact h
    | bad =>
      rw [q] at h
      exact h
def sPass : SS := fun rh mu => .nx rh mu
def sBrk : SS := fun rh mu => .bk rh mu
def sCnt : SS := fun rh mu => .ct rh mu
theorem ss_pass : PS X (.Pass pos) (tS T W sPass) := PS.imp ps_pass fun D si H ⟨al, rh, mu, s, rs, h⟩ => h si al H (Gw.refl _ _) s rs
theorem ss_brk : PS X (.Break pos) (tS T W sBrk) := PS.imp ps_break fun D si H ⟨al, rh, mu, s, rs, h⟩ => h si al H (Gw.refl _ _) s rs
theorem ss_cnt : PS X (.Continue pos) (tS T W sCnt) := PS.imp ps_continue fun D si H ⟨al, rh, mu, s, rs, h⟩ => h si al H (Gw.refl _ _) s rs
def sDrop (g : SE) : SS := fun rh mu => stB (g rh mu) rh fun _ mu' => .nx rh mu'
theorem ss_expr (he : PE X e (tD T W ge)) (hs : swapsWith e none pos.line X.env = pure false) : PS X (.Expr e pos) (tS T W (sDrop ge)) :=
  PS.imp (ps_expr he hs) fun D si H ⟨al, rh, mu, s, rs, h⟩ =>
    ⟨al, rh, mu, s, rs, (RVS.bind (P := fun H al d v => Rp T H al d v) rs h).imp fun x H1 ⟨al1, d, mu1, g1, s1, r1, h1⟩ => h1 si al1 H1 (Gw.refl _ _) s1 (rs.mono g1)⟩
def sRet (g : SE) : SS := fun rh mu => stB (g rh mu) rh fun d mu' => .rt d mu'
theorem ss_ret (he : PE X e (tD T W ge)) : PS X (.Return (some e) pos) (tS T W (sRet ge)) :=
  PS.imp (ps_ret he) fun D si H ⟨al, rh, mu, s, rs, h⟩ =>
    ⟨al, rh, mu, s, rs, (RVS.bind (P := fun H al d v => Rp T H al d v) rs h).imp fun x H1 ⟨al1, d, mu1, g1, s1, r1, h1⟩ => h1 x al1 H1 (Gw.refl _ _) s1 r1⟩
def sRetN : SS := fun _ mu => .rt .non mu
theorem ss_retN : PS X (.Return none pos) (tS T W sRetN) := PS.imp ps_retN fun D si H ⟨al, rh, mu, s, rs, h⟩ => h _ al H (Gw.refl _ _) s .non
def sIf (c : SB) (a b : SS) : SS := fun rh mu => stB (c rh mu) rh fun k mu' => if k = true then a rh mu' else b rh mu'
theorem ss_if {c : Expr} {b1 b2 : List Stmt} {gc : SB} {a b : SS} (hc : PT X c (tDB T W gc)) (ha : PSs X b1 (tS T W a)) (hb : PSs X b2 (tS T W b)) : PS X (.If c b1 b2 pos) (tS T W (sIf gc a b)) :=
  PS.imp (ps_if hc ha hb) fun D si H ⟨al, rh, mu, s, rs, h⟩ =>
    ⟨al, rh, mu, s, rs, (RVS.bind (P := fun _ _ (d v : Bool) => d = v) rs h).imp fun x H1 ⟨al1, k, mu1, g1, s1, r1, h1⟩ => by
      subst r1
      cases k with
      | true =>
        rw [if_pos rfl] at h1 ⊢
        exact ⟨al1, rh, mu1, s1, rs.mono g1, h1⟩
      | false =>
        rw [if_neg Bool.false_ne_true] at h1 ⊢
        exact ⟨al1, rh, mu1, s1, rs.mono g1, h1⟩⟩

/-! ### targets -/
abbrev SG := D → Env → M Env
abbrev SGs := List D → Env → M Env
/-- no slots but these are others -/
def Chg (is : List Nat) (si si' : L2.St) : Prop := si'.length = si.length ∧ ∀ j, j ∉ is → si'[j]? = si[j]?
theorem Chg.refl (is : List Nat) (si : L2.St) : Chg is si si := ⟨rfl, fun _ _ => rfl⟩
theorem Chg.trans {is js : List Nat} {a b c : L2.St} (h : Chg is a b) (k : Chg js b c) : Chg (is ++ js) a c :=
  ⟨k.1.trans h.1, fun j n => (k.2 j fun m => n (List.mem_append_right _ m)).trans (h.2 j fun m => n (List.mem_append_left _ m))⟩
/-- behind a target's store -/
def RVE (T : Tbl) (is : List Nat) (s0 : L2.St) (al : List Addr) (H : Hp) (Q : L2.St → Hp → Prop) : R Env → Prop
  | .val rh mu => ∀ si al' H', Gw al H al' H' → Ste T al' mu H' → RpS T H' al' rh si → Chg is s0 si → Q si H'
  | _ => False
theorem RVE.grow {is : List Nat} {s0 : L2.St} {r : R Env} {Q : L2.St → Hp → Prop} {al1 : List Addr} {H1 : Hp} (h : RVE T is s0 al H Q r) (g : Gw al H al1 H1) : RVE T is s0 al1 H1 Q r := by
  cases r with
  | val rh mu => exact fun si al' H' g' => h si al' H' (g.trans g')
  | exc x mu => exact h
  | bad => exact h
def tG (T : Tbl) (is : List Nat) (g : SG) : TG := fun v si H Q => ∃ al rh mu d, Ste T al mu H ∧ RpS T H al rh si ∧ Rp T H al d v ∧ RVE T is si al H Q (g d rh mu)
def tGs (T : Tbl) (is : List Nat) (g : SGs) : TGs := fun vs si H Q => ∃ al rh mu ds, Ste T al mu H ∧ RpS T H al rh si ∧ RpL T H al ds vs ∧ RVE T is si al H Q (g ds rh mu)
theorem PG.imp {X : Cx} {e : Expr} {t t' : TG} (h : PG X e t) (i : ∀ v si H Q, t' v si H Q → t v si H Q) : PG X e t' := ⟨fun pins s si H v u Q I r q => h.run pins s si H v u Q I r (i v si H Q q)⟩
theorem PGs.imp {X : Cx} {e : List Expr} {t t' : TGs} (h : PGs X e t) (i : ∀ v si H Q, t' v si H Q → t v si H Q) : PGs X e t' := ⟨fun pins s si H v u Q I r q => h.run pins s si H v u Q I r (i v si H Q q)⟩
theorem chg_set (i : Nat) {si : L2.St} {x : Option V} : Chg [i] si (si.set i x) :=
  ⟨by rw [List.length_set], fun j n => by rw [List.getElem?_set_ne (fun e => n (by simp [e]))]⟩
def gVar (i : Nat) : SG := fun d rh => ret (rh.set i (some d))
theorem sg_name {i : Nat} {x : Str} (hN : X.N.Nodup) (hi : X.N[i]? = some x) (hx : Loc X.env.scope x) (hf : X.fn x = true ∨ X.env.scope.names.lookup x = some .local) : PG X (.Name x pos) (tG T [i] (gVar i)) :=
  PG.imp (pg_name hN hi hx hf) fun v si H Q ⟨al, rh, mu, d, s, rs, r, h⟩ => h _ al H (Gw.refl _ _) s (rs.set r) (chg_set i)
def gsNil : SGs := fun ds rh => match ds with
  | [] => ret rh
  | _ => bad
def gsCons (a : SG) (b : SGs) : SGs := fun ds rh => match ds with
  | d :: r => bnd (a d rh) fun rh' => b r rh'
  | _ => bad
theorem sgs_nil : PGs X [] (tGs T [] gsNil) := PGs.imp pgs_nil fun v si H Q ⟨al, rh, mu, ds, s, rs, r, h⟩ => by
  cases r with
  | nil => exact ⟨rfl, h _ al H (Gw.refl _ _) s rs (Chg.refl _ _)⟩
  | cons _ _ => exact h.elim
theorem sgs_cons {e : Expr} {es : List Expr} {a : SG} {b : SGs} {is js : List Nat} (h1 : PG X e (tG T is a)) (h2 : PGs X es (tGs T js b)) (hs : (assignEach (e :: es) X.env).map (·.2) = assign e X.env :: (assignEach es X.env).map (·.2)) : PGs X (e :: es) (tGs T (is ++ js) (gsCons a b)) :=
  PGs.imp (pgs_cons h1 h2 hs) fun v si H Q ⟨al, rh, mu, ds, s, rs, r, h⟩ => by
    cases r with
    | nil => exact h.elim
    | @cons d v ds vs r1 r2 =>
      refine ⟨v, vs, rfl, al, rh, mu, d, s, rs, r1, ?_⟩
      have h : RVE T (is ++ js) si al H Q (bnd (a d rh) (fun rh' => b ds rh') mu) := h
      unfold bnd at h
      cases q : a d rh mu with
      | val rh' mu' =>
        rw [q] at h
        refine fun si' al' H' g s' rs' c => ⟨al', rh', mu', ds, s', rs', r2.mono g, ?_⟩
        have h' : RVE T (is ++ js) si al' H' Q (b ds rh' mu') := RVE.grow h g
        cases q2 : b ds rh' mu' with
        | val rh2 mu2 =>
          rw [q2] at h'
          exact fun si2 al2 H2 g2 s2 rs2 c2 => h' si2 al2 H2 g2 s2 rs2 (c.trans c2)
        | exc x mu2 =>
          rw [q2] at h'
          exact h'
        | bad =>
          rw [q2] at h'
          exact h'
      | exc x mu' =>
        rw [q] at h
        exact h
      | bad =>
        rw [q] at h
        exact h
def gTup (n : Nat) (b : SGs) : SG := fun d rh => match d with
  | .tup ds => if ds.length = n then b ds rh else bad
  | _ => bad
theorem sg_tup {es : List Expr} {k n : Nat} {b : SGs} {is : List Nat} (hT : T.K = X.K) (hc : X.calm = true) (h : PGs X es (tGs T is b)) (hn : (assignEach es X.env).length = n) (hst : (assignEach es X.env).findIdx? (·.1) = none) : PG X (.Tuple es k pos) (tG T is (gTup n b)) :=
  PG.imp (pg_tup hc h hn hst) fun v si H Q ⟨al, rh, mu, d, s, rs, r, h⟩ => by
    unfold gTup at h
    split at h
    · rename_i ds
      split at h
      · rename_i hl
        obtain ⟨a, xs, rfl, h1, r1⟩ := vwT_ok (ds := ds) r rfl
        exact ⟨a, xs, rfl, hT ▸ h1, by rw [← r1.length]; exact hl, al, rh, mu, ds, s, rs, r1, h⟩
      · exact h.elim
    · exact h.elim
/-- no exception in a target -/
def noX {A : Type} (m : M A) : M A := fun mu => match m mu with
  | .val a mu' => .val a mu'
  | _ => .bad
/-- o[i] = .., a list of the store -/
def gIx (o i : SE) : SG := fun d rh => bnd (noX (o rh)) fun od => bnd (noX (i rh)) fun id => fun mu => match od, id with
  | .ref n, .int k => match mu[n]? with
    | some (.lst es) => match ixN es.length k with
      | some j => .val rh (mu.set n (.lst (es.set j d)))
      | none => .bad
    | _ => .bad
  | _, _ => .bad
theorem noX_bind {A B A' : Type} {P : Hp → List Addr → A → B → Prop} {si : L2.St} {m : M A} {f : A → M Env} {mu : Store} {Q : L2.St → Hp → Prop} {is : List Nat} {s0 : L2.St} (h : RVE T is s0 al H Q (bnd (noX m) f mu)) :
    RV T (fun _ _ _ _ => False) si al H P (fun v H' => ∃ al' a mu', Gw al H al' H' ∧ Ste T al' mu' H' ∧ P H' al' a v ∧ RVE T is s0 al' H' Q (f a mu')) (m mu) := by
  unfold bnd noX at h
  cases q : m mu with
  | val a mu' =>
    rw [q] at h
    exact fun v al' H' g s p => ⟨al', a, mu', g, s, p, RVE.grow h g⟩
  | exc x mu' =>
    rw [q] at h
    exact h.elim
  | bad =>
    rw [q] at h
    exact h.elim
/-- a weaker wish about exceptions -/
theorem RV.wish {A B : Type} {P : Hp → List Addr → A → B → Prop} {si : L2.St} {Q : B → Hp → Prop} {r : R A} (h : RV T (fun _ _ _ _ => False) si al H P Q r) (W : WX) : RV T W si al H P Q r := by
  cases r with
  | val a mu => exact h
  | exc x mu => exact fun c d al' H' g s q => (h c d al' H' g s q).elim
  | bad => exact h
theorem sg_ix {o i : Expr} {go gi : SE} (ho : PE X o (tD T W go)) (hi : PE X i (tD T W gi))
    (ha : ∀ v, assign (.Subscript o i pos) X.env v = (do
      let ov ← holding [v] (eval o X.env)
      let iv ← holding [v, ov] (eval i X.env)
      standAt pos
      holding [v, ov, iv] (setItem ov iv v)
      release [v, ov, iv] [])) : PG X (.Subscript o i pos) (tG T [] (gIx go gi)) :=
  PG.imp (pg_sub ho hi set_list ha) fun v si H Q ⟨al, rh, mu, d, s, rs, r, h⟩ => by
    refine ⟨al, rh, mu, s, rs, ((noX_bind (A' := D) (P := fun H al d v => Rp T H al d v) (si := si) h).wish W).imp fun x H1 ⟨al1, od, mu1, g1, s1, q1, h1⟩ => ?_⟩
    refine ⟨al1, rh, mu1, s1, rs.mono g1, ((noX_bind (A' := D) (P := fun H al d v => Rp T H al d v) (si := si) h1).wish W).imp fun y H2 ⟨al2, id, mu2, g2, s2, q2, h2⟩ => ?_⟩
    cases od with
    | ref n =>
      cases id with
      | int k =>
        simp only at h2
        split at h2
        · rename_i es hm
          split at h2
          · rename_i j hj
            obtain ⟨a, xs, rfl, ha, hH, rx⟩ := ref_lst s2 (q1.mono g2) hm
            cases q2
            have g := gw_put (o := HO.lst (xs.set j v)) ha hH True.intro
            have rd := (r.mono g1).mono g2
            exact ⟨a, xs, k, j, rfl, rfl, hH, by rw [← rx.length]; exact hj, h2 si al2 _ g (s2.put ha hH True.intro ⟨_, upd_same, (rx.set j rd).mono g⟩) (((rs.mono g1).mono g2).mono g) (Chg.refl _ _)⟩
          · exact h2.elim
        · exact h2.elim
      | _ => exact h2.elim
    | _ => exact h2.elim
/-- target = value -/
def stE (r : R Env) : RS := match r with
  | .val rh mu => .nx rh mu
  | _ => .bad
def sAsg (g : SE) (t : SG) : SS := fun rh mu => stB (g rh mu) rh fun d mu' => stE (t d rh mu')
theorem asg_of {t : TG} {gt : SG} {te : TE} {is : List Nat} (i : ∀ v si H Q, tG T is gt v si H Q → t v si H Q) (j : ∀ si H Q, tD T W ge si H Q → te si H Q) {D : Ends} {si : L2.St} {H : Hp} (h : tS T W (sAsg ge gt) D si H) : tAsg te t D si H := by
  obtain ⟨al, rh, mu, s, rs, h⟩ := h
  refine j _ _ _ ⟨al, rh, mu, s, rs, (RVS.bind (P := fun H al d v => Rp T H al d v) rs h).imp fun x H1 ⟨al1, d, mu1, g1, s1, r1, h1⟩ => ?_⟩
  refine i _ _ _ _ ⟨al1, rh, mu1, d, s1, rs.mono g1, r1, ?_⟩
  unfold stE at h1
  cases q : gt d rh mu1 with
  | val rh' mu' =>
    rw [q] at h1
    exact fun si' al' H' g s' rs' _ => h1 si' al' H' g s' rs'
  | exc x mu' =>
    rw [q] at h1
    exact h1
  | bad =>
    rw [q] at h1
    exact h1
theorem ss_asg {tg : Expr} {gt : SG} {is : List Nat} (he : PE X e (tD T W ge)) (hg : PG X tg (tG T is gt)) (hs : swapsWithSole [tg] e pos.line X.env = pure false) (hw : swappedStores [tg] e X.env = pure none) (h1 : (assignEach [tg] X.env).map (·.2) = [assign tg X.env]) :
    PS X (.Assign [tg] e pos) (tS T W (sAsg ge gt)) :=
  PS.imp (ps_asg he hg hs hw h1) fun D si H h => asg_of (fun _ _ _ _ h => h) (fun _ _ _ h => h) h
theorem ss_set {i : Nat} {x : Str} {pos' : Pos} (hN : X.N.Nodup) (hi : X.N[i]? = some x) (hx : Loc X.env.scope x) (hf : X.fn x = true ∨ X.env.scope.names.lookup x = some .local) (he : PE X e (tD T W ge)) (hs : swapsWith e (some (.Name x pos')) pos.line X.env = pure false) :
    PS X (.Assign [.Name x pos'] e pos) (tS T W (sAsg ge (gVar i))) :=
  PS.imp (ps_set hN hi hx he hs hf) fun D si H h => asg_of (t := L2.gName i) (is := [i]) (fun v si H Q ⟨al, rh, mu, d, s, rs, r, h⟩ => h _ al H (Gw.refl _ _) s (rs.set r) (chg_set i)) (fun _ _ _ h => h) h
/-- a, b = x, y: plain names, written sides -/
def sPar (is : List Nat) (a : SA) : SS := fun rh mu => stB (a rh mu) rh fun ds mu' => if ds.length = is.length then .nx ((is.zip ds).foldl (fun r p => r.set p.1 (some p.2)) rh) mu' else .bad
theorem ss_par {i j : Nat} {x y : Str} {a b : Expr} {ga : SA} {px py pt : Pos} {kt k2 : Nat} {pt2 : Pos} (hc : X.calm = true) (hN : X.N.Nodup) (hi : X.N[i]? = some x) (hj : X.N[j]? = some y) (hij : i ≠ j)
    (hx : X.env.scope.names.lookup x = some .local) (hy : X.env.scope.names.lookup y = some .local) (ha : PA X [a, b] (tDL T W ga))
    (hw : swappedStores [.Tuple [.Name x px, .Name y py] kt pt] (.Tuple [a, b] k2 pt2) X.env = pure (some [x, y])) (hs : swapsWithSole [.Tuple [.Name x px, .Name y py] kt pt] (.Tuple [a, b] k2 pt2) pos.line X.env = pure false) :
    PS X (.Assign [.Tuple [.Name x px, .Name y py] kt pt] (.Tuple [a, b] k2 pt2) pos) (tS T W (sPar [i, j] ga)) :=
  PS.imp (L2.ps_par hc hN hi hj hij hx hy ha hw hs) fun D si H ⟨al, rh, mu, s, rs, h⟩ => by
    refine ⟨al, rh, mu, s, rs, (RVS.bind (P := fun H al d v => RpL T H al d v) rs h).imp fun xs H1 ⟨al1, ds, mu1, g1, s1, r1, h1⟩ => ?_⟩
    split at h1
    · rename_i hl
      cases r1 with
      | nil => cases hl
      | @cons d v ds vs q1 r1 =>
        cases r1 with
        | nil => cases hl
        | @cons d' v' ds vs q2 r1 =>
          cases r1 with
          | nil => exact ⟨v, v', rfl, h1 _ al1 H1 (Gw.refl _ _) s1 (((rs.mono g1).set q1).set q2)⟩
          | cons _ _ => cases hl
    · exact h1.elim
theorem ss_par3 {i j l : Nat} {x y z : Str} {a b c : Expr} {ga : SA} {px py pz pt : Pos} {kt k2 : Nat} {pt2 : Pos} (hc : X.calm = true) (hN : X.N.Nodup) (hi : X.N[i]? = some x) (hj : X.N[j]? = some y) (hl : X.N[l]? = some z) (hij : i ≠ j) (hil : i ≠ l) (hjl : j ≠ l)
    (hx : X.env.scope.names.lookup x = some .local) (hy : X.env.scope.names.lookup y = some .local) (hz : X.env.scope.names.lookup z = some .local) (ha : PA X [a, b, c] (tDL T W ga))
    (hw : swappedStores [.Tuple [.Name x px, .Name y py, .Name z pz] kt pt] (.Tuple [a, b, c] k2 pt2) X.env = pure (some [x, y, z])) (hs : swapsWithSole [.Tuple [.Name x px, .Name y py, .Name z pz] kt pt] (.Tuple [a, b, c] k2 pt2) pos.line X.env = pure false) :
    PS X (.Assign [.Tuple [.Name x px, .Name y py, .Name z pz] kt pt] (.Tuple [a, b, c] k2 pt2) pos) (tS T W (sPar [i, j, l] ga)) :=
  PS.imp (L2.ps_par3 hc hN hi hj hl hij hil hjl hx hy hz ha hw hs) fun D si H ⟨al, rh, mu, s, rs, h⟩ => by
    refine ⟨al, rh, mu, s, rs, (RVS.bind (P := fun H al d v => RpL T H al d v) rs h).imp fun xs H1 ⟨al1, ds, mu1, g1, s1, r1, h1⟩ => ?_⟩
    split at h1
    · rename_i hl
      cases r1 with
      | nil => cases hl
      | @cons d v ds vs q1 r1 =>
        cases r1 with
        | nil => cases hl
        | @cons d' v' ds vs q2 r1 =>
          cases r1 with
          | nil => cases hl
          | @cons d3 v3 ds vs q3 r1 =>
            cases r1 with
            | nil => exact ⟨v, v', v3, rfl, h1 _ al1 H1 (Gw.refl _ _) s1 ((((rs.mono g1).set q1).set q2).set q3)⟩
            | cons _ _ => cases hl
    · exact h1.elim
/-- x op= e -/
def sAug (i : Nat) (f : F2) (g : SE) : SS := fun rh mu => match rh[i]? with
  | some (some d) => stB (g rh mu) rh fun e mu1 => stB (f d e mu1) rh fun z mu2 => .nx (rh.set i (some z)) mu2
  | _ => .bad
theorem ss_aug {i : Nat} {x : Str} {op : Operator} {f : F2} {r : R2} {pos' : Pos} (hN : X.N.Nodup) (hi : X.N[i]? = some x) (hx : Loc X.env.scope x) (hf : X.fn x = true ∨ X.env.scope.names.lookup x = some .local) (ho : OpR X (inplaceOp op) r) (hop : Op2 T W r f) (he : PE X e (tD T W ge)) :
    PS X (.AugAssign (.Name x pos') op e pos) (tS T W (sAug i f ge)) :=
  PS.imp (L2.ps_aug hN hi hx he (ti := r) (fun pins s si H x y v u Q I r1 r2 h => ho pins s si H x y v u Q I r1 r2 h) hf) fun D si H ⟨al, rh, mu, s, rs, h⟩ => by
    unfold sAug at h
    cases q : rh[i]? with
    | none =>
      rw [q] at h
      exact h.elim
    | some o =>
      cases o with
      | none =>
        rw [q] at h
        exact h.elim
      | some d =>
        rw [q] at h
        obtain ⟨v, hv, rv⟩ := rs.2 i d q
        refine ⟨v, hv, al, rh, mu, s, rs, (RVS.bind (P := fun H al d v => Rp T H al d v) rs h).imp fun y H1 ⟨al1, e', mu1, g1, s1, r1, h1⟩ => ?_⟩
        refine hop si al1 mu1 H1 d e' v y _ s1 (rv.mono g1) r1 ((RVS.bind (P := fun H al d v => Rp T H al d v) (rs.mono g1) h1).imp fun z H2 ⟨al2, z', mu2, g2, s2, r2, h2⟩ => ?_)
        exact h2 _ al2 H2 (Gw.refl _ _) s2 (((rs.mono g1).mono g2).set r2)
/-- o.f = e, an instance of the store -/
def putF1 (f : Str) (d : D) : List Str → List D → List Str × List D
  | n :: ns, x :: ds => if n = f then (n :: ns, d :: ds) else ((n :: (putF1 f d ns ds).1), (x :: (putF1 f d ns ds).2))
  | ns, ds => (ns ++ [f], ds ++ [d])
theorem putF1_ok {f : Str} {d : D} {v : V} (r : Rp T H al d v) : ∀ {ns : List Str} {ds : List D} {gs : List (Str × V)}, gs.map Prod.fst = ns → RpL T H al ds (gs.map Prod.snd) →
    (putF f v gs).map Prod.fst = (putF1 f d ns ds).1 ∧ RpL T H al (putF1 f d ns ds).2 ((putF f v gs).map Prod.snd)
  | [], [], [], _, _ => ⟨rfl, .cons r .nil⟩
  | n :: ns, x :: ds, (m, y) :: gs, hn, q => by
    simp only [List.map_cons, List.cons.injEq] at hn
    obtain ⟨h1, h2⟩ := hn
    subst h1
    cases q with
    | cons q1 q2 =>
      obtain ⟨i1, i2⟩ := putF1_ok r h2 q2
      unfold putF putF1
      by_cases e : m = f
      · rw [if_pos e, if_pos e]
        exact ⟨by rw [List.map_cons, h2], .cons r q2⟩
      · rw [if_neg e, if_neg e]
        exact ⟨by rw [List.map_cons, i1], .cons q1 i2⟩
  | _ :: _, [], _ :: _, _, q => by cases q
  | [], _ :: _, [], _, q => by cases q
def sFldSet (cs : List (Nat × List Str)) (f : Str) (o g : SE) : SS := fun rh mu => stB (g rh mu) rh fun d mu1 => stB (o rh mu1) rh fun od mu2 => match od with
  | .ref n => match mu2[n]? with
    | some (.ins c ns ds) => if ((cs.any fun q => q.1 == c && q.2.contains f) && decide (ds.length < 100)) = true then .nx rh (mu2.set n (.ins c (putF1 f d ns ds).1 (putF1 f d ns ds).2)) else .bad
    | _ => .bad
  | _ => .bad
theorem ss_fld {cs : List (Nat × List Str)} {o value : Expr} {f : Str} {pos' : Pos} {go : SE} (hT : T.K = X.K) (hc : ∀ q ∈ cs, ClsOk T q.1 q.2) (ho : PE X o (tD T W go)) (hv : PE X value (tD T W ge)) (hs : swapsWith value (some (.Attribute o f pos')) pos.line X.env = pure false) :
    PS X (.Assign [.Attribute o f pos'] value pos) (tS T W (sFldSet cs f go ge)) :=
  PS.imp (L2.ps_fld ho hv hs) fun D si H ⟨al, rh, mu, s, rs, h⟩ => by
    refine ⟨al, rh, mu, s, rs, (RVS.bind (P := fun H al d v => Rp T H al d v) rs h).imp fun y H1 ⟨al1, d, mu1, g1, s1, r1, h1⟩ => ?_⟩
    refine ⟨al1, rh, mu1, s1, rs.mono g1, (RVS.bind (P := fun H al d v => Rp T H al d v) (rs.mono g1) h1).imp fun x H2 ⟨al2, od, mu2, g2, s2, r2, h2⟩ => ?_⟩
    split at h2
    · rename_i n
      split at h2
      · rename_i c ns ds hm
        split at h2
        · rename_i hk
          rw [Bool.and_eq_true] at hk
          cases r2 with
          | @ref n a hA =>
            obtain ⟨C, dx, gs, hC, hH, e, r⟩ := s2.at_ n _ a hm hA
            obtain ⟨k1, k2⟩ := cls_any hc hk.1 hC
            obtain ⟨p1, p2⟩ := putF1_ok (f := f) (r1.mono g2) e r
            have hl : gs.length < 1000 := by
              have e1 := r.length
              rw [List.length_map] at e1
              have e2 := of_decide_eq_true hk.2
              omega
            have g := gw_put (o := HO.ins C dx (putF f y gs)) hA hH True.intro
            exact ⟨a, C, dx, gs, rfl, hH, hT ▸ k1, hT ▸ k2, hl, h2 si al2 _ g (s2.put hA hH True.intro ⟨C, dx, _, hC, upd_same, p1, p2.mono g⟩) (((rs.mono g1).mono g2).mono g)⟩
        · exact h2.elim
      · exact h2.elim
    · exact h2.elim

/-! ### while -/
def whileN (c : SB) (b : SS) : Nat → SS
  | 0 => fun _ _ => .bad
  | n + 1 => fun rh mu => stB (c rh mu) rh fun k mu1 => if k = true then (match b rh mu1 with
      | .nx rh2 mu2 => whileN c b n rh2 mu2
      | .ct rh2 mu2 => whileN c b n rh2 mu2
      | .bk rh2 mu2 => .nx rh2 mu2
      | r => r) else .nx rh mu1
open Classical in
noncomputable def sWhile (c : SB) (b : SS) : SS := fun rh mu => if h : ∃ n, whileN c b n rh mu ≠ .bad then whileN c b (Classical.choose h) rh mu else .bad
theorem whileN_mono {c : SB} {b : SS} : ∀ {n m : Nat} {rh : Env} {mu : Store}, n ≤ m → whileN c b n rh mu ≠ .bad → whileN c b m rh mu = whileN c b n rh mu
  | 0, _, _, _, _, h => absurd rfl h
  | n + 1, 0, _, _, hl, _ => absurd hl (by omega)
  | n + 1, m + 1, rh, mu, hl, h => by
    simp only [whileN] at h ⊢
    cases q : c rh mu with
    | val k mu1 =>
      rw [q] at h
      simp only [stB] at h ⊢
      cases k with
      | true =>
        simp only [if_true] at h ⊢
        cases q2 : b rh mu1 with
        | nx rh2 mu2 =>
          rw [q2] at h
          exact whileN_mono (by omega) h
        | ct rh2 mu2 =>
          rw [q2] at h
          exact whileN_mono (by omega) h
        | bk rh2 mu2 => rfl
        | rt d mu2 => rfl
        | exc x rh2 mu2 => rfl
        | bad => rfl
      | false => rfl
    | exc x mu1 => rfl
    | bad => rfl
theorem sWhile_of {c : SB} {b : SS} {n : Nat} {rh : Env} {mu : Store} (h : whileN c b n rh mu ≠ .bad) : sWhile c b rh mu = whileN c b n rh mu := by
  have hx : ∃ n, whileN c b n rh mu ≠ .bad := ⟨n, h⟩
  unfold sWhile
  rw [dif_pos hx]
  have hc := Classical.choose_spec hx
  rcases Nat.le_total n (Classical.choose hx) with hl | hl
  · exact whileN_mono hl h
  · exact (whileN_mono hl hc).symm
/-- one turn -/
theorem sWhile_eq {c : SB} {b : SS} {rh : Env} {mu : Store} : sWhile c b rh mu = stB (c rh mu) rh fun k mu1 => if k = true then (match b rh mu1 with
      | .nx rh2 mu2 => sWhile c b rh2 mu2
      | .ct rh2 mu2 => sWhile c b rh2 mu2
      | .bk rh2 mu2 => .nx rh2 mu2
      | r => r) else .nx rh mu1 := by
  have key : ∀ {rh2 : Env} {mu2 : Store}, (∀ n, whileN c b (n + 1) rh mu = whileN c b n rh2 mu2) → sWhile c b rh mu = sWhile c b rh2 mu2 := by
    intro rh2 mu2 he
    by_cases hx : ∃ n, whileN c b n rh2 mu2 ≠ .bad
    · obtain ⟨n, hn⟩ := hx
      rw [sWhile_of hn, ← he n]
      exact sWhile_of (by rw [he n]; exact hn)
    · have h1 : ¬ ∃ n, whileN c b n rh mu ≠ .bad := fun ⟨n, hn⟩ => by
        cases n with
        | zero => exact hn rfl
        | succ n => exact hx ⟨n, by rw [← he n]; exact hn⟩
      unfold sWhile
      rw [dif_neg hx, dif_neg h1]
  have one : ∀ {r : RS}, (∀ n, whileN c b (n + 1) rh mu = r) → sWhile c b rh mu = r := by
    intro r he
    by_cases hr : r = .bad
    · subst hr
      have h1 : ¬ ∃ n, whileN c b n rh mu ≠ .bad := fun ⟨n, hn⟩ => by
        cases n with
        | zero => exact hn rfl
        | succ n => exact hn (he n)
      unfold sWhile
      rw [dif_neg h1]
    · rw [sWhile_of (n := 1) (by rw [he 0]; exact hr), he 0]
  cases q : c rh mu with
  | val k mu1 =>
    simp only [stB]
    cases k with
    | true =>
      simp only [if_true]
      cases q2 : b rh mu1 with
      | nx rh2 mu2 => exact key fun n => by simp only [whileN, q, stB, if_true, q2]
      | ct rh2 mu2 => exact key fun n => by simp only [whileN, q, stB, if_true, q2]
      | bk rh2 mu2 => exact one fun n => by simp only [whileN, q, stB, if_true, q2]
      | rt d mu2 => exact one fun n => by simp only [whileN, q, stB, if_true, q2]
      | exc x rh2 mu2 => exact one fun n => by simp only [whileN, q, stB, if_true, q2]
      | bad => exact one fun n => by simp only [whileN, q, stB, if_true, q2]
    | false => exact one fun n => by simp only [whileN, q, stB, Bool.false_eq_true, if_false]
  | exc x mu1 => exact one fun n => by simp only [whileN, q, stB]
  | bad => exact one fun n => by simp only [whileN, q, stB]
theorem RVS.nbad {r : RS} {D : Ends} (h : RVS T W al H D r) : r ≠ .bad := fun e => by
  subst e
  exact h
theorem ss_while {c : Expr} {body : List Stmt} {gc : SB} {b : SS} (hp : PassesOwn (model X.prog X.w) X.A X.env X.xe) (hc : PT X c (tDB T W gc)) (hb : PSs X body (tS T W b)) : PS X (.While c body [] pos) (tS T W (sWhile gc b)) :=
  PS.imp (ps_while hp hc hb) fun D si H ⟨al, rh, mu, s, rs, h⟩ => by
    have hx : ∃ n, whileN gc b n rh mu ≠ .bad := by
      refine Classical.byContradiction fun hn => ?_
      unfold sWhile at h
      rw [dif_neg hn] at h
      exact h
    obtain ⟨n, hn⟩ := hx
    rw [sWhile_of hn] at h
    refine ⟨fun m si H => ∃ al rh mu, Ste T al mu H ∧ RpS T H al rh si ∧ RVS T W al H D (whileN gc b m rh mu), ⟨n, al, rh, mu, s, rs, h⟩, ?_⟩
    rintro m si H ⟨al, rh, mu, s, rs, h⟩
    cases m with
    | zero => exact h.elim
    | succ m =>
      refine ⟨al, rh, mu, s, rs, (RVS.bind (P := fun _ _ (d v : Bool) => d = v) rs h).imp fun k H1 ⟨al1, k', mu1, g1, s1, r1, h1⟩ => ?_⟩
      subst r1
      cases k' with
      | true =>
        rw [if_pos rfl] at h1 ⊢
        refine ⟨fun si' H' => ∃ al rh mu, Ste T al mu H' ∧ RpS T H' al rh si' ∧ RVS T W al H' D (whileN gc b m rh mu), fun si' H' hN => ⟨m, Nat.lt_succ_self m, hN⟩, al1, rh, mu1, s1, rs.mono g1, ?_⟩
        cases q : b rh mu1 with
        | nx rh2 mu2 =>
          rw [q] at h1
          exact fun si' al' H' g s' rs' => ⟨al', rh2, mu2, s', rs', h1.grow g⟩
        | ct rh2 mu2 =>
          rw [q] at h1
          exact fun si' al' H' g s' rs' => ⟨al', rh2, mu2, s', rs', h1.grow g⟩
        | bk rh2 mu2 =>
          rw [q] at h1
          exact fun si' al' H' g s' rs' => h1 si' al' H' g s' rs'
        | rt d mu2 =>
          rw [q] at h1
          exact h1
        | exc x rh2 mu2 =>
          rw [q] at h1
          exact h1
        | bad =>
          rw [q] at h1
          exact h1
      | false =>
        rw [if_neg Bool.false_ne_true] at h1 ⊢
        exact h1 si al1 H1 (Gw.refl _ _) s1 (rs.mono g1)
end
end DL

set_option Elab.async false
set_option linter.all false
set_option maxRecDepth 100000
set_option maxHeartbeats 4000000
/-! DL5: what is walked; for; comprehensions. -/
namespace DL
open PySem PySem.Spec PyProof.Rows L2

/-- the same text's table, other hidden addresses -/
def Tbl.hd (T : Tbl) (hid : List Addr) : Tbl := { T with hid := hid }
section
variable {T : Tbl} {H H' : Hp} {al al' : List Addr} {mu : Store}
mutual
theorem Rp.rehide {hid : List Addr} (hh : ∀ h ∈ hid, h ∈ T.hid ∨ H h = none) : ∀ {d : D} {v : V}, Rp T H al d v → Rp (T.hd hid) H al d v
  | _, _, .non => .non
  | _, _, .bl b => .bl b
  | _, _, .int i => .int i
  | _, _, .str s => .str s
  | _, _, .tup h r => .tup h (RpL.rehide hh r)
  | _, _, .scr h r => .scr h (RpL.rehide hh r)
  | _, _, .ty n => .ty n
  | _, _, .cls h => .cls h
  | _, _, .lst h n hd r => .lst h n (fun m => (hh _ m).elim hd fun z => by rw [h] at z; cases z) (RpL.rehide hh r)
  | _, _, .ins hc h n hd e r => .ins hc h n (fun m => (hh _ m).elim hd fun z => by rw [h] at z; cases z) e (RpL.rehide hh r)
  | _, _, .ref h => .ref h
theorem RpL.rehide {hid : List Addr} (hh : ∀ h ∈ hid, h ∈ T.hid ∨ H h = none) : ∀ {ds : List D} {vs : List V}, RpL T H al ds vs → RpL (T.hd hid) H al ds vs
  | _, _, .nil => .nil
  | _, _, .cons h r => .cons (Rp.rehide hh h) (RpL.rehide hh r)
end
theorem ROb.rehide {hid : List Addr} (hh : ∀ h ∈ hid, h ∈ T.hid ∨ H h = none) {a : Addr} {o : DO} (h : ROb T H al a o) : ROb (T.hd hid) H al a o := by
  cases o with
  | lst ds =>
    obtain ⟨xs, e, r⟩ := h
    exact ⟨xs, e, r.rehide hh⟩
  | ins c ns ds =>
    obtain ⟨C, dx, gs, h1, h2, h3, h4⟩ := h
    exact ⟨C, dx, gs, h1, h2, h3, h4.rehide hh⟩
/-- fewer hidden -/
theorem Ste.less {hid : List Addr} (s : Ste T al mu H) (hh : ∀ h ∈ hid, h ∈ T.hid) : Ste (T.hd hid) al mu H :=
  ⟨s.len, s.nd, fun n o a h1 h2 => (s.at_ n o a h1 h2).rehide fun h m => .inl (hh h m), fun h m => s.hd h (hh h m)⟩
theorem RpS.rehide {hid : List Addr} {rh : Env} {si : L2.St} (hh : ∀ h ∈ hid, h ∈ T.hid ∨ H h = none) (r : RpS T H al rh si) : RpS (T.hd hid) H al rh si :=
  ⟨r.1, fun i d e => by
    obtain ⟨v, h1, h2⟩ := r.2 i d e
    exact ⟨v, h1, h2.rehide hh⟩⟩
mutual
/-- a hidden list may change -/
theorem Rp.updh {L : Addr} {l l' : List V} (hm : L ∈ T.hid) (hn : L ∉ al) (hL : H L = some (.lst l)) : ∀ {d : D} {v : V}, Rp T H al d v → Rp T (upd H L (.lst l')) al d v
  | _, _, .non => .non
  | _, _, .bl b => .bl b
  | _, _, .int i => .int i
  | _, _, .str s => .str s
  | _, _, .tup (a := a) h r => .tup (by
      have ne : ∀ xs, Rd H a (.tup xs) → a ≠ L := fun xs q e => by
        subst e
        rcases q with q | ⟨_, q⟩ <;> rw [hL] at q <;> cases q
      rcases h with h | h
      · refine .inl ?_
        have n := ne _ h
        rcases h with h | ⟨o, h⟩
        · exact .inl (by rw [upd_ne n]; exact h)
        · exact .inr ⟨o, by rw [upd_ne n]; exact h⟩
      · exact .inr h) (RpL.updh hm hn hL r)
  | _, _, .scr (a := a) h r => .scr (by
      rcases h with ⟨o, h⟩ | h
      · exact .inl ⟨o, by rw [upd_ne (fun e => by subst e; rw [hL] at h; cases h)]; exact h⟩
      · exact .inr h) (RpL.updh hm hn hL r)
  | _, _, .ty n => .ty n
  | _, _, .cls h => .cls h
  | _, _, .lst (a := a) h n hd r => .lst (by rw [upd_ne (show a ≠ L from fun e => hd (by rw [e]; exact hm))]; exact h) n hd (RpL.updh hm hn hL r)
  | _, _, .ins (a := a) hc h n hd e r => .ins hc (by rw [upd_ne (show a ≠ L from fun e => hd (by rw [e]; exact hm))]; exact h) n hd e (RpL.updh hm hn hL r)
  | _, _, .ref h => .ref h
theorem RpL.updh {L : Addr} {l l' : List V} (hm : L ∈ T.hid) (hn : L ∉ al) (hL : H L = some (.lst l)) : ∀ {ds : List D} {vs : List V}, RpL T H al ds vs → RpL T (upd H L (.lst l')) al ds vs
  | _, _, .nil => .nil
  | _, _, .cons h r => .cons (Rp.updh hm hn hL h) (RpL.updh hm hn hL r)
end
theorem Ste.updh {L : Addr} {l l' : List V} (hm : L ∈ T.hid) (hL : H L = some (.lst l)) (s : Ste T al mu H) : Ste T al mu (upd H L (.lst l')) := by
  have hn := (s.hd L hm).2
  refine ⟨s.len, s.nd, fun n o a h1 h2 => ?_, fun h m => ⟨?_, (s.hd h m).2⟩⟩
  · have na : a ≠ L := fun e => hn (e ▸ List.mem_of_getElem? h2)
    have q := s.at_ n o a h1 h2
    cases o with
    | lst ds =>
      obtain ⟨xs, e, r⟩ := q
      exact ⟨xs, by rw [upd_ne na]; exact e, r.updh hm hn hL⟩
    | ins c ns ds =>
      obtain ⟨C, dx, gs, k1, k2, k3, k4⟩ := q
      exact ⟨C, dx, gs, k1, by rw [upd_ne na]; exact k2, k3, k4.updh hm hn hL⟩
  · by_cases e : h = L
    · rw [e, upd_same]; simp
    · rw [upd_ne e]; exact (s.hd h m).1
/-- what is new may change -/
theorem Gw.updh {L : Addr} {u : HO} (g : Gw al H al' H') (hL : H L = none) : Gw al H al' (upd H' L u) := by
  refine ⟨g.pre, fun a o n h => ?_, fun a xs h => ?_, fun a o u' h => ?_, fun a h => ?_⟩
  · rw [upd_ne (ne_of_none h hL)]; exact g.keep a o n h
  · have q := g.tups a xs h
    have ne : a ≠ L := fun e => rd_some h (e ▸ hL)
    rcases q with q | ⟨o, q⟩
    · exact .inl (by rw [upd_ne ne]; exact q)
    · exact .inr ⟨o, by rw [upd_ne ne]; exact q⟩
  · rw [upd_ne (ne_of_none h hL)]; exact g.frzs a o u' h
  · by_cases e : a = L
    · rw [e, upd_same]; simp
    · rw [upd_ne e]; exact g.dom a h
end

/-- how the heap may have come on, the hidden lists apart -/
structure Gh (hd : List Addr) (al : List Addr) (H : Hp) (al' : List Addr) (H' : Hp) : Prop where
  pre : ∃ be, al' = al ++ be ∧ ∀ b ∈ be, H b = none
  keep : ∀ a o, a ∉ al → a ∉ hd → H a = some o → H' a = some o
  tups : ∀ a xs, Rd H a (.tup xs) → Rd H' a (.tup xs)
  frzs : ∀ a o u, H a = some (.frz o u) → H' a = some (.frz o u)
  dom : ∀ a, H a ≠ none → H' a ≠ none
theorem Gw.h {al al' : List Addr} {H H' : Hp} (g : Gw al H al' H') (hd : List Addr) : Gh hd al H al' H' := ⟨g.pre, fun a o n _ h => g.keep a o n h, g.tups, g.frzs, g.dom⟩
section
variable {T : Tbl} {hd : List Addr} {H H' : Hp} {al al' : List Addr} {mu : Store}
theorem Gh.notin (g : Gh hd al H al' H') {a : Addr} (h : a ∉ al) (n : H a ≠ none) : a ∉ al' := by
  obtain ⟨be, rfl, hb⟩ := g.pre
  rw [List.mem_append]
  rintro (z | z)
  · exact h z
  · exact n (hb a z)
theorem Gh.trans {a1 a2 a3 : List Addr} {H1 H2 H3 : Hp} (g : Gh hd a1 H1 a2 H2) (g' : Gh hd a2 H2 a3 H3) : Gh hd a1 H1 a3 H3 := by
  refine ⟨?_, fun a o n m h => ?_, fun a xs h => g'.tups a xs (g.tups a xs h), fun a o u h => g'.frzs a o u (g.frzs a o u h), fun a h => g'.dom a (g.dom a h)⟩
  · obtain ⟨be, rfl, hb⟩ := g.pre
    obtain ⟨be', rfl, hb'⟩ := g'.pre
    refine ⟨be ++ be', by rw [List.append_assoc], fun b hm => ?_⟩
    rcases List.mem_append.mp hm with z | z
    · exact hb b z
    · cases q : H1 b with
      | none => rfl
      | some o => exact absurd (hb' b z) (g.dom b (by rw [q]; simp))
  · exact g'.keep a o (g.notin n (by rw [h]; simp)) m (g.keep a o n m h)
theorem Gh.at (g : Gh hd al H al' H') {n : Nat} {a : Addr} (h : al[n]? = some a) : al'[n]? = some a := by
  obtain ⟨be, rfl, _⟩ := g.pre
  rw [List.getElem?_append_left]
  · exact h
  · exact (List.getElem?_eq_some_iff.mp h).1
theorem Gh.scr (g : Gh hd al H al' H') {K : PySem.W.Frag} {a : Addr} {xs : List V} (h : Scr K H a xs) : Scr K H' a xs := by
  rcases h with ⟨o, h⟩ | h
  · exact .inl ⟨o, g.frzs a o _ h⟩
  · exact .inr h
theorem Gh.sqt (g : Gh hd al H al' H') {K : PySem.W.Frag} {a : Addr} {xs : List V} (h : SqT K H a xs) : SqT K H' a xs := by
  rcases h with h | h
  · exact .inl (g.tups a xs h)
  · exact .inr h
theorem Gh.updh {L : Addr} {l l' : List V} (g : Gh hd al H al' H') (hm : L ∈ hd) (hL : H' L = some (.lst l)) : Gh hd al H al' (upd H' L (.lst l')) := by
  refine ⟨g.pre, fun a o n m h => ?_, fun a xs h => ?_, fun a o u h => ?_, fun a h => ?_⟩
  · rw [upd_ne (fun e => m (by rw [e]; exact hm))]; exact g.keep a o n m h
  · have q := g.tups a xs h
    have ne : a ≠ L := fun e => by
      subst e
      rcases q with q | ⟨_, q⟩ <;> rw [hL] at q <;> cases q
    rcases q with q | ⟨o, q⟩
    · exact .inl (by rw [upd_ne ne]; exact q)
    · exact .inr ⟨o, by rw [upd_ne ne]; exact q⟩
  · have q := g.frzs a o u h
    rw [upd_ne (fun e => by subst e; rw [hL] at q; cases q)]; exact q
  · by_cases e : a = L
    · rw [e, upd_same]; simp
    · rw [upd_ne e]; exact g.dom a h
mutual
theorem Rp.monoh (g : Gh hd al H al' H') (hh : ∀ h ∈ hd, h ∈ T.hid) : ∀ {d : D} {v : V}, Rp T H al d v → Rp T H' al' d v
  | _, _, .non => .non
  | _, _, .bl b => .bl b
  | _, _, .int i => .int i
  | _, _, .str s => .str s
  | _, _, .tup h r => .tup (g.sqt h) (RpL.monoh g hh r)
  | _, _, .scr h r => .scr (g.scr h) (RpL.monoh g hh r)
  | _, _, .ty n => .ty n
  | _, _, .cls h => .cls h
  | _, _, .lst h n hd r => .lst (g.keep _ _ n (fun m => hd (hh _ m)) h) (g.notin n (by rw [h]; simp)) hd (RpL.monoh g hh r)
  | _, _, .ins hc h n hd e r => .ins hc (g.keep _ _ n (fun m => hd (hh _ m)) h) (g.notin n (by rw [h]; simp)) hd e (RpL.monoh g hh r)
  | _, _, .ref h => .ref (g.at h)
theorem RpL.monoh (g : Gh hd al H al' H') (hh : ∀ h ∈ hd, h ∈ T.hid) : ∀ {ds : List D} {vs : List V}, RpL T H al ds vs → RpL T H' al' ds vs
  | _, _, .nil => .nil
  | _, _, .cons h r => .cons (Rp.monoh g hh h) (RpL.monoh g hh r)
end
end
/-- these hidden: the table's own, and new ones -/
def HdOk (T : Tbl) (H0 : Hp) (hid : List Addr) : Prop := (∀ h ∈ T.hid, h ∈ hid) ∧ ∀ h ∈ hid, h ∈ T.hid ∨ H0 h = none

/-! ### what is walked -/
structure ItD where
  ds : List D
  gi : List (Nat × List D)
def keeps (gi : List (Nat × List D)) (mu : Store) : Prop := ∀ p ∈ gi, mu[p.1]? = some (.lst p.2)
theorem keeps_nil {mu : Store} : keeps [] mu := fun _ h => by cases h
structure WkD (T : Tbl) (H0 : Hp) (al0 : List Addr) (d : ItD) (J : It) : Prop where
  ex : ∃ (G : Hp → Prop) (Y : Nat → Hp → V → Hp → Prop), Walk J d.ds.length G Y ∧
    (∀ hid al mu H, HdOk T H0 hid → Gh T.hid al0 H0 al H → Ste (T.hd hid) al mu H → keeps d.gi mu → G H) ∧
    ∀ hid al mu H, HdOk T H0 hid → Gh T.hid al0 H0 al H → Ste (T.hd hid) al mu H → keeps d.gi mu → ∀ i v H', i < d.ds.length → Y i H v H' →
      ∃ x, d.ds[i]? = some x ∧ Gw al H al H' ∧ Ste (T.hd hid) al mu H' ∧ Rp (T.hd hid) H' al x v
abbrev SI := Env → M ItD
def tI (T : Tbl) (W : WX) (g : SI) : TI := fun si H R => ∃ al rh mu, Ste T al mu H ∧ RpS T H al rh si ∧ RV T W si al H (fun H al d J => WkD T H al d J) R (g rh mu)
theorem PI.imp {X : Cx} {tg e : Expr} {t t' : TI} (h : PI X tg e t) (i : ∀ si H R, t' si H R → t si H R) : PI X tg e t' := ⟨fun pins s si H R I q => h.run pins s si H R I (i si H R q)⟩
section
variable {T : Tbl} {W : WX} {X : Cx} {pos : Pos} {tg e : Expr} {ge : SE}
/-! a list, a tuple, the script, a text -/
def iSeq (K : PySem.W.Frag) (tl : TE) : TI := fun σ H R => tl σ H fun x H1 => (∃ a, x = .ref a ∧ ((∃ xs, SqL K H1 a xs) ∧ R (Itl K a) H1 ∨ (∃ xs, SqT K H1 a xs) ∧ R (Itt K a) H1)) ∨ ∃ z, x = .str z ∧ R (Its z) H1
theorem pi_seq {l : Expr} {tl : TE} (hl : PE X l tl) : PI X tg l (iSeq X.K tl) := by
  refine ⟨fun pins s σ H R I h => ?_⟩
  refine thn (hl.run pins s σ H _ I h) fun v s1 ⟨x, H1, I1, r1, q1⟩ => ?_
  rcases q1 with ⟨a, e, ⟨⟨xs, hq⟩, q⟩ | ⟨⟨xs, hq⟩, q⟩⟩ | ⟨z, e, q⟩
  · subst e
    cases r1
    obtain ⟨its, rv, p, hz⟩ := I1.list hq
    refine wpAny_pyIter_list p.isList ?_
    exact pi_one (tk := s1.toks) I1 _ (turn_list a _) ⟨_, Heap.get?_push_size _ rfl, rfl, rfl⟩ q
  · subst e
    cases r1
    obtain ⟨its, rv, p, hz⟩ := I1.tuple hq
    refine wpAny_pyIter_tuple (show s1.heap.IsTuple a its.toArray from p) ?_
    exact pi_one (tk := s1.toks) I1 _ (turn_tuple a _) ⟨_, Heap.get?_push_size _ rfl, rfl, rfl⟩ q
  · subst e
    obtain ⟨t, rfl⟩ := r1
    cases ha : z.cps.all (· < 128)
    · exact wpAny_pyIter_wide ha (pi_one (tk := s1.toks) I1 _ (turn_str _ z t "str_iterator" (.inr rfl)) ⟨_, Heap.get?_push_size _ rfl, rfl, rfl⟩ q)
    · exact wpAny_pyIter_ascii ha (pi_one (tk := s1.toks) I1 _ (turn_str _ z t "str_ascii_iterator" (.inl rfl)) ⟨_, Heap.get?_push_size _ rfl, rfl, rfl⟩ q)
/-- the items of a value, and what must stay -/
def itOf (mu : Store) : D → Option ItD
  | .lst ds => some ⟨ds, []⟩
  | .tup ds => some ⟨ds, []⟩
  | .scr ds => some ⟨ds, []⟩
  | .str z => some ⟨z.cps.toList.map fun c => .str ⟨#[c]⟩, []⟩
  | .ref n => match mu[n]? with
    | some (.lst ds) => some ⟨ds, [(n, ds)]⟩
    | _ => none
  | _ => none
theorem walk_l {K : PySem.W.Frag} {a : Addr} {n : Nat} : Walk (Itl K a) n (fun H => ∃ xs, SqL K H a xs ∧ xs.length = n) (fun i H x H' => H' = H ∧ ∀ xs, SqL K H a xs → xs[i]? = some x) :=
  ⟨fun i H hi ⟨xs, q, e⟩ => ⟨xs, xs[i], q, by simp [e, hi]⟩, fun H ⟨xs, q, e⟩ => ⟨xs, q, Nat.le_of_eq e⟩, fun i H x H' hi _ y => y⟩
theorem walk_t {K : PySem.W.Frag} {a : Addr} {n : Nat} : Walk (Itt K a) n (fun H => ∃ xs, SqT K H a xs ∧ xs.length = n) (fun i H x H' => H' = H ∧ ∀ xs, SqT K H a xs → xs[i]? = some x) :=
  ⟨fun i H hi ⟨xs, q, e⟩ => ⟨xs, xs[i], q, by simp [e, hi]⟩, fun H ⟨xs, q, e⟩ => ⟨xs, q, Nat.le_of_eq e⟩, fun i H x H' hi _ y => y⟩
/-- what a view of the items gives -/
theorem wk_of {H0 : Hp} {al0 : List Addr} {d : ItD} {J : It} {Sq : Hp → List V → Prop} (w : Walk J d.ds.length (fun H => ∃ xs, Sq H xs ∧ xs.length = d.ds.length) (fun i H x H' => H' = H ∧ ∀ xs, Sq H xs → xs[i]? = some x))
    (hs : ∀ hid al mu H, HdOk T H0 hid → Gh T.hid al0 H0 al H → Ste (T.hd hid) al mu H → keeps d.gi mu → ∃ xs, Sq H xs ∧ RpL (T.hd hid) H al d.ds xs) : WkD T H0 al0 d J := by
  refine ⟨_, _, w, fun hid al mu H hh g s k => ?_, fun hid al mu H hh g s k i v H' hi y => ?_⟩
  · obtain ⟨xs, q, r⟩ := hs hid al mu H hh g s k
    exact ⟨xs, q, r.length.symm⟩
  · obtain ⟨xs, q, r⟩ := hs hid al mu H hh g s k
    obtain ⟨rfl, y⟩ := y
    obtain ⟨x, h1, h2⟩ := r.getV (y xs q)
    exact ⟨x, h1, Gw.refl _ _, s, h2⟩
def gSeq (g : SE) : SI := fun rh => bnd (g rh) fun d => fun mu => match itOf mu d with
  | some it => .val it mu
  | none => .bad
theorem si_seq (hT : T.K = X.K) (he : PE X e (tD T W ge)) : PI X tg e (tI T W (gSeq ge)) :=
  PI.imp (pi_seq he) fun si H R ⟨al, rh, mu, s, rs, h⟩ => by
    refine ⟨al, rh, mu, s, rs, (RV.bind (P := fun H al d v => Rp T H al d v) h).imp fun x H1 ⟨al1, d, mu1, g1, s1, r1, h1⟩ => ?_⟩
    rw [← hT]
    cases d with
    | lst ds =>
      cases r1 with
      | @lst a xs _ hH hn hd r =>
        refine .inl ⟨a, rfl, .inl ⟨⟨xs, .inl (.inl hH)⟩, h1 _ al1 H1 (Gw.refl _ _) s1 (wk_of walk_l fun hid al mu H hh g s k => ?_)⟩⟩
        exact ⟨xs, .inl (.inl (g.keep _ _ hn hd hH)), (r.rehide hh.2).monoh g hh.1⟩
    | tup ds =>
      cases r1 with
      | @tup a xs _ hq r =>
        refine .inl ⟨a, rfl, .inr ⟨⟨xs, hq⟩, h1 _ al1 H1 (Gw.refl _ _) s1 (wk_of walk_t fun hid al mu H hh g s k => ?_)⟩⟩
        exact ⟨xs, g.sqt hq, (r.rehide hh.2).monoh g hh.1⟩
    | scr ds =>
      cases r1 with
      | @scr a xs _ hq r =>
        refine .inl ⟨a, rfl, .inl ⟨⟨xs, hq.sq⟩, h1 _ al1 H1 (Gw.refl _ _) s1 (wk_of walk_l fun hid al mu H hh g s k => ?_)⟩⟩
        exact ⟨xs, (g.scr hq).sq, (r.rehide hh.2).monoh g hh.1⟩
    | str z =>
      cases r1
      refine .inr ⟨z, rfl, h1 _ al1 H1 (Gw.refl _ _) s1 ?_⟩
      have hl : (z.cps.toList.map fun c => D.str ⟨#[c]⟩).length = z.cps.size := by simp
      refine ⟨fun _ => True, fun i H v H' => H' = H ∧ ∃ c, z.cps[i]? = some c ∧ v = .str ⟨#[c]⟩, hl ▸ walk_str, fun _ _ _ _ _ _ _ _ => trivial, fun hid al mu H hh g s k i v H' hi y => ?_⟩
      obtain ⟨rfl, c, hc, rfl⟩ := y
      exact ⟨.str ⟨#[c]⟩, by simp [hc], Gw.refl _ _, s, .str _⟩
    | ref n =>
      unfold itOf at h1
      simp only at h1
      split at h1
      · rename_i it hit
        split at hit
        · rename_i ds hm
          cases hit
          cases r1 with
          | @ref n a ha =>
            obtain ⟨xs, hH, r⟩ := s1.at_ n _ a hm ha
            refine .inl ⟨a, rfl, .inl ⟨⟨xs, .inl (.inl hH)⟩, h1 _ al1 H1 (Gw.refl _ _) s1 (wk_of walk_l fun hid al mu H hh g s k => ?_)⟩⟩
            obtain ⟨ys, hy, r'⟩ := s.at_ n _ a (k (n, ds) (by simp)) (g.at ha)
            exact ⟨ys, .inl (.inl hy), r'⟩
        · cases hit
      · exact h1.elim
    | _ => exact h1.elim
/-! range -/
def rgDs (lo hi : Int) : List D := (List.range (hi - lo).toNat).map fun i => .int (lo + (i : Nat))
def gRg1 (a : SA) : SI := fun rh => bnd (a rh) fun ds => match ds with
  | [.int j] => if decide (-(2 ^ 62) ≤ j ∧ j < 2 ^ 62) = true then ret ⟨rgDs 0 j, []⟩ else bad
  | _ => bad
def gRg2 (a : SA) : SI := fun rh => bnd (a rh) fun ds => match ds with
  | [.int i, .int j] => if decide (-(2 ^ 62) ≤ i ∧ i < 2 ^ 62 ∧ -(2 ^ 62) ≤ j ∧ j < 2 ^ 62) = true then ret ⟨rgDs i j, []⟩ else bad
  | _ => bad
theorem rg_len {lo hi : Int} : (rgDs lo hi).length = (hi - lo).toNat := by simp [rgDs]
theorem wk_rg {H0 : Hp} {al0 : List Addr} {lo hi : Int} : WkD T H0 al0 ⟨rgDs lo hi, []⟩ (Itr lo (hi - lo).toNat) := by
  refine ⟨fun _ => True, YFn fun i => .int (lo + i), (show (⟨rgDs lo hi, []⟩ : ItD).ds.length = _ from rg_len) ▸ walk_range, fun _ _ _ _ _ _ _ _ => trivial, fun hid al mu H hh g s k i v H' hi' y => ?_⟩
  obtain ⟨rfl, rfl⟩ := y
  refine ⟨.int (lo + i), ?_, Gw.refl _ _, s, .int _⟩
  have hl : i < (hi - lo).toNat := by rw [← rg_len]; exact hi'
  show (rgDs lo hi)[i]? = _
  unfold rgDs
  rw [List.getElem?_map, List.getElem?_range hl]
  rfl
theorem si_rg1 {a : Expr} {ga : SA} {p : Pos} (hg : Gl X "range") (hm : X.mg "range" = none) (ha : PA X [a] (tDL T W ga)) (hs : starEach [a] X.env = [(false, eval a X.env)]) : PI X tg (.Call (.Name "range" p) [a] [] pos) (tI T W (gRg1 ga)) :=
  PI.imp (pi_range1 hg hm ha hs) fun si H R ⟨al, rh, mu, s, rs, h⟩ => by
    refine ⟨al, rh, mu, s, rs, (RV.bind (P := fun H al d v => RpL T H al d v) h).imp fun xs H1 ⟨al1, ds, mu1, g1, s1, r1, h1⟩ => ?_⟩
    split at h1
    · rename_i j
      split at h1
      · rename_i hk
        cases r1 with
        | cons q rr =>
          cases rr
          cases q
          have hk := of_decide_eq_true hk
          refine ⟨j, rfl, hk.1, hk.2, h1 _ al1 H1 (Gw.refl _ _) s1 ?_⟩
          have := wk_rg (T := T) (H0 := H1) (al0 := al1) (lo := 0) (hi := j)
          simpa using this
      · exact h1.elim
    · exact h1.elim
theorem si_rg2 {a b : Expr} {ga : SA} {p : Pos} (hg : Gl X "range") (hm : X.mg "range" = none) (ha : PA X [a, b] (tDL T W ga)) (hs : starEach [a, b] X.env = [(false, eval a X.env), (false, eval b X.env)]) (hs2 : starEach [b] X.env = [(false, eval b X.env)]) :
    PI X tg (.Call (.Name "range" p) [a, b] [] pos) (tI T W (gRg2 ga)) :=
  PI.imp (pi_range2 hg hm ha hs hs2) fun si H R ⟨al, rh, mu, s, rs, h⟩ => by
    refine ⟨al, rh, mu, s, rs, (RV.bind (P := fun H al d v => RpL T H al d v) h).imp fun xs H1 ⟨al1, ds, mu1, g1, s1, r1, h1⟩ => ?_⟩
    split at h1
    · rename_i i j
      split at h1
      · rename_i hk
        cases r1 with
        | cons q rr =>
          cases rr with
          | cons q2 rr =>
            cases rr
            cases q
            cases q2
            exact ⟨i, j, rfl, of_decide_eq_true hk, h1 _ al1 H1 (Gw.refl _ _) s1 wk_rg⟩
      · exact h1.elim
    · exact h1.elim

/-! enumerate, of a list or a tuple -/
def IteT (K : PySem.W.Frag) (a : Addr) : It :=
  ⟨fun i H => ∃ (xs : List V) (x : V), SqT K H a xs ∧ xs[i]? = some x, fun i H v H' => ∃ T x, v = .ref T ∧ H T = none ∧ H' = upd H T (.tup [.int (i : Nat), x]) ∧ ∀ xs, SqT K H a xs → xs[i]? = some x, fun i H => ∃ xs : List V, SqT K H a xs ∧ xs.length = i⟩
theorem turn_enumT {P : Program} {w : World} {K : PySem.W.Frag} {elts : List Expr} {kk : Nat} {tpos : Pos} (a e it : Addr) (hae : a ≠ e) (hai : a ≠ it) :
    Turn P w K (.Tuple elts kk tpos) (IteT K a) [e, it] e (fun i h => (∃ old, IsEnum h e it ((i : Nat) : Int) old) ∧ h.IsTupleIter it a i ∧ e ≠ it) where
  mem := by simp
  obj := fun i h st b hb => by
    obtain ⟨⟨old, he⟩, ⟨o, ho, hc, hd⟩, _⟩ := st
    have e' : b = e ∨ b = it := by simpa using hb
    rcases e' with z | z
    · rw [z]; exact ⟨_, he, fun v q => nomatch q⟩
    · rw [z]; exact ⟨o, ho, fun v q => by rw [hd] at q; cases q⟩
  keep := fun i h h' st k => let ⟨⟨old, he⟩, hi, hne⟩ := st; ⟨⟨old, k e (by simp) _ he⟩, hi.at fun o q => k it (by simp) o q, hne⟩
  item := by
    intro X hP hw hK hc i pins s σ H E I hf st hg
    subst hP hw hK
    obtain ⟨⟨old, he⟩, hit, hne⟩ := st
    obtain ⟨xs, x, hq, hx⟩ := hg
    obtain ⟨its, rv, p, hz⟩ := I.tuple hq
    obtain ⟨u, hu, ru⟩ := rv.get hx
    have hel : e < s.heap.objs.size := Heap.lt_size he
    have hil : it < s.heap.objs.size := by obtain ⟨_, q, _⟩ := hit; exact Heap.lt_size q
    have hlt : i < its.toArray.size := by
      have := (List.getElem?_eq_some_iff.mp hu).1
      simpa using this
    refine wpAny_pyNext_enum_itemD (Draws.tuple (A := X.A.in1) (show X.A.in1.handled = none from I.ok.hd hc) it a hai its.toArray) he (show _ ∧ _ from ⟨hit, p⟩) hlt hne (by simp [Ne.symm hae, hne]) fun u' h' tk hP ho hit' hT hsz hk => ?_
    have hu' : u' = u := by
      have hP : its.toArray[i]? = some u' := hP
      rw [List.getElem?_toArray, hu] at hP
      exact (Option.some.inj hP).symm
    subst hu'
    refine ⟨_, rfl, wpAny_letOwnedTupleGo_enum (s := { s with heap := h', toks := tk + 1 }) ho fun h'' he' sb => ?_⟩
    have hT2 : h''.get? s.heap.objs.size = some { cls := .type "tuple", data := .seq #[.int i tk, u'] } := (sb.2 _ (Nat.ne_of_gt hel)).trans hT
    have new : ObjOk X.prog X.w (upd H s.heap.objs.size (.tup [.int (i : Nat), x])) h'' s.heap.objs.size (.tup [.int (i : Nat), x]) :=
      ⟨by show 2 ≤ sizeLine; decide, [.int i tk, u'], .cons ⟨_, rfl⟩ (.cons ru .nil), ⟨_, hT2, rfl, _, rfl⟩⟩
    have I1 : Inv X pins σ (upd H s.heap.objs.size (.tup [.int (i : Nat), x])) { s with heap := h'', toks := tk + 1 } :=
      I.turnedNew (ch := [e, it]) (fun b ob hb q => (sb.2 b (fun z => hb (by simp [z]))).trans (hk b ob (fun z => hb (by simp [z])) (fun z => hb (by simp [z])) q)) hf (Nat.le_refl _) new
    refine ⟨.ref s.heap.objs.size, _, I1, rfl, ⟨_, x, rfl, I.hok.fresh (Nat.le_refl _), rfl, fun ys hy => by rw [I.tuple_inj hy hq]; exact hx⟩, ⟨⟨u', ?_⟩, hit'.1.at fun o q => (sb.2 it (Ne.symm hne)).trans q, hne⟩, fun b hb => ?_⟩
    · have e1 : ((i + 1 : Nat) : Int) = (i : Int) + 1 := by omega
      rw [e1]; exact he'
    · have hb' : b < s.heap.objs.size := by
        have e' : b = e ∨ b = it := by simpa using hb
        rcases e' with z | z
        · rw [z]; exact hel
        · rw [z]; exact hil
      rw [upd_ne (Nat.ne_of_lt hb')]
      exact (hf b hb).1
  done := by
    intro X hP hw hK hc i pins s σ H E I hf st hg
    subst hP hw hK
    obtain ⟨⟨old, he⟩, hit, hne⟩ := st
    obtain ⟨xs, hq, hx⟩ := hg
    obtain ⟨its, rv, p, hz⟩ := I.tuple hq
    obtain ⟨f0, f1, f2, f3, f4, f5⟩ := hf it (by simp)
    have hl := rv.length
    have hx : i = its.toArray.size := by simp; omega
    rw [hx] at hit
    exact wpAny_pyNext_enum_endD (Draws.tuple (A := X.A.in1) (show X.A.in1.handled = none from I.ok.hd hc) it a hai its.toArray) he (show _ ∧ _ from ⟨hit, p⟩) fun h' eb => ⟨rfl, I.turned (t' := s.toks) (fun b o hb q => eb b o hb q) f0 f1 f3 f4 f5⟩
  self := fun A i s Q E st h => let ⟨⟨_, he⟩, _⟩ := st; wpAny_pyIter_enum he h

set_option maxHeartbeats 1000000 in
theorem meets_enum1 {v : Value} {o : Obj} {H : Heap → Prop} (B : Begins v o H) :
    Meets (Builtin.«enumerate.__new__» ⟨[.type "enumerate", v], []⟩) (fun _ R s => H s.heap ∧
      R (.ok (.ret (.ref (s.heap.push o).objs.size))) { s with heap := (s.heap.push o).push { cls := .type "enumerate", data := .fields #[.none, .bool false, .ref s.heap.objs.size, rawInt 0, .none, .none] } }) :=
  .of_wp fun prog w A R s h => by
    obtain ⟨hp, g, d, tk, os⟩ := s; obtain ⟨h1, h⟩ := h
    have hsub := sub_enumerate
    have q1 : ∀ {A' : Around} {E : Value → Shared → Prop} {Q : Value → Shared → Prop}, Q (.ref hp.objs.size) ⟨hp.push o, g, d, tk, os⟩ → wpAny (model prog w) A' (pyIter v) Q E ⟨hp, g, d, tk, os⟩ :=
      fun q => B.iter prog w _ _ ⟨hp, g, d, tk, os⟩ _ h1 q
    wp_walk using q1
    refine wpAny_stack_any fun st => wpAny_pure ?_
    split
    · rename_i c _ _ _ _ _
      cases (c == Value.type "enumerate")
      · wp_walk using q1
        exact ⟨_, rfl, h⟩
      · wp_walk using q1
        exact ⟨_, rfl, h⟩
    · wp_walk using q1
      exact ⟨_, rfl, h⟩
theorem call_enum1 {prog : Program} {w : World} {A : Around} {E : Value → Shared → Prop} {s : Shared} {v : Value} {o : Obj} {H : Heap → Prop} {Q : Value → Shared → Prop} (B : Begins v o H) (h1 : H s.heap)
    (h : ∀ h', IsEnum h' (s.heap.objs.size + 1) s.heap.objs.size 0 .none → h'.get? s.heap.objs.size = some o → h'.objs.size = s.heap.objs.size + 2 →
      (∀ b o, s.heap.get? b = some o → h'.get? b = some o) → Q (.ref (s.heap.objs.size + 1)) { s with heap := h' }) :
    wpAny (model prog w) A (call (.type "enumerate") [v]) Q E s := by
  refine callType_new F.called_enumerate (by decide) (F.typeCall_enumerate_1 _) (F.newCall_enumerate_1 _) (fun obj => F.args_object_init_2 obj _) F.entry_enumerate_new
    (meets_enum1 B) ⟨h1, ?_⟩
  have hz : (s.heap.push o).objs.size = s.heap.objs.size + 1 := Heap.size_push ..
  show _ ∧ _
  rw [hz]
  have he : IsEnum ((s.heap.push o).push { cls := .type "enumerate", data := .fields #[.none, .bool false, .ref s.heap.objs.size, rawInt 0, .none, .none] }) (s.heap.objs.size + 1) s.heap.objs.size 0 .none := by
    have := Heap.get?_push_size (s.heap.push o) (o := { cls := .type "enumerate", data := .fields #[.none, .bool false, .ref s.heap.objs.size, rawInt 0, .none, .none] }) rfl
    rw [hz] at this; exact this
  refine ⟨⟨_, he, rfl⟩, h _ he (Heap.get?_push_of_some _ (Heap.get?_push_size _ B.free)) (by rw [Heap.size_push, hz]) fun b o x => Heap.get?_push_of_some _ (Heap.get?_push_of_some _ x)⟩
def iEnumA (K : PySem.W.Frag) (ta : TA) : TI := fun σ H R => ta σ H fun vs H1 => ∃ a, vs = [.ref a] ∧ ((∃ xs, SqL K H1 a xs ∧ R (Ite K a) H1) ∨ (∃ xs, SqT K H1 a xs ∧ R (IteT K a) H1))
theorem pi_enumA {a : Expr} {ta : TA} {p tpos : Pos} {elts : List Expr} {kk : Nat} (hg : Gl X "enumerate") (hm : X.mg "enumerate" = none) (ha : PA X [a] ta) (hs : starEach [a] X.env = [(false, eval a X.env)]) :
    PI X (.Tuple elts kk tpos) (.Call (.Name "enumerate" p) [a] [] pos) (iEnumA X.K ta) := by
  refine ⟨fun pins s σ H R I h => ?_⟩
  refine Call_ (ld_blt I hg hm boot_enumerate (PyProof.Rows.callWith_type1 (thn (ha.run pos pins s σ H _ I h) fun us s1 ⟨vs, H1, I1, r1, q1⟩ => ?_) hs rfl))
  obtain ⟨a, ex, q1⟩ := q1
  subst ex
  cases r1 with
  | cons r rr =>
    cases rr
    cases r
    have two : ∀ b, b ∈ [s1.heap.objs.size + 1, s1.heap.objs.size] → FpOk X pins H1 b := fun b hb => by
      have e' : b = s1.heap.objs.size + 1 ∨ b = s1.heap.objs.size := by simpa using hb
      have hle : s1.heap.objs.size ≤ b := by
        rcases e' with z | z
        · rw [z]; exact Nat.le_add_right _ _
        · rw [z]; exact Nat.le_refl _
      exact I1.fpOk hle (I1.hok.fresh hle)
    rcases q1 with ⟨xs, hq, q⟩ | ⟨xs, hq, q⟩
    · obtain ⟨its, rv, p', hz⟩ := I1.list hq
      refine call_enum1 (begins_list a its.toArray) p'.isList fun h' he hit hsz hk => wpAny_pyIter_enum he ?_
      have I2 : Inv X pins σ H1 { s1 with heap := h' } := I1.kept (t' := s1.toks) hk
      exact ⟨s1.heap.objs.size + 1, [s1.heap.objs.size + 1, s1.heap.objs.size], _, _, H1, rfl, I2, turn_enum a (s1.heap.objs.size + 1) s1.heap.objs.size, ⟨⟨.none, he⟩, ⟨_, hit, rfl, rfl⟩, Nat.succ_ne_self _⟩, two, q⟩
    · obtain ⟨its, rv, p', hz⟩ := I1.tuple hq
      have hlt : a < s1.heap.objs.size := IsTup.lt p'
      refine call_enum1 (begins_tuple a its.toArray) (show s1.heap.IsTuple a its.toArray from p') fun h' he hit hsz hk => wpAny_pyIter_enum he ?_
      have I2 : Inv X pins σ H1 { s1 with heap := h' } := I1.kept (t' := s1.toks) hk
      exact ⟨s1.heap.objs.size + 1, [s1.heap.objs.size + 1, s1.heap.objs.size], _, _, H1, rfl, I2, turn_enumT a (s1.heap.objs.size + 1) s1.heap.objs.size (Nat.ne_of_lt (Nat.lt_succ_of_lt hlt)) (Nat.ne_of_lt hlt), ⟨⟨.none, he⟩, ⟨_, hit, rfl, rfl⟩, Nat.succ_ne_self _⟩, two, q⟩
/-- 0, 1, .. beside the items -/
def numD : Nat → List D → List D
  | _, [] => []
  | k, d :: ds => .tup [.int k, d] :: numD (k + 1) ds
theorem num_len : ∀ (k : Nat) (ds : List D), (numD k ds).length = ds.length
  | _, [] => rfl
  | k, d :: ds => by rw [numD, List.length_cons, List.length_cons, num_len]
theorem num_get : ∀ (k : Nat) (ds : List D) (i : Nat) (d : D), ds[i]? = some d → (numD k ds)[i]? = some (.tup [.int ((k + i : Nat) : Int), d])
  | _, [], _, _, h => by simp at h
  | k, d :: ds, 0, e, h => by
    simp at h
    subst h
    simp [numD]
  | k, d :: ds, i + 1, e, h => by
    have h := num_get (k + 1) ds i e (by simpa using h)
    rw [numD, List.getElem?_cons_succ, h]
    congr 4
    omega
def gEn (a : SA) : SI := fun rh => bnd (a rh) fun ds => match ds with
  | [d] => fun mu => match itOf mu d with
    | some it => match d with
      | .str _ => .bad
      | _ => .val ⟨numD 0 it.ds, it.gi⟩ mu
    | none => .bad
  | _ => bad
theorem wk_en {H0 : Hp} {al0 : List Addr} {d : ItD} {J : It} {Sq : Hp → List V → Prop} (w : Walk J d.ds.length (fun H => ∃ xs, Sq H xs ∧ xs.length = d.ds.length) (fun i H x H' => ∃ T y, x = .ref T ∧ H T = none ∧ H' = upd H T (.tup [.int (i : Nat), y]) ∧ ∀ xs, Sq H xs → xs[i]? = some y))
    (hs : ∀ hid al mu H, HdOk T H0 hid → Gh T.hid al0 H0 al H → Ste (T.hd hid) al mu H → keeps d.gi mu → ∃ xs, Sq H xs ∧ RpL (T.hd hid) H al d.ds xs) : WkD T H0 al0 ⟨numD 0 d.ds, d.gi⟩ J := by
  refine ⟨_, _, (by rw [show (⟨numD 0 d.ds, d.gi⟩ : ItD).ds.length = d.ds.length from num_len _ _]; exact w), fun hid al mu H hh g s k => ?_, fun hid al mu H hh g s k i v H' hi y => ?_⟩
  · obtain ⟨xs, q, r⟩ := hs hid al mu H hh g s k
    exact ⟨xs, q, r.length.symm⟩
  · obtain ⟨xs, q, r⟩ := hs hid al mu H hh g s k
    obtain ⟨p, y', rfl, hp, rfl, y⟩ := y
    obtain ⟨x, h1, h2⟩ := r.getV (y xs q)
    have g' := gw_new (al := al) (o := HO.tup [.int (i : Nat), y']) hp
    refine ⟨_, by
      have := num_get 0 d.ds i x h1
      rw [Nat.zero_add] at this
      exact this, g', s.new hp, .tup (.inl (.inl upd_same)) (.cons (.int _) (.cons (h2.mono g') .nil))⟩
theorem walk_el {K : PySem.W.Frag} {a : Addr} {n : Nat} : Walk (Ite K a) n (fun H => ∃ xs, SqL K H a xs ∧ xs.length = n) (fun i H x H' => ∃ T y, x = .ref T ∧ H T = none ∧ H' = upd H T (.tup [.int (i : Nat), y]) ∧ ∀ xs, SqL K H a xs → xs[i]? = some y) :=
  ⟨fun i H hi ⟨xs, q, e⟩ => ⟨xs, xs[i], q, by simp [e, hi]⟩, fun H ⟨xs, q, e⟩ => ⟨xs, q, Nat.le_of_eq e⟩, fun i H x H' hi _ y => y⟩
theorem walk_et {K : PySem.W.Frag} {a : Addr} {n : Nat} : Walk (IteT K a) n (fun H => ∃ xs, SqT K H a xs ∧ xs.length = n) (fun i H x H' => ∃ T y, x = .ref T ∧ H T = none ∧ H' = upd H T (.tup [.int (i : Nat), y]) ∧ ∀ xs, SqT K H a xs → xs[i]? = some y) :=
  ⟨fun i H hi ⟨xs, q, e⟩ => ⟨xs, xs[i], q, by simp [e, hi]⟩, fun H ⟨xs, q, e⟩ => ⟨xs, q, e⟩, fun i H x H' hi _ y => y⟩
theorem si_enum {a : Expr} {ga : SA} {p tpos : Pos} {elts : List Expr} {kk : Nat} (hT : T.K = X.K) (hg : Gl X "enumerate") (hm : X.mg "enumerate" = none) (ha : PA X [a] (tDL T W ga)) (hs : starEach [a] X.env = [(false, eval a X.env)]) :
    PI X (.Tuple elts kk tpos) (.Call (.Name "enumerate" p) [a] [] pos) (tI T W (gEn ga)) :=
  PI.imp (pi_enumA hg hm ha hs) fun si H R ⟨al, rh, mu, s, rs, h⟩ => by
    refine ⟨al, rh, mu, s, rs, (RV.bind (P := fun H al d v => RpL T H al d v) h).imp fun xs H1 ⟨al1, ds, mu1, g1, s1, r1, h1⟩ => ?_⟩
    rw [← hT]
    split at h1
    · rename_i d
      cases r1 with
      | cons r1 rr =>
        cases rr
        split at h1
        · rename_i it hit
          cases d with
          | str z => exact h1.elim
          | lst ds =>
            cases hit
            cases r1 with
            | @lst a xs _ hH hn hd r =>
              refine ⟨a, rfl, .inl ⟨xs, .inl (.inl hH), h1 _ al1 H1 (Gw.refl _ _) s1 (wk_en walk_el fun hid al mu H hh g s k => ?_)⟩⟩
              exact ⟨xs, .inl (.inl (g.keep _ _ hn hd hH)), (r.rehide hh.2).monoh g hh.1⟩
          | tup ds =>
            cases hit
            cases r1 with
            | @tup a xs _ hq r =>
              refine ⟨a, rfl, .inr ⟨xs, hq, h1 _ al1 H1 (Gw.refl _ _) s1 (wk_en walk_et fun hid al mu H hh g s k => ?_)⟩⟩
              exact ⟨xs, g.sqt hq, (r.rehide hh.2).monoh g hh.1⟩
          | scr ds =>
            cases hit
            cases r1 with
            | @scr a xs _ hq r =>
              refine ⟨a, rfl, .inl ⟨xs, hq.sq, h1 _ al1 H1 (Gw.refl _ _) s1 (wk_en walk_el fun hid al mu H hh g s k => ?_)⟩⟩
              exact ⟨xs, (g.scr hq).sq, (r.rehide hh.2).monoh g hh.1⟩
          | ref n =>
            unfold itOf at hit
            simp only at hit
            split at hit
            · rename_i ds hm
              cases hit
              cases r1 with
              | @ref n a ha =>
                obtain ⟨xs, hH, r⟩ := s1.at_ n _ a hm ha
                refine ⟨a, rfl, .inl ⟨xs, .inl (.inl hH), h1 _ al1 H1 (Gw.refl _ _) s1 (wk_en walk_el fun hid al mu H hh g s k => ?_)⟩⟩
                obtain ⟨ys, hy, r'⟩ := s.at_ n _ a (k (n, ds) (by simp)) (g.at ha)
                exact ⟨ys, .inl (.inl hy), r'⟩
            · cases hit
          | _ => cases hit
        · exact h1.elim
    · exact h1.elim
end
end DL

set_option Elab.async false
set_option linter.all false
set_option maxRecDepth 100000
set_option maxHeartbeats 4000000
/-! DL6: for; comprehensions. -/
namespace DL
open PySem PySem.Spec PyProof.Rows L2
section
variable {T : Tbl} {W : WX} {X : Cx} {pos : Pos} {tg e iter : Expr} {ge : SE}
open Classical in
noncomputable def forL (gi : List (Nat × List D)) (t : SG) (b : SS) : List D → Env → Store → RS
  | [], rh, mu => if keeps gi mu then .nx rh mu else .bad
  | d :: r, rh, mu => if keeps gi mu then (match t d rh mu with
      | .val rh1 mu1 => (match b rh1 mu1 with
        | .nx rh2 mu2 => forL gi t b r rh2 mu2
        | .ct rh2 mu2 => forL gi t b r rh2 mu2
        | .bk rh2 mu2 => .nx rh2 mu2
        | z => z)
      | _ => .bad) else .bad
noncomputable def sFor (src : SI) (t : SG) (b : SS) : SS := fun rh mu => stB (src rh mu) rh fun it mu1 => forL it.gi t b it.ds rh mu1
theorem forL_keeps {gi : List (Nat × List D)} {t : SG} {b : SS} {ds : List D} {rh : Env} {mu : Store} (h : forL gi t b ds rh mu ≠ .bad) : keeps gi mu := by
  refine Classical.byContradiction fun n => ?_
  cases ds with
  | nil => rw [forL, if_neg n] at h; exact h rfl
  | cons d r => rw [forL, if_neg n] at h; exact h rfl
theorem Tbl.hd_self : T.hd T.hid = T := rfl
theorem HdOk.self {H0 : Hp} : HdOk T H0 T.hid := ⟨fun _ h => h, fun _ h => .inl h⟩
theorem ss_for {body : List Stmt} {src : SI} {t : SG} {b : SS} {is : List Nat} (hp : PassesOwn (model X.prog X.w) X.A X.env X.xe) (hc : X.calm = true) (hi : PI X tg iter (tI T W src)) (hg : PG X tg (tG T is t)) (hb : PSs X body (tS T W b))
    (hs : ∀ x, foldedSetIterable iter X.env x = pure x) : PS X (.For tg iter body [] pos) (tS T W (sFor src t b)) :=
  PS.imp (ps_for hp hc hi hg hb hs) fun D si H ⟨al, rh, mu, s, rs, h⟩ => by
    refine ⟨al, rh, mu, s, rs, (RVS.bind (P := fun H al d J => WkD T H al d J) rs h).imp fun J H1 ⟨al1, it, mu1, g1, s1, wk, h1⟩ => ?_⟩
    obtain ⟨G, Y, w, hG, hY⟩ := wk.ex
    refine for_it w (fun i σ H => ∃ al rh mu, Gw al1 H1 al H ∧ Ste T al mu H ∧ RpS T H al rh σ ∧ RVS T W al H D (forL it.gi t b (it.ds.drop i) rh mu)) ⟨al1, rh, mu1, Gw.refl _ _, s1, rs.mono g1, h1⟩ (fun i σ H _ ⟨al, rh, mu, g, s, rs, h⟩ => ?_) (fun i x σ H H' hi ⟨al, rh, mu, g, s, rs, h⟩ y => ?_) (fun σ H ⟨al, rh, mu, g, s, rs, h⟩ => ?_)
    · exact hG T.hid al mu H .self (g.h _) s (forL_keeps h.nbad)
    · have hk := forL_keeps h.nbad
      obtain ⟨x', hx, g2, s2, r2⟩ := hY T.hid al mu H .self (g.h _) s hk i x H' hi y
      rw [List.drop_eq_getElem_cons hi] at h
      rw [List.getElem?_eq_getElem hi] at hx
      cases hx
      refine ⟨al, rh, mu, it.ds[i], s2, rs.mono g2, r2, ?_⟩
      rw [forL, if_pos hk] at h
      cases q : t it.ds[i] rh mu with
      | val rh1 mu1 =>
        simp only [q] at h
        refine fun σ3 al3 H3 g3 s3 rs3 _ => ⟨al3, rh1, mu1, s3, rs3, ?_⟩
        have h : RVS T W al H D _ := h
        have h := RVS.grow h (g2.trans g3)
        cases q2 : b rh1 mu1 with
        | nx rh2 mu2 =>
          rw [q2] at h
          exact fun σ4 al4 H4 g4 s4 rs4 => ⟨al4, rh2, mu2, ((g.trans g2).trans g3).trans g4, s4, rs4, RVS.grow h g4⟩
        | ct rh2 mu2 =>
          rw [q2] at h
          exact fun σ4 al4 H4 g4 s4 rs4 => ⟨al4, rh2, mu2, ((g.trans g2).trans g3).trans g4, s4, rs4, RVS.grow h g4⟩
        | bk rh2 mu2 =>
          rw [q2] at h
          exact h
        | rt d mu2 =>
          rw [q2] at h
          exact h
        | exc x rh2 mu2 =>
          rw [q2] at h
          exact h
        | bad =>
          rw [q2] at h
          exact h.elim
      | exc x mu1 =>
        rw [q] at h
        exact h.elim
      | bad =>
        rw [q] at h
        exact h.elim
    · have hk := forL_keeps h.nbad
      rw [List.drop_length, forL, if_pos hk] at h
      exact h σ al H (Gw.refl _ _) s rs

/-! ### comprehensions -/
open Classical in
noncomputable def lcL (gi : List (Nat × List D)) (t : SG) (c : SB) (e : SE) : List D → Env → Store → R (List D)
  | [], _, mu => if keeps gi mu then .val [] mu else .bad
  | d :: r, rh, mu => if keeps gi mu then (match t d rh mu with
      | .val rh1 mu1 => (match c rh1 mu1 with
        | .val true mu2 => (match e rh1 mu2 with
          | .val y mu3 => (match lcL gi t c e r rh mu3 with
            | .val ys mu4 => .val (y :: ys) mu4
            | _ => .bad)
          | _ => .bad)
        | .val false mu2 => lcL gi t c e r rh mu2
        | _ => .bad)
      | _ => .bad) else .bad
def wipeE (rh : Env) : List Nat → Env
  | [] => rh
  | v :: vs => (wipeE rh vs).set v none
noncomputable def eLc (m : Bool) (src : SI) (t : SG) (c : SB) (e : SE) (vs : List Nat) : SE := fun rh => bnd (src rh) fun it => bnd (noX fun mu => lcL it.gi t c e it.ds (wipeE rh vs) mu) fun ds => if few ds.length = true then mkL m ds else bad
theorem lcL_keeps {gi : List (Nat × List D)} {t : SG} {c : SB} {e : SE} {ds : List D} {rh : Env} {mu : Store} {ys : List D} {mu' : Store} (h : lcL gi t c e ds rh mu = .val ys mu') : keeps gi mu := by
  refine Classical.byContradiction fun n => ?_
  cases ds with
  | nil => rw [lcL, if_neg n] at h; cases h
  | cons d r => rw [lcL, if_neg n] at h; cases h
theorem RpS.wipe {H : Hp} {al : List Addr} {rh : Env} {si : L2.St} (r : RpS T H al rh si) : ∀ vs : List Nat, RpS T H al (wipeE rh vs) (L2.wipe si vs)
  | [] => r
  | v :: vs => (RpS.wipe r vs).forget
theorem wipe_get (σ : L2.St) : ∀ (vs : List Nat) (j : Nat), (L2.wipe σ vs)[j]? = if j ∈ vs then (σ[j]?).map (fun _ => none) else σ[j]?
  | [], j => by simp [L2.wipe]
  | v :: vs, j => by
    unfold L2.wipe
    by_cases h : v = j
    · subst h
      rw [if_pos (by simp)]
      by_cases hl : v < σ.length
      · rw [List.getElem?_set_self (by rw [wipe_length]; exact hl), List.getElem?_eq_getElem hl]
        rfl
      · rw [List.getElem?_eq_none (by rw [List.length_set, wipe_length]; omega), List.getElem?_eq_none (by omega)]
        rfl
    · rw [List.getElem?_set_ne h, wipe_get σ vs j]
      by_cases hm : j ∈ vs
      · rw [if_pos hm, if_pos (List.mem_cons_of_mem _ hm)]
      · rw [if_neg hm, if_neg (by simp [hm, Ne.symm h])]
theorem wipe_chg {is vs : List Nat} {σ σ2 : L2.St} (hs : ∀ i ∈ is, i ∈ vs) (h : Chg is (L2.wipe σ vs) σ2) : L2.wipe σ2 vs = L2.wipe σ vs := by
  refine List.ext_getElem? fun j => ?_
  have hl : σ2.length = σ.length := by rw [h.1, wipe_length]
  rw [wipe_get, wipe_get]
  by_cases hm : j ∈ vs
  · rw [if_pos hm, if_pos hm]
    by_cases hj : j < σ.length
    · rw [List.getElem?_eq_getElem hj, List.getElem?_eq_getElem (hl ▸ hj)]
      rfl
    · rw [List.getElem?_eq_none (by omega), List.getElem?_eq_none (by omega)]
  · rw [if_neg hm, if_neg hm, h.2 j (fun z => hm (hs j z)), wipe_get, if_neg hm]
/-- any hidden -/
def tDh (T : Tbl) (W : WX) (g : SE) : TE := fun si H Q => ∃ hid, tD (T.hd hid) W g si H Q
def tDBh (T : Tbl) (W : WX) (g : SB) : TT := fun si H Q => ∃ hid, tDB (T.hd hid) W g si H Q
def tGh (T : Tbl) (is : List Nat) (g : SG) : TG := fun v si H Q => ∃ hid, tG (T.hd hid) is g v si H Q
def tIh (T : Tbl) (W : WX) (g : SI) : TI := fun si H Q => ∃ hid, tI (T.hd hid) W g si H Q
theorem pe_h {X : Cx} {e : Expr} {g : SE} (h : ∀ hid, PE X e (tD (T.hd hid) W g)) : PE X e (tDh T W g) := ⟨fun pins s si H Q I ⟨hid, q⟩ => (h hid).run pins s si H Q I q⟩
theorem pg_h {X : Cx} {e : Expr} {is : List Nat} {g : SG} (h : ∀ hid, PG X e (tG (T.hd hid) is g)) : PG X e (tGh T is g) := ⟨fun pins s si H v u Q I r ⟨hid, q⟩ => (h hid).run pins s si H v u Q I r q⟩
theorem pts_h {X : Cx} {e : List Expr} {g : SB} (h : ∀ hid, PTs X e (tDB (T.hd hid) W g)) : PTs X e (tDBh T W g) := ⟨fun pins s si H Q I ⟨hid, q⟩ => (h hid).run pins s si H Q I q⟩
theorem pi_h {X : Cx} {tg e : Expr} {g : SI} (h : ∀ hid, PI X tg e (tI (T.hd hid) W g)) : PI X tg e (tIh T W g) := ⟨fun pins s si H Q I ⟨hid, q⟩ => (h hid).run pins s si H Q I q⟩
def cYes : SB := fun _ => ret true
theorem PTs.imp {X : Cx} {e : List Expr} {t t' : TT} (h : PTs X e t) (i : ∀ si H Q, t' si H Q → t si H Q) : PTs X e t' := ⟨fun pins s si H Q I q => h.run pins s si H Q I (i si H Q q)⟩
theorem sts_nil : PTs X [] (tDB T W cYes) := PTs.imp pts_nil fun si H Q ⟨al, rh, mu, s, rs, h⟩ => h true al H (Gw.refl _ _) s rfl
theorem sts_one {c : Expr} {g : SB} (h : PT X c (tDB T W g)) : PTs X [c] (tDB T W g) := pts_one h
/-- a new list is made and hidden -/
theorem Ste.openh {al : List Addr} {mu : Store} {H : Hp} {L : Addr} {o : HO} (s : Ste T al mu H) (hL : H L = none) : Ste (T.hd (L :: T.hid)) al mu (upd H L o) := by
  have hh : ∀ h ∈ L :: T.hid, h ∈ T.hid ∨ H h = none := fun h m => by
    rcases List.mem_cons.mp m with e | m
    · exact .inr (by rw [e]; exact hL)
    · exact .inl m
  have g := gw_new (al := al) (o := o) hL
  refine ⟨s.len, s.nd, fun n u a h1 h2 => ROb.mono g (fun z hz => by rw [upd_ne (ne_of_none hz hL)]; exact hz) ((s.at_ n u a h1 h2).rehide hh), fun h m => ?_⟩
  rcases List.mem_cons.mp m with e | m
  · rw [e, upd_same]
    exact ⟨by simp, s.notin hL⟩
  · exact ⟨g.dom h (s.hd h m).1, (s.hd h m).2⟩
section
variable {H : Hp} {al : List Addr} {mu : Store} {L : Addr} {hid : List Addr}
mutual
/-- the hidden list becomes an object of the store -/
theorem Rp.adopt (hm : L ∈ T.hid) (hh : ∀ h ∈ hid, h ∈ T.hid) : ∀ {d : D} {v : V}, Rp T H al d v → Rp (T.hd hid) H (al ++ [L]) d v
  | _, _, .non => .non
  | _, _, .bl b => .bl b
  | _, _, .int i => .int i
  | _, _, .str s => .str s
  | _, _, .tup h r => .tup h (RpL.adopt hm hh r)
  | _, _, .scr h r => .scr h (RpL.adopt hm hh r)
  | _, _, .ty n => .ty n
  | _, _, .cls h => .cls h
  | _, _, .lst (a := a) h n hd r => .lst h (by
      rw [List.mem_append, List.mem_singleton]
      rintro (z | z)
      · exact n z
      · exact hd (by rw [z]; exact hm)) (fun m => hd (hh _ m)) (RpL.adopt hm hh r)
  | _, _, .ins (a := a) hc h n hd e r => .ins hc h (by
      rw [List.mem_append, List.mem_singleton]
      rintro (z | z)
      · exact n z
      · exact hd (by rw [z]; exact hm)) (fun m => hd (hh _ m)) e (RpL.adopt hm hh r)
  | _, _, .ref h => .ref (by
      rw [List.getElem?_append_left (List.getElem?_eq_some_iff.mp h).1]
      exact h)
theorem RpL.adopt (hm : L ∈ T.hid) (hh : ∀ h ∈ hid, h ∈ T.hid) : ∀ {ds : List D} {vs : List V}, RpL T H al ds vs → RpL (T.hd hid) H (al ++ [L]) ds vs
  | _, _, .nil => .nil
  | _, _, .cons h r => .cons (Rp.adopt hm hh h) (RpL.adopt hm hh r)
end
theorem Ste.adopt {acc : List D} {xs : List V} (s : Ste T al mu H) (hm : L ∈ T.hid) (hh : ∀ h ∈ hid, h ∈ T.hid ∧ h ≠ L) (hL : H L = some (.lst xs)) (r : RpL T H al acc xs) : Ste (T.hd hid) (al ++ [L]) (mu ++ [.lst acc]) H := by
  have hh' : ∀ h ∈ hid, h ∈ T.hid := fun h m => (hh h m).1
  have nL := (s.hd L hm).2
  refine ⟨by simp [s.len], ?_, fun n u a h1 h2 => ?_, fun h m => ⟨(s.hd h (hh' h m)).1, fun z => ?_⟩⟩
  · rw [List.nodup_append]
    refine ⟨s.nd, by simp, fun a ha b hb => ?_⟩
    rw [List.mem_singleton] at hb
    subst hb
    intro e
    subst e
    exact nL ha
  · by_cases hn : n < mu.length
    · rw [List.getElem?_append_left hn] at h1
      rw [List.getElem?_append_left (by rw [s.len]; exact hn)] at h2
      have q := s.at_ n u a h1 h2
      cases u with
      | lst ds =>
        obtain ⟨ys, e, r⟩ := q
        exact ⟨ys, e, r.adopt hm hh'⟩
      | ins c ns ds =>
        obtain ⟨C, dx, gs, k1, k2, k3, k4⟩ := q
        exact ⟨C, dx, gs, k1, k2, k3, k4.adopt hm hh'⟩
    · rw [List.getElem?_append_right (by omega)] at h1
      rw [List.getElem?_append_right (by rw [s.len]; omega)] at h2
      rw [s.len] at h2
      cases hk : n - mu.length with
      | zero =>
        rw [hk] at h1 h2
        simp at h1 h2
        subst h1 h2
        exact ⟨xs, hL, r.adopt hm hh'⟩
      | succ k =>
        rw [hk] at h1
        simp at h1
  · rcases List.mem_append.mp z with q | q
    · exact (s.hd h (hh' h m)).2 q
    · rw [List.mem_singleton] at q
      exact (hh h m).2 q
end
/-- the made list, done -/
theorem mkL_done {m : Bool} {si : L2.St} {al1 al : List Addr} {H1 H : Hp} {mu : Store} {L : Addr} {acc : List D} {xs : List V} {Q : VK} (hL1 : H1 L = none) (hn : L ∉ T.hid) (g : Gw al1 H1 al H) (s : Ste (T.hd (L :: T.hid)) al mu H) (hL : H L = some (.lst xs)) (r : RpL (T.hd (L :: T.hid)) H al acc xs)
    (h : RV T W si al1 H1 (fun H al d v => Rp T H al d v) Q (mkL m acc mu)) : Q (.ref L) H := by
  have nL := (s.hd L (by show L ∈ L :: T.hid; simp)).2
  unfold mkL at h
  cases m with
  | false =>
    rw [if_neg Bool.false_ne_true] at h
    exact h _ al H g (Ste.less (T := T.hd (L :: T.hid)) (hid := T.hid) s fun h m => List.mem_cons_of_mem _ m) (.lst hL nL hn (RpL.rehide (T := T.hd (L :: T.hid)) (hid := T.hid) (fun h m => .inl (List.mem_cons_of_mem _ m)) r))
  | true =>
    rw [if_pos rfl] at h
    refine h _ (al ++ [L]) H ⟨?_, g.keep, g.tups, g.frzs, g.dom⟩ (Ste.adopt (T := T.hd (L :: T.hid)) (hid := T.hid) s (by show L ∈ L :: T.hid; simp) (fun h m => ⟨List.mem_cons_of_mem _ m, fun e => hn (e ▸ m)⟩) hL r) (.ref ?_)
    · obtain ⟨be, rfl, hb⟩ := g.pre
      refine ⟨be ++ [L], by rw [List.append_assoc], fun b hm => ?_⟩
      rcases List.mem_append.mp hm with z | z
      · exact hb b z
      · rw [List.mem_singleton] at z
        rw [z]; exact hL1
    · rw [List.getElem?_append_right (by rw [s.len]; omega), s.len]
      simp
abbrev Wno : WX := fun _ _ _ _ => False
/-- the reading of a comprehension with one for -/
theorem lc_of {m : Bool} {src : SI} {t : SG} {c : SB} {g : SE} {is vs : List Nat} (hv : ∀ i ∈ is, i ∈ vs) {si : L2.St} {H : Hp} {Q : VK} (h : tD T W (eLc m src t c g vs) si H Q) : tLc (tI T W src) (tGh T is t) (tDBh T Wno c) (tDh T Wno g) vs si H Q := by
  obtain ⟨al, rh, mu, s, rs, h⟩ := h
  refine ⟨al, rh, mu, s, rs, (RV.bind (P := fun H al d J => WkD T H al d J) h).imp fun J H1 ⟨al1, it, mu1, g1, s1, wk, h1⟩ => fun L hL => ?_⟩
  obtain ⟨G, Y, w, hG, hY⟩ := wk.ex
  have hok : HdOk T H1 (L :: T.hid) := ⟨fun h m => List.mem_cons_of_mem _ m, fun h m => by
    rcases List.mem_cons.mp m with e | m
    · exact .inr (by rw [e]; exact hL)
    · exact .inl m⟩
  have hnL : L ∉ T.hid := s1.nohid hL
  have hmem : L ∈ (T.hd (L :: T.hid)).hid := by show L ∈ L :: T.hid; simp
  refine lc_it w (fun i H => ∃ al mu acc xs ys mu', Gw al1 H1 al H ∧ Ste (T.hd (L :: T.hid)) al mu H ∧ RpS (T.hd (L :: T.hid)) H al (wipeE rh vs) (L2.wipe si vs) ∧ H L = some (.lst xs) ∧ RpL (T.hd (L :: T.hid)) H al acc xs ∧
    lcL it.gi t c g (it.ds.drop i) (wipeE rh vs) mu = .val ys mu' ∧ few (acc ++ ys).length = true ∧ RV T W si al1 H1 (fun H al d v => Rp T H al d v) Q (mkL m (acc ++ ys) mu')) ?_ ?_ ?_ ?_
  · unfold bnd noX at h1
    cases q : lcL it.gi t c g it.ds (wipeE rh vs) mu1 with
    | val ys mu' =>
      simp only [q] at h1
      by_cases hf : few ys.length = true
      · rw [if_pos hf] at h1
        have g0 := gw_new (al := al1) (o := HO.lst []) hL
        exact ⟨al1, mu1, [], [], ys, mu', g0, s1.openh hL, ((((rs.mono g1).rehide (hid := L :: T.hid) hok.2).mono g0).wipe vs), upd_same, .nil, q, hf, h1⟩
      · rw [if_neg hf] at h1
        exact h1.elim
    | exc x mu' =>
      simp only [q] at h1
      exact h1.elim
    | bad =>
      simp only [q] at h1
      exact h1.elim
  · rintro i H2 hi ⟨al2, mu2, acc, xs, ys, mu', g2, s2, rs2, hL2, ra, hl, hf, hd⟩
    exact hG _ al2 mu2 H2 hok (g2.h _) s2 (lcL_keeps hl)
  · rintro i x H2 H3 hi ⟨al2, mu2, acc, xs, ys, mu', g2, s2, rs2, hL2, ra, hl, hf, hd⟩ y
    have hk := lcL_keeps hl
    have nL := (s2.hd L hmem).2
    obtain ⟨x', hx, g3, s3, r3⟩ := hY _ al2 mu2 H2 hok (g2.h _) s2 hk i x H3 hi y
    have hL3 := g3.keep L _ nL hL2
    rw [List.drop_eq_getElem_cons hi, lcL, if_pos hk] at hl
    rw [List.getElem?_eq_getElem hi] at hx
    cases hx
    refine ⟨L :: T.hid, al2, wipeE rh vs, mu2, it.ds[i], s3, rs2.mono g3, r3, ?_⟩
    cases q : t it.ds[i] (wipeE rh vs) mu2 with
    | val rh1 mu3 =>
      simp only [q] at hl
      refine fun σ4 al4 H4 g4 s4 rs4 ch => ⟨wipe_chg hv ch, L :: T.hid, al4, rh1, mu3, s4, rs4, ?_⟩
      cases q2 : c rh1 mu3 with
      | val k mu4 =>
        simp only [q2] at hl
        refine fun k' al5 H5 g5 s5 hk' => ?_
        subst hk'
        cases k with
        | false =>
          rw [if_neg Bool.false_ne_true]
          have ga := (g3.trans g4).trans g5
          exact ⟨al5, mu4, acc, xs, ys, mu', g2.trans ga, s5, rs2.mono ga, ga.keep L _ nL hL2, ra.mono ga, hl, hf, hd⟩
        | true =>
          rw [if_pos rfl]
          refine ⟨L :: T.hid, al5, rh1, mu4, s5, rs4.mono g5, ?_⟩
          cases q3 : g rh1 mu4 with
          | val z mu5 =>
            simp only [q3] at hl
            refine fun z' al6 H6 g6 s6 r6 => ?_
            have ga := ((g3.trans g4).trans g5).trans g6
            have hL6 := ga.keep L _ nL hL2
            have n6 := (s6.hd L hmem).2
            cases q4 : lcL it.gi t c g (it.ds.drop (i + 1)) (wipeE rh vs) mu5 with
            | val zs mu6 =>
              simp only [q4] at hl
              cases hl
              have e : acc ++ [z] ++ zs = acc ++ z :: zs := by rw [List.append_assoc]; rfl
              have hlt : acc.length + (zs.length + 1) ≤ 1000000 := by
                have := of_decide_eq_true hf
                rw [List.length_append, List.length_cons] at this
                exact this
              refine ⟨xs, hL6, few_lt (n := xs.length) ?_, al6, mu5, acc ++ [z], xs ++ [z'], zs, mu', (g2.trans ga).updh hL, s6.updh hmem hL6, ?_, upd_same, ?_, q4, by rw [e]; exact hf, by rw [e]; exact hd⟩
              · rw [← ra.length]
                exact decide_eq_true (by omega)
              · refine ⟨(rs2.mono ga).1, fun j d ej => ?_⟩
                obtain ⟨v, k1, k2⟩ := (rs2.mono ga).2 j d ej
                exact ⟨v, k1, k2.updh hmem n6 hL6⟩
              · exact ((ra.mono ga).updh hmem n6 hL6).append (.cons (r6.updh hmem n6 hL6) .nil)
            | exc x mu6 => rw [q4] at hl; cases hl
            | bad => rw [q4] at hl; cases hl
          | exc x mu5 => simp only [q3] at hl; cases hl
          | bad => simp only [q3] at hl; cases hl
      | exc x mu4 => simp only [q2] at hl; cases hl
      | bad => simp only [q2] at hl; cases hl
    | exc x mu3 => rw [q] at hl; cases hl
    | bad => rw [q] at hl; cases hl
  · rintro H2 ⟨al2, mu2, acc, xs, ys, mu', g2, s2, rs2, hL2, ra, hl, hf, hd⟩
    have hk := lcL_keeps hl
    rw [List.drop_length, lcL, if_pos hk] at hl
    cases hl
    rw [List.append_nil] at hd
    exact mkL_done hL hnL g2 s2 hL2 ra hd

theorem se_lc {m : Bool} {elt : Expr} {ifs : List Expr} {scope : Scope} {own : List (Str × Nat)} {src : SI} {t : SG} {c : SB} {g : SE} {is : List Nat} (hc : X.calm = true) (hN : X.N.Nodup) (hi : PI X tg iter (tI T W src)) (ok : BlkOk X.N X.env.scope scope own) (hv : ∀ i ∈ is, i ∈ own.map (·.2))
    (hg : ∀ (hid : List Addr) (s : Shared) (H : Hp) (C : Addr) (cl : List (Str × Addr)) (fp : List Addr), PG (X.blk s H scope (compEnvC scope cl C X.env) fp) tg (tG (T.hd hid) is t)) (ht : ∀ (hid : List Addr) (s : Shared) (H : Hp) (C : Addr) (cl : List (Str × Addr)) (fp : List Addr), PTs (X.blk s H scope (compEnvC scope cl C X.env) fp) ifs (tDB (T.hd hid) Wno c))
    (he : ∀ (hid : List Addr) (s : Shared) (H : Hp) (C : Addr) (cl : List (Str × Addr)) (fp : List Addr), PE (X.blk s H scope (compEnvC scope cl C X.env) fp) elt (tD (T.hd hid) Wno g)) (hs : ∀ x, foldedSetIterable iter X.env x = pure x) :
    PE X (.ListComp elt [⟨tg, iter, ifs, 0⟩] scope pos) (tD T W (eLc m src t c g (own.map (·.2)))) :=
  PE.imp (pe_lc hc hN hi ok (fun s H C cl fp => pg_h fun hid => hg hid s H C cl fp) (fun s H C cl fp => pts_h fun hid => ht hid s H C cl fp) (fun s H C cl fp => pe_h fun hid => he hid s H C cl fp) hs) fun si H Q h => lc_of hv h
theorem ss_setLc {m : Bool} {i : Nat} {y : Str} {py : Pos} {elt : Expr} {ifs : List Expr} {scope : Scope} {own : List (Str × Nat)} {spos : Pos} {src : SI} {t : SG} {c : SB} {g : SE} {is : List Nat} (hc : X.calm = true) (hN : X.N.Nodup) (hy : X.N[i]? = some y) (hyl : X.env.scope.names.lookup y = some .local)
    (hsw : swapsWith (.ListComp elt [⟨tg, iter, ifs, 0⟩] scope pos) (some (.Name y py)) spos.line X.env = pure true) (hi : PI X tg iter (tI T W src)) (ok : BlkOk X.N X.env.scope scope own) (hv : ∀ i ∈ is, i ∈ own.map (·.2))
    (hg : ∀ (hid : List Addr) (s : Shared) (H : Hp) (C : Addr) (cl : List (Str × Addr)) (fp : List Addr), PG (X.blk s H scope (compEnvC scope cl C X.env) fp) tg (tG (T.hd hid) is t)) (ht : ∀ (hid : List Addr) (s : Shared) (H : Hp) (C : Addr) (cl : List (Str × Addr)) (fp : List Addr), PTs (X.blk s H scope (compEnvC scope cl C X.env) fp) ifs (tDB (T.hd hid) Wno c))
    (he : ∀ (hid : List Addr) (s : Shared) (H : Hp) (C : Addr) (cl : List (Str × Addr)) (fp : List Addr), PE (X.blk s H scope (compEnvC scope cl C X.env) fp) elt (tD (T.hd hid) Wno g)) (hs : ∀ x, foldedSetIterable iter X.env x = pure x) :
    PS X (.Assign [.Name y py] (.ListComp elt [⟨tg, iter, ifs, 0⟩] scope pos) spos) (tS T W (sAsg (eLc m src t c g (own.map (·.2))) (gVar i))) :=
  PS.imp (ps_setLc hc hN hy hyl hsw hi ok (fun s H C cl fp => pg_h fun hid => hg hid s H C cl fp) (fun s H C cl fp => pts_h fun hid => ht hid s H C cl fp) (fun s H C cl fp => pe_h fun hid => he hid s H C cl fp) hs) fun D si H h =>
    asg_of (t := L2.gName i) (is := [i]) (fun v si H Q ⟨al, rh, mu, d, s, rs, r, h⟩ => h _ al H (Gw.refl _ _) s (rs.set r) (chg_set i)) (fun si H Q h => lc_of hv h) h

/-! two fors -/
open Classical in
noncomputable def lc2L (gi : List (Nat × List D)) (t : SG) (c : SB) (src1 : SI) (t1 : SG) (c1 : SB) (e : SE) (vs1 : List Nat) : List D → Env → Store → R (List D)
  | [], _, mu => if keeps gi mu then .val [] mu else .bad
  | d :: r, rh, mu => if keeps gi mu then (match t d rh mu with
      | .val rh1 mu1 => (match c rh1 mu1 with
        | .val true mu2 => (match src1 rh1 mu2 with
          | .val it mu3 => (match lcL it.gi t1 c1 e it.ds (wipeE rh1 vs1) mu3 with
            | .val ys mu4 => (match lc2L gi t c src1 t1 c1 e vs1 r rh mu4 with
              | .val zs mu5 => .val (ys ++ zs) mu5
              | _ => .bad)
            | _ => .bad)
          | _ => .bad)
        | .val false mu2 => lc2L gi t c src1 t1 c1 e vs1 r rh mu2
        | _ => .bad)
      | _ => .bad) else .bad
noncomputable def eLc2 (m : Bool) (src : SI) (t : SG) (c : SB) (src1 : SI) (t1 : SG) (c1 : SB) (e : SE) (vs vs1 : List Nat) : SE := fun rh => bnd (src rh) fun it => bnd (noX fun mu => lc2L it.gi t c src1 t1 c1 e vs1 it.ds (wipeE rh vs) mu) fun ds => if few ds.length = true then mkL m ds else bad
theorem lc2L_keeps {gi : List (Nat × List D)} {t t1 : SG} {c c1 : SB} {src1 : SI} {e : SE} {vs1 : List Nat} {ds : List D} {rh : Env} {mu : Store} {ys : List D} {mu' : Store} (h : lc2L gi t c src1 t1 c1 e vs1 ds rh mu = .val ys mu') : keeps gi mu := by
  refine Classical.byContradiction fun n => ?_
  cases ds with
  | nil => rw [lc2L, if_neg n] at h; cases h
  | cons d r => rw [lc2L, if_neg n] at h; cases h
theorem RpS.updh {H : Hp} {al : List Addr} {rh : Env} {si : L2.St} {L : Addr} {l l' : List V} (hm : L ∈ T.hid) (hn : L ∉ al) (hL : H L = some (.lst l)) (r : RpS T H al rh si) : RpS T (upd H L (.lst l')) al rh si :=
  ⟨r.1, fun j d ej => by
    obtain ⟨v, k1, k2⟩ := r.2 j d ej
    exact ⟨v, k1, k2.updh hm hn hL⟩⟩
theorem lc2_of {m : Bool} {src src1 : SI} {t t1 : SG} {c c1 : SB} {g : SE} {is is1 vs vs1 : List Nat} (hv : ∀ i ∈ is, i ∈ vs) (hv1 : ∀ i ∈ is1, i ∈ vs1) {si : L2.St} {H : Hp} {Q : VK} (h : tD T W (eLc2 m src t c src1 t1 c1 g vs vs1) si H Q) :
    tLc2 (tI T W src) (tGh T is t) (tDBh T Wno c) (tIh T Wno src1) (tGh T is1 t1) (tDBh T Wno c1) (tDh T Wno g) vs vs1 si H Q := by
  obtain ⟨al, rh, mu, s, rs, h⟩ := h
  refine ⟨al, rh, mu, s, rs, (RV.bind (P := fun H al d J => WkD T H al d J) h).imp fun J H1 ⟨al1, it, mu1, g1, s1, wk, h1⟩ => fun L hL => ?_⟩
  obtain ⟨G, Y, w, hG, hY⟩ := wk.ex
  have hok : HdOk T H1 (L :: T.hid) := ⟨fun h m => List.mem_cons_of_mem _ m, fun h m => by
    rcases List.mem_cons.mp m with e | m
    · exact .inr (by rw [e]; exact hL)
    · exact .inl m⟩
  have hnL : L ∉ T.hid := s1.nohid hL
  have hmem : L ∈ (T.hd (L :: T.hid)).hid := by show L ∈ L :: T.hid; simp
  have hP : ∃ Pv : Nat → Hp → Prop, Pv = fun i H => ∃ al mu acc xs ys mu', Gw al1 H1 al H ∧ Ste (T.hd (L :: T.hid)) al mu H ∧ RpS (T.hd (L :: T.hid)) H al (wipeE rh vs) (L2.wipe si vs) ∧ H L = some (.lst xs) ∧ RpL (T.hd (L :: T.hid)) H al acc xs ∧
    lc2L it.gi t c src1 t1 c1 g vs1 (it.ds.drop i) (wipeE rh vs) mu = .val ys mu' ∧ few (acc ++ ys).length = true ∧ RV T W si al1 H1 (fun H al d v => Rp T H al d v) Q (mkL m (acc ++ ys) mu') := ⟨_, rfl⟩
  obtain ⟨Pv, hPv⟩ := hP
  refine ⟨fun i m H => m = it.ds.length - i ∧ i ≤ it.ds.length ∧ Pv i H, ⟨it.ds.length, by simp, Nat.zero_le _, ?_⟩, ?_⟩
  · unfold bnd noX at h1
    cases q : lc2L it.gi t c src1 t1 c1 g vs1 it.ds (wipeE rh vs) mu1 with
    | val ys mu' =>
      simp only [q] at h1
      by_cases hf : few ys.length = true
      · rw [if_pos hf] at h1
        have g0 := gw_new (al := al1) (o := HO.lst []) hL
        rw [hPv]
        exact ⟨al1, mu1, [], [], ys, mu', g0, s1.openh hL, ((((rs.mono g1).rehide (hid := L :: T.hid) hok.2).mono g0).wipe vs), upd_same, .nil, q, hf, h1⟩
      · rw [if_neg hf] at h1
        exact h1.elim
    | exc x mu' =>
      simp only [q] at h1
      exact h1.elim
    | bad =>
      simp only [q] at h1
      exact h1.elim
  · rintro i _ H2 ⟨rfl, hi', hp⟩
    rw [hPv] at hp
    obtain ⟨al2, mu2, acc, xs, ys, mu', g2, s2, rs2, hL2, ra, hl, hf, hd⟩ := hp
    have hk := lc2L_keeps hl
    have hGG := hG _ al2 mu2 H2 hok (g2.h _) s2 hk
    by_cases hi : i < it.ds.length
    · refine .inr ⟨w.goes i H2 hi hGG, Pv (i + 1), fun H' p' => ⟨_, by omega, rfl, hi, p'⟩, fun x H3 y => ?_⟩
      have y := w.yields i H2 x H3 hi hGG y
      have nL := (s2.hd L hmem).2
      obtain ⟨x', hx, g3, s3, r3⟩ := hY _ al2 mu2 H2 hok (g2.h _) s2 hk i x H3 hi y
      have hL3 := g3.keep L _ nL hL2
      rw [List.drop_eq_getElem_cons hi, lc2L, if_pos hk] at hl
      rw [List.getElem?_eq_getElem hi] at hx
      cases hx
      refine ⟨L :: T.hid, al2, wipeE rh vs, mu2, it.ds[i], s3, rs2.mono g3, r3, ?_⟩
      cases q : t it.ds[i] (wipeE rh vs) mu2 with
      | val rh1 mu3 =>
        simp only [q] at hl
        refine fun σ4 al4 H4 g4 s4 rs4 ch => ⟨wipe_chg hv ch, L :: T.hid, al4, rh1, mu3, s4, rs4, ?_⟩
        cases q2 : c rh1 mu3 with
        | val k mu4 =>
          simp only [q2] at hl
          refine fun k' al5 H5 g5 s5 hk' => ?_
          subst hk'
          have ga := (g3.trans g4).trans g5
          cases k with
          | false =>
            rw [if_neg Bool.false_ne_true, hPv]
            exact ⟨al5, mu4, acc, xs, ys, mu', g2.trans ga, s5, rs2.mono ga, ga.keep L _ nL hL2, ra.mono ga, hl, hf, hd⟩
          | true =>
            rw [if_pos rfl]
            refine ⟨L :: T.hid, al5, rh1, mu4, s5, rs4.mono g5, ?_⟩
            cases q3 : src1 rh1 mu4 with
            | val it1 mu5 =>
              simp only [q3] at hl
              refine fun J1 al6 H6 g6 s6 wk1 => ?_
              obtain ⟨G1, Y1, w1, hG1, hY1⟩ := wk1.ex
              have hok1 : HdOk (T.hd (L :: T.hid)) H6 (L :: T.hid) := ⟨fun h m => m, fun h m => .inl m⟩
              have gb := ga.trans g6
              have hL6 := gb.keep L _ nL hL2
              cases q4 : lcL it1.gi t1 c1 g it1.ds (wipeE rh1 vs1) mu5 with
              | val y1 mu6 =>
                simp only [q4] at hl
                cases q5 : lc2L it.gi t c src1 t1 c1 g vs1 (it.ds.drop (i + 1)) (wipeE rh vs) mu6 with
                | val zs mu7 =>
                  simp only [q5] at hl
                  cases hl
                  have hP1 : ∃ P1 : Nat → Hp → Prop, P1 = fun j H => ∃ al mu acc1 xs1 ys1, Gw al1 H1 al H ∧ Gh (L :: T.hid) al6 H6 al H ∧ Ste (T.hd (L :: T.hid)) al mu H ∧ RpS (T.hd (L :: T.hid)) H al (wipeE rh vs) (L2.wipe si vs) ∧ RpS (T.hd (L :: T.hid)) H al (wipeE rh1 vs1) (L2.wipe σ4 vs1) ∧ H L = some (.lst xs1) ∧ RpL (T.hd (L :: T.hid)) H al acc1 xs1 ∧
                    lcL it1.gi t1 c1 g (it1.ds.drop j) (wipeE rh1 vs1) mu = .val ys1 mu6 ∧ acc1 ++ ys1 = acc ++ y1 := ⟨_, rfl⟩
                  obtain ⟨P1, hP1⟩ := hP1
                  refine ⟨fun j k H => k = it1.ds.length - j ∧ j ≤ it1.ds.length ∧ P1 j H, ⟨it1.ds.length, by simp, Nat.zero_le _, ?_⟩, ?_⟩
                  · rw [hP1]
                    exact ⟨al6, mu5, acc, xs, y1, g2.trans gb, (Gw.refl _ _).h _, s6, rs2.mono gb, ((rs4.mono g5).mono g6).wipe vs1, hL6, ra.mono gb, q4, rfl⟩
                  · rintro j _ H7 ⟨rfl, hj', hp1⟩
                    rw [hP1] at hp1
                    obtain ⟨al7, mu8, acc1, xs1, ys1, g7, gh7, s7, rs7, rs7', hL7, ra7, hl1, ha1⟩ := hp1
                    have hk1 := lcL_keeps hl1
                    have hGG1 := hG1 _ al7 mu8 H7 hok1 gh7 s7 hk1
                    have nL7 := (s7.hd L hmem).2
                    by_cases hj : j < it1.ds.length
                    · refine .inr ⟨w1.goes j H7 hj hGG1, P1 (j + 1), fun H' p' => ⟨_, by omega, rfl, hj, p'⟩, fun x1 H8 y8 => ?_⟩
                      have y8 := w1.yields j H7 x1 H8 hj hGG1 y8
                      obtain ⟨x', hx, g8, s8, r8⟩ := hY1 _ al7 mu8 H7 hok1 gh7 s7 hk1 j x1 H8 hj y8
                      rw [List.drop_eq_getElem_cons hj, lcL, if_pos hk1] at hl1
                      rw [List.getElem?_eq_getElem hj] at hx
                      cases hx
                      refine ⟨L :: T.hid, al7, wipeE rh1 vs1, mu8, it1.ds[j], s8, rs7'.mono g8, r8, ?_⟩
                      cases p1 : t1 it1.ds[j] (wipeE rh1 vs1) mu8 with
                      | val rh9 mu9 =>
                        simp only [p1] at hl1
                        refine fun σ9 al9 H9 g9 s9 rs9 ch9 => ⟨wipe_chg hv1 ch9, L :: T.hid, al9, rh9, mu9, s9, rs9, ?_⟩
                        cases p2 : c1 rh9 mu9 with
                        | val k9 mu10 =>
                          simp only [p2] at hl1
                          refine fun k' al10 H10 g10 s10 hk' => ?_
                          subst hk'
                          cases k9 with
                          | false =>
                            rw [if_neg Bool.false_ne_true, hP1]
                            have ga := (g8.trans g9).trans g10
                            exact ⟨al10, mu10, acc1, xs1, ys1, g7.trans ga, gh7.trans (ga.h _), s10, rs7.mono ga, rs7'.mono ga, ga.keep L _ nL7 hL7, ra7.mono ga, hl1, ha1⟩
                          | true =>
                            rw [if_pos rfl]
                            refine ⟨L :: T.hid, al10, rh9, mu10, s10, rs9.mono g10, ?_⟩
                            cases p3 : g rh9 mu10 with
                            | val z mu11 =>
                              simp only [p3] at hl1
                              refine fun z' al11 H11 g11 s11 r11 => ?_
                              have ga := ((g8.trans g9).trans g10).trans g11
                              have hL11 := ga.keep L _ nL7 hL7
                              have n11 := (s11.hd L hmem).2
                              cases p4 : lcL it1.gi t1 c1 g (it1.ds.drop (j + 1)) (wipeE rh1 vs1) mu11 with
                              | val zs1 mu12 =>
                                simp only [p4] at hl1
                                cases hl1
                                have hlt : xs1.length + 1 ≤ 1000000 := by
                                  have h1 := of_decide_eq_true hf
                                  rw [← List.append_assoc, ← ha1, List.length_append, List.length_append, List.length_cons] at h1
                                  have h2 := ra7.length
                                  omega
                                refine ⟨xs1, hL11, few_lt (n := xs1.length) (decide_eq_true (by omega)), ?_⟩
                                rw [hP1]
                                exact ⟨al11, mu11, acc1 ++ [z], xs1 ++ [z'], zs1, (g7.trans ga).updh hL, (gh7.trans (ga.h _)).updh (by simp) hL11, s11.updh hmem hL11, (rs7.mono ga).updh hmem n11 hL11, (rs7'.mono ga).updh hmem n11 hL11, upd_same,
                                  ((ra7.mono ga).updh hmem n11 hL11).append (.cons (r11.updh hmem n11 hL11) .nil), p4, by rw [← ha1, List.append_assoc]; rfl⟩
                              | exc x mu12 => simp only [p4] at hl1; cases hl1
                              | bad => simp only [p4] at hl1; cases hl1
                            | exc x mu11 => simp only [p3] at hl1; cases hl1
                            | bad => simp only [p3] at hl1; cases hl1
                        | exc x mu10 => simp only [p2] at hl1; cases hl1
                        | bad => simp only [p2] at hl1; cases hl1
                      | exc x mu9 => simp only [p1] at hl1; cases hl1
                      | bad => simp only [p1] at hl1; cases hl1
                    · have ej : j = it1.ds.length := by omega
                      subst ej
                      refine .inl ⟨w1.stops H7 hGG1, ?_⟩
                      rw [List.drop_length, lcL, if_pos hk1] at hl1
                      cases hl1
                      rw [List.append_nil] at ha1
                      subst ha1
                      rw [hPv]
                      exact ⟨al7, mu6, acc ++ y1, xs1, zs, mu', g7, s7, rs7, hL7, ra7, q5, by rw [List.append_assoc]; exact hf, by rw [List.append_assoc]; exact hd⟩
                | exc x mu7 => simp only [q5] at hl; cases hl
                | bad => simp only [q5] at hl; cases hl
              | exc x mu6 => simp only [q4] at hl; cases hl
              | bad => simp only [q4] at hl; cases hl
            | exc x mu5 => simp only [q3] at hl; cases hl
            | bad => simp only [q3] at hl; cases hl
        | exc x mu4 => simp only [q2] at hl; cases hl
        | bad => simp only [q2] at hl; cases hl
      | exc x mu3 => simp only [q] at hl; cases hl
      | bad => simp only [q] at hl; cases hl
    · have e : i = it.ds.length := by omega
      subst e
      refine .inl ⟨w.stops H2 hGG, ?_⟩
      rw [List.drop_length, lc2L, if_pos hk] at hl
      cases hl
      rw [List.append_nil] at hd
      exact mkL_done hL hnL g2 s2 hL2 ra hd
theorem se_lc2 {m : Bool} {elt tg1 iter1 : Expr} {ifs ifs1 : List Expr} {scope : Scope} {own : List (Str × Nat)} {vs1 : List Nat} {src src1 : SI} {t t1 : SG} {c c1 : SB} {g : SE} {is is1 : List Nat} (hc : X.calm = true) (hN : X.N.Nodup) (hi : PI X tg iter (tI T W src)) (ok : BlkOk X.N X.env.scope scope own) (hv : ∀ i ∈ is, i ∈ own.map (·.2)) (hvv : ∀ i ∈ vs1, i ∈ own.map (·.2)) (hv1 : ∀ i ∈ is1, i ∈ vs1)
    (hg : ∀ (hid : List Addr) (s : Shared) (H : Hp) (C : Addr) (cl : List (Str × Addr)) (fp : List Addr), PG (X.blk s H scope (compEnvC scope cl C X.env) fp) tg (tG (T.hd hid) is t)) (ht : ∀ (hid : List Addr) (s : Shared) (H : Hp) (C : Addr) (cl : List (Str × Addr)) (fp : List Addr), PTs (X.blk s H scope (compEnvC scope cl C X.env) fp) ifs (tDB (T.hd hid) Wno c))
    (hi1 : ∀ (hid : List Addr) (s : Shared) (H : Hp) (C : Addr) (cl : List (Str × Addr)) (fp : List Addr), PI (X.blk s H scope (compEnvC scope cl C X.env) fp) tg1 iter1 (tI (T.hd hid) Wno src1))
    (hg1 : ∀ (hid : List Addr) (s : Shared) (H : Hp) (C : Addr) (cl : List (Str × Addr)) (fp : List Addr), PG (X.blk s H scope (compEnvC scope cl C X.env) fp) tg1 (tG (T.hd hid) is1 t1)) (ht1 : ∀ (hid : List Addr) (s : Shared) (H : Hp) (C : Addr) (cl : List (Str × Addr)) (fp : List Addr), PTs (X.blk s H scope (compEnvC scope cl C X.env) fp) ifs1 (tDB (T.hd hid) Wno c1))
    (he : ∀ (hid : List Addr) (s : Shared) (H : Hp) (C : Addr) (cl : List (Str × Addr)) (fp : List Addr), PE (X.blk s H scope (compEnvC scope cl C X.env) fp) elt (tD (T.hd hid) Wno g)) (hs : ∀ x, foldedSetIterable iter X.env x = pure x) (hs1 : ∀ env x, foldedSetIterable iter1 env x = pure x) :
    PE X (.ListComp elt [⟨tg, iter, ifs, 0⟩, ⟨tg1, iter1, ifs1, 0⟩] scope pos) (tD T W (eLc2 m src t c src1 t1 c1 g (own.map (·.2)) vs1)) :=
  PE.imp (pe_lc2 hc hN hi ok hvv (fun s H C cl fp => pg_h fun hid => hg hid s H C cl fp) (fun s H C cl fp => pts_h fun hid => ht hid s H C cl fp) (fun s H C cl fp => pi_h fun hid => hi1 hid s H C cl fp) (fun s H C cl fp => pg_h fun hid => hg1 hid s H C cl fp) (fun s H C cl fp => pts_h fun hid => ht1 hid s H C cl fp) (fun s H C cl fp => pe_h fun hid => he hid s H C cl fp) hs hs1) fun si H Q h => lc2_of hv hv1 h
theorem ss_setLc2 {m : Bool} {i : Nat} {y : Str} {py : Pos} {spos : Pos} {elt tg1 iter1 : Expr} {ifs ifs1 : List Expr} {scope : Scope} {own : List (Str × Nat)} {vs1 : List Nat} {src src1 : SI} {t t1 : SG} {c c1 : SB} {g : SE} {is is1 : List Nat} (hc : X.calm = true) (hN : X.N.Nodup) (hy : X.N[i]? = some y) (hyl : X.env.scope.names.lookup y = some .local)
    (hsw : swapsWith (.ListComp elt [⟨tg, iter, ifs, 0⟩, ⟨tg1, iter1, ifs1, 0⟩] scope pos) (some (.Name y py)) spos.line X.env = pure true) (hi : PI X tg iter (tI T W src)) (ok : BlkOk X.N X.env.scope scope own) (hv : ∀ i ∈ is, i ∈ own.map (·.2)) (hvv : ∀ i ∈ vs1, i ∈ own.map (·.2)) (hv1 : ∀ i ∈ is1, i ∈ vs1)
    (hg : ∀ (hid : List Addr) (s : Shared) (H : Hp) (C : Addr) (cl : List (Str × Addr)) (fp : List Addr), PG (X.blk s H scope (compEnvC scope cl C X.env) fp) tg (tG (T.hd hid) is t)) (ht : ∀ (hid : List Addr) (s : Shared) (H : Hp) (C : Addr) (cl : List (Str × Addr)) (fp : List Addr), PTs (X.blk s H scope (compEnvC scope cl C X.env) fp) ifs (tDB (T.hd hid) Wno c))
    (hi1 : ∀ (hid : List Addr) (s : Shared) (H : Hp) (C : Addr) (cl : List (Str × Addr)) (fp : List Addr), PI (X.blk s H scope (compEnvC scope cl C X.env) fp) tg1 iter1 (tI (T.hd hid) Wno src1))
    (hg1 : ∀ (hid : List Addr) (s : Shared) (H : Hp) (C : Addr) (cl : List (Str × Addr)) (fp : List Addr), PG (X.blk s H scope (compEnvC scope cl C X.env) fp) tg1 (tG (T.hd hid) is1 t1)) (ht1 : ∀ (hid : List Addr) (s : Shared) (H : Hp) (C : Addr) (cl : List (Str × Addr)) (fp : List Addr), PTs (X.blk s H scope (compEnvC scope cl C X.env) fp) ifs1 (tDB (T.hd hid) Wno c1))
    (he : ∀ (hid : List Addr) (s : Shared) (H : Hp) (C : Addr) (cl : List (Str × Addr)) (fp : List Addr), PE (X.blk s H scope (compEnvC scope cl C X.env) fp) elt (tD (T.hd hid) Wno g)) (hs : ∀ x, foldedSetIterable iter X.env x = pure x) (hs1 : ∀ env x, foldedSetIterable iter1 env x = pure x) :
    PS X (.Assign [.Name y py] (.ListComp elt [⟨tg, iter, ifs, 0⟩, ⟨tg1, iter1, ifs1, 0⟩] scope pos) spos) (tS T W (sAsg (eLc2 m src t c src1 t1 c1 g (own.map (·.2)) vs1) (gVar i))) :=
  PS.imp (ps_setLc2 hc hN hy hyl hsw hi ok hvv (fun s H C cl fp => pg_h fun hid => hg hid s H C cl fp) (fun s H C cl fp => pts_h fun hid => ht hid s H C cl fp) (fun s H C cl fp => pi_h fun hid => hi1 hid s H C cl fp) (fun s H C cl fp => pg_h fun hid => hg1 hid s H C cl fp) (fun s H C cl fp => pts_h fun hid => ht1 hid s H C cl fp) (fun s H C cl fp => pe_h fun hid => he hid s H C cl fp) hs hs1) fun D si H h =>
    asg_of (t := L2.gName i) (is := [i]) (fun v si H Q ⟨al, rh, mu, d, s, rs, r, h⟩ => h _ al H (Gw.refl _ _) s (rs.set r) (chg_set i)) (fun si H Q h => lc2_of hv hv1 h) h
end
end DL

set_option Elab.async false
set_option linter.all false
set_option maxRecDepth 100000
set_option maxHeartbeats 4000000
/-! DL7: functions: what leaves them, how they are called. -/
namespace DL
open PySem PySem.Spec PyProof.Rows L2

/-! ### what stays of the store behind a call -/
mutual
def lowD (k : Nat) : D → Bool
  | .tup ds => lowL k ds
  | .lst ds => lowL k ds
  | .ins _ _ ds => lowL k ds
  | .scr ds => lowL k ds
  | .exn _ d => lowD k d
  | .ref n => decide (n < k)
  | _ => true
def lowL (k : Nat) : List D → Bool
  | [] => true
  | d :: ds => lowD k d && lowL k ds
end
def lowO (k : Nat) : DO → Bool
  | .lst ds => lowL k ds
  | .ins _ _ ds => lowL k ds
section
variable {T : Tbl} {H : Hp} {al be : List Addr}
mutual
theorem Rp.cut : ∀ {d : D} {v : V}, Rp T H (al ++ be) d v → lowD al.length d = true → Rp T H al d v
  | _, _, .non, _ => .non
  | _, _, .bl b, _ => .bl b
  | _, _, .int i, _ => .int i
  | _, _, .str s, _ => .str s
  | _, _, .tup h r, l => .tup h (RpL.cut r (by simpa [lowD] using l))
  | _, _, .scr h r, l => .scr h (RpL.cut r (by simpa [lowD] using l))
  | _, _, .ty n, _ => .ty n
  | _, _, .cls h, _ => .cls h
  | _, _, .lst h n hd r, l => .lst h (fun m => n (List.mem_append_left _ m)) hd (RpL.cut r (by simpa [lowD] using l))
  | _, _, .ins hc h n hd e r, l => .ins hc h (fun m => n (List.mem_append_left _ m)) hd e (RpL.cut r (by simpa [lowD] using l))
  | _, _, .ref h, l => .ref (by
      rw [List.getElem?_append_left (by simpa [lowD] using l)] at h
      exact h)
theorem RpL.cut : ∀ {ds : List D} {vs : List V}, RpL T H (al ++ be) ds vs → lowL al.length ds = true → RpL T H al ds vs
  | _, _, .nil, _ => .nil
  | _, _, .cons h r, l => by
    simp only [lowL, Bool.and_eq_true] at l
    exact .cons (Rp.cut h l.1) (RpL.cut r l.2)
end
mutual
theorem Rp.low : ∀ {d : D} {v : V}, Rp T H al d v → lowD al.length d = true
  | _, _, .non => rfl
  | _, _, .bl b => rfl
  | _, _, .int i => rfl
  | _, _, .str s => rfl
  | _, _, .tup h r => by simp only [lowD]; exact RpL.low r
  | _, _, .scr h r => by simp only [lowD]; exact RpL.low r
  | _, _, .ty n => rfl
  | _, _, .cls h => rfl
  | _, _, .lst h n hd r => by simp only [lowD]; exact RpL.low r
  | _, _, .ins hc h n hd e r => by simp only [lowD]; exact RpL.low r
  | _, _, .ref h => by
    simp only [lowD, decide_eq_true_eq]
    exact (List.getElem?_eq_some_iff.mp h).1
theorem RpL.low : ∀ {ds : List D} {vs : List V}, RpL T H al ds vs → lowL al.length ds = true
  | _, _, .nil => rfl
  | _, _, .cons h r => by simp only [lowL, Bool.and_eq_true]; exact ⟨Rp.low h, RpL.low r⟩
end
theorem ROb.cut {a : Addr} {o : DO} (h : ROb T H (al ++ be) a o) (l : lowO al.length o = true) : ROb T H al a o := by
  cases o with
  | lst ds =>
    obtain ⟨xs, e, r⟩ := h
    exact ⟨xs, e, r.cut l⟩
  | ins c ns ds =>
    obtain ⟨C, dx, gs, h1, h2, h3, h4⟩ := h
    exact ⟨C, dx, gs, h1, h2, h3, h4.cut l⟩
theorem ROb.low {a : Addr} {o : DO} (h : ROb T H al a o) : lowO al.length o = true := by
  cases o with
  | lst ds =>
    obtain ⟨xs, e, r⟩ := h
    exact r.low
  | ins c ns ds =>
    obtain ⟨C, dx, gs, h1, h2, h3, h4⟩ := h
    exact h4.low
end
def keptS (mu mu' : Store) : Prop := mu'.take mu.length = mu ∨ (mu'.take mu.length).all (lowO mu.length) = true
def trV (k : Nat) (mu' : Store) (d : D) : Option D := if lowD k d = true then some d else match d with
  | .ref m => match mu'[m]? with
    | some (.lst ds) => if lowL k ds = true then some (.lst ds) else none
    | some (.ins c ns ds) => if lowL k ds = true then some (.ins c ns ds) else none
    | none => none
  | _ => none
open Classical in
noncomputable def trim (mu : Store) : R D → R D
  | .val d mu' => if keptS mu mu' then (match trV mu.length mu' d with
    | some d' => .val d' (mu'.take mu.length)
    | none => .bad) else .bad
  | .exc x mu' => if keptS mu mu' ∧ lowD mu.length x.v = true then .exc x (mu'.take mu.length) else .bad
  | .bad => .bad
section
variable {T : Tbl} {W : WX} {si : L2.St} {H H' : Hp} {al : List Addr} {mu mu' : Store}
theorem Ste.cut {be : List Addr} (s0 : Ste T al mu H) (s : Ste T (al ++ be) mu' H') (k : keptS mu mu') : Ste T al (mu'.take mu.length) H' := by
  have hl : mu.length ≤ mu'.length := by rw [← s0.len, ← s.len, List.length_append]; omega
  refine ⟨by rw [List.length_take, s0.len]; omega, (List.nodup_append.mp s.nd).1, fun n o a h1 h2 => ?_, fun h m => ⟨(s.hd h m).1, fun z => (s.hd h m).2 (List.mem_append_left _ z)⟩⟩
  have hn : n < al.length := (List.getElem?_eq_some_iff.mp h2).1
  have h1' : mu'[n]? = some o := by
    rw [List.getElem?_take_of_lt (by rw [← s0.len]; exact hn)] at h1
    exact h1
  have q := s.at_ n o a h1' (by rw [List.getElem?_append_left hn]; exact h2)
  refine q.cut ?_
  rcases k with k | k
  · rw [k] at h1
    exact (s0.at_ n o a h1 h2).low
  · rw [List.all_eq_true] at k
    rw [s0.len]
    exact k o (List.mem_of_getElem? h1)
theorem Gw.cut {be : List Addr} (g : Gw al H (al ++ be) H') : Gw al H al H' := ⟨⟨[], by simp, by simp⟩, g.keep, g.tups, g.frzs, g.dom⟩
theorem RV.trim {Q : VK} {r : R D} (s : Ste T al mu H) (h : RV T W si al H (fun H al d v => Rp T H al d v) Q (DL.trim mu r)) : RV T W si al H (fun H al d v => Rp T H al d v) Q r := by
  cases r with
  | val d mu' =>
    simp only [DL.trim] at h
    intro v al' H' g s' p
    split at h
    · rename_i hk
      obtain ⟨be, rfl, hb⟩ := g.pre
      have s2 := s.cut s' hk
      split at h
      · rename_i d' hd
        refine h v al H' g.cut s2 ?_
        unfold trV at hd
        rw [← s.len] at hd
        by_cases hl : lowD al.length d = true
        · rw [if_pos hl] at hd
          cases hd
          exact p.cut hl
        · rw [if_neg hl] at hd
          cases p with
          | @ref m a hm =>
            have ha : a ∉ al := fun z => by
              obtain ⟨n, hn⟩ := List.getElem?_of_mem z
              have hnl := (List.getElem?_eq_some_iff.mp hn).1
              have h2 : (al ++ be)[n]? = some a := by rw [List.getElem?_append_left hnl]; exact hn
              have : m = n := by
                obtain ⟨hl1, e1⟩ := List.getElem?_eq_some_iff.mp hm
                obtain ⟨hl2, e2⟩ := List.getElem?_eq_some_iff.mp h2
                exact (List.getElem_inj s'.nd).mp (e1.trans e2.symm)
              subst this
              exact hl (by simp only [lowD, decide_eq_true_eq]; exact hnl)
            have hh : a ∉ T.hid := fun z => (s'.hd a z).2 (List.mem_of_getElem? hm)
            simp only at hd
            split at hd
            · rename_i ds hmu
              split at hd
              · rename_i hlow
                cases hd
                obtain ⟨xs, e, r⟩ := s'.at_ m _ a hmu hm
                exact .lst e ha hh (r.cut hlow)
              · cases hd
            · rename_i c ns ds hmu
              split at hd
              · rename_i hlow
                cases hd
                obtain ⟨C, dx, gs, h1, h2, h3, h4⟩ := s'.at_ m _ a hmu hm
                exact .ins h1 h2 ha hh h3 (h4.cut hlow)
              · cases hd
            · cases hd
          | _ => simp at hd
      · exact h.elim
    · exact h.elim
  | exc x mu' =>
    simp only [DL.trim] at h
    intro cls dx al' H' g s' p
    split at h
    · rename_i hk
      obtain ⟨be, rfl, hb⟩ := g.pre
      obtain ⟨C, f, dd, v, h1, h2, h3, h4, h5, h6⟩ := p
      refine h cls dx al H' g.cut (s.cut s' hk.1) ⟨C, f, dd, v, h1, h2, h3, h4, fun z => h5 (List.mem_append_left _ z), h6.cut ?_⟩
      rw [s.len]
      exact hk.2
    · exact h.elim
  | bad => exact h
end

/-! ### a def -/
def fnEnd : RS → R D
  | .nx _ mu => .val .non mu
  | .rt d mu => .val d mu
  | .exc x _ mu => .exc x mu
  | _ => .bad
/-- what a def does with its arguments: n parameters, z names; tr: what it made that it does not hand out is forgotten, a list handed out is a value -/
noncomputable def fnD (n z : Nat) (tr : Bool) (g : SS) : List D → M D := fun ds mu => if ds.length = n then (if tr = true then trim mu (fnEnd (g (ds.map some ++ List.replicate (z - n) none) mu)) else fnEnd (g (ds.map some ++ List.replicate (z - n) none) mu)) else .bad
def spF (T : Tbl) (F : List D → M D) : Sp := fun vs H Q E => ∃ hid al mu ds, Ste (T.hd hid) al mu H ∧ RpL (T.hd hid) H al ds vs ∧ RV (T.hd hid) (fun c d _ H' => E c d H') [] al H (fun H al d v => Rp (T.hd hid) H al d v) Q (F ds mu)
structure FnG (P : Program) (w : World) (K : PySem.W.Frag) (mg : Str → Option Value) (base : Heap) (T : Tbl) (k : Nat) (f : Addr) (fd : FuncData) (ps : List Str) (F : List D → M D) : Prop where
  run : ∀ (A : Around) (outer : List PySem.Env) (s : Shared) (H : Hp) (args : Args) (us : List Value) (vs : List V) (Q : VK) (E : XK), Room k A → A.guards = some [] → Env0 P w K mg base A outer s H → BindsTo s fd args (ps.zip us) → Vals vs us → us.length = ps.length → spF T F vs H Q E →
    codeAny (model P w) A (.call (.ref f) args) (CR (L2.CX P w) outer P w H s Q E) s
theorem FnG.mono {P : Program} {w : World} {K : PySem.W.Frag} {mg : Str → Option Value} {base : Heap} {T : Tbl} {j k : Nat} {f : Addr} {fd : FuncData} {ps : List Str} {F : List D → M D} (h : FnG P w K mg base T j f fd ps F) (hj : j ≤ k) : FnG P w K mg base T k f fd ps F :=
  ⟨fun A outer s H args us vs Q E hr => h.run A outer s H args us vs Q E (hr.mono hj)⟩
theorem RpS.start {T : Tbl} {H : Hp} {al : List Addr} {ds : List D} {vs : List V} (N : List Str) (r : RpL T H al ds vs) : RpS T H al (ds.map some ++ List.replicate (N.length - ds.length) none) (L2.start N vs) := by
  unfold L2.start
  have e := r.length
  refine ⟨by simp [e], fun i d h => ?_⟩
  by_cases hi : i < ds.length
  · rw [List.getElem?_append_left (by simpa using hi), List.getElem?_map] at h
    cases q : ds[i]? with
    | none => rw [q] at h; cases h
    | some d' =>
      rw [q] at h
      cases h
      obtain ⟨v, h1, h2⟩ := r.get q
      refine ⟨v, ?_, h2⟩
      rw [List.getElem?_append_left (by rw [List.length_map, ← e]; exact hi), List.getElem?_map, h1]
      rfl
  · rw [List.getElem?_append_right (by simpa using hi), List.getElem?_replicate] at h
    split at h <;> cases h
theorem rvs_end {T : Tbl} {E : XK} {al : List Addr} {H : Hp} {Q : VK} {r : RS} (h : RV T (fun c d _ H' => E c d H') [] al H (fun H al d v => Rp T H al d v) Q (fnEnd r)) : RVS T (fun c d _ H' => E c d H') al H { nx := fun _ H' => Q .non H', rt := Q } r := by
  cases r with
  | nx rh mu => exact fun si al' H' g s rs => h .non al' H' g s .non
  | rt d mu => exact h
  | bk rh mu => exact h.elim
  | ct rh mu => exact h.elim
  | exc x rh mu => exact fun c d si al' H' g s _ q => h c d al' H' g s q
  | bad => exact h
theorem guards_deeper {A : Around} {env : PySem.Env} : (A.deeper env).guards = A.guards := rfl
theorem guards_make {A : Around} {C : Addr} {us : List Value} {kw : List (Str × Value)} (h : A.guards = some []) : (A.under (.builtin "type.__call__" ⟨.ref C :: us, kw⟩)).guards = some [] := by
  first | exact h | (simp [Around.under, Code.guards, Code.isGuard, pushGuards, h, guardIds]; done)
/-- THE RULE: a def by its body -/
theorem fg_of {P : Program} {w : World} {K : PySem.W.Frag} {mg : Str → Option Value} {base : Heap} {T : Tbl} {k : Nat} {f : Addr} {name qual : Str} {params : Arguments} {body : List Stmt} {scope : Scope} {dV kV doc pm cdv ct oc : Value} {an od : Option Addr}
    {osl : Array (Option Value)} {N ps : List Str} {g : SS} {tr : Bool} (lk : K.lookup f = some ⟨oc, od, .func (PySem.W.fnOf name qual params body scope dV kV doc pm an cdv ct), osl⟩) (hcd : PySem.W.codeIn K cdv qual = true) (S : FnScope N ps scope)
    (hbody : ∀ (hid : List Addr) (A : Around) (outer : List PySem.Env) (s : Shared) (H : Hp) (E : XK), Room k (A.deeper (envOfC qual scope s.heap.objs.size f cdv)) → A.guards = some [] →
      PSs (cxOf (L2.CX P w) P w K mg base N qual scope f cdv A outer s H E) body (tS (T.hd hid) (fun c d _ H' => E c d H') g)) :
    FnG P w K mg base T (k + 1) f (PySem.W.fnOf name qual params body scope dV kV doc pm an cdv ct) ps (fnD ps.length N.length tr g) := by
  refine ⟨fun A outer s H args us vs Q E hr hgu e0 hb r hl' hsp => ?_⟩
  obtain ⟨hid, al, mu, ds, st, rd, hv⟩ := hsp
  have hl : vs.length = ps.length := r.length.trans hl'
  have KX : K.In s.heap := e0.mod.kin.keeps fun b o e => (e0.bs b o e).1
  have lim : s.heap.NoLimit := e0.mod.nolimit.keeps fun b o e => (e0.bs b o e).1
  have hkind : ∀ y ∈ ps.zip us, scope.names.lookup y.1 = some .local ∨ (scope.names.lookup y.1 = some .cell ∧ ((cellsFrom (s.heap.objs.size + 1) scope.names []).lookup y.1).isSome = true) := fun ⟨n, v⟩ hy => by
    rcases S.par n (List.of_mem_zip hy).1 with q | q
    · exact .inl q
    · exact .inr ⟨q, PySem.W.cellsFrom_some _ _ _ (.inl q)⟩
  refine codeAny_call_function hr.depth (KX _ _ lk) rfl S.co S.gen rfl (PySem.W.codeRec_of KX hcd) (hb _ _ _ _ ?_)
  refine wpAny_newFunctionEnv_cells S.kind hkind fun env he s1 x => ?_
  subst he
  refine ⟨lim.keeps x.toInCall.keep, codeAny_func ?_⟩
  have ht := hbody hid A outer s H E (hr.deeper _) hgu
  have I : Inv (cxOf (L2.CX P w) P w K mg base N qual scope f cdv A outer s H E) [] (start N vs) H s1 := inv_start S hr.hd e0 hl r x
  have hq : tS (T.hd hid) (fun c d _ H' => E c d H') g { nx := fun _ H' => Q .non H', rt := Q } (start N vs) H := by
    refine ⟨al, ds.map some ++ List.replicate (N.length - ds.length) none, mu, st, .start N rd, rvs_end ?_⟩
    have e : ds.length = ps.length := rd.length.trans hl
    unfold fnD at hv
    rw [if_pos e] at hv
    rw [e]
    cases tr with
    | true =>
      rw [if_pos rfl] at hv
      exact RV.trim st hv
    | false =>
      rw [if_neg Bool.false_ne_true] at hv
      exact hv
  refine wpAny_mono (ht.run [] s1 (start N vs) H _ I hq) (fun fl s' hs => ?_) fun e s' hs => hs
  have fin : ∀ {σ' : L2.St} {H' : Hp} {v : V} {u : Value}, Inv (cxOf (L2.CX P w) P w K mg base N qual scope f cdv A outer s H E) [] σ' H' s' → RelV v u → Q v H' → CE outer P w H s Q u s' :=
    fun {σ' H' v u} J rv q => ⟨v, H', J.os, J.bare, J.base, J.hok, rv, q⟩
  cases fl with
  | ret u =>
    obtain ⟨v, σ', H', J, rv, q⟩ := hs
    exact fin J rv q
  | next =>
    obtain ⟨σ', H', J, q⟩ := hs
    exact fin (v := V.non) (u := Value.none) J rfl q
  | brk =>
    obtain ⟨_, _, _, q⟩ := hs
    exact False.elim q
  | cont =>
    obtain ⟨_, _, _, q⟩ := hs
    exact False.elim q

/-! ### calls -/
def cCall (F : List D → M D) (a : SA) : SE := fun rh => bnd (a rh) F
section
variable {T : Tbl} {W : WX} {X : Cx} {k : Nat} {f C : Addr} {fd : FuncData} {ps : List Str} {F : List D → M D} {x : Str} {p pos : Pos} {e : Expr} {es : List Expr} {ga : SA}
theorem RV.any {al : List Addr} {H : Hp} {σ : L2.St} {A B : Type} {P : Hp → List Addr → A → B → Prop} {Q : B → Hp → Prop} {r : R A} (h : RV T W σ al H P Q r) : RV T (fun c d _ H' => W c d σ H') [] al H P Q r := by
  cases r with
  | val a mu => exact h
  | exc x mu => exact h
  | bad => exact h
theorem run_g {pins : List (Addr × Obj)} {σ : L2.St} {H : Hp} {s : Shared} {Q : VK} {args : Args} {us : List Value} {vs : List V} (Fn : FnG X.prog X.w X.K X.mg X.base T k f fd ps F) (hr : Room k X.A) (hgu : X.A.guards = some []) (tk : Takes X W)
    (I : Inv X pins σ H s) (hb : BindsTo s fd args (ps.zip us)) (hl : us.length = ps.length) (r : Vals vs us) (h : spF T F vs H Q (WE W σ)) : codeAny (model X.prog X.w) X.A (.call (.ref f) args) (fun r s' => match r with
      | .ok (.ret u) => EP X pins σ Q u s'
      | .ok _ => False
      | .error e => X.xe e s') s := by
  refine codeAny_mono (Fn.run X.A X.stack s H args us vs Q (WE W σ) hr hgu I.env0 hb r hl h) fun r s' hq => ?_
  cases r with
  | error e => exact passAt tk σ pins H s e s' I hq
  | ok fl =>
    cases fl with
    | ret u => exact I.after hq
    | next => exact hq
    | brk => exact hq
    | cont => exact hq
theorem sp_of {al : List Addr} {mu : Store} {H : Hp} {σ : L2.St} {ds : List D} {vs : List V} {Q : VK} (s : Ste T al mu H) (r : RpL T H al ds vs) (h : RV T W σ al H (fun H al d v => Rp T H al d v) Q (F ds mu)) : spF T F vs H Q (WE W σ) :=
  ⟨T.hid, al, mu, ds, s, r, RV.any h⟩
theorem wp_of_code {A : Around} {M : Model} {fv : Value} {us : List Value} {kw : List (Str × Value)} {Q : Value → Shared → Prop} {E : Value → Shared → Prop} {s : Shared} (h : codeAny M A (.call fv ⟨us, kw⟩) (fun r s' => match r with
      | .ok (.ret u) => Q u s'
      | .ok _ => False
      | .error e => E e s') s) : wpAny M A (call fv us kw) Q E s := by
  refine wpAny_call (codeAny_mono h fun r s' hq => ?_)
  cases r with
  | error e => exact hq
  | ok fl =>
    cases fl with
    | ret u => exact hq
    | next => exact hq.elim
    | brk => exact hq.elim
    | cont => exact hq.elim
theorem se_callG (hT : ∀ hid, FnG X.prog X.w X.K X.mg X.base (T.hd hid) k f fd ps F) (hr : Room k X.A) (hgu : X.A.guards = some []) (tk : Takes X W) (hg : Gl X x) (hm : X.mg x = some (.ref f)) (hk : PySem.W.keepIn X.K (.ref f) = true) (hb : Binds X.K fd ps [])
    (hn : ∀ ds mu, ds.length ≠ ps.length → F ds mu = .bad)
    (ha : PA X (e :: es) (tDL T W ga)) (hdb : (x == ("__debug__" : Str)) = false) (he : starEach (e :: es) X.env = (false, eval e X.env) :: starEach es X.env) (hpl : (backTo pos (starEach es X.env)).any (·.1) = false) :
    PE X (.Call (.Name x p) (e :: es) [] pos) (tD T W (cCall F ga)) := by
  refine ⟨fun pins s σ H Q I ⟨al, rh, mu, st, rs, h⟩ => ?_⟩
  refine wpAny_Call_Name_kw (ld_glob I hg hm ?_ hdb)
  refine PySem.W.callWith_K (h₀ := X.base) I.ok.mod.kin hk (thn (ha.run pos pins s σ H _ I ⟨al, rh, mu, st, rs, RV.bind (P := fun H al d v => RpL T H al d v) h⟩) fun us s1 ⟨vs, H1, I1, r, al1, ds, mu1, g1, s1', r1, h1⟩ => ⟨I1.kIn, ?_⟩) he hpl
  have hl : us.length = ps.length := by
    rw [← r.length, ← r1.length]
    refine Classical.byContradiction fun hne => ?_
    rw [hn ds mu1 hne] at h1
    exact h1
  have b := hb s1 us I1.kIn (by rw [List.append_nil]; exact hl)
  rw [List.append_nil] at b
  exact wp_of_code (run_g (T := T) (hT T.hid) hr hgu tk I1 b hl r (sp_of s1' r1 h1))

/-! keywords -/
theorem PK.imp {kws : List Keyword} {t t' : TA} (h : PK X kws t) (i : ∀ si H Q, t' si H Q → t si H Q) : PK X kws t' := ⟨fun pos pins s si H Q I q => h.run pos pins s si H Q I (i si H Q q)⟩
theorem sk_nil : PK X [] (tDL T W aNil) := PK.imp pk_nil fun si H Q ⟨al, rh, mu, s, rs, h⟩ => h [] al H (Gw.refl _ _) s .nil
theorem sk_cons {kws : List Keyword} {nm : Option Str} {kpos : Pos} {g : SE} {gs : SA} (ha : PE X e (tD T W g)) (hr : PK X kws (tDL T W gs)) : PK X (⟨nm, e, kpos⟩ :: kws) (tDL T W (aCons g gs)) :=
  PK.imp (pk_cons ha hr) fun si H Q ⟨al, rh, mu, s, rs, h⟩ => by
    refine ⟨al, rh, mu, s, rs, (RV.bind (P := fun H al d v => Rp T H al d v) h).imp fun x H1 ⟨al1, d, mu1, g1, s1, r1, h1⟩ => ?_⟩
    refine ⟨al1, rh, mu1, s1, rs.mono g1, (RV.bind (P := fun H al d v => RpL T H al d v) h1).imp fun xs H2 ⟨al2, ds, mu2, g2, s2, r2, h2⟩ => ?_⟩
    exact h2 _ al2 H2 (Gw.refl _ _) s2 (.cons (r1.mono g2) r2)
def reord {A : Type} (ord : List Nat) (z : A) (xs : List A) : List A := ord.map fun i => xs.getD i z
def cCallK (F : List D → M D) (n : Nat) (ord : List Nat) (a : SA) : SE := fun rh => bnd (a rh) fun ds => if ds.length = n then F (reord ord .non ds) else bad
theorem RpL.reord {H : Hp} {al : List Addr} {ds : List D} {vs : List V} (r : RpL T H al ds vs) : ∀ {ord : List Nat}, (∀ i ∈ ord, i < ds.length) → RpL T H al (reord ord .non ds) (reord ord .non vs)
  | [], _ => .nil
  | i :: ord, h => by
    have hi := h i (by simp)
    obtain ⟨v, h1, h2⟩ := r.get (List.getElem?_eq_getElem hi)
    refine .cons ?_ (RpL.reord r fun j hj => h j (by simp [hj]))
    show Rp T H al (ds.getD i .non) (vs.getD i .non)
    rw [List.getD_eq_getElem?_getD, List.getD_eq_getElem?_getD, h1, List.getElem?_eq_getElem hi]
    exact h2
theorem vals_reord {vs : List V} {us : List Value} (r : Vals vs us) : ∀ {ord : List Nat}, (∀ i ∈ ord, i < vs.length) → Vals (reord ord .non vs) (reord ord .none us)
  | [], _ => .nil
  | i :: ord, h => by
    have hi := h i (by simp)
    obtain ⟨u, h1, h2⟩ := r.get (List.getElem?_eq_getElem hi)
    refine .cons ?_ (vals_reord r fun j hj => h j (by simp [hj]))
    show L2.RelV (vs.getD i .non) (us.getD i .none)
    rw [List.getD_eq_getElem?_getD, List.getD_eq_getElem?_getD, h1, List.getElem?_eq_getElem hi]
    exact h2
theorem se_callK {kws : List Keyword} {ks : List Str} {ord : List Nat} (hT : ∀ hid, FnG X.prog X.w X.K X.mg X.base (T.hd hid) k f fd ps F) (hr : Room k X.A) (hgu : X.A.guards = some []) (tk : Takes X W) (hg : Gl X x) (hm : X.mg x = some (.ref f)) (hk : PySem.W.keepIn X.K (.ref f) = true)
    (hb : ∀ ws : List Value, ws.length = ks.length → bindArgs fd ⟨[], ks.zip ws⟩ = pure (ps.zip (reord ord .none ws))) (ho : ∀ i ∈ ord, i < ks.length) (hl : ord.length = ps.length)
    (ha : PK X kws (tDL T W ga)) (hdb : (x == ("__debug__" : Str)) = false) (hall : (backToKw pos (keywordEach kws X.env)).all (·.1.isSome) = true) (hks : (backToKw pos (keywordEach kws X.env)).filterMap (·.1) = ks)
    (hpl : ((backTo pos (starEach [] X.env)).any (·.1) || (backToKw pos (keywordEach kws X.env)).any (·.1.isNone)) = false) :
    PE X (.Call (.Name x p) [] kws pos) (tD T W (cCallK F ks.length ord ga)) := by
  refine ⟨fun pins s σ H Q I ⟨al, rh, mu, st, rs, h⟩ => ?_⟩
  refine wpAny_Call_Name_kw (ld_glob I hg hm ?_ hdb)
  refine PySem.W.callWith_KW0 (h₀ := X.base) I.ok.mod.kin hk hall ?_ hpl
  refine thn (ha.run pos pins s σ H _ I ⟨al, rh, mu, st, rs, RV.bind (P := fun H al d v => RpL T H al d v) h⟩) fun us s1 ⟨vs, H1, I1, r, al1, ds, mu1, g1, s1', r1, h1⟩ => ⟨I1.kIn, ?_⟩
  rw [hks]
  split at h1
  · rename_i hd
    have e1 := r.length
    have e2 := r1.length
    have hu : us.length = ks.length := by omega
    exact wp_of_code (run_g (T := T) (us := reord ord .none us) (vs := reord ord .non vs) (hT T.hid) hr hgu tk I1 (.of_eq (hb us hu)) (by rw [reord, List.length_map]; exact hl) (vals_reord r fun i hi => by have := ho i hi; omega) (sp_of s1' (r1.reord fun i hi => by have := ho i hi; omega) h1))
  · exact h1.elim

/-! a class made -/
def mkI (c : Nat) (F : List D → M D) : List D → M D := fun ds mu => match F (.ref mu.length :: ds) (mu ++ [.ins c [] []]) with
  | .val .non mu1 => .val (.ref mu.length) mu1
  | .exc x mu1 => .exc x mu1
  | _ => .bad
noncomputable def mkIt (c : Nat) (tr : Bool) (F : List D → M D) : List D → M D := fun ds mu => if tr = true then trim mu (mkI c F ds mu) else mkI c F ds mu
theorem se_make {c : Nat} {tr : Bool} (Mk' : Mk X.K C f) (hT : ∀ hid, FnG X.prog X.w X.K X.mg X.base (T.hd hid) k f fd ps F) (hr : Room (k + 1) X.A) (hgu : X.A.guards = some []) (tk : Takes X W) (hg : Gl X x) (hm : X.mg x = some (.ref C)) (hC : T.cls c = some C) (hb : Binds X.K fd ps [])
    (hn : ∀ ds mu, ds.length ≠ ps.length → F ds mu = .bad)
    (ha : PA X (e :: es) (tDL T W ga)) (hdb : (x == ("__debug__" : Str)) = false) (he : starEach (e :: es) X.env = (false, eval e X.env) :: starEach es X.env) (hpl : (backTo pos (starEach es X.env)).any (·.1) = false) :
    PE X (.Call (.Name x p) (e :: es) [] pos) (tD T W (cCall (mkIt c tr F) ga)) := by
  refine ⟨fun pins s σ H Q I ⟨al, rh, mu, st, rs, h⟩ => ?_⟩
  refine wpAny_Call_Name_kw (ld_glob I hg hm ?_ hdb)
  refine PySem.W.callWith_K (h₀ := X.base) I.ok.mod.kin Mk'.kp (thn (ha.run pos pins s σ H _ I ⟨al, rh, mu, st, rs, RV.bind (P := fun H al d v => RpL T H al d v) h⟩) fun us s1 ⟨vs, H1, I1, r, al1, ds, mu1, g1, s1', r1, h1⟩ => ⟨I1.kIn, ?_⟩) he hpl
  have h2 : RV T W σ al1 H1 (fun H al d v => Rp T H al d v) Q (mkI c F ds mu1) := by
    unfold mkIt at h1
    cases tr with
    | true =>
      rw [if_pos rfl] at h1
      exact RV.trim s1' h1
    | false =>
      rw [if_neg Bool.false_ne_true] at h1
      exact h1
  have I2 := Inv.made (C := C) I1
  have hx : H1 (s1.heap.objs.size + 1) = none := I1.hok.fresh (Nat.le_succ _)
  have hdx : H1 s1.heap.objs.size = none := I1.hok.fresh (Nat.le_refl _)
  have hne : s1.heap.objs.size ≠ s1.heap.objs.size + 1 := Nat.ne_of_lt (Nat.lt_succ_self _)
  have ga1 := gw_new (al := al1) (o := HO.own (s1.heap.objs.size + 1)) hdx
  have sa1 := s1'.new (o := HO.own (s1.heap.objs.size + 1)) hdx
  have hx2 : upd H1 s1.heap.objs.size (HO.own (s1.heap.objs.size + 1)) (s1.heap.objs.size + 1) = none := by rw [upd_ne (Ne.symm hne)]; exact hx
  have ga2 := gw_alloc (al := al1) (o := HO.ins C s1.heap.objs.size []) hx2
  have sa2 := sa1.alloc (ob := .ins c [] []) (o := HO.ins C s1.heap.objs.size []) hx2 ⟨C, _, [], hC, upd_same, rfl, .nil⟩
  have gg := ga1.trans ga2
  have hat : (al1 ++ [s1.heap.objs.size + 1])[mu1.length]? = some (s1.heap.objs.size + 1) := by
    rw [List.getElem?_append_right (by rw [s1'.len]; exact Nat.le_refl _), s1'.len, Nat.sub_self]
    rfl
  have hl : (Value.ref (s1.heap.objs.size + 1) :: us).length = ps.length := by
    have e1 := r.length
    have e2 := r1.length
    refine Classical.byContradiction fun hne => ?_
    unfold mkI at h2
    rw [hn _ _ (by rw [List.length_cons] at hne ⊢; omega)] at h2
    exact h2
  have b := hb _ (Value.ref (s1.heap.objs.size + 1) :: us) I2.kIn (by rw [List.append_nil]; exact hl)
  rw [List.append_nil] at b
  have hsp : spF T F (V.ref (s1.heap.objs.size + 1) :: vs) (upd (upd H1 s1.heap.objs.size (.own (s1.heap.objs.size + 1))) (s1.heap.objs.size + 1) (.ins C s1.heap.objs.size [])) (fun v H2 => v = .non ∧ Q (.ref (s1.heap.objs.size + 1)) H2) (WE W σ) := by
    refine ⟨T.hid, al1 ++ [s1.heap.objs.size + 1], mu1 ++ [.ins c [] []], .ref mu1.length :: ds, show Ste T _ _ _ from sa2, .cons (.ref hat) (r1.mono gg), ?_⟩
    unfold mkI at h2
    cases q : F (.ref mu1.length :: ds) (mu1 ++ [.ins c [] []]) with
    | val d mu2 =>
      cases d with
      | non =>
        simp only [q] at h2
        refine fun v al' H' g' s' p' => ?_
        cases p'
        exact ⟨rfl, h2 _ al' H' (gg.trans g') s' (.ref (g'.at hat))⟩
      | _ =>
        simp only [q] at h2
        exact h2.elim
    | exc x mu2 =>
      simp only [q] at h2
      exact fun cls dx al' H' g' s' p' => h2 cls dx al' H' (gg.trans g') s' p'
    | bad =>
      simp only [q] at h2
      exact h2.elim
  refine wpAny_call (make_map (f := f) I1.kIn Mk'.makes Mk'.init (beq_iff_eq.mp Mk'.fn) (codeAny_mono ((hT T.hid).run _ X.stack _ _ ⟨Value.ref (s1.heap.objs.size + 1) :: us, []⟩ (Value.ref (s1.heap.objs.size + 1) :: us) _ _ (WE W σ) (hr.make C us []) (guards_make hgu)
    (I2.env0.make C us []) b (show Vals (V.ref (s1.heap.objs.size + 1) :: vs) (Value.ref (s1.heap.objs.size + 1) :: us) from .cons rfl r) hl hsp) fun r s' hq' => ?_))
  cases r with
  | error e => exact passAt tk σ pins _ _ e s' I2 hq'
  | ok fl =>
    cases fl with
    | ret u =>
      obtain ⟨v, H', I3, rv, ev, q3⟩ := I2.after hq'
      subst ev
      exact ⟨rv, ⟨V.ref (s1.heap.objs.size + 1), H', I3, rfl, q3⟩⟩
    | next => exact False.elim hq'
    | brk => exact False.elim hq'
    | cont => exact False.elim hq'
/-- an end that is not reached -/
theorem ss_dead {st : Stmt} : PS X st (tS T W fun _ _ => .bad) := ⟨fun pins s si H D I ⟨_, _, _, _, _, h⟩ => h.elim⟩
theorem se_dead {e : Expr} : PE X e (tD T W fun _ _ => .bad) := ⟨fun pins s si H Q I ⟨_, _, _, _, _, h⟩ => h.elim⟩
end
end DL

set_option Elab.async false
set_option linter.all false
set_option maxRecDepth 100000
set_option maxHeartbeats 4000000
/-! DL8: xs[::-1] of tuples and lists. -/
namespace DL
open PySem PySem.Spec PyProof.Rows L2 HT
section
variable {prog : Program} {w : World} {A : Around} {E : Value → Shared → Prop} {s : Shared}
theorem rev_adjust (n : Nat) : Builtin.Slice.sliceAdjust none none (-1) (n : Int) = ((n : Int) - 1, -1) := by
  unfold Builtin.Slice.sliceAdjust
  simp
theorem rev_places (n : Nat) : Builtin.Slice.slicePlaces ((n : Int) - 1) (-1) (-1) = n := by
  unfold Builtin.Slice.slicePlaces
  have h1 : ¬ ((-1 : Int) > 0) := by decide
  simp only [h1, if_false]
  have e : -(-1 : Int) = 1 := by decide
  rw [e, Int.ediv_one]
  split <;> omega
theorem fm_congr {α β : Type} {f g : α → Option β} : ∀ {l : List α}, (∀ x ∈ l, f x = g x) → l.filterMap f = l.filterMap g
  | [], _ => rfl
  | a :: l, h => by rw [List.filterMap_cons, List.filterMap_cons, h a (by simp), fm_congr (l := l) fun x hx => h x (by simp [hx])]
theorem rev_pick (xs : Array Value) : ((List.range xs.size).filterMap fun (m : Nat) => xs[(((xs.size : Int) - 1) + (m : Int) * (-1)).toNat]?).toArray = xs.toList.reverse.toArray := by
  have e : (List.range xs.size).filterMap (fun (m : Nat) => xs[(((xs.size : Int) - 1) + (m : Int) * (-1)).toNat]?) = ((List.range xs.size).map fun k => xs.size - 1 - k).filterMap (xs[·]?) := by
    rw [List.filterMap_map]
    apply fm_congr
    intro k hk
    have := List.mem_range.mp hk
    show _ = xs[xs.size - 1 - k]?
    congr 1
    omega
  rw [e, PySem.W.krv_range, List.filterMap_reverse, PySem.W.krv_all]
theorem rev_applied {sl : Addr} {vs : Value} {n : Nat} {Q : Int × Int × Nat → Shared → Prop} (hs : ∃ os, s.heap.get? sl = some os ∧ os.cls = .type "slice" ∧ os.data = .fields #[.none, .none, vs]) (ps : IsPart vs (some (-1)))
    (h : Q ((n : Int) - 1, -1, n) s) : wpAny (model prog w) A (Builtin.Slice.sliceApplied (.ref sl) (pure (n : Int))) Q E s := by
  obtain ⟨os, hos, hcs, hds⟩ := id hs
  unfold Builtin.Slice.sliceApplied Builtin.Slice.sliceFields
  refine wpAny_bind (wpAny_bind (wpAny_field hos hds (x := .none) rfl (wpAny_bind (wpAny_field hos hds (x := .none) rfl (wpAny_bind (wpAny_field hos hds (x := vs) rfl (wpAny_pure ?_)))))))
  refine wpAny_bind (slicePart_ ps ?_)
  show wpAny _ _ (if ((-1 : Int) == 0) = true then _ else _) _ _ s
  rw [if_neg (by decide)]
  refine wpAny_bind (slicePart_none (wpAny_bind (slicePart_none (wpAny_bind (wpAny_pure ?_)))))
  show wpAny _ _ (match Builtin.Slice.sliceAdjust none none (-1) (n : Int) with | (lo, hi) => pure (lo, (-1 : Int), Builtin.Slice.slicePlaces lo hi (-1))) _ _ s
  rw [rev_adjust n]
  show wpAny _ _ (pure ((n : Int) - 1, (-1 : Int), Builtin.Slice.slicePlaces ((n : Int) - 1) (-1) (-1))) _ _ s
  rw [rev_places]
  exact wpAny_pure h
theorem rev_tuple {t sl : Addr} {items : Array Value} {vs : Value} {Q : Value → Shared → Prop} (ht : IsTup s.heap t items) (hs : ∃ os, s.heap.get? sl = some os ∧ os.cls = .type "slice" ∧ os.data = .fields #[.none, .none, vs]) (ps : IsPart vs (some (-1)))
    (h : Q (.ref s.heap.objs.size) { s with heap := s.heap.push { cls := .type "tuple", data := .seq items.toList.reverse.toArray } }) (hsz : items.size ≤ sizeLine) : wpAny (model prog w) A (getItem (.ref t) (.ref sl)) Q E s := by
  have htake : sizeOk (.seq items.toList.reverse.toArray) := by
    show items.toList.reverse.toArray.size ≤ sizeLine
    rw [List.size_toArray, List.length_reverse, Array.length_toList]
    exact hsz
  obtain ⟨os, hos, hcs, hds⟩ := id hs
  have hTs : s.TypeIs (.ref sl) "slice" := ⟨os, hos, hcs⟩
  unfold getItem
  try with_reducible refine wpAny_holding ?_
  first | refine wpAny_bind (wpAny_pure ?_) | skip
  refine wpAny_bind (wpAny_sequenceKey ht.typeIs (by decide) ?_)
  refine wpAny_bind (wpAny_callSpecial?_slot (name := Str.ofString "__getitem__") ht.typeIs PyProof.Rows.slot_tuple_getitem
    (wpAny_call_entry PyProof.Rows.slot_tuple_getitem ht.typeIs entry_tuple_getitem ?_ (args_tuple_getitem _ _)))
  show wpAny _ _ (Builtin.Tuple.tupleItemsOf (.ref t) >>= _) _ _ s
  refine wpAny_bind (tupleItemsOf_ ht ?_)
  refine wpAny_bind (wpAny_typeOf hTs ?_)
  rw [if_pos (by decide)]
  refine wpAny_bind (rev_applied hs ps ?_)
  have hno : ¬ ((((items.size : Int) - 1) == 0 && (-1 : Int) == 1 && items.size == items.size) = true) := by
    simp
  show wpAny _ _ (if ((((items.size : Int) - 1) == 0 && (-1 : Int) == 1 && items.size == items.size) = true) then _ else _) _ _ s
  rw [if_neg hno, rev_pick]
  first
    | exact wpAny_bind (m := Builtin.Tuple.tupleExact _) (wpAny_newObj_type (wpAny_pure ⟨_, rfl, wpAny_pure h⟩) htake)
    | exact wpAny_bind (m := Builtin.Tuple.tupleExact _) (wpAny_newObj_type (wpAny_bind (wpAny_pure (wpAny_pure ⟨_, rfl, wpAny_pure h⟩))) htake)
    | exact wpAny_bind (wpAny_bind (m := Builtin.Tuple.tupleExact _) (wpAny_newObj_type (wpAny_pure (wpAny_pure ⟨_, rfl, wpAny_pure h⟩)) htake))
    | exact wpAny_bind (wpAny_bind (m := Builtin.Tuple.tupleExact _) (wpAny_newObj_type (wpAny_pure ⟨_, rfl, wpAny_pure h⟩) htake))
end
section
variable {T : Tbl} {W : WX} {X : Cx}
def tRevQ (K : PySem.W.Frag) (te : TE) : TE := fun σ H Q => te σ H fun x H1 => ∃ a xs, x = .ref a ∧ ((SqL K H1 a xs ∧ ∀ p, H1 p = none → Q (.ref p) (upd H1 p (.lst xs.reverse))) ∨ (SqT K H1 a xs ∧ ∀ p, H1 p = none → Q (.ref p) (upd H1 p (.tup xs.reverse))))
theorem pe_revQ {e : Expr} {te : TE} {k : Nat} {p1 p2 p3 pos : Pos} (he : PE X e te) : PE X (.Subscript e (.Slice none none (some (.UnaryOp .USub (.Constant (.int 1) k p1) p2)) p3) pos) (tRevQ X.K te) := by
  refine ⟨fun pins s σ H Q I h => ?_⟩
  refine Subscript_ (thn (he.run pins s σ H _ I h) fun v s1 ⟨x, H1, I1, r1, q1⟩ => ?_)
  obtain ⟨a, xs, ex, q1⟩ := q1
  subst ex
  cases r1
  have hst : PO X (some (.UnaryOp .USub (.Constant (.int 1) k p1) p2)) (tPart (tUn (rU fun i => .int (-i)) (tC (.int 1)))) := po_some (pe_un un_neg pe_int)
  refine wpAny_Slice (thn (po_none.run pins s1 σ H1 (fun o H2 => o = none ∧ H2 = H1) I1 ⟨rfl, rfl⟩) fun vl s2 ⟨l, H2, I2, pl, el, e2⟩ => ?_)
  subst el e2
  refine thn (po_none.run pins s2 σ H2 (fun o H3 => o = none ∧ H3 = H2) I2 ⟨rfl, rfl⟩) fun vu s3 ⟨u, H3, I3, pu, eu, e3⟩ => ?_
  subst eu e3
  refine thn (hst.run pins s3 σ H3 (fun o H4 => o = some (-1) ∧ H4 = H3) I3 ⟨1, rfl, -1, rfl, rfl, rfl⟩) fun vs s4 ⟨o, H4, I4, ps, eo, e4⟩ => ?_
  subst eo e4
  have I5 : Inv X pins σ H4 { s4 with heap := s4.heap.push { cls := .type "slice", data := .fields #[vl, vu, vs] } } := I4.kept (t' := s4.toks) fun b ob q => Heap.get?_push_of_some _ q
  show wpAny (model X.prog X.w) X.A (subscriptTail e (.Slice none none (some (.UnaryOp .USub (.Constant (.int 1) k p1) p2)) p3) (.ref a) (.ref s4.heap.objs.size)) (EP X pins σ Q) X.xe { s4 with heap := s4.heap.push { cls := .type "slice", data := .fields #[vl, vu, vs] } }
  rcases q1 with ⟨hx, q⟩ | ⟨hx, q⟩
  · obtain ⟨its, r, ht, hz⟩ := I5.list hx
    have hlen := r.length
    refine tail_any (ops := [.ref a, .ref s4.heap.objs.size]) ht.isList.typeIs (PySem.slot_list_getitem.lookup) ?_ (by with_unfolding_all rfl)
    refine wpAny_getItem_list_slice ht.isList (Heap.IsSliceOf.new _ vl vu vs) pl pu ps (by decide) ?_ (by rw [List.size_toArray]; omega)
    rw [PySem.W.krv_pick]
    refine ⟨.ref _, _, I5.laid (t' := s4.toks) (o := .lst xs.reverse) (fun b ob q => Heap.get?_push_of_some _ q) (Nat.le_refl _) ?_, rfl, q _ (I5.hok.fresh (Nat.le_refl _))⟩
    exact ⟨by rw [List.length_reverse]; exact hz, _, 0, r.reverse, Heap.get?_push_size _ rfl⟩
  · obtain ⟨its, r, ht, hz⟩ := I5.tuple hx
    have hlen := r.length
    refine tail_any (ops := [.ref a, .ref s4.heap.objs.size]) ht.typeIs PyProof.Rows.slot_tuple_getitem.lookup ?_ (by with_unfolding_all rfl)
    cases pl
    cases pu
    refine rev_tuple ht ⟨_, Heap.get?_push_size _ rfl, rfl, rfl⟩ ps ?_ (by rw [List.size_toArray]; omega)
    refine ⟨.ref _, _, I5.laid (t' := s4.toks) (o := .tup xs.reverse) (fun b ob q => Heap.get?_push_of_some _ q) (Nat.le_refl _) ?_, rfl, q _ (I5.hok.fresh (Nat.le_refl _))⟩
    exact ⟨by rw [List.length_reverse]; exact hz, its.reverse, r.reverse, ⟨_, Heap.get?_push_size _ rfl, rfl, _, rfl⟩⟩
def fRev (m : Bool) : F1 := fun d mu => match vwT d with
  | some ds => .val (.tup ds.reverse) mu
  | none => match vwR mu d with
    | some ds => mkL m ds.reverse mu
    | none => .bad
theorem se_rev {m : Bool} {e : Expr} {g : SE} {k : Nat} {p1 p2 p3 pos : Pos} (hT : T.K = X.K) (he : PE X e (tD T W g)) : PE X (.Subscript e (.Slice none none (some (.UnaryOp .USub (.Constant (.int 1) k p1) p2)) p3) pos) (tD T W (e1 (fRev m) g)) :=
  PE.imp (pe_revQ he) fun si H Q ⟨al, rh, mu, s, rs, h⟩ => by
    refine ⟨al, rh, mu, s, rs, (RV.bind (P := fun H al d v => Rp T H al d v) h).imp fun x H1 ⟨al1, d, mu1, g1, s1, r1, h1⟩ => ?_⟩
    unfold fRev at h1
    split at h1
    · rename_i ds hd
      obtain ⟨a, xs, rfl, hq, r⟩ := vwT_ok r1 hd
      exact ⟨a, xs, rfl, .inr ⟨hT ▸ hq, tup_of s1 r.reverse h1⟩⟩
    · split at h1
      · rename_i ds hd
        obtain ⟨a, xs, rfl, hq, r⟩ := vwR_ok s1 r1 hd
        exact ⟨a, xs, rfl, .inl ⟨hT ▸ hq, mkL_of s1 r.reverse h1⟩⟩
      · exact h1.elim
end

/-! ### sorted: ints, tuples of ints -/
def insS {A : Type} (c : A → Int) (n : A) : List A → List A
  | [] => [n]
  | m :: r => if c n ≤ c m then n :: m :: r else m :: insS c n r
def srtS {A : Type} (c : A → Int) : List A → List A
  | [] => []
  | n :: r => insS c n (srtS c r)
theorem insS_perm {A : Type} (c : A → Int) (n : A) : ∀ l : List A, (insS c n l).Perm (n :: l)
  | [] => .refl _
  | m :: r => by
    unfold insS
    split
    · exact .refl _
    · exact ((insS_perm c n r).cons m).trans (.swap n m r)
theorem srtS_perm {A : Type} (c : A → Int) : ∀ l : List A, (srtS c l).Perm l
  | [] => .refl _
  | n :: r => (insS_perm c n _).trans ((srtS_perm c r).cons n)
theorem insS_pair {A : Type} (c : A → Int) (n : A) : ∀ {l : List A}, l.Pairwise (fun a b => c a ≤ c b) → (insS c n l).Pairwise (fun a b => c a ≤ c b)
  | [], _ => by simp [insS]
  | m :: r, h => by
    have h' := List.pairwise_cons.mp h
    unfold insS
    split
    · rename_i hl
      refine List.pairwise_cons.mpr ⟨fun x hx => ?_, h⟩
      rcases List.mem_cons.mp hx with e | hx
      · rw [e]; exact hl
      · exact Int.le_trans hl (h'.1 x hx)
    · rename_i hl
      refine List.pairwise_cons.mpr ⟨fun x hx => ?_, insS_pair c n h'.2⟩
      rcases List.mem_cons.mp ((insS_perm c n r).mem_iff.mp hx) with e | hx
      · rw [e]; omega
      · exact h'.1 x hx
theorem srtS_pair {A : Type} (c : A → Int) : ∀ l : List A, (srtS c l).Pairwise (fun a b => c a ≤ c b)
  | [] => .nil
  | n :: r => insS_pair c n (srtS_pair c r)
/-- what sorted gives is told by this -/
theorem srtS_eq {A : Type} {c : A → Int} {l l' : List A} (p : l'.Perm l) (o : l'.Pairwise (fun a b => c a ≤ c b)) (inj : ∀ a b, a ∈ l → b ∈ l → c a = c b → a = b) : srtS c l = l' := by
  refine List.Perm.eq_of_pairwise (le := fun a b => c a ≤ c b) (fun a b ha hb h1 h2 => inj a b ((srtS_perm c l).mem_iff.mp ha) (p.mem_iff.mp hb) (Int.le_antisymm h1 h2)) (srtS_pair c l) o ((srtS_perm c l).trans p.symm)
theorem code_inj {B : Int} : ∀ {a b : List Int}, a.length = b.length → TS.Bd B a → TS.Bd B b → TS.code B a = TS.code B b → a = b
  | [], [], _, _, _, _ => rfl
  | [], _ :: _, h, _, _, _ => by cases h
  | _ :: _, [], h, _, _, _ => by cases h
  | d :: r, e :: q, hl, ha, hb, h => by
    have hl' : r.length = q.length := by simpa using hl
    by_cases h1 : d < e
    · have := TS.code_lt hl' ha.tail hb.tail h1
      omega
    · by_cases h2 : e < d
      · have := TS.code_lt hl'.symm hb.tail ha.tail h2
        omega
      · have e1 : d = e := by omega
        subst e1
        have e2 : TS.code B r = TS.code B q := by
          have h : d * B ^ r.length + TS.code B r = d * B ^ q.length + TS.code B q := h
          rw [hl'] at h
          omega
        rw [code_inj hl' ha.tail hb.tail e2]
def tupI : D → Option (List Int)
  | .tup ds => intsD ds
  | _ => none
def tupsI : List D → Option (List (List Int))
  | [] => some []
  | d :: r => match tupI d, tupsI r with
    | some n, some ns => some (n :: ns)
    | _, _ => none
def tOf (n : List Int) : D := .tup (n.map D.int)
def okTups (d : Nat) (nss : List (List Int)) : Bool := decide (nss.length < 64) && decide (1 ≤ d) && nss.all fun n => decide (n.length = d) && n.all fun i => decide (0 ≤ i) && decide (i < 1000)
def fSorted (m : Bool) : FL := fun ds mu => match ds with
  | [d] => match vwL mu d with
    | some es => match intsD es with
      | some ns => mkL m ((srtS id ns).map D.int) mu
      | none => match tupsI es with
        | some (n :: nss) => if okTups n.length (n :: nss) = true then mkL m ((srtS (TS.code 1000) (n :: nss)).map tOf) mu else .bad
        | _ => .bad
    | none => .bad
  | _ => .bad
def rSortA (K : PySem.W.Frag) : List V → Hp → VK → Prop := fun vs H Q => rSortedI K vs H Q ∨ ∃ d, 1 ≤ d ∧ rSortU K d 1000 vs H Q
section
variable {T : Tbl} {W : WX} {X : Cx}
theorem cr_sortA : CallR X (.builtin "sorted") (rSortA X.K) := by
  intro pins s σ H vs us Q I r h
  rcases h with h | ⟨d, hd, h⟩
  · exact cr_sortedI pins s σ H vs us Q I r h
  · exact cr_sortT hd pins s σ H vs us Q I r h
theorem RpL.perm {H : Hp} {al : List Addr} {ys xs : List V} (p : ys.Perm xs) : ∀ {ds : List D}, RpL T H al ds xs → ∃ es, es.Perm ds ∧ RpL T H al es ys := by
  induction p with
  | nil => exact fun r => ⟨_, .refl _, r⟩
  | cons x _ ih =>
    intro ds r
    cases r with
    | cons q r =>
      obtain ⟨es, h1, h2⟩ := ih r
      exact ⟨_ :: es, h1.cons _, .cons q h2⟩
  | swap x y l =>
    intro ds r
    cases r with
    | cons q r =>
      cases r with
      | cons q2 r => exact ⟨_ :: _ :: _, .swap _ _ _, .cons q2 (.cons q r)⟩
  | trans _ _ ih1 ih2 =>
    intro ds r
    obtain ⟨es, h1, h2⟩ := ih2 r
    obtain ⟨fs, h3, h4⟩ := ih1 h2
    exact ⟨fs, h3.trans h1, h4⟩
theorem intsD_of : ∀ {ds : List D} {n : List Int}, intsD ds = some n → ds = n.map D.int
  | [], n, h => by cases h; rfl
  | e :: r, n, h => by
    cases e with
    | int i =>
      unfold intsD at h
      cases q : intsD r with
      | none => rw [q] at h; cases h
      | some ms =>
        rw [q] at h
        cases h
        rw [intsD_of q]
        rfl
    | _ => cases h
theorem tupI_of {d : D} {n : List Int} (h : tupI d = some n) : d = tOf n := by
  cases d with
  | tup ds =>
    have h : intsD ds = some n := h
    rw [intsD_of h]
    rfl
  | _ => cases h
theorem tupsI_of : ∀ {ds : List D} {nss : List (List Int)}, tupsI ds = some nss → ds = nss.map tOf
  | [], _, h => by cases h; rfl
  | d :: r, nss, h => by
    unfold tupsI at h
    split at h
    · rename_i n ns h1 h2
      cases h
      rw [tupI_of h1, tupsI_of h2]
      rfl
    · cases h
theorem tOf_inj {a b : List Int} (h : tOf a = tOf b) : a = b := by
  unfold tOf at h
  have h := D.tup.inj h
  have inj : ∀ {a b : List Int}, a.map D.int = b.map D.int → a = b := by
    intro a
    induction a with
    | nil => intro b h; cases b with
      | nil => rfl
      | cons _ _ => cases h
    | cons x a ih => intro b h; cases b with
      | nil => cases h
      | cons y b =>
        simp only [List.map_cons, List.cons.injEq, D.int.injEq] at h
        rw [h.1, ih h.2]
  exact inj h
theorem tupI_rp {H : Hp} {al : List Addr} {n : List Int} {v : V} (r : Rp T H al (tOf n) v) : TupI T.K H v n := by
  unfold tOf at r
  cases r with
  | tup hq r =>
    have e : ∀ {n : List Int} {xs : List V}, RpL T H al (n.map D.int) xs → xs = n.map V.int := by
      intro n
      induction n with
      | nil => intro xs r; cases r; rfl
      | cons i n ih =>
        intro xs r
        cases r with
        | cons q r =>
          cases q
          rw [ih r]
          rfl
    rw [e r] at hq
    exact ⟨_, rfl, hq⟩
theorem fSorted_ok {m : Bool} : OpL T W (rSortA T.K) (fSorted m) := by
  intro si al mu H ds xs Q s r h
  unfold fSorted at h
  split at h
  · rename_i d
    split at h
    · rename_i es hq
      obtain ⟨x, rfl, r1⟩ := rpl1 r
      obtain ⟨a, ys, rfl, h1, r2⟩ := vwL_ok s r1 hq
      split at h
      · rename_i ns hn
        have e := intsD_ok r2 hn
        subst e
        refine .inl ⟨a, ns, rfl, SqL.of h1, fun ns' p hp ho hf => ?_⟩
        have e : srtS id ns = ns' := srtS_eq hp ho fun _ _ _ _ h => h
        rw [e] at h
        have rI : ∀ l : List Int, RpL T H al (l.map D.int) (l.map V.int) := fun l => by
          induction l with
          | nil => exact .nil
          | cons i l ih => exact .cons (.int i) ih
        exact mkL_of s (rI ns') h p hf
      · split at h
        · rename_i n nss hn
          split at h
          · rename_i hok
            have ee := tupsI_of hn
            subst ee
            unfold okTups at hok
            simp only [Bool.and_eq_true, decide_eq_true_eq] at hok
            obtain ⟨⟨k1, k2⟩, k3⟩ := hok
            rw [List.all_eq_true] at k3
            have K : ∀ q ∈ n :: nss, q.length = n.length ∧ TS.Bd 1000 q := fun q hq => by
              have := k3 q hq
              simp only [Bool.and_eq_true, decide_eq_true_eq, List.all_eq_true] at this
              exact ⟨this.1, fun i hi => this.2 i hi⟩
            have hlen := r2.length
            rw [List.length_map] at hlen
            refine .inr ⟨n.length, k2, a, ys, rfl, SqL.of h1, by rw [← hlen]; exact k1, fun x hx => ?_, fun zs p hp ho hf => ?_⟩
            · obtain ⟨i, hi⟩ := List.getElem?_of_mem hx
              obtain ⟨d', hd, rd⟩ := r2.getV hi
              rw [List.getElem?_map] at hd
              cases q : (n :: nss)[i]? with
              | none => rw [q] at hd; cases hd
              | some w =>
                rw [q] at hd
                cases hd
                obtain ⟨b1, b2⟩ := K w (List.mem_of_getElem? q)
                exact ⟨w, tupI_rp rd, b1, b2⟩
            · obtain ⟨fs, p1, r3⟩ := r2.perm hp
              have hfs : ∃ l, fs = List.map tOf l ∧ l.Perm (n :: nss) := by
                have : ∀ {fs : List D} {l : List (List Int)}, fs.Perm (l.map tOf) → ∃ l' : List (List Int), fs = l'.map tOf ∧ l'.Perm l := by
                  intro fs l hp
                  have hm : ∀ x ∈ fs, ∃ n, x = tOf n := fun x hx => by
                    obtain ⟨n, _, e⟩ := List.mem_map.mp (hp.mem_iff.mp hx)
                    exact ⟨n, e.symm⟩
                  have : ∃ l' : List (List Int), fs = l'.map tOf := by
                    clear hp
                    induction fs with
                    | nil => exact ⟨[], rfl⟩
                    | cons x fs ih =>
                      obtain ⟨n, e⟩ := hm x (by simp)
                      obtain ⟨l', e2⟩ := ih fun y hy => hm y (by simp [hy])
                      exact ⟨n :: l', by rw [e, e2]; rfl⟩
                  obtain ⟨l', rfl⟩ := this
                  refine ⟨l', rfl, ?_⟩
                  have un : ∀ l : List (List Int), (l.map tOf).filterMap tupI = l := by
                    have ti : ∀ n, tupI (tOf n) = some n := fun n => by
                      show intsD (n.map D.int) = some n
                      induction n with
                      | nil => rfl
                      | cons i n ih =>
                        show (intsD (n.map D.int)).map (i :: ·) = _
                        rw [ih]
                        rfl
                    intro l
                    induction l with
                    | nil => rfl
                    | cons n l ih => rw [List.map_cons, List.filterMap_cons, ti, ih]
                  have := hp.filterMap tupI
                  rw [un, un] at this
                  exact this
                exact this p1
              obtain ⟨l, rfl, pl⟩ := hfs
              have hsort : l.Pairwise (fun a b => TS.code 1000 a ≤ TS.code 1000 b) := by
                have gen : ∀ {l : List (List Int)} {zs : List V}, RpL T H al (l.map tOf) zs → zs.Pairwise (fun x y => ∀ n m, TupI T.K H x n → TupI T.K H y m → TS.code 1000 n ≤ TS.code 1000 m) → l.Pairwise (fun a b => TS.code 1000 a ≤ TS.code 1000 b) := by
                  intro l
                  induction l with
                  | nil => exact fun _ _ => .nil
                  | cons n l ih =>
                    intro zs r ho
                    cases r with
                    | cons q r =>
                      have ho := List.pairwise_cons.mp ho
                      refine List.pairwise_cons.mpr ⟨fun b hb => ?_, ih r ho.2⟩
                      obtain ⟨i, hi⟩ := List.getElem?_of_mem hb
                      obtain ⟨v, hv, rv⟩ := r.get (i := i) (d := tOf b) (by rw [List.getElem?_map, hi]; rfl)
                      exact ho.1 v (List.mem_of_getElem? hv) _ _ (tupI_rp q) (tupI_rp rv)
                exact gen r3 ho
              have e : srtS (TS.code 1000) (n :: nss) = l := srtS_eq pl hsort fun a b ha hb h => code_inj ((K a ha).1.trans (K b hb).1.symm) (K a ha).2 (K b hb).2 h
              rw [e] at h
              exact mkL_of s r3 h p hf
          · exact h.elim
        · exact h.elim
    · exact h.elim
  · exact h.elim
end
end DL

set_option Elab.async false
set_option linter.all false
set_option maxRecDepth 100000
set_option maxHeartbeats 4000000
/-! DL9: from the text to what it means: expressions. -/
namespace DL
open PySem PySem.Spec PyProof.Rows L2

structure Fn where
  F : List D → M D
  ps : List Str
  kw : List (List Str × List Nat)
structure Kl where
  c : Nat
  tr : Bool
  F : List D → M D
  ps : List Str
/-- what is known of the names around -/
structure CC where
  N : List Str
  sc : Scope
  fnc : List Str
  mu : List (Nat × Nat)
  fs : List (Str × Fn)
  ks : List (Str × Kl)
  cs : List (Str × D)
  bl : List Str
  cl : List (Nat × List Str)
def ixS (x : Str) : List Str → Nat → Option Nat
  | [], _ => none
  | y :: r, i => if y = x then some i else ixS x r (i + 1)
theorem ixS_ok {x : Str} : ∀ {l : List Str} {i j : Nat}, ixS x l i = some j → ∃ k, j = i + k ∧ l[k]? = some x
  | [], _, _, h => by cases h
  | y :: r, i, j, h => by
    unfold ixS at h
    split at h
    · rename_i e
      cases h
      exact ⟨0, rfl, by simp [e]⟩
    · obtain ⟨k, h1, h2⟩ := ixS_ok h
      exact ⟨k + 1, by omega, by simpa using h2⟩
theorem ixS_get {x : Str} {l : List Str} {j : Nat} (h : ixS x l 0 = some j) : l[j]? = some x := by
  obtain ⟨k, rfl, h2⟩ := ixS_ok h
  rw [Nat.zero_add]
  exact h2
def lk {A : Type} (x : Str) : List (Str × A) → Option A
  | [] => none
  | (y, a) :: r => if y = x then some a else lk x r
theorem lk_mem {A : Type} {x : Str} {a : A} : ∀ {l : List (Str × A)}, lk x l = some a → (x, a) ∈ l
  | [], h => by cases h
  | (y, b) :: r, h => by
    unfold lk at h
    split at h
    · rename_i e
      cases h
      rw [e]; exact List.mem_cons_self ..
    · exact List.mem_cons_of_mem _ (lk_mem h)
def isVis (sc : Scope) (x : Str) : Bool := match sc.names.lookup x with
  | some .local => true
  | some .cell => true
  | some .free => true
  | _ => false
def isLoc (sc : Scope) (x : Str) : Bool := match sc.names.lookup x with
  | some .local => true
  | _ => false
def isGlo (sc : Scope) (x : Str) : Bool := match sc.names.lookup x with
  | some .globalImplicit => true
  | _ => false
def cellsOf (sc : Scope) : List Str := (sc.names.map (·.1)).filter fun x => sc.names.lookup x == some .cell
def CC.inn (c : CC) (sc : Scope) : CC := { c with sc := relS sc c.sc, fnc := cellsOf sc }
/-- a name that is assigned here -/
def isAs (c : CC) (x : Str) : Bool := isLoc c.sc x || ((c.sc.names.lookup x == some .cell) && c.fnc.contains x)
def okName (x : Str) : Bool := !(x == ("__debug__" : Str)) && !(x == ("__classdict__" : Str)) && !(x == ("__name__" : Str))
structure KwOk (fd : FuncData) (ps : List Str) (q : List Str × List Nat) : Prop where
  b : ∀ ws : List Value, ws.length = q.1.length → bindArgs fd ⟨[], q.1.zip ws⟩ = pure (ps.zip (reord q.2 .none ws))
  i : ∀ i ∈ q.2, i < q.1.length
  l : q.2.length = ps.length
structure FnOkG (T : Tbl) (X : Cx) (x : Str) (fn : Fn) : Prop where
  ex : ∃ f fd k, (∀ hid, FnG X.prog X.w X.K X.mg X.base (T.hd hid) k f fd fn.ps fn.F) ∧ Room k X.A ∧ X.mg x = some (.ref f) ∧ PySem.W.keepIn X.K (.ref f) = true ∧ Binds X.K fd fn.ps [] ∧ ∀ q ∈ fn.kw, KwOk fd fn.ps q
  n : ∀ ds mu, ds.length ≠ fn.ps.length → fn.F ds mu = .bad
structure KlOkG (T : Tbl) (X : Cx) (x : Str) (kl : Kl) : Prop where
  ex : ∃ f fd k C, Mk X.K C f ∧ (∀ hid, FnG X.prog X.w X.K X.mg X.base (T.hd hid) k f fd kl.ps kl.F) ∧ Room (k + 1) X.A ∧ X.mg x = some (.ref C) ∧ T.cls kl.c = some C ∧ Binds X.K fd kl.ps []
  n : ∀ ds mu, ds.length ≠ kl.ps.length → kl.F ds mu = .bad
structure CcOk (c : CC) (T : Tbl) (W : WX) (X : Cx) : Prop where
  K : T.K = X.K
  N : X.N = c.N
  nd : c.N.Nodup
  sc : X.env.scope = c.sc
  calm : X.calm = true
  un : X.A.units + 64 < cLine
  gu : X.A.guards = some []
  tk : Takes X W
  fnc : ∀ x ∈ c.fnc, X.fn x = true
  fs : ∀ x fn, (x, fn) ∈ c.fs → FnOkG T X x fn
  ks : ∀ x kl, (x, kl) ∈ c.ks → KlOkG T X x kl
  cs : ∀ x d, (x, d) ∈ c.cs → ∃ v u, X.mg x = some u ∧ RelV v u ∧ ∀ hid H al, Rp (T.hd hid) H al d v
  bl : ∀ x ∈ c.bl, X.mg x = none
  cl : ∀ q ∈ c.cl, ClsOk T q.1 q.2
/-- in a comprehension's block -/
theorem CcOk.blk {c : CC} {T : Tbl} {W : WX} {X : Cx} (h : CcOk c T W X) (hid : List Addr) (s : Shared) (H : Hp) (scope : Scope) (cl : List (Str × Addr)) (C : Addr) (fp : List Addr) :
    CcOk (c.inn scope) (T.hd hid) Wno (X.blk s H scope (compEnvC scope cl C X.env) fp) where
  K := h.K
  N := h.N
  nd := h.nd
  sc := by
    have e := h.sc
    show relS scope X.env.scope = relS scope c.sc
    rw [e]
  calm := h.calm
  un := h.un
  gu := h.gu
  tk := fun u s' ⟨_, _, _, _, _, _, _, _, _, _, _, _, _, _, _, _, w⟩ => w
  fnc := fun x hx => by
    have hx : x ∈ cellsOf scope := hx
    unfold cellsOf at hx
    exact (List.mem_filter.mp hx).2
  fs := fun x fn m => ⟨(h.fs x fn m).ex, (h.fs x fn m).n⟩
  ks := fun x kl m => ⟨(h.ks x kl m).ex, (h.ks x kl m).n⟩
  cs := h.cs
  bl := h.bl
  cl := fun q m => ⟨(h.cl q m).ok⟩
section
variable {c : CC} {T : Tbl} {W : WX} {X : Cx}
theorem CcOk.vis (h : CcOk c T W X) {x : Str} (e : isVis c.sc x = true) : Vis X.env.scope x := by
  rw [h.sc]
  unfold isVis at e
  unfold Vis
  cases q : c.sc.names.lookup x with
  | none => rw [q] at e; cases e
  | some k =>
    rw [q] at e
    cases k <;> first | (cases e; done) | simp
theorem CcOk.loc (h : CcOk c T W X) {x : Str} (e : isLoc c.sc x = true) : X.env.scope.names.lookup x = some .local := by
  rw [h.sc]
  unfold isLoc at e
  cases q : c.sc.names.lookup x with
  | none => rw [q] at e; cases e
  | some k =>
    rw [q] at e
    cases k <;> first | (cases e; done) | rfl
theorem CcOk.asg (h : CcOk c T W X) {x : Str} (e : isAs c x = true) : Loc X.env.scope x ∧ (X.fn x = true ∨ X.env.scope.names.lookup x = some .local) := by
  unfold isAs at e
  rw [Bool.or_eq_true] at e
  rcases e with e | e
  · exact ⟨.inl (h.loc e), .inr (h.loc e)⟩
  · rw [Bool.and_eq_true] at e
    exact ⟨.inr (by rw [h.sc]; exact eq_of_beq e.1), .inl (h.fnc x (by simpa using e.2))⟩
theorem CcOk.glo (h : CcOk c T W X) {x : Str} (e : isGlo c.sc x = true) : Gl X x := by
  show X.env.scope.names.lookup x = _
  rw [h.sc]
  unfold isGlo at e
  cases q : c.sc.names.lookup x with
  | none => rw [q] at e; cases e
  | some k =>
    rw [q] at e
    cases k <;> first | (cases e; done) | rfl
theorem okName_d {x : Str} (h : okName x = true) : (x == ("__debug__" : Str)) = false ∧ (x == ("__classdict__" : Str)) = false ∧ x ≠ "__name__" := by
  unfold okName at h
  simp only [Bool.and_eq_true, Bool.not_eq_true'] at h
  exact ⟨h.1.1, h.1.2, fun e => by rw [e] at h; simp at h⟩
end

/-! ### shapes -/
def notStar : Expr → Bool
  | .Starred _ _ => false
  | _ => true
theorem star_ne {e : Expr} {es : List Expr} {env : PySem.Env} (h : notStar e = true) : starEach (e :: es) env = (false, eval e env) :: starEach es env := by
  cases e <;> first | rfl | cases h
theorem plain_of {pos : Pos} {env : PySem.Env} : ∀ {es : List Expr}, es.all notStar = true → (backTo pos (starEach es env)).any (·.1) = false
  | [], _ => rfl
  | e :: es, h => by
    simp only [List.all_cons, Bool.and_eq_true] at h
    rw [star_ne h.1]
    show (false || (backTo pos (starEach es env)).any (·.1)) = false
    rw [plain_of h.2]
    rfl
def notSup : Expr → Bool
  | .Call (.Name _ _) [] [] _ => false
  | _ => true
theorem base_of {e : Expr} {a : Str} {env : PySem.Env} (h : notSup e = true) : attributeBase e a env (eval e env) = eval e env := by
  unfold attributeBase
  split
  · cases h
  · rfl
def notSl : Expr → Bool
  | .Slice _ _ _ _ => false
  | _ => true
theorem plainIx_of {b : Expr} (h : notSl b = true) : PlainIx b := by
  intro o i
  cases b <;> first | rfl | cases h
def notTst : Expr → Bool
  | .UnaryOp .Not _ _ => false
  | .BoolOp _ _ _ => false
  | .IfExp _ _ _ _ => false
  | .Compare _ _ _ _ => false
  | _ => true
theorem tst_of {e : Expr} {env : PySem.Env} (h : notTst e = true) (whole : Sem Value) : isTrue e env whole = (do let v ← whole; standAt e.pos; holding [v] (truthy v)) := by
  unfold PySem.isTrue
  split <;> first | (cases h; done) | rfl
def notSet : Expr → Bool
  | .Set _ _ _ => false
  | _ => true
theorem set_of {e : Expr} {env : PySem.Env} (h : notSet e = true) (x : Value) : foldedSetIterable e env x = pure x := by
  cases e <;> first | rfl | cases h
theorem kw_of {env : PySem.Env} {pos : Pos} : ∀ {kws : List Keyword} {ks : List Str}, kws.map (·.arg) = ks.map some →
    (backToKw pos (keywordEach kws env)).all (·.1.isSome) = true ∧ (backToKw pos (keywordEach kws env)).filterMap (·.1) = ks ∧ (backToKw pos (keywordEach kws env)).any (·.1.isNone) = false
  | [], [], _ => ⟨rfl, rfl, rfl⟩
  | [], _ :: _, h => by cases h
  | _ :: _, [], h => by cases h
  | ⟨nm, e, p⟩ :: kws, k :: ks, h => by
    simp only [List.map_cons, List.cons.injEq] at h
    obtain ⟨h1, h2⟩ := h
    subst h1
    obtain ⟨i1, i2, i3⟩ := kw_of (env := env) (pos := pos) h2
    refine ⟨?_, ?_, ?_⟩
    · show (true && (backToKw pos (keywordEach kws env)).all (·.1.isSome)) = true
      rw [i1]; rfl
    · show k :: (backToKw pos (keywordEach kws env)).filterMap (·.1) = _
      rw [i2]
    · show (false || (backToKw pos (keywordEach kws env)).any (·.1.isNone)) = false
      rw [i3]; rfl

/-! ### the parts -/
structure RC where
  E : CC → Expr → Option SE
  B : CC → Expr → Option SB
structure RcOk (r : RC) : Prop where
  E : ∀ {c T W X e g}, CcOk c T W X → r.E c e = some g → PE X e (tD T W g)
  B : ∀ {c T W X e g}, CcOk c T W X → r.B c e = some g → PT X e (tDB T W g)
def atP (c : CC) (p : Pos) : Bool := c.mu.any fun q => q.1 == p.line && q.2 == p.col
def cName (c : CC) (x : Str) : Option SE := if okName x = true then
  (if isVis c.sc x = true then (match ixS x c.N 0 with
    | some i => some (eVar i)
    | none => none)
  else if isGlo c.sc x = true then (match lk x c.cs with
    | some d => some (eC d)
    | none => if c.bl.contains x = true then (if x = "int" then some (eC (.ty "int")) else if x = "bool" then some (eC (.ty "bool")) else if x = "tuple" then some (eC (.ty "tuple")) else if x = "list" then some (eC (.ty "list")) else if x = "str" then some (eC (.ty "str")) else none) else none)
  else none) else none
section
variable {r : RC} {c : CC} {T : Tbl} {W : WX} {X : Cx} {pos : Pos} {e : Expr} {g : SE}
theorem cName_ok (h : CcOk c T W X) {x : Str} (q : cName c x = some g) : PE X (.Name x pos) (tD T W g) := by
  unfold cName at q
  split at q
  · rename_i hn
    obtain ⟨n1, n2, n3⟩ := okName_d hn
    split at q
    · rename_i hv
      split at q
      · rename_i i hi
        cases q
        exact se_var (by rw [h.N]; exact ixS_get hi) (h.vis hv) n1 n2
      · cases q
    · split at q
      · rename_i hg
        split at q
        · rename_i d hd
          cases q
          obtain ⟨v, u, h1, h2, h3⟩ := h.cs x d (lk_mem hd)
          exact se_const (pe_glob (h.glo hg) h1 h2 n1) fun H al => h3 T.hid H al
        · split at q
          · rename_i hb
            have hm := h.bl x (by simpa using hb)
            split at q
            · rename_i e; cases q; subst e
              exact se_const (pe_bltn (v := .ty "int") (h.glo hg) hm boot_int rfl n3 n1) fun _ _ => .ty _
            · split at q
              · rename_i e; cases q; subst e
                exact se_const (pe_bltn (v := .ty "bool") (h.glo hg) hm boot_bool rfl n3 n1) fun _ _ => .ty _
              · split at q
                · rename_i e; cases q; subst e
                  exact se_const (pe_bltn (v := .ty "tuple") (h.glo hg) hm boot_tuple rfl n3 n1) fun _ _ => .ty _
                · split at q
                  · rename_i e; cases q; subst e
                    exact se_const (pe_bltn (v := .ty "list") (h.glo hg) hm boot_list rfl n3 n1) fun _ _ => .ty _
                  · split at q
                    · rename_i e; cases q; subst e
                      exact se_const (pe_bltn (v := .ty "str") (h.glo hg) hm boot_str rfl n3 n1) fun _ _ => .ty _
                    · cases q
          · cases q
      · cases q
  · cases q
def cCon : Const → Option SE
  | .none => some (eC .non)
  | .bool b => some (eC (.bl b))
  | .int i => some (eC (.int i))
  | .str s => some (eC (.str s))
  | _ => none
theorem cCon_ok {k : Const} {j : Nat} (q : cCon k = some g) : PE X (.Constant k j pos) (tD T W g) := by
  cases k <;> first | (cases q; done) | skip
  · cases q; exact se_const pe_non fun _ _ => .non
  · cases q; exact se_const pe_bl fun _ _ => .bl _
  · cases q; exact se_const pe_int fun _ _ => .int _
  · cases q; exact se_const pe_str fun _ _ => .str _
def opB (m : Bool) : Operator → Option F2
  | .Add => some (fAdd m)
  | .Sub => some fSub
  | .Mult => some (fMul m)
  | .FloorDiv => some fDiv
  | .Mod => some fMod
  | .Pow => some fPow
  | _ => none
theorem opB_ok (hT : T.K = X.K) {m : Bool} {op : Operator} {f : F2} (q : opB m op = some f) : ∃ r, OpR X (binaryOp op) r ∧ Op2 T W r f := by
  cases op <;> first | (cases q; done) | skip
  · cases q; exact ⟨_, op_addA, hT ▸ fAdd_ok⟩
  · cases q; exact ⟨_, op_sub, fSub_ok⟩
  · cases q; exact ⟨_, op_mulA, hT ▸ fMul_ok⟩
  · cases q; exact ⟨_, op_mod, fMod_ok⟩
  · cases q; exact ⟨_, op_pow, fPow_ok⟩
  · cases q; exact ⟨_, op_fdivW, fDiv_ok⟩
def opC : CmpOp → Option F2
  | .Eq => some fEq
  | .NotEq => some fNe
  | .Lt => some fLt
  | .LtE => some fLe
  | .Gt => some fGt
  | .GtE => some fGe
  | .Is => some fIsN
  | .IsNot => some fNotN
  | _ => none
theorem opC_ok (h : CcOk c T W X) {op : CmpOp} {f : F2} (q : opC op = some f) : (∃ r, OpR X (compareOp op) r ∧ Op2 T W r f) ∧ ∀ b, behindInMarks op b = false := by
  have hT := h.K
  cases op <;> first | (cases q; done) | (refine ⟨?_, fun b => nomark b⟩)
  · cases q; exact ⟨_, op_eqA h.un, hT ▸ fEq_ok⟩
  · cases q; exact ⟨_, op_neA h.un, hT ▸ fNe_ok⟩
  · cases q; exact ⟨_, op_lt, fCmp_ok⟩
  · cases q; exact ⟨_, op_le, fCmp_ok⟩
  · cases q; exact ⟨_, op_gt, fCmp_ok⟩
  · cases q; exact ⟨_, op_ge, fCmp_ok⟩
  · cases q; exact ⟨_, op_isN, fIsN_ok⟩
  · cases q; exact ⟨_, op_notN, fNotN_ok⟩
def cBin (r : RC) (c : CC) (a : Expr) (op : Operator) (b : Expr) (p : Pos) : Option SE := match r.E c a, r.E c b, opB (atP c p) op with
  | some x, some y, some f => some (e2 f x y)
  | _, _, _ => none
theorem cBin_ok (k : RcOk r) (h : CcOk c T W X) {a b : Expr} {op : Operator} (q : cBin r c a op b pos = some g) : PE X (.BinOp a op b pos) (tD T W g) := by
  unfold cBin at q
  split at q
  · rename_i x y f h1 h2 h3
    cases q
    obtain ⟨rr, o1, o2⟩ := opB_ok (W := W) h.K h3
    exact se_bin o1 o2 (k.E h h1) (k.E h h2)
  · cases q
def cUn (r : RC) (c : CC) (op : UnaryOp) (a : Expr) : Option SE := match r.E c a with
  | some x => (match op with
    | .USub => some (e1 fNeg x)
    | .Not => some (e1 fNot x)
    | _ => none)
  | none => none
theorem cUn_ok (k : RcOk r) (h : CcOk c T W X) {a : Expr} {op : UnaryOp} (q : cUn r c op a = some g) : PE X (.UnaryOp op a pos) (tD T W g) := by
  unfold cUn at q
  split at q
  · rename_i x h1
    cases op <;> first | (cases q; done) | skip
    · cases q; exact se_notV (k.E h h1)
    · cases q; exact se_un un_neg fNeg_ok (k.E h h1)
  · cases q
def cCmp (r : RC) (c : CC) (a : Expr) (ops : List CmpOp) (bs : List Expr) : Option SE := match ops, bs with
  | [op], [b] => (match r.E c a, r.E c b, opC op with
    | some x, some y, some f => some (e2 f x y)
    | _, _, _ => none)
  | [op, op'], [b, d] => (match r.E c a, r.E c b, r.E c d, opC op, opC op' with
    | some x, some y, some z, some f, some f' => some (eChain f f' x y z)
    | _, _, _, _, _ => none)
  | _, _ => none
theorem cCmp_ok (k : RcOk r) (h : CcOk c T W X) {a : Expr} {ops : List CmpOp} {bs : List Expr} (q : cCmp r c a ops bs = some g) : PE X (.Compare a ops bs pos) (tD T W g) ∧ PT X (.Compare a ops bs pos) (tDB T W (bOf g)) := by
  unfold cCmp at q
  split at q
  · rename_i op b
    split at q
    · rename_i x y f h1 h2 h3
      cases q
      obtain ⟨⟨rr, o1, o2⟩, o3⟩ := opC_ok h h3
      exact ⟨se_cmp o1 o2 (k.E h h1) (k.E h h2) (o3 b), st_cmp o1 o2 (k.E h h1) (k.E h h2) (o3 b)⟩
    · cases q
  · rename_i op op' b d
    split at q
    · rename_i x y z f f' h1 h2 h3 h4 h5
      cases q
      obtain ⟨⟨rr, o1, o2⟩, o3⟩ := opC_ok h h4
      obtain ⟨⟨rr', o1', o2'⟩, o3'⟩ := opC_ok h h5
      have hm : lastMarks [op, op'] [b, d] = false := o3' d
      exact ⟨se_chain o1 o1' o2 o2' (k.E h h1) (k.E h h2) (k.E h h3) hm, st_chain o1 o1' o2 o2' (k.E h h1) (k.E h h2) (k.E h h3) hm⟩
    · cases q
  · cases q
def cBoV (r : RC) (c : CC) (op : BoolOp) : List Expr → Option SE
  | [] => none
  | [a] => r.E c a
  | a :: b :: rest => match r.E c a, cBoV r c op (b :: rest) with
    | some x, some y => some (match op with
      | .And => eAnd x y
      | .Or => eOr x y)
    | _, _ => none
theorem cBoV_ok (k : RcOk r) (h : CcOk c T W X) {op : BoolOp} : ∀ {es : List Expr} {g : SE}, cBoV r c op es = some g → PE X (.BoolOp op es pos) (tD T W g)
  | [], _, q => by cases q
  | [a], _, q => pe_one (k.E h q)
  | a :: b :: rest, g, q => by
    unfold cBoV at q
    split at q
    · rename_i x y h1 h2
      cases q
      have i2 := cBoV_ok k h (op := op) h2
      cases op
      · exact se_and (k.E h h1) i2
      · exact se_or (k.E h h1) i2
    · cases q
def cBoT (r : RC) (c : CC) (op : BoolOp) : List Expr → Option SB
  | [] => none
  | [a] => r.B c a
  | a :: b :: rest => match r.B c a, cBoT r c op (b :: rest) with
    | some x, some y => some (match op with
      | .And => bAnd x y
      | .Or => bOr x y)
    | _, _ => none
theorem cBoT_ok (k : RcOk r) (h : CcOk c T W X) {op : BoolOp} : ∀ {es : List Expr} {g : SB}, cBoT r c op es = some g → PW X (.BoolOp op es pos) (tDB T W g)
  | [], _, q => by cases q
  | [a], _, q => by
    cases op
    · exact pw_and1 (k.B h q)
    · exact pw_or1 (k.B h q)
  | a :: b :: rest, g, q => by
    unfold cBoT at q
    split at q
    · rename_i x y h1 h2
      cases q
      have i2 := cBoT_ok k h (op := op) h2
      cases op
      · exact sw_and (k.B h h1) i2
      · exact sw_or (k.B h h1) i2
    · cases q
def cArgs (r : RC) (c : CC) : List Expr → Option SA
  | [] => some aNil
  | e :: es => if notStar e = true then (match r.E c e, cArgs r c es with
    | some x, some y => some (aCons x y)
    | _, _ => none) else none
theorem cArgs_ok (k : RcOk r) (h : CcOk c T W X) : ∀ {es : List Expr} {g : SA}, cArgs r c es = some g → PA X es (tDL T W g) ∧ es.all notStar = true
  | [], _, q => by cases q; exact ⟨sa_nil, rfl⟩
  | e :: es, g, q => by
    unfold cArgs at q
    split at q
    · rename_i hs
      split at q
      · rename_i x y h1 h2
        cases q
        obtain ⟨i1, i2⟩ := cArgs_ok k h h2
        exact ⟨sa_cons (k.E h h1) i1 (star_ne hs), by simp [hs, i2]⟩
      · cases q
    · cases q
def cKws (r : RC) (c : CC) : List Keyword → Option SA
  | [] => some aNil
  | ⟨_, e, _⟩ :: es => match r.E c e, cKws r c es with
    | some x, some y => some (aCons x y)
    | _, _ => none
theorem cKws_ok (k : RcOk r) (h : CcOk c T W X) : ∀ {es : List Keyword} {g : SA}, cKws r c es = some g → PK X es (tDL T W g)
  | [], _, q => by cases q; exact sk_nil
  | ⟨_, e, _⟩ :: es, g, q => by
    unfold cKws at q
    split at q
    · rename_i x y h1 h2
      cases q
      exact sk_cons (k.E h h1) (cKws_ok k h h2)
    · cases q
/-! slices, items -/
def cPart (r : RC) (c : CC) : Option Expr → Option SO
  | none => some oNone
  | some e => match r.E c e with
    | some x => some (oSome x)
    | none => none
theorem cPart_ok (k : RcOk r) (h : CcOk c T W X) {o : Option Expr} {g : SO} (q : cPart r c o = some g) : PO X o (tDO T W g) := by
  cases o with
  | none => cases q; exact so_none
  | some e =>
    unfold cPart at q
    simp only at q
    split at q
    · rename_i x h1
      cases q
      exact so_some (k.E h h1)
    · cases q
def cSub (r : RC) (c : CC) (a b : Expr) (p : Pos) : Option SE := match r.E c a with
  | some x => (match b with
    | .Slice none none (some (.UnaryOp .USub (.Constant (.int 1) _ _) _)) _ => some (e1 (fRev (atP c p)) x)
    | .Slice lo hi none _ => (match cPart r c lo, cPart r c hi with
      | some l, some u => some (eSl (atP c p) x l u)
      | _, _ => none)
    | .Slice _ _ _ _ => none
    | b => (match r.E c b with
      | some y => if notSl b = true then some (e2 fIx x y) else none
      | none => none))
  | none => none
theorem cSub_ok (k : RcOk r) (h : CcOk c T W X) {a b : Expr} (q : cSub r c a b pos = some g) : PE X (.Subscript a b pos) (tD T W g) := by
  unfold cSub at q
  split at q
  · rename_i x h1
    split at q
    · cases q; exact se_rev h.K (k.E h h1)
    · split at q
      · rename_i l u h2 h3
        cases q
        exact se_slice h.K (k.E h h1) (cPart_ok k h h2) (cPart_ok k h h3)
      · cases q
    · cases q
    · split at q
      · rename_i y h2
        split at q
        · rename_i h3
          cases q
          exact se_ix h.K (k.E h h1) (k.E h h2) (plainIx_of h3)
        · cases q
      · cases q
  · cases q

/-! calls -/
def bltF0 (m : Bool) (x : Str) : Option FL := if x = "len" then some fLen else if x = "abs" then some fAbs else if x = "int" then some fInt else if x = "sum" then some fSum else if x = "all" then some fAll else if x = "any" then some fAny else
  if x = "max" then some fMax2 else if x = "min" then some fMin2 else if x = "tuple" then some fTuple else if x = "list" then some (fList m) else if x = "isinstance" then some fIsi else if x = "repr" then some fRepr else none
theorem bltF0_ok (h : CcOk c T W X) {m : Bool} {x : Str} {f : FL} {p : Pos} {e : Expr} {es : List Expr} {gs : SA} (q : bltF0 m x = some f) (hn : okName x = true) (hg : isGlo c.sc x = true) (hb : c.bl.contains x = true) (ha : PA X (e :: es) (tDL T W gs)) (hs : (e :: es).all notStar = true) :
    PE X (.Call (.Name x p) (e :: es) [] pos) (tD T W (eCall f gs)) := by
  obtain ⟨n1, n2, n3⟩ := okName_d hn
  have hm := h.bl x (by simpa using hb)
  have G := h.glo hg
  have hT := h.K
  simp only [List.all_cons, Bool.and_eq_true] at hs
  have s1 := star_ne (env := X.env) (es := es) hs.1
  have s2 := plain_of (pos := pos) (env := X.env) hs.2
  unfold bltF0 at q
  split at q
  · rename_i e1; cases q; subst e1; exact se_callB call_len (hT ▸ fLen_ok) G hm boot_len n3 n1 s1 s2 ha
  split at q
  · rename_i e1; cases q; subst e1; exact se_callB call_abs fAbs_ok G hm boot_abs n3 n1 s1 s2 ha
  split at q
  · rename_i e1; cases q; subst e1; exact se_callTy call_int1 fInt_ok G hm boot_int n3 n1 s1 s2 ha
  split at q
  · rename_i e1; cases q; subst e1; exact se_callB (cr_sum h.calm) (hT ▸ fSum_ok) G hm boot_sum n3 n1 s1 s2 ha
  split at q
  · rename_i e1; cases q; subst e1; exact se_callB (cr_all h.calm) (hT ▸ fAll_ok) G hm boot_all n3 n1 s1 s2 ha
  split at q
  · rename_i e1; cases q; subst e1; exact se_callB (cr_any h.calm) (hT ▸ fAny_ok) G hm boot_any n3 n1 s1 s2 ha
  split at q
  · rename_i e1; cases q; subst e1; exact se_callB (call_max2 h.calm) fMax2_ok G hm boot_max n3 n1 s1 s2 ha
  split at q
  · rename_i e1; cases q; subst e1; exact se_callB (call_min2 h.calm) fMin2_ok G hm boot_min n3 n1 s1 s2 ha
  split at q
  · rename_i e1; cases q; subst e1; exact se_callTy call_tuple_of (hT ▸ fTuple_ok) G hm boot_tuple n3 n1 s1 s2 ha
  split at q
  · rename_i e1; cases q; subst e1; exact se_callTy call_list_of (hT ▸ fList_ok) G hm boot_list n3 n1 s1 s2 ha
  split at q
  · rename_i e1; cases q; subst e1; exact se_callB call_isi (hT ▸ fIsi_ok) G hm boot_isinstance n3 n1 s1 s2 ha
  split at q
  · rename_i e1; cases q; subst e1; exact se_callB (call_reprD h.gu h.un) (hT ▸ fRepr_ok) G hm boot_repr n3 n1 s1 s2 ha
  · cases q
def bltF (m : Bool) (x : Str) : Option FL := if x = "sorted" then some (fSorted m) else bltF0 m x
theorem bltF_ok (h : CcOk c T W X) {m : Bool} {x : Str} {f : FL} {p : Pos} {e : Expr} {es : List Expr} {gs : SA} (q : bltF m x = some f) (hn : okName x = true) (hg : isGlo c.sc x = true) (hb : c.bl.contains x = true) (ha : PA X (e :: es) (tDL T W gs)) (hs : (e :: es).all notStar = true) :
    PE X (.Call (.Name x p) (e :: es) [] pos) (tD T W (eCall f gs)) := by
  unfold bltF at q
  split at q
  · rename_i e1; cases q; subst e1
    obtain ⟨n1, n2, n3⟩ := okName_d hn
    have hs' := hs
    simp only [List.all_cons, Bool.and_eq_true] at hs'
    exact se_callB cr_sortA (h.K ▸ fSorted_ok) (h.glo hg) (h.bl _ (by simpa using hb)) boot_sorted n3 n1 (star_ne (env := X.env) (es := es) hs'.1) (plain_of (pos := pos) (env := X.env) hs'.2) ha
  · exact bltF0_ok h q hn hg hb ha hs
/-- range(..) as a value that tuple or list takes -/
def cRg (r : RC) (c : CC) : Expr → Option SR
  | .Call (.Name x _) [a] [] _ => if x = "range" ∧ isGlo c.sc x = true ∧ c.bl.contains x = true ∧ notStar a = true then (match r.E c a with
    | some g => some (r1 g)
    | none => none) else none
  | .Call (.Name x _) [a, b] [] _ => if x = "range" ∧ isGlo c.sc x = true ∧ c.bl.contains x = true ∧ notStar a = true ∧ notStar b = true then (match r.E c a, r.E c b with
    | some g, some g' => some (r2 g g')
    | _, _ => none) else none
  | _ => none
theorem cRg_ok (k : RcOk r) (h : CcOk c T W X) {e : Expr} {g : SR} (q : cRg r c e = some g) : PRg X e (tRg T W g) := by
  unfold cRg at q
  split at q
  · split at q
    · rename_i hh
      obtain ⟨e1, h2, h3, h4⟩ := hh
      subst e1
      split at q
      · rename_i g' h1
        cases q
        exact sr_1 (h.glo h2) (h.bl _ (by simpa using h3)) (k.E h h1) (star_ne h4)
      · cases q
    · cases q
  · split at q
    · rename_i hh
      obtain ⟨e1, h2, h3, h4, h5⟩ := hh
      subst e1
      split at q
      · rename_i g' g2 h1 h1'
        cases q
        exact sr_2 (h.glo h2) (h.bl _ (by simpa using h3)) (k.E h h1) (k.E h h1') (star_ne h4) (star_ne h5) (plain_of (by simp [h5]))
      · cases q
    · cases q
  · cases q
def cCallR (r : RC) (c : CC) (x : Str) (es : List Expr) (p : Pos) : Option SE := if isGlo c.sc x = true ∧ c.bl.contains x = true then (match es with
  | [e] => (match cRg r c e with
    | some g => if notStar e = true then (if x = "tuple" then some (eTupRg g) else if x = "list" then some (eLstRg (atP c p) g) else none) else none
    | none => none)
  | _ => none) else none
theorem cCallR_ok (k : RcOk r) (h : CcOk c T W X) {x : Str} {es : List Expr} {p : Pos} (q : cCallR r c x es pos = some g) : PE X (.Call (.Name x p) es [] pos) (tD T W g) := by
  unfold cCallR at q
  split at q
  · rename_i hh
    have G := h.glo hh.1
    have hm := h.bl x (by simpa using hh.2)
    split at q
    · split at q
      · rename_i e g' h1
        split at q
        · rename_i hs
          split at q
          · rename_i e1; cases q; subst e1; exact se_tupRg h.calm G hm (cRg_ok k h h1) (star_ne hs)
          · split at q
            · rename_i e1; cases q; subst e1; exact se_lstRg h.calm G hm (cRg_ok k h h1) (star_ne hs)
            · cases q
        · cases q
      · cases q
    · cases q
  · cases q
noncomputable def cCallN (r : RC) (c : CC) (x : Str) (es : List Expr) (p : Pos) : Option SE := match es with
  | [] => none
  | e :: es => if okName x = true ∧ isGlo c.sc x = true then (match cArgs r c (e :: es) with
    | some a => (match lk x c.fs with
      | some fn => some (cCall fn.F a)
      | none => (match lk x c.ks with
        | some kl => some (cCall (mkIt kl.c kl.tr kl.F) a)
        | none => if c.bl.contains x = true then (match bltF (atP c p) x with
          | some f => some (eCall f a)
          | none => none) else none))
    | none => none) else none
theorem cCallN_ok (k : RcOk r) (h : CcOk c T W X) {x : Str} {es : List Expr} {p : Pos} (q : cCallN r c x es pos = some g) : PE X (.Call (.Name x p) es [] pos) (tD T W g) := by
  unfold cCallN at q
  split at q
  · cases q
  · rename_i e es
    split at q
    · rename_i hn
      obtain ⟨n1, n2, n3⟩ := okName_d hn.1
      split at q
      · rename_i a ha
        obtain ⟨a1, a2⟩ := cArgs_ok k h ha
        have a2' := a2
        simp only [List.all_cons, Bool.and_eq_true] at a2'
        have s1 := star_ne (env := X.env) (es := es) a2'.1
        have s2 := plain_of (pos := pos) (env := X.env) a2'.2
        split at q
        · rename_i fn hf
          cases q
          have H := h.fs x fn (lk_mem hf)
          obtain ⟨f, fd, kk, h1, h2, h3, h4, h5, _⟩ := H.ex
          exact se_callG h1 h2 h.gu h.tk (h.glo hn.2) h3 h4 h5 H.n a1 n1 s1 s2
        · split at q
          · rename_i kl hf
            cases q
            have H := h.ks x kl (lk_mem hf)
            obtain ⟨f, fd, kk, C, h1, h2, h3, h4, h5, h6⟩ := H.ex
            exact se_make h1 h2 h3 h.gu h.tk (h.glo hn.2) h4 h5 h6 H.n a1 n1 s1 s2
          · split at q
            · rename_i hb
              split at q
              · rename_i f hf
                cases q
                exact bltF_ok h hf hn.1 hn.2 hb a1 a2
              · cases q
            · cases q
      · cases q
    · cases q
def cCallK' (r : RC) (c : CC) (x : Str) (kws : List Keyword) : Option SE := if okName x = true ∧ isGlo c.sc x = true then (match lk x c.fs with
  | some fn => (match cKws r c kws, fn.kw.find? fun q => decide (kws.map (·.arg) = q.1.map some) with
    | some a, some q => some (cCallK fn.F q.1.length q.2 a)
    | _, _ => none)
  | none => none) else none
theorem cCallK'_ok (k : RcOk r) (h : CcOk c T W X) {x : Str} {kws : List Keyword} {p : Pos} (q : cCallK' r c x kws = some g) : PE X (.Call (.Name x p) [] kws pos) (tD T W g) := by
  unfold cCallK' at q
  split at q
  · rename_i hn
    obtain ⟨n1, n2, n3⟩ := okName_d hn.1
    split at q
    · rename_i fn hf
      split at q
      · rename_i a qq ha hq
        cases q
        have H := h.fs x fn (lk_mem hf)
        obtain ⟨f, fd, kk, h1, h2, h3, h4, h5, h6⟩ := H.ex
        have hk : kws.map (·.arg) = qq.1.map some := by
          have := List.find?_some hq
          simpa using this
        have K := h6 qq (List.mem_of_find?_eq_some hq)
        obtain ⟨i1, i2, i3⟩ := kw_of (env := X.env) (pos := pos) hk
        refine se_callK h1 h2 h.gu h.tk (h.glo hn.2) h3 h4 K.b K.i K.l (cKws_ok k h ha) n1 i1 i2 ?_
        rw [i3]; rfl
      · cases q
    · cases q
  · cases q
def mthF (x : Str) : Option FM := if x = "append" then some fAppend else if x = "insert" then some fInsert else none
def cMeth (r : RC) (c : CC) (o : Expr) (x : Str) (es : List Expr) (ap cp : Pos) : Option SE := if notSup o = true ∧ (ap.endLine == cp.line) = true then (match r.E c o with
  | some g => (match es with
    | [] => if x = "pop" then some (eMethL fPop g aNil) else none
    | e :: es => (match cArgs r c (e :: es), mthF x with
      | some a, some f => if (e :: es).length < 29 then some (eMethL f g a) else none
      | _, _ => none))
  | none => none) else none
theorem few_of {es : List Expr} {cpos : Pos} (hl : es.length < 29) (hs : es.all notStar = true) : ((backTo cpos (starEach es X.env)).all (fun x => !x.1) && (backToKw cpos (keywordEach [] X.env)).all (fun x => x.1.isSome)
      && decide (es.length + ([] : List Keyword).length + (if ([] : List Keyword).isEmpty then 0 else 1) < 30)) = true := by
  have h1 : (backTo cpos (starEach es X.env)).all (fun x => !x.1) = true := by
    have := plain_of (pos := cpos) (env := X.env) hs
    rw [List.any_eq_false] at this
    rw [List.all_eq_true]
    intro x hx
    simpa using this x hx
  rw [h1]
  have h2 : (backToKw cpos (keywordEach [] X.env)).all (fun x => x.1.isSome) = true := rfl
  rw [h2]
  simp
  omega
theorem cMeth_ok (k : RcOk r) (h : CcOk c T W X) {o : Expr} {x : Str} {es : List Expr} {ap : Pos} (q : cMeth r c o x es ap pos = some g) : PE X (.Call (.Attribute o x ap) es [] pos) (tD T W g) := by
  unfold cMeth at q
  split at q
  · rename_i hh
    split at q
    · rename_i go ho
      split at q
      · split at q
        · rename_i e1; cases q; subst e1
          exact se_methL0 h.K PySem.F.slot_list_pop PySem.F.type_list_pop mt_pop fPop_ok (base_of hh.1) hh.2 (k.E h ho)
        · cases q
      · rename_i e es
        split at q
        · rename_i a f ha hf
          split at q
          · rename_i hl
            cases q
            obtain ⟨a1, a2⟩ := cArgs_ok k h ha
            have a2' := a2
            simp only [List.all_cons, Bool.and_eq_true] at a2'
            have s1 := star_ne (env := X.env) (es := es) a2'.1
            have s2 := plain_of (pos := pos) (env := X.env) a2'.2
            unfold mthF at hf
            split at hf
            · rename_i e1; cases hf; subst e1
              exact se_methL h.K PySem.F.slot_list_append PySem.F.type_list_append mt_append fAppend_ok (base_of hh.1) hh.2 (few_of hl a2) s1 s2 (k.E h ho) a1
            · split at hf
              · rename_i e1; cases hf; subst e1
                exact se_methL h.K PySem.F.slot_list_insert PySem.F.type_list_insert mt_insert fInsert_ok (base_of hh.1) hh.2 (few_of hl a2) s1 s2 (k.E h ho) a1
              · cases hf
          · cases q
        · cases q
    · cases q
  · cases q
def cAttr (r : RC) (c : CC) (o : Expr) (x : Str) : Option SE := if notSup o = true then (match r.E c o with
  | some g => some (e1 (fFld c.cl x) g)
  | none => none) else none
theorem cAttr_ok (k : RcOk r) (h : CcOk c T W X) {o : Expr} {x : Str} (q : cAttr r c o x = some g) : PE X (.Attribute o x pos) (tD T W g) := by
  unfold cAttr at q
  split at q
  · rename_i hs
    split at q
    · rename_i go ho
      cases q
      exact se_fld h.K h.cl (k.E h ho) (base_of hs)
    · cases q
  · cases q
end
end DL

set_option Elab.async false
set_option linter.all false
set_option maxRecDepth 100000
set_option maxHeartbeats 4000000
/-! DL10: from the text to what it means: targets, comprehensions, statements. -/
namespace DL
open PySem PySem.Spec PyProof.Rows L2
section
variable {r : RC} {c : CC} {T : Tbl} {W : WX} {X : Cx} {pos : Pos} {e : Expr} {g : SE}
/-! what is walked -/
noncomputable def cIt (r : RC) (c : CC) (tg : Expr) : Expr → Option SI
  | .Call (.Name x p) [a] [] p' => if x = "range" then (if isGlo c.sc x = true ∧ c.bl.contains x = true ∧ notStar a = true then (match r.E c a with
      | some g => some (gRg1 (aCons g aNil))
      | none => none) else none)
    else if x = "enumerate" then (if isGlo c.sc x = true ∧ c.bl.contains x = true ∧ notStar a = true then (match r.E c a, tg with
      | some g, .Tuple _ _ _ => some (gEn (aCons g aNil))
      | _, _ => none) else none)
    else (match r.E c (.Call (.Name x p) [a] [] p') with
      | some g => some (gSeq g)
      | none => none)
  | .Call (.Name x p) [a, b] [] p' => if x = "range" then (if isGlo c.sc x = true ∧ c.bl.contains x = true ∧ notStar a = true ∧ notStar b = true then (match r.E c a, r.E c b with
      | some g, some g' => some (gRg2 (aCons g (aCons g' aNil)))
      | _, _ => none) else none)
    else (match r.E c (.Call (.Name x p) [a, b] [] p') with
      | some g => some (gSeq g)
      | none => none)
  | e => (match r.E c e with
      | some g => some (gSeq g)
      | none => none)
theorem cIt_ok (k : RcOk r) (h : CcOk c T W X) {tg e : Expr} {g : SI} (q : cIt r c tg e = some g) : PI X tg e (tI T W g) := by
  unfold cIt at q
  split at q
  · rename_i x p a p'
    split at q
    · rename_i e1; subst e1
      split at q
      · rename_i hh
        split at q
        · rename_i g' h1
          cases q
          have hs := star_ne (env := X.env) (es := []) hh.2.2
          exact si_rg1 (h.glo hh.1) (h.bl _ (by simpa using hh.2.1)) (sa_cons (k.E h h1) sa_nil hs) hs
        · cases q
      · cases q
    · split at q
      · rename_i e1; subst e1
        split at q
        · rename_i hh
          split at q
          · rename_i g' h1
            cases q
            have hs := star_ne (env := X.env) (es := []) hh.2.2
            exact si_enum h.K (h.glo hh.1) (h.bl _ (by simpa using hh.2.1)) (sa_cons (k.E h h1) sa_nil hs) hs
          · cases q
        · cases q
      · split at q
        · rename_i g' h1
          cases q
          exact si_seq h.K (k.E h h1)
        · cases q
  · rename_i x p a b p'
    split at q
    · rename_i e1; subst e1
      split at q
      · rename_i hh
        split at q
        · rename_i g' g2 h1 h2
          cases q
          have hs := star_ne (env := X.env) (es := [b]) hh.2.2.1
          have hs2 := star_ne (env := X.env) (es := []) hh.2.2.2
          exact si_rg2 (h.glo hh.1) (h.bl _ (by simpa using hh.2.1)) (sa_cons (k.E h h1) (sa_cons (k.E h h2) sa_nil hs2) hs) (by rw [hs, hs2]; rfl) hs2
        · cases q
      · cases q
    · split at q
      · rename_i g' h1
        cases q
        exact si_seq h.K (k.E h h1)
      · cases q
  · split at q
    · rename_i g' h1
      cases q
      exact si_seq h.K (k.E h h1)
    · cases q
/-! targets of names -/
def cTg (c : CC) : Nat → Expr → Option (List Nat × SG)
  | 0, _ => none
  | n + 1, .Name x _ => if isAs c x = true then (match ixS x c.N 0 with
      | some i => some ([i], gVar i)
      | none => none) else none
  | n + 1, .Tuple es _ _ => (match es with
      | [a, b] => (match cTg c n a, cTg c n b with
        | some (i, x), some (j, y) => if notStar a = true ∧ notStar b = true then some (i ++ (j ++ []), gTup 2 (gsCons x (gsCons y gsNil))) else none
        | _, _ => none)
      | [a, b, d] => (match cTg c n a, cTg c n b, cTg c n d with
        | some (i, x), some (j, y), some (l, z) => if notStar a = true ∧ notStar b = true ∧ notStar d = true then some (i ++ (j ++ (l ++ [])), gTup 3 (gsCons x (gsCons y (gsCons z gsNil)))) else none
        | _, _, _ => none)
      | _ => none)
  | _, _ => none
theorem asg_ne {e : Expr} {es : List Expr} {env : PySem.Env} (h : notStar e = true) : assignEach (e :: es) env = (false, assign e env) :: assignEach es env := by
  cases e <;> first | rfl | cases h
theorem cTg_ok (h : CcOk c T W X) : ∀ {n : Nat} {e : Expr} {is : List Nat} {t : SG}, cTg c n e = some (is, t) → PG X e (tG T is t)
  | 0, _, _, _, q => by cases q
  | n + 1, .Name x p, is, t, q => by
    unfold cTg at q
    split at q
    · rename_i hl
      split at q
      · rename_i i hi
        cases q
        exact sg_name (h.N ▸ h.nd) (by rw [h.N]; exact ixS_get hi) (h.asg hl).1 (h.asg hl).2
      · cases q
    · cases q
  | n + 1, .Tuple es kk p, is, t, q => by
    unfold cTg at q
    split at q
    · rename_i a b
      split at q
      · rename_i i x j y h1 h2
        split at q
        · rename_i hs
          cases q
          refine sg_tup h.K h.calm (sgs_cons (cTg_ok h h1) (sgs_cons (cTg_ok h h2) sgs_nil ?_) ?_) ?_ ?_
          · rw [asg_ne hs.2]; rfl
          · rw [asg_ne hs.1]; rfl
          · rw [asg_ne hs.1, asg_ne hs.2]; rfl
          · rw [asg_ne hs.1, asg_ne hs.2]; rfl
        · cases q
      · cases q
    · rename_i a b d
      split at q
      · rename_i i x j y l z h1 h2 h3
        split at q
        · rename_i hs
          cases q
          refine sg_tup h.K h.calm (sgs_cons (cTg_ok h h1) (sgs_cons (cTg_ok h h2) (sgs_cons (cTg_ok h h3) sgs_nil ?_) ?_) ?_) ?_ ?_
          · rw [asg_ne hs.2.2]; rfl
          · rw [asg_ne hs.2.1]; rfl
          · rw [asg_ne hs.1]; rfl
          · rw [asg_ne hs.1, asg_ne hs.2.1, asg_ne hs.2.2]; rfl
          · rw [asg_ne hs.1, asg_ne hs.2.1, asg_ne hs.2.2]; rfl
        · cases q
      · cases q
    · cases q
  | n + 1, .BoolOp .., _, _, q => by unfold cTg at q; cases q
  | n + 1, .NamedExpr .., _, _, q => by unfold cTg at q; cases q
  | n + 1, .BinOp .., _, _, q => by unfold cTg at q; cases q
  | n + 1, .UnaryOp .., _, _, q => by unfold cTg at q; cases q
  | n + 1, .Lambda .., _, _, q => by unfold cTg at q; cases q
  | n + 1, .IfExp .., _, _, q => by unfold cTg at q; cases q
  | n + 1, .Dict .., _, _, q => by unfold cTg at q; cases q
  | n + 1, .Set .., _, _, q => by unfold cTg at q; cases q
  | n + 1, .ListComp .., _, _, q => by unfold cTg at q; cases q
  | n + 1, .SetComp .., _, _, q => by unfold cTg at q; cases q
  | n + 1, .DictComp .., _, _, q => by unfold cTg at q; cases q
  | n + 1, .GeneratorExp .., _, _, q => by unfold cTg at q; cases q
  | n + 1, .Await .., _, _, q => by unfold cTg at q; cases q
  | n + 1, .Yield .., _, _, q => by unfold cTg at q; cases q
  | n + 1, .YieldFrom .., _, _, q => by unfold cTg at q; cases q
  | n + 1, .Compare .., _, _, q => by unfold cTg at q; cases q
  | n + 1, .Call .., _, _, q => by unfold cTg at q; cases q
  | n + 1, .FormattedValue .., _, _, q => by unfold cTg at q; cases q
  | n + 1, .JoinedStr .., _, _, q => by unfold cTg at q; cases q
  | n + 1, .Constant .., _, _, q => by unfold cTg at q; cases q
  | n + 1, .Attribute .., _, _, q => by unfold cTg at q; cases q
  | n + 1, .Subscript .., _, _, q => by unfold cTg at q; cases q
  | n + 1, .Starred .., _, _, q => by unfold cTg at q; cases q
  | n + 1, .List .., _, _, q => by unfold cTg at q; cases q
  | n + 1, .Slice .., _, _, q => by unfold cTg at q; cases q
/-! comprehensions -/
def ownOf (c : CC) (sc : Scope) : List (Str × Nat) := sc.names.filterMap fun y => match y.2 with
  | .local => (match ixS y.1 c.N 0 with
    | some i => some (y.1, i)
    | none => none)
  | .cell => (match ixS y.1 c.N 0 with
    | some i => some (y.1, i)
    | none => none)
  | _ => none
def cIfs (r : RC) (c : CC) : List Expr → Option SB
  | [] => some cYes
  | [e] => r.B c e
  | _ => none
theorem cIfs_ok (k : RcOk r) (h : CcOk c T W X) {es : List Expr} {g : SB} (q : cIfs r c es = some g) : PTs X es (tDB T W g) := by
  unfold cIfs at q
  split at q
  · cases q; exact sts_nil
  · exact sts_one (k.B h q)
  · cases q
def subN (xs ys : List Nat) : Bool := xs.all fun i => ys.contains i
theorem subN_ok {xs ys : List Nat} (h : subN xs ys = true) : ∀ i ∈ xs, i ∈ ys := by
  unfold subN at h
  rw [List.all_eq_true] at h
  intro i hi
  simpa using h i hi
noncomputable def cLc (r : RC) (c : CC) (m : Bool) (elt : Expr) (gens : List Comprehension) (sc : Scope) : Option SE :=
  if blkC c.N c.sc sc (ownOf c sc) = true then (match gens with
    | [⟨tg, iter, ifs, as⟩] => if as = 0 ∧ notSet iter = true then (match cIt r c tg iter, cTg (c.inn sc) 3 tg, cIfs r (c.inn sc) ifs, r.E (c.inn sc) elt with
      | some s, some (is, t), some b, some e => if subN is ((ownOf c sc).map (·.2)) = true then some (eLc m s t b e ((ownOf c sc).map (·.2))) else none
      | _, _, _, _ => none) else none
    | [⟨tg, iter, ifs, as⟩, ⟨tg1, iter1, ifs1, as1⟩] => if as = 0 ∧ notSet iter = true ∧ as1 = 0 ∧ notSet iter1 = true then (match cIt r c tg iter, cTg (c.inn sc) 3 tg, cIfs r (c.inn sc) ifs,
        cIt r (c.inn sc) tg1 iter1, cTg (c.inn sc) 3 tg1, cIfs r (c.inn sc) ifs1, r.E (c.inn sc) elt with
      | some s, some (is, t), some b, some s1, some (is1, t1), some b1, some e => if subN is ((ownOf c sc).map (·.2)) = true ∧ subN is1 ((ownOf c sc).map (·.2)) = true then some (eLc2 m s t b s1 t1 b1 e ((ownOf c sc).map (·.2)) is1) else none
      | _, _, _, _, _, _, _ => none) else none
    | _ => none) else none
theorem cLc_ok (k : RcOk r) (h : CcOk c T W X) {m : Bool} {elt : Expr} {gens : List Comprehension} {sc : Scope} (q : cLc r c m elt gens sc = some g) : PE X (.ListComp elt gens sc pos) (tD T W g) ∧
    ∀ {y : Str} {py spos : Pos} {i : Nat}, c.N[i]? = some y → isLoc c.sc y = true → swapsWith (.ListComp elt gens sc pos) (some (.Name y py)) spos.line X.env = pure true →
      PS X (.Assign [.Name y py] (.ListComp elt gens sc pos) spos) (tS T W (sAsg g (gVar i))) := by
  unfold cLc at q
  split at q
  · rename_i hb
    have ok : BlkOk X.N X.env.scope sc (ownOf c sc) := by
      rw [h.N, h.sc]
      exact blkOk_by hb
    have hN : X.N.Nodup := h.N ▸ h.nd
    split at q
    · rename_i tg iter ifs as
      split at q
      · rename_i hh
        obtain ⟨h0, hs⟩ := hh
        subst h0
        split at q
        · rename_i s is t b e h1 h2 h3 h4
          split at q
          · rename_i hsub
            cases q
            exact ⟨se_lc h.calm hN (cIt_ok k h h1) ok (subN_ok hsub) (fun hid s H C cl fp => cTg_ok (h.blk hid s H sc cl C fp) h2) (fun hid s H C cl fp => cIfs_ok k (h.blk hid s H sc cl C fp) h3) (fun hid s H C cl fp => k.E (h.blk hid s H sc cl C fp) h4) (set_of hs),
              fun hi hl hsw => ss_setLc h.calm hN (by rw [h.N]; exact hi) (h.loc hl) hsw (cIt_ok k h h1) ok (subN_ok hsub) (fun hid s H C cl fp => cTg_ok (h.blk hid s H sc cl C fp) h2) (fun hid s H C cl fp => cIfs_ok k (h.blk hid s H sc cl C fp) h3) (fun hid s H C cl fp => k.E (h.blk hid s H sc cl C fp) h4) (set_of hs)⟩
          · cases q
        · cases q
      · cases q
    · rename_i tg iter ifs as tg1 iter1 ifs1 as1
      split at q
      · rename_i hh
        obtain ⟨h0, hs, h01, hs1⟩ := hh
        subst h0
        subst h01
        split at q
        · rename_i s is t b s1 is1 t1 b1 e h1 h2 h3 h1' h2' h3' h4
          split at q
          · rename_i hsub
            cases q
            exact ⟨se_lc2 h.calm hN (cIt_ok k h h1) ok (subN_ok hsub.1) (subN_ok hsub.2) (fun i hi => hi) (fun hid s H C cl fp => cTg_ok (h.blk hid s H sc cl C fp) h2) (fun hid s H C cl fp => cIfs_ok k (h.blk hid s H sc cl C fp) h3) (fun hid s H C cl fp => cIt_ok k (h.blk hid s H sc cl C fp) h1') (fun hid s H C cl fp => cTg_ok (h.blk hid s H sc cl C fp) h2') (fun hid s H C cl fp => cIfs_ok k (h.blk hid s H sc cl C fp) h3') (fun hid s H C cl fp => k.E (h.blk hid s H sc cl C fp) h4) (set_of hs) (fun env => set_of hs1),
              fun hi hl hsw => ss_setLc2 h.calm hN (by rw [h.N]; exact hi) (h.loc hl) hsw (cIt_ok k h h1) ok (subN_ok hsub.1) (subN_ok hsub.2) (fun i hi => hi) (fun hid s H C cl fp => cTg_ok (h.blk hid s H sc cl C fp) h2) (fun hid s H C cl fp => cIfs_ok k (h.blk hid s H sc cl C fp) h3) (fun hid s H C cl fp => cIt_ok k (h.blk hid s H sc cl C fp) h1') (fun hid s H C cl fp => cTg_ok (h.blk hid s H sc cl C fp) h2') (fun hid s H C cl fp => cIfs_ok k (h.blk hid s H sc cl C fp) h3') (fun hid s H C cl fp => k.E (h.blk hid s H sc cl C fp) h4) (set_of hs) (fun env => set_of hs1)⟩
          · cases q
        · cases q
      · cases q
    · cases q
  · cases q
/-! ### all expressions -/
noncomputable def stepE (r : RC) (c : CC) : Expr → Option SE
  | .Name x _ => cName c x
  | .Constant k _ _ => cCon k
  | .BinOp a op b p => cBin r c a op b p
  | .UnaryOp op a _ => cUn r c op a
  | .Compare a ops bs _ => cCmp r c a ops bs
  | .BoolOp op es _ => cBoV r c op es
  | .IfExp t a b _ => (match r.B c t, r.E c a, r.E c b with
    | some x, some y, some z => some (eIf x y z)
    | _, _, _ => none)
  | .Tuple es _ _ => (match cArgs r c es with
    | some x => some (eTup x)
    | none => none)
  | .List es p => (match cArgs r c es with
    | some x => some (eLst (atP c p) x)
    | none => none)
  | .Subscript a b p => cSub r c a b p
  | .Call (.Name x _) es [] p => (match cCallR r c x es p with
    | some g => some g
    | none => cCallN r c x es p)
  | .Call (.Name x _) [] kws _ => cCallK' r c x kws
  | .Call (.Attribute o x ap) es [] p => cMeth r c o x es ap p
  | .Attribute o x _ => cAttr r c o x
  | .ListComp elt gens sc p => cLc r c (atP c p) elt gens sc
  | _ => none
noncomputable def stepB (r : RC) (c : CC) : Expr → Option SB
  | .UnaryOp .Not a _ => (match r.B c a with
    | some x => some (bNot x)
    | none => none)
  | .BoolOp op es _ => cBoT r c op es
  | .Compare a ops bs _ => (match cCmp r c a ops bs with
    | some x => some (bOf x)
    | none => none)
  | e => if notTst e = true then (match r.E c e with
    | some x => some (bOf x)
    | none => none) else none
theorem stepE_ok (k : RcOk r) (h : CcOk c T W X) (q : stepE r c e = some g) : PE X e (tD T W g) := by
  unfold stepE at q
  split at q
  · exact cName_ok h q
  · exact cCon_ok q
  · exact cBin_ok k h q
  · exact cUn_ok k h q
  · exact (cCmp_ok k h q).1
  · exact cBoV_ok k h q
  · split at q
    · rename_i x y z h1 h2 h3
      cases q
      exact se_if (k.B h h1) (k.E h h2) (k.E h h3)
    · cases q
  · split at q
    · rename_i x h1
      cases q
      exact se_tup (cArgs_ok k h h1).1
    · cases q
  · split at q
    · rename_i x h1
      cases q
      exact se_lst (cArgs_ok k h h1).1
    · cases q
  · exact cSub_ok k h q
  · split at q
    · rename_i g' h1
      cases q
      exact cCallR_ok k h h1
    · exact cCallN_ok k h q
  · exact cCallK'_ok k h q
  · exact cMeth_ok k h q
  · exact cAttr_ok k h q
  · exact (cLc_ok k h q).1
  · cases q
theorem stepB_ok (k : RcOk r) (h : CcOk c T W X) {g : SB} (q : stepB r c e = some g) : PT X e (tDB T W g) := by
  unfold stepB at q
  split at q
  · split at q
    · rename_i x h1
      cases q
      exact st_not (k.B h h1)
    · cases q
  · exact (cBoT_ok k h q).pt
  · split at q
    · rename_i x h1
      cases q
      exact (cCmp_ok k h h1).2
    · cases q
  · split at q
    · rename_i hn
      split at q
      · rename_i x h1
        cases q
        exact st_val (k.E h h1) (tst_of hn)
      · cases q
    · cases q
noncomputable def rcN : Nat → RC
  | 0 => ⟨fun _ _ => none, fun _ _ => none⟩
  | n + 1 => ⟨stepE (rcN n), stepB (rcN n)⟩
theorem rcN_ok : ∀ n, RcOk (rcN n)
  | 0 => ⟨fun _ q => (by cases q), fun _ q => (by cases q)⟩
  | n + 1 => ⟨fun h q => stepE_ok (rcN_ok n) h q, fun h q => stepB_ok (rcN_ok n) h q⟩
end
end DL

set_option Elab.async false
set_option linter.all false
set_option maxRecDepth 100000
set_option maxHeartbeats 4000000
/-! DL11: from the text to what it means: statements, defs. -/
namespace DL
open PySem PySem.Spec PyProof.Rows L2
def notCmp : Expr → Bool
  | .ListComp _ _ _ _ => false
  | .SetComp _ _ _ _ => false
  | .DictComp _ _ _ _ _ => false
  | _ => true
theorem sw_none {e : Expr} {t : Option Expr} {l : Nat} {env : PySem.Env} (h : notCmp e = true) : swapsWith e t l env = pure false := by
  cases e <;> first | rfl | cases h
theorem sw_sole {e tg : Expr} {l : Nat} {env : PySem.Env} (h : ∀ x p, tg ≠ .Name x p) : swapsWithSole [tg] e l env = pure false := by
  show swapsWith e (some tg) l env = pure false
  unfold swapsWith
  split
  · split
    · rename_i h1; cases h1
    · rename_i t p h1; cases h1; exact absurd rfl (h t p)
    · rfl
  · rfl
theorem sw_other {e tg : Expr} {l : Nat} {env : PySem.Env} (h : ∀ x p, tg ≠ .Name x p) : swapsWith e (some tg) l env = pure false := by
  unfold swapsWith
  split
  · split
    · rename_i h1; cases h1
    · rename_i t p h1; cases h1; exact absurd rfl (h t p)
    · rfl
  · rfl
def swB (sc : Scope) (t : Str) (px p : Pos) (scope : Scope) : Bool := (sc.names.lookup t == some .local) && px.line == p.line && !(scope.names.any fun (n, k) => n == t && (k == .local || k == .cell))
def parN (sc : Scope) (ts : List Expr) : List Str := ts.filterMap fun
  | .Name id pos => if sc.names.lookup id == some .local && pos.line == (ts.head?.map (·.pos.line)).getD 0 then some id else none
  | _ => none
def swP (sc : Scope) (ts vs : List Expr) : Option (Option (List Str)) :=
  if (!(ts.length == 2 || ts.length == 3) || vs.length != ts.length) = true then some none
  else if (vs.any fun | .Starred .. => true | _ => false) = true then some none
  else if ((parN sc ts).length != ts.length || (parN sc ts).eraseDups.length != (parN sc ts).length) = true then some none
  else if vs.all (foldedForSure 8) = true then some none
  else if vs.all (constantsAlone 8) = true then none
  else some (some (parN sc ts))
theorem swP_ok {env : PySem.Env} {ts vs : List Expr} {k k2 : Nat} {p p2 : Pos} {o : Option (List Str)} (hb : env.blockKind = .function) (q : swP env.scope ts vs = some o) : swappedStores [.Tuple ts k p] (.Tuple vs k2 p2) env = pure o := by
  have e1 : (env.blockKind != ScopeKind.function) = false := by rw [hb]; rfl
  unfold swappedStores
  simp only [e1, Bool.or_false]
  unfold swP at q
  split at q
  · rename_i h2
    cases q
    exact if_pos h2
  · rename_i h2
    refine (if_neg h2).trans ?_
    split at q
    · rename_i h3
      cases q
      exact if_pos h3
    · rename_i h3
      refine (if_neg h3).trans ?_
      split at q
      · rename_i h4
        cases q
        exact if_pos h4
      · rename_i h4
        refine (if_neg h4).trans ?_
        split at q
        · rename_i h5
          cases q
          exact if_pos h5
        · rename_i h5
          refine (if_neg h5).trans ?_
          split at q
          · cases q
          · rename_i h6
            cases q
            exact if_neg h6
def notTup : Expr → Bool
  | .Tuple _ _ _ => false
  | _ => true
def notTL : Expr → Bool
  | .Tuple _ _ _ => false
  | .List _ _ => false
  | _ => true
theorem sw_val {env : PySem.Env} {targets : List Expr} {value : Expr} (h : notTup value = true) : swappedStores targets value env = pure none := by
  unfold swappedStores
  split
  · rename_i ts vs h1
    split at h1
    · cases h
    · cases h
    · cases h1
  · rfl
theorem sw_tg {env : PySem.Env} {tg value : Expr} (h : notTL tg = true) : swappedStores [tg] value env = pure none := by
  unfold swappedStores
  cases tg <;> first | rfl | cases h
theorem asgSub {o i : Expr} {pos : Pos} {env : PySem.Env} (h : notSl i = true) (v : Value) : assign (.Subscript o i pos) env v = (do
      let ov ← holding [v] (eval o env)
      let iv ← holding [v, ov] (eval i env)
      standAt pos
      holding [v, ov, iv] (setItem ov iv v)
      release [v, ov, iv] []) := by
  cases i <;> first | rfl | cases h
/-- raise X(a): the class's number, its field's value -/
def sRz (k : Nat) (g : SE) : SS := fun rh mu => stB (g rh mu) rh fun d mu' => .exc ⟨k, d⟩ rh mu'
def RzOk (rz : List (Str × Nat)) (T : Tbl) (W : WX) (X : Cx) : Prop := ∀ x k, (x, k) ∈ rz → Gl X x → ∀ (a : Expr) (g : SE) (p p1 p2 : Pos), PE X a (tD T W g) → notStar a = true → PS X (.Raise (some (.Call (.Name x p) [a] [] p1)) none p2) (tS T W (sRz k g))
structure StOk (c : CC) (rz : List (Str × Nat)) (T : Tbl) (W : WX) (X : Cx) : Prop where
  c : CcOk c T W X
  p : PassesOwn (model X.prog X.w) X.A X.env X.xe
  b : X.env.blockKind = .function
  rz : RzOk rz T W X
section
variable {r : RC} {c : CC} {rz : List (Str × Nat)} {T : Tbl} {W : WX} {X : Cx} {pos : Pos} {e : Expr} {g : SE}
noncomputable def cAsg (r : RC) (c : CC) (tg value : Expr) (p : Pos) : Option SS := match tg with
  | .Name x px => if isAs c x = true then (match ixS x c.N 0 with
    | some i => (match value with
      | .ListComp elt gens sc p' => if swB c.sc x px p' sc = true then (match cLc r c (atP c p') elt gens sc with
          | some g => some (sAsg g (gVar i))
          | none => none)
        else (match r.E c value with
          | some g => some (sAsg g (gVar i))
          | none => none)
      | value => if notCmp value = true then (match r.E c value with
          | some g => some (sAsg g (gVar i))
          | none => none) else none)
    | none => none) else none
  | .Tuple ts k1 p1 => (match value with
    | .Tuple vs k2 p2 => (match swP c.sc ts vs with
      | some none => (match r.E c (.Tuple vs k2 p2), cTg c 3 (.Tuple ts k1 p1) with
        | some g, some (is, t) => some (sAsg g t)
        | _, _ => none)
      | some (some ns) => (match ts, vs with
        | [.Name x px, .Name y py], [a, b] => (match ixS x c.N 0, ixS y c.N 0, cArgs r c [a, b] with
          | some i, some j, some g => if i ≠ j ∧ isLoc c.sc x = true ∧ isLoc c.sc y = true ∧ ns = [x, y] then some (sPar [i, j] g) else none
          | _, _, _ => none)
        | [.Name x px, .Name y py, .Name z pz], [a, b, d] => (match ixS x c.N 0, ixS y c.N 0, ixS z c.N 0, cArgs r c [a, b, d] with
          | some i, some j, some l, some g => if i ≠ j ∧ i ≠ l ∧ j ≠ l ∧ isLoc c.sc x = true ∧ isLoc c.sc y = true ∧ isLoc c.sc z = true ∧ ns = [x, y, z] then some (sPar [i, j, l] g) else none
          | _, _, _, _ => none)
        | _, _ => none)
      | none => none)
    | value => if notTup value = true then (match r.E c value, cTg c 3 (.Tuple ts k1 p1) with
      | some g, some (is, t) => some (sAsg g t)
      | _, _ => none) else none)
  | .Subscript o i p1 => (match r.E c o, r.E c i, r.E c value with
    | some x, some y, some g => if notSl i = true then some (sAsg g (gIx x y)) else none
    | _, _, _ => none)
  | .Attribute o f p1 => (match r.E c o, r.E c value with
    | some x, some g => some (sFldSet c.cl f x g)
    | _, _ => none)
  | _ => none
theorem cAsg_ok (k : RcOk r) (S : StOk c rz T W X) {tg value : Expr} {s : SS} (q : cAsg r c tg value pos = some s) : PS X (.Assign [tg] value pos) (tS T W s) := by
  have h := S.c
  have hN : X.N.Nodup := h.N ▸ h.nd
  unfold cAsg at q
  split at q
  · rename_i x px
    split at q
    · rename_i hl
      have hL := h.asg hl
      split at q
      · rename_i i hi
        have hi' : X.N[i]? = some x := by rw [h.N]; exact ixS_get hi
        split at q
        · rename_i elt gens sc p'
          have hsw : swapsWith (.ListComp elt gens sc p') (some (.Name x px)) pos.line X.env = pure (swB c.sc x px p' sc) := by
            have e1 : X.env.blockKind == .function := by rw [S.b]; rfl
            have e2 : (X.env.kindOf x == some .local) = (c.sc.names.lookup x == some .local) := by unfold Env.kindOf; rw [h.sc]
            show (pure (X.env.blockKind == .function && X.env.kindOf x == some .local && px.line == p'.line && !(sc.names.any fun (n, k) => n == x && (k == .local || k == .cell))) : Sem Bool) = _
            rw [e1, e2, Bool.true_and]
            rfl
          split at q
          · rename_i hb
            split at q
            · rename_i g hg
              cases q
              have hl' : isLoc c.sc x = true := by
                have hb := hb
                unfold swB at hb
                rw [Bool.and_eq_true, Bool.and_eq_true] at hb
                have e := eq_of_beq hb.1.1
                unfold isLoc
                rw [e]
              exact (cLc_ok (pos := p') k h hg).2 (ixS_get hi) hl' (by rw [hsw, hb])
            · cases q
          · rename_i hb
            split at q
            · rename_i g hg
              cases q
              exact ss_set hN hi' hL.1 hL.2 (k.E h hg) (by rw [hsw]; rw [Bool.not_eq_true] at hb; rw [hb])
            · cases q
        · split at q
          · rename_i hn
            split at q
            · rename_i g hg
              cases q
              exact ss_set hN hi' hL.1 hL.2 (k.E h hg) (sw_none hn)
            · cases q
          · cases q
      · cases q
    · cases q
  · rename_i ts k1 p1
    have hs1 : ∀ v : Expr, swapsWithSole [.Tuple ts k1 p1] v pos.line X.env = pure false := fun v => sw_sole fun _ _ z => nomatch z
    split at q
    · rename_i vs k2 p2
      split at q
      · rename_i hp
        split at q
        · rename_i g is t hg ht
          cases q
          exact ss_asg (k.E h hg) (cTg_ok h ht) (hs1 _) (swP_ok S.b (by rw [h.sc]; exact hp)) (by rw [asg_ne rfl]; rfl)
        · cases q
      · rename_i ns hp
        have hw : swappedStores [.Tuple ts k1 p1] (.Tuple vs k2 p2) X.env = pure (some ns) := swP_ok S.b (by rw [h.sc]; exact hp)
        split at q
        · rename_i x px y py a b
          split at q
          · rename_i i j g hi hj hg
            split at q
            · rename_i hh
              obtain ⟨n1, l1, l2, rfl⟩ := hh
              cases q
              exact ss_par h.calm hN (by rw [h.N]; exact ixS_get hi) (by rw [h.N]; exact ixS_get hj) n1 (h.loc l1) (h.loc l2) (cArgs_ok k h hg).1 hw (hs1 _)
            · cases q
          · cases q
        · rename_i x px y py z pz a b d
          split at q
          · rename_i i j l g hi hj hl hg
            split at q
            · rename_i hh
              obtain ⟨n1, n2, n3, l1, l2, l3, rfl⟩ := hh
              cases q
              exact ss_par3 h.calm hN (by rw [h.N]; exact ixS_get hi) (by rw [h.N]; exact ixS_get hj) (by rw [h.N]; exact ixS_get hl) n1 n2 n3 (h.loc l1) (h.loc l2) (h.loc l3) (cArgs_ok k h hg).1 hw (hs1 _)
            · cases q
          · cases q
        · cases q
      · cases q
    · split at q
      · rename_i hn
        split at q
        · rename_i g is t hg ht
          cases q
          exact ss_asg (k.E h hg) (cTg_ok h ht) (hs1 _) (sw_val hn) (by rw [asg_ne rfl]; rfl)
        · cases q
      · cases q
  · rename_i o i p1
    split at q
    · rename_i x y g h1 h2 h3
      split at q
      · rename_i hs
        cases q
        exact ss_asg (k.E h h3) (sg_ix (k.E h h1) (k.E h h2) (asgSub hs)) (sw_sole fun _ _ z => nomatch z) (sw_tg rfl) (by rw [asg_ne rfl]; rfl)
      · cases q
    · cases q
  · rename_i o f p1
    split at q
    · rename_i x g h1 h2
      cases q
      exact ss_fld h.K h.cl (k.E h h1) (k.E h h2) (sw_other fun _ _ z => nomatch z)
    · cases q
  · cases q
noncomputable def cSs (f : Stmt → Option SS) : List Stmt → Option SS
  | [] => some sNil
  | s :: ss => match f s, cSs f ss with
    | some a, some b => some (sSeq a b)
    | _, _ => none
theorem cSs_ok {f : Stmt → Option SS} (hf : ∀ {s g}, f s = some g → PS X s (tS T W g)) : ∀ {ss : List Stmt} {g : SS}, cSs f ss = some g → PSs X ss (tS T W g)
  | [], _, q => by cases q; exact ss_nil
  | s :: ss, g, q => by
    unfold cSs at q
    split at q
    · rename_i a b h1 h2
      cases q
      exact ss_cons (hf h1) (cSs_ok hf h2)
    · cases q
def cRz (r : RC) (c : CC) (rz : List (Str × Nat)) : Expr → SS
  | .Call (.Name x _) [a] [] _ => (match lk x rz, r.E c a with
    | some k, some g => if isGlo c.sc x = true ∧ notStar a = true then sRz k g else fun _ _ => .bad
    | _, _ => fun _ _ => .bad)
  | _ => fun _ _ => .bad
noncomputable def cSt (r : RC) (c : CC) (rz : List (Str × Nat)) : Nat → Stmt → Option SS
  | 0, _ => none
  | n + 1, s => match s with
    | .Assign [tg] value p => cAsg r c tg value p
    | .Expr e _ => if notCmp e = true then (match r.E c e with
      | some g => some (sDrop g)
      | none => none) else none
    | .Return (some e) _ => (match r.E c e with
      | some g => some (sRet g)
      | none => none)
    | .Return none _ => some sRetN
    | .If t b1 b2 _ => (match r.B c t, cSs (cSt r c rz n) b1, cSs (cSt r c rz n) b2 with
      | some g, some x, some y => some (sIf g x y)
      | _, _, _ => none)
    | .While t b [] _ => (match r.B c t, cSs (cSt r c rz n) b with
      | some g, some x => some (sWhile g x)
      | _, _ => none)
    | .For tg it b [] _ => (match cIt r c tg it, cTg c 3 tg, cSs (cSt r c rz n) b with
      | some g, some (is, t), some x => if notSet it = true then some (sFor g t x) else none
      | _, _, _ => none)
    | .Pass _ => some sPass
    | .Break _ => some sBrk
    | .Continue _ => some sCnt
    | .Raise (some e) none _ => some (cRz r c rz e)
    | _ => none
theorem cRz_ok (k : RcOk r) (S : StOk c rz T W X) {e : Expr} : PS X (.Raise (some e) none pos) (tS T W (cRz r c rz e)) := by
  unfold cRz
  split
  · rename_i x p a p1
    split
    · rename_i kk g h1 h2
      split
      · rename_i hh
        exact S.rz _ _ (lk_mem h1) (S.c.glo hh.1) a g _ _ _ (k.E S.c h2) hh.2
      · exact ss_dead
    · exact ss_dead
  · exact ss_dead
theorem cSt_ok (k : RcOk r) (S : StOk c rz T W X) : ∀ {n : Nat} {s : Stmt} {g : SS}, cSt r c rz n s = some g → PS X s (tS T W g)
  | 0, _, _, q => by cases q
  | n + 1, s, g, q => by
    have h := S.c
    unfold cSt at q
    split at q
    · exact cAsg_ok k S q
    · split at q
      · rename_i hn
        split at q
        · rename_i x hx
          cases q
          exact ss_expr (k.E h hx) (sw_none hn)
        · cases q
      · cases q
    · split at q
      · rename_i x hx
        cases q
        exact ss_ret (k.E h hx)
      · cases q
    · cases q; exact ss_retN
    · split at q
      · rename_i x y z h1 h2 h3
        cases q
        exact ss_if (k.B h h1) (cSs_ok (fun q => cSt_ok k S q) h2) (cSs_ok (fun q => cSt_ok k S q) h3)
      · cases q
    · split at q
      · rename_i x y h1 h2
        cases q
        exact ss_while S.p (k.B h h1) (cSs_ok (fun q => cSt_ok k S q) h2)
      · cases q
    · split at q
      · rename_i x is t y h1 h2 h3
        split at q
        · rename_i hn
          cases q
          exact ss_for S.p h.calm (cIt_ok k h h1) (cTg_ok h h2) (cSs_ok (fun q => cSt_ok k S q) h3) (set_of hn)
        · cases q
      · cases q
    · cases q; exact ss_pass
    · cases q; exact ss_brk
    · cases q; exact ss_cnt
    · cases q; exact cRz_ok k S
    · cases q
end
end DL

set_option Elab.async false
set_option linter.all false
set_option maxRecDepth 100000
set_option maxHeartbeats 4000000
/-! DL12: the defs of a text, one behind another; the law's end. -/
namespace DL
open PySem PySem.Spec PyProof.Rows L2

/-- what stands around every def, up to the level k -/
structure EnvOk (c : CC) (P : Program) (w : World) (K : PySem.W.Frag) (mg : Str → Option Value) (base : Heap) (T : Tbl) (k : Nat) : Prop where
  eK : T.K = K
  fs : ∀ x fn, (x, fn) ∈ c.fs → ∃ f fd, (∀ hid, FnG P w K mg base (T.hd hid) k f fd fn.ps fn.F) ∧ mg x = some (.ref f) ∧ PySem.W.keepIn K (.ref f) = true ∧ L2.Binds K fd fn.ps [] ∧ ∀ q ∈ fn.kw, KwOk fd fn.ps q
  fn : ∀ x fn, (x, fn) ∈ c.fs → ∀ ds mu, ds.length ≠ fn.ps.length → fn.F ds mu = .bad
  ks : ∀ x kl, (x, kl) ∈ c.ks → ∃ f fd C k', k' + 1 ≤ k ∧ Mk K C f ∧ (∀ hid, FnG P w K mg base (T.hd hid) k' f fd kl.ps kl.F) ∧ mg x = some (.ref C) ∧ T.cls kl.c = some C ∧ L2.Binds K fd kl.ps []
  kn : ∀ x kl, (x, kl) ∈ c.ks → ∀ ds mu, ds.length ≠ kl.ps.length → kl.F ds mu = .bad
  cs : ∀ x d, (x, d) ∈ c.cs → ∃ v u, mg x = some u ∧ RelV v u ∧ ∀ hid H al, Rp (T.hd hid) H al d v
  bl : ∀ x ∈ c.bl, mg x = none
  cl : ∀ q ∈ c.cl, ClsOk T q.1 q.2
theorem EnvOk.mono {c : CC} {P : Program} {w : World} {K : PySem.W.Frag} {mg : Str → Option Value} {base : Heap} {T : Tbl} {j k : Nat} (h : EnvOk c P w K mg base T j) (l : j ≤ k) : EnvOk c P w K mg base T k where
  eK := h.eK
  fs := fun x fn m => by
    obtain ⟨f, fd, h1, h2⟩ := h.fs x fn m
    exact ⟨f, fd, fun hid => (h1 hid).mono l, h2⟩
  fn := h.fn
  ks := fun x kl m => by
    obtain ⟨f, fd, C, k', l', h2⟩ := h.ks x kl m
    exact ⟨f, fd, C, k', Nat.le_trans l' l, h2⟩
  kn := h.kn
  cs := h.cs
  bl := h.bl
  cl := h.cl
/-- in a def's body -/
theorem EnvOk.cc {c : CC} {P : Program} {w : World} {K : PySem.W.Frag} {mg : Str → Option Value} {base : Heap} {T : Tbl} {k : Nat} (h : EnvOk c P w K mg base T k) {N : List Str} {scope : Scope} (hN : N.Nodup) {mu : List (Nat × Nat)} {qual : Str} {f : Addr} {cd : Value} {A : Around} {outer : List PySem.Env} {s : Shared} {H : Hp} {E : XK}
    (hid : List Addr) (hr : Room k (A.deeper (envOfC qual scope s.heap.objs.size f cd))) (hg : A.guards = some []) :
    CcOk { c with N := N, sc := scope, fnc := cellsOf scope, mu := mu } (T.hd hid) (fun c d _ H' => E c d H') (cxOf (L2.CX P w) P w K mg base N qual scope f cd A outer s H E) where
  K := h.eK
  N := rfl
  nd := hN
  sc := rfl
  calm := rfl
  un := hr.units
  gu := hg
  tk := takes_of rfl rfl rfl rfl
  fnc := fun _ _ => rfl
  fs := fun x fn m => by
    obtain ⟨f, fd, h1, h2, h3, h4, h5⟩ := h.fs x fn m
    exact ⟨⟨f, fd, k, h1, hr, h2, h3, h4, h5⟩, h.fn x fn m⟩
  ks := fun x kl m => by
    obtain ⟨f, fd, C, k', l, h1, h2, h3, h4, h5⟩ := h.ks x kl m
    exact ⟨⟨f, fd, k', C, h1, h2, hr.mono l, h3, h4, h5⟩, h.kn x kl m⟩
  cs := h.cs
  bl := h.bl
  cl := fun q m => ⟨(h.cl q m).ok⟩
/-- what raise says, in the body of every def at this level -/
def RzAll (rz : List (Str × Nat)) (P : Program) (w : World) (K : PySem.W.Frag) (mg : Str → Option Value) (base : Heap) (T : Tbl) (k : Nat) : Prop :=
  ∀ (N : List Str) (qual : Str) (scope : Scope) (f : Addr) (cd : Value) (A : Around) (outer : List PySem.Env) (s : Shared) (H : Hp) (E : XK) (hid : List Addr), Room k (A.deeper (envOfC qual scope s.heap.objs.size f cd)) → scope.kind = .function →
    RzOk rz (T.hd hid) (fun c d _ H' => E c d H') (cxOf (L2.CX P w) P w K mg base N qual scope f cd A outer s H E)
theorem RzAll.nil {P : Program} {w : World} {K : PySem.W.Frag} {mg : Str → Option Value} {base : Heap} {T : Tbl} {k : Nat} : RzAll [] P w K mg base T k := fun _ _ _ _ _ _ _ _ _ _ _ _ _ x k m => by cases m
/-- a def of the text -/
theorem def_ok {c : CC} {rz : List (Str × Nat)} {P : Program} {w : World} {K : PySem.W.Frag} {mg : Str → Option Value} {base : Heap} {T : Tbl} {k n m : Nat} {f : Addr} {name qual : Str} {params : Arguments} {body : List Stmt} {scope : Scope} {dvs : List V} {kws : List (Str × V)} {fd : FuncData}
    {N ps : List Str} {mu : List (Nat × Nat)} {g : SS} (h : EnvOk c P w K mg base T k) (hz : RzAll rz P w K mg base T k) (F : FunD K name qual params body scope dvs kws f fd) (S : FnScope N ps scope) (tr : Bool)
    (hc : cSs (cSt (rcN n) { c with N := N, sc := scope, fnc := cellsOf scope, mu := mu } rz m) body = some g) (hid : List Addr) : FnG P w K mg base (T.hd hid) (k + 1) f fd ps (fnD ps.length N.length tr g) := by
  obtain ⟨oc, od, dV, kV, doc, pm, an, cdv, ct, osl, rfl, lk, hcd, _, _⟩ := F.ex
  refine fg_of lk hcd S fun hid' A outer s H E hr hg => ?_
  have C := h.cc (N := N) (scope := scope) S.nd (mu := mu) (qual := qual) (f := f) (cd := cdv) (A := A) (outer := outer) (s := s) (H := H) (E := E) hid' hr hg
  have hb : (cxOf (L2.CX P w) P w K mg base N qual scope f cdv A outer s H E).env.blockKind = .function := by
    show (if scope.kind.isAnnotationScope then ScopeKind.function else scope.kind) = .function
    rw [S.kind]
    rfl
  exact cSs_ok (fun q => cSt_ok (rcN_ok n) ⟨C, passes_of rfl, hb, hz N qual scope f cdv A outer s H E hid' hr S.kind⟩ q) hc
theorem fnD_n {n z : Nat} {tr : Bool} {g : SS} (ds : List D) (mu : Store) (h : ds.length ≠ n) : fnD n z tr g ds mu = .bad := by
  unfold fnD
  rw [if_neg h]

/-! ### the law's end -/
/-- of the caller's heap only the script is told, and it is locked, unless it is the module's own -/
def scrH (K : PySem.W.Frag) (a : Addr) (vs : List Value) (ns : List Int) : Hp := fun b => if b = a ∧ K.lookup a = none then some (.frz { cls := .type "list", data := .seq vs.toArray } (.lst (ns.map V.int))) else none
theorem scrH_a {K : PySem.W.Frag} {a b : Addr} {vs : List Value} {ns : List Int} {u : HO} (h : scrH K a vs ns b = some u) : b = a ∧ K.lookup a = none ∧ u = .frz { cls := .type "list", data := .seq vs.toArray } (.lst (ns.map V.int)) := by
  unfold scrH at h
  split at h
  · rename_i e
    cases h
    exact ⟨e.1, e.2, rfl⟩
  · cases h
theorem lawG {P : Program} {w : World} {K : PySem.W.Frag} {mg mb : Str → Option Value} {T : Tbl} {k : Nat} {fa a : Addr} {fd : FuncData} {x : Str} {F : List D → M D} {s1 : Shared} {vs : List Value} {ns : List Int}
    (KX : K.In s1.heap) (hns : s1.heap.Ns mainGlobals mg) (hb : s1.heap.Ns builtinsNs mb) (hbb : ∀ x : Str, x ≠ "__name__" → mb x = bootBuiltins x) (hlim : s1.heap.NoLimit) (hg : s1.gens = #[])
    (ha : s1.heap.get? a = some { cls := .type "list", data := .seq vs.toArray }) (hi : IntsAre vs ns) (hl : ns.length ≤ sizeLine) (hr : Room k callerA) (hT : T.K = K) (hh : T.hid = [])
    (Fn : ∀ base : Heap, K.In base → base.Ns mainGlobals mg → FnG P w K mg base T k fa fd [x] F) (hbind : ∀ (s : Shared) (u : Value), BindsTo s fd ⟨[u], []⟩ [(x, u)])
    (hF : ∃ mu, F [.scr (ns.map D.int)] [] = .val (.bl true) mu) :
    codeAny (model P w) callerA (.call (.ref fa) ⟨[.ref a], []⟩) (fun r s' => r = .ok (.ret (.bool true)) ∧ OldK s1.heap s'.heap ∧ s'.os = s1.os ∧ AllBare s'.gens) s1 := by
  have rv := vals_ints hi
  have lenV := hi.length
  have hok : HOk P w (scrH K a vs ns) s1.heap := fun b u z => by
    obtain ⟨rfl, _, rfl⟩ := scrH_a z
    exact ⟨ha, by rw [List.length_map]; exact hl, vs, _, rv, ha⟩
  have hno : ∀ {b : Addr} {o : Obj}, s1.heap.get? b = some o → (b = a → K.lookup a = none → False) → (hidT s1.heap (scrH K a vs ns)).get? b = some o := fun {b o} e n => hidT_get e (by
    cases q : scrH K a vs ns b with
    | none => rfl
    | some u =>
      obtain ⟨e1, e2, _⟩ := scrH_a q
      exact (n e1 e2).elim)
  have nsK : ∀ {b : Addr} {m : Str → Option Value}, s1.heap.Ns b m → (hidT s1.heap (scrH K a vs ns)).Ns b m := fun {b m} ⟨o, es, ep, e, d, r⟩ => ⟨o, es, ep, hno e (fun e1 _ => by
    subst e1
    rw [ha] at e
    cases e
    cases d), d, r⟩
  have hKb : K.In (hidT s1.heap (scrH K a vs ns)) := fun b o e => hno (KX b o e) fun e1 e2 => by
    subst e1
    rw [e2] at e
    cases e
  have hM : L2.Mod K mg (hidT s1.heap (scrH K a vs ns)) := ⟨hKb, nsK hns, ⟨mb, nsK hb, hbb⟩, let ⟨mc, h1, h2⟩ := hlim; ⟨mc, nsK h1, h2⟩⟩
  have e0 : Env0 P w K mg (hidT s1.heap (scrH K a vs ns)) callerA [] s1 (scrH K a vs ns) :=
    ⟨rfl, hM, fun b o e => of_hidT e, Nat.le_of_eq (hidT_size _ _), trivial, fun b hb => absurd (show b ∈ ([] : List Addr) from hb) (by simp), hok, .of_eq hg⟩
  have hS : Scr K (scrH K a vs ns) a (ns.map V.int) := by
    cases q : K.lookup a with
    | some o =>
      have e := KX a o q
      rw [ha] at e
      cases e
      exact .inr ⟨_, vs.toArray, _, q, rfl, rfl, rfl, by rw [List.size_toArray, lenV]; exact hl, by simpa using rv⟩
    | none => exact .inl ⟨_, by unfold scrH; rw [if_pos ⟨rfl, q⟩]⟩
  have rI : ∀ l : List Int, RpL T (scrH K a vs ns) [] (l.map D.int) (l.map V.int) := fun l => by
    induction l with
    | nil => exact .nil
    | cons i l ih => exact .cons (.int i) ih
  obtain ⟨mu, hF⟩ := hF
  have hsp : spF T F [.ref a] (scrH K a vs ns) (fun v _ => v = .bl true) fun _ _ _ => False := by
    refine ⟨T.hid, [], [], [.scr (ns.map D.int)], ⟨rfl, List.nodup_nil, fun n o a h1 h2 => by simp at h1, fun h m => ?_⟩, .cons (.scr (show Scr T.K _ a _ from hT ▸ hS) (rI ns)) .nil, ?_⟩
    · have m : h ∈ T.hid := m
      rw [hh] at m
      cases m
    · rw [hF]
      intro v al' H' g s p
      cases p
      rfl
  refine codeAny_mono ((Fn _ hKb (nsK hns)).run callerA [] s1 (scrH K a vs ns) ⟨[.ref a], []⟩ [.ref a] [.ref a] _ _ hr rfl e0 (hbind s1 (.ref a)) (.cons rfl .nil) rfl hsp) fun r s' h => ?_
  cases r with
  | error e =>
    have h : L2.CX P w [] (scrH K a vs ns) s1 (fun _ _ _ => False) e s' := h
    obtain ⟨_, _, _, _, _, _, _, _, _, _, _, _, z⟩ := h
    exact z.elim
  | ok fl =>
    cases fl with
    | next => exact False.elim h
    | brk => exact False.elim h
    | cont => exact False.elim h
    | ret u =>
      obtain ⟨v, H', os, bare, un, hok', r', q⟩ := h
      have q' : v = .bl true := q
      subst q'
      obtain rfl : u = Value.bool true := r'
      refine ⟨rfl, OldK.of_keep fun b o e => ?_, os, bare⟩
      cases q : scrH K a vs ns b with
      | none => exact un.keep b o e q (by intro z; exact absurd (show b ∈ ([] : List Addr) from z) (by simp)) (by simp)
      | some u =>
        obtain ⟨rfl, _, rfl⟩ := scrH_a q
        obtain ⟨e2, _⟩ := hok' b _ (un.frzs b _ _ q)
        obtain ⟨e1, _⟩ := hok b _ q
        rw [e] at e1
        cases e1
        exact e2
/-- .. as the head wants it -/
theorem walkG {l : PySem.W.OpenLaw} {n k : Nat} {q : Program} {loose : List Str} {XP : (Str → Option Value) → Heap → Prop} {YP : World → Heap → Prop} {d : DefRec} {x : Str}
    (hn : l.most = some n) (hn2 : n ≤ sizeLine) (hdf : d.params.defaults = []) (hr : Room k callerA)
    (F : ∀ (w : World) (mg : Str → Option Value) (fa : Addr) (h : Heap), YP w h → h.Ns mainGlobals mg → mg d.name = some (.ref fa) →
      ∃ (K : PySem.W.Frag) (T : Tbl) (fd : FuncData) (Fl : List D → M D), K.In h ∧ T.K = K ∧ T.hid = [] ∧ (∀ (s : Shared) (u : Value), BindsTo s fd ⟨[u], []⟩ [(x, u)]) ∧
        (∀ ns : List Int, ns.length ≤ n → ∃ mu, Fl [.scr (ns.map D.int)] [] = .val (.bl true) mu) ∧ ∀ base : Heap, K.In base → base.Ns mainGlobals mg → FnG l.prog w K mg base T k fa fd [x] Fl) :
    PySem.W.WalkO q loose XP YP l.row.toRowW d [] (fun f vs => PySem.call f vs) := by
  refine Att.attach_call hn hdf fun w s₀ s1 mg mb fa o pm cd doc a vs ns G Y ho hd hcd hmg hobj hints hlen hg => ?_
  obtain ⟨K, T, fd, Fl, KX, hT, hh, hb, hF, hFn⟩ := F w mg fa _ Y G.T.g hmg
  exact lawG KX G.T.g G.T.b G.T.builtins G.T.nolimit hg hobj hints (Nat.le_trans hlen hn2) hr hT hh hFn hb (hF ns hlen)
end DL

set_option Elab.async false
set_option linter.all false
set_option maxRecDepth 100000
set_option maxHeartbeats 4000000
/-! DL13: the defs of a text, one behind another -/
namespace DL
open PySem PySem.Spec PyProof.Rows L2
section
variable {c : CC} {P : Program} {w : World} {K : PySem.W.Frag} {mg : Str → Option Value} {base : Heap} {T : Tbl} {k : Nat}
theorem EnvOk.start {c : CC} (eK : T.K = K) (h1 : c.fs = []) (h2 : c.ks = []) (cs : ∀ x d, (x, d) ∈ c.cs → ∃ v u, mg x = some u ∧ RelV v u ∧ ∀ hid H al, Rp (T.hd hid) H al d v) (bl : ∀ x ∈ c.bl, mg x = none) (cl : ∀ q ∈ c.cl, ClsOk T q.1 q.2) : EnvOk c P w K mg base T 0 where
  eK := eK
  fs := fun x fn m => by rw [h1] at m; cases m
  fn := fun x fn m => by rw [h1] at m; cases m
  ks := fun x fn m => by rw [h2] at m; cases m
  kn := fun x fn m => by rw [h2] at m; cases m
  cs := cs
  bl := bl
  cl := cl
theorem EnvOk.addF (h : EnvOk c P w K mg base T k) {x : Str} {fn : Fn} {f : Addr} {fd : FuncData} (hG : ∀ hid, FnG P w K mg base (T.hd hid) (k + 1) f fd fn.ps fn.F) (hmg : mg x = some (.ref f)) (hk : PySem.W.keepIn K (.ref f) = true) (hb : L2.Binds K fd fn.ps []) (hkw : ∀ q ∈ fn.kw, KwOk fd fn.ps q)
    (hn : ∀ ds mu, ds.length ≠ fn.ps.length → fn.F ds mu = .bad) : EnvOk { c with fs := (x, fn) :: c.fs } P w K mg base T (k + 1) where
  eK := h.eK
  fs := fun y gn m => by
    rcases List.mem_cons.mp m with e | m
    · cases e
      exact ⟨f, fd, hG, hmg, hk, hb, hkw⟩
    · obtain ⟨f', fd', h1, h2⟩ := h.fs y gn m
      exact ⟨f', fd', fun hid => (h1 hid).mono (Nat.le_succ k), h2⟩
  fn := fun y gn m => by
    rcases List.mem_cons.mp m with e | m
    · cases e
      exact hn
    · exact h.fn y gn m
  ks := fun y kl m => by
    obtain ⟨f', fd', C, k', l', h2⟩ := h.ks y kl m
    exact ⟨f', fd', C, k', Nat.le_succ_of_le l', h2⟩
  kn := h.kn
  cs := h.cs
  bl := h.bl
  cl := h.cl
theorem EnvOk.addK (h : EnvOk c P w K mg base T k) {x : Str} {kl : Kl} {f : Addr} {fd : FuncData} {C : Addr} (hM : Mk K C f) (hG : ∀ hid, FnG P w K mg base (T.hd hid) (k + 1) f fd kl.ps kl.F) (hmg : mg x = some (.ref C)) (hc : T.cls kl.c = some C) (hb : L2.Binds K fd kl.ps [])
    (hn : ∀ ds mu, ds.length ≠ kl.ps.length → kl.F ds mu = .bad) : EnvOk { c with ks := (x, kl) :: c.ks } P w K mg base T (k + 2) where
  eK := h.eK
  fs := fun y gn m => by
    obtain ⟨f', fd', h1, h2⟩ := h.fs y gn m
    exact ⟨f', fd', fun hid => (h1 hid).mono (Nat.le_add_right k 2), h2⟩
  fn := h.fn
  ks := fun y k1 m => by
    rcases List.mem_cons.mp m with e | m
    · cases e
      exact ⟨f, fd, C, k + 1, Nat.le_refl _, hM, hG, hmg, hc, hb⟩
    · obtain ⟨f', fd', C', k', l', h2⟩ := h.ks y k1 m
      exact ⟨f', fd', C', k', Nat.le_trans l' (Nat.le_add_right k 2), h2⟩
  kn := fun y k1 m => by
    rcases List.mem_cons.mp m with e | m
    · cases e
      exact hn
    · exact h.kn y k1 m
  cs := h.cs
  bl := h.bl
  cl := h.cl
/-- a def, behind those before it -/
theorem EnvOk.def_ {rz : List (Str × Nat)} {n m : Nat} {f : Addr} {x name qual : Str} {params : Arguments} {body : List Stmt} {scope : Scope} {dvs : List V} {kws : List (Str × V)} {fd : FuncData} {N ps : List Str} {mu : List (Nat × Nat)} {g : SS} {kw : List (List Str × List Nat)} (h : EnvOk c P w K mg base T k) (hz : RzAll rz P w K mg base T k)
    (F : FunD K name qual params body scope dvs kws f fd) (S : FnScope N ps scope) (tr : Bool) (hc : cSs (cSt (rcN n) { c with N := N, sc := scope, fnc := cellsOf scope, mu := mu } rz m) body = some g)
    (hmg : mg x = some (.ref f)) (hk : PySem.W.keepIn K (.ref f) = true) (hb : L2.Binds K fd ps []) (hkw : ∀ q ∈ kw, KwOk fd ps q) : EnvOk { c with fs := (x, ⟨fnD ps.length N.length tr g, ps, kw⟩) :: c.fs } P w K mg base T (k + 1) :=
  h.addF (fn := ⟨fnD ps.length N.length tr g, ps, kw⟩) (fun hid => def_ok h hz F S tr hc hid) hmg hk hb hkw (fun ds mu hl => fnD_n ds mu hl)
end
end DL

set_option Elab.async false
set_option linter.all false
set_option maxRecDepth 100000
set_option maxHeartbeats 4000000
/-! DL14: a Hook that tells closures and facts of one's own too -/
namespace DL
open PySem PySem.Spec PyProof.Rows L2
abbrev FnC : Type := Option (Str × Str × Arguments × FuncBody × Scope × Addr × List Str × Addr)
def fnC (K : PySem.W.Frag) (p : Str × Option Str) : FnC := match K.lookup (He.fAd K p) with
  | some ⟨_, _, .func fd, _⟩ => some (fd.name, fd.qualname, fd.params, fd.body, fd.scope, fd.globals, fd.closure.map (·.1), fd.builtins)
  | _ => none
/-- a def with a closure: the cells' names -/
structure DefC where
  d : He.DefD
  cells : List Str
def DefC.val (c : DefC) : FnC := some (c.d.name, c.d.qual, c.d.params, .stmts c.d.body, c.d.scope, mainGlobals, c.cells, builtinsNs)
abbrev AlX : Type := He.AlD × Bool × List FnC
def obsX (fa : List He.Fa) (fn : List He.DefD) (cf : List DefC) (ex : PySem.W.Frag → Bool) (K : PySem.W.Frag) : AlX := (He.obsD fa fn K, ex K, cf.map fun c => fnC K c.d.at_)
def valX (fn : List He.DefD) (cf : List DefC) : AlX := (He.valD fn, true, cf.map DefC.val)
structure SaysX (fa : List He.Fa) (fn : List He.DefD) (cf : List DefC) (ex : PySem.W.Frag → Bool) (K : PySem.W.Frag) : Prop where
  d : He.SaysD fa fn K
  ex : ex K = true
  cf : (cf.map fun c => fnC K c.d.at_) = cf.map DefC.val
def obsXG (n : Nat) (fa : List He.Fa) (fn : List He.DefD) (cf : List DefC) (ex : PySem.W.Frag → Bool) (g : Addr → Option Obj) : AlX := obsX fa fn cf ex (He.frG g (PySem.cStatics :: He.asD g n))
def hookX (n : Nat) (fa : List He.Fa) (fn : List He.DefD) (cf : List DefC) (ex : PySem.W.Frag → Bool) : PySem.W.Hook where
  α := AlX
  obs := fun s => obsXG n fa fn cf ex s.heap.get?
  val := fun _ => valX fn cf
  says := fun _ h => ∃ K : PySem.W.Frag, K.In h ∧ SaysX fa fn cf ex K
  of := fun _ _ e => ⟨_, He.frG_in, congrArg (fun z : AlX => z.1) e, congrArg (fun z : AlX => z.2.1) e, congrArg (fun z : AlX => z.2.2) e⟩
  keeps := fun _ _ _ ⟨K, hK, c⟩ k => ⟨K, PySem.W.Frag.In.keeps hK k, c⟩
theorem obsXG_eq {n : Nat} {fa : List He.Fa} {fn : List He.DefD} {cf : List DefC} {ex : PySem.W.Frag → Bool} {g : Addr → Option Obj} {s : Shared} (h : ∀ a, g a = s.heap.get? a) : obsXG n fa fn cf ex g = (hookX n fa fn cf ex).obs s := by
  have e : g = s.heap.get? := funext h
  rw [e] <;> rfl
end DL

set_option Elab.async false
set_option linter.all false
set_option maxRecDepth 100000
set_option maxHeartbeats 4000000
/-! EX0: an own exception class of two levels over ValueError: super().__init__(text), then one field. -/
namespace PySem
namespace EXN
open PySem.W PySem.Calls PyProof.Rows PySem.HandSPX
/-- the text of such an __init__ -/
structure ExBody (fld : Str) (params : Arguments) (body : List Stmt) (scope : Scope) : Prop where
  ps : ∃ n1 n2 p1 p2, params = { posonlyargs := [], args := [{ arg := "self", annotation := n1, pos := p1 }, { arg := fld, annotation := n2, pos := p2 }], vararg := none, kwonlyargs := [], kw_defaults := [], kwarg := none, defaults := [] }
  bd : ∃ (msg : Str) (k : Nat) (p1 p2 p3 p4 p5 p6 q1 q2 q3 q4 : Pos), body = [.Expr (.Call (.Attribute (.Call (.Name "super" p1) [] [] p2) "__init__" p3) [.Constant (.str msg) k p4] [] p5) p6, .Assign [.Attribute (.Name "self" q1) fld q2] (.Name fld q3) q4] ∧
    ∀ env : Env, eval (.Call (.Attribute (.Call (.Name "super" p1) [] [] p2) "__init__" p3) [.Constant (.str msg) k p4] [] p5) env = (do
      let ov ← attributeBase (.Call (.Name "super" p1) [] [] p2) "__init__" env (eval (.Call (.Name "super" p1) [] [] p2) env)
      standAt p3.atName
      let (f, first) ← holding [ov] (getMethod ov "__init__" (do return (← importBound (.Call (.Name "super" p1) [] [] p2) env).getD true))
      callWith p5 f first (backTo p5 (starEach [.Constant (.str msg) k p4] env)) [])
  bnd : ∀ (qual : Str) (kV doc pm : Value) (an : Option Addr) (cda : Addr) (ct : Value) (cc : Addr) (a b : Value), bindArgs (ksFn "__init__" qual params body scope .none kV doc pm an (.ref cda) ct cc) ⟨[a, b], []⟩ = pure [(("self" : Str), a), (fld, b)]
  kind : scope.kind = .function
  co : scope.isCoroutine = false
  gen : scope.isGenerator = false
  s1 : scope.names.lookup ("self" : Str) = some .local
  s2 : scope.names.lookup fld = some .local
  s3 : scope.names.lookup ("super" : Str) = some .globalImplicit
  s4 : scope.names.lookup ("__class__" : Str) = some .free
  nc : ∀ x ∈ scope.names, x.2 ≠ .cell
  ne : (("self" : Str) == fld) = false
  nd : (fld == ("__debug__" : Str)) = false
/-- what the written part says of the class cn at C and of its __init__ at fI -/
structure ExTxt (P : Program) (K : Frag) (mg : Str → Option Value) (C fI : Addr) (cn fld : Str) : Prop where
  gC : mg cn = some (.ref C)
  oex : L2.OexC K C
  noN : findIn K (.ref C) fld = some none
  iC : findIn K (.ref C) "__init__" = some (some (.ref fI))
  tI : typeIn K (.ref fI) = some (.type "function")
  sup : ks_superIn K C C "__init__" = some (some (.builtin "ValueError.__init__"))
  opq : nsIn K cStatics "thirdparty.any" = some none
  nosup : nsIn K mainGlobals "super" = some none
  top : (P.main.scope.names.lookup ("super" : Str)).isSome = false
  fn : ∃ (oc : Value) (od : Option Addr) (qual : Str) (params : Arguments) (body : List Stmt) (scope : Scope) (kV doc pm : Value) (an : Option Addr) (cda : Addr) (ct : Value) (cc : Addr) (osl : Array (Option Value)),
    K.lookup fI = some ⟨oc, od, .func (ksFn "__init__" qual params body scope .none kV doc pm an (.ref cda) ct cc), osl⟩ ∧ codeIn K (.ref cda) qual = true ∧ ExBody fld params body scope ∧
    (∃ ccl cdd vs ccs file tf, K.lookup cda = some ⟨ccl, cdd, .fields vs, ccs⟩ ∧ vs[2]? = some (.str file tf) ∧ ((P.main.file : Str) == file) = true) ∧ ∃ cl cld csl, K.lookup cc = some ⟨cl, cld, .cell (some (.ref C)), csl⟩
/-- what __init__ leaves of a fresh exception at x -/
structure InitEnd (h h' : Heap) (x C dx t1 : Addr) (fld : Str) (v : Value) : Prop where
  keep : ∀ b o, b ≠ x → h.get? b = some o → h'.get? b = some o
  obj : h'.get? x = some { cls := .ref C, dict := some dx, data := .fields #[.ref t1, .none, .none, .none, .bool false, .none] }
  dbig : h.objs.size ≤ dx
  dne : dx ≠ x
  ns : h'.Ns1 dx (fun y => if y = fld then some v else none)
/-- a made one -/
structure OwnMade (h h' : Heap) (e C d : Addr) (fld : Str) (v : Value) : Prop where
  keep : ∀ b o, h.get? b = some o → h'.get? b = some o
  new : h.objs.size ≤ e
  obj : ∃ oe vs, h'.get? e = some oe ∧ oe.cls = .ref C ∧ oe.dict = some d ∧ oe.data = .fields vs ∧ vs[1]? = some .none
  dbig : h.objs.size ≤ d
  dne : d ≠ e
  ns : h'.Ns1 d (fun y => if y = fld then some v else none)
theorem one_size (v : Value) : [v].length ≤ sizeLine := by
  rw [sizeLine_eq]
  exact (by decide : 1 ≤ 16777216)
section
variable {prog : Program} {w : World} {A : Around} {E : Value → Shared → Prop} {h : Heap} {g : Array GenState} {d : Drawn} {t : Nat} {os : OsState}
variable {nm q : Str} {C N : Addr} {bs bm : List Value} {hdct : Bool} {sn : List Str} {sub : List Value} {ab : Bool} {col : Option Bool} {dd : Option Addr} {k0 k1 k2 k3 k5 : Option Value}
theorem call_bw {u e t0 : Addr} {rest : List Value} {Q : Value → Shared → Prop}
    (hC : h.get? C = some (excClassObj nm q C N bs bm hdct sn sub ab col dd k0 k1 k2 k3 k5 "ValueError.__new__")) (he : h.get? e = some (excO C t0)) (hu : h.get? u = some (kxs_mw "ValueError.__init__" e)) (hrest : rest.length ≤ sizeLine)
    (hq : ∀ h' t1, (∀ b o, b ≠ e → h.get? b = some o → h'.get? b = some o) → h'.get? e = some (excO C t1) → Q .none ⟨h', g, d, t, os⟩) :
    wpAny (model prog w) A (call (.ref u) rest) Q E ⟨h, g, d, t, os⟩ := by
  refine wpAny_call (codeAny_of_tree ?_)
  show wpAny _ A.in1 (callAny (.ref u) ⟨rest, []⟩) _ _ _
  simp only [callAny]
  refine wpAny_bind (wpAny_load hu ?_)
  simp only [kxs_mw, show (Value.type "method-wrapper" == Value.type "method" || Value.type "method-wrapper" == Value.type "builtin_function_or_method" || Value.type "method-wrapper" == Value.type "method-wrapper") = true by decide, if_true]
  refine W.KFB.if_so (by decide) ?_
  refine wpAny_bind (check_bound_init F.excBase_ValueError.toExcCallFacts hC he rfl ?_)
  refine wpAny_bind (wpAny_pure (wpAny_pure ?_))
  refine ⟨Code.quiet_builtin _ (by decide +kernel), codeAny_builtin F.excBase_ValueError.initEntry ?_⟩
  rw [Around.under_plainId F.excBase_ValueError.init.plain _]
  wp_walk
  refine hq _ h.objs.size (fun b o hb ho => ?_) ?_
  · rw [Heap.get?_update_other _ _ (Ne.symm hb)]
    exact Heap.get?_push_of_some _ ho
  · rw [Heap.get?_update_self _ (Heap.get?_push_of_some _ he) rfl]
    rfl
end
section
variable {prog : Program} {w : World} {A : Around} {E : Value → Shared → Prop} {R : Result → Shared → Prop} {s : Shared} {K : Frag} {mg mb : Str → Option Value} {C fI : Addr} {cn fld : Str}
theorem ex_init (T : ExTxt prog K mg C fI cn fld) {x t0 : Addr} {v : Value} (X : K.In s.heap) (G : s.heap.Ns mainGlobals mg) (hb : s.heap.Ns builtinsNs mb) (hbb : ∀ x : Str, x ≠ "__name__" → mb x = bootBuiltins x) (hlim : s.heap.NoLimit)
    (hx : s.heap.get? x = some (excO C t0)) (hnx : K.lookup x = none) (hroom : A.depth < recursionLimit)
    (hq : ∀ h' tk dx t1, InitEnd s.heap h' x C dx t1 fld v → R (.ok (.ret .none)) { s with heap := h', toks := tk }) :
    codeAny (model prog w) A (.call (.ref fI) ⟨[.ref x, v], []⟩) R s := by
  obtain ⟨oc, od, qual, params, body, scope, kV, doc, pm, an, cda, ct, cc, osl, ho, hcd, B, ⟨ccl, cdd, vs, ccs, file, tf, hcode, hvs, hfile⟩, cl, cld, csl, hcell⟩ := T.fn
  obtain ⟨nm, q, N, bs, bm, sn, sub, ab, col, dd, k0, k1, k2, k3, k5, hC, hbm⟩ := T.oex.cls
  have hcl : clsIn K C = some { name := nm, bases := bs, mro := .ref C :: bm, ns := N, qualname := q, hasDict := true, slotNames := sn, subclasses := sub, abstract := ab, collection := col, hasDel := false } := by unfold clsIn; rw [hC] <;> rfl
  obtain ⟨n1, n2, ap1, ap2, eps⟩ := B.ps
  obtain ⟨msg, kk, p1, p2, p3, p4, p5, p6, q1, q2, q3, q4, ebd, hev⟩ := B.bd
  subst eps ebd
  have hsubC : mroIn K C (.ref C) = some true := by
    unfold mroIn
    rw [hcl]
    simp
  have hsubV : mroIn K C (.type "ValueError") = some true := by
    unfold mroIn
    rw [hcl, Option.bind_some, if_neg (show ¬ (List.isEmpty (Value.ref C :: bm) = true) from Bool.false_ne_true)]
    rw [show (Value.ref C :: bm).contains (.type "ValueError") = true from (refsVE_contains "ValueError" (.ref C :: bm) hbm).trans (by decide +kernel)]
  refine ks_codeAny_call_defAt (fd := ksFn "__init__" qual _ _ scope .none kV doc pm an (.ref cda) ct cc) (binds := [("self", .ref x), (fld, v)]) hroom (X _ _ ho) rfl hlim (codeRec_of X hcd) rfl (BindsTo.of_eq (B.bnd _ _ _ _ _ _ _ _ _ _)) B.nc (fun y hy => ?_) (fun h₁ hns k => ?_) B.co B.gen B.kind
  · rcases List.mem_cons.mp hy with rfl | hy
    · exact B.s1
    · rw [List.mem_singleton] at hy
      subst hy
      exact B.s2
  have ksx : (List.lookup ("self" : Str) [(fld, v), ("self", .ref x)]) = some (.ref x) := by
    simp only [List.lookup, B.ne]
    rfl
  have ksf : (List.lookup fld [(fld, v), (("self" : Str), .ref x)]) = some v := by simp [List.lookup]
  have X₁ : K.In h₁ := X.keeps k
  have hx₁ := k _ _ hx
  have hxC : x ≠ C := fun z => by
    have e1 := X _ _ hC
    rw [← z, hx] at e1
    cases e1
  show wpAt _ _ _ (execs _ (ksEnv qual scope s.heap.objs.size fI (.ref cda) cc)) _ _ _
  have hint : interactive (ksEnv qual scope s.heap.objs.size fI (.ref cda) cc) = false := by
    unfold interactive
    rw [show (ksEnv qual scope s.heap.objs.size fI (.ref cda) cc).scope.kind = .function from B.kind]
    rfl
  refine ks_wpAt_execs_cons (ks_wpAt_Expr_any (hi := hint) (ks_wpAt_MethodCall (ks_wpAt_super_base (env := ksEnv qual scope s.heap.objs.size fI (.ref cda) cc) B.s3 B.s4 (by decide) rfl (X₁ _ _ ho) rfl rfl rfl (X₁ _ _ hcode) rfl hvs hfile T.top ?_) (he := hev _)))
  refine ks_loadName_global B.kind B.s3 (loadGlobal_builtin (env := ksEnv qual scope s.heap.objs.size fI (.ref cda) cc) (G.keeps k) (mg_none_of X G T.nosup) (hb.keeps k) ((hbb _ (by decide +kernel)).trans (by first | boot_by_name | rfl | kernel_rfl)) ⟨rfl, ?_⟩)
  refine wpAny_loadName_free B.kind B.s4 rfl ⟨_, X₁ _ _ hcell, rfl⟩ ?_
  refine wpAny_loadName_local B.kind B.s1 hns ksx ?_
  refine ks_wpAny_isType_cls (X₁ _ _ hC) rfl ⟨rfl, ?_⟩
  refine ks_wpAny_call_super (X₁ _ _ hC) rfl hx₁ rfl (fun c e => by cases e) (looks_mroIn X₁ hsubC) (fun h₂ e₂ k₂ => ?_)
  have X₂ : K.In h₂ := X₁.keeps k₂
  have hx₂ := k₂ _ _ hx₁
  have I₂ : W.InstAt h₂ x (excO C t0) C none := ⟨hx₂, rfl, rfl, trivial⟩
  refine kxs_getMethod kxs_ValueError e₂ (looks_opaque X₂ T.opq) (l₀ := .ref C :: bm) ((looks_clsIn X₂ hcl).andThen .now) rfl X₂ ?_ (I₂.type.andThen (looks_mroIn X₂ hsubV)) hxC (by decide) ?_
  · have z := T.sup
    unfold ks_superIn at z
    rw [hcl] at z
    exact z
  have k₃ : ∀ b o, h₂.get? b = some o → (h₂.push (kxs_mw "ValueError.__init__" x)).get? b = some o := fun b o e => Heap.get?_push_of_some _ e
  have hmw : (h₂.push (kxs_mw "ValueError.__init__" x)).get? h₂.objs.size = some (kxs_mw "ValueError.__init__" x) := Heap.get?_push_at rfl rfl
  show wpAny _ _ (callWith p5 (.ref h₂.objs.size) [] (backTo p5 (starEach [.Constant (.str msg) kk p4] (ksEnv qual scope s.heap.objs.size fI (.ref cda) cc))) []) _ _ _
  rw [show starEach [.Constant (.str msg) kk p4] (ksEnv qual scope s.heap.objs.size fI (.ref cda) cc) = (false, eval (.Constant (.str msg) kk p4) (ksEnv qual scope s.heap.objs.size fI (.ref cda) cc)) :: starEach [] (ksEnv qual scope s.heap.objs.size fI (.ref cda) cc) from rfl]
  refine kxs_callWith (i := "ValueError.__init__") (x := x) rfl (evalArgs_plain (spliced_more (wpAny_Constant_str (spliced_none ?_))))
  refine ⟨hmw, call_bw (k₃ _ _ (X₂ _ _ hC)) (k₃ _ _ hx₂) hmw (one_size _) fun h₄ t1 k₄ hx₄ => ?_⟩
  have kx : ∀ b o, b ≠ x → h₁.get? b = some o → h₄.get? b = some o := fun b o hbx e => k₄ b o hbx (k₃ b o (k₂ b o e))
  have hxL : s.heap.objs.size ≠ x := Nat.ne_of_gt (Heap.lt_size hx)
  have X₄ : K.In h₄ := fun b o e => kx b o (fun z => by rw [z, hnx] at e; cases e) (X₁ b o e)
  have hns₄ : h₄.Ns s.heap.objs.size (fun y => List.lookup y [(("self" : Str), Value.ref x), (fld, v)].reverse) := by
    obtain ⟨o, es, ep, e1, r⟩ := hns
    exact ⟨o, es, ep, kx _ _ hxL e1, r⟩
  refine wpAt_of_wpAny ?_
  refine wpAny_execs_cons (plainObj_wpAny_Assign_Attribute ?_)
  refine wpAny_Name (wpAny_loadName_local B.kind B.s2 hns₄ ksf ?_) B.nd
  refine wpAny_Name (wpAny_loadName_local B.kind B.s1 hns₄ ksx ?_) (by decide)
  refine set_plain X₄ (ox := excO C t1) (od := none) ⟨hx₄, rfl, rfl, trivial⟩ T.oex.sa ?_
  refine exc_osa X₄ hx₄ hcl (show refsVE (.ref C :: bm) = true from hbm) rfl T.noN (fun h₅ tk₅ dx k₅ dn dne hx₅ hn₅ => ?_)
  have z : s.heap.objs.size < h₄.objs.size := hns₄.lt
  exact wpAny_execs_nil (hq h₅ tk₅ dx t1 ⟨fun b o hb e => k₅ b o hb (kx b o hb (k b o e)), hx₅, Nat.le_of_lt (Nat.lt_of_lt_of_le z dn), dne, hn₅⟩)
theorem ex_made (T : ExTxt prog K mg C fI cn fld) {v : Value} (X : K.In s.heap) (G : s.heap.Ns mainGlobals mg) (hb : s.heap.Ns builtinsNs mb) (hbb : ∀ x : Str, x ≠ "__name__" → mb x = bootBuiltins x) (hlim : s.heap.NoLimit) (hroom : A.depth + 1 < recursionLimit)
    (hq : ∀ h' tk e d, OwnMade s.heap h' e C d fld v → R (.ok (.ret (.ref e))) { s with heap := h', toks := tk }) :
    codeAny (model prog w) A (.call (.ref C) ⟨[v], []⟩) R s := by
  obtain ⟨nm, q, N, bs, bm, sn, sub, ab, col, dd, k0, k1, k2, k3, k5, hC, hbm⟩ := T.oex.cls
  obtain ⟨hp, g, dr, tk, os⟩ := s
  have k : ∀ b o, hp.get? b = some o → ((hp.push (kdv_tup [v])).push (excO C hp.objs.size)).get? b = some o := fun b o e => Heap.get?_push_of_some _ (Heap.get?_push_of_some _ e)
  have hget : ((hp.push (kdv_tup [v])).push (excO C hp.objs.size)).get? (hp.objs.size + 1) = some (excO C hp.objs.size) := by heap_get
  have hnx : K.lookup (hp.objs.size + 1) = none := by
    cases e : K.lookup (hp.objs.size + 1) with
    | none => rfl
    | some o =>
      have z : hp.get? (hp.objs.size + 1) = some o := X _ _ e
      exact absurd (Nat.lt_of_succ_lt (Heap.lt_size z)) (Nat.lt_irrefl _)
  refine call_own F.excBase_ValueError (fun X => refsVE_contains X bm hbm) (X _ _ hC) (looks_findIn X T.iC) (fun self => bind_fn X self T.tI) (one_size v) ?_
  refine ex_init (s := ⟨(hp.push (kdv_tup [v])).push (excO C hp.objs.size), g, dr, tk, os⟩) T (X.keeps k) (G.keeps k) (hb.keeps k) hbb (hlim.keeps k) hget hnx ?_ fun h' tk' dx t1 ⟨k', hx, dn, dne, hns⟩ => ?_
  · show A.depth + 1 < recursionLimit
    exact hroom
  · have old : ∀ b o, hp.get? b = some o → h'.get? b = some o := fun b o e => k' b o (Nat.ne_of_lt (Nat.lt_succ_of_lt (Heap.lt_size e))) (k b o e)
    have z : hp.objs.size + 1 + 1 ≤ dx := by
      first
        | (simpa only [Heap.size_push] using dn)
        | exact dn
        | (have q := dn; rw [Heap.size_push, Heap.size_push] at q; exact q)
    exact ⟨rfl, hq h' tk' (hp.objs.size + 1) dx ⟨old, Nat.le_succ _, ⟨_, _, hx, rfl, rfl, rfl, rfl⟩, Nat.le_trans (Nat.le_trans (Nat.le_succ _) (Nat.le_succ _)) z, dne, hns⟩⟩
end
end EXN
end PySem

namespace L2
open PySem PySem.Spec PyProof.Rows
theorem relO_one {fld : Str} {v : V} {v' : Value} (r : RelV v v') (f : Str) : RelO (List.lookup f [(fld, v)]) (if f = fld then some v' else none) := by
  by_cases hw : f = fld
  · subst hw
    rw [if_pos rfl]
    have q : List.lookup f [(f, v)] = some v := by simp [List.lookup]
    rw [q]
    exact r
  · rw [if_neg hw]
    have qw : (f == fld) = false := by simpa using hw
    have q2 : List.lookup f [(fld, v)] = none := by simp [List.lookup, qw]
    rw [q2]
    trivial
section
variable {X : Cx} {C fI : Addr} {cn fld : Str}
/-- cn(e) -/
def tMkE (C : Addr) (fld : Str) (ta : TA) : St → Hp → XK → Prop := fun σ H Q => ta σ H fun vs H1 => ∃ v, vs = [v] ∧ ∀ d, H1 d = none → Q (.ref C) (some d) (upd H1 d (.xd [(fld, v)]))
theorem pmk_exn {a : Expr} {ta : TA} {p pos : Pos} {k : Nat} (T : PySem.EXN.ExTxt X.prog X.K X.mg C fI cn fld) (hr : Room k X.A) (ha : PA X [a] ta) (hg : Gl X cn)
    (hdb : (cn == ("__debug__" : Str)) = false) (he : starEach (a :: []) X.env = (false, eval a X.env) :: starEach [] X.env) (hpl : (backTo pos (starEach [] X.env)).any (·.1) = false := by rfl) :
    PMk X (.Call (.Name cn p) [a] [] pos) (tMkE C fld ta) := by
  intro pins s σ H Q I h
  refine wpAny_Call_Name_kw (ld_glob I hg T.gC ?_ hdb)
  refine PySem.W.callWith_K (h₀ := X.base) I.ok.mod.kin T.oex.kC (thn (ha.run pos pins s σ H _ I h) fun us s1 hh => ?_) he hpl
  obtain ⟨vs, H1, I1, r1, v, ev, q1⟩ := hh
  subst ev
  refine ⟨I1.kIn, ?_⟩
  cases r1 with
  | cons rv rn =>
    rename_i v' us'
    cases rn
    show wpAny _ _ (call (.ref C) [v']) _ _ _
    have hlim := I1.nolimit
    obtain ⟨mb, hb1, hb2⟩ := I1.mod.blt
    obtain ⟨hp, g, dr, tk, os⟩ := s1
    refine wpAny_call (PySem.EXN.ex_made T I1.kIn (I1.mod.glob.keeps I1.bk) (hb1.keeps I1.bk) hb2 hlim (by have := hr.dp; omega) fun h' tk' e d M => ?_)
    show MkP X pins σ Q (.ref e) ⟨h', g, dr, tk', os⟩
    obtain ⟨oe, fv, hoe, hc, hd, hdat, h1⟩ := M.obj
    have hns := M.ns
    obtain ⟨G', g1, g2⟩ := restrict h' fun b => decide (b ≠ e)
    have gk : ∀ b, b ≠ e → G'.get? b = h'.get? b := fun b hb => g1 b (decide_eq_true hb)
    have ge : G'.get? e = none := g2 e (by simp)
    have old : ∀ b o, hp.get? b = some o → G'.get? b = some o := fun b o q => (gk b (Nat.ne_of_lt (Nat.lt_of_lt_of_le (Heap.lt_size q) M.new))).trans (M.keep b o q)
    have ob : ObjOk X.prog X.w (upd H1 d (.xd [(fld, v)])) G' d (.xd [(fld, v)]) :=
      ⟨_, hns.at (fun o q => (gk d M.dne).trans q), fun f => relO_one rv f⟩
    have J : Inv X pins σ (upd H1 d (.xd [(fld, v)])) ⟨G', g, dr, tk', os⟩ := I1.laid (t' := tk') old M.dbig ob
    refine ⟨e, oe, fv, ⟨G', g, dr, tk', os⟩, _, .ref C, some d, rfl, J, fun b o q => ?_, ge, hoe, ⟨hc, hd⟩, hdat, h1, ?_, rfl, I1.bare, raises_own T.oex.exC T.oex.tyC, q1 d (I1.hok.fresh M.dbig)⟩
    · by_cases hb : b = e
      · have q' : G'.get? b = some o := q
        rw [hb, ge] at q'; cases q'
      · exact (gk b hb).symm.trans q
    · rw [upd_ne (Ne.symm M.dne)]
      exact I1.hok.fresh M.new
end
end L2
namespace DL
open PySem PySem.Spec PyProof.Rows L2
/-- raise cn(a), as DL11 wants it -/
theorem rz_one {P : Program} {w : World} {K : PySem.W.Frag} {mg : Str → Option Value} {base : Heap} {T : Tbl} {k c : Nat} {C fI : Addr} {cn fld : Str} (hT : T.K = K) (hc : T.exc c = some (C, fld)) (E : PySem.EXN.ExTxt P K mg C fI cn fld) (hdb : (cn == ("__debug__" : Str)) = false) :
    RzAll [(cn, c)] P w K mg base T k := by
  intro N qual scope f cd A outer s H E' hid hr hk x k' m hg a g p p1 p2 ha hn
  rw [List.mem_singleton] at m
  cases m
  have hs : starEach (a :: []) (cxOf (L2.CX P w) P w K mg base N qual scope f cd A outer s H E').env = (false, eval a (cxOf (L2.CX P w) P w K mg base N qual scope f cd A outer s H E').env) :: starEach [] (cxOf (L2.CX P w) P w K mg base N qual scope f cd A outer s H E').env := by
    cases a <;> first | rfl | cases hn
  have hp := ps_raise (X := cxOf (L2.CX P w) P w K mg base N qual scope f cd A outer s H E') (pos := p2) rfl (takes_of rfl rfl rfl rfl) (pmk_exn (p := p) (pos := p1) E hr (pa_cons ha pa_nil hs) hg hdb hs rfl)
  refine PS.imp hp fun D si H1 ⟨al, rh, mu, st, rs, h⟩ => ?_
  refine ⟨al, rh, mu, st, rs, (RVS.bind (P := fun H al d v => Rp (T.hd hid) H al d v) rs h).imp fun x H2 ⟨al1, d, mu1, g1, s1, r1, h1⟩ => ?_⟩
  refine ⟨x, rfl, fun dd hd => ?_⟩
  have g2 := gw_new (al := al1) (o := HO.xd [(fld, x)]) hd
  exact h1 _ _ si al1 _ g2 (s1.new hd) ((rs.mono g1).mono g2) ⟨C, fld, dd, x, hc, rfl, rfl, upd_same, s1.notin hd, r1.mono g2⟩
theorem RzAll.cons {rz : List (Str × Nat)} {q : Str × Nat} {P : Program} {w : World} {K : PySem.W.Frag} {mg : Str → Option Value} {base : Heap} {T : Tbl} {k : Nat} (h1 : RzAll [q] P w K mg base T k) (h2 : RzAll rz P w K mg base T k) : RzAll (q :: rz) P w K mg base T k := by
  intro N qual scope f cd A outer s H E' hid hr hk x k' m
  rcases List.mem_cons.mp m with e | m
  · exact h1 N qual scope f cd A outer s H E' hid hr hk x k' (by rw [e]; exact List.mem_singleton.mpr rfl)
  · exact h2 N qual scope f cd A outer s H E' hid hr hk x k' m
end DL

set_option Elab.async false
set_option linter.all false
set_option maxRecDepth 100000
set_option maxHeartbeats 4000000
/-! EX1: isinstance of a caught error with a dict; several except clauses, with names and without. -/
namespace PySem.W
open PySem PySem.Spec PySem.Calls PyProof.Rows
section
variable {prog : Program} {w : World} {A : Around} {E : Value → Shared → Prop} {s : Shared} {K : Frag} {x D : Addr} {ox : Obj} {od : Option Obj}
theorem exn_findObj {C : Addr} {name : Str} {a g : Value} (hc : (clsIn K C).isSome = true) (ha : findIn K (.ref C) name = some (some a)) (hg : specialIn K a "__get__" = some (some g)) (ht : takesIn K a = some true) : findObj K C od name = some (.bind g a) := by
  obtain ⟨cd, hc⟩ := Option.isSome_iff_exists.mp hc
  unfold findObj
  rw [hc, Option.bind_some, ha, Option.bind_some]
  simp [hg, ht]
theorem exn_class {Q : Option Value → Shared → Prop} (T : L2.ExcC K D) (X : K.In s.heap) (I : InstAt s.heap x ox D od) (h : Q (some (.ref D)) { s with toks := s.toks + 1 }) : wpAny (model prog w) A (getAttr? (.ref x) "__class__") Q E s := by
  have hf : findObj K D od "__class__" = some (.bind (.builtin "getset_descriptor.__get__") (.builtin "object.__class__")) := exn_findObj (by obtain ⟨cd, hc, _⟩ := any_some T.hd; rw [hc]; rfl) T.ha T.hn T.ht
  obtain ⟨hp, g, d, t, os⟩ := s
  have L0 := I.type (M := model prog w)
  have L1 := looks_findIn (M := model prog w) X T.hg
  have L2 := looks_findIn (M := model prog w) X T.hk
  have L3 := looks_find (M := model prog w) X I hf
  have sub : Looks (model prog w) hp (isInstance (.ref x) (.type "BaseException")) true := L0.andThen (looks_subIn X T.hs)
  have z0 : (false && onTheHeap (Value.builtin "BaseException.__getattribute__")) = false := rfl
  have z2 : (Value.builtin "BaseException.__getattribute__" == Value.builtin "object.__getattribute__") = false := by decide +kernel
  have z1 : (onTheHeap (Value.ref D) && Value.builtin "BaseException.__getattribute__" == Value.builtin "object.__getattribute__") = false := by rw [z2]; rfl
  unfold getAttr? getAttrBy? getAttrBy
  refine wpAny_bind (wpAny_mkText (wpAny_bind (wpAny_attempt (wpAny_holding (wpAny_bind (L0.at (wpAny_bind (L1.at ?_))))))))
  show wpAny _ _ (if (onTheHeap (Value.ref D) && Value.builtin "BaseException.__getattribute__" == Value.builtin "object.__getattribute__") = true then _ else _) _ _ _
  rw [z1, if_neg Bool.false_ne_true]
  unfold getAttrByItsOwn hookBefore
  refine wpAny_bind ?_
  rw [if_pos (show onTheHeap (Value.ref D) = true from rfl)]
  refine L2.at ?_
  refine wpAny_bind (wpAny_attempt (wpAny_holding ?_))
  unfold callGetattribute
  rw [z0, if_neg Bool.false_ne_true]
  unfold boundAndCalled
  rw [PySem.F.excAttr_ValueError.ga.bind (.ref x)]
  refine wpAny_bind (wpAny_pure ?_)
  show wpAny _ _ (call (.builtin "BaseException.__getattribute__") [.ref x, .str "__class__" t]) _ _ _
  refine wpAny_call (codeAny_call_builtin PySem.F.excAttr_ValueError.ga.plain PySem.F.entry_bexc_ga ?_)
  refine @check_slot (model prog w) _ _ ⟨hp, g, d, t + 1, os⟩ "BaseException.__getattribute__" "BaseException" "__getattribute__" (.ref x) [.str "__class__" t] [] _ (by decide +kernel) (by decide +kernel) sub (PySem.F.args_bexc_ga (.ref x) (.str "__class__" t)) ?_
  unfold Builtin.«object.__getattribute__»
  refine wpAny_bind (wpAny_of_eq (a := ((Value.ref x : Value), [Value.str "__class__" t])) (by first | rfl | (simp only [slotArgs]; rfl)) ?_)
  refine wpAny_bind (wpAny_pure (wpAny_bind (L0.at (wpAny_bind (L3.at ?_)))))
  show wpAny _ _ (holding [Value.builtin "object.__class__"] (call (.builtin "getset_descriptor.__get__") [.builtin "object.__class__", .ref x, .ref D]) >>= ret) _ _ _
  refine wpAny_bind (wpAny_holding (wpAny_call (class_get (s := ⟨hp, g, d, t + 1, os⟩) (ox := ox) (od := od) X I T.hm ?_)))
  refine wpAny_pure ?_
  show wpAny _ _ (handedOut (.ref D)) _ _ _
  rw [handedOut_of (v := .ref D) rfl]
  first
    | exact wpAny_pure (wpAny_pure h)
    | exact wpAny_pure h
    | exact wpAny_pure (wpAny_bind (wpAny_pure (wpAny_pure h)))
theorem exn_kitx (T : L2.ExcC K D) : KitX K (.ref x) (.ref D) (fun h => InstAt h x ox D od) where
  ty := fun _ _ _ I => I.type
  it := fun _ _ X _ => by
    obtain ⟨cdD, hcD, _⟩ := any_some T.hd
    unfold clsIn at hcD
    split at hcD
    · rename_i c' d' cd' sl' ho
      intro A' Q' E' s' k q
      unfold isType loadHead
      exact wpAny_bind (wpAny_loadPart (k _ _ (X _ _ ho)) (wpAny_pure q))
    · cases hcD
  ne := fun h tp dd its n sl X htp => by
    obtain ⟨cdD, hcD, _⟩ := any_some T.hd
    refine Bool.eq_false_iff.mpr fun q => ?_
    have e : D = tp := Value.ref.inj (beq_iff_eq.mp q)
    subst e
    unfold clsIn at hcD
    split at hcD
    · rename_i c' d' cd' sl' ho
      have z := (X _ _ ho).symm.trans htp
      cases z
    · cases hcD
  ca := fun X I k => exn_class T X I k
end
end PySem.W
namespace L2
open PySem PySem.Spec PyProof.Rows
/-- isinstance(e, c), e the exception that the suite holds, with its dict -/
def rIsD (K : PySem.W.Frag) (D a : Addr) (dd : Addr) : List V → Hp → VK → Prop := fun xs H Q => ∃ (c : V) (cv : Value) (b : Bool) (fs : List (Str × V)), xs = [.ref a, c] ∧ (∀ u, RelV c u → u = cv) ∧ PySem.W.kitOne K (.ref D) cv = some b ∧ H dd = some (.xd fs) ∧ Q (.bl b) H
theorem call_isD {X : Cx} {a D dd : Addr} {oe : Obj} {pn : List (Addr × Obj)} (C : ExcC X.K D) (hz : Zc (.ref D) (some dd) oe) (hf : ∃ vs, oe.data = .fields vs) : CallR (X.suite a ((a, oe) :: pn)) (.builtin "isinstance") (rIsD X.K D a dd) := by
  intro pins s σ H xs us Q I r h
  obtain ⟨c, cv, b, fs, rfl, hcv, e, hd, q⟩ := h
  cases r with
  | cons rx rr =>
    cases rr with
    | cons rt rr =>
      cases rr
      cases rx
      have ec := hcv _ rt
      subst ec
      obtain ⟨hget, _⟩ := I.pin (a, oe) (List.mem_append.mpr (.inl List.mem_cons_self))
      obtain ⟨vs, hv⟩ := hf
      have hx : ObjOk X.prog X.w H s.heap dd (.xd fs) := I.hok dd _ hd
      obtain ⟨mA, hns, hr⟩ := hx
      obtain ⟨od, ho, hl⟩ := lookIn_ns hns
      have J : PySem.W.InstAt s.heap a oe D (some od) := ⟨hget, hz.1, by unfold PySem.W.notCls; rw [hv] <;> rfl, by rw [hz.2]; exact ho⟩
      exact PySem.W.kia_one (PySem.W.exn_kitx C) I.kIn J e (fun z => nomatch z) fun tk => ⟨.bl b, H, I.kept (t' := tk) fun _ _ z => z, rfl, q⟩
/-- what the clauses wish of an exception of the body, one after the other; with a slot, if the clause names one -/
def endsGone (i : Option Nat) (D : Ends) : Ends := match i with
  | none => D
  | some i => { nx := fun σ' H' => D.nx (σ'.set i none) H', rt := D.rt, bk := fun σ' H' => D.bk (σ'.set i none) H', ct := fun σ' H' => D.ct (σ'.set i none) H' }
def slotHeld (i : Option Nat) (a : Addr) (σ : St) : St := match i with
  | none => σ
  | some i => σ.set i (some (.ref a))
abbrev ClE : Type := Option Nat × Value × (Addr → Value → Option Addr → TS)
def wEach (K : PySem.W.Frag) (Wout : WX) (D : Ends) : List ClE → WX
  | [] => Wout
  | (i, c, ts) :: r => fun cls d σ H => ∃ b, PySem.W.exmOne K cls c = some b ∧ (b = true → ∀ a, H a = none → ts a cls d (endsGone i D) (slotHeld i a σ) H) ∧ (b = false → wEach K Wout D r cls d σ H)
inductive HdE (X : Cx) : List ExceptHandler → List ClE → Prop
  | nil : HdE X [] []
  | bare {x : Str} {c : Value} {ts : Addr → Value → Option Addr → TS} {b₀ : Stmt} {suite : List Stmt} {np pos' : Pos} {hds : List ExceptHandler} {l : List ClE} (hc : Names X x c)
      (hsu : ∀ (a : Addr) (oe : Obj) (cls : Value) (d : Option Addr) (pn : List (Addr × Obj)), Zc cls d oe → (∃ vs, oe.data = .fields vs) → PSs (X.suite a ((a, oe) :: pn)) (b₀ :: suite) (ts a cls d)) (r : HdE X hds l) :
      HdE X (.ExceptHandler (some (.Name x np)) none (b₀ :: suite) pos' :: hds) ((none, c, ts) :: l)
  | named {x n : Str} {i : Nat} {c : Value} {ts : Addr → Value → Option Addr → TS} {b₀ : Stmt} {suite : List Stmt} {np pos' : Pos} {hds : List ExceptHandler} {l : List ClE} (hi : X.N[i]? = some n) (hln : X.env.kindOf n = some .local) (hc : Names X x c)
      (hsu : ∀ (a : Addr) (oe : Obj) (cls : Value) (d : Option Addr) (pn : List (Addr × Obj)), Zc cls d oe → (∃ vs, oe.data = .fields vs) → PSs (X.suite a ((a, oe) :: pn)) (b₀ :: suite) (ts a cls d)) (r : HdE X hds l) :
      HdE X (.ExceptHandler (some (.Name x np)) (some n) (b₀ :: suite) pos' :: hds) ((some i, c, ts) :: l)
section
variable {X : Cx} {body : List Stmt} {h₀ : ExceptHandler} {hds : List ExceptHandler} {l : List ClE} {pos : Pos} {tb : WX → TS} {Wout : WX}
theorem ps_try_each (hs : X.stack = X.env :: X.outer) (hf : X.env.frame = some X.env.locals) (hN : X.N.Nodup) (tk : Takes X Wout)
    (hb : ∀ (W : WX) (pn : List (Addr × Obj)) (xe : Value → Shared → Prop), Takes (X.tr pn xe) W → PassesOwn (model X.prog X.w) X.A X.env xe → PSs (X.tr pn xe) body (tb W))
    (hh : HdE X (h₀ :: hds) l) : PS X (.Try body (h₀ :: hds) [] [] pos) (fun D σ H => tb (wEach X.K Wout D l) D σ H) := by
  refine ⟨fun pins s σ H D I h => ?_⟩
  have ok := I.ok
  have hfr : X.A.frames = some (X.env :: X.outer) := by rw [ok.frames, hs]
  refine wpAny_Try_except ?_
  refine wpAny_mono ((hb (wEach X.K Wout D l) (X.pn ++ pins) (fun e s₁ => wpAny (model X.prog X.w) X.A (noteFrame e X.env) (fun _ s₂ => wpAny (model X.prog X.w) X.A (setFlight e none) (fun _ s₃ =>
    wpAny (model X.prog X.w) X.A (handleBy e X.env (h₀ :: hds)) (SP X pins D) X.xe s₃) X.xe s₂) X.xe s₁) (fun u s' xx => ?_) PassesOwn.looking).run [] s σ H D (I.toTry _) h) (fun f s1 hsp => ?_) (fun e s1 he => he)
  · obtain ⟨a, B, sI, pins', σ', H', cls, d, rfl, J', nb, up, sky, na, os, ag, w⟩ := xx
    have J : Inv X pins σ' H' sI := J'.ofTry ok
    have sky' : Sky B (X.env :: X.outer) a (Zc cls d) X.env.locals s'.heap := by rw [← hs]; exact sky
    show wpAny (model X.prog X.w) X.A (noteFrame (.ref a) X.env) _ _ _
    refine Sky.land Zc.steady hfr hf sky' fun h3 fl3 up3 => ?_
    have J3 : Inv X pins σ' H' { s' with heap := h3 } := J.landed nb fl3.1 (up.trans up3) os ag
    obtain ⟨oe3, vs3, he3, hz3, hd3⟩ := fl3.there
    have notFr : ∀ {h : Heap} {o : Obj} {vs : Array Value}, h.FunFrames B (X.env :: X.outer) → h.get? a = some o → o.data = .fields vs → a ∉ frs (X.env :: X.outer) := fun {h o vs} ff e dd hm => by
      obtain ⟨_, o', e', hnf⟩ := ff.mem hm
      rw [e] at e'; cases e'
      exact hnf _ dd
    have nfr := notFr fl3.2.2.1 he3 hd3
    have nL : a ≠ X.env.locals := fun z => nfr (List.mem_filterMap.mpr ⟨X.env, List.mem_cons_self, by rw [hf, z]⟩)
    have nF : a ∉ X.fs := fun hm => by
      obtain ⟨e, he, q⟩ := List.mem_filterMap.mp hm
      exact nfr (List.mem_filterMap.mpr ⟨e, List.mem_cons_of_mem _ he, q⟩)
    have S3 := J3.suite he3 hd3 na nL nF
    have test : ∀ {x : Str} {c : Value} {np : Pos}, Names X x c → ∀ {Q : Value → Shared → Prop} {E : Value → Shared → Prop}, Q c { s' with heap := h3 } → wpAny (model X.prog X.w) (X.A.mark (some (.ref a))) (eval (.Name x np) X.env) Q E { s' with heap := h3 } := fun {x c np} hc {Q E} q => by
      obtain ⟨hg, hdbg, hm | ⟨hm, hv, hnn⟩⟩ := hc
      · exact ld_glob (X := X.suite a ((a, oe3) :: (X.pn ++ pins))) S3 hg hm q hdbg
      · exact ld_blt (X := X.suite a ((a, oe3) :: (X.pn ++ pins))) S3 hg hm hv q hnn hdbg
    have go : ∀ {hds' : List ExceptHandler} {l' : List ClE}, HdE X hds' l' → wEach X.K Wout D l' cls d σ' H' →
        wpAny (model X.prog X.w) X.A (handleBy (.ref a) X.env hds') (SP X pins D) X.xe { s' with heap := h3 } := by
      intro hds' l' hk
      induction hk with
      | nil =>
        intro w
        refine wpAny_handleBy_nil ?_
        obtain ⟨k1, k2, k3, oe, vs, T, oT, ts', he, hz, hd, h1, hr⟩ := id fl3
        unfold PySem.passOn
        refine wpAny_bind (wpAny_field he hd h1 ?_)
        rw [if_neg (show ¬ ((Value.ref T == Value.none) = true) from by simp)]
        have fin : wpAny (model X.prog X.w) X.A (setFlight (.ref a) X.env.frame) (fun _ s4 => wpAny (model X.prog X.w) X.A (throw (.ref a) : Sem Flow) (SP X pins D) X.xe s4) X.xe { s' with heap := h3 } := by
          rw [hf]
          refine HandSPX.setFlight_upZ fl3 fun h4 hh4 up4 => wpAny_throw (tk _ _ ?_)
          exact ⟨a, B, sI, pins, σ', H', cls, d, rfl, J, nb, (up.trans up3).trans up4, .inr (.inr (by rw [hs]; exact hh4)), na, os, ag, w⟩
        first
          | exact wpAny_bind (wpAny_pure (wpAny_bind fin))
          | exact wpAny_bind fin
      | @bare x c ts b₀ suite np pos' hds2 l2 hc hsu r ih =>
        intro w
        obtain ⟨b, hb1, hyes, hno⟩ := w
        refine wpAny_handleBy_cons (codeAny_handlers_test ?_) (by intro q; cases q)
        have LT : PySem.W.Looks (model X.prog X.w) h3 (typeOf (.ref a)) cls := fun A Q E s k q => wpAny_typeOf_ref (k _ _ he3) (by rw [hz3.1]; exact q)
        have LM := PySem.W.exm_one (M := model X.prog X.w) (J3.kIn) LT hb1
        refine test hc (LM.here ?_)
        cases b with
        | true =>
          refine codeAny_handlers_suite ?_
          refine HandSPX.lands_againZ fl3 fun h4 fl4 up4 => ?_
          have J4 : Inv X pins σ' H' { s' with heap := h4 } := J.landed nb fl4.1 ((up.trans up3).trans up4) os ag
          obtain ⟨oe4, vs4, he4, hz4, hd4⟩ := fl4.there
          have S4 := J4.suite he4 hd4 na nL nF
          refine wpAny_mono ((hsu a oe4 cls d (X.pn ++ pins) hz4 ⟨_, hd4⟩).run [] _ _ H' _ S4 (hyes rfl a na)) (fun f s6 hsp => ?_) (fun _ _ z => False.elim z)
          cases f with
          | ret u =>
            obtain ⟨v6, σ6, H6, S6, r6, q6⟩ := hsp
            exact ⟨_, _, _, S6.unsuite ok, r6, q6⟩
          | next =>
            obtain ⟨σ6, H6, S6, q6⟩ := hsp
            exact ⟨_, _, S6.unsuite ok, q6⟩
          | brk =>
            obtain ⟨σ6, H6, S6, q6⟩ := hsp
            exact ⟨_, _, S6.unsuite ok, q6⟩
          | cont =>
            obtain ⟨σ6, H6, S6, q6⟩ := hsp
            exact ⟨_, _, S6.unsuite ok, q6⟩
        | false =>
          show wpAny _ X.A (handleBy (.ref a) X.env hds2) _ _ _
          exact ih (hno rfl)
      | @named x n i c ts b₀ suite np pos' hds2 l2 hi hln hc hsu r ih =>
        intro w
        obtain ⟨b, hb1, hyes, hno⟩ := w
        refine wpAny_handleBy_cons (codeAny_handlers_test ?_) (by intro q; cases q)
        have LT : PySem.W.Looks (model X.prog X.w) h3 (typeOf (.ref a)) cls := fun A Q E s k q => wpAny_typeOf_ref (k _ _ he3) (by rw [hz3.1]; exact q)
        have LM := PySem.W.exm_one (M := model X.prog X.w) (J3.kIn) LT hb1
        refine test hc (LM.here ?_)
        cases b with
        | true =>
          refine codeAny_handlers_suite_as ?_
          refine HandSPX.lands_againZ fl3 fun h4 fl4 up4 => ?_
          have J4 : Inv X pins σ' H' { s' with heap := h4 } := J.landed nb fl4.1 ((up.trans up3).trans up4) os ag
          obtain ⟨oe4, vs4, he4, hz4, hd4⟩ := fl4.there
          have S4 := J4.suite he4 hd4 na nL nF
          refine store_ok (X := X.suite a ((a, oe4) :: (X.pn ++ pins))) (v := .ref a) S4 hN hi (.inl hln) rfl (fun s5 S5 => ?_) (.inr hln)
          refine wpAny_mono ((hsu a oe4 cls d (X.pn ++ pins) hz4 ⟨_, hd4⟩).run [] s5 _ H' _ S5 (hyes rfl a na)) (fun f s6 hsp => ?_) (fun _ _ z => False.elim z)
          have end_ : ∀ {σ6 : St} {H6 : Hp} {Q : Shared → Prop}, Inv (X.suite a ((a, oe4) :: (X.pn ++ pins))) [] σ6 H6 s6 → (∀ s7, Inv X pins (σ6.set i none) H6 s7 → Q s7) →
              wpAny (model X.prog X.w) X.A (do bindName X.env n .none; unbindBehindTheSuite X.env n pos') (fun _ s7 => Q s7) X.xe s6 := fun {σ6 H6 Q} S6 hq => gone_ok (S6.unsuite ok) hN hi hln hq
          cases f with
          | ret u =>
            obtain ⟨v6, σ6, H6, S6, r6, q6⟩ := hsp
            exact end_ S6 fun s7 J7 => ⟨_, _, _, J7, r6, q6⟩
          | next =>
            obtain ⟨σ6, H6, S6, q6⟩ := hsp
            exact end_ S6 fun s7 J7 => ⟨_, _, J7, q6⟩
          | brk =>
            obtain ⟨σ6, H6, S6, q6⟩ := hsp
            exact end_ S6 fun s7 J7 => ⟨_, _, J7, q6⟩
          | cont =>
            obtain ⟨σ6, H6, S6, q6⟩ := hsp
            exact end_ S6 fun s7 J7 => ⟨_, _, J7, q6⟩
        | false =>
          show wpAny _ X.A (handleBy (.ref a) X.env hds2) _ _ _
          exact ih (hno rfl)
    exact go hh w
  · cases f with
    | ret u =>
      obtain ⟨v, σ', H', J', r, q⟩ := hsp
      exact ⟨v, σ', H', J'.ofTry ok, r, q⟩
    | next =>
      obtain ⟨σ', H', J', q⟩ := hsp
      exact wpAny_execs_nil ⟨σ', H', J'.ofTry ok, q⟩
    | brk =>
      obtain ⟨σ', H', J', q⟩ := hsp
      exact ⟨σ', H', J'.ofTry ok, q⟩
    | cont =>
      obtain ⟨σ', H', J', q⟩ := hsp
      exact ⟨σ', H', J'.ofTry ok, q⟩
end
end L2

set_option Elab.async false
set_option linter.all false
set_option maxRecDepth 100000
set_option maxHeartbeats 4000000
/-! DL15: try: .. except X as e: return .. -/
namespace DL
open PySem PySem.Spec PyProof.Rows L2
/-- the exceptions that a text tells: of a class's name, whether it takes those of each number; the field of each number -/
structure XC where
  hs : List (Str × List (Nat × Bool))
  fl : List (Nat × Str)
structure XcOk (xc : XC) (T : Tbl) (K : PySem.W.Frag) (mg : Str → Option Value) : Prop where
  fl : ∀ c C f, T.exc c = some (C, f) → xc.fl.lookup c = some f ∧ XfC K C ∧ ExcC K C ∧ PySem.W.findIn K (.ref C) f = some none
  hs : ∀ x l, (x, l) ∈ xc.hs → (x == ("__debug__" : Str)) = false ∧ ∃ a, mg x = some (.ref a) ∧ ∀ c C f b, T.exc c = some (C, f) → l.lookup c = some b → PySem.W.exmOne K (.ref C) (.ref a) = some b ∧ PySem.W.kitOne K (.ref C) (.ref a) = some b
theorem XRp.mono {T : Tbl} {H H' : Hp} {al al' : List Addr} {x : DX} {cls : Value} {d : Option Addr} (g : Gw al H al' H') (h : XRp T H al x cls d) : XRp T H' al' x cls d := by
  obtain ⟨C, f, dd, v, h1, h2, h3, h4, h5, h6⟩ := h
  exact ⟨C, f, dd, v, h1, h2, h3, g.keep _ _ h5 h4, g.notin h5 (by rw [h4]; simp), h6.mono g⟩
/-- in an except suite: what an expression makes of the exception -/
def tX (T : Tbl) (i : Option Nat) (a : Addr) (cls : Value) (d : Option Addr) (g : DX → Option D) : TE := fun si H Q => ∃ al mu x dd, Ste T al mu H ∧ (∀ j, i = some j → si[j]? = some (some (.ref a))) ∧ XRp T H al x cls d ∧ g x = some dd ∧
  ∀ v al' H', Gw al H al' H' → Ste T al' mu H' → Rp T H' al' dd v → Q v H'
def tXL (T : Tbl) (i : Option Nat) (a : Addr) (cls : Value) (d : Option Addr) (g : DX → Option (List D)) : TA := fun si H Q => ∃ al mu x dd, Ste T al mu H ∧ (∀ j, i = some j → si[j]? = some (some (.ref a))) ∧ XRp T H al x cls d ∧ g x = some dd ∧
  ∀ v al' H', Gw al H al' H' → Ste T al' mu H' → RpL T H' al' dd v → Q v H'
def tXB (T : Tbl) (i : Option Nat) (a : Addr) (cls : Value) (d : Option Addr) (g : DX → Option Bool) : TT := fun si H Q => ∃ al mu x b, Ste T al mu H ∧ (∀ j, i = some j → si[j]? = some (some (.ref a))) ∧ XRp T H al x cls d ∧ g x = some b ∧ Q b H
def xTup (g : DX → Option (List D)) : DX → Option D := fun x => match g x with
  | some ds => if few ds.length = true then some (.tup ds) else none
  | none => none
def xNil : DX → Option (List D) := fun _ => some []
def xCons (g : DX → Option D) (r : DX → Option (List D)) : DX → Option (List D) := fun x => match g x, r x with
  | some d, some ds => some (d :: ds)
  | _, _ => none
def xIf (t : DX → Option Bool) (a b : DX → Option D) : DX → Option D := fun x => match t x with
  | some true => a x
  | some false => b x
  | none => none
def xNot (t : DX → Option Bool) : DX → Option Bool := fun x => (t x).map (!·)
def xAnd (t u : DX → Option Bool) : DX → Option Bool := fun x => match t x with
  | some true => u x
  | some false => some false
  | none => none
def xFld (fl : List (Nat × Str)) (f : Str) : DX → Option D := fun x => if fl.lookup x.c = some f then some x.v else none
section
variable {T : Tbl} {X : Cx} {i : Option Nat} {a : Addr} {cls : Value} {d : Option Addr} {oe : Obj} {pn : List (Addr × Obj)} {pos : Pos}
theorem xs_const {e : Expr} {v : V} {dd : D} (h : PE X e (tC v)) (r : ∀ H al, Rp T H al dd v) : PE X e (tX T i a cls d fun _ => some dd) :=
  PE.imp h fun si H Q ⟨al, mu, x, dx, s, hi, hx, e, h⟩ => by
    cases e
    exact h v al H (Gw.refl _ _) s (r H al)
theorem xs_fld {xc : XC} {n f : Str} {j : Nat} {p : Pos} (hK : T.K = X.K) (hc : XcOk xc T X.K X.mg) (hz : Zc cls d oe) (hf : ∃ vs, oe.data = .fields vs) (hi : i = some j) (hN : X.N[j]? = some n) (hv : Vis X.env.scope n) (n1 : (n == ("__debug__" : Str)) = false) (n2 : (n == ("__classdict__" : Str)) = false) :
    PE (X.suite a ((a, oe) :: pn)) (.Attribute (.Name n p) f pos) (tX T i a cls d (xFld xc.fl f)) := by
  refine ⟨fun pins s σ H Q I h => ?_⟩
  obtain ⟨al, mu, x, dx, st, hs, hx, e, h⟩ := h
  obtain ⟨C, f', dd, v, h1, h2, h3, h4, h5, h6⟩ := hx
  obtain ⟨q1, q2, q3, q4⟩ := hc.fl _ _ _ h1
  unfold xFld at e
  by_cases hh : xc.fl.lookup x.c = some f
  · rw [if_pos hh] at e
    cases e
    rw [q1] at hh
    cases hh
    refine (pe_xf (X := X) (pn := pn) (pos := pos) q2 q4 hz hf (pe_var (X := X.suite a ((a, oe) :: pn)) (pos := p) hN hv n1 n2) (base_of rfl)).run pins s σ H Q I ?_
    refine ⟨.ref a, hs j hi, rfl, h2, dd, _, v, h3, h4, ?_, h v al H (Gw.refl _ _) st h6⟩
    simp [List.lookup]
  · rw [if_neg hh] at e
    cases e
theorem xs_nil : PA X [] (tXL T i a cls d xNil) := PA.imp pa_nil fun si H Q ⟨al, mu, x, dd, s, hi, hx, e, h⟩ => by
  cases e
  exact h [] al H (Gw.refl _ _) s .nil
theorem xs_cons {e : Expr} {es : List Expr} {g : DX → Option D} {gs : DX → Option (List D)} (ha : PE X e (tX T i a cls d g)) (hr : PA X es (tXL T i a cls d gs)) (hs : starEach (e :: es) X.env = (false, eval e X.env) :: starEach es X.env) : PA X (e :: es) (tXL T i a cls d (xCons g gs)) :=
  PA.imp (pa_cons ha hr hs) fun si H Q ⟨al, mu, x, dd, s, hi, hx, e, h⟩ => by
    unfold xCons at e
    split at e
    · rename_i d1 ds h1 h2
      cases e
      exact ⟨al, mu, x, d1, s, hi, hx, h1, fun v al1 H1 g1 s1 r1 => ⟨al1, mu, x, ds, s1, hi, hx.mono g1, h2, fun vs al2 H2 g2 s2 r2 => h _ al2 H2 (g1.trans g2) s2 (.cons (r1.mono g2) r2)⟩⟩
    · cases e
theorem xs_tup {es : List Expr} {k : Nat} {gs : DX → Option (List D)} (h : PA X es (tXL T i a cls d gs)) : PE X (.Tuple es k pos) (tX T i a cls d (xTup gs)) :=
  PE.imp (pe_tup h) fun si H Q ⟨al, mu, x, dd, s, hi, hx, e, h⟩ => by
    unfold xTup at e
    split at e
    · rename_i ds h1
      by_cases hf : few ds.length = true
      · rw [if_pos hf] at e
        cases e
        refine ⟨al, mu, x, ds, s, hi, hx, h1, fun vs al1 H1 g1 s1 r1 => ⟨by rw [← r1.length]; exact few_ok hf, fun p hp => ?_⟩⟩
        have g := gw_new (al := al1) (o := HO.tup vs) hp
        exact h _ al1 _ (g1.trans g) (s1.new hp) (.tup (.inl (.inl upd_same)) (r1.mono g))
      · rw [if_neg hf] at e
        cases e
    · cases e
theorem xs_if {t e1 e2 : Expr} {gt : DX → Option Bool} {g1 g2 : DX → Option D} (ht : PT X t (tXB T i a cls d gt)) (h1 : PE X e1 (tX T i a cls d g1)) (h2 : PE X e2 (tX T i a cls d g2)) : PE X (.IfExp t e1 e2 pos) (tX T i a cls d (xIf gt g1 g2)) :=
  PE.imp (pe_ifExp ht h1 h2) fun si H Q ⟨al, mu, x, dd, s, hi, hx, e, h⟩ => by
    unfold xIf at e
    split at e
    · rename_i q
      refine ⟨al, mu, x, true, s, hi, hx, q, ?_⟩
      dsimp only
      rw [if_pos rfl]
      exact ⟨al, mu, x, dd, s, hi, hx, e, h⟩
    · rename_i q
      refine ⟨al, mu, x, false, s, hi, hx, q, ?_⟩
      dsimp only
      rw [if_neg Bool.false_ne_true]
      exact ⟨al, mu, x, dd, s, hi, hx, e, h⟩
    · cases e
theorem xb_not {t : Expr} {gt : DX → Option Bool} (ht : PT X t (tXB T i a cls d gt)) : PT X (.UnaryOp .Not t pos) (tXB T i a cls d (xNot gt)) :=
  PT.imp (pt_not ht) fun si H Q ⟨al, mu, x, b, s, hi, hx, e, h⟩ => by
    unfold xNot at e
    cases q : gt x with
    | none => rw [q] at e; cases e
    | some k =>
      rw [q] at e
      cases e
      exact ⟨al, mu, x, k, s, hi, hx, q, h⟩
theorem xb_and {t u : Expr} {gt gu : DX → Option Bool} (ht : PT X t (tXB T i a cls d gt)) (hu : PT X u (tXB T i a cls d gu)) : PT X (.BoolOp .And [t, u] pos) (tXB T i a cls d (xAnd gt gu)) :=
  PT.imp (pw_and ht (pw_and1 hu)).pt fun si H Q ⟨al, mu, x, b, s, hi, hx, e, h⟩ => by
    unfold xAnd at e
    split at e
    · rename_i q
      refine ⟨al, mu, x, true, s, hi, hx, q, ?_⟩
      dsimp only
      rw [if_pos rfl]
      exact ⟨al, mu, x, b, s, hi, hx, e, h⟩
    · rename_i q
      cases e
      refine ⟨al, mu, x, false, s, hi, hx, q, ?_⟩
      dsimp only
      rw [if_neg Bool.false_ne_true]
      exact h
    · cases e
theorem xb_isi {xc : XC} {n cn : Str} {l : List (Nat × Bool)} {j : Nat} {p1 p2 p3 : Pos} (hK : T.K = X.K) (hc : XcOk xc T X.K X.mg) (hz : Zc cls d oe) (hf : ∃ vs, oe.data = .fields vs) (hi : i = some j) (hN : X.N[j]? = some n) (hv : Vis X.env.scope n) (n1 : (n == ("__debug__" : Str)) = false) (n2 : (n == ("__classdict__" : Str)) = false)
    (gi : Gl X "isinstance") (mi : X.mg "isinstance" = none) (gc : Gl X cn) (hl : (cn, l) ∈ xc.hs) :
    PT (X.suite a ((a, oe) :: pn)) (.Call (.Name "isinstance" p1) [.Name n p2, .Name cn p3] [] pos) (tXB T i a cls d fun x => l.lookup x.c) := by
  refine ⟨fun pins s σ H Q I h => ?_⟩
  obtain ⟨al, mu, x, b, st, hs, hx, e, h⟩ := h
  obtain ⟨C, f', dd, v, h1, h2, h3, h4, h5, h6⟩ := hx
  obtain ⟨q1, q2, q3, q4⟩ := hc.fl _ _ _ h1
  obtain ⟨hdb, ca, hm, hk⟩ := hc.hs _ _ hl
  obtain ⟨_, k2⟩ := hk _ _ _ _ h1 e
  subst h2 h3
  refine (pt_val (pe_callB (X := X.suite a ((a, oe) :: pn)) (p := p1) (pos := pos) (call_isD (X := X) (pn := pn) q3 hz hf) gi mi boot_isinstance
    (pa_cons (pe_var (X := X.suite a ((a, oe) :: pn)) (pos := p2) hN hv n1 n2) (pa_cons (pe_glob (X := X.suite a ((a, oe) :: pn)) (v := .ref ca) (pos := p3) gc hm rfl hdb) pa_nil)))).run pins s σ H Q I ?_
  exact ⟨.ref a, hs j hi, .ref ca, .ref ca, b, _, rfl, fun u r => r, k2, h4, b, rfl, h⟩
end
/-! ### from the text -/
def cXc : Const → Option D
  | .none => some .non
  | .bool b => some (.bl b)
  | .int i => some (.int i)
  | .str s => some (.str s)
  | _ => none
theorem cXc_ok {q : Const} {dd : D} {T : Tbl} {X : Cx} {i : Option Nat} {a : Addr} {cls : Value} {d : Option Addr} {k : Nat} {pos : Pos} (h : cXc q = some dd) : PE X (.Constant q k pos) (tX T i a cls d fun _ => some dd) := by
  cases q <;> first | (cases h; done) | skip
  · cases h; exact xs_const pe_non fun _ _ => .non
  · cases h; exact xs_const pe_bl fun _ _ => .bl _
  · cases h; exact xs_const pe_int fun _ _ => .int _
  · cases h; exact xs_const pe_str fun _ _ => .str _
def sxArgs (f : Expr → Option (DX → Option D)) : List Expr → Option (DX → Option (List D))
  | [] => some xNil
  | e :: es => match f e, sxArgs f es with
    | some g, some gs => if notStar e = true then some (xCons g gs) else none
    | _, _ => none
def sxB (xc : XC) (c : CC) (n : Option Str) : Nat → Expr → Option (DX → Option Bool)
  | 0, _ => none
  | k + 1, e => match e with
    | .Call (.Name fn _) [.Name y _, .Name cn _] [] _ => (match lk cn xc.hs with
      | some l => if fn = "isinstance" ∧ n = some y ∧ isGlo c.sc "isinstance" = true ∧ isGlo c.sc cn = true ∧ c.bl.contains "isinstance" = true then some (fun x => l.lookup x.c) else none
      | none => none)
    | .UnaryOp .Not t _ => (match sxB xc c n k t with
      | some g => some (xNot g)
      | none => none)
    | .BoolOp .And [t, u] _ => (match sxB xc c n k t, sxB xc c n k u with
      | some g, some g' => some (xAnd g g')
      | _, _ => none)
    | _ => none
def sxE (xc : XC) (c : CC) (n : Option Str) : Nat → Expr → Option (DX → Option D)
  | 0, _ => none
  | k + 1, e => match e with
    | .Attribute (.Name y _) f _ => if n = some y then some (xFld xc.fl f) else none
    | .Constant q _ _ => (match cXc q with
      | some dd => some (fun _ => some dd)
      | none => none)
    | .Tuple es _ _ => (match sxArgs (sxE xc c n k) es with
      | some g => some (xTup g)
      | none => none)
    | .IfExp t u v _ => (match sxB xc c n (k + 1) t, sxE xc c n k u, sxE xc c n k v with
      | some g, some g1, some g2 => some (xIf g g1 g2)
      | _, _, _ => none)
    | _ => none
/-- the slot of a name, if there is one -/
inductive SlOk (c : CC) : Option Str → Option Nat → Prop
  | none : SlOk c none none
  | some {n : Str} {j : Nat} (h1 : ixS n c.N 0 = some j) (h2 : isLoc c.sc n = true) (h3 : okName n = true) : SlOk c (some n) (some j)
section
variable {xc : XC} {c : CC} {T : Tbl} {W : WX} {X : Cx} {n : Option Str} {i : Option Nat} {a : Addr} {cls : Value} {d : Option Addr} {oe : Obj} {pn : List (Addr × Obj)}
theorem okName_of {x : Str} (h : okName x = true) : (x == ("__debug__" : Str)) = false ∧ (x == ("__classdict__" : Str)) = false := by
  unfold okName at h
  simp only [Bool.and_eq_true, Bool.not_eq_true'] at h
  exact h.1
theorem sxArgs_ok {f : Expr → Option (DX → Option D)} (hf : ∀ e g, f e = some g → PE (X.suite a ((a, oe) :: pn)) e (tX T i a cls d g)) : ∀ {es : List Expr} {g : DX → Option (List D)}, sxArgs f es = some g → PA (X.suite a ((a, oe) :: pn)) es (tXL T i a cls d g)
  | [], g, q => by cases q; exact xs_nil
  | e :: es, g, q => by
    unfold sxArgs at q
    split at q
    · rename_i g1 gs h1 h2
      split at q
      · rename_i hn
        cases q
        exact xs_cons (hf e g1 h1) (sxArgs_ok hf h2) (star_ne hn)
      · cases q
    · cases q
theorem sxB_ok (h : CcOk c T W X) (hc : XcOk xc T X.K X.mg) (hz : Zc cls d oe) (hf : ∃ vs, oe.data = .fields vs) (hn : SlOk c n i) : ∀ {k : Nat} {e : Expr} {g : DX → Option Bool}, sxB xc c n k e = some g → PT (X.suite a ((a, oe) :: pn)) e (tXB T i a cls d g)
  | 0, _, _, q => by cases q
  | k + 1, e, g, q => by
    unfold sxB at q
    split at q
    · split at q
      · rename_i l hl
        split at q
        · rename_i hh
          obtain ⟨rfl, e2, h3, h4, h5⟩ := hh
          cases q
          cases hn with
          | none => cases e2
          | some s1 s2 s3 =>
            cases e2
            obtain ⟨n1, n2⟩ := okName_of s3
            exact xb_isi h.K hc hz hf rfl (by rw [h.N]; exact ixS_get s1) (.inl (h.loc s2)) n1 n2 (h.glo h3) (h.bl _ (by simpa using h5)) (h.glo h4) (lk_mem hl)
        · cases q
      · cases q
    · split at q
      · rename_i g1 h1
        cases q
        exact xb_not (sxB_ok h hc hz hf hn h1)
      · cases q
    · split at q
      · rename_i g1 g2 h1 h2
        cases q
        exact xb_and (sxB_ok h hc hz hf hn h1) (sxB_ok h hc hz hf hn h2)
      · cases q
    · cases q
theorem sxE_ok (h : CcOk c T W X) (hc : XcOk xc T X.K X.mg) (hz : Zc cls d oe) (hf : ∃ vs, oe.data = .fields vs) (hn : SlOk c n i) : ∀ {k : Nat} {e : Expr} {g : DX → Option D}, sxE xc c n k e = some g → PE (X.suite a ((a, oe) :: pn)) e (tX T i a cls d g)
  | 0, _, _, q => by cases q
  | k + 1, e, g, q => by
    unfold sxE at q
    split at q
    · split at q
      · rename_i e2
        cases q
        cases hn with
        | none => cases e2
        | some s1 s2 s3 =>
          cases e2
          obtain ⟨n1, n2⟩ := okName_of s3
          exact xs_fld h.K hc hz hf rfl (by rw [h.N]; exact ixS_get s1) (.inl (h.loc s2)) n1 n2
      · cases q
    · split at q
      · rename_i qq _ _ dd h1
        cases q
        exact cXc_ok h1
      · cases q
    · split at q
      · rename_i g1 h1
        cases q
        exact xs_tup (sxArgs_ok (fun e g q => sxE_ok h hc hz hf hn q) h1)
      · cases q
    · split at q
      · rename_i g1 g2 g3 h1 h2 h3
        cases q
        exact xs_if (sxB_ok h hc hz hf hn h1) (sxE_ok h hc hz hf hn h2) (sxE_ok h hc hz hf hn h3)
      · cases q
    · cases q
end
abbrev Hd : Type := Option Nat × List (Nat × Bool) × (DX → Option D)
def slIn (rh : Env) : Option Nat → Bool
  | none => true
  | some j => decide (j < rh.length)
/-- the clauses, one after the other -/
def hdl (rh : Env) (mu : Store) (x : DX) : List Hd → RS
  | [] => .exc x rh mu
  | (i, l, g) :: r => match l.lookup x.c with
    | some true => (match g x with
      | some d => if slIn rh i = true then .rt d mu else .bad
      | none => .bad)
    | some false => hdl rh mu x r
    | none => .bad
def sTry (b : SS) (hs : List Hd) : SS := fun rh mu => match b rh mu with
  | .exc x rh' mu' => hdl rh' mu' x hs
  | r => r
def cSl (c : CC) : Option Str → Option (Option Nat)
  | none => some none
  | some n => match ixS n c.N 0 with
    | some j => if isLoc c.sc n = true ∧ okName n = true then some (some j) else none
    | none => none
theorem cSl_ok {c : CC} {n : Option Str} {i : Option Nat} (q : cSl c n = some i) : SlOk c n i := by
  unfold cSl at q
  split at q
  · cases q; exact .none
  · split at q
    · rename_i h1
      split at q
      · rename_i hh
        cases q
        exact .some h1 hh.1 hh.2
      · cases q
    · cases q
def cHds (xc : XC) (c : CC) (m : Nat) : List ExceptHandler → Option (List Hd)
  | [] => some []
  | .ExceptHandler (some (.Name x _)) nm [.Return (some e) _] _ :: r => (match lk x xc.hs, cSl c nm, sxE xc c nm m e, cHds xc c m r with
    | some l, some i, some g, some hs => if isGlo c.sc x = true then some ((i, l, g) :: hs) else none
    | _, _, _, _ => none)
  | _ => none
section
variable {xc : XC} {c : CC} {rz : List (Str × Nat)} {T : Tbl} {W : WX} {X : Cx} {r : RC} {pos : Pos}
/-- a clause's suite -/
def tsOf (T : Tbl) (i : Option Nat) (g : DX → Option D) : Addr → Value → Option Addr → TS := fun a cls d => tRet (tX T i a cls d g)
theorem cHds_ok (h : CcOk c T W X) (hc : XcOk xc T X.K X.mg) {m : Nat} : ∀ {hds : List ExceptHandler} {hs : List Hd}, cHds xc c m hds = some hs →
    ∃ l : List ClE, HdE X hds l ∧ ∀ {Wout : WX} {D : Ends} {x : DX} {rh : Env} {mu : Store} {al : List Addr} {H : Hp} {cls : Value} {d : Option Addr} {si : L2.St}, RVS T Wout al H D (hdl rh mu x hs) → Ste T al mu H → RpS T H al rh si → XRp T H al x cls d → wEach X.K Wout D l cls d si H
  | [], hs, q => by
    cases q
    exact ⟨[], .nil, fun h s rs hx => h _ _ _ _ _ (Gw.refl _ _) s rs hx⟩
  | hd :: hds, hs, q => by
    unfold cHds at q
    split at q
    · rename_i e1
      cases e1
    · rename_i x _ nm e rp _ r0 e1
      cases e1
      split at q
      · rename_i l i g hs' h1 h2 h3 h4
        split at q
        · rename_i hg
          cases q
          obtain ⟨lr, k1, k2⟩ := cHds_ok h hc h4
          obtain ⟨hdb, ca, hm, hk⟩ := hc.hs _ _ (lk_mem h1)
          have S := cSl_ok h2
          have nm0 : Names X x (.ref ca) := ⟨h.glo hg, hdb, .inl hm⟩
          have su : ∀ (a : Addr) (oe : Obj) (cls : Value) (d : Option Addr) (pn : List (Addr × Obj)), Zc cls d oe → (∃ vs, oe.data = .fields vs) → PSs (X.suite a ((a, oe) :: pn)) [.Return (some e) rp] (tsOf T i g a cls d) :=
            fun a oe cls d pn hz hf => pss_one (ps_ret (sxE_ok h hc hz hf S h3))
          refine ⟨(i, .ref ca, tsOf T i g) :: lr, ?_, ?_⟩
          · cases S with
            | none => exact .bare nm0 su k1
            | some s1 s2 s3 => exact .named (by rw [h.N]; exact ixS_get s1) (h.loc s2) nm0 su k1
          · intro Wout D x2 rh mu al H cls d si hh s rs hx
            obtain ⟨C, f, dd, v, x1, x2e, x3, x4, x5, x6⟩ := hx
            subst x2e x3
            unfold hdl at hh
            cases qb : l.lookup x2.c with
            | none =>
              simp only [qb] at hh
              exact hh.elim
            | some b =>
              obtain ⟨b1, _⟩ := hk _ _ _ _ x1 qb
              refine ⟨b, b1, fun hb a ha => ?_, fun hb => ?_⟩
              · subst hb
                simp only [qb] at hh
                cases qg : g x2 with
                | none =>
                  simp only [qg] at hh
                  exact hh.elim
                | some dg =>
                  simp only [qg] at hh
                  have hin : slIn rh i = true := by
                    cases z : slIn rh i with
                    | true => rfl
                    | false =>
                      rw [z] at hh
                      exact (show False from hh).elim
                  rw [if_pos hin] at hh
                  refine ⟨al, mu, x2, dg, s, fun j hj => ?_, ⟨C, f, dd, v, x1, rfl, rfl, x4, x5, x6⟩, qg, fun u al' H' g' s' r' => ?_⟩
                  · subst hj
                    cases S with
                    | some s1 s2 s3 =>
                      have hl : j < si.length := by
                        rw [← rs.1]
                        exact of_decide_eq_true hin
                      exact List.getElem?_set_self hl
                  · have z := hh u al' H' g' s' r'
                    cases i <;> exact z
              · subst hb
                simp only [qb] at hh
                exact k2 hh s rs ⟨C, f, dd, v, x1, rfl, rfl, x4, x5, x6⟩
        · cases q
      · cases q
    · cases q
theorem CcOk.tr (h : CcOk c T W X) {W' : WX} {pn : List (Addr × Obj)} {xe : Value → Shared → Prop} (tk : Takes (X.tr pn xe) W') : CcOk c T W' (X.tr pn xe) where
  K := h.K
  N := h.N
  nd := h.nd
  sc := h.sc
  calm := h.calm
  un := h.un
  gu := h.gu
  tk := tk
  fnc := h.fnc
  fs := fun x fn m => ⟨(h.fs x fn m).ex, (h.fs x fn m).n⟩
  ks := fun x kl m => ⟨(h.ks x kl m).ex, (h.ks x kl m).n⟩
  cs := h.cs
  bl := h.bl
  cl := h.cl
theorem ss_try (k : RcOk r) (S : StOk c rz T W X) (hs : X.stack = X.env :: X.outer) (hf : X.env.frame = some X.env.locals) (hc : XcOk xc T X.K X.mg) {m m' : Nat} {body : List Stmt} {h0 : ExceptHandler} {hds : List ExceptHandler} {g : SS} {l : List Hd}
    (hb : cSs (cSt r c [] m) body = some g) (hh : cHds xc c m' (h0 :: hds) = some l) : PS X (.Try body (h0 :: hds) [] [] pos) (tS T W (sTry g l)) := by
  obtain ⟨lr, k1, k2⟩ := cHds_ok S.c hc hh
  refine PS.imp (ps_try_each hs hf (S.c.N ▸ S.c.nd) S.c.tk (tb := fun W' => tS T W' g) (fun W' pn xe tk pa => cSs_ok (fun q => cSt_ok k ⟨S.c.tr tk, pa, S.b, fun x k' m => by cases m⟩ q) hb) k1) fun D si H ⟨al, rh, mu, s, rs, h⟩ => ?_
  refine ⟨al, rh, mu, s, rs, ?_⟩
  unfold sTry at h
  cases q : g rh mu with
  | exc x rh' mu' =>
    rw [q] at h
    exact fun cls dx si' al' H' g' s' rs' hx => k2 (h.grow g') s' rs' hx
  | nx rh' mu' => rw [q] at h; exact h
  | rt d mu' => rw [q] at h; exact h
  | bk rh' mu' => rw [q] at h; exact h
  | ct rh' mu' => rw [q] at h; exact h
  | bad => rw [q] at h; exact h
noncomputable def cStT (xc : XC) (r : RC) (c : CC) (rz : List (Str × Nat)) (m : Nat) : Stmt → Option SS
  | .Try body (h0 :: hds) [] [] _ => (match cSs (cSt r c [] m) body, cHds xc c m (h0 :: hds) with
    | some g, some l => some (sTry g l)
    | _, _ => none)
  | s => cSt r c rz m s
theorem cStT_ok (k : RcOk r) (S : StOk c rz T W X) (hs : X.stack = X.env :: X.outer) (hf : X.env.frame = some X.env.locals) (hc : XcOk xc T X.K X.mg) {m : Nat} {s : Stmt} {g : SS} (q : cStT xc r c rz m s = some g) : PS X s (tS T W g) := by
  unfold cStT at q
  split at q
  · split at q
    · rename_i g1 l1 h1 h2
      cases q
      exact ss_try k S hs hf hc h1 h2
    · cases q
  · exact cSt_ok k S q
end
/-- a def of the text with a try -/
theorem def_okT {xc : XC} {c : CC} {rz : List (Str × Nat)} {P : Program} {w : World} {K : PySem.W.Frag} {mg : Str → Option Value} {base : Heap} {T : Tbl} {k n m : Nat} {f : Addr} {name qual : Str} {params : Arguments} {body : List Stmt} {scope : Scope} {dvs : List V} {kws : List (Str × V)} {fd : FuncData}
    {N ps : List Str} {mu : List (Nat × Nat)} {g : SS} (hx : XcOk xc T K mg) (h : EnvOk c P w K mg base T k) (hz : RzAll rz P w K mg base T k) (F : FunD K name qual params body scope dvs kws f fd) (S : FnScope N ps scope) (tr : Bool)
    (hc : cSs (cStT xc (rcN n) { c with N := N, sc := scope, fnc := cellsOf scope, mu := mu } rz m) body = some g) (hid : List Addr) : FnG P w K mg base (T.hd hid) (k + 1) f fd ps (fnD ps.length N.length tr g) := by
  obtain ⟨oc, od, dV, kV, doc, pm, an, cdv, ct, osl, rfl, lk, hcd, _, _⟩ := F.ex
  refine fg_of lk hcd S fun hid' A outer s H E hr hg => ?_
  have C := h.cc (N := N) (scope := scope) S.nd (mu := mu) (qual := qual) (f := f) (cd := cdv) (A := A) (outer := outer) (s := s) (H := H) (E := E) hid' hr hg
  have hb : (cxOf (L2.CX P w) P w K mg base N qual scope f cdv A outer s H E).env.blockKind = .function := by
    show (if scope.kind.isAnnotationScope then ScopeKind.function else scope.kind) = .function
    rw [S.kind]
    rfl
  have hx' : XcOk xc (T.hd hid') (cxOf (L2.CX P w) P w K mg base N qual scope f cdv A outer s H E).K (cxOf (L2.CX P w) P w K mg base N qual scope f cdv A outer s H E).mg := ⟨hx.fl, hx.hs⟩
  exact cSs_ok (fun q => cStT_ok (rcN_ok n) ⟨C, passes_of rfl, hb, hz N qual scope f cdv A outer s H E hid' hr S.kind⟩ rfl rfl hx' q) hc
/-- a def with a try, behind those before it -/
theorem EnvOk.defT {xc : XC} {c : CC} {P : Program} {w : World} {K : PySem.W.Frag} {mg : Str → Option Value} {base : Heap} {T : Tbl} {k : Nat} {rz : List (Str × Nat)} {n m : Nat} {f : Addr} {x name qual : Str} {params : Arguments} {body : List Stmt} {scope : Scope} {dvs : List V} {kws : List (Str × V)} {fd : FuncData} {N ps : List Str} {mu : List (Nat × Nat)} {g : SS} {kw : List (List Str × List Nat)} (hx : XcOk xc T K mg) (h : EnvOk c P w K mg base T k) (hz : RzAll rz P w K mg base T k)
    (F : FunD K name qual params body scope dvs kws f fd) (S : FnScope N ps scope) (tr : Bool) (hc : cSs (cStT xc (rcN n) { c with N := N, sc := scope, fnc := cellsOf scope, mu := mu } rz m) body = some g)
    (hmg : mg x = some (.ref f)) (hk : PySem.W.keepIn K (.ref f) = true) (hb : L2.Binds K fd ps []) (hkw : ∀ q ∈ kw, KwOk fd ps q) : EnvOk { c with fs := (x, ⟨fnD ps.length N.length tr g, ps, kw⟩) :: c.fs } P w K mg base T (k + 1) :=
  h.addF (fn := ⟨fnD ps.length N.length tr g, ps, kw⟩) (fun hid => def_okT hx h hz F S tr hc hid) hmg hk hb hkw (fun ds mu hl => fnD_n ds mu hl)
end DL

set_option Elab.async false
set_option linter.all false
set_option maxRecDepth 100000
set_option maxHeartbeats 4000000
/-! XB0: what a Hook tells of exception classes: read off by a Bool. -/
namespace PySem
namespace EXN
open PySem.W PySem.Calls PyProof.Rows PySem.HandSPX L2
/-- an exception class: over ValueError, its instances with a dict -/
def oexB (K : Frag) (C : Addr) : Bool := (match K.lookup C with
    | some ⟨.type t, _, .cls cd, sl⟩ => decide (t = "type") && (match cd.mro, sl.toList with
      | .ref C' :: bm, [_, _, _, _, some (.builtin n), _] => decide (C' = C) && (decide (n = "ValueError.__new__") && (!cd.hasDel && (cd.hasDict && refsVE bm)))
      | _, _ => false)
    | _ => false) && (He.eqO (findIn K (.ref C) "__setattr__") (some (some (.builtin "object.__setattr__"))) && (decide (subIn K (.ref C) (.type "BaseException") = some true) && (decide (typeIn K (.ref C) = some (.type "type")) && keepIn K (.ref C))))
theorem oexB_ok {K : Frag} {C : Addr} (h : oexB K C = true) : OexC K C := by
  obtain ⟨h1, h⟩ := He.ba h
  obtain ⟨h2, h⟩ := He.ba h
  obtain ⟨h3, h⟩ := He.ba h
  obtain ⟨h4, h5⟩ := He.ba h
  refine ⟨?_, He.eqO_ok h2, of_decide_eq_true h3, of_decide_eq_true h4, h5⟩
  split at h1
  · rename_i t dd cd sl ho
    split at h1
    · rename_i C' bm k0 k1 k2 k3 n k5 hm hs
      obtain ⟨ht, g1⟩ := He.ba h1
      obtain ⟨e1, g2⟩ := He.ba g1
      obtain ⟨e2, g3⟩ := He.ba g2
      obtain ⟨e3, g4⟩ := He.ba g3
      obtain ⟨e4, e5⟩ := He.ba g4
      have ht := of_decide_eq_true ht
      have e1 := of_decide_eq_true e1
      have e2 := of_decide_eq_true e2
      clear h1 g1 g2 g3 g4
      subst ht e1 e2
      obtain ⟨nm, bs, mro, ns, qn, hd, sn, sb, ab, col, del⟩ := cd
      dsimp only at hm e3 e4
      subst hm e4
      have e3 : del = false := by simpa using e3
      subst e3
      have es : sl = #[k0, k1, k2, k3, some (.builtin "ValueError.__new__"), k5] := by
        apply Array.ext'
        rw [hs]
      subst es
      exact ⟨_, _, _, _, _, _, _, _, _, _, _, _, _, _, _, ho, e5⟩
    · rw [Bool.and_false] at h1
      cases h1
  · cases h1
/-- .. of its closure and its code -/
def exfB (K : Frag) (C fI : Addr) (qual file : Str) : Bool := match K.lookup fI with
  | some ⟨_, _, .func fd, _⟩ => (match fd.closure, fd.code with
    | [(n, cc)], .ref cda => decide (n = ("__class__" : Str)) && ((match fd.defaults with
      | .none => true
      | _ => false) && (codeIn K (.ref cda) qual && ((match K.lookup cda with
      | some ⟨_, _, .fields vs, _⟩ => (match (vs[2]? : Option Value) with
        | some (Value.str f _) => f == file
        | _ => false)
      | _ => false) && (match K.lookup cc with
      | some ⟨_, _, .cell (some (.ref D)), _⟩ => decide (D = C)
      | _ => false))))
    | _, _ => false)
  | _ => false
/-- .. all in all -/
def exnB (file : Str) (K : Frag) (cn fld : Str) : Bool := He.eqO (nsIn K mainGlobals cn) (some (some (.ref (He.ga K cn)))) && (oexB K (He.ga K cn) && (He.eqO (findIn K (.ref (He.ga K cn)) fld) (some none) &&
  (He.eqO (findIn K (.ref (He.ga K cn)) "__init__") (some (some (.ref (He.ma K (He.ga K cn) "__init__")))) && (decide (typeIn K (.ref (He.ma K (He.ga K cn) "__init__")) = some (.type "function")) &&
  (He.eqO (ks_superIn K (He.ga K cn) (He.ga K cn) "__init__") (some (some (.builtin "ValueError.__init__"))) && (He.eqO (nsIn K cStatics "thirdparty.any") (some none) && (He.eqO (nsIn K mainGlobals "super") (some none) && exfB K (He.ga K cn) (He.ma K (He.ga K cn) "__init__") (cn ++ (".__init__" : Str)) file)))))))
theorem exn_txt {P : Program} {K : Frag} {h : Heap} {mg : Str → Option Value} {file cn fld : Str} {d : DL.DefC} (X : K.In h) (G : h.Ns mainGlobals mg) (hat : d.d.at_ = (cn, some ("__init__" : Str))) (hnm : d.d.name = ("__init__" : Str)) (hq : d.d.qual = cn ++ (".__init__" : Str)) (e : DL.fnC K d.d.at_ = d.val) (c : exnB file K cn fld = true)
    (hfile : ((P.main.file : Str) == file) = true) (top : (P.main.scope.names.lookup ("super" : Str)).isSome = false) (B : ExBody fld d.d.params d.d.body d.d.scope) : ExTxt P K mg (He.ga K cn) (He.ma K (He.ga K cn) "__init__") cn fld := by
  obtain ⟨c1, c⟩ := He.ba c
  obtain ⟨c2, c⟩ := He.ba c
  obtain ⟨c3, c⟩ := He.ba c
  obtain ⟨c4, c⟩ := He.ba c
  obtain ⟨c5, c⟩ := He.ba c
  obtain ⟨c6, c⟩ := He.ba c
  obtain ⟨c7, c⟩ := He.ba c
  obtain ⟨c8, c9⟩ := He.ba c
  refine ⟨mg_of X G (He.eqO_ok c1), oexB_ok c2, He.eqO_ok c3, He.eqO_ok c4, of_decide_eq_true c5, He.eqO_ok c6, He.eqO_ok c7, He.eqO_ok c8, top, ?_⟩
  have hf : He.fAd K d.d.at_ = He.ma K (He.ga K cn) "__init__" := by rw [hat]; rfl
  unfold DL.fnC at e
  rw [hf] at e
  unfold exfB at c9
  split at c9
  · rename_i oc od fd osl ho
    rw [ho] at e
    obtain ⟨n1, n2, n3, n4, n5, n6, n7, n8, n9, n10, n11, n12, n13, n14, n15⟩ := fd
    unfold DL.DefC.val at e
    simp only [Option.some.injEq, Prod.mk.injEq] at e
    obtain ⟨h1, h2, h3, h4, h5, h6, h7, h8⟩ := e
    subst h1 h2 h3 h4 h5 h6 h8
    dsimp only at c9
    split at c9
    · rename_i _ n cc cda
      obtain ⟨q1, g1⟩ := He.ba c9
      obtain ⟨q0, g2⟩ := He.ba g1
      obtain ⟨q2, g3⟩ := He.ba g2
      obtain ⟨q3, q4⟩ := He.ba g3
      have q0 : n8 = .none := by
        cases n8 <;> first | rfl | cases q0
      have q1 := of_decide_eq_true q1
      clear c9 g1 g2 g3
      subst q0 q1
      rw [hnm, hq] at ho
      refine ⟨oc, od, _, _, _, _, _, _, _, _, cda, _, cc, osl, ho, q2, B, ?_, ?_⟩
      · split at q3
        · rename_i ccl cdd vs ccs hcd
          split at q3
          · rename_i f tf hv
            have q3 : f = file := eq_of_beq q3
            subst q3
            exact ⟨_, _, vs, _, f, tf, hcd, hv, hfile⟩
          · cases q3
        · cases q3
      · split at q4
        · rename_i cl cld D csl hcc
          have q4 := of_decide_eq_true q4
          subst q4
          exact ⟨_, _, _, hcc⟩
        · cases q4
    · cases c9
  · cases c9
/-- what isinstance and a field's reading ask of the class -/
def exrB (K : Frag) (C : Addr) : Bool := xfB K C && (He.eqO (findIn K (.ref C) "__class__") (some (some (.builtin "object.__class__"))) && (decide (specialIn K (.builtin "object.__class__") "__get__" = some (some (.builtin "getset_descriptor.__get__"))) &&
  (decide (takesIn K (.builtin "object.__class__") = some true) && decide (mroIn K C (.type "object") = some true))))
theorem exrB_ok {K : Frag} {C : Addr} (h : exrB K C = true) : XfC K C ∧ ExcC K C := by
  obtain ⟨h1, h⟩ := He.ba h
  obtain ⟨h2, h⟩ := He.ba h
  obtain ⟨h3, h⟩ := He.ba h
  obtain ⟨h4, h5⟩ := He.ba h
  have z := xfB_ok h1
  exact ⟨z, ⟨z.ga, z.gg, z.exC, z.hdC, He.eqO_ok h2, of_decide_eq_true h3, of_decide_eq_true h4, of_decide_eq_true h5⟩⟩
/-- whether an error of the class cn is one of the class dn -/
def exqB (K : Frag) (cn dn : Str) (b : Bool) : Bool := decide (exmOne K (.ref (He.ga K cn)) (.ref (He.ga K dn)) = some b) && decide (kitOne K (.ref (He.ga K cn)) (.ref (He.ga K dn)) = some b)
theorem exqB_ok {K : Frag} {cn dn : Str} {b : Bool} (h : exqB K cn dn b = true) : exmOne K (.ref (He.ga K cn)) (.ref (He.ga K dn)) = some b ∧ kitOne K (.ref (He.ga K cn)) (.ref (He.ga K dn)) = some b := ⟨of_decide_eq_true (He.ba h).1, of_decide_eq_true (He.ba h).2⟩
end EXN
end PySem

set_option Elab.async false
set_option linter.all false
set_option maxRecDepth 100000
set_option maxHeartbeats 4000000
/-! M0: how the meanings are worked out. -/
namespace DL
open PySem PySem.Spec PyProof.Rows L2

section
variable {A B : Type} {m : M A} {f : A → M B} {mu : Store} {rh : Env}
@[simp] theorem bnd_app : bnd m f mu = match m mu with
  | .val a mu' => f a mu'
  | .exc x mu' => .exc x mu'
  | .bad => .bad := rfl
@[simp] theorem ret_app {a : A} : ret a mu = .val a mu := rfl
@[simp] theorem bad_app : (bad : M A) mu = .bad := rfl
theorem eVar_app {i : Nat} {d : D} (h : rh[i]? = some (some d)) : eVar i rh mu = .val d mu := by
  unfold eVar
  rw [h]
  rfl
@[simp] theorem eVar_0 {d : D} {r : Env} : eVar 0 (some d :: r) mu = .val d mu := rfl
@[simp] theorem eVar_s {n : Nat} {x : Option D} {r : Env} : eVar (n + 1) (x :: r) mu = eVar n r mu := rfl
@[simp] theorem eC_app {d : D} : eC d rh mu = .val d mu := rfl
@[simp] theorem e2_app {g : F2} {a b : SE} : e2 g a b rh mu = bnd (a rh) (fun d => bnd (b rh) fun e => g d e) mu := rfl
@[simp] theorem e1_app {g : F1} {a : SE} : e1 g a rh mu = bnd (a rh) g mu := rfl
@[simp] theorem bOf_app {g : SE} : bOf g rh mu = match g rh mu with
  | .val (.bl k) mu' => .val k mu'
  | .val _ _ => .bad
  | .exc x mu' => .exc x mu'
  | .bad => .bad := by
  unfold bOf
  rw [bnd_app]
  cases g rh mu with
  | val d mu' => cases d <;> rfl
  | exc x mu' => rfl
  | bad => rfl
@[simp] theorem bAnd_app {a b : SB} : bAnd a b rh mu = match a rh mu with
  | .val true mu' => b rh mu'
  | .val false mu' => .val false mu'
  | .exc x mu' => .exc x mu'
  | .bad => .bad := by
  unfold bAnd
  rw [bnd_app]
  cases a rh mu with
  | val d mu' => cases d <;> rfl
  | exc x mu' => rfl
  | bad => rfl
@[simp] theorem bOr_app {a b : SB} : bOr a b rh mu = match a rh mu with
  | .val true mu' => .val true mu'
  | .val false mu' => b rh mu'
  | .exc x mu' => .exc x mu'
  | .bad => .bad := by
  unfold bOr
  rw [bnd_app]
  cases a rh mu with
  | val d mu' => cases d <;> rfl
  | exc x mu' => rfl
  | bad => rfl
@[simp] theorem bNot_app {a : SB} : bNot a rh mu = match a rh mu with
  | .val k mu' => .val (!k) mu'
  | .exc x mu' => .exc x mu'
  | .bad => .bad := by
  unfold bNot
  rw [bnd_app]
  cases a rh mu <;> rfl
@[simp] theorem eAnd_app {a b : SE} : eAnd a b rh mu = match a rh mu with
  | .val (.bl true) mu' => b rh mu'
  | .val (.bl false) mu' => .val (.bl false) mu'
  | .val _ _ => .bad
  | .exc x mu' => .exc x mu'
  | .bad => .bad := by
  unfold eAnd
  rw [bnd_app]
  cases a rh mu with
  | val d mu' => 
    cases d with
    | bl k => cases k <;> rfl
    | _ => rfl
  | exc x mu' => rfl
  | bad => rfl
@[simp] theorem eOr_app {a b : SE} : eOr a b rh mu = match a rh mu with
  | .val (.bl true) mu' => .val (.bl true) mu'
  | .val (.bl false) mu' => b rh mu'
  | .val _ _ => .bad
  | .exc x mu' => .exc x mu'
  | .bad => .bad := by
  unfold eOr
  rw [bnd_app]
  cases a rh mu with
  | val d mu' => 
    cases d with
    | bl k => cases k <;> rfl
    | _ => rfl
  | exc x mu' => rfl
  | bad => rfl
@[simp] theorem fNot_app {k : Bool} : fNot (.bl k) mu = .val (.bl (!k)) mu := rfl
@[simp] theorem eIf_app {t : SB} {a b : SE} : eIf t a b rh mu = match t rh mu with
  | .val true mu' => a rh mu'
  | .val false mu' => b rh mu'
  | .exc x mu' => .exc x mu'
  | .bad => .bad := by
  unfold eIf
  rw [bnd_app]
  cases t rh mu with
  | val d mu' => cases d <;> rfl
  | exc x mu' => rfl
  | bad => rfl
@[simp] theorem aNil_app : aNil rh mu = .val [] mu := rfl
@[simp] theorem aCons_app {a : SE} {r : SA} : aCons a r rh mu = bnd (a rh) (fun d => bnd (r rh) fun ds => ret (d :: ds)) mu := rfl
@[simp] theorem mkL_f {ds : List D} : mkL false ds mu = .val (.lst ds) mu := rfl
@[simp] theorem mkL_t {ds : List D} : mkL true ds mu = .val (.ref mu.length) (mu ++ [.lst ds]) := rfl
@[simp] theorem few_s {n : Nat} : (few n = true) = (n ≤ 1000000) := by
  unfold few
  exact decide_eq_true_eq
@[simp] theorem eTup_app {a : SA} : eTup a rh mu = match a rh mu with
  | .val ds mu' => if ds.length ≤ 1000000 then .val (.tup ds) mu' else .bad
  | .exc x mu' => .exc x mu'
  | .bad => .bad := by
  unfold eTup
  rw [bnd_app]
  cases a rh mu with
  | val d mu' => 
    simp only [few_s]
    by_cases h : d.length ≤ 1000000
    · simp [h]
    · simp [h]
  | exc x mu' => rfl
  | bad => rfl
@[simp] theorem eLst_app {k : Bool} {a : SA} : eLst k a rh mu = match a rh mu with
  | .val ds mu' => if ds.length ≤ 1000000 then mkL k ds mu' else .bad
  | .exc x mu' => .exc x mu'
  | .bad => .bad := by
  unfold eLst
  rw [bnd_app]
  cases a rh mu with
  | val d mu' => 
    simp only [few_s]
    by_cases h : d.length ≤ 1000000
    · simp [h]
    · simp [h]
  | exc x mu' => rfl
  | bad => rfl
@[simp] theorem eCall_app {g : FL} {a : SA} : eCall g a rh mu = bnd (a rh) g mu := rfl
@[simp] theorem cCall_app {g : List D → M D} {a : SA} : cCall g a rh mu = bnd (a rh) g mu := rfl
@[simp] theorem eMethL_app {g : FM} {o : SE} {a : SA} : eMethL g o a rh mu = bnd (o rh) (fun d => fun mu => if isRefL mu d = true then bnd (a rh) (fun ds => g d ds) mu else .bad) mu := rfl
theorem ite_few {A : Type} {n : Nat} {x y : A} : (if few n = true then x else y) = if n ≤ 1000000 then x else y := by
  unfold few
  by_cases h : n ≤ 1000000
  · simp [h]
  · simp [h]
/-! statements -/
@[simp] theorem sNil_app : sNil rh mu = .nx rh mu := rfl
@[simp] theorem sSeq_app {a b : SS} : sSeq a b rh mu = match a rh mu with
  | .nx rh' mu' => b rh' mu'
  | r => r := rfl
@[simp] theorem stB_val {a : A} {k : A → Store → RS} : stB (.val a mu) rh k = k a mu := rfl
@[simp] theorem stB_exc {x : DX} {k : A → Store → RS} : stB (.exc x mu) rh k = .exc x rh mu := rfl
@[simp] theorem stB_bad {k : A → Store → RS} : stB .bad rh k = .bad := rfl
@[simp] theorem sPass_app : sPass rh mu = .nx rh mu := rfl
@[simp] theorem sRet_app {g : SE} : sRet g rh mu = stB (g rh mu) rh fun d mu' => .rt d mu' := rfl
@[simp] theorem sRetN_app : sRetN rh mu = .rt .non mu := rfl
@[simp] theorem sDrop_app {g : SE} : sDrop g rh mu = stB (g rh mu) rh fun _ mu' => .nx rh mu' := rfl
@[simp] theorem sIf_app {t : SB} {a b : SS} : sIf t a b rh mu = stB (t rh mu) rh fun k mu' => if k = true then a rh mu' else b rh mu' := rfl
@[simp] theorem sAsg_app {g : SE} {t : SG} : sAsg g t rh mu = stB (g rh mu) rh fun d mu' => stE (t d rh mu') := rfl
@[simp] theorem stE_val {r : Env} : stE (.val r mu) = .nx r mu := rfl
@[simp] theorem gVar_app {i : Nat} {d : D} : gVar i d rh mu = .val (rh.set i (some d)) mu := rfl
@[simp] theorem gsNil_app : gsNil [] rh mu = .val rh mu := rfl
@[simp] theorem gsCons_app {a : SG} {b : SGs} {d : D} {r : List D} : gsCons a b (d :: r) rh mu = bnd (a d rh) (fun rh' => b r rh') mu := rfl
@[simp] theorem gTup_app {n : Nat} {b : SGs} {ds : List D} : gTup n b (.tup ds) rh mu = if ds.length = n then b ds rh mu else .bad := by
  unfold gTup
  simp only
  by_cases h : ds.length = n
  · rw [if_pos h, if_pos h]
  · rw [if_neg h, if_neg h]
    rfl
@[simp] theorem sPar_app {is : List Nat} {a : SA} : sPar is a rh mu = stB (a rh mu) rh fun ds mu' => if ds.length = is.length then .nx ((is.zip ds).foldl (fun r p => r.set p.1 (some p.2)) rh) mu' else .bad := rfl
@[simp] theorem fnEnd_nx : fnEnd (.nx rh mu) = .val .non mu := rfl
@[simp] theorem fnEnd_rt {d : D} : fnEnd (.rt d mu) = .val d mu := rfl
@[simp] theorem fnEnd_exc {x : DX} : fnEnd (.exc x rh mu) = .exc x mu := rfl
/-- what made nothing new that lives -/
theorem trim_val {d : D} (h : lowD mu.length d = true) : trim mu (.val d mu) = .val d mu := by
  unfold trim
  simp only
  rw [if_pos (.inl (List.take_length))]
  unfold trV
  rw [if_pos h, List.take_length]
theorem trim_app {d : D} {nu : Store} (h : lowD mu.length d = true) : trim mu (.val d (mu ++ nu)) = .val d mu := by
  unfold trim
  simp only
  rw [if_pos (.inl (by rw [List.take_left])) ]
  unfold trV
  rw [if_pos h, List.take_left]
theorem trim_lst {n : Nat} {ds : List D} {nu : Store} (hn : mu.length ≤ n) (hm : (mu ++ nu)[n]? = some (.lst ds)) (h : lowL mu.length ds = true) : trim mu (.val (.ref n) (mu ++ nu)) = .val (.lst ds) mu := by
  unfold trim
  simp only
  rw [if_pos (.inl (by rw [List.take_left])) ]
  unfold trV
  rw [if_neg (by simp only [lowD, decide_eq_true_eq]; omega), List.take_left]
  simp only [hm, h, if_true]
theorem trim_exc {x : DX} (h : lowD mu.length x.v = true) : trim mu (.exc x mu) = .exc x mu := by
  unfold trim
  simp only
  rw [if_pos ⟨.inl (List.take_length), h⟩, List.take_length]
end
/-! ### loops -/
section
variable {t : SG} {b : SS} {c : SB} {e : SE} {mu : Store} {rh : Env}
@[simp] theorem sFor_app {src : SI} : sFor src t b rh mu = stB (src rh mu) rh fun it mu1 => forL it.gi t b it.ds rh mu1 := rfl
theorem forL_0 : forL [] t b [] rh mu = .nx rh mu := by
  rw [forL, if_pos keeps_nil]
theorem forL_nx {d : D} {r : List D} {rh1 rh2 : Env} {mu1 mu2 : Store} (h1 : t d rh mu = .val rh1 mu1) (h2 : b rh1 mu1 = .nx rh2 mu2 ∨ b rh1 mu1 = .ct rh2 mu2) : forL [] t b (d :: r) rh mu = forL [] t b r rh2 mu2 := by
  rw [forL, if_pos keeps_nil, h1]
  rcases h2 with h2 | h2 <;> simp only [h2]
theorem forL_rt {d d' : D} {r : List D} {rh1 : Env} {mu1 mu2 : Store} (h1 : t d rh mu = .val rh1 mu1) (h2 : b rh1 mu1 = .rt d' mu2) : forL [] t b (d :: r) rh mu = .rt d' mu2 := by
  rw [forL, if_pos keeps_nil, h1]
  simp only [h2]
theorem forL_exc {d : D} {x : DX} {r : List D} {rh1 rh2 : Env} {mu1 mu2 : Store} (h1 : t d rh mu = .val rh1 mu1) (h2 : b rh1 mu1 = .exc x rh2 mu2) : forL [] t b (d :: r) rh mu = .exc x rh2 mu2 := by
  rw [forL, if_pos keeps_nil, h1]
  simp only [h2]
theorem forL_0g {gi : List (Nat × List D)} (hk : keeps gi mu) : forL gi t b [] rh mu = .nx rh mu := by
  rw [forL, if_pos hk]
theorem forL_nxg {gi : List (Nat × List D)} {d : D} {r : List D} {rh1 rh2 : Env} {mu1 mu2 : Store} (hk : keeps gi mu) (h1 : t d rh mu = .val rh1 mu1) (h2 : b rh1 mu1 = .nx rh2 mu2 ∨ b rh1 mu1 = .ct rh2 mu2) : forL gi t b (d :: r) rh mu = forL gi t b r rh2 mu2 := by
  rw [forL, if_pos hk, h1]
  rcases h2 with h2 | h2 <;> simp only [h2]
theorem lcL_0g {gi : List (Nat × List D)} (hk : keeps gi mu) : lcL gi t c e [] rh mu = .val [] mu := by
  rw [lcL, if_pos hk]
theorem lcL_tg {gi : List (Nat × List D)} {d y : D} {r ys : List D} {rh1 : Env} {mu1 mu2 mu3 mu4 : Store} (hk : keeps gi mu) (h1 : t d rh mu = .val rh1 mu1) (h2 : c rh1 mu1 = .val true mu2) (h3 : e rh1 mu2 = .val y mu3) (h4 : lcL gi t c e r rh mu3 = .val ys mu4) : lcL gi t c e (d :: r) rh mu = .val (y :: ys) mu4 := by
  rw [lcL, if_pos hk, h1]
  simp only [h2, h3, h4]
theorem lcL_fg {gi : List (Nat × List D)} {d : D} {r : List D} {rh1 : Env} {mu1 mu2 : Store} (hk : keeps gi mu) (h1 : t d rh mu = .val rh1 mu1) (h2 : c rh1 mu1 = .val false mu2) : lcL gi t c e (d :: r) rh mu = lcL gi t c e r rh mu2 := by
  rw [lcL, if_pos hk, h1]
  simp only [h2]
/-- an invariant, by what has been walked -/
theorem forL_rel (P : List D → Env → Store → Prop) {ds : List D} (h0 : P [] rh mu)
    (hs : ∀ pre d post, ds = pre ++ d :: post → ∀ rh mu, P pre rh mu → ∃ rh1 mu1 rh2 mu2, t d rh mu = .val rh1 mu1 ∧ (b rh1 mu1 = .nx rh2 mu2 ∨ b rh1 mu1 = .ct rh2 mu2) ∧ P (pre ++ [d]) rh2 mu2) :
    ∃ rh' mu', forL [] t b ds rh mu = .nx rh' mu' ∧ P ds rh' mu' := by
  have gen : ∀ (post pre : List D) (rh : Env) (mu : Store), ds = pre ++ post → P pre rh mu → ∃ rh' mu', forL [] t b post rh mu = .nx rh' mu' ∧ P ds rh' mu' := by
    intro post
    induction post with
    | nil =>
      intro pre rh mu e p
      rw [List.append_nil] at e
      subst e
      exact ⟨rh, mu, forL_0, p⟩
    | cons d post ih =>
      intro pre rh mu e p
      obtain ⟨rh1, mu1, rh2, mu2, h1, h2, h3⟩ := hs pre d post e rh mu p
      obtain ⟨rh', mu', h4, h5⟩ := ih (pre ++ [d]) rh2 mu2 (by rw [e, List.append_assoc]; rfl) h3
      exact ⟨rh', mu', (forL_nx h1 h2).trans h4, h5⟩
  exact gen ds [] rh mu rfl h0
/-- the store stays, a pure walk -/
theorem lcL_0 : lcL [] t c e [] rh mu = .val [] mu := by
  rw [lcL, if_pos keeps_nil]
theorem lcL_t {d y : D} {r ys : List D} {rh1 : Env} {mu1 mu2 mu3 mu4 : Store} (h1 : t d rh mu = .val rh1 mu1) (h2 : c rh1 mu1 = .val true mu2) (h3 : e rh1 mu2 = .val y mu3) (h4 : lcL [] t c e r rh mu3 = .val ys mu4) : lcL [] t c e (d :: r) rh mu = .val (y :: ys) mu4 := by
  rw [lcL, if_pos keeps_nil, h1]
  simp only [h2, h3, h4]
theorem lcL_f {d : D} {r : List D} {rh1 : Env} {mu1 mu2 : Store} (h1 : t d rh mu = .val rh1 mu1) (h2 : c rh1 mu1 = .val false mu2) : lcL [] t c e (d :: r) rh mu = lcL [] t c e r rh mu2 := by
  rw [lcL, if_pos keeps_nil, h1]
  simp only [h2]
theorem lcL_fm (f : D → Option D) : ∀ {ds : List D}, (∀ d ∈ ds, ∃ rh1, t d rh mu = .val rh1 mu ∧ ((∃ y, f d = some y ∧ c rh1 mu = .val true mu ∧ e rh1 mu = .val y mu) ∨ (f d = none ∧ c rh1 mu = .val false mu))) → lcL [] t c e ds rh mu = .val (ds.filterMap f) mu
  | [], _ => lcL_0
  | d :: r, h => by
    obtain ⟨rh1, h1, h2⟩ := h d (by simp)
    have ih := lcL_fm f (ds := r) fun x hx => h x (by simp [hx])
    rcases h2 with ⟨y, h2, h3, h4⟩ | ⟨h2, h3⟩
    · rw [List.filterMap_cons, h2]
      exact lcL_t h1 h3 h4 ih
    · rw [List.filterMap_cons, h2]
      exact (lcL_f h1 h3).trans ih
theorem lcL_map (f : D → D) {ds : List D} (h : ∀ d ∈ ds, ∃ rh1, t d rh mu = .val rh1 mu ∧ c rh1 mu = .val true mu ∧ e rh1 mu = .val (f d) mu) : lcL [] t c e ds rh mu = .val (ds.map f) mu := by
  rw [lcL_fm (fun d => some (f d)) fun d hd => ?_]
  · rw [show (fun d => some (f d)) = some ∘ f from rfl, List.filterMap_eq_map]
  · obtain ⟨rh1, h1, h2, h3⟩ := h d hd
    exact ⟨rh1, h1, .inl ⟨f d, rfl, h2, h3⟩⟩
@[simp] theorem cYes_app : cYes rh mu = .val true mu := rfl
theorem eLc_app {k : Bool} {src : SI} {vs : List Nat} : eLc k src t c e vs rh mu = match src rh mu with
  | .val it mu1 => (match lcL it.gi t c e it.ds (wipeE rh vs) mu1 with
    | .val ds mu2 => if ds.length ≤ 1000000 then mkL k ds mu2 else .bad
    | _ => .bad)
  | .exc x mu1 => .exc x mu1
  | .bad => .bad := by
  unfold eLc
  rw [bnd_app]
  cases src rh mu with
  | val it mu1 =>
    simp only [bnd_app, noX]
    cases lcL it.gi t c e it.ds (wipeE rh vs) mu1 with
    | val ds mu2 =>
      simp only [few_s]
      by_cases h : ds.length ≤ 1000000
      · simp [h]
      · simp [h]
    | exc x mu2 => rfl
    | bad => rfl
  | exc x mu1 => rfl
  | bad => rfl
@[simp] theorem wipeE_0 : wipeE rh [] = rh := rfl
@[simp] theorem wipeE_s {v : Nat} {vs : List Nat} : wipeE rh (v :: vs) = (wipeE rh vs).set v none := rfl
@[simp] theorem gSeq_app {g : SE} : gSeq g rh mu = bnd (g rh) (fun d => fun mu => match itOf mu d with
  | some it => .val it mu
  | none => .bad) mu := rfl
@[simp] theorem itOf_lst {ds : List D} : itOf mu (.lst ds) = some ⟨ds, []⟩ := rfl
@[simp] theorem itOf_tup {ds : List D} : itOf mu (.tup ds) = some ⟨ds, []⟩ := rfl
@[simp] theorem itOf_scr {ds : List D} : itOf mu (.scr ds) = some ⟨ds, []⟩ := rfl
end
/-! ### operations -/
section
variable {mu : Store} {i j : Int}
@[simp] theorem fAdd_i {m : Bool} : fAdd m (.int i) (.int j) mu = .val (.int (i + j)) mu := rfl
@[simp] theorem fAdd_t {m : Bool} {a b : List D} : fAdd m (.tup a) (.tup b) mu = if a.length + b.length ≤ 1000000 then .val (.tup (a ++ b)) mu else .bad := by
  exact ite_few
@[simp] theorem fAdd_l {m : Bool} {a b : List D} : fAdd m (.lst a) (.lst b) mu = if a.length + b.length ≤ 1000000 then mkL m (a ++ b) mu else .bad := by
  exact ite_few
@[simp] theorem fSub_i : fSub (.int i) (.int j) mu = .val (.int (i - j)) mu := rfl
theorem fMul_i {m : Bool} : fMul m (.int i) (.int j) mu = if okMul i j = true then .val (.int (i * j)) mu else .bad := rfl
theorem fDiv_i : fDiv (.int i) (.int j) mu = if 0 < j ∧ j.natAbs.log2 < 9000 then .val (.int (i / j)) mu else .bad := by
  unfold fDiv
  simp only [Bool.and_eq_true, decide_eq_true_eq]
  by_cases h : 0 < j ∧ j.natAbs.log2 < 9000
  · rw [if_pos h, if_pos h]; rfl
  · rw [if_neg h, if_neg h]; rfl
theorem fMod_i (h : 0 < j) : fMod (.int i) (.int j) mu = .val (.int (i % j)) mu := by
  unfold fMod
  simp only [h, if_true]
  rfl
@[simp] theorem fLt_i : fLt (.int i) (.int j) mu = .val (.bl (decide (i < j))) mu := rfl
@[simp] theorem fLe_i : fLe (.int i) (.int j) mu = .val (.bl (decide (i ≤ j))) mu := rfl
@[simp] theorem fGt_i : fGt (.int i) (.int j) mu = .val (.bl (decide (j < i))) mu := rfl
@[simp] theorem fGe_i : fGe (.int i) (.int j) mu = .val (.bl (decide (j ≤ i))) mu := rfl
@[simp] theorem fNeg_i : fNeg (.int i) mu = .val (.int (-i)) mu := rfl
@[simp] theorem fAbs_i : fAbs [.int i] mu = .val (.int (if i < 0 then -i else i)) mu := rfl
@[simp] theorem fInt_i : fInt [.int i] mu = .val (.int i) mu := rfl
@[simp] theorem fInt_b {k : Bool} : fInt [.bl k] mu = .val (.int (if k then 1 else 0)) mu := rfl
@[simp] theorem fLen_t {ds : List D} : fLen [.tup ds] mu = .val (.int ds.length) mu := rfl
@[simp] theorem fLen_l {ds : List D} : fLen [.lst ds] mu = .val (.int ds.length) mu := rfl
@[simp] theorem fLen_s {ds : List D} : fLen [.scr ds] mu = .val (.int ds.length) mu := rfl
@[simp] theorem fIsN_n {d : D} : fIsN d .non mu = .val (.bl d.isN) mu := rfl
@[simp] theorem fNotN_n {d : D} : fNotN d .non mu = .val (.bl (!d.isN)) mu := rfl
theorem fIx_t {ds : List D} : fIx (.tup ds) (.int i) mu = match atI ds i with
  | some z => .val z mu
  | none => .bad := rfl
theorem fIx_l {ds : List D} : fIx (.lst ds) (.int i) mu = match atI ds i with
  | some z => .val z mu
  | none => .bad := rfl
theorem fTuple_t {ds : List D} : fTuple [.tup ds] mu = .val (.tup ds) mu := rfl
@[simp] theorem fTuple_l {ds : List D} : fTuple [.lst ds] mu = .val (.tup ds) mu := rfl
theorem atI_nat {A : Type} {xs : List A} {n : Nat} {x : A} (h : xs[n]? = some x) : atI xs ((n : Nat) : Int) = some x := by
  have hl := (List.getElem?_eq_some_iff.mp h).1
  unfold atI
  have e : ixN xs.length (n : Int) = some n := by
    unfold ixN
    simp
    omega
  rw [e]
  exact h
end
end DL

set_option Elab.async false
set_option linter.all false
set_option maxRecDepth 100000
set_option maxHeartbeats 4000000
/-! M1: plain data: equality, repr; fractions. -/
namespace DL
open PySem PySem.Spec PyProof.Rows L2

/-- None, ints, tuples and lists of such, at most n deep -/
def pln : Nat → D → Bool
  | _, .non => true
  | _, .int _ => true
  | n + 1, .tup ds => ds.all (pln n)
  | n + 1, .lst ds => ds.all (pln n)
  | _, _ => false
/-- how many parts; the ints below 2^1900 -/
def nds : Nat → D → Nat
  | n + 1, .tup ds => (ds.map (nds n)).sum + 1
  | n + 1, .lst ds => (ds.map (nds n)).sum + 1
  | _, _ => 1
def sml : Nat → D → Bool
  | _, .int i => decide (i.natAbs.log2 < 1900)
  | n + 1, .tup ds => ds.all (sml n)
  | n + 1, .lst ds => ds.all (sml n)
  | _, _ => true
theorem pys_of {n : Nat} (ih : ∀ d, pln n d = true → ∃ p, D.py d = some p ∧ p.canLay0 = true ∧ p.depth ≤ n) : ∀ {ds : List D}, ds.all (pln n) = true → ∃ ps, D.pys ds = some ps ∧ PyData.canLayAll0 ps = true ∧ PyData.depthAll ps ≤ n
  | [], _ => ⟨[], rfl, rfl, Nat.zero_le _⟩
  | d :: ds, h => by
    simp only [List.all_cons, Bool.and_eq_true] at h
    obtain ⟨p, h1, h2, h3⟩ := ih d h.1
    obtain ⟨ps, h4, h5, h6⟩ := pys_of ih h.2
    refine ⟨p :: ps, by simp only [D.pys, h1, h4], by simp only [PyData.canLayAll0, h2, h5, Bool.and_self], ?_⟩
    simp only [PyData.depthAll]
    omega
theorem pln_py : ∀ {n : Nat} {d : D}, pln n d = true → ∃ p, D.py d = some p ∧ p.canLay0 = true ∧ p.depth ≤ n
  | _, .non, _ => ⟨.none, rfl, rfl, Nat.zero_le _⟩
  | _, .int i, _ => ⟨.int i, rfl, rfl, Nat.zero_le _⟩
  | 0, .tup _, h => by cases h
  | n + 1, .tup ds, h => by
    obtain ⟨ps, h1, h2, h3⟩ := pys_of (fun d hd => pln_py hd) (show ds.all (pln n) = true from h)
    exact ⟨.tuple ps, by simp only [D.py, h1, Option.map], by simpa only [PyData.canLay0] using h2, by simp only [PyData.depth]; omega⟩
  | 0, .lst _, h => by cases h
  | n + 1, .lst ds, h => by
    obtain ⟨ps, h1, h2, h3⟩ := pys_of (fun d hd => pln_py hd) (show ds.all (pln n) = true from h)
    exact ⟨.list ps, by simp only [D.py, h1, Option.map], by simpa only [PyData.canLay0] using h2, by simp only [PyData.depth]; omega⟩
  | 0, .bl _, h => by cases h
  | n + 1, .bl _, h => by cases h
  | 0, .str _, h => by cases h
  | n + 1, .str _, h => by cases h
  | 0, .ins _ _ _, h => by cases h
  | n + 1, .ins _ _ _, h => by cases h
  | 0, .ref _, h => by cases h
  | n + 1, .ref _, h => by cases h
  | 0, .exn _ _, h => by cases h
  | n + 1, .exn _ _, h => by cases h
  | 0, .scr _, h => by cases h
  | n + 1, .scr _, h => by cases h
  | 0, .ty _, h => by cases h
  | n + 1, .ty _, h => by cases h
  | 0, .cls _, h => by cases h
  | n + 1, .cls _, h => by cases h
theorem pys_eq {n : Nat} (ih : ∀ d e p q, pln n d = true → pln n e = true → D.py d = some p → D.py e = some q → (PyData.eqv p q = true ↔ d = e)) :
    ∀ {ds es : List D} {ps qs : List PyData}, ds.all (pln n) = true → es.all (pln n) = true → D.pys ds = some ps → D.pys es = some qs → (PyData.eqvAll ps qs = true ↔ ds = es)
  | [], [], ps, qs, _, _, h1, h2 => by
    cases h1; cases h2
    simp [PyData.eqvAll]
  | [], e :: es, ps, qs, _, h, h1, h2 => by
    cases h1
    simp only [List.all_cons, Bool.and_eq_true] at h
    obtain ⟨q, hq, _⟩ := pln_py h.1
    simp only [D.pys, hq] at h2
    split at h2
    · rename_i a b c d
      cases h2
      simp [PyData.eqvAll]
    · cases h2
  | d :: ds, [], ps, qs, h, _, h1, h2 => by
    cases h2
    simp only [List.all_cons, Bool.and_eq_true] at h
    obtain ⟨q, hq, _⟩ := pln_py h.1
    simp only [D.pys, hq] at h1
    split at h1
    · cases h1
      simp [PyData.eqvAll]
    · cases h1
  | d :: ds, e :: es, ps, qs, h, h', h1, h2 => by
    simp only [List.all_cons, Bool.and_eq_true] at h h'
    simp only [D.pys] at h1 h2
    split at h1
    · rename_i p ps' a1 a2
      cases h1
      split at h2
      · rename_i q qs' b1 b2
        cases h2
        simp only [PyData.eqvAll, Bool.and_eq_true]
        rw [ih d e p q h.1 h'.1 a1 b1, pys_eq ih h.2 h'.2 a2 b2]
        simp
      · cases h2
    · cases h1
theorem pln_eq : ∀ {n : Nat} {d e : D} {p q : PyData}, pln n d = true → pln n e = true → D.py d = some p → D.py e = some q → (PyData.eqv p q = true ↔ d = e) := by
  intro n
  induction n with
  | zero =>
    intro d e p q h1 h2 h3 h4
    cases d <;> first | (cases h1; done) | skip <;> cases e <;> first | (cases h2; done) | skip <;> cases h3 <;> cases h4 <;> simp [PyData.eqv]
  | succ n ih =>
    intro d e p q h1 h2 h3 h4
    have ih' : ∀ d e p q, pln n d = true → pln n e = true → D.py d = some p → D.py e = some q → (PyData.eqv p q = true ↔ d = e) := fun d e p q => ih
    cases d <;> first | (cases h1; done) | skip
    · cases e <;> first | (cases h2; done) | skip
      · cases h3; cases h4; simp [PyData.eqv]
      · cases h3; cases h4; simp [PyData.eqv]
      · obtain ⟨ps, e1, _⟩ := Option.map_eq_some_iff.mp (show (D.pys _).map PyData.tuple = some q from h4)
        obtain ⟨a, b, rfl⟩ := Option.map_eq_some_iff.mp (show (D.pys _).map PyData.tuple = some q from h4)
        cases h3; simp [PyData.eqv]
      · obtain ⟨a, b, rfl⟩ := Option.map_eq_some_iff.mp (show (D.pys _).map PyData.list = some q from h4)
        cases h3; simp [PyData.eqv]
    · cases e <;> first | (cases h2; done) | skip
      · cases h3; cases h4; simp [PyData.eqv]
      · cases h3; cases h4; simp [PyData.eqv]
      · obtain ⟨a, b, rfl⟩ := Option.map_eq_some_iff.mp (show (D.pys _).map PyData.tuple = some q from h4)
        cases h3; simp [PyData.eqv]
      · obtain ⟨a, b, rfl⟩ := Option.map_eq_some_iff.mp (show (D.pys _).map PyData.list = some q from h4)
        cases h3; simp [PyData.eqv]
    · obtain ⟨ps, hp, rfl⟩ := Option.map_eq_some_iff.mp (show (D.pys _).map PyData.tuple = some p from h3)
      cases e <;> first | (cases h2; done) | skip
      · cases h4; simp [PyData.eqv]
      · cases h4; simp [PyData.eqv]
      · obtain ⟨qs, hq, rfl⟩ := Option.map_eq_some_iff.mp (show (D.pys _).map PyData.tuple = some q from h4)
        simp only [PyData.eqv]
        rw [pys_eq ih' (show List.all _ (pln n) = true from h1) (show List.all _ (pln n) = true from h2) hp hq]
        simp
      · obtain ⟨qs, hq, rfl⟩ := Option.map_eq_some_iff.mp (show (D.pys _).map PyData.list = some q from h4)
        simp [PyData.eqv]
    · obtain ⟨ps, hp, rfl⟩ := Option.map_eq_some_iff.mp (show (D.pys _).map PyData.list = some p from h3)
      cases e <;> first | (cases h2; done) | skip
      · cases h4; simp [PyData.eqv]
      · cases h4; simp [PyData.eqv]
      · obtain ⟨qs, hq, rfl⟩ := Option.map_eq_some_iff.mp (show (D.pys _).map PyData.tuple = some q from h4)
        simp [PyData.eqv]
      · obtain ⟨qs, hq, rfl⟩ := Option.map_eq_some_iff.mp (show (D.pys _).map PyData.list = some q from h4)
        simp only [PyData.eqv]
        rw [pys_eq ih' (show List.all _ (pln n) = true from h1) (show List.all _ (pln n) = true from h2) hp hq]
        simp
theorem pln_noref {n : Nat} {d : D} (h : pln n d = true) : ∀ mu, py0 mu d = D.py d := by
  intro mu
  cases d <;> first | rfl | (cases n <;> cases h)
theorem pln_shaped {n : Nat} {d : D} {p : PyData} (hn : n ≤ 60) (h : pln n d = true) (e : D.py d = some p) : SeqAt.shaped p = true := by
  obtain ⟨p', h1, h2, h3⟩ := pln_py h
  rw [e] at h1
  cases h1
  unfold SeqAt.shaped
  rw [h2, decide_eq_true (by omega : p.depth ≤ 64)]
  rfl
open Classical in
theorem fEq_pl {n : Nat} {d e : D} {mu : Store} (hn : n ≤ 60) (h1 : pln n d = true) (h2 : pln n e = true) : fEq d e mu = .val (.bl (decide (d = e))) mu := by
  obtain ⟨p, a1, _⟩ := pln_py h1
  obtain ⟨q, b1, _⟩ := pln_py h2
  have es : eqStr d e = none := by
    cases d <;> first | rfl | (cases n <;> cases h1)
  unfold fEq
  rw [es]
  simp only [pln_noref h1, pln_noref h2, a1, b1, pln_shaped hn h1 a1, pln_shaped hn h2 b1, Bool.and_self, if_true]
  congr 2
  have := pln_eq h1 h2 a1 b1
  by_cases hx : d = e
  · rw [this.mpr hx, decide_eq_true hx]
  · rw [decide_eq_false hx]
    cases q : PyData.eqv p q with
    | true => exact absurd (this.mp q) hx
    | false => rfl
open Classical in
theorem fNe_pl {n : Nat} {d e : D} {mu : Store} (hn : n ≤ 60) (h1 : pln n d = true) (h2 : pln n e = true) : fNe d e mu = .val (.bl (!decide (d = e))) mu := by
  obtain ⟨p, a1, _⟩ := pln_py h1
  obtain ⟨q, b1, _⟩ := pln_py h2
  have es : eqStr d e = none := by
    cases d <;> first | rfl | (cases n <;> cases h1)
  unfold fNe
  rw [es]
  simp only [pln_noref h1, pln_noref h2, a1, b1, pln_shaped hn h1 a1, pln_shaped hn h2 b1, Bool.and_self, if_true]
  congr 3
  have := pln_eq h1 h2 a1 b1
  by_cases hx : d = e
  · rw [this.mpr hx, decide_eq_true hx]
  · rw [decide_eq_false hx]
    cases q : PyData.eqv p q with
    | true => exact absurd (this.mp q) hx
    | false => rfl
@[simp] theorem fEq_i {i j : Int} {mu : Store} : fEq (.int i) (.int j) mu = .val (.bl (decide (i = j))) mu := by
  rw [fEq_pl (n := 0) (by omega) rfl rfl]
  congr 2
  simp
@[simp] theorem fNe_i {i j : Int} {mu : Store} : fNe (.int i) (.int j) mu = .val (.bl (!decide (i = j))) mu := by
  rw [fNe_pl (n := 0) (by omega) rfl rfl]
  congr 3
  simp

/-! ### repr -/
theorem shown_pl : ∀ {n : Nat} {d : D} {p : PyData}, pln n d = true → sml n d = true → D.py d = some p → p.showable = true ∧ p.hasDict = false ∧ p.shown.length + 5 ≤ 1930 * nds n d := by
  have all : ∀ {n : Nat}, (∀ {d : D} {p : PyData}, pln n d = true → sml n d = true → D.py d = some p → p.showable = true ∧ p.hasDict = false ∧ p.shown.length + 5 ≤ 1930 * nds n d) →
      ∀ {ds : List D} {ps : List PyData}, ds.all (pln n) = true → ds.all (sml n) = true → D.pys ds = some ps → PyData.showableAll ps = true ∧ PyData.hasDictAll ps = false ∧ piled (PyData.shownAll ps) ≤ 1930 * (ds.map (nds n)).sum := by
    intro n ih ds
    induction ds with
    | nil =>
      intro ps _ _ h
      cases h
      exact ⟨rfl, rfl, Nat.zero_le _⟩
    | cons d ds ihd =>
      intro ps h1 h2 h3
      simp only [List.all_cons, Bool.and_eq_true] at h1 h2
      simp only [D.pys] at h3
      split at h3
      · rename_i p ps' a1 a2
        cases h3
        obtain ⟨b1, b2, b3⟩ := ih h1.1 h2.1 a1
        obtain ⟨c1, c2, c3⟩ := ihd h1.2 h2.2 a2
        refine ⟨by simp only [PyData.showableAll, b1, c1, Bool.and_self], by simp only [PyData.hasDictAll, b2, c2, Bool.or_self], ?_⟩
        simp only [PyData.shownAll, piled_cons, List.map_cons, List.sum_cons]
        omega
      · cases h3
  have jn : ∀ ts : List Str, (Str.join ", " ts).length ≤ piled ts := fun ts => by
    by_cases h : ts = []
    · subst h
      exact Nat.zero_le _
    · have := join_length_add ts h
      omega
  intro n
  induction n with
  | zero =>
    intro d p h1 h2 h3
    cases d <;> first | (cases h1; done) | skip
    · cases h3; exact ⟨rfl, rfl, by show 4 + 5 ≤ 1930 * 1; omega⟩
    · rename_i i
      cases h3
      have hs : i.natAbs.log2 < 1900 := of_decide_eq_true h2
      have hl := PyProof.Rows.int_text_len_1921 (i := i) (by omega)
      exact ⟨decide_eq_true (by omega), rfl, by show (PySem.Str.ofString (toString i)).length + 5 ≤ 1930 * 1; omega⟩
  | succ n ih =>
    intro d p h1 h2 h3
    cases d <;> first | (cases h1; done) | skip
    · cases h3; exact ⟨rfl, rfl, by show 4 + 5 ≤ 1930 * 1; omega⟩
    · rename_i i
      cases h3
      have hs : i.natAbs.log2 < 1900 := of_decide_eq_true h2
      have hl := PyProof.Rows.int_text_len_1921 (i := i) (by omega)
      exact ⟨decide_eq_true (by omega), rfl, by show (PySem.Str.ofString (toString i)).length + 5 ≤ 1930 * 1; omega⟩
    · rename_i ds
      obtain ⟨ps, hp, rfl⟩ := Option.map_eq_some_iff.mp (show (D.pys _).map PyData.tuple = some p from h3)
      obtain ⟨c1, c2, c3⟩ := all ih (show ds.all (pln n) = true from h1) (show ds.all (sml n) = true from h2) hp
      refine ⟨c1, c2, ?_⟩
      have hj := jn (PyData.shownAll ps)
      show (("(" : Str) ++ Str.join ", " (PyData.shownAll ps) ++ ((if (PyData.shownAll ps).length == 1 then ",)" else ")" : String) : Str)).length + 5 ≤ 1930 * ((ds.map (nds n)).sum + 1)
      rw [strLen_append, strLen_append]
      have e1 : (("(" : String) : Str).length = 1 := rfl
      have e2 : ((if (PyData.shownAll ps).length == 1 then ",)" else ")" : String) : Str).length ≤ 2 := by
        split
        · exact Nat.le_refl 2
        · exact Nat.le_succ 1
      rw [e1]
      omega
    · rename_i ds
      obtain ⟨ps, hp, rfl⟩ := Option.map_eq_some_iff.mp (show (D.pys _).map PyData.list = some p from h3)
      obtain ⟨c1, c2, c3⟩ := all ih (show ds.all (pln n) = true from h1) (show ds.all (sml n) = true from h2) hp
      refine ⟨c1, c2, ?_⟩
      show (listText (PyData.shownAll ps)).length + 5 ≤ 1930 * ((ds.map (nds n)).sum + 1)
      have hl : (listText (PyData.shownAll ps)).length ≤ piled (PyData.shownAll ps) + 2 := by
        unfold listText
        have gen : ∀ (ts : List Str) (k : Nat) (acc : Str), (textFrom k acc ts).length ≤ acc.length + piled ts := by
          intro ts
          induction ts with
          | nil => intro k acc; exact Nat.le_refl _
          | cons t ts iht =>
            intro k acc
            have := iht (k + 1) (acc ++ (if k > 0 then ", " else "" : String) ++ t)
            have e : (acc ++ (if k > 0 then ", " else "" : String) ++ t).length ≤ acc.length + 2 + t.length := by
              rw [strLen_append, strLen_append]
              have : ((if k > 0 then ", " else "" : String) : Str).length ≤ 2 := by
                split
                · exact Nat.le_refl 2
                · exact Nat.zero_le 2
              omega
            rw [piled_cons]
            show (textFrom (k + 1) (acc ++ (if k > 0 then ", " else "" : String) ++ t) ts).length ≤ _
            omega
        rw [strLen_append]
        have := gen (PyData.shownAll ps) 0 "["
        have e1 : (("[" : String) : Str).length = 1 := rfl
        have e2 : (("]" : String) : Str).length = 1 := rfl
        omega
      omega
theorem fRepr_pl {n : Nat} {es : List D} (hn : n ≤ 60) (h1 : pln n (.tup es) = true) (h2 : sml n (.tup es) = true) (h3 : nds n (.tup es) ≤ 500) : ∃ z, ∀ mu, fRepr [.tup es] mu = .val (.str z) mu := by
  obtain ⟨p, a1, a2, a3⟩ := pln_py h1
  obtain ⟨b1, b2, b3⟩ := shown_pl h1 h2 a1
  refine ⟨p.shown, fun mu => ?_⟩
  unfold fRepr
  simp only [a1]
  have : okShow p = true := by
    unfold okShow
    simp only [b1, b2, Bool.not_false, Bool.and_true, Bool.true_and, Bool.and_eq_true, decide_eq_true_eq]
    constructor <;> omega
  rw [if_pos this]

/-! ### sizes -/
theorem log2_le {n m : Nat} (h : n < 2 ^ m) : n.log2 ≤ m := by
  by_cases h0 : n = 0
  · subst h0
    exact Nat.zero_le _
  · exact Nat.le_of_lt ((Nat.log2_lt h0).mpr h)
/-- numbers below 2^m -/
def Sz (m : Nat) (q : Rat) : Prop := q.num.natAbs < 2 ^ m ∧ q.den < 2 ^ m
theorem Sz.mono {m k : Nat} {q : Rat} (h : Sz m q) (l : m ≤ k) : Sz k q := ⟨Nat.lt_of_lt_of_le h.1 (Nat.pow_le_pow_right (by omega) l), Nat.lt_of_lt_of_le h.2 (Nat.pow_le_pow_right (by omega) l)⟩
theorem natAbs_div_le (a : Int) (g : Nat) : (a / (g : Int)).natAbs ≤ a.natAbs := Int.natAbs_ediv_le_natAbs a g
theorem mk_size {a : Int} {b m : Nat} (ha : a.natAbs < 2 ^ m) (hb : b < 2 ^ m) (h0 : b ≠ 0) : Sz m (mkRat a b) := by
  rw [← Rat.normalize_eq_mkRat h0, Rat.normalize_eq]
  exact ⟨Nat.lt_of_le_of_lt (natAbs_div_le a _) ha, Nat.lt_of_le_of_lt (Nat.div_le_self _ _) hb⟩
theorem mul_mk (p q : Rat) : p * q = mkRat (p.num * q.num) (p.den * q.den) := by
  rw [Rat.mul_def, Rat.normalize_eq_mkRat]
theorem Sz.mul {a b : Nat} {p q : Rat} (hp : Sz a p) (hq : Sz b q) : Sz (a + b) (p * q) := by
  rw [mul_mk]
  have h1 : (p.num * q.num).natAbs < 2 ^ (a + b) := by
    rw [Int.natAbs_mul, Nat.pow_add]
    exact Nat.mul_lt_mul'' hp.1 hq.1
  have h2 : p.den * q.den < 2 ^ (a + b) := by
    rw [Nat.pow_add]
    exact Nat.mul_lt_mul'' hp.2 hq.2
  exact mk_size h1 h2 (Nat.mul_ne_zero p.den_nz q.den_nz)
theorem okMul_of {i j : Int} {a b : Nat} (h1 : i.natAbs < 2 ^ a) (h2 : j.natAbs < 2 ^ b) (h : a + b < 1000000) : okMul i j = true := by
  unfold okMul
  have := log2_le h1
  have := log2_le h2
  exact decide_eq_true (by omega)
/-- a fraction, as the program has it -/
def dF (q : Rat) : D := .tup [.int q.num, .int (q.den : Int)]
theorem dF_inj {p q : Rat} (h : dF p = dF q) : p = q := by
  unfold dF at h
  simp only [D.tup.injEq, List.cons.injEq, D.int.injEq, and_true] at h
  exact Rat.ext h.1 (by omega)
theorem dF_pln {q : Rat} (n : Nat) : pln (n + 1) (dF q) = true := by
  show ([D.int q.num, .int (q.den : Int)].all (pln n)) = true
  cases n <;> rfl
@[simp] theorem dF_low {q : Rat} {k : Nat} : lowD k (dF q) = true := rfl
theorem dF_0 : dF 0 = .tup [.int 0, .int 1] := rfl
theorem dF_1 : dF 1 = .tup [.int 1, .int 1] := rfl
@[simp] theorem isi_dF {q : Rat} {mu : Store} : fIsi [dF q, .ty "tuple"] mu = .val (.bl true) mu := by rfl
@[simp] theorem len_dF {q : Rat} {mu : Store} : fLen [dF q] mu = .val (.int 2) mu := by rfl
@[simp] theorem ix_dF0 {q : Rat} {mu : Store} : fIx (dF q) (.int 0) mu = .val (.int q.num) mu := by rfl
@[simp] theorem ix_dF1 {q : Rat} {mu : Store} : fIx (dF q) (.int 1) mu = .val (.int (q.den : Int)) mu := by rfl
@[simp] theorem it_dF {q : Rat} {mu : Store} : itOf mu (dF q) = some ⟨[.int q.num, .int (q.den : Int)], []⟩ := by rfl
@[simp] theorem gt_dF {q : Rat} {b : SGs} {rh : Env} {mu : Store} : gTup 2 b (dF q) rh mu = b [.int q.num, .int (q.den : Int)] rh mu := by
  show gTup 2 b (.tup [.int q.num, .int (q.den : Int)]) rh mu = _
  simp
theorem fAll_map {A : Type} {f : A → Bool} (l : List A) (mu : Store) : fAll [.lst (l.map fun a => .bl (f a))] mu = .val (.bl (l.all f)) mu := by
  have h : ∀ l : List A, blsD (l.map fun a => .bl (f a)) = some (l.map f) := by
    intro l
    induction l with
    | nil => rfl
    | cons a l ih =>
      show (blsD (l.map fun a => .bl (f a))).map (f a :: ·) = _
      rw [ih]
      rfl
  have e : (l.map f).all id = l.all f := by rw [List.all_map]; rfl
  unfold fAll
  simp only [vwL, Option.bind_some, h]
  rw [e]
theorem fSum_map {A : Type} {f : A → Int} (l : List A) (mu : Store) : fSum [.lst (l.map fun a => .int (f a))] mu = .val (.int (l.map f).sum) mu := by
  have h : ∀ l : List A, intsD (l.map fun a => .int (f a)) = some (l.map f) := by
    intro l
    induction l with
    | nil => rfl
    | cons a l ih =>
      show (intsD (l.map fun a => .int (f a))).map (f a :: ·) = _
      rw [ih]
      rfl
  unfold fSum
  simp only [vwL, Option.bind_some, h]
@[simp] theorem isi_int_int {i : Int} {mu : Store} : fIsi [.int i, .ty "int"] mu = .val (.bl true) mu := by rfl
@[simp] theorem isi_int_bool {i : Int} {mu : Store} : fIsi [.int i, .ty "bool"] mu = .val (.bl false) mu := by rfl
@[simp] theorem isi_tup {ds : List D} {mu : Store} : fIsi [.tup ds, .ty "tuple"] mu = .val (.bl true) mu := by rfl
/-- a walk that shows the same of each -/
theorem lc_all {t : SG} {c : SB} {e : SE} {rh : Env} {mu : Store} {k : Bool} {src : SI} {vs : List Nat} {A : Type} {l : List A} {g f : A → D} (hs : src rh mu = .val ⟨l.map g, []⟩ mu) (hl : l.length ≤ 1000000)
    (h : ∀ a ∈ l, ∃ rh1, t (g a) (wipeE rh vs) mu = .val rh1 mu ∧ c rh1 mu = .val true mu ∧ e rh1 mu = .val (f a) mu) : eLc k src t c e vs rh mu = mkL k (l.map f) mu := by
  have key : ∀ {l : List A}, (∀ a ∈ l, ∃ rh1, t (g a) (wipeE rh vs) mu = .val rh1 mu ∧ c rh1 mu = .val true mu ∧ e rh1 mu = .val (f a) mu) → lcL [] t c e (l.map g) (wipeE rh vs) mu = .val (l.map f) mu := by
    intro l
    induction l with
    | nil => exact fun _ => lcL_0
    | cons a l ih =>
      intro h
      obtain ⟨rh1, h1, h2, h3⟩ := h a (by simp)
      exact lcL_t h1 h2 h3 (ih fun x hx => h x (by simp [hx]))
  rw [eLc_app, hs]
  simp only [key h, List.length_map, hl, if_true]
/-- .. and of those that pass -/
theorem lc_some {t : SG} {c : SB} {e : SE} {rh : Env} {mu : Store} {k : Bool} {src : SI} {vs : List Nat} {A : Type} {l : List A} {g f : A → D} {p : A → Bool} (hs : src rh mu = .val ⟨l.map g, []⟩ mu) (hl : l.length ≤ 1000000)
    (h : ∀ a ∈ l, ∃ rh1, t (g a) (wipeE rh vs) mu = .val rh1 mu ∧ c rh1 mu = .val (p a) mu ∧ (p a = true → e rh1 mu = .val (f a) mu)) : eLc k src t c e vs rh mu = mkL k ((l.filter p).map f) mu := by
  have key : ∀ {l : List A}, (∀ a ∈ l, ∃ rh1, t (g a) (wipeE rh vs) mu = .val rh1 mu ∧ c rh1 mu = .val (p a) mu ∧ (p a = true → e rh1 mu = .val (f a) mu)) → lcL [] t c e (l.map g) (wipeE rh vs) mu = .val ((l.filter p).map f) mu := by
    intro l
    induction l with
    | nil => exact fun _ => lcL_0
    | cons a l ih =>
      intro h
      obtain ⟨rh1, h1, h2, h3⟩ := h a (by simp)
      have ih := ih fun x hx => h x (by simp [hx])
      cases q : p a with
      | true =>
        rw [q] at h2
        rw [List.filter_cons_of_pos q]
        exact lcL_t h1 h2 (h3 q) ih
      | false =>
        rw [q] at h2
        rw [List.filter_cons_of_neg (by rw [q]; exact Bool.false_ne_true)]
        exact (lcL_f h1 h2).trans ih
  rw [eLc_app, hs]
  have : ((l.filter p).map f).length ≤ 1000000 := by
    rw [List.length_map]
    exact Nat.le_trans (List.length_filter_le p l) hl
  simp only [key h, this, if_true]
/-- a walk that shows the same of each -/
theorem lc_allg {gi : List (Nat × List D)} {t : SG} {c : SB} {e : SE} {rh : Env} {mu : Store} {k : Bool} {src : SI} {vs : List Nat} {A : Type} {l : List A} {g f : A → D} (hk : keeps gi mu) (hs : src rh mu = .val ⟨l.map g, gi⟩ mu) (hl : l.length ≤ 1000000)
    (h : ∀ a ∈ l, ∃ rh1, t (g a) (wipeE rh vs) mu = .val rh1 mu ∧ c rh1 mu = .val true mu ∧ e rh1 mu = .val (f a) mu) : eLc k src t c e vs rh mu = mkL k (l.map f) mu := by
  have key : ∀ {l : List A}, (∀ a ∈ l, ∃ rh1, t (g a) (wipeE rh vs) mu = .val rh1 mu ∧ c rh1 mu = .val true mu ∧ e rh1 mu = .val (f a) mu) → lcL gi t c e (l.map g) (wipeE rh vs) mu = .val (l.map f) mu := by
    intro l
    induction l with
    | nil => exact fun _ => lcL_0g hk
    | cons a l ih =>
      intro h
      obtain ⟨rh1, h1, h2, h3⟩ := h a (by simp)
      exact lcL_tg hk h1 h2 h3 (ih fun x hx => h x (by simp [hx]))
  rw [eLc_app, hs]
  simp only [key h, List.length_map, hl, if_true]
/-- .. and of those that pass -/
theorem lc_someg {gi : List (Nat × List D)} {t : SG} {c : SB} {e : SE} {rh : Env} {mu : Store} {k : Bool} {src : SI} {vs : List Nat} {A : Type} {l : List A} {g f : A → D} {p : A → Bool} (hk : keeps gi mu) (hs : src rh mu = .val ⟨l.map g, gi⟩ mu) (hl : l.length ≤ 1000000)
    (h : ∀ a ∈ l, ∃ rh1, t (g a) (wipeE rh vs) mu = .val rh1 mu ∧ c rh1 mu = .val (p a) mu ∧ (p a = true → e rh1 mu = .val (f a) mu)) : eLc k src t c e vs rh mu = mkL k ((l.filter p).map f) mu := by
  have key : ∀ {l : List A}, (∀ a ∈ l, ∃ rh1, t (g a) (wipeE rh vs) mu = .val rh1 mu ∧ c rh1 mu = .val (p a) mu ∧ (p a = true → e rh1 mu = .val (f a) mu)) → lcL gi t c e (l.map g) (wipeE rh vs) mu = .val ((l.filter p).map f) mu := by
    intro l
    induction l with
    | nil => exact fun _ => lcL_0g hk
    | cons a l ih =>
      intro h
      obtain ⟨rh1, h1, h2, h3⟩ := h a (by simp)
      have ih := ih fun x hx => h x (by simp [hx])
      cases q : p a with
      | true =>
        rw [q] at h2
        rw [List.filter_cons_of_pos q]
        exact lcL_tg hk h1 h2 (h3 q) ih
      | false =>
        rw [q] at h2
        rw [List.filter_cons_of_neg (by rw [q]; exact Bool.false_ne_true)]
        exact (lcL_fg hk h1 h2).trans ih
  rw [eLc_app, hs]
  have : ((l.filter p).map f).length ≤ 1000000 := by
    rw [List.length_map]
    exact Nat.le_trans (List.length_filter_le p l) hl
  simp only [key h, this, if_true]
end DL

set_option Elab.async false
set_option linter.all false
set_option maxRecDepth 100000
set_option maxHeartbeats 4000000
/-! M2: pairs of a share and a course, ranked; the first of them from the first of each part -/
namespace DL
abbrev P := Rat × List Nat
/-- p behind all that are not less -/
def insP (p : P) (l : List P) : List P := l.take (l.filter fun o => !decide (o.1 < p.1)).length ++ [p] ++ l.drop (l.filter fun o => !decide (o.1 < p.1)).length
def rkFrom (l : List P) (ps : List P) : List P := ps.foldl (fun l p => insP p l) l
def rk (ps : List P) : List P := rkFrom [] ps
/-- before: a greater share, or an earlier course -/
def Bf (a b : P) : Prop := b.1 < a.1 ∨ (a.1 = b.1 ∧ a.2 < b.2)
theorem Bf.irr (a : P) : ¬ Bf a a := fun h => by
  rcases h with h | h
  · exact Rat.lt_irrefl h
  · exact List.lt_irrefl _ h.2
theorem Bf.trans {a b c : P} (h : Bf a b) (k : Bf b c) : Bf a c := by
  rcases h with h | ⟨h, h'⟩
  · rcases k with k | ⟨k, _⟩
    · exact .inl (by grind)
    · exact .inl (by rw [← k]; exact h)
  · rcases k with k | ⟨k, k'⟩
    · exact .inl (by rw [h]; exact k)
    · exact .inr ⟨h.trans k, List.lt_trans h' k'⟩
theorem Bf.asymm {a b : P} (h : Bf a b) (k : Bf b a) : a = b := (Bf.irr a (h.trans k)).elim
theorem insP_perm (p : P) (l : List P) : (insP p l).Perm (p :: l) := by
  unfold insP
  generalize (l.filter fun o => !decide (o.1 < p.1)).length = k
  have h := List.take_append_drop k l
  have : (l.take k ++ [p] ++ l.drop k).Perm (p :: (l.take k ++ l.drop k)) := by
    rw [List.append_assoc]
    exact List.perm_middle
  rw [h] at this
  exact this
theorem rkFrom_perm (ps : List P) : ∀ l, (rkFrom l ps).Perm (l ++ ps) := by
  induction ps with
  | nil => intro l; rw [List.append_nil]; exact .refl _
  | cons p ps ih =>
    intro l
    exact (ih (insP p l)).trans (((insP_perm p l).append_right ps).trans (by
      show (p :: l ++ ps).Perm (l ++ p :: ps)
      exact (List.perm_middle (a := p) (l₁ := l) (l₂ := ps)).symm))
theorem rk_perm (ps : List P) : (rk ps).Perm ps := rkFrom_perm ps []
/-- where the shares fall, the place parts the greater from the less -/
theorem parts {p : P} : ∀ {l : List P}, l.Pairwise (fun a b => b.1 ≤ a.1) → (∀ a ∈ l.take (l.filter fun o => !decide (o.1 < p.1)).length, p.1 ≤ a.1) ∧ ∀ b ∈ l.drop (l.filter fun o => !decide (o.1 < p.1)).length, b.1 < p.1
  | [], _ => by simp
  | x :: l, h => by
    have h' := List.pairwise_cons.mp h
    obtain ⟨i1, i2⟩ := parts h'.2
    by_cases hx : x.1 < p.1
    · have hall : ∀ y ∈ l, y.1 < p.1 := fun y hy => by
        have := h'.1 y hy
        grind
      have e : ((x :: l).filter fun o => !decide (o.1 < p.1)) = [] := by
        rw [List.filter_eq_nil_iff]
        intro y hy
        rcases List.mem_cons.mp hy with e | hy
        · rw [e]; simp [hx]
        · simp [hall y hy]
      rw [e]
      refine ⟨by simp, fun b hb => ?_⟩
      rcases List.mem_cons.mp (show b ∈ x :: l from hb) with e | hb
      · rw [e]; exact hx
      · exact hall b hb
    · rw [List.filter_cons_of_pos (by simp [hx])]
      refine ⟨fun a ha => ?_, fun b hb => i2 b hb⟩
      rcases List.mem_cons.mp (show a ∈ x :: l.take _ from ha) with e | ha
      · rw [e]; grind
      · exact i1 a ha
theorem Bf.ge {a b : P} (h : Bf a b) : b.1 ≤ a.1 := by
  rcases h with h | ⟨h, _⟩ <;> grind
theorem insP_sorted {p : P} {l : List P} (h : l.Pairwise Bf) (hp : ∀ a ∈ l, a.1 = p.1 → a.2 < p.2) : (insP p l).Pairwise Bf := by
  obtain ⟨h1, h2⟩ := parts (p := p) (h.imp fun h => h.ge)
  have hs : (l.take (l.filter fun o => !decide (o.1 < p.1)).length ++ l.drop (l.filter fun o => !decide (o.1 < p.1)).length).Pairwise Bf := by
    rw [List.take_append_drop]
    exact h
  unfold insP
  generalize (l.filter fun o => !decide (o.1 < p.1)).length = k at h1 h2 hs
  obtain ⟨s1, s2, s3⟩ := List.pairwise_append.mp hs
  have hb : ∀ a ∈ l.take k, Bf a p := fun a ha => by
    have := h1 a ha
    by_cases e : a.1 = p.1
    · exact .inr ⟨e, hp a (List.mem_of_mem_take ha) e⟩
    · exact .inl (by grind)
  rw [List.append_assoc]
  refine List.pairwise_append.mpr ⟨s1, List.pairwise_cons.mpr ⟨fun b hb => .inl (h2 b hb), s2⟩, fun a ha b hb' => ?_⟩
  rcases List.mem_cons.mp hb' with e | hb'
  · rw [e]; exact hb a ha
  · exact s3 a ha b hb'
/-- those of equal shares come by their courses -/
def Asc (l : List P) : Prop := l.Pairwise fun a b => a.1 = b.1 → a.2 < b.2
theorem rkFrom_sorted : ∀ {ps l : List P}, l.Pairwise Bf → Asc ps → (∀ a ∈ l, ∀ b ∈ ps, a.1 = b.1 → a.2 < b.2) → (rkFrom l ps).Pairwise Bf
  | [], l, h, _, _ => h
  | p :: ps, l, h, ha, hl => by
    have ha' := List.pairwise_cons.mp ha
    show (rkFrom (insP p l) ps).Pairwise Bf
    refine rkFrom_sorted (l := insP p l) (insP_sorted h fun a m e => hl a m p (by simp) e) ha'.2 fun a m b hb e => ?_
    rcases List.mem_cons.mp ((insP_perm p l).mem_iff.mp m) with e1 | m
    · rw [e1] at e ⊢
      exact ha'.1 b hb e
    · exact hl a m b (by simp [hb]) e
theorem rk_sorted {ps : List P} (h : Asc ps) : (rk ps).Pairwise Bf := rkFrom_sorted .nil h fun _ m => by cases m
theorem sorted_eq {l l' : List P} (h : l.Pairwise Bf) (h' : l'.Pairwise Bf) (p : l.Perm l') : l = l' := List.Perm.eq_of_pairwise (fun _ _ _ _ h k => h.asymm k) h h' p
theorem Asc.of_sorted {l : List P} (h : l.Pairwise Bf) : Asc l := h.imp fun {a b} h e => by
  rcases h with h | h
  · rw [e] at h
    exact (Rat.lt_irrefl h).elim
  · exact h.2
theorem sorted_nodup {l : List P} (h : l.Pairwise Bf) : l.Nodup := h.imp fun {a b} h e => by
  subst e
  exact Bf.irr a h
/-- a map that keeps what is less -/
theorem rk_map {f : P → P} : ∀ {ps : List P}, (∀ a ∈ ps, ∀ b ∈ ps, ((f a).1 < (f b).1 ↔ a.1 < b.1)) → rk (ps.map f) = (rk ps).map f := by
  have ins : ∀ {p : P} {l : List P}, (∀ a ∈ l, ((f a).1 < (f p).1 ↔ a.1 < p.1)) → insP (f p) (l.map f) = (insP p l).map f := fun {p l} h => by
    have e : ((l.map f).filter fun o => !decide (o.1 < (f p).1)).length = (l.filter fun o => !decide (o.1 < p.1)).length := by
      rw [List.filter_map, List.length_map]
      congr 1
      refine List.filter_congr fun a ha => ?_
      show (!decide ((f a).1 < (f p).1)) = _
      rw [Bool.eq_iff_iff]
      simp [h a ha]
    unfold insP
    rw [e, List.map_append, List.map_append, List.map_take, List.map_drop]
    rfl
  have gen : ∀ (ps l : List P), (∀ a ∈ l ++ ps, ∀ b ∈ l ++ ps, ((f a).1 < (f b).1 ↔ a.1 < b.1)) → rkFrom (l.map f) (ps.map f) = (rkFrom l ps).map f := by
    intro ps
    induction ps with
    | nil => exact fun _ _ => rfl
    | cons p ps ih =>
      intro l h
      show rkFrom (insP (f p) (l.map f)) (ps.map f) = (rkFrom (insP p l) ps).map f
      rw [ins fun a ha => h a (by simp [ha]) p (by simp)]
      refine ih _ fun a ha b hb => h a ?_ b ?_
      · rcases List.mem_append.mp ha with m | m
        · rcases List.mem_cons.mp ((insP_perm p l).mem_iff.mp m) with e | m
          · simp [e]
          · simp [m]
        · simp [m]
      · rcases List.mem_append.mp hb with m | m
        · rcases List.mem_cons.mp ((insP_perm p l).mem_iff.mp m) with e | m
          · simp [e]
          · simp [m]
        · simp [m]
  intro ps h
  exact gen ps [] (by simpa using h)
theorem take_filter {A : Type} {p : A → Bool} : ∀ {m : Nat} {s : List A}, (∀ x ∈ s.take m, p x = true) → (s.filter p).take m = s.take m
  | 0, s, _ => by simp
  | m + 1, [], _ => rfl
  | m + 1, x :: s, h => by
    rw [List.filter_cons_of_pos (h x (by simp)), List.take_succ_cons, List.take_succ_cons, take_filter fun y hy => h y (by simp [hy])]
theorem take_le {A : Type} {l : List A} {x : A} {m k : Nat} (h : m ≤ k) (hx : x ∈ l.take m) : x ∈ l.take k := by
  have e : l.take m = (l.take k).take m := by rw [List.take_take]; congr 1; omega
  rw [e] at hx
  exact List.mem_of_mem_take hx
theorem mem_take_filter {A : Type} {p : A → Bool} {x : A} : ∀ {m : Nat} {s : List A}, x ∈ s.take m → p x = true → x ∈ (s.filter p).take m
  | 0, s, h, _ => by simp at h
  | m + 1, [], h, _ => by simp at h
  | m + 1, y :: s, h, hp => by
    rw [List.take_succ_cons] at h
    rcases List.mem_cons.mp h with e | h
    · subst e
      rw [List.filter_cons_of_pos hp, List.take_succ_cons]
      simp
    · by_cases hy : p y = true
      · rw [List.filter_cons_of_pos hy, List.take_succ_cons]
        exact List.mem_cons_of_mem _ (mem_take_filter h hp)
      · rw [List.filter_cons_of_neg hy]
        exact take_le (by omega) (mem_take_filter h hp)
/-- one beside the other -/
inductive All2 {A B : Type} (R : A → B → Prop) : List A → List B → Prop
  | nil : All2 R [] []
  | cons {a : A} {b : B} {l : List A} {m : List B} : R a b → All2 R l m → All2 R (a :: l) (b :: m)
/-- the first m, from the first m (or more) of each part -/
theorem rk_parts {m : Nat} {Ls Ts : List (List P)} (hL : (Ls.flatten).Pairwise fun a b => a.2 < b.2) (hT : All2 (fun L T => ∃ k, m ≤ k ∧ T = (rk L).take k) Ls Ts) : (rk Ts.flatten).take m = (rk Ls.flatten).take m := by
  classical
  have hAsc : ∀ {l : List P}, (l.Pairwise fun a b => a.2 < b.2) → Asc l := fun {l} h => by
    unfold Asc
    refine List.Pairwise.imp ?_ h
    intro a b h _
    exact h
  have sub : ∀ {Ls Ts : List (List P)}, All2 (fun L T => ∃ k, m ≤ k ∧ T = (rk L).take k) Ls Ts → ∀ x ∈ Ts.flatten, x ∈ Ls.flatten := by
    intro Ls Ts h
    induction h with
    | nil => exact fun _ h => h
    | cons h _ ih =>
      obtain ⟨k, _, rfl⟩ := h
      intro x hx
      rw [List.flatten_cons, List.mem_append] at hx ⊢
      rcases hx with hx | hx
      · exact .inl ((rk_perm _).mem_iff.mp (List.mem_of_mem_take hx))
      · exact .inr (ih x hx)
  have asc : ∀ {Ls Ts : List (List P)}, (Ls.flatten).Pairwise (fun a b => a.2 < b.2) → All2 (fun L T => ∃ k, m ≤ k ∧ T = (rk L).take k) Ls Ts → Asc Ts.flatten := by
    intro Ls Ts hl h
    induction h with
    | nil => exact .nil
    | cons h hr ih =>
      obtain ⟨k, _, rfl⟩ := h
      rw [List.flatten_cons] at hl ⊢
      obtain ⟨l1, l2, l3⟩ := List.pairwise_append.mp hl
      refine List.pairwise_append.mpr ⟨(Asc.of_sorted (rk_sorted (hAsc l1))).sublist (List.take_sublist _ _), ih l2, fun a ha b hb _ => ?_⟩
      exact l3 a ((rk_perm _).mem_iff.mp (List.mem_of_mem_take ha)) b (sub hr b hb)
  have s := rk_sorted (hAsc hL)
  have t := rk_sorted (asc hL hT)
  have key : ∀ x ∈ (rk Ls.flatten).take m, x ∈ Ts.flatten := by
    have gen : ∀ {Ks Us : List (List P)}, (Ks.flatten).Pairwise (fun a b => a.2 < b.2) → (∀ K ∈ Ks, ∀ x ∈ K, x ∈ Ls.flatten) → All2 (fun L T => ∃ k, m ≤ k ∧ T = (rk L).take k) Ks Us → ∀ x ∈ (rk Ls.flatten).take m, x ∈ Ks.flatten → x ∈ Us.flatten := by
      intro Ks Us hk hs h
      induction h with
      | nil => exact fun _ _ h => h
      | @cons K T Ks Us h hr ih =>
        obtain ⟨k, hk', rfl⟩ := h
        rw [List.flatten_cons] at hk
        obtain ⟨l1, l2, l3⟩ := List.pairwise_append.mp hk
        intro x hx hm
        rw [List.flatten_cons, List.mem_append] at hm ⊢
        rcases hm with hm | hm
        · left
          have e : (rk Ls.flatten).filter (fun y => decide (y ∈ K)) = rk K := by
            refine sorted_eq (s.sublist List.filter_sublist) (rk_sorted (hAsc l1)) ?_
            refine List.Perm.trans ?_ (rk_perm K).symm
            refine (List.perm_ext_iff_of_nodup ((sorted_nodup s).sublist List.filter_sublist) (l1.imp fun {a b} h e => by subst e; exact List.lt_irrefl _ h)).mpr fun y => ?_
            · rw [List.mem_filter, (rk_perm _).mem_iff]
              simp only [decide_eq_true_eq]
              exact ⟨fun h => h.2, fun h => ⟨hs K (by simp) y h, h⟩⟩
          have := mem_take_filter (p := fun y => decide (y ∈ K)) hx (by simpa using hm)
          rw [e] at this
          have h2 : (rk K).take m = ((rk K).take k).take m := by rw [List.take_take]; congr 1; omega
          rw [h2] at this
          exact List.mem_of_mem_take this
        · exact .inr (ih l2 (fun K' hK' => hs K' (by simp [hK'])) x hx hm)
    intro x hx
    exact gen hL (fun K hK y hy => List.mem_flatten.mpr ⟨K, hK, hy⟩) hT x hx ((rk_perm _).mem_iff.mp (List.mem_of_mem_take hx))
  have e : (rk Ls.flatten).filter (fun y => decide (y ∈ Ts.flatten)) = rk Ts.flatten := by
    refine sorted_eq (s.sublist List.filter_sublist) t ?_
    refine (List.perm_ext_iff_of_nodup ((sorted_nodup s).sublist List.filter_sublist) (sorted_nodup t)).mpr fun y => ?_
    rw [List.mem_filter, (rk_perm _).mem_iff, (rk_perm _).mem_iff]
    simp only [decide_eq_true_eq]
    exact ⟨fun h => h.2, fun h => ⟨sub hT y h, h⟩⟩
  rw [← e]
  exact take_filter fun x hx => by simpa using key x hx
end DL

set_option Elab.async false
set_option linter.all false
set_option maxRecDepth 100000
set_option maxHeartbeats 4000000
namespace DLk71
open PySem PySem.Spec PyProof.Rows L2 DL
def top (i : Nat) : Stmt := PySem.Challenge.pw_allworlds_k71_whole_best_courses.main.body.getD i (.Pass ⟨0, 0, 0, 0⟩)
def meth (i j : Nat) : Stmt := match top i with
  | .ClassDef _ _ _ b _ _ _ _ _ _ _ => b.getD j (.Pass ⟨0, 0, 0, 0⟩)
  | s => s
def clsF : List (Nat × List Str) := [(0, [("start" : Str), ("steps" : Str), ("shows" : Str)])]
def csF : List (Str × D) := [(("ZERO" : Str), (.tup [.int 0, .int 1])), (("ONE" : Str), (.tup [.int 1, .int 1])), (("MOST_COURSES" : Str), (.int 1000))]
def blF : List Str := [("len" : Str), ("abs" : Str), ("int" : Str), ("sum" : Str), ("all" : Str), ("max" : Str), ("tuple" : Str), ("list" : Str), ("isinstance" : Str), ("repr" : Str), ("range" : Str), ("enumerate" : Str), ("sorted" : Str), ("bool" : Str)]
def xcF : XC := ⟨[(("InvalidNumber" : Str), [(1, true)]), (("NetError" : Str), [(1, true)])], [(1, ("word" : Str))]⟩
def cc (fs : List (Str × Fn)) (ks : List (Str × Kl)) : CC := ⟨[], ⟨.function, [], false, false, []⟩, [], [], fs, ks, csF, blF, clsF⟩
/-! is_integer -/
abbrev st_is_integer : Stmt := top 5
def N_is_integer : List Str := ["value"]
noncomputable def b_is_integer : SS := (sSeq (sRet (eAnd (eCall fIsi (aCons (eVar 0) (aCons (eC (.ty "int")) aNil))) (e1 fNot (eCall fIsi (aCons (eVar 0) (aCons (eC (.ty "bool")) aNil))))))
  sNil)
noncomputable def F_is_integer : List D → M D := fnD 1 1 true b_is_integer
def rz_is_integer : List (Str × Nat) := []
theorem c_is_integer : cSs (cSt (rcN 30) { cc [] [] with N := N_is_integer, sc := defScope st_is_integer, fnc := cellsOf (defScope st_is_integer), mu := [] } rz_is_integer 30) (defBody st_is_integer) = some b_is_integer := by kernel_rfl
noncomputable def t_is_integer : List (Str × Fn) := (("is_integer" : Str), ⟨F_is_integer, [("value" : Str)], []⟩) :: []
/-! is_number -/
abbrev st_is_number : Stmt := top 6
def N_is_number : List Str := ["value"]
noncomputable def b_is_number : SS := (sSeq (sRet (eAnd (cCall F_is_integer (aCons (eVar 0) aNil)) (e2 fGe (eVar 0) (eC (.int 0)))))
  sNil)
noncomputable def F_is_number : List D → M D := fnD 1 1 true b_is_number
def rz_is_number : List (Str × Nat) := []
theorem c_is_number : cSs (cSt (rcN 30) { cc t_is_integer [] with N := N_is_number, sc := defScope st_is_number, fnc := cellsOf (defScope st_is_number), mu := [] } rz_is_number 30) (defBody st_is_number) = some b_is_number := by kernel_rfl
noncomputable def t_is_number : List (Str × Fn) := (("is_number" : Str), ⟨F_is_number, [("value" : Str)], []⟩) :: t_is_integer
/-! shared_divisor -/
abbrev st_shared_divisor : Stmt := top 10
def N_shared_divisor : List Str := ["one", "other"]
noncomputable def b_shared_divisor : SS := (sSeq (sPar [0, 1] (aCons (eCall fAbs (aCons (eVar 0) aNil)) (aCons (eCall fAbs (aCons (eVar 1) aNil)) aNil)))
  (sSeq (sWhile (bOf (e2 fGt (eVar 1) (eC (.int 0))))
  (sSeq (sPar [0, 1] (aCons (eVar 1) (aCons (e2 fMod (eVar 0) (eVar 1)) aNil)))
  sNil))
  (sSeq (sRet (eVar 0))
  sNil)))
noncomputable def F_shared_divisor : List D → M D := fnD 2 2 true b_shared_divisor
def rz_shared_divisor : List (Str × Nat) := []
theorem c_shared_divisor : cSs (cSt (rcN 30) { cc t_is_number [] with N := N_shared_divisor, sc := defScope st_shared_divisor, fnc := cellsOf (defScope st_shared_divisor), mu := [] } rz_shared_divisor 30) (defBody st_shared_divisor) = some b_shared_divisor := by kernel_rfl
noncomputable def t_shared_divisor : List (Str × Fn) := (("shared_divisor" : Str), ⟨F_shared_divisor, [("one" : Str), ("other" : Str)], []⟩) :: t_is_number
/-! common_bottom -/
abbrev st_common_bottom : Stmt := top 11
def N_common_bottom : List Str := ["fractions", "found", "top", "bottom"]
noncomputable def b_common_bottom : SS := (sSeq (sAsg (eC (.int 1)) (gVar 1))
  (sSeq (sFor (gSeq (eVar 0)) (gTup 2 (gsCons (gVar 2) (gsCons (gVar 3) gsNil)))
  (sSeq (sAsg (e2 (fMul false) (e2 fDiv (eVar 1) (cCall F_shared_divisor (aCons (eVar 1) (aCons (eVar 3) aNil)))) (eVar 3)) (gVar 1))
  sNil))
  (sSeq (sRet (eVar 1))
  sNil)))
noncomputable def F_common_bottom : List D → M D := fnD 1 4 true b_common_bottom
def rz_common_bottom : List (Str × Nat) := []
theorem c_common_bottom : cSs (cSt (rcN 30) { cc t_shared_divisor [] with N := N_common_bottom, sc := defScope st_common_bottom, fnc := cellsOf (defScope st_common_bottom), mu := [] } rz_common_bottom 30) (defBody st_common_bottom) = some b_common_bottom := by kernel_rfl
noncomputable def t_common_bottom : List (Str × Fn) := (("common_bottom" : Str), ⟨F_common_bottom, [("fractions" : Str)], []⟩) :: t_shared_divisor
/-! fraction_of -/
abbrev st_fraction_of : Stmt := top 12
def N_fraction_of : List Str := ["top", "bottom", "factor"]
noncomputable def b_fraction_of : SS := (sSeq (sIf (bOf (e2 fEq (eVar 1) (eC (.int 0))))
  (sSeq (fun _ _ => RS.bad)
  sNil)
  sNil)
  (sSeq (sAsg (cCall F_shared_divisor (aCons (eVar 0) (aCons (eVar 1) aNil))) (gVar 2))
  (sSeq (sIf (bOf (e2 fLt (eVar 1) (eC (.int 0))))
  (sSeq (sAsg (e1 fNeg (eVar 2)) (gVar 2))
  sNil)
  sNil)
  (sSeq (sRet (eTup (aCons (e2 fDiv (eVar 0) (eVar 2)) (aCons (e2 fDiv (eVar 1) (eVar 2)) aNil))))
  sNil))))
noncomputable def F_fraction_of : List D → M D := fnD 2 3 true b_fraction_of
def rz_fraction_of : List (Str × Nat) := []
theorem c_fraction_of : cSs (cSt (rcN 30) { cc t_common_bottom [] with N := N_fraction_of, sc := defScope st_fraction_of, fnc := cellsOf (defScope st_fraction_of), mu := [] } rz_fraction_of 30) (defBody st_fraction_of) = some b_fraction_of := by kernel_rfl
noncomputable def t_fraction_of : List (Str × Fn) := (("fraction_of" : Str), ⟨F_fraction_of, [("top" : Str), ("bottom" : Str)], []⟩) :: t_common_bottom
/-! is_fraction -/
abbrev st_is_fraction : Stmt := top 13
def N_is_fraction : List Str := ["value", "item"]
noncomputable def b_is_fraction : SS := (sSeq (sIf (bOr (bNot (bOf (eCall fIsi (aCons (eVar 0) (aCons (eC (.ty "tuple")) aNil))))) (bOr (bOf (e2 fNe (eCall fLen (aCons (eVar 0) aNil)) (eC (.int 2)))) (bNot (bOf (eCall fAll (aCons (eLc false (gSeq (eVar 0)) (gVar 1) cYes (cCall F_is_integer (aCons (eVar 1) aNil)) [1]) aNil))))))
  (sSeq (sRet (eC (.bl false)))
  sNil)
  sNil)
  (sSeq (sRet (eAnd (e2 fGt (e2 fIx (eVar 0) (eC (.int 1))) (eC (.int 0))) (e2 fEq (cCall F_shared_divisor (aCons (e2 fIx (eVar 0) (eC (.int 0))) (aCons (e2 fIx (eVar 0) (eC (.int 1))) aNil))) (eC (.int 1)))))
  sNil))
noncomputable def F_is_fraction : List D → M D := fnD 1 2 true b_is_fraction
def rz_is_fraction : List (Str × Nat) := []
theorem c_is_fraction : cSs (cSt (rcN 30) { cc t_fraction_of [] with N := N_is_fraction, sc := defScope st_is_fraction, fnc := cellsOf (defScope st_is_fraction), mu := [] } rz_is_fraction 30) (defBody st_is_fraction) = some b_is_fraction := by kernel_rfl
noncomputable def t_is_fraction : List (Str × Fn) := (("is_fraction" : Str), ⟨F_is_fraction, [("value" : Str)], []⟩) :: t_fraction_of
/-! timed -/
abbrev st_timed : Stmt := top 14
def N_timed : List Str := ["one", "other"]
noncomputable def b_timed : SS := (sSeq (sRet (cCall F_fraction_of (aCons (e2 (fMul false) (e2 fIx (eVar 0) (eC (.int 0))) (e2 fIx (eVar 1) (eC (.int 0)))) (aCons (e2 (fMul false) (e2 fIx (eVar 0) (eC (.int 1))) (e2 fIx (eVar 1) (eC (.int 1)))) aNil))))
  sNil)
noncomputable def F_timed : List D → M D := fnD 2 2 true b_timed
def rz_timed : List (Str × Nat) := []
theorem c_timed : cSs (cSt (rcN 30) { cc t_is_fraction [] with N := N_timed, sc := defScope st_timed, fnc := cellsOf (defScope st_timed), mu := [] } rz_timed 30) (defBody st_timed) = some b_timed := by kernel_rfl
noncomputable def t_timed : List (Str × Fn) := (("timed" : Str), ⟨F_timed, [("one" : Str), ("other" : Str)], []⟩) :: t_is_fraction
/-! is_less -/
abbrev st_is_less : Stmt := top 15
def N_is_less : List Str := ["one", "other"]
noncomputable def b_is_less : SS := (sSeq (sRet (e2 fLt (e2 (fMul false) (e2 fIx (eVar 0) (eC (.int 0))) (e2 fIx (eVar 1) (eC (.int 1)))) (e2 (fMul false) (e2 fIx (eVar 1) (eC (.int 0))) (e2 fIx (eVar 0) (eC (.int 1))))))
  sNil)
noncomputable def F_is_less : List D → M D := fnD 2 2 true b_is_less
def rz_is_less : List (Str × Nat) := []
theorem c_is_less : cSs (cSt (rcN 30) { cc t_timed [] with N := N_is_less, sc := defScope st_is_less, fnc := cellsOf (defScope st_is_less), mu := [] } rz_is_less 30) (defBody st_is_less) = some b_is_less := by kernel_rfl
noncomputable def t_is_less : List (Str × Fn) := (("is_less" : Str), ⟨F_is_less, [("one" : Str), ("other" : Str)], []⟩) :: t_timed
/-! total_of_all -/
abbrev st_total_of_all : Stmt := top 16
def N_total_of_all : List Str := ["fractions", "bottom", "top", "own"]
noncomputable def b_total_of_all : SS := (sSeq (sAsg (cCall F_common_bottom (aCons (eVar 0) aNil)) (gVar 1))
  (sSeq (sRet (cCall F_fraction_of (aCons (eCall fSum (aCons (eLc false (gSeq (eVar 0)) (gTup 2 (gsCons (gVar 2) (gsCons (gVar 3) gsNil))) cYes (e2 (fMul false) (eVar 2) (e2 fDiv (eVar 1) (eVar 3))) [2, 3]) aNil)) (aCons (eVar 1) aNil))))
  sNil))
noncomputable def F_total_of_all : List D → M D := fnD 1 4 true b_total_of_all
def rz_total_of_all : List (Str × Nat) := []
theorem c_total_of_all : cSs (cSt (rcN 30) { cc t_is_less [] with N := N_total_of_all, sc := defScope st_total_of_all, fnc := cellsOf (defScope st_total_of_all), mu := [] } rz_total_of_all 30) (defBody st_total_of_all) = some b_total_of_all := by kernel_rfl
noncomputable def t_total_of_all : List (Str × Fn) := (("total_of_all" : Str), ⟨F_total_of_all, [("fractions" : Str)], []⟩) :: t_is_less
/-! are_weights -/
abbrev st_are_weights : Stmt := top 18
def N_are_weights : List Str := ["value", "count", "item"]
noncomputable def b_are_weights : SS := (sSeq (sIf (bOr (bNot (bOf (eCall fIsi (aCons (eVar 0) (aCons (eC (.ty "tuple")) aNil))))) (bOf (e2 fNe (eCall fLen (aCons (eVar 0) aNil)) (eVar 1))))
  (sSeq (sRet (eC (.bl false)))
  sNil)
  sNil)
  (sSeq (sRet (eCall fAll (aCons (eLc false (gSeq (eVar 0)) (gVar 2) cYes (eAnd (cCall F_is_fraction (aCons (eVar 2) aNil)) (e2 fGe (e2 fIx (eVar 2) (eC (.int 0))) (eC (.int 0)))) [2]) aNil)))
  sNil))
noncomputable def F_are_weights : List D → M D := fnD 2 3 true b_are_weights
def rz_are_weights : List (Str × Nat) := []
theorem c_are_weights : cSs (cSt (rcN 30) { cc t_total_of_all [] with N := N_are_weights, sc := defScope st_are_weights, fnc := cellsOf (defScope st_are_weights), mu := [] } rz_are_weights 30) (defBody st_are_weights) = some b_are_weights := by kernel_rfl
noncomputable def t_are_weights : List (Str × Fn) := (("are_weights" : Str), ⟨F_are_weights, [("value" : Str), ("count" : Str)], []⟩) :: t_total_of_all
/-! is_row -/
abbrev st_is_row : Stmt := top 19
def N_is_row : List Str := ["value", "count"]
noncomputable def b_is_row : SS := (sSeq (sRet (eAnd (cCall F_are_weights (aCons (eVar 0) (aCons (eVar 1) aNil))) (e2 fEq (cCall F_total_of_all (aCons (eVar 0) aNil)) (eC (.tup [.int 1, .int 1])))))
  sNil)
noncomputable def F_is_row : List D → M D := fnD 2 2 true b_is_row
def rz_is_row : List (Str × Nat) := []
theorem c_is_row : cSs (cSt (rcN 30) { cc t_are_weights [] with N := N_is_row, sc := defScope st_is_row, fnc := cellsOf (defScope st_is_row), mu := [] } rz_is_row 30) (defBody st_is_row) = some b_is_row := by kernel_rfl
noncomputable def t_is_row : List (Str × Fn) := (("is_row" : Str), ⟨F_is_row, [("value" : Str), ("count" : Str)], []⟩) :: t_are_weights
/-! are_rows -/
abbrev st_are_rows : Stmt := top 21
def N_are_rows : List Str := ["value", "many", "count", "row"]
noncomputable def b_are_rows : SS := (sSeq (sRet (eAnd (eCall fIsi (aCons (eVar 0) (aCons (eC (.ty "tuple")) aNil))) (eAnd (e2 fEq (eCall fLen (aCons (eVar 0) aNil)) (eVar 1)) (eCall fAll (aCons (eLc false (gSeq (eVar 0)) (gVar 3) cYes (cCall F_is_row (aCons (eVar 3) (aCons (eVar 2) aNil))) [3]) aNil)))))
  sNil)
noncomputable def F_are_rows : List D → M D := fnD 3 4 true b_are_rows
def rz_are_rows : List (Str × Nat) := []
theorem c_are_rows : cSs (cSt (rcN 30) { cc t_is_row [] with N := N_are_rows, sc := defScope st_are_rows, fnc := cellsOf (defScope st_are_rows), mu := [] } rz_are_rows 30) (defBody st_are_rows) = some b_are_rows := by kernel_rfl
noncomputable def t_are_rows : List (Str × Fn) := (("are_rows" : Str), ⟨F_are_rows, [("value" : Str), ("many" : Str), ("count" : Str)], []⟩) :: t_is_row
/-! Chain_init -/
abbrev st_Chain_init : Stmt := meth 22 0
def N_Chain_init : List Str := ["self", "start", "steps", "shows"]
noncomputable def b_Chain_init : SS := (sSeq (sIf (bOr (bNot (bOf (eCall fIsi (aCons (eVar 1) (aCons (eC (.ty "tuple")) aNil))))) (bOr (bOf (e2 fLt (eCall fLen (aCons (eVar 1) aNil)) (eC (.int 2)))) (bNot (bOf (cCall F_is_row (aCons (eVar 1) (aCons (eCall fLen (aCons (eVar 1) aNil)) aNil)))))))
  (sSeq (fun _ _ => RS.bad)
  sNil)
  sNil)
  (sSeq (sIf (bNot (bOf (cCall F_are_rows (aCons (eVar 2) (aCons (eCall fLen (aCons (eVar 1) aNil)) (aCons (eCall fLen (aCons (eVar 1) aNil)) aNil))))))
  (sSeq (fun _ _ => RS.bad)
  sNil)
  sNil)
  (sSeq (sIf (bOr (bNot (bOf (eCall fIsi (aCons (eVar 3) (aCons (eC (.ty "tuple")) aNil))))) (bOr (bOf (e2 fEq (eVar 3) (eTup aNil))) (bOr (bNot (bOf (eCall fIsi (aCons (e2 fIx (eVar 3) (eC (.int 0))) (aCons (eC (.ty "tuple")) aNil))))) (bOf (e2 fLt (eCall fLen (aCons (e2 fIx (eVar 3) (eC (.int 0))) aNil)) (eC (.int 2)))))))
  (sSeq (fun _ _ => RS.bad)
  sNil)
  sNil)
  (sSeq (sIf (bNot (bOf (cCall F_are_rows (aCons (eVar 3) (aCons (eCall fLen (aCons (eVar 1) aNil)) (aCons (eCall fLen (aCons (e2 fIx (eVar 3) (eC (.int 0))) aNil)) aNil))))))
  (sSeq (fun _ _ => RS.bad)
  sNil)
  sNil)
  (sSeq (sFldSet clsF ("start" : Str) (eVar 0) (eVar 1))
  (sSeq (sFldSet clsF ("steps" : Str) (eVar 0) (eVar 2))
  (sSeq (sFldSet clsF ("shows" : Str) (eVar 0) (eVar 3))
  sNil)))))))
noncomputable def F_Chain_init : List D → M D := fnD 4 4 false b_Chain_init
def rz_Chain_init : List (Str × Nat) := []
theorem c_Chain_init : cSs (cSt (rcN 30) { cc t_are_rows [] with N := N_Chain_init, sc := defScope st_Chain_init, fnc := cellsOf (defScope st_Chain_init), mu := [] } rz_Chain_init 30) (defBody st_Chain_init) = some b_Chain_init := by kernel_rfl
noncomputable def k_Chain : List (Str × Kl) := (("Chain" : Str), ⟨0, true, F_Chain_init, [("self" : Str), ("start" : Str), ("steps" : Str), ("shows" : Str)]⟩) :: []
/-! cases_in -/
abbrev st_cases_in : Stmt := top 23
def N_cases_in : List Str := ["chain"]
noncomputable def b_cases_in : SS := (sSeq (sRet (eTupRg (r1 (eCall fLen (aCons (e1 (fFld clsF ("start" : Str)) (eVar 0)) aNil)))))
  sNil)
noncomputable def F_cases_in : List D → M D := fnD 1 1 true b_cases_in
def rz_cases_in : List (Str × Nat) := []
theorem c_cases_in : cSs (cSt (rcN 30) { cc t_are_rows k_Chain with N := N_cases_in, sc := defScope st_cases_in, fnc := cellsOf (defScope st_cases_in), mu := [] } rz_cases_in 30) (defBody st_cases_in) = some b_cases_in := by kernel_rfl
noncomputable def t_cases_in : List (Str × Fn) := (("cases_in" : Str), ⟨F_cases_in, [("chain" : Str)], []⟩) :: t_are_rows
/-! show_at -/
abbrev st_show_at : Stmt := top 24
def N_show_at : List Str := ["chain", "case", "sign"]
noncomputable def b_show_at : SS := (sSeq (sRet (eIf (bOf (e2 fIsN (eVar 2) (eC .non))) (eC (.tup [.int 1, .int 1])) (e2 fIx (e2 fIx (e1 (fFld clsF ("shows" : Str)) (eVar 0)) (eVar 1)) (eVar 2))))
  sNil)
noncomputable def F_show_at : List D → M D := fnD 3 3 true b_show_at
def rz_show_at : List (Str × Nat) := []
theorem c_show_at : cSs (cSt (rcN 30) { cc t_cases_in k_Chain with N := N_show_at, sc := defScope st_show_at, fnc := cellsOf (defScope st_show_at), mu := [] } rz_show_at 30) (defBody st_show_at) = some b_show_at := by kernel_rfl
noncomputable def t_show_at : List (Str × Fn) := (("show_at" : Str), ⟨F_show_at, [("chain" : Str), ("case" : Str), ("sign" : Str)], []⟩) :: t_cases_in
/-! ranked_pairs -/
abbrev st_ranked_pairs : Stmt := top 26
def N_ranked_pairs : List Str := ["pairs", "found", "pair", "at", "other"]
noncomputable def b_ranked_pairs : SS := (sSeq (sAsg (eLst true aNil) (gVar 1))
  (sSeq (sFor (gSeq (eVar 0)) (gVar 2)
  (sSeq (sAsg (eCall fLen (aCons (eLc false (gSeq (eVar 1)) (gVar 4) (bNot (bOf (cCall F_is_less (aCons (e2 fIx (eVar 4) (eC (.int 0))) (aCons (e2 fIx (eVar 2) (eC (.int 0))) aNil))))) (eVar 4) [4]) aNil)) (gVar 3))
  (sSeq (sDrop (eMethL fInsert (eVar 1) (aCons (eVar 3) (aCons (eVar 2) aNil))))
  sNil)))
  (sSeq (sRet (eVar 1))
  sNil)))
noncomputable def F_ranked_pairs : List D → M D := fnD 1 5 true b_ranked_pairs
def rz_ranked_pairs : List (Str × Nat) := []
theorem c_ranked_pairs : cSs (cSt (rcN 30) { cc t_show_at k_Chain with N := N_ranked_pairs, sc := defScope st_ranked_pairs, fnc := cellsOf (defScope st_ranked_pairs), mu := [(80, 12)] } rz_ranked_pairs 30) (defBody st_ranked_pairs) = some b_ranked_pairs := by kernel_rfl
noncomputable def t_ranked_pairs : List (Str × Fn) := (("ranked_pairs" : Str), ⟨F_ranked_pairs, [("pairs" : Str)], []⟩) :: t_show_at
/-! entry_share -/
abbrev st_entry_share : Stmt := top 29
def N_entry_share : List Str := ["chain", "course", "case"]
noncomputable def b_entry_share : SS := (sSeq (sRet (eIf (bOf (e2 fEq (eVar 1) (eTup aNil))) (e2 fIx (e1 (fFld clsF ("start" : Str)) (eVar 0)) (eVar 2)) (e2 fIx (e2 fIx (e1 (fFld clsF ("steps" : Str)) (eVar 0)) (e2 fIx (eVar 1) (e1 fNeg (eC (.int 1))))) (eVar 2))))
  sNil)
noncomputable def F_entry_share : List D → M D := fnD 3 3 true b_entry_share
def rz_entry_share : List (Str × Nat) := []
theorem c_entry_share : cSs (cSt (rcN 30) { cc t_ranked_pairs k_Chain with N := N_entry_share, sc := defScope st_entry_share, fnc := cellsOf (defScope st_entry_share), mu := [] } rz_entry_share 30) (defBody st_entry_share) = some b_entry_share := by kernel_rfl
noncomputable def t_entry_share : List (Str × Fn) := (("entry_share" : Str), ⟨F_entry_share, [("chain" : Str), ("course" : Str), ("case" : Str)], []⟩) :: t_ranked_pairs
/-! course_share -/
abbrev st_course_share : Stmt := top 30
def N_course_share : List Str := ["chain", "seen", "course", "found", "at", "case"]
noncomputable def b_course_share : SS := (sSeq (sAsg (eC (.tup [.int 1, .int 1])) (gVar 3))
  (sSeq (sFor (gEn (aCons (eVar 2) aNil)) (gTup 2 (gsCons (gVar 4) (gsCons (gVar 5) gsNil)))
  (sSeq (sAsg (cCall F_timed (aCons (cCall F_timed (aCons (eVar 3) (aCons (cCall F_entry_share (aCons (eVar 0) (aCons (eSl false (eVar 2) oNone (oSome (eVar 4))) (aCons (eVar 5) aNil)))) aNil))) (aCons (cCall F_show_at (aCons (eVar 0) (aCons (eVar 5) (aCons (e2 fIx (eVar 1) (eVar 4)) aNil)))) aNil))) (gVar 3))
  sNil))
  (sSeq (sRet (eVar 3))
  sNil)))
noncomputable def F_course_share : List D → M D := fnD 3 6 true b_course_share
def rz_course_share : List (Str × Nat) := []
theorem c_course_share : cSs (cSt (rcN 30) { cc t_entry_share k_Chain with N := N_course_share, sc := defScope st_course_share, fnc := cellsOf (defScope st_course_share), mu := [] } rz_course_share 30) (defBody st_course_share) = some b_course_share := by kernel_rfl
noncomputable def t_course_share : List (Str × Fn) := (("course_share" : Str), ⟨F_course_share, [("chain" : Str), ("seen" : Str), ("course" : Str)], [([("course" : Str), ("seen" : Str), ("chain" : Str)], [2, 1, 0])]⟩) :: t_entry_share
/-! need_many -/
abbrev st_need_many : Stmt := top 31
def N_need_many : List Str := ["value"]
noncomputable def b_need_many : SS := (sSeq (sIf (bOr (bNot (bOf (cCall F_is_number (aCons (eVar 0) aNil)))) (bOf (e2 fGt (eVar 0) (eC (.int 1000)))))
  (sSeq (sRz 1 (eC (.str ("many" : Str))))
  sNil)
  sNil)
  sNil)
noncomputable def F_need_many : List D → M D := fnD 1 1 true b_need_many
def rz_need_many : List (Str × Nat) := [(("InvalidNumber" : Str), 1)]
theorem c_need_many : cSs (cSt (rcN 30) { cc t_course_share k_Chain with N := N_need_many, sc := defScope st_need_many, fnc := cellsOf (defScope st_need_many), mu := [] } rz_need_many 30) (defBody st_need_many) = some b_need_many := by kernel_rfl
noncomputable def t_need_many : List (Str × Fn) := (("need_many" : Str), ⟨F_need_many, [("value" : Str)], []⟩) :: t_course_share
/-! best_endings -/
abbrev st_best_endings : Stmt := top 32
def N_best_endings : List Str := ["chain", "sign", "case", "endings", "many", "show", "found", "after", "some", "share", "ending", "product"]
noncomputable def b_best_endings : SS := (sSeq (sPar [5, 6] (aCons (cCall F_show_at (aCons (eVar 0) (aCons (eVar 2) (aCons (eVar 1) aNil)))) (aCons (eLst true aNil) aNil)))
  (sSeq (sFor (gEn (aCons (eVar 3) aNil)) (gTup 2 (gsCons (gVar 7) (gsCons (gVar 8) gsNil)))
  (sSeq (sFor (gSeq (eVar 8)) (gTup 2 (gsCons (gVar 9) (gsCons (gVar 10) gsNil)))
  (sSeq (sAsg (cCall F_timed (aCons (cCall F_timed (aCons (eVar 5) (aCons (e2 fIx (e2 fIx (e1 (fFld clsF ("steps" : Str)) (eVar 0)) (eVar 2)) (eVar 7)) aNil))) (aCons (eVar 9) aNil))) (gVar 11))
  (sSeq (sIf (bOf (e2 fNe (eVar 11) (eC (.tup [.int 0, .int 1]))))
  (sSeq (sDrop (eMethL fAppend (eVar 6) (aCons (eTup (aCons (eVar 11) (aCons (e2 (fAdd false) (eTup (aCons (eVar 2) aNil)) (eVar 10)) aNil))) aNil)))
  sNil)
  sNil)
  sNil)))
  sNil))
  (sSeq (sRet (eSl false (cCall F_ranked_pairs (aCons (eVar 6) aNil)) oNone (oSome (eVar 4))))
  sNil)))
noncomputable def F_best_endings : List D → M D := fnD 5 12 true b_best_endings
def rz_best_endings : List (Str × Nat) := []
theorem c_best_endings : cSs (cSt (rcN 30) { cc t_need_many k_Chain with N := N_best_endings, sc := defScope st_best_endings, fnc := cellsOf (defScope st_best_endings), mu := [(98, 47)] } rz_best_endings 30) (defBody st_best_endings) = some b_best_endings := by kernel_rfl
noncomputable def t_best_endings : List (Str × Fn) := (("best_endings" : Str), ⟨F_best_endings, [("chain" : Str), ("sign" : Str), ("case" : Str), ("endings" : Str), ("many" : Str)], []⟩) :: t_need_many
/-! best_courses -/
abbrev st_best_courses : Stmt := top 33
def N_best_courses : List Str := ["chain", "seen", "many", "endings", "case", "sign", "found", "show", "share", "course", "pair"]
noncomputable def b_best_courses : SS := (sSeq (sDrop (cCall F_need_many (aCons (eVar 2) aNil)))
  (sSeq (sAsg (eLst true aNil) (gVar 3))
  (sSeq (sFor (gSeq (cCall F_cases_in (aCons (eVar 0) aNil))) (gVar 4)
  (sSeq (sAsg (cCall F_show_at (aCons (eVar 0) (aCons (eVar 4) (aCons (e2 fIx (eVar 1) (e1 fNeg (eC (.int 1)))) aNil)))) (gVar 7))
  (sSeq (sDrop (eMethL fAppend (eVar 3) (aCons (eIf (bOf (e2 fEq (eVar 7) (eC (.tup [.int 0, .int 1])))) (eLst false aNil) (eLst false (aCons (eTup (aCons (eVar 7) (aCons (eTup (aCons (eVar 4) aNil)) aNil))) aNil))) aNil)))
  sNil)))
  (sSeq (sFor (gSeq (e1 (fRev false) (eSl false (eVar 1) oNone (oSome (e1 fNeg (eC (.int 1))))))) (gVar 5)
  (sSeq (sAsg (eLc false (gSeq (cCall F_cases_in (aCons (eVar 0) aNil))) (gVar 4) cYes (cCall F_best_endings (aCons (eVar 0) (aCons (eVar 5) (aCons (eVar 4) (aCons (eVar 3) (aCons (eVar 2) aNil)))))) [4]) (gVar 3))
  sNil))
  (sSeq (sAsg (eLc2 false (gSeq (cCall F_cases_in (aCons (eVar 0) aNil))) (gVar 4) cYes (gSeq (e2 fIx (eVar 3) (eVar 4))) (gTup 2 (gsCons (gVar 8) (gsCons (gVar 9) gsNil))) cYes (eTup (aCons (cCall F_timed (aCons (e2 fIx (e1 (fFld clsF ("start" : Str)) (eVar 0)) (eVar 4)) (aCons (eVar 8) aNil))) (aCons (eVar 9) aNil))) [4, 8, 9] [8, 9]) (gVar 6))
  (sSeq (sRet (eCall fTuple (aCons (eSl false (cCall F_ranked_pairs (aCons (eLc false (gSeq (eVar 6)) (gVar 10) (bOf (e2 fNe (e2 fIx (eVar 10) (eC (.int 0))) (eC (.tup [.int 0, .int 1])))) (eVar 10) [10]) aNil)) oNone (oSome (eVar 2))) aNil)))
  sNil))))))
noncomputable def F_best_courses : List D → M D := fnD 3 11 true b_best_courses
def rz_best_courses : List (Str × Nat) := []
theorem c_best_courses : cSs (cSt (rcN 30) { cc t_best_endings k_Chain with N := N_best_courses, sc := defScope st_best_courses, fnc := cellsOf (defScope st_best_courses), mu := [(107, 14)] } rz_best_courses 30) (defBody st_best_courses) = some b_best_courses := by kernel_rfl
noncomputable def t_best_courses : List (Str × Fn) := (("best_courses" : Str), ⟨F_best_courses, [("chain" : Str), ("seen" : Str), ("many" : Str)], [([("many" : Str), ("seen" : Str), ("chain" : Str)], [2, 1, 0])]⟩) :: t_best_endings
/-! _law_heap -/
abbrev st__law_heap : Stmt := top 35
def N__law_heap : List Str := ["_law_script", "_law_stir", "_law_cell"]
noncomputable def b__law_heap : SS := (sSeq (sAsg (eC (.int 71011)) (gVar 1))
  (sSeq (sFor (gSeq (eSl false (eVar 0) oNone (oSome (eC (.int 60))))) (gVar 2)
  (sSeq (sAsg (e2 fMod (eCall fInt (aCons (e2 (fAdd false) (e2 (fAdd false) (e2 (fAdd false) (e2 (fMul false) (eVar 1) (eC (.int 48271))) (e2 (fMul false) (e2 fMod (eCall fInt (aCons (eCall fAbs (aCons (eVar 2) aNil)) aNil)) (eC (.int 2147483563))) (eC (.int 2)))) (eCall fInt (aCons (e2 fLt (eVar 2) (eC (.int 0))) aNil))) (eC (.int 17))) aNil)) (eC (.int 2147483647))) (gVar 1))
  sNil))
  (sSeq (sRet (eLst true (aCons (e1 (fRev true) (eLc true (gSeq (eSl false (eVar 0) oNone (oSome (eC (.int 60))))) (gVar 2) (bOf (e2 fGe (eCall fAbs (aCons (eVar 2) aNil)) (e2 fPow (eC (.int 10)) (eC (.int 18))))) (eCall fAbs (aCons (eVar 2) aNil)) [2])) (aCons (eVar 1) aNil))))
  sNil)))
noncomputable def F__law_heap : List D → M D := fnD 1 3 false b__law_heap
def rz__law_heap : List (Str × Nat) := []
theorem c__law_heap : cSs (cSt (rcN 30) { cc t_best_courses k_Chain with N := N__law_heap, sc := defScope st__law_heap, fnc := cellsOf (defScope st__law_heap), mu := [(120, 11), (120, 12)] } rz__law_heap 30) (defBody st__law_heap) = some b__law_heap := by kernel_rfl
noncomputable def t__law_heap : List (Str × Fn) := (("_law_heap" : Str), ⟨F__law_heap, [("_law_script" : Str)], []⟩) :: t_best_courses
/-! _law_draw -/
abbrev st__law_draw : Stmt := top 36
def N__law_draw : List Str := ["_law_heap_here", "_law_many", "_law_rest"]
noncomputable def b__law_draw : SS := (sSeq (sWhile (bAnd (bOf (e2 fNe (e2 fIx (eVar 0) (eC (.int 0))) (eLst false aNil))) (bOf (e2 fEq (e2 fIx (e2 fIx (eVar 0) (eC (.int 0))) (e1 fNeg (eC (.int 1)))) (eC (.int 0)))))
  (sSeq (sDrop (eMethL fPop (e2 fIx (eVar 0) (eC (.int 0))) aNil))
  sNil))
  (sSeq (sIf (bOf (e2 fNe (e2 fIx (eVar 0) (eC (.int 0))) (eLst false aNil)))
  (sSeq (sAsg (eMethL fPop (e2 fIx (eVar 0) (eC (.int 0))) aNil) (gVar 2))
  (sSeq (sDrop (eMethL fAppend (e2 fIx (eVar 0) (eC (.int 0))) (aCons (e2 fDiv (eVar 2) (eVar 1)) aNil)))
  (sSeq (sRet (e2 fMod (eCall fInt (aCons (eVar 2) aNil)) (eVar 1)))
  sNil)))
  sNil)
  (sSeq (sAsg (e2 fMod (eCall fInt (aCons (e2 (fAdd false) (e2 (fMul false) (e2 fIx (eVar 0) (eC (.int 1))) (eC (.int 16807))) (eC (.int 23))) aNil)) (eC (.int 2147483647))) (gIx (eVar 0) (eC (.int 1))))
  (sSeq (sRet (e2 fMod (eCall fInt (aCons (e2 fDiv (e2 fIx (eVar 0) (eC (.int 1))) (eC (.int 32))) aNil)) (eVar 1)))
  sNil))))
noncomputable def F__law_draw : List D → M D := fnD 2 3 false b__law_draw
def rz__law_draw : List (Str × Nat) := []
theorem c__law_draw : cSs (cSt (rcN 30) { cc t__law_heap k_Chain with N := N__law_draw, sc := defScope st__law_draw, fnc := cellsOf (defScope st__law_draw), mu := [] } rz__law_draw 30) (defBody st__law_draw) = some b__law_draw := by kernel_rfl
noncomputable def t__law_draw : List (Str × Fn) := (("_law_draw" : Str), ⟨F__law_draw, [("_law_heap_here" : Str), ("_law_many" : Str)], []⟩) :: t__law_heap
/-! _law_pick -/
abbrev st__law_pick : Stmt := top 37
def N__law_pick : List Str := ["_law_heap_here", "_law_some"]
noncomputable def b__law_pick : SS := (sSeq (sRet (e2 fIx (eVar 1) (cCall F__law_draw (aCons (eVar 0) (aCons (eCall fLen (aCons (eVar 1) aNil)) aNil)))))
  sNil)
noncomputable def F__law_pick : List D → M D := fnD 2 2 false b__law_pick
def rz__law_pick : List (Str × Nat) := []
theorem c__law_pick : cSs (cSt (rcN 30) { cc t__law_draw k_Chain with N := N__law_pick, sc := defScope st__law_pick, fnc := cellsOf (defScope st__law_pick), mu := [] } rz__law_pick 30) (defBody st__law_pick) = some b__law_pick := by kernel_rfl
noncomputable def t__law_pick : List (Str × Fn) := (("_law_pick" : Str), ⟨F__law_pick, [("_law_heap_here" : Str), ("_law_some" : Str)], []⟩) :: t__law_draw
/-! _law_low -/
abbrev st__law_low : Stmt := top 38
def N__law_low : List Str := ["_law_top", "_law_bottom", "_law_one", "_law_other"]
noncomputable def b__law_low : SS := (sSeq (sPar [2, 3] (aCons (eCall fAbs (aCons (eVar 0) aNil)) (aCons (eVar 1) aNil)))
  (sSeq (sWhile (bOf (e2 fGt (eVar 3) (eC (.int 0))))
  (sSeq (sPar [2, 3] (aCons (eVar 3) (aCons (e2 fMod (eCall fInt (aCons (eVar 2) aNil)) (eVar 3)) aNil)))
  sNil))
  (sSeq (sRet (eTup (aCons (e2 fDiv (eVar 0) (eVar 2)) (aCons (e2 fDiv (eVar 1) (eVar 2)) aNil))))
  sNil)))
noncomputable def F__law_low : List D → M D := fnD 2 4 true b__law_low
def rz__law_low : List (Str × Nat) := []
theorem c__law_low : cSs (cSt (rcN 30) { cc t__law_pick k_Chain with N := N__law_low, sc := defScope st__law_low, fnc := cellsOf (defScope st__law_low), mu := [] } rz__law_low 30) (defBody st__law_low) = some b__law_low := by kernel_rfl
noncomputable def t__law_low : List (Str × Fn) := (("_law_low" : Str), ⟨F__law_low, [("_law_top" : Str), ("_law_bottom" : Str)], []⟩) :: t__law_pick
/-! _law_mul -/
abbrev st__law_mul : Stmt := top 39
def N__law_mul : List Str := ["_law_one", "_law_other"]
noncomputable def b__law_mul : SS := (sSeq (sRet (cCall F__law_low (aCons (e2 (fMul false) (e2 fIx (eVar 0) (eC (.int 0))) (e2 fIx (eVar 1) (eC (.int 0)))) (aCons (e2 (fMul false) (e2 fIx (eVar 0) (eC (.int 1))) (e2 fIx (eVar 1) (eC (.int 1)))) aNil))))
  sNil)
noncomputable def F__law_mul : List D → M D := fnD 2 2 true b__law_mul
def rz__law_mul : List (Str × Nat) := []
theorem c__law_mul : cSs (cSt (rcN 30) { cc t__law_low k_Chain with N := N__law_mul, sc := defScope st__law_mul, fnc := cellsOf (defScope st__law_mul), mu := [] } rz__law_mul 30) (defBody st__law_mul) = some b__law_mul := by kernel_rfl
noncomputable def t__law_mul : List (Str × Fn) := (("_law_mul" : Str), ⟨F__law_mul, [("_law_one" : Str), ("_law_other" : Str)], []⟩) :: t__law_low
/-! _law_less -/
abbrev st__law_less : Stmt := top 40
def N__law_less : List Str := ["_law_one", "_law_other"]
noncomputable def b__law_less : SS := (sSeq (sRet (e2 fLt (e2 (fMul false) (e2 fIx (eVar 0) (eC (.int 0))) (e2 fIx (eVar 1) (eC (.int 1)))) (e2 (fMul false) (e2 fIx (eVar 1) (eC (.int 0))) (e2 fIx (eVar 0) (eC (.int 1))))))
  sNil)
noncomputable def F__law_less : List D → M D := fnD 2 2 true b__law_less
def rz__law_less : List (Str × Nat) := []
theorem c__law_less : cSs (cSt (rcN 30) { cc t__law_mul k_Chain with N := N__law_less, sc := defScope st__law_less, fnc := cellsOf (defScope st__law_less), mu := [] } rz__law_less 30) (defBody st__law_less) = some b__law_less := by kernel_rfl
noncomputable def t__law_less : List (Str × Fn) := (("_law_less" : Str), ⟨F__law_less, [("_law_one" : Str), ("_law_other" : Str)], []⟩) :: t__law_mul
/-! _law_row -/
abbrev st__law_row : Stmt := top 41
def N__law_row : List Str := ["_law_heap_here", "_law_count", "_law_parts_here", "_law_case", "_law_part"]
noncomputable def b__law_row : SS := (sSeq (sAsg (eLc true (gRg1 (aCons (eVar 1) aNil)) (gVar 3) cYes (cCall F__law_pick (aCons (eVar 0) (aCons (eLst false (aCons (eC (.int 0)) (aCons (eC (.int 1)) (aCons (eC (.int 1)) (aCons (eC (.int 2)) (aCons (eC (.int 3)) (aCons (eC (.int 5)) aNil))))))) aNil))) [3]) (gVar 2))
  (sSeq (sAsg (e2 (fAdd false) (eC (.int 1)) (cCall F__law_draw (aCons (eVar 0) (aCons (eC (.int 3)) aNil)))) (gIx (eVar 2) (cCall F__law_draw (aCons (eVar 0) (aCons (eVar 1) aNil)))))
  (sSeq (sRet (eCall fTuple (aCons (eLc false (gSeq (eVar 2)) (gVar 4) cYes (cCall F__law_low (aCons (eVar 4) (aCons (eCall fSum (aCons (eVar 2) aNil)) aNil))) [4]) aNil)))
  sNil)))
noncomputable def F__law_row : List D → M D := fnD 2 5 true b__law_row
def rz__law_row : List (Str × Nat) := []
theorem c__law_row : cSs (cSt (rcN 30) { cc t__law_less k_Chain with N := N__law_row, sc := defScope st__law_row, fnc := cellsOf (defScope st__law_row), mu := [(142, 22)] } rz__law_row 30) (defBody st__law_row) = some b__law_row := by kernel_rfl
noncomputable def t__law_row : List (Str × Fn) := (("_law_row" : Str), ⟨F__law_row, [("_law_heap_here" : Str), ("_law_count" : Str)], []⟩) :: t__law_less
/-! _law_parts -/
abbrev st__law_parts : Stmt := top 42
def N__law_parts : List Str := ["_law_heap_here", "_law_steps", "_law_shows", "_law_count", "_law_signs", "_law_start", "_law_row_here", "_law_case"]
noncomputable def b__law_parts : SS := (sSeq (sAsg (eTup (aCons (cCall F__law_pick (aCons (eVar 0) (aCons (eLst false (aCons (eC (.int 2)) (aCons (eC (.int 2)) (aCons (eC (.int 2)) (aCons (eC (.int 3)) (aCons (eC (.int 3)) (aCons (eC (.int 4)) (aCons (eC (.int 6)) aNil)))))))) aNil))) (aCons (cCall F__law_pick (aCons (eVar 0) (aCons (eLst false (aCons (eC (.int 2)) (aCons (eC (.int 2)) (aCons (eC (.int 3)) (aCons (eC (.int 4)) (aCons (eC (.int 6)) aNil)))))) aNil))) aNil))) (gTup 2 (gsCons (gVar 3) (gsCons (gVar 4) gsNil))))
  (sSeq (sAsg (eTup (aCons (cCall F__law_row (aCons (eVar 0) (aCons (eVar 3) aNil))) (aCons (cCall F__law_row (aCons (eVar 0) (aCons (eVar 3) aNil))) aNil))) (gTup 2 (gsCons (gVar 5) (gsCons (gVar 6) gsNil))))
  (sSeq (sAsg (eCall fTuple (aCons (eLc false (gRg1 (aCons (eVar 3) aNil)) (gVar 7) cYes (cCall F__law_row (aCons (eVar 0) (aCons (eVar 3) aNil))) [7]) aNil)) (gVar 1))
  (sSeq (sAsg (eCall fTuple (aCons (eLc false (gRg1 (aCons (eVar 3) aNil)) (gVar 7) cYes (cCall F__law_row (aCons (eVar 0) (aCons (eVar 4) aNil))) [7]) aNil)) (gVar 2))
  (sSeq (sIf (bOf (e2 fEq (cCall F__law_draw (aCons (eVar 0) (aCons (eC (.int 3)) aNil))) (eC (.int 0))))
  (sSeq (sPar [5, 1] (aCons (e2 (fMul false) (eTup (aCons (eTup (aCons (eC (.int 1)) (aCons (eVar 3) aNil))) aNil)) (eVar 3)) (aCons (eCall fTuple (aCons (eLc false (gRg1 (aCons (eVar 3) aNil)) (gVar 7) cYes (e2 (fAdd false) (eSl false (eVar 6) (oSome (eVar 7)) oNone) (eSl false (eVar 6) oNone (oSome (eVar 7)))) [7]) aNil)) aNil)))
  sNil)
  sNil)
  (sSeq (sIf (bOf (e2 fEq (cCall F__law_draw (aCons (eVar 0) (aCons (eC (.int 4)) aNil))) (eC (.int 0))))
  (sSeq (sAsg (e2 (fMul false) (eTup (aCons (e2 fIx (eVar 2) (eC (.int 0))) aNil)) (eVar 3)) (gVar 2))
  sNil)
  sNil)
  (sSeq (sRet (eTup (aCons (eVar 5) (aCons (eVar 1) (aCons (eVar 2) aNil)))))
  sNil)))))))
noncomputable def F__law_parts : List D → M D := fnD 1 8 false b__law_parts
def rz__law_parts : List (Str × Nat) := []
theorem c__law_parts : cSs (cSt (rcN 30) { cc t__law_row k_Chain with N := N__law_parts, sc := defScope st__law_parts, fnc := cellsOf (defScope st__law_parts), mu := [] } rz__law_parts 30) (defBody st__law_parts) = some b__law_parts := by kernel_rfl
noncomputable def t__law_parts : List (Str × Fn) := (("_law_parts" : Str), ⟨F__law_parts, [("_law_heap_here" : Str)], []⟩) :: t__law_row
/-! _law_seen -/
abbrev st__law_seen : Stmt := top 43
def N__law_seen : List Str := ["_law_heap_here", "_law_parts_here", "_law_most", "_law_signs", "_law_moment"]
noncomputable def b__law_seen : SS := (sSeq (sAsg (e2 (fAdd false) (e2 (fMul false) (eLstRg false (r1 (eCall fLen (aCons (e2 fIx (e2 fIx (eVar 1) (eC (.int 2))) (eC (.int 0))) aNil)))) (eC (.int 2))) (eLst false (aCons (eC .non) aNil))) (gVar 3))
  (sSeq (sRet (eCall fTuple (aCons (eLc false (gRg1 (aCons (e2 (fAdd false) (eC (.int 1)) (cCall F__law_draw (aCons (eVar 0) (aCons (eVar 2) aNil)))) aNil)) (gVar 4) cYes (cCall F__law_pick (aCons (eVar 0) (aCons (eVar 3) aNil))) [4]) aNil)))
  sNil))
noncomputable def F__law_seen : List D → M D := fnD 3 5 false b__law_seen
def rz__law_seen : List (Str × Nat) := []
theorem c__law_seen : cSs (cSt (rcN 30) { cc t__law_parts k_Chain with N := N__law_seen, sc := defScope st__law_seen, fnc := cellsOf (defScope st__law_seen), mu := [] } rz__law_seen 30) (defBody st__law_seen) = some b__law_seen := by kernel_rfl
noncomputable def t__law_seen : List (Str × Fn) := (("_law_seen" : Str), ⟨F__law_seen, [("_law_heap_here" : Str), ("_law_parts_here" : Str), ("_law_most" : Str)], []⟩) :: t__law_parts
/-! _law_courses -/
abbrev st__law_courses : Stmt := top 44
def N__law_courses : List Str := ["_law_count", "_law_moments", "_law_found", "_law_moment", "_law_longer", "_law_course", "_law_case"]
noncomputable def b__law_courses : SS := (sSeq (sAsg (eLst false (aCons (eTup aNil) aNil)) (gVar 2))
  (sSeq (sFor (gRg1 (aCons (eVar 1) aNil)) (gVar 3)
  (sSeq (sAsg (eLst false aNil) (gVar 4))
  (sSeq (sFor (gSeq (eVar 2)) (gVar 5)
  (sSeq (sAsg (e2 (fAdd false) (eVar 4) (eLc false (gRg1 (aCons (eVar 0) aNil)) (gVar 6) cYes (e2 (fAdd false) (eVar 5) (eTup (aCons (eVar 6) aNil))) [6])) (gVar 4))
  sNil))
  (sSeq (sAsg (eVar 4) (gVar 2))
  sNil))))
  (sSeq (sRet (eVar 2))
  sNil)))
noncomputable def F__law_courses : List D → M D := fnD 2 7 true b__law_courses
def rz__law_courses : List (Str × Nat) := []
theorem c__law_courses : cSs (cSt (rcN 30) { cc t__law_seen k_Chain with N := N__law_courses, sc := defScope st__law_courses, fnc := cellsOf (defScope st__law_courses), mu := [] } rz__law_courses 30) (defBody st__law_courses) = some b__law_courses := by kernel_rfl
noncomputable def t__law_courses : List (Str × Fn) := (("_law_courses" : Str), ⟨F__law_courses, [("_law_count" : Str), ("_law_moments" : Str)], []⟩) :: t__law_seen
/-! _law_course_share -/
abbrev st__law_course_share : Stmt := top 45
def N__law_course_share : List Str := ["_law_parts_here", "_law_seen_here", "_law_course", "_law_found", "_law_at"]
noncomputable def b__law_course_share : SS := (sSeq (sAsg (eTup (aCons (eC (.int 1)) (aCons (eC (.int 1)) aNil))) (gVar 3))
  (sSeq (sFor (gRg1 (aCons (eCall fLen (aCons (eVar 2) aNil)) aNil)) (gVar 4)
  (sSeq (sAsg (cCall F__law_mul (aCons (eVar 3) (aCons (eIf (bOf (e2 fEq (eVar 4) (eC (.int 0)))) (e2 fIx (e2 fIx (eVar 0) (eC (.int 0))) (e2 fIx (eVar 2) (eVar 4))) (e2 fIx (e2 fIx (e2 fIx (eVar 0) (eC (.int 1))) (e2 fIx (eVar 2) (e2 fSub (eVar 4) (eC (.int 1))))) (e2 fIx (eVar 2) (eVar 4)))) aNil))) (gVar 3))
  (sSeq (sAsg (eIf (bOf (e2 fIsN (e2 fIx (eVar 1) (eVar 4)) (eC .non))) (eVar 3) (cCall F__law_mul (aCons (eVar 3) (aCons (e2 fIx (e2 fIx (e2 fIx (eVar 0) (eC (.int 2))) (e2 fIx (eVar 2) (eVar 4))) (e2 fIx (eVar 1) (eVar 4))) aNil)))) (gVar 3))
  sNil)))
  (sSeq (sRet (eVar 3))
  sNil)))
noncomputable def F__law_course_share : List D → M D := fnD 3 5 true b__law_course_share
def rz__law_course_share : List (Str × Nat) := []
theorem c__law_course_share : cSs (cSt (rcN 30) { cc t__law_courses k_Chain with N := N__law_course_share, sc := defScope st__law_course_share, fnc := cellsOf (defScope st__law_course_share), mu := [] } rz__law_course_share 30) (defBody st__law_course_share) = some b__law_course_share := by kernel_rfl
noncomputable def t__law_course_share : List (Str × Fn) := (("_law_course_share" : Str), ⟨F__law_course_share, [("_law_parts_here" : Str), ("_law_seen_here" : Str), ("_law_course" : Str)], []⟩) :: t__law_courses
/-! _law_shares -/
abbrev st__law_shares : Stmt := top 46
def N__law_shares : List Str := ["_law_parts_here", "_law_seen_here", "_law_course"]
noncomputable def b__law_shares : SS := (sSeq (sRet (eLc false (gSeq (cCall F__law_courses (aCons (eCall fLen (aCons (e2 fIx (eVar 0) (eC (.int 0))) aNil)) (aCons (eCall fLen (aCons (eVar 1) aNil)) aNil)))) (gVar 2) cYes (eTup (aCons (cCall F__law_course_share (aCons (eVar 0) (aCons (eVar 1) (aCons (eVar 2) aNil)))) (aCons (eVar 2) aNil))) [2]))
  sNil)
noncomputable def F__law_shares : List D → M D := fnD 2 3 true b__law_shares
def rz__law_shares : List (Str × Nat) := []
theorem c__law_shares : cSs (cSt (rcN 30) { cc t__law_course_share k_Chain with N := N__law_shares, sc := defScope st__law_shares, fnc := cellsOf (defScope st__law_shares), mu := [] } rz__law_shares 30) (defBody st__law_shares) = some b__law_shares := by kernel_rfl
noncomputable def t__law_shares : List (Str × Fn) := (("_law_shares" : Str), ⟨F__law_shares, [("_law_parts_here" : Str), ("_law_seen_here" : Str)], []⟩) :: t__law_course_share
/-! _law_ranked -/
abbrev st__law_ranked : Stmt := top 47
def N__law_ranked : List Str := ["_law_parts_here", "_law_seen_here", "_law_found", "_law_pair", "_law_other"]
noncomputable def b__law_ranked : SS := (sSeq (sAsg (eLst true aNil) (gVar 2))
  (sSeq (sFor (gSeq (cCall F__law_shares (aCons (eVar 0) (aCons (eVar 1) aNil)))) (gVar 3)
  (sSeq (sIf (bOf (e2 fGt (e2 fIx (e2 fIx (eVar 3) (eC (.int 0))) (eC (.int 0))) (eC (.int 0))))
  (sSeq (sDrop (eMethL fInsert (eVar 2) (aCons (eCall fLen (aCons (eLc false (gSeq (eVar 2)) (gVar 4) (bNot (bOf (cCall F__law_less (aCons (e2 fIx (eVar 4) (eC (.int 0))) (aCons (e2 fIx (eVar 3) (eC (.int 0))) aNil))))) (eVar 4) [4]) aNil)) (aCons (eVar 3) aNil))))
  sNil)
  sNil)
  sNil))
  (sSeq (sRet (eCall fTuple (aCons (eVar 2) aNil)))
  sNil)))
noncomputable def F__law_ranked : List D → M D := fnD 2 5 true b__law_ranked
def rz__law_ranked : List (Str × Nat) := []
theorem c__law_ranked : cSs (cSt (rcN 30) { cc t__law_shares k_Chain with N := N__law_ranked, sc := defScope st__law_ranked, fnc := cellsOf (defScope st__law_ranked), mu := [(175, 17)] } rz__law_ranked 30) (defBody st__law_ranked) = some b__law_ranked := by kernel_rfl
noncomputable def t__law_ranked : List (Str × Fn) := (("_law_ranked" : Str), ⟨F__law_ranked, [("_law_parts_here" : Str), ("_law_seen_here" : Str)], []⟩) :: t__law_shares
/-! _law_heard -/
abbrev st__law_heard : Stmt := top 48
def N__law_heard : List Str := ["_law_chain", "_law_seen_here", "_law_many", "error"]
noncomputable def b__law_heard : SS := (sSeq (sTry (sSeq (sRet (cCall F_best_courses (aCons (eVar 0) (aCons (eVar 1) (aCons (eVar 2) aNil)))))
  sNil)
  [(some 3, [(1, true)], (xIf (fun x => [(1, true)].lookup x.c) (xFld xcF.fl ("word" : Str)) (fun _ => some (.str ("mixed" : Str)))))])
  sNil)
noncomputable def F__law_heard : List D → M D := fnD 3 4 true b__law_heard
def rz__law_heard : List (Str × Nat) := []
theorem c__law_heard : cSs (cStT xcF (rcN 30) { cc t__law_ranked k_Chain with N := N__law_heard, sc := defScope st__law_heard, fnc := cellsOf (defScope st__law_heard), mu := [] } rz__law_heard 30) (defBody st__law_heard) = some b__law_heard := by kernel_rfl
noncomputable def t__law_heard : List (Str × Fn) := (("_law_heard" : Str), ⟨F__law_heard, [("_law_chain" : Str), ("_law_seen_here" : Str), ("_law_many" : Str)], []⟩) :: t__law_ranked
/-! _law_courses_right -/
abbrev st__law_courses_right : Stmt := top 49
def N__law_courses_right : List Str := ["_law_heap_here", "_law_parts_here", "_law_seen_here", "_law_turn", "_law_many", "_law_odd", "_law_chain", "_law_due", "_law_told", "_law_share", "_law_course"]
noncomputable def b__law_courses_right : SS := (sSeq (sPar [6, 7] (aCons (cCall (mkIt 0 true F_Chain_init) (aCons (e2 fIx (eVar 1) (eC (.int 0))) (aCons (e2 fIx (eVar 1) (eC (.int 1))) (aCons (e2 fIx (eVar 1) (eC (.int 2))) aNil)))) (aCons (cCall F__law_ranked (aCons (eVar 1) (aCons (eVar 2) aNil))) aNil)))
  (sSeq (sFor (gRg1 (aCons (eC (.int 4)) aNil)) (gVar 3)
  (sSeq (sAsg (cCall F__law_pick (aCons (eVar 0) (aCons (cCall F__law_shares (aCons (eVar 1) (aCons (eVar 2) aNil))) aNil))) (gTup 2 (gsCons (gVar 9) (gsCons (gVar 10) gsNil))))
  (sSeq (sIf (bOr (bOf (e2 fNe (eCall fRepr (aCons (cCall F_course_share (aCons (eVar 6) (aCons (eVar 2) (aCons (eVar 10) aNil)))) aNil)) (eCall fRepr (aCons (eVar 9) aNil)))) (bOf (e2 fNe (cCallK F_course_share 3 [2, 1, 0] (aCons (eVar 10) (aCons (eVar 2) (aCons (eVar 6) aNil)))) (eVar 9))))
  (sSeq (sRet (eC (.bl false)))
  sNil)
  sNil)
  sNil)))
  (sSeq (sFor (gSeq (eLst false (aCons (eC (.int 1)) (aCons (cCall F__law_draw (aCons (eVar 0) (aCons (eC (.int 7)) aNil))) (aCons (e2 (fAdd false) (eCall fLen (aCons (eVar 7) aNil)) (cCall F__law_draw (aCons (eVar 0) (aCons (eC (.int 3)) aNil)))) (aCons (eC (.int 1000)) aNil)))))) (gVar 4)
  (sSeq (sAsg (cCall F_best_courses (aCons (eVar 6) (aCons (eVar 2) (aCons (eVar 4) aNil)))) (gVar 8))
  (sSeq (sIf (bOr (bOf (e2 fNe (eCall fRepr (aCons (eVar 8) aNil)) (eCall fRepr (aCons (eSl false (eVar 7) oNone (oSome (eVar 4))) aNil)))) (bOf (e2 fNe (cCallK F_best_courses 3 [2, 1, 0] (aCons (eVar 4) (aCons (eVar 2) (aCons (eVar 6) aNil)))) (eSl false (eVar 7) oNone (oSome (eVar 4))))))
  (sSeq (sRet (eC (.bl false)))
  sNil)
  sNil)
  sNil)))
  (sSeq (sAsg (cCall F__law_pick (aCons (eVar 0) (aCons (eLst false (aCons (eC (.int 1001)) (aCons (e2 fSub (eC (.int 0)) (eC (.int 1))) (aCons (eC .non) (aCons (eC (.bl true)) (aCons (eC (.str ("1" : Str))) (aCons (eTup (aCons (eC (.int 1)) aNil)) (aCons (e2 fPow (eC (.int 10)) (eC (.int 9))) aNil)))))))) aNil))) (gVar 5))
  (sSeq (sRet (eAnd (e2 fEq (cCall F__law_heard (aCons (eVar 6) (aCons (eVar 2) (aCons (eVar 5) aNil)))) (eC (.str ("many" : Str)))) (e2 fEq (cCall F_best_courses (aCons (eVar 6) (aCons (eVar 2) (aCons (eC (.int 0)) aNil)))) (eTup aNil))))
  sNil)))))
noncomputable def F__law_courses_right : List D → M D := fnD 3 11 false b__law_courses_right
def rz__law_courses_right : List (Str × Nat) := []
theorem c__law_courses_right : cSs (cSt (rcN 30) { cc t__law_heard k_Chain with N := N__law_courses_right, sc := defScope st__law_courses_right, fnc := cellsOf (defScope st__law_courses_right), mu := [] } rz__law_courses_right 30) (defBody st__law_courses_right) = some b__law_courses_right := by kernel_rfl
noncomputable def t__law_courses_right : List (Str × Fn) := (("_law_courses_right" : Str), ⟨F__law_courses_right, [("_law_heap_here" : Str), ("_law_parts_here" : Str), ("_law_seen_here" : Str)], []⟩) :: t__law_heard
/-! _law_power -/
abbrev st__law_power : Stmt := top 50
def N__law_power : List Str := ["_law_base", "_law_times", "_law_found", "_law_turn"]
noncomputable def b__law_power : SS := (sSeq (sAsg (eC (.int 1)) (gVar 2))
  (sSeq (sFor (gRg1 (aCons (eVar 1) aNil)) (gVar 3)
  (sSeq (sAsg (e2 (fMul false) (eVar 2) (eVar 0)) (gVar 2))
  sNil))
  (sSeq (sRet (eVar 2))
  sNil)))
noncomputable def F__law_power : List D → M D := fnD 2 4 true b__law_power
def rz__law_power : List (Str × Nat) := []
theorem c__law_power : cSs (cSt (rcN 30) { cc t__law_courses_right k_Chain with N := N__law_power, sc := defScope st__law_power, fnc := cellsOf (defScope st__law_power), mu := [] } rz__law_power 30) (defBody st__law_power) = some b__law_power := by kernel_rfl
noncomputable def t__law_power : List (Str × Fn) := (("_law_power" : Str), ⟨F__law_power, [("_law_base" : Str), ("_law_times" : Str)], []⟩) :: t__law_courses_right
/-! _law_long_right -/
abbrev st__law_long_right : Stmt := top 51
def N__law_long_right : List Str := ["_law_heap_here", "_law_signs", "_law_chain", "_law_due", "_law_half", "_law_sure", "_law_told", "_law_share", "_law_moment", "_law_at", "_law_one", "_law_course"]
noncomputable def b__law_long_right : SS := (sSeq (sAsg (eCall fTuple (aCons (eLc false (gRg1 (aCons (e2 (fAdd false) (eC (.int 12)) (cCall F__law_draw (aCons (eVar 0) (aCons (eC (.int 9)) aNil)))) aNil)) (gVar 8) cYes (cCall F__law_draw (aCons (eVar 0) (aCons (eC (.int 2)) aNil))) [8]) aNil)) (gVar 1))
  (sSeq (sAsg (eTup (aCons (eTup (aCons (eTup (aCons (eC (.int 1)) (aCons (eC (.int 2)) aNil))) (aCons (eTup (aCons (eC (.int 1)) (aCons (eC (.int 2)) aNil))) aNil))) (aCons (eTup (aCons (eTup (aCons (eC (.int 99)) (aCons (eC (.int 100)) aNil))) (aCons (eTup (aCons (eC (.int 1)) (aCons (eC (.int 100)) aNil))) aNil))) aNil))) (gTup 2 (gsCons (gVar 4) (gsCons (gVar 5) gsNil))))
  (sSeq (sAsg (cCall (mkIt 0 true F_Chain_init) (aCons (eVar 4) (aCons (eTup (aCons (eVar 4) (aCons (eVar 4) aNil))) (aCons (eTup (aCons (eVar 5) (aCons (e1 (fRev false) (eVar 5)) aNil))) aNil)))) (gVar 2))
  (sSeq (sAsg (eTup (aCons (cCall F_best_courses (aCons (eVar 2) (aCons (eVar 1) (aCons (e2 (fAdd false) (eC (.int 1)) (eCall fLen (aCons (eVar 1) aNil))) aNil)))) (aCons (eTup (aCons (cCall F__law_power (aCons (eC (.int 99)) (aCons (eCall fLen (aCons (eVar 1) aNil)) aNil))) (aCons (cCall F__law_power (aCons (eC (.int 200)) (aCons (eCall fLen (aCons (eVar 1) aNil)) aNil))) aNil))) aNil))) (gTup 2 (gsCons (gVar 6) (gsCons (gVar 7) gsNil))))
  (sSeq (sAsg (eCall (fSorted false) (aCons (eLc false (gRg1 (aCons (eCall fLen (aCons (eVar 1) aNil)) aNil)) (gVar 9) cYes (e2 (fAdd false) (e2 (fAdd false) (eSl false (eVar 1) oNone (oSome (eVar 9))) (eTup (aCons (e2 fSub (eC (.int 1)) (e2 fIx (eVar 1) (eVar 9))) aNil))) (eSl false (eVar 1) (oSome (e2 (fAdd false) (eVar 9) (eC (.int 1)))) oNone)) [9]) aNil)) (gVar 3))
  (sSeq (sIf (bOr (bOf (e2 fNe (e2 fIx (eVar 6) (eC (.int 0))) (eTup (aCons (cCall F__law_low (aCons (e2 fIx (eVar 7) (eC (.int 0))) (aCons (e2 fIx (eVar 7) (eC (.int 1))) aNil))) (aCons (eVar 1) aNil))))) (bOf (e2 fNe (eLc false (gSeq (eSl false (eVar 6) (oSome (eC (.int 1))) oNone)) (gTup 2 (gsCons (gVar 10) (gsCons (gVar 11) gsNil))) cYes (eVar 11) [10, 11]) (eVar 3))))
  (sSeq (sRet (eC (.bl false)))
  sNil)
  sNil)
  (sSeq (sRet (eCall fAll (aCons (eLc false (gSeq (eSl false (eVar 6) (oSome (eC (.int 1))) oNone)) (gTup 2 (gsCons (gVar 10) (gsCons (gVar 11) gsNil))) cYes (e2 fEq (eVar 10) (cCall F__law_low (aCons (e2 fIx (eVar 7) (eC (.int 0))) (aCons (e2 (fMul false) (eC (.int 99)) (e2 fIx (eVar 7) (eC (.int 1)))) aNil)))) [10, 11]) aNil)))
  sNil)))))))
noncomputable def F__law_long_right : List D → M D := fnD 1 12 false b__law_long_right
def rz__law_long_right : List (Str × Nat) := []
theorem c__law_long_right : cSs (cSt (rcN 30) { cc t__law_power k_Chain with N := N__law_long_right, sc := defScope st__law_long_right, fnc := cellsOf (defScope st__law_long_right), mu := [] } rz__law_long_right 30) (defBody st__law_long_right) = some b__law_long_right := by kernel_rfl
noncomputable def t__law_long_right : List (Str × Fn) := (("_law_long_right" : Str), ⟨F__law_long_right, [("_law_heap_here" : Str)], []⟩) :: t__law_power
/-! law -/
abbrev st_law : Stmt := top 52
def N_law : List Str := ["_law_script", "_law_heap_here", "_law_turn", "_law_half", "_law_wheel", "_law_parts_here", "_law_even", "_law_third"]
noncomputable def b_law : SS := (sSeq (sAsg (cCall F__law_heap (aCons (eVar 0) aNil)) (gVar 1))
  (sSeq (sFor (gRg1 (aCons (e2 (fAdd false) (e2 (fAdd false) (eC (.int 2)) (eCall fInt (aCons (e2 fGt (eCall fLen (aCons (eVar 0) aNil)) (eC (.int 1))) aNil))) (eCall fInt (aCons (e2 fGt (eCall fLen (aCons (eVar 0) aNil)) (eC (.int 3))) aNil))) aNil)) (gVar 2)
  (sSeq (sAsg (cCall F__law_parts (aCons (eVar 1) aNil)) (gVar 5))
  (sSeq (sIf (bNot (bOf (cCall F__law_courses_right (aCons (eVar 1) (aCons (eVar 5) (aCons (cCall F__law_seen (aCons (eVar 1) (aCons (eVar 5) (aCons (eCall fMax2 (aCons (eC (.int 1)) (aCons (e2 (fAdd false) (e2 fSub (e2 fIx (eLst false (aCons (eC (.int 2)) (aCons (eC (.int 3)) (aCons (eC (.int 3)) (aCons (eC (.int 4)) aNil))))) (eVar 2)) (eCall fLen (aCons (e2 fIx (eVar 5) (eC (.int 0))) aNil))) (eC (.int 2))) aNil))) aNil)))) aNil))))))
  (sSeq (sRet (eC (.bl false)))
  sNil)
  sNil)
  sNil)))
  (sSeq (sIf (bNot (bOf (cCall F__law_long_right (aCons (eVar 1) aNil))))
  (sSeq (sRet (eC (.bl false)))
  sNil)
  sNil)
  (sSeq (sAsg (eTup (aCons (eTup (aCons (eC (.int 1)) (aCons (eC (.int 2)) aNil))) (aCons (eTup (aCons (eC (.int 1)) (aCons (eC (.int 2)) aNil))) aNil))) (gVar 3))
  (sSeq (sPar [6, 7] (aCons (cCall (mkIt 0 true F_Chain_init) (aCons (eVar 3) (aCons (eTup (aCons (eVar 3) (aCons (eVar 3) aNil))) (aCons (eTup (aCons (eVar 3) (aCons (eVar 3) aNil))) aNil)))) (aCons (eTup (aCons (eC (.int 1)) (aCons (eC (.int 3)) aNil))) aNil)))
  (sSeq (sIf (bOf (e2 fNe (cCall F_best_courses (aCons (eVar 6) (aCons (eTup (aCons (eC (.int 0)) (aCons (eC .non) aNil))) (aCons (eC (.int 3)) aNil)))) (eTup (aCons (eTup (aCons (eTup (aCons (eC (.int 1)) (aCons (eC (.int 8)) aNil))) (aCons (eTup (aCons (eC (.int 0)) (aCons (eC (.int 0)) aNil))) aNil))) (aCons (eTup (aCons (eTup (aCons (eC (.int 1)) (aCons (eC (.int 8)) aNil))) (aCons (eTup (aCons (eC (.int 0)) (aCons (eC (.int 1)) aNil))) aNil))) (aCons (eTup (aCons (eTup (aCons (eC (.int 1)) (aCons (eC (.int 8)) aNil))) (aCons (eTup (aCons (eC (.int 1)) (aCons (eC (.int 0)) aNil))) aNil))) aNil))))))
  (sSeq (sRet (eC (.bl false)))
  sNil)
  sNil)
  (sSeq (sAsg (cCall (mkIt 0 true F_Chain_init) (aCons (eTup (aCons (eVar 7) (aCons (eVar 7) (aCons (eVar 7) aNil)))) (aCons (eTup (aCons (eTup (aCons (eTup (aCons (eC (.int 0)) (aCons (eC (.int 1)) aNil))) (aCons (eTup (aCons (eC (.int 1)) (aCons (eC (.int 1)) aNil))) (aCons (eTup (aCons (eC (.int 0)) (aCons (eC (.int 1)) aNil))) aNil)))) (aCons (eTup (aCons (eTup (aCons (eC (.int 0)) (aCons (eC (.int 1)) aNil))) (aCons (eTup (aCons (eC (.int 0)) (aCons (eC (.int 1)) aNil))) (aCons (eTup (aCons (eC (.int 1)) (aCons (eC (.int 1)) aNil))) aNil)))) (aCons (eTup (aCons (eTup (aCons (eC (.int 1)) (aCons (eC (.int 1)) aNil))) (aCons (eTup (aCons (eC (.int 0)) (aCons (eC (.int 1)) aNil))) (aCons (eTup (aCons (eC (.int 0)) (aCons (eC (.int 1)) aNil))) aNil)))) aNil)))) (aCons (eTup (aCons (eVar 3) (aCons (eVar 3) (aCons (eVar 3) aNil)))) aNil)))) (gVar 4))
  (sSeq (sRet (e2 fEq (cCall F_best_courses (aCons (eVar 4) (aCons (eTup (aCons (eC .non) (aCons (eC .non) (aCons (eC (.int 1)) aNil)))) (aCons (eC (.int 9)) aNil)))) (eTup (aCons (eTup (aCons (eTup (aCons (eC (.int 1)) (aCons (eC (.int 6)) aNil))) (aCons (eTup (aCons (eC (.int 0)) (aCons (eC (.int 1)) (aCons (eC (.int 2)) aNil)))) aNil))) (aCons (eTup (aCons (eTup (aCons (eC (.int 1)) (aCons (eC (.int 6)) aNil))) (aCons (eTup (aCons (eC (.int 1)) (aCons (eC (.int 2)) (aCons (eC (.int 0)) aNil)))) aNil))) (aCons (eTup (aCons (eTup (aCons (eC (.int 1)) (aCons (eC (.int 6)) aNil))) (aCons (eTup (aCons (eC (.int 2)) (aCons (eC (.int 0)) (aCons (eC (.int 1)) aNil)))) aNil))) aNil))))))
  sNil))))))))
noncomputable def F_law : List D → M D := fnD 1 8 false b_law
def rz_law : List (Str × Nat) := []
theorem c_law : cSs (cSt (rcN 30) { cc t__law_long_right k_Chain with N := N_law, sc := defScope st_law, fnc := cellsOf (defScope st_law), mu := [] } rz_law 30) (defBody st_law) = some b_law := by kernel_rfl
noncomputable def t_law : List (Str × Fn) := (("law" : Str), ⟨F_law, [("_law_script" : Str)], []⟩) :: t__law_long_right
end DLk71

set_option Elab.async false
set_option linter.all false
set_option maxRecDepth 100000
set_option maxHeartbeats 4000000
/-! k71: fractions, rows, chains -/
namespace DLk71
open PySem PySem.Spec PyProof.Rows L2 DL

theorem gcd_loop (C : SB) (B : SS) (mu : Store) (hC : ∀ x y : Nat, C [some (.int x), some (.int y)] mu = .val (decide (0 < y)) mu) (hB : ∀ x y : Nat, 0 < y → B [some (.int x), some (.int y)] mu = .nx [some (.int y), some (.int (x % y : Nat))] mu) :
    ∀ y x : Nat, sWhile C B [some (.int x), some (.int y)] mu = .nx [some (.int (Nat.gcd x y)), some (.int (0 : Nat))] mu := by
  intro y
  induction y using Nat.strongRecOn with
  | _ y ih =>
    intro x
    rw [sWhile_eq, hC]
    simp only [stB]
    by_cases h : 0 < y
    · simp only [h, decide_true, if_true, hB x y h]
      rw [ih (x % y) (Nat.mod_lt _ h) y, Nat.gcd_comm y, ← Nat.gcd_rec, Nat.gcd_comm]
    · have e : y = 0 := by omega
      subst e
      simp
theorem abs_int (a : Int) : (if a < 0 then -a else a) = (a.natAbs : Int) := by
  split <;> omega
theorem shared_divisor_eq (a b : Int) (mu : Store) : F_shared_divisor [.int a, .int b] mu = .val (.int (Int.gcd a b)) mu := by
  unfold F_shared_divisor fnD b_shared_divisor
  have hl := gcd_loop (bOf (e2 fGt (eVar 1) (eC (.int 0)))) (sSeq (sPar [0, 1] (aCons (eVar 1) (aCons (e2 fMod (eVar 0) (eVar 1)) aNil))) sNil) mu
    (fun x y => by simp) (fun x y h => by
      have h' : (0 : Int) < (y : Int) := by omega
      simp [fMod_i h'])
    b.natAbs a.natAbs
  simp [abs_int, hl]
  exact trim_val rfl
theorem fraction_of_eq (a : Int) {b m : Nat} (h0 : b ≠ 0) (hb : b < 2 ^ m) (hm : m < 9000) (mu : Store) : F_fraction_of [.int a, .int (b : Int)] mu = .val (dF (mkRat a b)) mu := by
  unfold F_fraction_of fnD b_fraction_of
  have g1 : Int.gcd a b ≤ b := Nat.le_of_dvd (by omega) (Int.gcd_dvd_natAbs_right a b)
  have g0 : 0 < Int.gcd a b := Int.gcd_pos_of_ne_zero_right a (by omega)
  have g2 : (Int.gcd a b).log2 < 9000 := Nat.lt_of_le_of_lt (log2_le (Nat.lt_of_le_of_lt g1 hb)) hm
  have hne : ¬ ((b : Int) = 0) := by omega
  have hlt : ¬ ((b : Int) < 0) := by omega
  have hg : (0 : Int) < (Int.gcd a b : Int) := by omega
  simp [h0, hlt, shared_divisor_eq, fDiv_i, hg, g2]
  rw [trim_val (by rfl)]
  congr 1
  rw [← Rat.normalize_eq_mkRat h0, Rat.normalize_eq]
  show _ = D.tup [.int (a / ((a.natAbs.gcd b : Nat) : Int)), .int ((b / a.natAbs.gcd b : Nat) : Int)]
  rfl
theorem timed_eq {p q : Rat} {a b : Nat} (hp : Sz a p) (hq : Sz b q) (h : a + b < 9000) (mu : Store) : F_timed [dF p, dF q] mu = .val (dF (p * q)) mu := by
  unfold F_timed fnD b_timed
  have o1 : okMul p.num q.num = true := okMul_of hp.1 hq.1 (by omega)
  have o2 : okMul p.den q.den = true := okMul_of (i := p.den) (j := q.den) hp.2 hq.2 (by omega)
  have h2 : p.den * q.den < 2 ^ (a + b) := by
    rw [Nat.pow_add]
    exact Nat.mul_lt_mul'' hp.2 hq.2
  have e := fraction_of_eq (p.num * q.num) (Nat.mul_ne_zero p.den_nz q.den_nz) h2 h mu
  rw [Int.natCast_mul] at e
  simp [dF, fIx_t, atI, ixN, fMul_i, o1, o2, e]
  rw [mul_mk]
  exact trim_val rfl
theorem is_less_eq {p q : Rat} {a b : Nat} (hp : Sz a p) (hq : Sz b q) (h : a + b < 9000) (mu : Store) : F_is_less [dF p, dF q] mu = .val (.bl (decide (p < q))) mu := by
  unfold F_is_less fnD b_is_less
  have o1 : okMul p.num q.den = true := okMul_of (j := q.den) hp.1 hq.2 (by omega)
  have o2 : okMul q.num p.den = true := okMul_of (j := p.den) hq.1 hp.2 (by omega)
  simp [dF, fIx_t, atI, ixN, fMul_i, o1, o2]
  rw [trim_val rfl]
  congr 2
  rw [Bool.eq_iff_iff, decide_eq_true_eq, decide_eq_true_eq, Rat.lt_iff]
end DLk71

set_option Elab.async false
set_option linter.all false
set_option maxRecDepth 100000
set_option maxHeartbeats 4000000
namespace DLk71
open PySem PySem.Spec PyProof.Rows L2 DL
theorem is_integer_eq (i : Int) (mu : Store) : F_is_integer [.int i] mu = .val (.bl true) mu := by
  unfold F_is_integer fnD b_is_integer
  simp
  exact trim_val rfl
theorem is_fraction_eq (q : Rat) (mu : Store) : F_is_fraction [dF q] mu = .val (.bl true) mu := by
  unfold F_is_fraction fnD b_is_fraction
  have h1 : eLc false (gSeq (eVar 0)) (gVar 1) cYes (cCall F_is_integer (aCons (eVar 1) aNil)) [1] [some (dF q), none] mu = .val (.lst [.bl true, .bl true]) mu :=
    lc_all (l := [q.num, (q.den : Int)]) (f := fun _ => .bl true) (g := D.int) (by simp) (by simp) fun i hi => ⟨[some (dF q), some (.int i)], by simp, rfl, by simp [is_integer_eq]⟩
  have hd : (0 : Int) < (q.den : Int) := by
    have := q.den_nz
    omega
  have hr : Int.gcd q.num (q.den : Int) = 1 := q.reduced
  have h2 : fAll [.lst [.bl true, .bl true]] mu = .val (.bl true) mu := rfl
  have hd' : 0 < q.den := by omega
  simp [h1, h2, hd', shared_divisor_eq, hr]
  exact trim_val rfl

theorem common_bottom_eq {ps : List Rat} {m : Nat} (h : ∀ q ∈ ps, Sz m q) (hm : m * (ps.length + 1) < 7990) (mu : Store) :
    ∃ B : Nat, 0 < B ∧ B < 2 ^ (m * ps.length + 1) ∧ (∀ q ∈ ps, q.den ∣ B) ∧ F_common_bottom [.tup (ps.map dF)] mu = .val (.int (B : Int)) mu := by
  have key : ∀ (qs : List Rat) (F : Nat) (k : Nat) (x y : Option D), (∀ q ∈ qs, Sz m q) → 0 < F → F < 2 ^ k → k + m * qs.length < 8000 → ∃ (B : Nat) (x' y' : Option D), 0 < B ∧ B < 2 ^ (k + m * qs.length) ∧ F ∣ B ∧ (∀ q ∈ qs, q.den ∣ B) ∧
      forL [] (gTup 2 (gsCons (gVar 2) (gsCons (gVar 3) gsNil))) (sSeq (sAsg (e2 (fMul false) (e2 fDiv (eVar 1) (cCall F_shared_divisor (aCons (eVar 1) (aCons (eVar 3) aNil)))) (eVar 3)) (gVar 1)) sNil) (qs.map dF) [some (.tup (ps.map dF)), some (.int (F : Int)), x, y] mu
        = .nx [some (.tup (ps.map dF)), some (.int (B : Int)), x', y'] mu := by
    intro qs
    induction qs with
    | nil => exact fun F k x y _ h0 h1 _ => ⟨F, x, y, h0, by simpa using h1, Nat.dvd_refl _, by simp, forL_0⟩
    | cons q qs ih =>
      intro F k x y hq h0 h1 hk
      have sq := hq q (by simp)
      have hd : 0 < q.den := Nat.pos_of_ne_zero q.den_nz
      have g0 : 0 < Nat.gcd F q.den := Nat.gcd_pos_of_pos_left _ h0
      have gF : Nat.gcd F q.den ≤ F := Nat.le_of_dvd h0 (Nat.gcd_dvd_left _ _)
      have hl : F / Nat.gcd F q.den * q.den = Nat.lcm F q.den := by
        unfold Nat.lcm
        rw [Nat.mul_comm, ← Nat.mul_div_assoc _ (Nat.gcd_dvd_left _ _), Nat.mul_comm]
      have hb : Nat.lcm F q.den < 2 ^ (k + m) := by
        rw [← hl, Nat.pow_add]
        exact Nat.mul_lt_mul'' (Nat.lt_of_le_of_lt (Nat.div_le_self _ _) h1) sq.2
      simp only [List.length_cons, Nat.mul_add, Nat.mul_one] at hk
      obtain ⟨B, x', y', b1, b2, b3, b4, b5⟩ := ih (Nat.lcm F q.den) (k + m) (some (.int q.num)) (some (.int (q.den : Int))) (fun p hp => hq p (by simp [hp])) (Nat.lcm_pos h0 hd) hb (by omega)
      refine ⟨B, x', y', b1, by simp only [List.length_cons, Nat.mul_add, Nat.mul_one]; rw [show k + (m * qs.length + m) = k + m + m * qs.length by omega]; exact b2, Nat.dvd_trans (Nat.dvd_lcm_left _ _) b3, ?_, ?_⟩
      · intro p hp
        rcases List.mem_cons.mp hp with e | hp
        · rw [e]; exact Nat.dvd_trans (Nat.dvd_lcm_right _ _) b3
        · exact b4 p hp
      · rw [List.map_cons]
        refine (forL_nx (rh1 := [some (.tup (ps.map dF)), some (.int (F : Int)), some (.int q.num), some (.int (q.den : Int))]) (mu1 := mu) (by simp) (.inl ?_)).trans b5
        have e1 : (F : Int) / ((Nat.gcd F q.den : Nat) : Int) = ((F / Nat.gcd F q.den : Nat) : Int) := rfl
        have l1 : (Nat.gcd F q.den).log2 < 9000 := Nat.lt_of_le_of_lt (log2_le (Nat.lt_of_le_of_lt gF h1)) (by omega)
        have o1 : okMul ((F : Int) / ((Nat.gcd F q.den : Nat) : Int)) (q.den : Int) = true := okMul_of (a := k) (b := m) (by rw [e1]; exact Nat.lt_of_le_of_lt (Nat.div_le_self _ _) h1) sq.2 (by omega)
        have e2 : (F : Int) / ((Nat.gcd F q.den : Nat) : Int) * (q.den : Int) = ((Nat.lcm F q.den : Nat) : Int) := by
          rw [e1, ← Int.natCast_mul, hl]
        simp [shared_divisor_eq, fDiv_i, fMul_i, g0, l1, o1, e2]
  obtain ⟨B, x', y', b1, b2, b3, b4, b5⟩ := key ps 1 1 none none h (by omega) (by decide) (by rw [Nat.mul_add] at hm; omega)
  refine ⟨B, b1, by rw [Nat.add_comm]; exact b2, b4, ?_⟩
  unfold F_common_bottom fnD b_common_bottom
  have b5' : forL [] (gTup 2 (gsCons (gVar 2) (gsCons (gVar 3) gsNil))) (sSeq (sAsg (e2 (fMul false) (e2 fDiv (eVar 1) (cCall F_shared_divisor (aCons (eVar 1) (aCons (eVar 3) aNil)))) (eVar 3)) (gVar 1)) sNil) (ps.map dF) [some (.tup (ps.map dF)), some (.int 1), none, none] mu
        = .nx [some (.tup (ps.map dF)), some (.int (B : Int)), x', y'] mu := b5
  simp [b5']
  exact trim_val rfl
end DLk71

set_option Elab.async false
set_option linter.all false
set_option maxRecDepth 100000
set_option maxHeartbeats 4000000
namespace DLk71
open PySem PySem.Spec PyProof.Rows L2 DL
theorem mk_add (a b : Int) {B : Nat} (h : B ≠ 0) : mkRat a B + mkRat b B = mkRat (a + b) B := by
  rw [Rat.mkRat_add_mkRat a b h h, ← Int.add_mul, Rat.mkRat_mul_right h]
theorem mk_of_dvd {q : Rat} {B : Nat} (h0 : B ≠ 0) (h : q.den ∣ B) : mkRat (q.num * ((B / q.den : Nat) : Int)) B = q := by
  obtain ⟨c, rfl⟩ := h
  have hc : c ≠ 0 := fun e => by subst e; simp at h0
  rw [Nat.mul_div_cancel_left _ (Nat.pos_of_ne_zero q.den_nz), Rat.mkRat_mul_right hc, Rat.mkRat_self]
theorem sum_mk {B : Nat} (h0 : B ≠ 0) : ∀ {ps : List Rat}, (∀ q ∈ ps, q.den ∣ B) → mkRat (ps.map fun q => q.num * ((B / q.den : Nat) : Int)).sum B = ps.sum
  | [], _ => by simp [Rat.zero_mkRat]
  | q :: ps, h => by
    rw [List.map_cons, List.sum_cons, List.sum_cons, ← mk_add _ _ h0, mk_of_dvd h0 (h q (by simp)), sum_mk h0 fun p hp => h p (by simp [hp])]
theorem total_of_all_eq {ps : List Rat} {m : Nat} (h : ∀ q ∈ ps, Sz m q) (hl : ps.length ≤ 1000) (hm : m * (ps.length + 1) < 7990) (mu : Store) : F_total_of_all [.tup (ps.map dF)] mu = .val (dF ps.sum) mu := by
  obtain ⟨B, b0, b1, b2, b3⟩ := common_bottom_eq h hm mu
  unfold F_total_of_all fnD b_total_of_all
  have hc : eLc false (gSeq (eVar 0)) (gTup 2 (gsCons (gVar 2) (gsCons (gVar 3) gsNil))) cYes (e2 (fMul false) (eVar 2) (e2 fDiv (eVar 1) (eVar 3))) [2, 3] [some (.tup (ps.map dF)), some (.int (B : Int)), none, none] mu
      = mkL false (ps.map fun q => .int (q.num * ((B : Int) / (q.den : Int)))) mu :=
    lc_all (g := dF) (by simp) (by omega) fun q hq => ⟨[some (.tup (ps.map dF)), some (.int (B : Int)), some (.int q.num), some (.int (q.den : Int))], by simp, rfl, by
      have sq := h q hq
      have hd : 0 < q.den := Nat.pos_of_ne_zero q.den_nz
      have hmm : m * 1 ≤ m * (ps.length + 1) := Nat.mul_le_mul_left m (by omega)
      have l1 : q.den.log2 < 9000 := Nat.lt_of_le_of_lt (log2_le sq.2) (by omega)
      have e1 : (B : Int) / (q.den : Int) = ((B / q.den : Nat) : Int) := rfl
      have hml : m * ps.length ≤ m * (ps.length + 1) := Nat.mul_le_mul_left m (by omega)
      have o1 : okMul q.num ((B : Int) / (q.den : Int)) = true := okMul_of (a := m) (b := m * ps.length + 1) sq.1 (by rw [e1]; exact Nat.lt_of_le_of_lt (Nat.div_le_self _ _) b1) (by omega)
      simp [fDiv_i, fMul_i, hd, l1, o1]⟩
  have hf := fraction_of_eq ((ps.map fun q => q.num * ((B : Int) / (q.den : Int))).sum) (Nat.pos_iff_ne_zero.mp b0) b1 (by
    have hml : m * ps.length ≤ m * (ps.length + 1) := Nat.mul_le_mul_left m (by omega)
    omega) mu
  have e0 : mkRat (ps.map fun q => q.num * ((B : Int) / (q.den : Int))).sum B = ps.sum := sum_mk (Nat.pos_iff_ne_zero.mp b0) b2
  rw [e0] at hf
  have hs := fSum_map (f := fun q : Rat => q.num * ((B : Int) / (q.den : Int))) ps mu
  simp only [mkL_f] at hc
  simp [b3]
  simp [hc, hs, hf]
  exact trim_val rfl

def dRow (rs : List Rat) : D := .tup (rs.map dF)
def dTab (rows : List (List Rat)) : D := .tup (rows.map dRow)
/-- a row of chances -/
structure Row (m n : Nat) (rs : List Rat) : Prop where
  len : rs.length = n
  sz : ∀ q ∈ rs, Sz m q
  nn : ∀ q ∈ rs, 0 ≤ q
  sum : rs.sum = 1
theorem nums_nn {q : Rat} (h : 0 ≤ q) : 0 ≤ q.num := Rat.num_nonneg.mpr h
theorem are_weights_eq {rs : List Rat} (h : ∀ q ∈ rs, 0 ≤ q) (hl : rs.length ≤ 1000) (mu : Store) : F_are_weights [dRow rs, .int rs.length] mu = .val (.bl true) mu := by
  unfold F_are_weights fnD b_are_weights
  have hc : eLc false (gSeq (eVar 0)) (gVar 2) cYes (eAnd (cCall F_is_fraction (aCons (eVar 2) aNil)) (e2 fGe (e2 fIx (eVar 2) (eC (.int 0))) (eC (.int 0)))) [2] [some (.tup (rs.map dF)), some (.int (rs.length : Int)), none] mu
      = mkL false (rs.map fun q => .bl ((fun _ => true) q)) mu :=
    lc_all (g := dF) (by simp) (by omega) fun q hq => ⟨[some (.tup (rs.map dF)), some (.int (rs.length : Int)), some (dF q)], by simp, rfl, by
      simp [is_fraction_eq, nums_nn (h q hq)]⟩
  simp only [mkL_f] at hc
  have hs := fAll_map (f := fun _ : Rat => true) rs mu
  have ha : (rs.all fun _ => true) = true := by simp
  rw [ha] at hs
  simp [dRow, hc, hs]
  exact trim_val rfl
theorem is_row_eq {rs : List Rat} {m n : Nat} (h : Row m n rs) (hl : n ≤ 1000) (hm : m * (n + 1) < 7990) (mu : Store) : F_is_row [dRow rs, .int (n : Int)] mu = .val (.bl true) mu := by
  unfold F_is_row fnD b_is_row
  have l := h.len
  subst l
  have e : fEq (dF 1) (.tup [.int 1, .int 1]) mu = .val (.bl true) mu := by
    rw [← dF_1, fEq_pl (n := 1) (by omega) (dF_pln 0) (dF_pln 0)]
    simp
  have ht := total_of_all_eq h.sz hl hm mu
  rw [h.sum] at ht
  have ha := are_weights_eq h.nn hl mu
  unfold dRow at ha ⊢
  simp [ha, ht, e]
  exact trim_val rfl
theorem are_rows_eq {rows : List (List Rat)} {m n : Nat} (h : ∀ r ∈ rows, Row m n r) (hl : n ≤ 1000) (hr : rows.length ≤ 1000) (hm : m * (n + 1) < 7990) (mu : Store) : F_are_rows [dTab rows, .int (rows.length : Int), .int (n : Int)] mu = .val (.bl true) mu := by
  unfold F_are_rows fnD b_are_rows
  have hc : eLc false (gSeq (eVar 0)) (gVar 3) cYes (cCall F_is_row (aCons (eVar 3) (aCons (eVar 2) aNil))) [3] [some (.tup (rows.map dRow)), some (.int (rows.length : Int)), some (.int (n : Int)), none] mu
      = mkL false (rows.map fun q => .bl ((fun _ => true) q)) mu :=
    lc_all (g := dRow) (by simp) (by omega) fun q hq => ⟨[some (.tup (rows.map dRow)), some (.int (rows.length : Int)), some (.int (n : Int)), some (dRow q)], by simp, rfl, by
      simp [is_row_eq (h q hq) hl hm]⟩
  simp only [mkL_f] at hc
  have hs := fAll_map (f := fun _ : List Rat => true) rows mu
  have ha : (rows.all fun _ => true) = true := by simp
  rw [ha] at hs
  simp [dTab, hc, hs]
  exact trim_val rfl
end DLk71

set_option Elab.async false
set_option linter.all false
set_option maxRecDepth 100000
set_option maxHeartbeats 4000000
namespace DLk71
open PySem PySem.Spec PyProof.Rows L2 DL
theorem low_map {A : Type} {f : A → D} {k : Nat} (h : ∀ a, lowD k (f a) = true) : ∀ l : List A, lowL k (l.map f) = true
  | [] => rfl
  | a :: l => by simp only [List.map_cons, lowL, h, low_map h l, Bool.and_self]
@[simp] theorem dRow_low {rs : List Rat} {k : Nat} : lowD k (dRow rs) = true := by
  unfold dRow
  simp only [lowD]
  exact low_map (fun _ => dF_low) rs
@[simp] theorem dTab_low {rs : List (List Rat)} {k : Nat} : lowD k (dTab rs) = true := by
  unfold dTab
  simp only [lowD]
  exact low_map (fun _ => dRow_low) rs
theorem trim_ins {mu : Store} {c : Nat} {ns : List Str} {ds : List D} (h : lowL mu.length ds = true) : trim mu (.val (.ref mu.length) (mu ++ [.ins c ns ds])) = .val (.ins c ns ds) mu := by
  unfold trim
  simp only
  rw [if_pos (.inl (by rw [List.take_left])) ]
  unfold trV
  rw [if_neg (by simp only [lowD, decide_eq_true_eq]; omega), List.take_left]
  have hm : (mu ++ [DO.ins c ns ds])[mu.length]? = some (.ins c ns ds) := by
    rw [List.getElem?_append_right (Nat.le_refl _), Nat.sub_self]
    rfl
  simp only [hm, h, if_true]
theorem fld_new {cs : List (Nat × List Str)} {f : Str} {g : SE} {d : D} {r : DL.Env} {mu : Store} {c : Nat} {ns : List Str} {ds : List D} (hg : g (some (.ref mu.length) :: r) (mu ++ [.ins c ns ds]) = .val d (mu ++ [.ins c ns ds]))
    (hk : ((cs.any fun q => q.1 == c && q.2.contains f) && decide (ds.length < 100)) = true) :
    sFldSet cs f (eVar 0) g (some (.ref mu.length) :: r) (mu ++ [.ins c ns ds]) = .nx (some (.ref mu.length) :: r) (mu ++ [.ins c (putF1 f d ns ds).1 (putF1 f d ns ds).2]) := by
  have hm : (mu ++ [DO.ins c ns ds])[mu.length]? = some (.ins c ns ds) := by
    rw [List.getElem?_append_right (Nat.le_refl _), Nat.sub_self]
    rfl
  have hs : ∀ x, (mu ++ [DO.ins c ns ds]).set mu.length x = mu ++ [x] := fun x => by
    rw [List.set_append_right _ _ (Nat.le_refl _), Nat.sub_self]
    rfl
  unfold sFldSet
  rw [hg]
  simp only [stB_val, eVar_0, hm, hk, if_true, hs]
def dCh (s : List Rat) (t o : List (List Rat)) : D := .ins 0 ["start", "steps", "shows"] [dRow s, dTab t, dTab o]
/-- the parts of a chain -/
structure Ch (m n z : Nat) (s : List Rat) (t o : List (List Rat)) : Prop where
  s : Row m n s
  tl : t.length = n
  t : ∀ r ∈ t, Row m n r
  ol : o.length = n
  o : ∀ r ∈ o, Row m z r
  n2 : 2 ≤ n
  z2 : 2 ≤ z
  n1 : n ≤ 1000
  z1 : z ≤ 1000
  mn : m * (n + 1) < 7990
  mz : m * (z + 1) < 7990
@[simp] theorem isi_dRow {rs : List Rat} {mu : Store} : fIsi [dRow rs, .ty "tuple"] mu = .val (.bl true) mu := by rfl
@[simp] theorem isi_dTab {rs : List (List Rat)} {mu : Store} : fIsi [dTab rs, .ty "tuple"] mu = .val (.bl true) mu := by rfl
@[simp] theorem len_dRow {rs : List Rat} {mu : Store} : fLen [dRow rs] mu = .val (.int rs.length) mu := by
  show R.val (D.int ((rs.map dF).length : Int)) mu = _
  rw [List.length_map]
@[simp] theorem len_dTab {rs : List (List Rat)} {mu : Store} : fLen [dTab rs] mu = .val (.int rs.length) mu := by
  show R.val (D.int ((rs.map dRow).length : Int)) mu = _
  rw [List.length_map]
theorem ix_dRow {rs : List Rat} {i : Nat} {q : Rat} {mu : Store} (h : rs[i]? = some q) : fIx (dRow rs) (.int (i : Int)) mu = .val (dF q) mu := by
  unfold dRow
  rw [fIx_t, DL.atI_nat (by rw [List.getElem?_map, h]; rfl)]
theorem ix_dTab {rs : List (List Rat)} {i : Nat} {q : List Rat} {mu : Store} (h : rs[i]? = some q) : fIx (dTab rs) (.int (i : Int)) mu = .val (dRow q) mu := by
  unfold dTab
  rw [fIx_t, DL.atI_nat (by rw [List.getElem?_map, h]; rfl)]
theorem dRow_pln {rs : List Rat} : pln 2 (dRow rs) = true := by
  show (rs.map dF).all (pln 1) = true
  rw [List.all_map, List.all_eq_true]
  exact fun q _ => dF_pln 0
theorem dTab_pln {rs : List (List Rat)} : pln 3 (dTab rs) = true := by
  show (rs.map dRow).all (pln 2) = true
  rw [List.all_map, List.all_eq_true]
  exact fun q _ => dRow_pln
theorem Chain_eq {m n z : Nat} {s : List Rat} {t o : List (List Rat)} (h : Ch m n z s t o) (mu : Store) : mkIt 0 true F_Chain_init [dRow s, dTab t, dTab o] mu = .val (dCh s t o) mu := by
  have hs := h.s.len
  have ht := h.tl
  have ho := h.ol
  have n2 := h.n2
  have z2 := h.z2
  obtain ⟨o0, or, he⟩ : ∃ o0 or, o = o0 :: or := by
    cases o with
    | nil => simp at ho; omega
    | cons a b => exact ⟨a, b, rfl⟩
  have ho0 : o0.length = z := (h.o o0 (by simp [he])).len
  have hix : ∀ mu, fIx (dTab o) (.int 0) mu = .val (dRow o0) mu := fun mu => ix_dTab (i := 0) (by rw [he]; rfl)
  have r1 := fun mu => is_row_eq h.s h.n1 h.mn mu
  have r2 := fun mu => are_rows_eq h.t h.n1 (by rw [ht]; exact h.n1) h.mn mu
  have r3 := fun mu => are_rows_eq h.o h.z1 (by rw [ho]; exact h.n1) h.mz mu
  rw [ht] at r2
  rw [ho] at r3
  have hne : ∀ mu, fEq (dTab o) (.tup []) mu = .val (.bl false) mu := fun mu => by
    rw [fEq_pl (n := 3) (by omega) dTab_pln (by rfl)]
    congr 2
    rw [decide_eq_false_iff_not]
    intro e
    rw [he] at e
    unfold dTab at e
    simp at e
  have nl : ¬ ((n : Int) < 2) := by omega
  have zl : ¬ ((z : Int) < 2) := by omega
  unfold mkIt mkI F_Chain_init fnD
  rw [if_pos rfl]
  have hb : b_Chain_init [some (.ref mu.length), some (dRow s), some (dTab t), some (dTab o)] (mu ++ [.ins 0 [] []]) = .nx [some (.ref mu.length), some (dRow s), some (dTab t), some (dTab o)] (mu ++ [.ins 0 ["start", "steps", "shows"] [dRow s, dTab t, dTab o]]) := by
    unfold b_Chain_init
    have f1 := fld_new (mu := mu) (cs := clsF) (f := ("start" : Str)) (g := eVar 1) (d := dRow s) (r := [some (dRow s), some (dTab t), some (dTab o)]) (c := 0) (ns := []) (ds := []) (by simp) (by rfl)
    have f2 := fld_new (mu := mu) (cs := clsF) (f := ("steps" : Str)) (g := eVar 2) (d := dTab t) (r := [some (dRow s), some (dTab t), some (dTab o)]) (c := 0) (ns := ["start"]) (ds := [dRow s]) (by simp) (by rfl)
    have f3 := fld_new (mu := mu) (cs := clsF) (f := ("shows" : Str)) (g := eVar 3) (d := dTab o) (r := [some (dRow s), some (dTab t), some (dTab o)]) (c := 0) (ns := ["start", "steps"]) (ds := [dRow s, dTab t]) (by simp) (by rfl)
    have p1 : putF1 ("start" : Str) (dRow s) [] [] = ((["start"] : List Str), [dRow s]) := by rfl
    have p2 : putF1 ("steps" : Str) (dTab t) ["start"] [dRow s] = ((["start", "steps"] : List Str), [dRow s, dTab t]) := by rfl
    have p3 : putF1 ("shows" : Str) (dTab o) ["start", "steps"] [dRow s, dTab t] = ((["start", "steps", "shows"] : List Str), [dRow s, dTab t, dTab o]) := by rfl
    rw [p1] at f1
    rw [p2] at f2
    rw [p3] at f3
    simp only [sSeq_app, sIf_app, bOr_app, bNot_app, bOf_app, eCall_app, cCall_app, bnd_app, aCons_app, aNil_app, eVar_0, eVar_s, eC_app, ret_app, isi_dRow, isi_dTab, len_dRow, len_dTab, hs, ht, ho, ho0, fLt_i, nl, zl, decide_false, r1, r2, r3, e2_app, eTup_app, List.length_nil, Nat.zero_le, if_true, hne, hix, Bool.not_true, stB_val, Bool.false_eq_true, if_false, sNil_app, f1, f2, f3]
  have hb' : b_Chain_init (List.map some [.ref mu.length, dRow s, dTab t, dTab o] ++ List.replicate (4 - 4) none) (mu ++ [.ins 0 [] []]) = _ := hb
  simp only [List.length_cons, List.length_nil, if_true, hb', Bool.false_eq_true, if_false, fnEnd_nx]
  exact trim_ins (by simp [lowL])
end DLk71

set_option Elab.async false
set_option linter.all false
set_option maxRecDepth 100000
set_option maxHeartbeats 4000000
namespace DLk71
open PySem PySem.Spec PyProof.Rows L2 DL
/-- a course -/
def dC (c : List Nat) : D := .tup (c.map fun (n : Nat) => D.int (n : Int))
def dP (p : P) : D := .tup [dF p.1, dC p.2]
@[simp] theorem ix_dP0 {p : P} {mu : Store} : fIx (dP p) (.int 0) mu = .val (dF p.1) mu := by rfl
@[simp] theorem gt_dP {p : P} {b : SGs} {rh : DL.Env} {mu : Store} : gTup 2 b (dP p) rh mu = b [dF p.1, dC p.2] rh mu := by
  show gTup 2 b (.tup [dF p.1, dC p.2]) rh mu = _
  simp
@[simp] theorem dC_low {c : List Nat} {k : Nat} : lowD k (dC c) = true := by
  unfold dC
  simp only [lowD]
  exact low_map (fun _ => rfl) c
@[simp] theorem dP_low {p : P} {k : Nat} : lowD k (dP p) = true := by
  unfold dP
  simp only [lowD, lowL, dF_low, dC_low, Bool.and_self]
theorem last_get {mu : Store} {x : DO} : (mu ++ [x])[mu.length]? = some x := by
  rw [List.getElem?_append_right (Nat.le_refl _), Nat.sub_self]
  rfl
theorem last_set {mu : Store} {x y : DO} : (mu ++ [x]).set mu.length y = mu ++ [y] := by
  rw [List.set_append_right _ _ (Nat.le_refl _), Nat.sub_self]
  rfl
/-- what can be walked, whatever is made behind the store -/
structure Walks (mu : Store) (d : D) (ds : List D) (gi : List (Nat × List D)) : Prop where
  it : ∀ nu, itOf (mu ++ nu) d = some ⟨ds, gi⟩
  k : ∀ nu, keeps gi (mu ++ nu)
theorem Walks.lst {mu : Store} {ds : List D} : Walks mu (.lst ds) ds [] := ⟨fun _ => rfl, fun _ => keeps_nil⟩
theorem Walks.ref {mu : Store} {n : Nat} {ds : List D} (h : mu[n]? = some (.lst ds)) : Walks mu (.ref n) ds [(n, ds)] := by
  have hh : ∀ nu, (mu ++ nu)[n]? = some (.lst ds) := fun nu => by
    rw [List.getElem?_append_left (List.getElem?_eq_some_iff.mp h).1]
    exact h
  refine ⟨fun nu => ?_, fun nu p hp => ?_⟩
  · unfold itOf
    simp only [hh]
  · rw [List.mem_singleton] at hp
    subst hp
    exact hh nu
theorem ranked_eq {mu : Store} {d : D} {ps : List P} {gi : List (Nat × List D)} {m : Nat} (w : Walks mu d (ps.map dP) gi) (hs : ∀ p ∈ ps, Sz m p.1) (hm : m < 4000) (hl : ps.length ≤ 100000) : F_ranked_pairs [d] mu = .val (.lst ((rk ps).map dP)) mu := by
  have loop : ∀ (qs acc : List P) (x2 x3 x4 : Option D), (∀ p ∈ qs, Sz m p.1) → (∀ p ∈ acc, Sz m p.1) → acc.length + qs.length ≤ 100000 → ∃ y2 y3 y4,
      forL gi (gVar 2) (sSeq (sAsg (eCall fLen (aCons (eLc false (gSeq (eVar 1)) (gVar 4) (bNot (bOf (cCall F_is_less (aCons (e2 fIx (eVar 4) (eC (.int 0))) (aCons (e2 fIx (eVar 2) (eC (.int 0))) aNil))))) (eVar 4) [4]) aNil)) (gVar 3)) (sSeq (sDrop (eMethL fInsert (eVar 1) (aCons (eVar 3) (aCons (eVar 2) aNil)))) sNil)) (qs.map dP)
        [some d, some (.ref mu.length), x2, x3, x4] (mu ++ [.lst (acc.map dP)]) = .nx [some d, some (.ref mu.length), y2, y3, y4] (mu ++ [.lst ((rkFrom acc qs).map dP)]) := by
    intro qs
    induction qs with
    | nil => exact fun acc x2 x3 x4 _ _ _ => ⟨x2, x3, x4, forL_0g (w.k _)⟩
    | cons p qs ih =>
      intro acc x2 x3 x4 hq ha hl
      simp only [List.length_cons] at hl
      have hp := hq p (by simp)
      have hlen : (acc.filter fun o => !decide (o.1 < p.1)).length ≤ acc.length := List.length_filter_le _ _
      have hacc : ∀ q ∈ insP p acc, Sz m q.1 := fun q hq' => by
        rcases List.mem_cons.mp ((insP_perm p acc).mem_iff.mp hq') with e | h
        · rw [e]; exact hp
        · exact ha q h
      have hil : (insP p acc).length = acc.length + 1 := (insP_perm p acc).length_eq
      obtain ⟨y2, y3, y4, e⟩ := ih (insP p acc) (some (dP p)) (some (.int ((acc.filter fun o => !decide (o.1 < p.1)).length : Int))) x4 (fun q h => hq q (by simp [h])) hacc (by omega)
      refine ⟨y2, y3, y4, ?_⟩
      rw [List.map_cons]
      refine (forL_nxg (rh1 := [some d, some (.ref mu.length), some (dP p), x3, x4]) (mu1 := mu ++ [.lst (acc.map dP)]) (w.k _) (by simp) (.inl ?_)).trans e
      have hc : eLc false (gSeq (eVar 1)) (gVar 4) (bNot (bOf (cCall F_is_less (aCons (e2 fIx (eVar 4) (eC (.int 0))) (aCons (e2 fIx (eVar 2) (eC (.int 0))) aNil))))) (eVar 4) [4] [some d, some (.ref mu.length), some (dP p), x3, x4] (mu ++ [.lst (acc.map dP)])
          = mkL false ((acc.filter fun o => !decide (o.1 < p.1)).map dP) (mu ++ [.lst (acc.map dP)]) :=
        lc_someg (gi := [(mu.length, acc.map dP)]) (g := dP) (f := dP) (p := fun o => !decide (o.1 < p.1)) (fun q hq' => by rw [List.mem_singleton] at hq'; subst hq'; exact last_get) (by simp [itOf, last_get]) (by omega) fun o ho =>
          ⟨[some d, some (.ref mu.length), some (dP p), x3, some (dP o)], by simp, by simp [is_less_eq (ha o ho) hp (by omega)], fun _ => by simp⟩
      simp only [mkL_f] at hc
      have k1 : ((acc.filter fun o => !decide (o.1 < p.1)).length : Int) ≤ 1000000 := by omega
      have eq : (List.map dP acc).take (acc.filter fun o => !decide (o.1 < p.1)).length ++ [dP p] ++ (List.map dP acc).drop (acc.filter fun o => !decide (o.1 < p.1)).length = (insP p acc).map dP := by
        unfold insP
        rw [List.map_append, List.map_append, List.map_take, List.map_drop]
        rfl
      simp only [sSeq_app, sAsg_app, eCall_app, bnd_app, aCons_app, hc, aNil_app, ret_app, fLen_l, List.length_map, stB_val, gVar_app, stE_val, List.set_cons_succ, List.set_cons_zero, sDrop_app, eMethL_app, eVar_s, eVar_0, isRefL, last_get, if_true]
      unfold fInsert
      simp only [last_get, List.length_map, putS, last_set, few, Bool.and_eq_true, decide_eq_true_eq]
      rw [if_pos ⟨⟨by omega, by omega⟩, k1⟩]
      simp only [Int.toNat_natCast, eq, stB_val, sNil_app]
  obtain ⟨y2, y3, y4, e⟩ := loop ps [] none none none hs (by simp) (by simpa using hl)
  simp only [List.map_nil] at e
  unfold F_ranked_pairs fnD b_ranked_pairs
  have hi := w.it [.lst []]
  simp [hi, e]
  exact trim_lst (Nat.le_refl _) last_get (low_map (fun _ => dP_low) _)
end DLk71

set_option Elab.async false
set_option linter.all false
set_option maxRecDepth 100000
set_option maxHeartbeats 4000000
namespace DLk71
open PySem PySem.Spec PyProof.Rows L2 DL
def gR (r : List Rat) (i : Nat) : Rat := r.getD i 0
def gT (t : List (List Rat)) (i : Nat) : List Rat := t.getD i []
/-- the chance of a sign at a case: 1 where it is not seen -/
def shw (o : List (List Rat)) (c : Nat) : Option Nat → Rat
  | none => 1
  | some k => gR (gT o c) k
def ent (s : List Rat) (t : List (List Rat)) (prev : Option Nat) (c : Nat) : Rat := match prev with
  | none => gR s c
  | some p => gR (gT t p) c
def dS : Option Nat → D
  | none => .non
  | some k => .int (k : Int)
def okS (z : Nat) : Option Nat → Prop
  | none => True
  | some k => k < z
section
variable {m n z : Nat} {s : List Rat} {t o : List (List Rat)} (h : Ch m n z s t o)
include h
theorem Ch.tg {p : Nat} (hp : p < n) : t[p]? = some (gT t p) ∧ Row m n (gT t p) := by
  have hl : p < t.length := by rw [h.tl]; exact hp
  have e : gT t p = t[p] := by unfold gT; rw [List.getD_eq_getElem?_getD, List.getElem?_eq_getElem hl]; rfl
  exact ⟨by rw [e]; exact List.getElem?_eq_getElem hl, by rw [e]; exact h.t _ (List.getElem_mem hl)⟩
theorem Ch.og {p : Nat} (hp : p < n) : o[p]? = some (gT o p) ∧ Row m z (gT o p) := by
  have hl : p < o.length := by rw [h.ol]; exact hp
  have e : gT o p = o[p] := by unfold gT; rw [List.getD_eq_getElem?_getD, List.getElem?_eq_getElem hl]; rfl
  exact ⟨by rw [e]; exact List.getElem?_eq_getElem hl, by rw [e]; exact h.o _ (List.getElem_mem hl)⟩
omit h in
theorem Row.g {k : Nat} {r : List Rat} (hr : Row m k r) {i : Nat} (hi : i < k) : r[i]? = some (gR r i) ∧ Sz m (gR r i) ∧ 0 ≤ gR r i := by
  have hl : i < r.length := by rw [hr.len]; exact hi
  have e : gR r i = r[i] := by unfold gR; rw [List.getD_eq_getElem?_getD, List.getElem?_eq_getElem hl]; rfl
  exact ⟨by rw [e]; exact List.getElem?_eq_getElem hl, by rw [e]; exact hr.sz _ (List.getElem_mem hl), by rw [e]; exact hr.nn _ (List.getElem_mem hl)⟩
theorem Ch.m1 : 1 ≤ m := by
  have h0 := h.s
  have := h0.g (i := 0) (by have := h.n2; omega)
  have := this.2.1.2
  have hd := Nat.pos_of_ne_zero (gR s 0).den_nz
  by_cases e : m = 0
  · subst e
    simp at this
    omega
  · omega
theorem Ch.shw_sz {c : Nat} {sg : Option Nat} (hc : c < n) (hs : okS z sg) : Sz m (shw o c sg) ∧ 0 ≤ shw o c sg := by
  cases sg with
  | none =>
    have := h.m1
    have h2 : 2 ^ 1 ≤ 2 ^ m := Nat.pow_le_pow_right (by omega) this
    exact ⟨⟨by show 1 < 2 ^ m; omega, by show 1 < 2 ^ m; omega⟩, by show (0 : Rat) ≤ 1; decide⟩
  | some k =>
    have := (h.og hc).2.g (i := k) hs
    exact ⟨this.2.1, this.2.2⟩
theorem Ch.ent_sz {prev : Option Nat} {c : Nat} (hp : ∀ p, prev = some p → p < n) (hc : c < n) : Sz m (ent s t prev c) ∧ 0 ≤ ent s t prev c := by
  cases prev with
  | none =>
    have := h.s.g hc
    exact ⟨this.2.1, this.2.2⟩
  | some p =>
    have := (h.tg (hp p rfl)).2.g hc
    exact ⟨this.2.1, this.2.2⟩
theorem show_at_eq {c : Nat} {sg : Option Nat} (hc : c < n) (hs : okS z sg) (mu : Store) : F_show_at [dCh s t o, .int (c : Int), dS sg] mu = .val (dF (shw o c sg)) mu := by
  unfold F_show_at fnD b_show_at
  have f1 : fFld clsF ("shows" : Str) (dCh s t o) mu = .val (dTab o) mu := by rfl
  cases sg with
  | none =>
    simp [dS, D.isN]
    rw [← dF_1]
    exact trim_val rfl
  | some k =>
    have e1 := ix_dTab (mu := mu) (h.og hc).1
    have e2 := ix_dRow (mu := mu) ((h.og hc).2.g (i := k) hs).1
    simp [dS, D.isN, f1, e1, e2]
    exact trim_val rfl
theorem cases_in_eq (mu : Store) : F_cases_in [dCh s t o] mu = .val (.tup ((List.range n).map fun (i : Nat) => D.int (i : Int))) mu := by
  unfold F_cases_in fnD b_cases_in
  have f1 : fFld clsF ("start" : Str) (dCh s t o) mu = .val (dRow s) mu := by rfl
  have n1 := h.n1
  have ok : okRg 0 (n : Int) = true := by
    unfold okRg
    simp
    omega
  have e : rgD 0 (n : Int) = (List.range n).map fun (i : Nat) => D.int (i : Int) := by
    unfold DL.rgD
    simp
  simp [eTupRg, DL.r1, f1, h.s.len, ok, e]
  exact trim_val (by simp only [lowD]; exact low_map (fun _ => rfl) _)
omit h in
theorem dC_pln {w : List Nat} (k : Nat) : pln (k + 1) (dC w) = true := by
  show (w.map fun (n : Nat) => D.int (n : Int)).all (pln k) = true
  rw [List.all_map, List.all_eq_true]
  intro x _
  cases k <;> rfl
omit h in
theorem ix_last {w : List Nat} {p : Nat} {mu : Store} : fIx (dC (w ++ [p])) (.int (-1)) mu = .val (.int (p : Int)) mu := by
  unfold dC
  rw [fIx_t, List.map_append]
  have : atI (w.map (fun (n : Nat) => D.int (n : Int)) ++ [p].map fun (n : Nat) => D.int (n : Int)) (-1) = some (.int (p : Int)) := by
    unfold atI ixN
    simp
    have e : (-1 + ((w.length : Int) + 1)).toNat = w.length := by omega
    have h1 : (1 : Int) ≤ (w.length : Int) + 1 := by omega
    rw [if_pos h1, e]
    show (List.map (fun (n : Nat) => D.int (n : Int)) w ++ [D.int (p : Int)])[w.length]? = _
    rw [List.getElem?_append_right (by simp)]
    simp
  rw [this]
theorem entry_share_eq {w : List Nat} {c : Nat} (hw : ∀ p ∈ w, p < n) (hc : c < n) (mu : Store) : F_entry_share [dCh s t o, dC w, .int (c : Int)] mu = .val (dF (ent s t w.getLast? c)) mu := by
  unfold F_entry_share fnD b_entry_share
  have f1 : fFld clsF ("start" : Str) (dCh s t o) mu = .val (dRow s) mu := by rfl
  have f2 : fFld clsF ("steps" : Str) (dCh s t o) mu = .val (dTab t) mu := by rfl
  rcases List.eq_nil_or_concat w with e | ⟨u, p, e⟩
  · subst e
    have e1 := ix_dRow (mu := mu) (h.s.g hc).1
    have e0 : fEq (dC []) (.tup []) mu = .val (.bl true) mu := by
      rw [fEq_pl (n := 1) (by omega) (dC_pln 0) rfl]
      simp [dC]
    simp [f1, e0, e1]
    exact trim_val rfl
  · rw [List.concat_eq_append] at e
    subst e
    have hp := hw p (by simp)
    have e0 : fEq (dC (u ++ [p])) (.tup []) mu = .val (.bl false) mu := by
      rw [fEq_pl (n := 1) (by omega) (dC_pln 0) rfl]
      simp [dC]
    have e1 := ix_dTab (mu := mu) (h.tg hp).1
    have e2 := ix_dRow (mu := mu) ((h.tg hp).2.g hc).1
    have e3 := ix_last (w := u) (p := p) (mu := mu)
    simp [f2, e0, e1, e2, e3]
    exact trim_val rfl
end
/-- the share of a course, from the left -/
def prl (s : List Rat) (t o : List (List Rat)) : Rat → Option Nat → List (Option Nat) → List Nat → Rat
  | f, prev, sg :: ss, c :: w => prl s t o (f * ent s t prev c * shw o c sg) (some c) ss w
  | f, _, _, _ => f
def dSeen (ss : List (Option Nat)) : D := .tup (ss.map dS)
theorem ix_seen {ss : List (Option Nat)} {i : Nat} {sg : Option Nat} {mu : Store} (h : ss[i]? = some sg) : fIx (dSeen ss) (.int (i : Int)) mu = .val (dS sg) mu := by
  unfold dSeen
  rw [fIx_t, DL.atI_nat (by rw [List.getElem?_map, h]; rfl)]
theorem cut_dC {u v : List Nat} {rh : DL.Env} {mu : Store} {a i : Nat} (ha : rh[a]? = some (some (dC (u ++ v)))) (hi : rh[i]? = some (some (.int (u.length : Int)))) : eSl false (eVar a) oNone (oSome (eVar i)) rh mu = .val (dC u) mu := by
  unfold eSl oNone oSome
  simp only [bnd_app, eVar_app ha, eVar_app hi, ret_app]
  show R.val (D.tup (DL.cutD _ _ _)) mu = _
  unfold dC DL.cutD HT.sIx
  have h0 : ¬ ((u.length : Int) < 0) := by omega
  simp [h0]
theorem course_share_eq {m n z : Nat} {s : List Rat} {t o : List (List Rat)} (h : Ch m n z s t o) {ss : List (Option Nat)} {w : List Nat} (hss : ∀ x ∈ ss, okS z x) (hw : ∀ p ∈ w, p < n) (hl : ss.length = w.length) (hm : 1 + 2 * m * (w.length + 1) < 4000) (hll : w.length ≤ 1000) (mu : Store) :
    F_course_share [dCh s t o, dSeen ss, dC w] mu = .val (dF (prl s t o 1 none ss w)) mu := by
  have loop : ∀ (v u : List Nat) (f : Rat) (ssv : List (Option Nat)) (x4 x5 : Option D) (ssu : List (Option Nat)), w = u ++ v → ss = ssu ++ ssv → ssu.length = u.length → Sz (1 + 2 * m * u.length) f → ∃ y4 y5,
      forL [] (gTup 2 (gsCons (gVar 4) (gsCons (gVar 5) gsNil))) (sSeq (sAsg (cCall F_timed (aCons (cCall F_timed (aCons (eVar 3) (aCons (cCall F_entry_share (aCons (eVar 0) (aCons (eSl false (eVar 2) oNone (oSome (eVar 4))) (aCons (eVar 5) aNil)))) aNil))) (aCons (cCall F_show_at (aCons (eVar 0) (aCons (eVar 5) (aCons (e2 fIx (eVar 1) (eVar 4)) aNil)))) aNil))) (gVar 3)) sNil)
        (numD u.length (v.map fun (n : Nat) => D.int (n : Int))) [some (dCh s t o), some (dSeen ss), some (dC w), some (dF f), x4, x5] mu = .nx [some (dCh s t o), some (dSeen ss), some (dC w), some (dF (prl s t o f u.getLast? ssv v)), y4, y5] mu := by
    intro v
    induction v with
    | nil =>
      intro u f ssv x4 x5 ssu hw' hs' hlu hf
      refine ⟨x4, x5, ?_⟩
      have e : prl s t o f u.getLast? ssv [] = f := by cases ssv <;> rfl
      rw [e]
      exact forL_0
    | cons c v ih =>
      intro u f ssv x4 x5 ssu hw' hs' hlu hf
      have hlv : ssv.length = v.length + 1 := by
        have := congrArg List.length hw'
        have h2 := congrArg List.length hs'
        simp at this h2
        omega
      obtain ⟨sg, ssv', rfl⟩ : ∃ sg r, ssv = sg :: r := by
        cases ssv with
        | nil => simp at hlv
        | cons a b => exact ⟨a, b, rfl⟩
      have hc : c < n := hw c (by rw [hw']; simp)
      have hsg : okS z sg := hss sg (by rw [hs']; simp)
      have hu : ∀ p ∈ u, p < n := fun p hp => hw p (by rw [hw']; simp [hp])
      have hprev : ∀ p, u.getLast? = some p → p < n := fun p hp => hu p (List.mem_of_getLast? hp)
      have z1 := (h.ent_sz hprev hc).1
      have z2 := (h.shw_sz hc hsg).1
      have hlen : u.length + 1 ≤ w.length := by
        have := congrArg List.length hw'
        simp at this
        omega
      have hmm : 2 * m * (u.length + 1) ≤ 2 * m * (w.length + 1) := Nat.mul_le_mul_left _ (by omega)
      have e5 : 2 * m * (u.length + 1) = 2 * m * u.length + 2 * m := by rw [Nat.mul_add, Nat.mul_one]
      have szn : Sz (1 + 2 * m * (u ++ [c]).length) (f * ent s t u.getLast? c * shw o c sg) := by
        rw [List.length_append]
        show Sz (1 + 2 * m * (u.length + 1)) _
        rw [show 1 + 2 * m * (u.length + 1) = (1 + 2 * m * u.length + m) + m by omega]
        exact (hf.mul z1).mul z2
      obtain ⟨y4, y5, e⟩ := ih (u ++ [c]) (f * ent s t u.getLast? c * shw o c sg) ssv' (some (.int (u.length : Int))) (some (.int (c : Int))) (ssu ++ [sg]) (by rw [hw', List.append_assoc]; rfl) (by rw [hs', List.append_assoc]; rfl) (by simp [hlu]) szn
      refine ⟨y4, y5, ?_⟩
      rw [List.map_cons, numD]
      have e' := e
      rw [List.length_append, List.getLast?_append] at e'
      refine (forL_nx (rh1 := [some (dCh s t o), some (dSeen ss), some (dC w), some (dF f), some (.int (u.length : Int)), some (.int (c : Int))]) (mu1 := mu) (by simp) (.inl ?_)).trans (e'.trans ?_)
      · have t1 := timed_eq hf z1 (by omega) mu
        have t2 := timed_eq (hf.mul z1) z2 (by omega) mu
        have e1 := entry_share_eq h hu hc mu
        have e2 := show_at_eq h hc hsg mu
        have e3 := ix_seen (ss := ss) (i := u.length) (sg := sg) (mu := mu) (by rw [hs', List.getElem?_append_right (by omega), hlu, Nat.sub_self]; rfl)
        have e4 := cut_dC (u := u) (v := c :: v) (rh := [some (dCh s t o), some (dSeen ss), some (dC w), some (dF f), some (.int (u.length : Int)), some (.int (c : Int))]) (mu := mu) (a := 2) (i := 4) (by rw [← hw']; rfl) rfl
        simp [e1, e2, e3, e4, t1, t2]
      · simp [prl]
  unfold F_course_share fnD b_course_share
  obtain ⟨y4, y5, e⟩ := loop w [] 1 ss none none [] rfl rfl rfl ⟨by show 1 < 2 ^ (1 + 2 * m * 0); simp, by show 1 < 2 ^ (1 + 2 * m * 0); simp⟩
  simp only [List.length_nil, List.getLast?_nil] at e
  have g : gEn (aCons (eVar 2) aNil) [some (dCh s t o), some (dSeen ss), some (dC w), some (dF 1), none, none] mu = .val ⟨numD 0 (w.map fun (n : Nat) => D.int (n : Int)), []⟩ mu := by
    rfl
  have d1 : (D.tup [D.int 1, D.int 1]) = dF 1 := rfl
  simp [d1, g, e]
  exact trim_val rfl
end DLk71

set_option Elab.async false
set_option linter.all false
set_option maxRecDepth 100000
set_option maxHeartbeats 4000000
namespace DLk71
open PySem PySem.Spec PyProof.Rows L2 DL
theorem is_number_eq (i : Int) (mu : Store) : F_is_number [.int i] mu = .val (.bl (decide (0 ≤ i))) mu := by
  unfold F_is_number fnD b_is_number
  simp [is_integer_eq]
  exact trim_val rfl
theorem need_ok {i : Int} (h0 : 0 ≤ i) (h1 : i ≤ 1000) (mu : Store) : F_need_many [.int i] mu = .val .non mu := by
  unfold F_need_many fnD b_need_many
  have h2 : ¬ (1000 < i) := by omega
  simp [is_number_eq, h0, h2]
  exact trim_val rfl
def dE (l : List P) : D := .lst (l.map dP)
@[simp] theorem dE_low {l : List P} {k : Nat} : lowD k (dE l) = true := by
  unfold dE
  simp only [lowD]
  exact low_map (fun _ => dP_low) l
@[simp] theorem it_dE {l : List P} {mu : Store} : itOf mu (dE l) = some ⟨l.map dP, []⟩ := rfl
/-- the endings from a case before them -/
def extE (k : Rat) (c : Nat) (E : List P) : List P := (E.map fun p => (k * p.1, c :: p.2)).filter fun p => !decide (p.1 = 0)
open Classical in
theorem dec_dF {q : Rat} : decide (dF q = dF 0) = decide (q = 0) := by
  rw [Bool.eq_iff_iff, decide_eq_true_eq, decide_eq_true_eq]
  exact ⟨dF_inj, fun h => by rw [h]⟩
theorem ne_dF {q : Rat} {mu : Store} : fNe (dF q) (.tup [.int 0, .int 1]) mu = .val (.bl (!decide (q = 0))) mu := by
  rw [← dF_0, fNe_pl (n := 1) (by omega) (dF_pln 0) (dF_pln 0)]
  congr 3
  rw [dec_dF]
theorem eq_dF {q : Rat} {mu : Store} : fEq (dF q) (.tup [.int 0, .int 1]) mu = .val (.bl (decide (q = 0))) mu := by
  rw [← dF_0, fEq_pl (n := 1) (by omega) (dF_pln 0) (dF_pln 0)]
  congr 2
  rw [dec_dF]
theorem app_last {mu : Store} {es : List D} {e : D} (h : es.length ≤ 1000000) : fAppend (.ref mu.length) [e] (mu ++ [.lst es]) = .val .non (mu ++ [.lst (es ++ [e])]) := by
  unfold fAppend
  simp only [last_get, few_s, putS, last_set]
  rw [if_pos h]
theorem sl_take {ds : List D} {k : Nat} {g : SE} {rh : DL.Env} {mu mu' : Store} {i : Nat} (hg : g rh mu = .val (.lst ds) mu') (hi : rh[i]? = some (some (.int (k : Int)))) : eSl false g oNone (oSome (eVar i)) rh mu = .val (.lst (ds.take k)) mu' := by
  unfold eSl oNone oSome
  simp only [bnd_app, hg, eVar_app hi, ret_app]
  show R.val (D.lst (DL.cutD _ _ _)) mu' = _
  unfold DL.cutD HT.sIx
  have h0 : ¬ ((k : Int) < 0) := by omega
  simp [h0]
def isLR : D → Bool
  | .lst _ => true
  | .ref _ => true
  | _ => false
theorem gEn_eq {rh : DL.Env} {mu : Store} {i : Nat} {d : D} {ds : List D} {gi : List (Nat × List D)} (hi : rh[i]? = some (some d)) (hd : isLR d = true) (h : itOf mu d = some ⟨ds, gi⟩) : gEn (aCons (eVar i) aNil) rh mu = .val ⟨numD 0 ds, gi⟩ mu := by
  unfold gEn
  simp only [bnd_app, aCons_app, eVar_app hi, aNil_app, ret_app, h]
  cases d <;> first | rfl | cases hd
theorem best_endings_eq {m n z : Nat} {s : List Rat} {t o : List (List Rat)} (h : Ch m n z s t o) {sg : Option Nat} {c many k : Nat} {en : List (List P)} {mu : Store} {d : D} {gi : List (Nat × List D)} (hc : c < n) (hs : okS z sg) (w : Walks mu d (en.map dE) gi) (hd : isLR d = true)
    (hen : en.length = n) (hsz : ∀ l ∈ en, ∀ p ∈ l, Sz k p.1) (hk : k + 2 * m < 3000) (hlen : (en.map List.length).sum ≤ 100000) (hcl : ∀ l ∈ en, ∀ p ∈ l, p.2.length ≤ 1000) :
    F_best_endings [dCh s t o, dS sg, .int (c : Int), d, .int (many : Int)] mu = .val (dE ((rk ((List.range n).map fun a => extE (shw o c sg * gR (gT t c) a) c (en.getD a [])).flatten).take many)) mu := by
  have f2 : ∀ mu, fFld clsF ("steps" : Str) (dCh s t o) mu = .val (dTab t) mu := fun mu => by rfl
  have inner : ∀ (a : Nat) (l : List P) (acc : List P) (d8 : D) (x9 x10 x11 : Option D), a < n → (∀ p ∈ l, Sz k p.1 ∧ p.2.length ≤ 1000) → acc.length + l.length ≤ 100000 → ∃ y9 y10 y11,
      forL [] (gTup 2 (gsCons (gVar 9) (gsCons (gVar 10) gsNil)))
        (sSeq (sAsg (cCall F_timed (aCons (cCall F_timed (aCons (eVar 5) (aCons (e2 fIx (e2 fIx (e1 (fFld clsF ("steps" : Str)) (eVar 0)) (eVar 2)) (eVar 7)) aNil))) (aCons (eVar 9) aNil))) (gVar 11))
          (sSeq (sIf (bOf (e2 fNe (eVar 11) (eC (.tup [.int 0, .int 1])))) (sSeq (sDrop (eMethL fAppend (eVar 6) (aCons (eTup (aCons (eVar 11) (aCons (e2 (fAdd false) (eTup (aCons (eVar 2) aNil)) (eVar 10)) aNil))) aNil))) sNil) sNil) sNil))
        (l.map dP) [some (dCh s t o), some (dS sg), some (.int (c : Int)), some d, some (.int (many : Int)), some (dF (shw o c sg)), some (.ref mu.length), some (.int (a : Int)), some d8, x9, x10, x11] (mu ++ [.lst (acc.map dP)])
      = .nx [some (dCh s t o), some (dS sg), some (.int (c : Int)), some d, some (.int (many : Int)), some (dF (shw o c sg)), some (.ref mu.length), some (.int (a : Int)), some d8, y9, y10, y11] (mu ++ [.lst ((acc ++ extE (shw o c sg * gR (gT t c) a) c l).map dP)]) := by
    intro a l
    induction l with
    | nil => exact fun acc d8 x9 x10 x11 _ _ _ => ⟨x9, x10, x11, by simp only [extE, List.map_nil, List.filter_nil, List.append_nil]; exact forL_0⟩
    | cons p l ih =>
      intro acc d8 x9 x10 x11 ha hp hl
      simp only [List.length_cons] at hl
      have z1 := (h.shw_sz hc hs).1
      have z2 := ((h.tg hc).2.g ha).2.1
      have z3 := (hp p (by simp)).1
      have z4 := (hp p (by simp)).2
      have t1 := fun mu => timed_eq z1 z2 (by omega) mu
      have t2 := fun mu => timed_eq (z1.mul z2) z3 (by omega) mu
      have e1 := fun mu => ix_dTab (mu := mu) (h.tg hc).1
      have e2 := fun mu => ix_dRow (mu := mu) ((h.tg hc).2.g ha).1
      have hx : extE (shw o c sg * gR (gT t c) a) c (p :: l) = (if shw o c sg * gR (gT t c) a * p.1 = 0 then [] else [(shw o c sg * gR (gT t c) a * p.1, c :: p.2)]) ++ extE (shw o c sg * gR (gT t c) a) c l := by
        unfold extE
        rw [List.map_cons, List.filter_cons]
        by_cases q : shw o c sg * gR (gT t c) a * p.1 = 0
        · simp [q]
        · simp [q]
      obtain ⟨y9, y10, y11, e⟩ := ih (acc ++ (if shw o c sg * gR (gT t c) a * p.1 = 0 then [] else [(shw o c sg * gR (gT t c) a * p.1, c :: p.2)])) d8 (some (dF p.1)) (some (dC p.2)) (some (dF (shw o c sg * gR (gT t c) a * p.1))) ha (fun q hq => hp q (by simp [hq])) (by
        rw [List.length_append]
        split
        · simp; omega
        · simp; omega)
      rw [List.append_assoc, ← hx] at e
      refine ⟨y9, y10, y11, ?_⟩
      rw [List.map_cons]
      refine (forL_nx (rh1 := [some (dCh s t o), some (dS sg), some (.int (c : Int)), some d, some (.int (many : Int)), some (dF (shw o c sg)), some (.ref mu.length), some (.int (a : Int)), some d8, some (dF p.1), some (dC p.2), x11]) (mu1 := mu ++ [.lst (acc.map dP)]) (by simp) (.inl ?_)).trans e
      by_cases q : shw o c sg * gR (gT t c) a * p.1 = 0
      · simp [f2, e1, e2, t1, t2, ne_dF, q]
      · have hdp : D.tup [dF (shw o c sg * gR (gT t c) a * p.1), .tup (D.int (c : Int) :: p.2.map fun (n : Nat) => D.int (n : Int))] = dP (shw o c sg * gR (gT t c) a * p.1, c :: p.2) := rfl
        have hadd : ∀ mu, fAdd false (.tup [.int (c : Int)]) (dC p.2) mu = .val (.tup (D.int (c : Int) :: p.2.map fun (n : Nat) => D.int (n : Int))) mu := fun mu => by
          unfold dC
          rw [fAdd_t, if_pos (by simp; omega)]
          rfl
        have happ := app_last (mu := mu) (es := acc.map dP) (e := dP (shw o c sg * gR (gT t c) a * p.1, c :: p.2)) (by rw [List.length_map]; omega)
        simp only [q, if_false, List.map_append, List.map_cons, List.map_nil]
        simp [f2, e1, e2, t1, t2, ne_dF, q, hadd, hdp, isRefL, last_get, happ]
  have outer : ∀ (post : List (List P)) (i : Nat) (acc : List P) (x7 x8 x9 x10 x11 : Option D), i + post.length = n → (∀ l ∈ post, ∀ p ∈ l, Sz k p.1 ∧ p.2.length ≤ 1000) → acc.length + (post.map List.length).sum ≤ 100000 → (∀ j, j < post.length → en.getD (i + j) [] = post.getD j []) → ∃ y7 y8 y9 y10 y11,
      forL gi (gTup 2 (gsCons (gVar 7) (gsCons (gVar 8) gsNil))) (sSeq (sFor (gSeq (eVar 8)) (gTup 2 (gsCons (gVar 9) (gsCons (gVar 10) gsNil)))
        (sSeq (sAsg (cCall F_timed (aCons (cCall F_timed (aCons (eVar 5) (aCons (e2 fIx (e2 fIx (e1 (fFld clsF ("steps" : Str)) (eVar 0)) (eVar 2)) (eVar 7)) aNil))) (aCons (eVar 9) aNil))) (gVar 11))
          (sSeq (sIf (bOf (e2 fNe (eVar 11) (eC (.tup [.int 0, .int 1])))) (sSeq (sDrop (eMethL fAppend (eVar 6) (aCons (eTup (aCons (eVar 11) (aCons (e2 (fAdd false) (eTup (aCons (eVar 2) aNil)) (eVar 10)) aNil))) aNil))) sNil) sNil) sNil))) sNil)
        (numD i (post.map dE)) [some (dCh s t o), some (dS sg), some (.int (c : Int)), some d, some (.int (many : Int)), some (dF (shw o c sg)), some (.ref mu.length), x7, x8, x9, x10, x11] (mu ++ [.lst (acc.map dP)])
      = .nx [some (dCh s t o), some (dS sg), some (.int (c : Int)), some d, some (.int (many : Int)), some (dF (shw o c sg)), some (.ref mu.length), y7, y8, y9, y10, y11]
        (mu ++ [.lst ((acc ++ ((List.range' i post.length).map fun a => extE (shw o c sg * gR (gT t c) a) c (en.getD a [])).flatten).map dP)]) := by
    intro post
    induction post with
    | nil => exact fun i acc x7 x8 x9 x10 x11 _ _ _ _ => ⟨x7, x8, x9, x10, x11, by simp only [List.map_nil, numD, List.length_nil, List.range'_zero, List.flatten_nil, List.append_nil]; exact forL_0g (w.k _)⟩
    | cons l post ih =>
      intro i acc x7 x8 x9 x10 x11 hi hp hl hen'
      simp only [List.length_cons] at hi
      simp only [List.map_cons, List.sum_cons] at hl
      obtain ⟨y9, y10, y11, e⟩ := inner i l acc (dE l) x9 x10 x11 (by omega) (hp l (by simp)) (by omega)
      have hle : (extE (shw o c sg * gR (gT t c) i) c l).length ≤ l.length := by
        unfold extE
        exact Nat.le_trans (List.length_filter_le _ _) (by rw [List.length_map]; exact Nat.le_refl _)
      obtain ⟨z7, z8, z9, z10, z11, e2⟩ := ih (i + 1) (acc ++ extE (shw o c sg * gR (gT t c) i) c l) (some (.int (i : Int))) (some (dE l)) y9 y10 y11 (by omega) (fun q hq => hp q (by simp [hq])) (by rw [List.length_append]; omega) (fun j hj => by
        have := hen' (j + 1) (by simp; omega)
        rw [show i + 1 + j = i + (j + 1) by omega, this]
        rfl)
      refine ⟨z7, z8, z9, z10, z11, ?_⟩
      have h0 := hen' 0 (by simp)
      rw [Nat.add_zero] at h0
      have h0 : en.getD i [] = l := h0
      have hr : acc ++ ((List.range' i (l :: post).length).map fun a => extE (shw o c sg * gR (gT t c) a) c (en.getD a [])).flatten = acc ++ extE (shw o c sg * gR (gT t c) i) c l ++ ((List.range' (i + 1) post.length).map fun a => extE (shw o c sg * gR (gT t c) a) c (en.getD a [])).flatten := by
        rw [List.length_cons, List.range'_succ, List.map_cons, List.flatten_cons, h0, List.append_assoc]
      rw [hr, List.map_cons, numD]
      refine (forL_nxg (rh1 := [some (dCh s t o), some (dS sg), some (.int (c : Int)), some d, some (.int (many : Int)), some (dF (shw o c sg)), some (.ref mu.length), some (.int (i : Int)), some (dE l), x9, x10, x11]) (mu1 := mu ++ [.lst (acc.map dP)]) (w.k _) (by simp) (.inl ?_)).trans e2
      simp [e]
  obtain ⟨y7, y8, y9, y10, y11, e⟩ := outer en 0 [] none none none none none (by omega) (fun l hl p hp => ⟨hsz l hl p hp, hcl l hl p hp⟩) (by simpa using hlen) (fun j _ => by rw [Nat.zero_add])
  unfold F_best_endings fnD b_best_endings
  have e1 := fun mu => show_at_eq h hc hs mu
  have hi := w.it [.lst []]
  have hg : gEn (aCons (eVar 3) aNil) [some (dCh s t o), some (dS sg), some (.int (c : Int)), some d, some (.int (many : Int)), some (dF (shw o c sg)), some (.ref mu.length), none, none, none, none, none] (mu ++ [.lst []]) = _ := gEn_eq (i := 3) rfl hd hi
  rw [hen, ← List.range_eq_range', List.nil_append] at e
  simp only [List.map_nil] at e
  generalize hF : ((List.range n).map fun a => extE (shw o c sg * gR (gT t c) a) c (en.getD a [])).flatten = found at e
  have hfs : ∀ p ∈ found, Sz (2 * m + k) p.1 := by
    rw [← hF]
    intro p hp
    obtain ⟨l, hl, hpl⟩ := List.mem_flatten.mp hp
    obtain ⟨a, ha, rfl⟩ := List.mem_map.mp hl
    have ha := List.mem_range.mp ha
    obtain ⟨q, hq, rfl⟩ := List.mem_map.mp (List.mem_filter.mp hpl).1
    have hq' : q ∈ en[a]'(by omega) := by
      have e0 : en.getD a [] = en[a]'(by omega) := by rw [List.getD_eq_getElem?_getD, List.getElem?_eq_getElem (by omega)]; rfl
      rw [e0] at hq
      exact hq
    have z1 := (h.shw_sz hc hs).1
    have z2 := ((h.tg hc).2.g ha).2.1
    have := (z1.mul z2).mul (hsz _ (List.getElem_mem _) q hq')
    exact this.mono (by omega)
  have hfl : found.length ≤ 100000 := by
    have gen : ∀ (post : List (List P)) (i : Nat), (∀ j, j < post.length → en.getD (i + j) [] = post.getD j []) → (((List.range' i post.length).map fun a => extE (shw o c sg * gR (gT t c) a) c (en.getD a [])).flatten).length ≤ (post.map List.length).sum := by
      intro post
      induction post with
      | nil => intro i _; simp
      | cons l post ih =>
        intro i hj
        have h0 := hj 0 (by simp)
        rw [Nat.add_zero] at h0
        have h0 : en.getD i [] = l := h0
        rw [List.length_cons, List.range'_succ, List.map_cons, List.flatten_cons, h0, List.length_append, List.map_cons, List.sum_cons]
        have h1 := ih (i + 1) (fun j hj' => by
          have := hj (j + 1) (by simp; omega)
          rw [show i + 1 + j = i + (j + 1) by omega, this]
          rfl)
        have h2 : (extE (shw o c sg * gR (gT t c) i) c l).length ≤ l.length := by
          unfold extE
          exact Nat.le_trans (List.length_filter_le _ _) (by rw [List.length_map]; exact Nat.le_refl _)
        omega
    have := gen en 0 (fun j _ => by rw [Nat.zero_add])
    rw [hen, ← List.range_eq_range', hF] at this
    omega
  have hrk := ranked_eq (mu := mu ++ [.lst (found.map dP)]) (d := .ref mu.length) (Walks.ref last_get) hfs (by omega) hfl
  have hsl := sl_take (ds := (rk found).map dP) (k := many) (g := cCall F_ranked_pairs (aCons (eVar 6) aNil)) (rh := [some (dCh s t o), some (dS sg), some (.int (c : Int)), some d, some (.int (many : Int)), some (dF (shw o c sg)), some (.ref mu.length), y7, y8, y9, y10, y11]) (mu := mu ++ [.lst (found.map dP)]) (mu' := mu ++ [.lst (found.map dP)]) (i := 4)
    (by simp [hrk]) rfl
  simp [e1, hg, e, hsl]
  rw [trim_app (by simp only [lowD, ← List.map_take]; exact low_map (fun _ => dP_low) _)]
  unfold dE
  rw [List.map_take]
end DLk71

set_option Elab.async false
set_option linter.all false
set_option maxRecDepth 100000
set_option maxHeartbeats 4000000
namespace DLk71
open PySem PySem.Spec PyProof.Rows L2 DL
/-- two walks, one within the other, that change nothing -/
theorem lc2_all {t t1 : SG} {c c1 : SB} {src src1 : SI} {e : SE} {rh : DL.Env} {mu : Store} {k : Bool} {vs vs1 : List Nat} {A B : Type} {l : List A} {l1 : A → List B} {g : A → D} {g1 : B → D} {f : A → B → D} (hs : src rh mu = .val ⟨l.map g, []⟩ mu)
    (h : ∀ a ∈ l, ∃ rh1, t (g a) (wipeE rh vs) mu = .val rh1 mu ∧ c rh1 mu = .val true mu ∧ src1 rh1 mu = .val ⟨(l1 a).map g1, []⟩ mu ∧ ∀ b ∈ l1 a, ∃ rh2, t1 (g1 b) (wipeE rh1 vs1) mu = .val rh2 mu ∧ c1 rh2 mu = .val true mu ∧ e rh2 mu = .val (f a b) mu)
    (hl : (l.map fun a => (l1 a).map (f a)).flatten.length ≤ 1000000) : eLc2 k src t c src1 t1 c1 e vs vs1 rh mu = mkL k (l.map fun a => (l1 a).map (f a)).flatten mu := by
  have inner : ∀ {a : A} {rh1 : DL.Env} {l : List B}, (∀ b ∈ l, ∃ rh2, t1 (g1 b) (wipeE rh1 vs1) mu = .val rh2 mu ∧ c1 rh2 mu = .val true mu ∧ e rh2 mu = .val (f a b) mu) → lcL [] t1 c1 e (l.map g1) (wipeE rh1 vs1) mu = .val (l.map (f a)) mu := by
    intro a rh1 l
    induction l with
    | nil => exact fun _ => lcL_0
    | cons b l ih =>
      intro h
      obtain ⟨rh2, h1, h2, h3⟩ := h b (by simp)
      exact lcL_t h1 h2 h3 (ih fun x hx => h x (by simp [hx]))
  have key : ∀ {l : List A}, (∀ a ∈ l, ∃ rh1, t (g a) (wipeE rh vs) mu = .val rh1 mu ∧ c rh1 mu = .val true mu ∧ src1 rh1 mu = .val ⟨(l1 a).map g1, []⟩ mu ∧ ∀ b ∈ l1 a, ∃ rh2, t1 (g1 b) (wipeE rh1 vs1) mu = .val rh2 mu ∧ c1 rh2 mu = .val true mu ∧ e rh2 mu = .val (f a b) mu) →
      lc2L [] t c src1 t1 c1 e vs1 (l.map g) (wipeE rh vs) mu = .val (l.map fun a => (l1 a).map (f a)).flatten mu := by
    intro l
    induction l with
    | nil => intro _; rw [List.map_nil, lc2L, if_pos keeps_nil]; rfl
    | cons a l ih =>
      intro h
      obtain ⟨rh1, h1, h2, h3, h4⟩ := h a (by simp)
      rw [List.map_cons, lc2L, if_pos keeps_nil, h1]
      simp only [h2, h3, inner (a := a) h4, ih fun x hx => h x (by simp [hx])]
      rfl
  unfold eLc2
  simp only [bnd_app, hs, noX, key h, few_s]
  rw [if_pos hl]
/-- the endings that are kept -/
def Te (n : Nat) (t o : List (List Rat)) (many : Nat) : List (Option Nat) → Nat → List P
  | [], _ => []
  | [sg], c => if shw o c sg = 0 then [] else [(shw o c sg, [c])]
  | sg :: sg' :: ss, c => (rk ((List.range n).map fun a => extE (shw o c sg * gR (gT t c) a) c (Te n t o many (sg' :: ss) a)).flatten).take many
section
variable {m n z : Nat} {s : List Rat} {t o : List (List Rat)} (h : Ch m n z s t o) {many : Nat} (hmany : many ≤ 1000)
include h
theorem Te_ok : ∀ {ss : List (Option Nat)} {c : Nat}, ss ≠ [] → (∀ x ∈ ss, okS z x) → c < n → ∀ p ∈ Te n t o many ss c, Sz (2 * m * ss.length) p.1 ∧ p.2.length = ss.length ∧ 0 ≤ p.1 := by
  intro ss
  induction ss with
  | nil => intro c h0; exact (h0 rfl).elim
  | cons sg ss ih =>
    intro c _ hs hc p hp
    have zz := h.shw_sz hc (hs sg (by simp))
    cases ss with
    | nil =>
      unfold Te at hp
      split at hp
      · cases hp
      · rw [List.mem_singleton] at hp
        subst hp
        exact ⟨zz.1.mono (by simp; omega), rfl, zz.2⟩
    | cons sg' ss =>
      unfold Te at hp
      have hp := (rk_perm _).mem_iff.mp (List.mem_of_mem_take hp)
      obtain ⟨l, hl, hpl⟩ := List.mem_flatten.mp hp
      obtain ⟨a, ha, rfl⟩ := List.mem_map.mp hl
      have ha := List.mem_range.mp ha
      obtain ⟨q, hq, rfl⟩ := List.mem_map.mp (List.mem_filter.mp hpl).1
      obtain ⟨i1, i2, i3⟩ := ih (by simp) (fun x hx => hs x (by simp [hx])) ha q hq
      have z2 := ((h.tg hc).2.g ha).2
      refine ⟨((zz.1.mul z2.1).mul i1).mono ?_, by simp [i2], Rat.mul_nonneg (Rat.mul_nonneg zz.2 z2.2) i3⟩
      simp only [List.length_cons, Nat.mul_add, Nat.mul_one]
      omega
omit h in
theorem Te_len {ss : List (Option Nat)} {c : Nat} (hm : many ≤ 1000) : (Te n t o many ss c).length ≤ 1000 := by
  cases ss with
  | nil => exact Nat.zero_le _
  | cons sg ss =>
    cases ss with
    | nil =>
      unfold Te
      split
      · exact Nat.zero_le _
      · exact (by decide : 1 ≤ 1000)
    | cons sg' ss =>
      unfold Te
      rw [List.length_take]
      omega
omit h in
theorem sum_le {A : Type} {f : A → Nat} {b : Nat} : ∀ {l : List A}, (∀ a ∈ l, f a ≤ b) → (l.map f).sum ≤ b * l.length
  | [], _ => by simp
  | a :: l, h => by
    rw [List.map_cons, List.sum_cons, List.length_cons, Nat.mul_add, Nat.mul_one]
    have h1 := h a (by simp)
    have h2 := sum_le (l := l) (f := f) fun x hx => h x (by simp [hx])
    omega
theorem end_step {sg : Option Nat} {rest : List (Option Nat)} {c : Nat} {mu : Store} {d : D} {gi : List (Nat × List D)} (hm : many ≤ 1000) (hn : n ≤ 90) (hr : rest ≠ []) (hs : okS z sg) (hrs : ∀ x ∈ rest, okS z x) (hl' : rest.length ≤ 1000) (hsz : 2 * m * (rest.length + 1) < 3000) (hc : c < n)
    (w : Walks mu d (((List.range n).map (Te n t o many rest)).map dE) gi) (hd : isLR d = true) : F_best_endings [dCh s t o, dS sg, .int (c : Int), d, .int (many : Int)] mu = .val (dE (Te n t o many (sg :: rest) c)) mu := by
  have hmul : 2 * m * (rest.length + 1) = 2 * m * rest.length + 2 * m := by rw [Nat.mul_add, Nat.mul_one]
  have hsum : (((List.range n).map (Te n t o many rest)).map List.length).sum ≤ 100000 := by
    have := sum_le (f := List.length) (b := 1000) (l := (List.range n).map (Te n t o many rest)) (fun l hl => by
      obtain ⟨a, _, rfl⟩ := List.mem_map.mp hl
      exact Te_len hm)
    rw [List.length_map, List.length_range] at this
    omega
  have e := best_endings_eq h (many := many) (k := 2 * m * rest.length) hc hs w hd (by simp) (fun l hl p hp => by
    obtain ⟨a, ha, rfl⟩ := List.mem_map.mp hl
    exact (Te_ok h hr hrs (List.mem_range.mp ha) p hp).1) (by omega) hsum (fun l hl p hp => by
    obtain ⟨a, ha, rfl⟩ := List.mem_map.mp hl
    rw [(Te_ok h hr hrs (List.mem_range.mp ha) p hp).2.1]
    exact hl')
  rw [e]
  congr 2
  obtain ⟨sg', ss, rfl⟩ : ∃ a b, rest = a :: b := by
    cases rest with
    | nil => exact (hr rfl).elim
    | cons a b => exact ⟨a, b, rfl⟩
  rw [Te]
  congr 3
  refine List.map_congr_left fun a ha => ?_
  have ha := List.mem_range.mp ha
  congr 1
  rw [List.getD_eq_getElem?_getD, List.getElem?_map, List.getElem?_range ha]
  rfl
theorem fst_loop {ss' : List (Option Nat)} {sgl : Option Nat} (hsl : okS z sgl) (mu : Store) (many' : D) (hn : n ≤ 90) : ∀ (cs : List Nat) (acc : List (List P)) (x4 x7 : Option D), (∀ c ∈ cs, c < n) → acc.length + cs.length ≤ 1000 → ∃ y4 y7,
    forL [] (gVar 4) (sSeq (sAsg (cCall F_show_at (aCons (eVar 0) (aCons (eVar 4) (aCons (e2 fIx (eVar 1) (e1 fNeg (eC (.int 1)))) aNil)))) (gVar 7))
      (sSeq (sDrop (eMethL fAppend (eVar 3) (aCons (eIf (bOf (e2 fEq (eVar 7) (eC (.tup [.int 0, .int 1])))) (eLst false aNil) (eLst false (aCons (eTup (aCons (eVar 7) (aCons (eTup (aCons (eVar 4) aNil)) aNil))) aNil))) aNil))) sNil))
      (cs.map fun (c : Nat) => D.int (c : Int)) [some (dCh s t o), some (dSeen (ss' ++ [sgl])), some many', some (.ref mu.length), x4, none, none, x7, none, none, none] (mu ++ [.lst (acc.map dE)])
    = .nx [some (dCh s t o), some (dSeen (ss' ++ [sgl])), some many', some (.ref mu.length), y4, none, none, y7, none, none, none] (mu ++ [.lst ((acc ++ cs.map (Te n t o many [sgl])).map dE)]) := by
  have hlast : ∀ mu, fIx (dSeen (ss' ++ [sgl])) (.int (-1)) mu = .val (dS sgl) mu := fun mu => by
    unfold dSeen
    rw [fIx_t, List.map_append]
    have : atI (ss'.map dS ++ [sgl].map dS) (-1) = some (dS sgl) := by
      unfold atI ixN
      simp
      have e : (-1 + ((ss'.length : Int) + 1)).toNat = ss'.length := by omega
      have h1 : (1 : Int) ≤ (ss'.length : Int) + 1 := by omega
      rw [if_pos h1, e]
      show (List.map dS ss' ++ [dS sgl])[ss'.length]? = _
      rw [List.getElem?_append_right (by simp)]
      simp
    rw [this]
  intro cs
  induction cs with
  | nil => exact fun acc x4 x7 _ _ => ⟨x4, x7, by simp only [List.map_nil, List.append_nil]; exact forL_0⟩
  | cons c cs ih =>
    intro acc x4 x7 hc hl
    simp only [List.length_cons] at hl
    have e1 := fun mu => show_at_eq h (hc c (by simp)) hsl mu
    obtain ⟨y4, y7, e⟩ := ih (acc ++ [Te n t o many [sgl] c]) (some (.int (c : Int))) (some (dF (shw o c sgl))) (fun x hx => hc x (by simp [hx])) (by simp; omega)
    refine ⟨y4, y7, ?_⟩
    rw [List.map_cons, List.map_cons]
    have hx : acc ++ Te n t o many [sgl] c :: cs.map (Te n t o many [sgl]) = acc ++ [Te n t o many [sgl] c] ++ cs.map (Te n t o many [sgl]) := by simp
    rw [hx]
    refine (forL_nx (rh1 := [some (dCh s t o), some (dSeen (ss' ++ [sgl])), some many', some (.ref mu.length), some (.int (c : Int)), none, none, x7, none, none, none]) (mu1 := mu ++ [.lst (acc.map dE)]) (by simp) (.inl ?_)).trans e
    have happ := app_last (mu := mu) (es := acc.map dE) (e := dE (Te n t o many [sgl] c)) (by rw [List.length_map]; omega)
    by_cases q : shw o c sgl = 0
    · have hT : dE (Te n t o many [sgl] c) = .lst [] := by unfold Te; rw [if_pos q]; rfl
      rw [hT] at happ
      simp only [List.map_append, List.map_cons, List.map_nil, hT]
      simp [hlast, e1, eq_dF, q, isRefL, last_get, happ]
    · have hT : dE (Te n t o many [sgl] c) = .lst [.tup [dF (shw o c sgl), .tup [.int (c : Int)]]] := by unfold Te; rw [if_neg q]; rfl
      rw [hT] at happ
      simp only [List.map_append, List.map_cons, List.map_nil, hT]
      simp [hlast, e1, eq_dF, q, isRefL, last_get, happ]
theorem snd_loop {ssA : D} (hm : many ≤ 1000) (hn : n ≤ 90) (mu : Store) : ∀ (rs : List (Option Nat)) (done : List (Option Nat)) (d : D) (gi : List (Nat × List D)) (x4 x5 x7 : Option D), done ≠ [] → (∀ x ∈ rs, okS z x) → (∀ x ∈ done, okS z x) → rs.length + done.length ≤ 1000 → 2 * m * (rs.length + done.length + 1) < 3000 →
    Walks mu d (((List.range n).map (Te n t o many done)).map dE) gi → isLR d = true → ∃ d' gi' y4 y5, Walks mu d' (((List.range n).map (Te n t o many (rs.reverse ++ done))).map dE) gi' ∧ isLR d' = true ∧
    forL [] (gVar 5) (sSeq (sAsg (eLc false (gSeq (cCall F_cases_in (aCons (eVar 0) aNil))) (gVar 4) cYes (cCall F_best_endings (aCons (eVar 0) (aCons (eVar 5) (aCons (eVar 4) (aCons (eVar 3) (aCons (eVar 2) aNil)))))) [4]) (gVar 3)) sNil)
      (rs.map dS) [some (dCh s t o), some ssA, some (.int (many : Int)), some d, x4, x5, none, x7, none, none, none] mu
    = .nx [some (dCh s t o), some ssA, some (.int (many : Int)), some d', y4, y5, none, x7, none, none, none] mu := by
  intro rs
  induction rs with
  | nil => exact fun done d gi x4 x5 x7 _ _ _ _ _ w hd => ⟨d, gi, x4, x5, by simpa using w, hd, forL_0⟩
  | cons sg rs ih =>
    intro done d gi x4 x5 x7 h0 hs hds hl hsz w hd
    simp only [List.length_cons] at hl hsz
    have hmul : 2 * m * (done.length + 1) ≤ 2 * m * (rs.length + 1 + done.length + 1) := Nat.mul_le_mul_left _ (by omega)
    have hstep : ∀ c, c < n → F_best_endings [dCh s t o, dS sg, .int (c : Int), d, .int (many : Int)] mu = .val (dE (Te n t o many (sg :: done) c)) mu := fun c hc =>
      end_step h hm hn h0 (hs sg (by simp)) hds (by omega) (by omega) hc w hd
    have hc : eLc false (gSeq (cCall F_cases_in (aCons (eVar 0) aNil))) (gVar 4) cYes (cCall F_best_endings (aCons (eVar 0) (aCons (eVar 5) (aCons (eVar 4) (aCons (eVar 3) (aCons (eVar 2) aNil)))))) [4] [some (dCh s t o), some ssA, some (.int (many : Int)), some d, x4, some (dS sg), none, x7, none, none, none] mu
        = mkL false ((List.range n).map fun c => dE (Te n t o many (sg :: done) c)) mu :=
      lc_all (g := fun (c : Nat) => D.int (c : Int)) (by simp [cases_in_eq h]) (by simp; omega) fun c hc => ⟨[some (dCh s t o), some ssA, some (.int (many : Int)), some d, some (.int (c : Int)), some (dS sg), none, x7, none, none, none], by simp, rfl, by
        simp [hstep c (List.mem_range.mp hc)]⟩
    simp only [mkL_f] at hc
    have hmm : (List.range n).map (fun c => dE (Te n t o many (sg :: done) c)) = ((List.range n).map (Te n t o many (sg :: done))).map dE := by rw [List.map_map]; rfl
    rw [hmm] at hc
    obtain ⟨d', gi', y4, y5, w', hd', e⟩ := ih (sg :: done) (.lst (((List.range n).map (Te n t o many (sg :: done))).map dE)) [] x4 (some (dS sg)) x7 (by simp) (fun x hx => hs x (by simp [hx])) (fun x hx => by
      rcases List.mem_cons.mp hx with e | hx
      · rw [e]; exact hs sg (by simp)
      · exact hds x hx) (by simp; omega) (by simp only [List.length_cons]; rw [show rs.length + (done.length + 1) + 1 = rs.length + 1 + done.length + 1 by omega]; exact hsz) .lst rfl
    refine ⟨d', gi', y4, y5, by simpa using w', hd', ?_⟩
    rw [List.map_cons]
    refine (forL_nx (rh1 := [some (dCh s t o), some ssA, some (.int (many : Int)), some d, x4, some (dS sg), none, x7, none, none, none]) (mu1 := mu) (by simp) (.inl ?_)).trans e
    simp only [sSeq_app, sAsg_app, hc, stB_val, gVar_app, List.set_cons_succ, List.set_cons_zero, stE_val, sNil_app]
end
end DLk71

set_option Elab.async false
set_option linter.all false
set_option maxRecDepth 100000
set_option maxHeartbeats 4000000
namespace DLk71
open PySem PySem.Spec PyProof.Rows L2 DL
theorem fIx_of_it {mu : Store} {d x : D} {ds : List D} {gi : List (Nat × List D)} {i : Nat} (hd : isLR d = true) (h : itOf mu d = some ⟨ds, gi⟩) (hx : ds[i]? = some x) : fIx d (.int (i : Int)) mu = .val x mu := by
  cases d <;> first | (cases hd; done) | skip
  · cases h
    rw [fIx_l, DL.atI_nat hx]
  · rename_i k
    unfold itOf at h
    simp only at h
    split at h
    · rename_i es hm
      cases h
      unfold fIx
      simp only [vwL, hm, DL.atI_nat hx]
    · cases h
/-- the courses from their endings -/
def ext0 (k : Rat) (E : List P) : List P := (E.map fun p => (k * p.1, p.2)).filter fun p => !decide (p.1 = 0)
theorem cut_last {ss' : List (Option Nat)} {sgl : Option Nat} {rh : DL.Env} {mu : Store} (ha : rh[1]? = some (some (dSeen (ss' ++ [sgl])))) : eSl false (eVar 1) oNone (oSome (e1 fNeg (eC (.int 1)))) rh mu = .val (dSeen ss') mu := by
  unfold eSl oNone oSome
  have c : e1 fNeg (eC (.int 1)) rh mu = .val (.int (-1)) mu := by rfl
  simp only [bnd_app, eVar_app ha, c, ret_app]
  show R.val (D.tup (DL.cutD _ _ _)) mu = _
  unfold dSeen DL.cutD HT.sIx
  simp
  have e : (-1 + ((ss'.length : Int) + 1)).toNat = ss'.length := by omega
  try rw [e]
  simp
theorem best_courses_eq {m n z : Nat} {s : List Rat} {t o : List (List Rat)} (h : Ch m n z s t o) {many : Nat} {ss' : List (Option Nat)} {sgl : Option Nat} (hm : many ≤ 1000) (hn : n ≤ 90) (hs : ∀ x ∈ ss' ++ [sgl], okS z x) (hl : ss'.length ≤ 900) (hsz : 2 * m * (ss'.length + 2) < 2900) (mu : Store) :
    F_best_courses [dCh s t o, dSeen (ss' ++ [sgl]), .int (many : Int)] mu = .val (.tup (((rk ((List.range n).map fun c => ext0 (gR s c) (Te n t o many (ss' ++ [sgl]) c)).flatten).take many).map dP)) mu := by
  have f1 : ∀ mu, fFld clsF ("start" : Str) (dCh s t o) mu = .val (dRow s) mu := fun mu => by rfl
  have hsl := hs sgl (by simp)
  obtain ⟨y4, y7, J1⟩ := fst_loop h (many := many) (ss' := ss') hsl mu (.int (many : Int)) hn (List.range n) [] none none (fun c hc => List.mem_range.mp hc) (by simp; omega)
  rw [List.nil_append, List.map_nil] at J1
  generalize hmu : mu ++ [DO.lst (((List.range n).map (Te n t o many [sgl])).map dE)] = mu1 at J1
  have w1 : Walks mu1 (.ref mu.length) (((List.range n).map (Te n t o many [sgl])).map dE) [(mu.length, ((List.range n).map (Te n t o many [sgl])).map dE)] := Walks.ref (by rw [← hmu]; exact last_get)
  have m1 := h.m1
  obtain ⟨d', gi', z4, z5, w2, hd', J2⟩ := snd_loop h (ssA := dSeen (ss' ++ [sgl])) hm hn mu1 ss'.reverse [sgl] (.ref mu.length) _ y4 none y7 (by simp) (fun x hx => hs x (by simp at hx; simp [hx])) (fun x hx => by simp at hx; rw [hx]; exact hsl) (by simp; omega)
    (by simp only [List.length_reverse, List.length_cons, List.length_nil]; rw [show ss'.length + (0 + 1) + 1 = ss'.length + 2 by omega]; omega) w1 rfl
  rw [List.reverse_reverse] at w2
  have hcut : ∀ rh : DL.Env, rh[1]? = some (some (dSeen (ss' ++ [sgl]))) → eSl false (eVar 1) oNone (oSome (e1 fNeg (eC (.int 1)))) rh mu1 = .val (.tup (ss'.map dS)) mu1 := fun rh hr => cut_last (mu := mu1) hr
  have hrv : fRev false (.tup (ss'.map dS)) mu1 = .val (.tup (ss'.reverse.map dS)) mu1 := by
    rw [List.map_reverse]
    rfl
  generalize hss : ss' ++ [sgl] = ss at w2 J1 J2 hs hcut ⊢
  have hne : ss ≠ [] := by rw [← hss]; simp
  have hlen : ss.length = ss'.length + 1 := by rw [← hss]; simp
  have hi := w2.it []
  rw [List.append_nil] at hi
  have hix : ∀ c, c < n → fIx d' (.int (c : Int)) mu1 = .val (dE (Te n t o many ss c)) mu1 := fun c hc =>
    fIx_of_it hd' hi (by rw [List.getElem?_map, List.getElem?_map, List.getElem?_range hc]; rfl)
  have hT := fun c (hc : c < n) => Te_ok h (many := many) hne hs hc
  have hTl : ∀ c, (Te n t o many ss c).length ≤ 1000 := fun c => Te_len hm
  have hmul : 2 * m * (ss'.length + 2) = 2 * m * (ss'.length + 1) + 2 * m := by rw [← Nat.mul_succ]
  have hPl : (((List.range n).map fun c => (Te n t o many ss c).map fun p => (gR s c * p.1, p.2)).flatten).length ≤ 100000 := by
    rw [List.length_flatten, List.map_map]
    have := sum_le (l := List.range n) (b := 1000) (f := List.length ∘ fun c => (Te n t o many ss c).map fun p => (gR s c * p.1, p.2)) (fun c _ => by simpa using hTl c)
    rw [List.length_range] at this
    omega
  have hc2 : eLc2 false (gSeq (cCall F_cases_in (aCons (eVar 0) aNil))) (gVar 4) cYes (gSeq (e2 fIx (eVar 3) (eVar 4))) (gTup 2 (gsCons (gVar 8) (gsCons (gVar 9) gsNil))) cYes (eTup (aCons (cCall F_timed (aCons (e2 fIx (e1 (fFld clsF ("start" : Str)) (eVar 0)) (eVar 4)) (aCons (eVar 8) aNil))) (aCons (eVar 9) aNil))) [4, 8, 9] [8, 9]
      [some (dCh s t o), some (dSeen ss), some (.int (many : Int)), some d', z4, z5, none, y7, none, none, none] mu1 = mkL false (((List.range n).map fun c => (Te n t o many ss c).map fun p => dP (gR s c * p.1, p.2))).flatten mu1 := by
    refine lc2_all (g := fun (c : Nat) => D.int (c : Int)) (g1 := dP) (l1 := fun c => Te n t o many ss c) (f := fun c p => dP (gR s c * p.1, p.2)) (by simp [cases_in_eq h]) (fun c hc => ?_) ?_
    · have hc := List.mem_range.mp hc
      refine ⟨[some (dCh s t o), some (dSeen ss), some (.int (many : Int)), some d', some (.int (c : Int)), z5, none, y7, none, none, none], by simp, rfl, by simp [hix c hc], fun p hp => ?_⟩
      refine ⟨[some (dCh s t o), some (dSeen ss), some (.int (many : Int)), some d', some (.int (c : Int)), z5, none, y7, some (dF p.1), some (dC p.2), none], by simp, rfl, ?_⟩
      have q1 := h.s.g hc
      have q2 := hT c hc p hp
      rw [hlen] at q2
      have t1 := timed_eq q1.2.1 q2.1 (by omega) mu1
      have r := ix_dRow (mu := mu1) q1.1
      simp [f1, r, t1]
      rfl
    · have e : (((List.range n).map fun c => (Te n t o many ss c).map fun p => dP (gR s c * p.1, p.2))).flatten = ((((List.range n).map fun c => (Te n t o many ss c).map fun p => (gR s c * p.1, p.2)).flatten).map dP) := by
        rw [List.map_flatten, List.map_map]
        congr 1
        refine List.map_congr_left fun c _ => ?_
        show _ = List.map dP _
        rw [List.map_map]
        rfl
      rw [e, List.length_map]
      omega
  have e : (((List.range n).map fun c => (Te n t o many ss c).map fun p => dP (gR s c * p.1, p.2))).flatten = ((((List.range n).map fun c => (Te n t o many ss c).map fun p => (gR s c * p.1, p.2)).flatten).map dP) := by
    rw [List.map_flatten, List.map_map]
    congr 1
    refine List.map_congr_left fun c _ => ?_
    show _ = List.map dP _
    rw [List.map_map]
    rfl
  rw [e] at hc2
  have hfil : (((List.range n).map fun c => (Te n t o many ss c).map fun p => (gR s c * p.1, p.2)).flatten).filter (fun p => !decide (p.1 = 0)) = ((List.range n).map fun c => ext0 (gR s c) (Te n t o many ss c)).flatten := by
    rw [List.filter_flatten, List.map_map]
    rfl
  have hPs : ∀ p ∈ ((List.range n).map fun c => (Te n t o many ss c).map fun p => (gR s c * p.1, p.2)).flatten, Sz (m + 2 * m * (ss'.length + 1)) p.1 := fun p hp => by
    obtain ⟨l, hl, hpl⟩ := List.mem_flatten.mp hp
    obtain ⟨c, hc, rfl⟩ := List.mem_map.mp hl
    have hc := List.mem_range.mp hc
    obtain ⟨q, hq, rfl⟩ := List.mem_map.mp hpl
    have q2 := (hT c hc q hq).1
    rw [hlen] at q2
    exact (h.s.g hc).2.1.mul q2
  generalize hfd : ((List.range n).map fun c => (Te n t o many ss c).map fun p => (gR s c * p.1, p.2)).flatten = fd at *
  have hlc : eLc false (gSeq (eVar 6)) (gVar 10) (bOf (e2 fNe (e2 fIx (eVar 10) (eC (.int 0))) (eC (.tup [.int 0, .int 1])))) (eVar 10) [10] [some (dCh s t o), some (dSeen ss), some (.int (many : Int)), some d', z4, z5, some (.lst (fd.map dP)), y7, none, none, none] mu1
      = mkL false ((fd.filter fun p => !decide (p.1 = 0)).map dP) mu1 :=
    lc_some (g := dP) (f := dP) (p := fun p => !decide (p.1 = 0)) (by simp) (by omega) fun p hp => ⟨[some (dCh s t o), some (dSeen ss), some (.int (many : Int)), some d', z4, z5, some (.lst (fd.map dP)), y7, none, none, some (dP p)], by simp, by simp [ne_dF], fun _ => by simp⟩
  rw [hfil] at hlc
  generalize hfg : ((List.range n).map fun c => ext0 (gR s c) (Te n t o many ss c)).flatten = fg at *
  have hfgs : ∀ p ∈ fg, p ∈ fd := fun p hp => by
    rw [← hfil] at hp
    exact (List.mem_filter.mp hp).1
  have hfgl : fg.length ≤ fd.length := by
    rw [← hfil]
    exact List.length_filter_le _ _
  have hrk := ranked_eq (mu := mu1) (d := .lst (fg.map dP)) Walks.lst (fun p hp => hPs p (hfgs p hp)) (by omega) (by omega)
  simp only [mkL_f] at hc2 hlc
  have hsl2 := sl_take (ds := (rk fg).map dP) (k := many) (mu := mu1) (mu' := mu1) (i := 2) (rh := [some (dCh s t o), some (dSeen ss), some (.int (many : Int)), some d', z4, z5, some (.lst (fd.map dP)), y7, none, none, none])
    (g := cCall F_ranked_pairs (aCons (eLc false (gSeq (eVar 6)) (gVar 10) (bOf (e2 fNe (e2 fIx (eVar 10) (eC (.int 0))) (eC (.tup [.int 0, .int 1])))) (eVar 10) [10]) aNil)) (by simp [hlc, hrk]) rfl
  unfold F_best_courses fnD b_best_courses
  have hneed := fun mu => need_ok (i := (many : Int)) (by omega) (by omega) mu
  simp [hneed, cases_in_eq h, J1, J2, hc2, hsl2, hcut, hrv, -List.map_reverse]
  rw [← hmu, ← List.map_take]
  exact trim_app (by simp only [lowD]; exact low_map (fun _ => dP_low) _)
end DLk71

set_option Elab.async false
set_option linter.all false
set_option maxRecDepth 100000
set_option maxHeartbeats 4000000
/-! what best_courses gives: the first ones of all courses, ranked -/
namespace DLk71
open PySem PySem.Spec PyProof.Rows L2 DL
def nz (l : List P) : List P := l.filter fun p => !decide (p.1 = 0)
theorem nz_flatten {L : List (List P)} : nz L.flatten = (L.map nz).flatten := List.filter_flatten
/-- all courses, in their sequence -/
def cl (n : Nat) : Nat → List (List Nat)
  | 0 => [[]]
  | k + 1 => ((List.range n).map fun c => (cl n k).map (c :: ·)).flatten
theorem cl_len {n : Nat} : ∀ {k : Nat} {w : List Nat}, w ∈ cl n k → w.length = k ∧ ∀ c ∈ w, c < n
  | 0, w, h => by
    rw [cl, List.mem_singleton] at h
    subst h
    exact ⟨rfl, by simp⟩
  | k + 1, w, h => by
    rw [cl] at h
    obtain ⟨l, hl, hw⟩ := List.mem_flatten.mp h
    obtain ⟨c, hc, rfl⟩ := List.mem_map.mp hl
    obtain ⟨v, hv, rfl⟩ := List.mem_map.mp hw
    obtain ⟨h1, h2⟩ := cl_len hv
    exact ⟨by simp [h1], fun x hx => by
      rcases List.mem_cons.mp hx with e | hx
      · rw [e]; exact List.mem_range.mp hc
      · exact h2 x hx⟩
theorem pw_flatten {A : Type} {R : List Nat → List Nat → Prop} {f : Nat → List (List Nat)} : ∀ {cs : List Nat}, cs.Pairwise (· < ·) → (∀ c ∈ cs, (f c).Pairwise R) → (∀ c d, c < d → ∀ v ∈ f c, ∀ w ∈ f d, R v w) → ((cs.map f).flatten).Pairwise R
  | [], _, _, _ => .nil
  | c :: cs, h, h1, h2 => by
    have h' := List.pairwise_cons.mp h
    rw [List.map_cons, List.flatten_cons]
    refine List.pairwise_append.mpr ⟨h1 c (by simp), pw_flatten (A := A) h'.2 (fun d hd => h1 d (by simp [hd])) h2, fun v hv w hw => ?_⟩
    obtain ⟨l, hl, hw⟩ := List.mem_flatten.mp hw
    obtain ⟨d, hd, rfl⟩ := List.mem_map.mp hl
    exact h2 c d (h'.1 d hd) v hv w hw
theorem cl_asc {n : Nat} : ∀ {k : Nat}, (cl n k).Pairwise (· < ·)
  | 0 => List.pairwise_singleton _ _
  | k + 1 => by
    rw [cl]
    refine pw_flatten (A := Unit) List.pairwise_lt_range (fun c _ => ?_) fun c d hcd v hv w hw => ?_
    · rw [List.pairwise_map]
      exact (cl_asc (k := k)).imp fun {a b} h => List.cons_lt_cons_iff.mpr (.inr ⟨rfl, h⟩)
    · obtain ⟨v, _, rfl⟩ := List.mem_map.mp hv
      obtain ⟨w, _, rfl⟩ := List.mem_map.mp hw
      exact List.cons_lt_cons_iff.mpr (.inl hcd)
theorem cl_snoc {n : Nat} : ∀ {k : Nat}, cl n (k + 1) = ((cl n k).map fun w => (List.range n).map fun a => w ++ [a]).flatten
  | 0 => by
    rw [cl, cl]
    simp only [List.map_cons, List.map_nil, List.flatten_cons, List.flatten_nil, List.append_nil, List.nil_append]
    induction List.range n with
    | nil => rfl
    | cons a l ih => simp only [List.map_cons, List.flatten_cons, ih]; rfl
  | k + 1 => by
    rw [cl]
    conv => lhs; rw [cl_snoc (k := k)]
    rw [cl, List.map_flatten, List.flatten_flatten, List.map_map, List.map_map]
    congr 2
    funext c
    show List.map (c :: ·) _ = (List.map _ (List.map _ _)).flatten
    rw [List.map_flatten, List.map_map, List.map_map]
    congr 1
    refine List.map_congr_left fun w _ => ?_
    show List.map _ (List.map _ _) = List.map _ _
    rw [List.map_map]
    rfl
/-- the product of a course from its moments -/
theorem prl_mul {s : List Rat} {t o : List (List Rat)} : ∀ {ss : List (Option Nat)} {w : List Nat} {f : Rat} {p : Option Nat}, prl s t o f p ss w = f * prl s t o 1 p ss w
  | [], w, f, p => by rw [prl, prl, Rat.mul_one] <;> simp
  | sg :: ss, [], f, p => by rw [prl, prl, Rat.mul_one] <;> simp
  | sg :: ss, c :: w, f, p => by
    rw [prl, prl, prl_mul (f := f * ent s t p c * shw o c sg), prl_mul (f := 1 * ent s t p c * shw o c sg)]
    grind
theorem prl_some {s : List Rat} {t o : List (List Rat)} {f : Rat} {c a : Nat} {sg : Option Nat} {ss : List (Option Nat)} {w : List Nat} : prl s t o f (some c) (sg :: ss) (a :: w) = f * (gR (gT t c) a * shw o a sg * prl s t o 1 (some a) ss w) := by
  rw [prl, prl_mul]
  show f * gR (gT t c) a * shw o a sg * _ = _
  grind
/-- the share of an ending -/
def shE (s : List Rat) (t o : List (List Rat)) : List (Option Nat) → List Nat → Rat
  | sg :: ss, c :: w => shw o c sg * prl s t o 1 (some c) ss w
  | _, _ => 0
/-- all endings at a case -/
def En (n : Nat) (s : List Rat) (t o : List (List Rat)) (ss : List (Option Nat)) (c : Nat) : List P := nz (((cl n (ss.length - 1)).map (c :: ·)).map fun w => (shE s t o ss w, w))
theorem ext_nz {k : Rat} {f : List Nat → List Nat} {X : List P} : ((nz X).map fun p => (k * p.1, f p.2)).filter (fun p => !decide (p.1 = 0)) = nz (X.map fun p => (k * p.1, f p.2)) := by
  unfold nz
  induction X with
  | nil => rfl
  | cons x X ih =>
    by_cases hx : x.1 = 0
    · rw [List.filter_cons_of_neg (by simp [hx]), ih, List.map_cons, List.filter_cons_of_neg (by simp [hx, Rat.mul_zero])]
    · rw [List.filter_cons_of_pos (by simp [hx]), List.map_cons, List.map_cons, List.filter_cons, List.filter_cons, ih]
theorem En_step {n : Nat} {s : List Rat} {t o : List (List Rat)} {sg sg' : Option Nat} {ss : List (Option Nat)} {c : Nat} : En n s t o (sg :: sg' :: ss) c = ((List.range n).map fun a => extE (shw o c sg * gR (gT t c) a) c (En n s t o (sg' :: ss) a)).flatten := by
  unfold En
  show nz (List.map _ (List.map _ (cl n (ss.length + 1)))) = _
  rw [cl, List.map_flatten, List.map_flatten, nz_flatten, List.map_map, List.map_map, List.map_map]
  congr 1
  refine List.map_congr_left fun a _ => ?_
  unfold extE
  rw [ext_nz]
  show nz (List.map _ (List.map _ (List.map _ _))) = _
  rw [List.map_map, List.map_map, List.map_map, List.map_map]
  congr 1
  refine List.map_congr_left fun w _ => ?_
  show (shw o c sg * prl s t o 1 (some c) (sg' :: ss) (a :: w), c :: a :: w) = (shw o c sg * gR (gT t c) a * (shw o a sg' * prl s t o 1 (some a) ss w), c :: a :: w)
  rw [prl_some]
  congr 1
  grind
/-- a map of the first ones -/
theorem ext_rk {k : Rat} (hk : 0 ≤ k) {f : List Nat → List Nat} {L : List P} (hp : ∀ p ∈ L, 0 < p.1) {m : Nat} : (((rk L).take m).map fun p => (k * p.1, f p.2)).filter (fun p => !decide (p.1 = 0)) = (rk ((L.map fun p => (k * p.1, f p.2)).filter fun p => !decide (p.1 = 0))).take m := by
  have hr : ∀ p ∈ rk L, 0 < p.1 := fun p h => hp p ((rk_perm _).mem_iff.mp h)
  by_cases h0 : k = 0
  · subst h0
    have e : ∀ l : List P, (l.map fun p => ((0 : Rat) * p.1, f p.2)).filter (fun p => !decide (p.1 = 0)) = [] := fun l => by
      rw [List.filter_eq_nil_iff]
      intro p hp
      obtain ⟨q, _, rfl⟩ := List.mem_map.mp hp
      simp [Rat.zero_mul]
    rw [e, e]
    simp [rk, rkFrom]
  · have hk' : 0 < k := by grind
    have pos : ∀ {x : Rat}, 0 < x → 0 < k * x := fun h => Rat.mul_pos hk' h
    have e : ∀ l : List P, (∀ p ∈ l, 0 < p.1) → (l.map fun p => (k * p.1, f p.2)).filter (fun p => !decide (p.1 = 0)) = l.map fun p => (k * p.1, f p.2) := fun l hl => by
      rw [List.filter_eq_self]
      intro p hp
      obtain ⟨q, hq, rfl⟩ := List.mem_map.mp hp
      have := pos (hl q hq)
      have : k * q.1 ≠ 0 := by grind
      simp [this]
    rw [e _ fun p h => hr p (List.mem_of_mem_take h), e _ hp, List.map_take]
    congr 1
    refine (rk_map (f := fun p : P => (k * p.1, f p.2)) fun a ha b hb => ?_).symm
    show k * a.1 < k * b.1 ↔ a.1 < b.1
    exact Rat.mul_lt_mul_left hk'
section
variable {m n z : Nat} {s : List Rat} {t o : List (List Rat)} (h : Ch m n z s t o)
include h
theorem prl_nn : ∀ {ss : List (Option Nat)} {w : List Nat} {f : Rat} {p : Option Nat}, 0 ≤ f → (∀ x ∈ ss, okS z x) → (∀ c ∈ w, c < n) → (∀ c, p = some c → c < n) → 0 ≤ prl s t o f p ss w
  | [], w, f, p, hf, _, _, _ => by rw [prl]; exact hf; simp
  | sg :: ss, [], f, p, hf, _, _, _ => by rw [prl]; exact hf; simp
  | sg :: ss, c :: w, f, p, hf, hs, hw, hp => by
    rw [prl]
    have hc := hw c (by simp)
    refine prl_nn (Rat.mul_nonneg (Rat.mul_nonneg hf ?_) (h.shw_sz hc (hs sg (by simp))).2) (fun x hx => hs x (by simp [hx])) (fun x hx => hw x (by simp [hx])) (fun x hx => by cases hx; exact hc)
    cases p with
    | none => exact (h.s.g hc).2.2
    | some a => exact ((h.tg (hp a rfl)).2.g hc).2.2
theorem En_pos {ss : List (Option Nat)} {c : Nat} (hs : ∀ x ∈ ss, okS z x) (hc : c < n) : ∀ p ∈ En n s t o ss c, 0 < p.1 := fun p hp => by
  obtain ⟨h1, h2⟩ := List.mem_filter.mp hp
  obtain ⟨w, hw, rfl⟩ := List.mem_map.mp h1
  obtain ⟨v, hv, rfl⟩ := List.mem_map.mp hw
  have : 0 ≤ shE s t o ss (c :: v) := by
    cases ss with
    | nil => exact Rat.le_refl
    | cons sg ss => exact Rat.mul_nonneg (h.shw_sz hc (hs sg (by simp))).2 (prl_nn h (by decide) (fun x hx => hs x (by simp [hx])) (cl_len hv).2 fun x hx => by cases hx; exact hc)
  simp at h2
  grind
omit h in
theorem all2_map {A B C : Type} {R : A → B → Prop} {f : C → A} {g : C → B} : ∀ {l : List C}, (∀ c ∈ l, R (f c) (g c)) → All2 R (l.map f) (l.map g)
  | [], _ => .nil
  | c :: l, h => .cons (h c (by simp)) (all2_map fun x hx => h x (by simp [hx]))
omit h in
theorem nz_asc {l : List (List Nat)} {f : List Nat → Rat} (hl : l.Pairwise (· < ·)) : (nz (l.map fun w => (f w, w))).Pairwise fun a b => a.2 < b.2 := by
  refine List.Pairwise.sublist List.filter_sublist ?_
  rw [List.pairwise_map]
  exact hl
omit h in
theorem En_asc {ss : List (Option Nat)} {c : Nat} : (En n s t o ss c).Pairwise fun a b => a.2 < b.2 := by
  refine nz_asc ?_
  rw [List.pairwise_map]
  exact cl_asc.imp fun {a b} h => List.cons_lt_cons_iff.mpr (.inr ⟨rfl, h⟩)
theorem Te_eq {many : Nat} : ∀ {ss : List (Option Nat)} {c : Nat}, ss ≠ [] → (∀ x ∈ ss, okS z x) → c < n → ∃ k, many ≤ k ∧ Te n t o many ss c = (rk (En n s t o ss c)).take k := by
  intro ss
  induction ss with
  | nil => exact fun h0 => (h0 rfl).elim
  | cons sg ss ih =>
    intro c _ hs hc
    cases ss with
    | nil =>
      refine ⟨many + 1, by omega, ?_⟩
      unfold Te En
      show _ = (rk (nz (List.map _ (List.map _ (cl n 0))))).take _
      rw [cl]
      have e1 : shE s t o [sg] [c] = shw o c sg := by
        show shw o c sg * prl s t o 1 (some c) [] [] = _
        rw [prl, Rat.mul_one]
        simp
      simp only [List.map_cons, List.map_nil, e1, nz, List.filter_cons, List.filter_nil]
      by_cases q : shw o c sg = 0
      · simp [q, rk, rkFrom]
      · simp [q, rk, rkFrom, insP]
    | cons sg' ss =>
      refine ⟨many, Nat.le_refl _, ?_⟩
      have hs' : ∀ x ∈ sg' :: ss, okS z x := fun x hx => hs x (by simp [hx])
      have asc := En_asc (n := n) (s := s) (t := t) (o := o) (ss := sg :: sg' :: ss) (c := c)
      rw [En_step] at asc ⊢
      rw [Te]
      refine rk_parts asc (all2_map fun a ha => ?_)
      have ha := List.mem_range.mp ha
      obtain ⟨k, hk, e⟩ := ih (by simp) hs' ha
      refine ⟨k, hk, ?_⟩
      unfold extE
      rw [e]
      exact ext_rk (Rat.mul_nonneg (h.shw_sz hc (hs sg (by simp))).2 ((h.tg hc).2.g ha).2.2) (En_pos h hs' ha)
/-- all courses that may have been, with their shares -/
def All (n : Nat) (s : List Rat) (t o : List (List Rat)) (ss : List (Option Nat)) : List P := nz ((cl n ss.length).map fun w => (prl s t o 1 none ss w, w))
omit h in
theorem All_step {sg : Option Nat} {ss : List (Option Nat)} : All n s t o (sg :: ss) = ((List.range n).map fun c => ext0 (gR s c) (En n s t o (sg :: ss) c)).flatten := by
  unfold All
  rw [List.length_cons, cl, List.map_flatten, nz_flatten, List.map_map, List.map_map]
  congr 1
  refine List.map_congr_left fun c _ => ?_
  unfold ext0 En
  rw [ext_nz (f := fun w => w)]
  show nz (List.map _ (List.map _ _)) = nz (List.map _ (List.map _ (List.map _ (cl n ss.length))))
  rw [List.map_map, List.map_map, List.map_map]
  congr 1
  refine List.map_congr_left fun w _ => ?_
  show (prl s t o 1 none (sg :: ss) (c :: w), c :: w) = (gR s c * (shw o c sg * prl s t o 1 (some c) ss w), c :: w)
  rw [prl, prl_mul]
  show (1 * gR s c * shw o c sg * _, _) = _
  congr 1
  grind
omit h in
theorem All_asc {ss : List (Option Nat)} : (All n s t o ss).Pairwise fun a b => a.2 < b.2 := nz_asc cl_asc
theorem best_all {many : Nat} {ss : List (Option Nat)} (h0 : ss ≠ []) (hs : ∀ x ∈ ss, okS z x) : (rk ((List.range n).map fun c => ext0 (gR s c) (Te n t o many ss c)).flatten).take many = (rk (All n s t o ss)).take many := by
  obtain ⟨sg, ss, rfl⟩ : ∃ a b, ss = a :: b := by
    cases ss with
    | nil => exact (h0 rfl).elim
    | cons a b => exact ⟨a, b, rfl⟩
  have asc := All_asc (n := n) (s := s) (t := t) (o := o) (ss := sg :: ss)
  rw [All_step] at asc ⊢
  refine rk_parts asc (all2_map fun c hc => ?_)
  have hc := List.mem_range.mp hc
  obtain ⟨k, hk, e⟩ := Te_eq h (many := many) h0 hs hc
  refine ⟨k, hk, ?_⟩
  unfold ext0
  rw [e]
  exact ext_rk (f := fun w => w) (h.s.g hc).2.2 (En_pos h hs hc)
/-- the best courses: the first ones of all, ranked -/
theorem best_courses_all {many : Nat} {ss : List (Option Nat)} (h0 : ss ≠ []) (hm : many ≤ 1000) (hn : n ≤ 90) (hs : ∀ x ∈ ss, okS z x) (hl : ss.length ≤ 900) (hsz : 2 * m * (ss.length + 1) < 2900) (mu : Store) :
    F_best_courses [dCh s t o, dSeen ss, .int (many : Int)] mu = .val (.tup (((rk (All n s t o ss)).take many).map dP)) mu := by
  obtain ⟨ss', sgl, rfl⟩ : ∃ a b, ss = a ++ [b] := ⟨ss.dropLast, ss.getLast h0, (List.dropLast_concat_getLast h0).symm⟩
  rw [List.length_append, List.length_singleton] at hl hsz
  rw [best_courses_eq h hm hn hs (by omega) hsz, best_all h h0 hs]
end
end DLk71

set_option Elab.async false
set_option linter.all false
set_option maxRecDepth 100000
set_option maxHeartbeats 4000000
/-! the law's own fractions and courses -/
namespace DLk71
open PySem PySem.Spec PyProof.Rows L2 DL
theorem gcd_loop4 {A B : Option D} (C : SB) (S : SS) (mu : Store) (hC : ∀ x y : Nat, C [A, B, some (.int x), some (.int y)] mu = .val (decide (0 < y)) mu) (hB : ∀ x y : Nat, 0 < y → S [A, B, some (.int x), some (.int y)] mu = .nx [A, B, some (.int y), some (.int (x % y : Nat))] mu) :
    ∀ y x : Nat, sWhile C S [A, B, some (.int x), some (.int y)] mu = .nx [A, B, some (.int (Nat.gcd x y)), some (.int (0 : Nat))] mu := by
  intro y
  induction y using Nat.strongRecOn with
  | _ y ih =>
    intro x
    rw [sWhile_eq, hC]
    simp only [stB]
    by_cases h : 0 < y
    · simp only [h, decide_true, if_true, hB x y h]
      rw [ih (x % y) (Nat.mod_lt _ h) y, Nat.gcd_comm y, ← Nat.gcd_rec, Nat.gcd_comm]
    · have e : y = 0 := by omega
      subst e
      simp
theorem low_eq (a : Int) {b m : Nat} (h0 : b ≠ 0) (hb : b < 2 ^ m) (hm : m < 9000) (mu : Store) : F__law_low [.int a, .int (b : Int)] mu = .val (dF (mkRat a b)) mu := by
  unfold F__law_low fnD b__law_low
  have g1 : Int.gcd a b ≤ b := Nat.le_of_dvd (by omega) (Int.gcd_dvd_natAbs_right a b)
  have g0 : 0 < Int.gcd a b := Int.gcd_pos_of_ne_zero_right a (by omega)
  have g2 : (Int.gcd a b).log2 < 9000 := Nat.lt_of_le_of_lt (log2_le (Nat.lt_of_le_of_lt g1 hb)) hm
  have hg : (0 : Int) < (Int.gcd a b : Int) := by omega
  have hl := gcd_loop4 (A := some (.int a)) (B := some (.int b)) (bOf (e2 fGt (eVar 3) (eC (.int 0)))) (sSeq (sPar [2, 3] (aCons (eVar 3) (aCons (e2 fMod (eCall fInt (aCons (eVar 2) aNil)) (eVar 3)) aNil))) sNil) mu
    (fun x y => by simp) (fun x y h => by
      have h' : (0 : Int) < (y : Int) := by omega
      simp [fMod_i h'])
    b a.natAbs
  have hgg : a.natAbs.gcd b = Int.gcd a b := rfl
  rw [hgg] at hl
  simp [h0, abs_int, hl, fDiv_i, hg, g2]
  rw [trim_val (by rfl)]
  congr 1
  rw [← Rat.normalize_eq_mkRat h0, Rat.normalize_eq]
  show _ = D.tup [.int (a / ((a.natAbs.gcd b : Nat) : Int)), .int ((b / a.natAbs.gcd b : Nat) : Int)]
  rfl
theorem law_mul_eq {p q : Rat} {a b : Nat} (hp : Sz a p) (hq : Sz b q) (h : a + b < 9000) (mu : Store) : F__law_mul [dF p, dF q] mu = .val (dF (p * q)) mu := by
  unfold F__law_mul fnD b__law_mul
  have o1 : okMul p.num q.num = true := okMul_of hp.1 hq.1 (by omega)
  have o2 : okMul p.den q.den = true := okMul_of (i := p.den) (j := q.den) hp.2 hq.2 (by omega)
  have h2 : p.den * q.den < 2 ^ (a + b) := by
    rw [Nat.pow_add]
    exact Nat.mul_lt_mul'' hp.2 hq.2
  have e := low_eq (p.num * q.num) (Nat.mul_ne_zero p.den_nz q.den_nz) h2 h mu
  rw [Int.natCast_mul] at e
  simp [dF, fIx_t, atI, ixN, fMul_i, o1, o2, e]
  rw [mul_mk]
  exact trim_val rfl
theorem law_less_eq {p q : Rat} {a b : Nat} (hp : Sz a p) (hq : Sz b q) (h : a + b < 9000) (mu : Store) : F__law_less [dF p, dF q] mu = .val (.bl (decide (p < q))) mu := by
  unfold F__law_less fnD b__law_less
  have o1 : okMul p.num q.den = true := okMul_of (j := q.den) hp.1 hq.2 (by omega)
  have o2 : okMul q.num p.den = true := okMul_of (j := p.den) hq.1 hp.2 (by omega)
  simp [dF, fIx_t, atI, ixN, fMul_i, o1, o2]
  rw [trim_val rfl]
  congr 2
  rw [Bool.eq_iff_iff, decide_eq_true_eq, decide_eq_true_eq, Rat.lt_iff]
theorem rg1_app {a : SA} {n : Nat} {rh : DL.Env} {mu : Store} (h : a rh mu = .val [.int (n : Int)] mu) (hn : n ≤ 100000) : gRg1 a rh mu = .val ⟨(List.range n).map fun (i : Nat) => D.int (i : Int), []⟩ mu := by
  unfold gRg1
  rw [bnd_app, h]
  have e : rgDs 0 (n : Int) = (List.range n).map fun (i : Nat) => D.int (i : Int) := by
    unfold rgDs
    simp
  have hk : decide (-(2 ^ 62) ≤ (n : Int) ∧ (n : Int) < 2 ^ 62) = true := by
    rw [decide_eq_true_eq]
    omega
  simp only [hk, if_true, e]
  rfl
theorem cl_size {n : Nat} : ∀ {k : Nat}, (cl n k).length = n ^ k
  | 0 => rfl
  | k + 1 => by
    rw [cl, List.length_flatten, List.map_map, Nat.pow_succ, Nat.mul_comm]
    have : ∀ l : List Nat, (l.map (List.length ∘ fun c => (cl n k).map (c :: ·))).sum = l.length * n ^ k := fun l => by
      induction l with
      | nil => simp
      | cons a l ih => rw [List.map_cons, List.sum_cons, ih]; simp [cl_size, Nat.succ_mul, Nat.add_comm]
    rw [this, List.length_range]
def dCs (l : List (List Nat)) : D := .lst (l.map dC)
theorem asg1 {G : SE} {i : Nat} {rh : DL.Env} {mu mu' : Store} {d : D} (h : G rh mu = .val d mu') : sSeq (sAsg G (gVar i)) sNil rh mu = .nx (rh.set i (some d)) mu' := by simp [h]
theorem e2_of {g : F2} {a b : SE} {rh : DL.Env} {mu mu1 mu2 : Store} {x y : D} (h1 : a rh mu = .val x mu1) (h2 : b rh mu1 = .val y mu2) : DL.e2 g a b rh mu = g x y mu2 := by simp [h1, h2]
theorem courses_inner {n k : Nat} (hn : n ≤ 1000) (mu : Store) : ∀ (ws : List (List Nat)) (acc : List (List Nat)) (x2 x3 x5 x6 : Option D), acc.length + n * ws.length ≤ 100000 → (∀ w ∈ ws, w.length ≤ 1000) → ∃ y5 y6,
    forL [] (gVar 5) (sSeq (sAsg (e2 (fAdd false) (eVar 4) (eLc false (gRg1 (aCons (eVar 0) aNil)) (gVar 6) cYes (e2 (fAdd false) (eVar 5) (eTup (aCons (eVar 6) aNil))) [6])) (gVar 4)) sNil) (ws.map dC)
      [some (.int (n : Int)), some (.int (k : Int)), x2, x3, some (dCs acc), x5, x6] mu = .nx [some (.int (n : Int)), some (.int (k : Int)), x2, x3, some (dCs (acc ++ (ws.map fun w => (List.range n).map fun a => w ++ [a]).flatten)), y5, y6] mu := by
  intro ws
  induction ws with
  | nil => exact fun acc x2 x3 x5 x6 _ _ => ⟨x5, x6, by simp only [List.map_nil, List.flatten_nil, List.append_nil]; exact forL_0⟩
  | cons w ws ih =>
    intro acc x2 x3 x5 x6 hl hw
    rw [List.length_cons, Nat.mul_add, Nat.mul_one] at hl
    have hw1 := hw w (by simp)
    obtain ⟨y5, y6, e⟩ := ih (acc ++ (List.range n).map fun a => w ++ [a]) x2 x3 (some (dC w)) x6 (by simp; omega) (fun v hv => hw v (by simp [hv]))
    refine ⟨y5, y6, ?_⟩
    rw [List.map_cons, List.map_cons, List.flatten_cons, ← List.append_assoc]
    refine (forL_nx (rh1 := [some (.int (n : Int)), some (.int (k : Int)), x2, x3, some (dCs acc), some (dC w), x6]) (mu1 := mu) (by simp) (.inl ?_)).trans e
    have hc : eLc false (gRg1 (aCons (eVar 0) aNil)) (gVar 6) cYes (e2 (fAdd false) (eVar 5) (eTup (aCons (eVar 6) aNil))) [6] [some (.int (n : Int)), some (.int (k : Int)), x2, x3, some (dCs acc), some (dC w), x6] mu
        = mkL false ((List.range n).map fun a => dC (w ++ [a])) mu :=
      lc_all (g := fun (i : Nat) => D.int (i : Int)) (rg1_app (by simp) (by omega)) (by simp; omega) fun a ha => ⟨[some (.int (n : Int)), some (.int (k : Int)), x2, x3, some (dCs acc), some (dC w), some (.int (a : Int))], by simp, rfl, by
        have : dC (w ++ [a]) = .tup ((w.map fun (n : Nat) => D.int (n : Int)) ++ [.int (a : Int)]) := by unfold dC; rw [List.map_append]; rfl
        rw [this]
        have hle : w.length + 1 ≤ 1000000 := by omega
        simp [dC, hle]⟩
    simp only [mkL_f] at hc
    have hle : acc.length + n ≤ 1000000 := by omega
    have e2 : dCs (acc ++ (List.range n).map fun a => w ++ [a]) = .lst (acc.map dC ++ (List.range n).map fun a => dC (w ++ [a])) := by
      unfold dCs
      rw [List.map_append, List.map_map]
      rfl
    rw [e2]
    have hx : fAdd false (dCs acc) (.lst ((List.range n).map fun a => dC (w ++ [a]))) mu = .val (.lst (acc.map dC ++ (List.range n).map fun a => dC (w ++ [a]))) mu := by
      unfold dCs
      simp [hle]
    exact asg1 ((e2_of rfl hc).trans hx)
theorem courses_outer {n k : Nat} (hn : n ≤ 1000) (hk : k ≤ 1000) (hp : ∀ j, j ≤ k → n ^ j ≤ 100000) (mu : Store) : ∀ (js : List Nat) (i : Nat) (x3 x4 x5 x6 : Option D), i + js.length ≤ k → ∃ y3 y4 y5 y6,
    forL [] (gVar 3) (sSeq (sAsg (eLst false aNil) (gVar 4)) (sSeq (sFor (gSeq (eVar 2)) (gVar 5) (sSeq (sAsg (e2 (fAdd false) (eVar 4) (eLc false (gRg1 (aCons (eVar 0) aNil)) (gVar 6) cYes (e2 (fAdd false) (eVar 5) (eTup (aCons (eVar 6) aNil))) [6])) (gVar 4)) sNil)) (sSeq (sAsg (eVar 4) (gVar 2)) sNil)))
      (js.map fun (i : Nat) => D.int (i : Int)) [some (.int (n : Int)), some (.int (k : Int)), some (dCs (cl n i)), x3, x4, x5, x6] mu = .nx [some (.int (n : Int)), some (.int (k : Int)), some (dCs (cl n (i + js.length))), y3, y4, y5, y6] mu := by
  intro js
  induction js with
  | nil => exact fun i x3 x4 x5 x6 _ => ⟨x3, x4, x5, x6, forL_0⟩
  | cons j js ih =>
    intro i x3 x4 x5 x6 hi
    rw [List.length_cons] at hi
    obtain ⟨z5, z6, e1⟩ := courses_inner (k := k) hn mu (cl n i) [] (some (dCs (cl n i))) (some (.int (j : Int))) x5 x6 (by
      have := hp (i + 1) (by omega)
      rw [Nat.pow_succ] at this
      rw [cl_size, List.length_nil, Nat.mul_comm]
      omega) (fun w hw => by rw [(cl_len hw).1]; omega)
    rw [List.nil_append, ← cl_snoc] at e1
    obtain ⟨y3, y4, y5, y6, e⟩ := ih (i + 1) (some (.int (j : Int))) (some (dCs (cl n (i + 1)))) z5 z6 (by omega)
    refine ⟨y3, y4, y5, y6, ?_⟩
    rw [List.map_cons, List.length_cons, show i + (js.length + 1) = i + 1 + js.length by omega]
    refine (forL_nx (rh1 := [some (.int (n : Int)), some (.int (k : Int)), some (dCs (cl n i)), some (.int (j : Int)), x4, x5, x6]) (mu1 := mu) (by simp) (.inl ?_)).trans e
    have it : ∀ l, itOf mu (dCs l) = some ⟨l.map dC, []⟩ := fun l => rfl
    have d0 : D.lst [] = dCs [] := rfl
    simp [it, d0, e1]
theorem law_courses_eq {n k : Nat} (hn : n ≤ 1000) (hk : k ≤ 1000) (hp : ∀ j, j ≤ k → n ^ j ≤ 100000) (mu : Store) : F__law_courses [.int (n : Int), .int (k : Int)] mu = .val (dCs (cl n k)) mu := by
  obtain ⟨y3, y4, y5, y6, e⟩ := courses_outer hn hk hp mu (List.range k) 0 none none none none (by simp)
  rw [List.length_range, Nat.zero_add] at e
  unfold F__law_courses fnD b__law_courses
  have hr : ∀ rh : DL.Env, rh[1]? = some (some (.int (k : Int))) → gRg1 (aCons (eVar 1) aNil) rh mu = .val ⟨(List.range k).map fun (i : Nat) => D.int (i : Int), []⟩ mu := fun rh h => rg1_app (by simp [eVar_app h]) (by omega)
  have d0 : D.lst [D.tup []] = dCs (cl n 0) := rfl
  simp -implicitDefEqProofs [d0, hr, e]
  exact trim_val (by unfold dCs; simp only [lowD]; exact low_map (fun _ => dC_low) _)
end DLk71

set_option Elab.async false
set_option linter.all false
set_option maxRecDepth 100000
set_option maxHeartbeats 4000000
/-! the law's own shares of courses, ranked -/
namespace DLk71
open PySem PySem.Spec PyProof.Rows L2 DL
/-- parts, as the law has them -/
def dPt (s : List Rat) (t o : List (List Rat)) : D := .tup [dRow s, dTab t, dTab o]
@[simp] theorem ix_pt0 {s : List Rat} {t o : List (List Rat)} {mu : Store} : fIx (dPt s t o) (.int 0) mu = .val (dRow s) mu := by rfl
@[simp] theorem ix_pt1 {s : List Rat} {t o : List (List Rat)} {mu : Store} : fIx (dPt s t o) (.int 1) mu = .val (dTab t) mu := by rfl
@[simp] theorem ix_pt2 {s : List Rat} {t o : List (List Rat)} {mu : Store} : fIx (dPt s t o) (.int 2) mu = .val (dTab o) mu := by rfl
theorem ix_dC {w : List Nat} {i c : Nat} {mu : Store} (h : w[i]? = some c) : fIx (dC w) (.int (i : Int)) mu = .val (.int (c : Int)) mu := by
  unfold dC
  rw [fIx_t, DL.atI_nat (by rw [List.getElem?_map, h]; rfl)]
@[simp] theorem len_dC {w : List Nat} {mu : Store} : fLen [dC w] mu = .val (.int w.length) mu := by
  show R.val (D.int ((w.map fun (n : Nat) => D.int (n : Int)).length : Int)) mu = _
  rw [List.length_map]
@[simp] theorem len_dSeen {w : List (Option Nat)} {mu : Store} : fLen [dSeen w] mu = .val (.int w.length) mu := by
  show R.val (D.int ((w.map dS).length : Int)) mu = _
  rw [List.length_map]
theorem isN_dS {sg : Option Nat} : (dS sg).isN = sg.isNone := by cases sg <;> rfl
/-- the entry to a case, as the law reads it -/
def gEnt : SE := eIf (bOf (e2 fEq (eVar 4) (eC (.int 0)))) (e2 fIx (e2 fIx (eVar 0) (eC (.int 0))) (e2 fIx (eVar 2) (eVar 4))) (e2 fIx (e2 fIx (e2 fIx (eVar 0) (eC (.int 1))) (e2 fIx (eVar 2) (e2 fSub (eVar 4) (eC (.int 1))))) (e2 fIx (eVar 2) (eVar 4)))
section
variable {m n z : Nat} {s : List Rat} {t o : List (List Rat)} (h : Ch m n z s t o)
include h
theorem gEnt_eq {ss : List (Option Nat)} {u v : List Nat} {c : Nat} {f : Rat} {mu : Store} (hu : ∀ p ∈ u, p < n) (hc : c < n) : gEnt [some (dPt s t o), some (dSeen ss), some (dC (u ++ c :: v)), some (dF f), some (.int (u.length : Int))] mu = .val (dF (ent s t u.getLast? c)) mu := by
  have e0 : fIx (dC (u ++ c :: v)) (.int (u.length : Int)) mu = .val (.int (c : Int)) mu := ix_dC (by rw [List.getElem?_append_right (Nat.le_refl _), Nat.sub_self]; rfl)
  unfold gEnt
  rcases List.eq_nil_or_concat u with e | ⟨u', p, e⟩
  · subst e
    have e1 := ix_dRow (mu := mu) (h.s.g hc).1
    simp only [List.length_nil, Int.ofNat_zero, List.nil_append] at e0 ⊢
    simp [e0, e1, ent]
  · rw [List.concat_eq_append] at e
    have hp := hu p (by rw [e]; simp)
    have e3 : fIx (dC (u ++ c :: v)) (.int ((u.length : Int) - 1)) mu = .val (.int (p : Int)) mu := by
      have : ((u.length : Int) - 1) = (u'.length : Int) := by rw [e]; simp
      rw [this]
      refine ix_dC ?_
      rw [e, List.append_assoc, List.getElem?_append_right (Nat.le_refl _), Nat.sub_self]
      rfl
    have e1 := ix_dTab (mu := mu) (h.tg hp).1
    have e2 := ix_dRow (mu := mu) ((h.tg hp).2.g hc).1
    have hl : ¬ ((u.length : Int) = 0) := by rw [e]; simp; omega
    have hg : u.getLast? = some p := by rw [e]; simp
    rw [hg]
    have hfe : fEq (.int (u.length : Int)) (.int 0) mu = .val (.bl false) mu := by rw [fEq_i, decide_eq_false hl]
    simp only [eIf_app, bOf_app, e2_app, bnd_app, eVar_s, eVar_0, eC_app, hfe, fSub_i, ix_pt1, e0, e1, e2, e3, ent]
/-- the chance of a sign, as the law reads it -/
noncomputable def gShw : SE := eIf (bOf (e2 fIsN (e2 fIx (eVar 1) (eVar 4)) (eC .non))) (eVar 3) (cCall F__law_mul (aCons (eVar 3) (aCons (e2 fIx (e2 fIx (e2 fIx (eVar 0) (eC (.int 2))) (e2 fIx (eVar 2) (eVar 4))) (e2 fIx (eVar 1) (eVar 4))) aNil)))
theorem gShw_eq {ss : List (Option Nat)} {w : List Nat} {i c : Nat} {sg : Option Nat} {f : Rat} {a : Nat} {mu : Store} (hf : Sz a f) (ha : a + m < 9000) (hi : w[i]? = some c) (hj : ss[i]? = some sg) (hc : c < n) (hs : okS z sg) : gShw [some (dPt s t o), some (dSeen ss), some (dC w), some (dF f), some (.int (i : Int))] mu = .val (dF (f * shw o c sg)) mu := by
  have e0 : fIx (dC w) (.int (i : Int)) mu = .val (.int (c : Int)) mu := ix_dC hi
  have e1 := ix_seen (mu := mu) hj
  unfold gShw
  cases sg with
  | none =>
    have : f * shw o c none = f := Rat.mul_one f
    rw [this]
    simp [e1, dS, D.isN]
  | some k =>
    have e2 := ix_dTab (mu := mu) (h.og hc).1
    have r := (h.og hc).2.g (i := k) hs
    have e3 := ix_dRow (mu := mu) r.1
    have e4 := law_mul_eq (b := m) hf r.2.1 ha mu
    have : shw o c (some k) = gR (gT o c) k := rfl
    rw [this]
    simp only [eIf_app, bOf_app, e2_app, bnd_app, eVar_s, eVar_0, eC_app, e0, e1, e2, e3, e4, dS, fIsN_n, D.isN, ix_pt2, cCall_app, aCons_app, aNil_app, ret_app]
theorem prl_sz : ∀ {ss : List (Option Nat)} {w : List Nat} {f : Rat} {p : Option Nat} {k : Nat}, Sz k f → (∀ x ∈ ss, okS z x) → (∀ c ∈ w, c < n) → (∀ c, p = some c → c < n) → Sz (k + 2 * m * w.length) (prl s t o f p ss w)
  | [], w, f, p, k, hf, _, _, _ => by rw [prl]; exact hf.mono (by omega); simp
  | sg :: ss, [], f, p, k, hf, _, _, _ => by rw [prl]; exact hf.mono (by omega); simp
  | sg :: ss, c :: w, f, p, k, hf, hs, hw, hp => by
    rw [prl]
    have hc := hw c (by simp)
    have := prl_sz (ss := ss) (w := w) (p := some c) ((hf.mul (h.ent_sz hp hc).1).mul (h.shw_sz hc (hs sg (by simp))).1) (fun x hx => hs x (by simp [hx])) (fun x hx => hw x (by simp [hx])) (fun x hx => by cases hx; exact hc)
    refine this.mono ?_
    rw [List.length_cons, Nat.mul_add, Nat.mul_one]
    omega
theorem law_course_share_eq {ss : List (Option Nat)} {w : List Nat} (hss : ∀ x ∈ ss, okS z x) (hw : ∀ p ∈ w, p < n) (hl : ss.length = w.length) (hm : 1 + 2 * m * (w.length + 1) < 4000) (hll : w.length ≤ 1000) (mu : Store) :
    F__law_course_share [dPt s t o, dSeen ss, dC w] mu = .val (dF (prl s t o 1 none ss w)) mu := by
  have loop : ∀ (v u : List Nat) (f : Rat) (ssv : List (Option Nat)) (x4 : Option D) (ssu : List (Option Nat)), w = u ++ v → ss = ssu ++ ssv → ssu.length = u.length → Sz (1 + 2 * m * u.length) f → ∃ y4,
      forL [] (gVar 4) (sSeq (sAsg (cCall F__law_mul (aCons (eVar 3) (aCons gEnt aNil))) (gVar 3)) (sSeq (sAsg gShw (gVar 3)) sNil))
        ((List.range' u.length v.length).map fun (n : Nat) => D.int (n : Int)) [some (dPt s t o), some (dSeen ss), some (dC w), some (dF f), x4] mu = .nx [some (dPt s t o), some (dSeen ss), some (dC w), some (dF (prl s t o f u.getLast? ssv v)), y4] mu := by
    intro v
    induction v with
    | nil =>
      intro u f ssv x4 ssu hw' hs' hlu hf
      refine ⟨x4, ?_⟩
      have e : prl s t o f u.getLast? ssv [] = f := by cases ssv <;> rfl
      rw [e]
      exact forL_0
    | cons c v ih =>
      intro u f ssv x4 ssu hw' hs' hlu hf
      have hlv : ssv.length = v.length + 1 := by
        have := congrArg List.length hw'
        have h2 := congrArg List.length hs'
        simp at this h2
        omega
      obtain ⟨sg, ssv', rfl⟩ : ∃ sg r, ssv = sg :: r := by
        cases ssv with
        | nil => simp at hlv
        | cons a b => exact ⟨a, b, rfl⟩
      have hc : c < n := hw c (by rw [hw']; simp)
      have hsg : okS z sg := hss sg (by rw [hs']; simp)
      have hu : ∀ p ∈ u, p < n := fun p hp => hw p (by rw [hw']; simp [hp])
      have hprev : ∀ p, u.getLast? = some p → p < n := fun p hp => hu p (List.mem_of_getLast? hp)
      have z1 := (h.ent_sz hprev hc).1
      have z2 := (h.shw_sz hc hsg).1
      have hlen : u.length + 1 ≤ w.length := by
        have := congrArg List.length hw'
        simp at this
        omega
      have hmm : 2 * m * (u.length + 1) ≤ 2 * m * (w.length + 1) := Nat.mul_le_mul_left _ (by omega)
      have e5 : 2 * m * (u.length + 1) = 2 * m * u.length + 2 * m := by rw [Nat.mul_add, Nat.mul_one]
      have szn : Sz (1 + 2 * m * (u ++ [c]).length) (f * ent s t u.getLast? c * shw o c sg) := by
        rw [List.length_append]
        show Sz (1 + 2 * m * (u.length + 1)) _
        rw [show 1 + 2 * m * (u.length + 1) = (1 + 2 * m * u.length + m) + m by omega]
        exact (hf.mul z1).mul z2
      obtain ⟨y4, e⟩ := ih (u ++ [c]) (f * ent s t u.getLast? c * shw o c sg) ssv' (some (.int (u.length : Int))) (ssu ++ [sg]) (by rw [hw', List.append_assoc]; rfl) (by rw [hs', List.append_assoc]; rfl) (by simp [hlu]) szn
      refine ⟨y4, ?_⟩
      rw [List.length_cons, List.range'_succ, List.map_cons]
      have e' := e
      rw [List.length_append, List.getLast?_append] at e'
      refine (forL_nx (rh1 := [some (dPt s t o), some (dSeen ss), some (dC w), some (dF f), some (.int (u.length : Int))]) (mu1 := mu) (by simp) (.inl ?_)).trans (e'.trans ?_)
      · have t1 := law_mul_eq hf z1 (by omega) mu
        have g1 := gEnt_eq h (ss := ss) (u := u) (v := v) (f := f) (mu := mu) hu hc
        rw [← hw'] at g1
        have g2 := gShw_eq h (ss := ss) (w := w) (i := u.length) (c := c) (sg := sg) (mu := mu) (hf.mul z1) (by omega) (by rw [hw', List.getElem?_append_right (Nat.le_refl _), Nat.sub_self]; rfl) (by rw [hs', List.getElem?_append_right (by omega), hlu, Nat.sub_self]; rfl) hc hsg
        simp [g1, g2, t1]
      · simp [prl]
  obtain ⟨y4, e⟩ := loop w [] 1 ss none [] rfl rfl rfl ⟨by show 1 < 2 ^ (1 + 2 * m * 0); simp, by show 1 < 2 ^ (1 + 2 * m * 0); simp⟩
  simp only [List.length_nil, List.getLast?_nil] at e
  rw [← List.range_eq_range'] at e
  have hr : ∀ rh : DL.Env, rh[2]? = some (some (dC w)) → gRg1 (aCons (eCall fLen (aCons (eVar 2) aNil)) aNil) rh mu = .val ⟨(List.range w.length).map fun (i : Nat) => D.int (i : Int), []⟩ mu := fun rh h => rg1_app (by simp [eVar_app h]) (by omega)
  have d1 : (D.tup [D.int 1, D.int 1]) = dF 1 := rfl
  have hb : b__law_course_share = (sSeq (sAsg (eTup (aCons (eC (.int 1)) (aCons (eC (.int 1)) aNil))) (gVar 3)) (sSeq (sFor (gRg1 (aCons (eCall fLen (aCons (eVar 2) aNil)) aNil)) (gVar 4) (sSeq (sAsg (cCall F__law_mul (aCons (eVar 3) (aCons gEnt aNil))) (gVar 3)) (sSeq (sAsg gShw (gVar 3)) sNil))) (sSeq (sRet (eVar 3)) sNil))) := rfl
  unfold F__law_course_share fnD
  rw [hb]
  simp -implicitDefEqProofs [d1, hr, e]
  exact trim_val rfl
omit h in
theorem tup2 {a b : SE} {rh : DL.Env} {mu mu1 mu2 : Store} {x y : D} (h1 : a rh mu = .val x mu1) (h2 : b rh mu1 = .val y mu2) : eTup (aCons a (aCons b aNil)) rh mu = .val (.tup [x, y]) mu2 := by simp [h1, h2]
omit h in
theorem cCall1 {F : List D → M D} {a : SA} {rh : DL.Env} {mu mu1 : Store} {ds : List D} {r : R D} (h1 : a rh mu = .val ds mu1) (h2 : F ds mu1 = r) : cCall F a rh mu = r := by simp [h1, h2]
omit h in
theorem gSeq_of {g : SE} {rh : DL.Env} {mu mu1 : Store} {d : D} {it : ItD} (h1 : g rh mu = .val d mu1) (h2 : itOf mu1 d = some it) : gSeq g rh mu = .val it mu1 := by simp [h1, h2]
theorem law_shares_eq {ss : List (Option Nat)} (hss : ∀ x ∈ ss, okS z x) (hm : 1 + 2 * m * (ss.length + 1) < 4000) (hll : ss.length ≤ 1000) (hp : ∀ j, j ≤ ss.length → n ^ j ≤ 100000) (mu : Store) :
    F__law_shares [dPt s t o, dSeen ss] mu = .val (.lst ((cl n ss.length).map fun w => dP (prl s t o 1 none ss w, w))) mu := by
  have hc := law_courses_eq (k := ss.length) h.n1 hll hp mu
  have hcl := cl_size (n := n) (k := ss.length)
  have hlc : eLc false (gSeq (cCall F__law_courses (aCons (eCall fLen (aCons (e2 fIx (eVar 0) (eC (.int 0))) aNil)) (aCons (eCall fLen (aCons (eVar 1) aNil)) aNil)))) (gVar 2) cYes (eTup (aCons (cCall F__law_course_share (aCons (eVar 0) (aCons (eVar 1) (aCons (eVar 2) aNil)))) (aCons (eVar 2) aNil))) [2] [some (dPt s t o), some (dSeen ss), none] mu
      = mkL false ((cl n ss.length).map fun w => dP (prl s t o 1 none ss w, w)) mu :=
    lc_all (g := dC) (gSeq_of (cCall1 (ds := [.int (n : Int), .int (ss.length : Int)]) (by simp [h.s.len]) hc) rfl) (hcl ▸ Nat.le_trans (hp _ (Nat.le_refl _)) (by decide)) fun w hw => ⟨[some (dPt s t o), some (dSeen ss), some (dC w)], by simp, rfl, by
      obtain ⟨h1, h2⟩ := cl_len hw
      have e := law_course_share_eq h hss h2 h1.symm (by rw [h1]; exact hm) (by omega) mu
      exact tup2 (cCall1 rfl e) rfl⟩
  simp only [mkL_f] at hlc
  unfold F__law_shares fnD b__law_shares
  simp -implicitDefEqProofs [hlc]
  exact trim_val (by simp only [lowD]; exact low_map (fun _ => dP_low) _)
end
end DLk71

set_option Elab.async false
set_option linter.all false
set_option maxRecDepth 100000
set_option maxHeartbeats 4000000
/-! the law's own ranking -/
namespace DLk71
open PySem PySem.Spec PyProof.Rows L2 DL
theorem seq_of {a b : SS} {rh rh1 : DL.Env} {mu mu1 : Store} {r : RS} (h1 : a rh mu = .nx rh1 mu1) (h2 : b rh1 mu1 = r) : sSeq a b rh mu = r := by simp [h1, h2]
theorem asg_of {g : SE} {t : SG} {rh rh1 : DL.Env} {mu mu1 mu2 : Store} {d : D} (h1 : g rh mu = .val d mu1) (h2 : t d rh mu1 = .val rh1 mu2) : sAsg g t rh mu = .nx rh1 mu2 := by simp [h1, h2]
theorem asgv {g : SE} {i : Nat} {rh : DL.Env} {mu mu1 : Store} {d : D} (h1 : g rh mu = .val d mu1) : sAsg g (gVar i) rh mu = .nx (rh.set i (some d)) mu1 := by simp [h1]
theorem for_of {src : SI} {t : SG} {b : SS} {rh : DL.Env} {mu mu1 : Store} {ds : List D} {gi : List (Nat × List D)} {r : RS} (h1 : src rh mu = .val ⟨ds, gi⟩ mu1) (h2 : forL gi t b ds rh mu1 = r) : sFor src t b rh mu = r := by simp [h1, h2]
theorem if_t {c : SB} {a b : SS} {rh : DL.Env} {mu mu1 : Store} {r : RS} (h1 : c rh mu = .val true mu1) (h2 : a rh mu1 = r) : sIf c a b rh mu = r := by simp [h1, h2]
theorem if_f {c : SB} {a b : SS} {rh : DL.Env} {mu mu1 : Store} {r : RS} (h1 : c rh mu = .val false mu1) (h2 : b rh mu1 = r) : sIf c a b rh mu = r := by simp [h1, h2]
theorem drop_of {g : SE} {rh : DL.Env} {mu mu1 : Store} {d : D} (h1 : g rh mu = .val d mu1) : sDrop g rh mu = .nx rh mu1 := by simp [h1]
theorem ret_of {g : SE} {rh : DL.Env} {mu mu1 : Store} {d : D} (h1 : g rh mu = .val d mu1) : sRet g rh mu = .rt d mu1 := by simp [h1]
theorem retseq {g : SE} {b : SS} {rh : DL.Env} {mu mu1 : Store} {d : D} (h1 : g rh mu = .val d mu1) : sSeq (sRet g) b rh mu = .rt d mu1 := by simp [h1]
theorem call_of {F : FL} {a : SA} {rh : DL.Env} {mu mu1 : Store} {ds : List D} {r : R D} (h1 : a rh mu = .val ds mu1) (h2 : F ds mu1 = r) : eCall F a rh mu = r := by simp [h1, h2]
theorem args1 {a : SE} {rh : DL.Env} {mu mu1 : Store} {x : D} (h1 : a rh mu = .val x mu1) : aCons a aNil rh mu = .val [x] mu1 := by simp [h1]
theorem argsC {a : SE} {r : SA} {rh : DL.Env} {mu mu1 mu2 : Store} {x : D} {xs : List D} (h1 : a rh mu = .val x mu1) (h2 : r rh mu1 = .val xs mu2) : aCons a r rh mu = .val (x :: xs) mu2 := by simp [h1, h2]
theorem bOf_of {g : SE} {rh : DL.Env} {mu mu1 : Store} {k : Bool} (h1 : g rh mu = .val (.bl k) mu1) : bOf g rh mu = .val k mu1 := by simp [h1]
theorem e1_of {g : F1} {a : SE} {rh : DL.Env} {mu mu1 : Store} {x : D} {r : R D} (h1 : a rh mu = .val x mu1) (h2 : g x mu1 = r) : DL.e1 g a rh mu = r := by simp [h1, h2]
theorem e2_r {g : F2} {a b : SE} {rh : DL.Env} {mu mu1 mu2 : Store} {x y : D} {r : R D} (h1 : a rh mu = .val x mu1) (h2 : b rh mu1 = .val y mu2) (h3 : g x y mu2 = r) : DL.e2 g a b rh mu = r := by simp [h1, h2, h3]
theorem fnD_rt {n z : Nat} {g : SS} {ds : List D} {mu mu1 : Store} {d : D} (hl : ds.length = n) (h : g (ds.map some ++ List.replicate (z - n) none) mu = .rt d mu1) : fnD n z false g ds mu = .val d mu1 := by
  unfold fnD
  simp [hl, h]
theorem fnD_tr {n z : Nat} {g : SS} {ds : List D} {mu mu1 : Store} {d : D} {r : R D} (hl : ds.length = n) (h : g (ds.map some ++ List.replicate (z - n) none) mu = .rt d mu1) (ht : trim mu (.val d mu1) = r) : fnD n z true g ds mu = r := by
  unfold fnD
  simp [hl, h, ht]
theorem vwL_last {mu : Store} {ds : List D} : vwL (mu ++ [.lst ds]) (.ref mu.length) = some ds := by
  unfold vwL
  simp only [last_get]
theorem fTuple_last {mu : Store} {ds : List D} : fTuple [.ref mu.length] (mu ++ [.lst ds]) = .val (.tup ds) (mu ++ [.lst ds]) := by
  unfold fTuple
  simp only [vwL_last]
theorem law_rank_loop {mu : Store} {m : Nat} (hm : m < 4000) {A B : Option D} : ∀ (qs acc : List P) (x3 x4 : Option D), (∀ p ∈ qs, Sz m p.1 ∧ 0 ≤ p.1) → (∀ p ∈ acc, Sz m p.1) → acc.length + qs.length ≤ 100000 → ∃ y3 y4,
      forL [] (gVar 3) (sSeq (sIf (bOf (e2 fGt (e2 fIx (e2 fIx (eVar 3) (eC (.int 0))) (eC (.int 0))) (eC (.int 0)))) (sSeq (sDrop (eMethL fInsert (eVar 2) (aCons (eCall fLen (aCons (eLc false (gSeq (eVar 2)) (gVar 4) (bNot (bOf (cCall F__law_less (aCons (e2 fIx (eVar 4) (eC (.int 0))) (aCons (e2 fIx (eVar 3) (eC (.int 0))) aNil))))) (eVar 4) [4]) aNil)) (aCons (eVar 3) aNil)))) sNil) sNil) sNil) (qs.map dP)
        [A, B, some (.ref mu.length), x3, x4] (mu ++ [.lst (acc.map dP)]) = .nx [A, B, some (.ref mu.length), y3, y4] (mu ++ [.lst ((rkFrom acc (nz qs)).map dP)]) := by
  intro qs
  induction qs with
  | nil => exact fun acc x3 x4 _ _ _ => ⟨x3, x4, forL_0⟩
  | cons p qs ih =>
    intro acc x3 x4 hq ha hl
    simp only [List.length_cons] at hl
    obtain ⟨hp, hp0⟩ := hq p (by simp)
    have hcond : ∀ mu', bOf (e2 fGt (e2 fIx (e2 fIx (eVar 3) (eC (.int 0))) (eC (.int 0))) (eC (.int 0))) [A, B, some (.ref mu.length), some (dP p), x4] mu' = .val (!decide (p.1 = 0)) mu' := fun mu' => by
      simp
      have h1 : 0 ≤ p.1.num := Rat.num_nonneg.mpr hp0
      by_cases h : p.1 = 0
      · simp [h]
      · have : p.1.num ≠ 0 := fun e => h (Rat.num_eq_zero.mp e)
        have h2 : 0 < p.1.num := by omega
        simp [h, h2]
    by_cases h0 : p.1 = 0
    · have e0 : nz (p :: qs) = nz qs := by unfold nz; rw [List.filter_cons_of_neg (by simp [h0])]
      rw [e0]
      obtain ⟨y3, y4, e⟩ := ih acc (some (dP p)) x4 (fun q h => hq q (by simp [h])) ha (by omega)
      refine ⟨y3, y4, ?_⟩
      rw [List.map_cons]
      refine (forL_nx (rh1 := [A, B, some (.ref mu.length), some (dP p), x4]) (mu1 := mu ++ [.lst (acc.map dP)]) (by simp) (.inl ?_)).trans e
      have hc := hcond (mu ++ [.lst (acc.map dP)])
      rw [show (!decide (p.1 = 0)) = false by simp [h0]] at hc
      exact seq_of (if_f hc rfl) rfl
    · have e0 : nz (p :: qs) = p :: nz qs := by unfold nz; rw [List.filter_cons_of_pos (by simp [h0])]
      rw [e0]
      have hlen : (acc.filter fun o => !decide (o.1 < p.1)).length ≤ acc.length := List.length_filter_le _ _
      have hacc : ∀ q ∈ insP p acc, Sz m q.1 := fun q hq' => by
        rcases List.mem_cons.mp ((insP_perm p acc).mem_iff.mp hq') with e | h
        · rw [e]; exact hp
        · exact ha q h
      have hil : (insP p acc).length = acc.length + 1 := (insP_perm p acc).length_eq
      obtain ⟨y3, y4, e⟩ := ih (insP p acc) (some (dP p)) x4 (fun q h => hq q (by simp [h])) hacc (by omega)
      refine ⟨y3, y4, ?_⟩
      rw [List.map_cons]
      refine (forL_nx (rh1 := [A, B, some (.ref mu.length), some (dP p), x4]) (mu1 := mu ++ [.lst (acc.map dP)]) (by simp) (.inl ?_)).trans e
      have hc0 := hcond (mu ++ [.lst (acc.map dP)])
      rw [show (!decide (p.1 = 0)) = true by simp [h0]] at hc0
      have hc : eLc false (gSeq (eVar 2)) (gVar 4) (bNot (bOf (cCall F__law_less (aCons (e2 fIx (eVar 4) (eC (.int 0))) (aCons (e2 fIx (eVar 3) (eC (.int 0))) aNil))))) (eVar 4) [4] [A, B, some (.ref mu.length), some (dP p), x4] (mu ++ [.lst (acc.map dP)])
          = mkL false ((acc.filter fun o => !decide (o.1 < p.1)).map dP) (mu ++ [.lst (acc.map dP)]) :=
        lc_someg (gi := [(mu.length, acc.map dP)]) (g := dP) (f := dP) (p := fun o => !decide (o.1 < p.1)) (fun q hq' => by rw [List.mem_singleton] at hq'; subst hq'; exact last_get) (by simp [itOf, last_get]) (by omega) fun o ho =>
          ⟨[A, B, some (.ref mu.length), some (dP p), some (dP o)], by simp, by simp [law_less_eq (ha o ho) hp (by omega)], fun _ => by simp⟩
      simp only [mkL_f] at hc
      have k1 : ((acc.filter fun o => !decide (o.1 < p.1)).length : Int) ≤ 1000000 := by omega
      have eq : (List.map dP acc).take (acc.filter fun o => !decide (o.1 < p.1)).length ++ [dP p] ++ (List.map dP acc).drop (acc.filter fun o => !decide (o.1 < p.1)).length = (insP p acc).map dP := by
        unfold insP
        rw [List.map_append, List.map_append, List.map_take, List.map_drop]
        rfl
      refine seq_of (if_t hc0 (seq_of (drop_of (d := .non) (mu1 := mu ++ [.lst ((insP p acc).map dP)]) ?_) rfl)) rfl
      have hx : eCall fLen (aCons (eLc false (gSeq (eVar 2)) (gVar 4) (bNot (bOf (cCall F__law_less (aCons (e2 fIx (eVar 4) (eC (.int 0))) (aCons (e2 fIx (eVar 3) (eC (.int 0))) aNil))))) (eVar 4) [4]) aNil) [A, B, some (.ref mu.length), some (dP p), x4] (mu ++ [.lst (acc.map dP)]) = .val (.int ((acc.filter fun o => !decide (o.1 < p.1)).length : Int)) (mu ++ [.lst (acc.map dP)]) := by
        refine call_of (args1 hc) ?_
        rw [fLen_l, List.length_map]
      simp only [eMethL_app, eVar_s, eVar_0, bnd_app, isRefL, last_get, if_true, aCons_app, hx, aNil_app, ret_app]
      unfold fInsert
      simp only [last_get, List.length_map, putS, last_set, few, Bool.and_eq_true, decide_eq_true_eq]
      rw [if_pos ⟨⟨by omega, by omega⟩, k1⟩]
      simp only [Int.toNat_natCast, eq]
section
variable {m n z : Nat} {s : List Rat} {t o : List (List Rat)} (h : Ch m n z s t o)
include h
theorem law_ranked_eq {ss : List (Option Nat)} (hss : ∀ x ∈ ss, okS z x) (hm : 1 + 2 * m * (ss.length + 1) < 4000) (hll : ss.length ≤ 1000) (hp : ∀ j, j ≤ ss.length → n ^ j ≤ 100000) (mu : Store) :
    F__law_ranked [dPt s t o, dSeen ss] mu = .val (.tup ((rk (All n s t o ss)).map dP)) mu := by
  have hs := fun mu => law_shares_eq h hss hm hll hp mu
  have hmap : ((cl n ss.length).map fun w => dP (prl s t o 1 none ss w, w)) = ((cl n ss.length).map fun w => (prl s t o 1 none ss w, w)).map dP := by rw [List.map_map]; rfl
  rw [hmap] at hs
  obtain ⟨y3, y4, e⟩ := law_rank_loop (mu := mu) (m := 1 + 2 * m * ss.length) (by rw [Nat.mul_add] at hm; omega) (A := some (dPt s t o)) (B := some (dSeen ss)) ((cl n ss.length).map fun w => (prl s t o 1 none ss w, w)) [] none none (fun p hp' => by
    obtain ⟨w, hw, rfl⟩ := List.mem_map.mp hp'
    obtain ⟨h1, h2⟩ := cl_len hw
    refine ⟨?_, prl_nn h (by decide) hss h2 (fun _ e => by cases e)⟩
    have := prl_sz h (f := 1) (k := 1) (ss := ss) (w := w) (p := none) ⟨by decide, by decide⟩ hss h2 (fun _ e => by cases e)
    rw [h1] at this
    exact this) (fun p hp => by cases hp) (by
    rw [List.length_map, cl_size]
    exact Nat.le_trans (Nat.le_of_eq (Nat.zero_add _)) (hp _ (Nat.le_refl _)))
  unfold F__law_ranked b__law_ranked
  refine fnD_tr (d := .tup ((rk (All n s t o ss)).map dP)) (mu1 := mu ++ [.lst ((rk (All n s t o ss)).map dP)]) rfl ?_ (trim_app (by simp only [lowD]; exact low_map (fun _ => dP_low) _))
  refine seq_of (asgv (d := .ref mu.length) (mu1 := mu ++ [.lst []]) (by simp)) (seq_of (for_of (gSeq_of (cCall1 (ds := [dPt s t o, dSeen ss]) (by rfl) (hs _)) rfl) e) (retseq (call_of (args1 rfl) fTuple_last)))
end
end DLk71

set_option Elab.async false
set_option linter.all false
set_option maxRecDepth 100000
set_option maxHeartbeats 4000000
/-! what the law draws -/
namespace DLk71
open PySem PySem.Spec PyProof.Rows L2 DL
/-- the law's heap: its cells, and the stir -/
structure G where
  o : List D
  xs : List Int
  st : Int
def hp (g : G) (nu : Store) : Store := DO.lst g.o :: DO.lst (g.xs.map D.int) :: DO.lst [.ref 1, .int g.st] :: nu
structure GOk (g : G) : Prop where
  nn : ∀ x ∈ g.xs, 0 ≤ x
  len : g.xs.length ≤ 60
  st0 : 0 ≤ g.st
  st1 : g.st < 2 ^ 31
  lo : ∀ k, lowL k g.o = true
theorem bAnd_t {a b : SB} {rh : DL.Env} {mu mu1 : Store} {r : R Bool} (h1 : a rh mu = .val true mu1) (h2 : b rh mu1 = r) : bAnd a b rh mu = r := by simp [h1, h2]
theorem bAnd_f {a b : SB} {rh : DL.Env} {mu mu1 : Store} (h1 : a rh mu = .val false mu1) : bAnd a b rh mu = .val false mu1 := by simp [h1]
theorem bNot_of {a : SB} {rh : DL.Env} {mu mu1 : Store} {k : Bool} (h1 : a rh mu = .val k mu1) : bNot a rh mu = .val (!k) mu1 := by simp [h1]
theorem while_f {c : SB} {b : SS} {rh : DL.Env} {mu mu1 : Store} (h1 : c rh mu = .val false mu1) : sWhile c b rh mu = .nx rh mu1 := by
  rw [sWhile_eq, h1]
  rfl
theorem while_t {c : SB} {b : SS} {rh rh2 : DL.Env} {mu mu1 mu2 : Store} {r : RS} (h1 : c rh mu = .val true mu1) (h2 : b rh mu1 = .nx rh2 mu2) (h3 : sWhile c b rh2 mu2 = r) : sWhile c b rh mu = r := by
  rw [sWhile_eq, h1]
  simp [h2, h3]
theorem hp0 {g : G} {nu : Store} : fIx (.ref 2) (.int 0) (hp g nu) = .val (.ref 1) (hp g nu) := rfl
theorem hp1 {g : G} {nu : Store} : fIx (.ref 2) (.int 1) (hp g nu) = .val (.int g.st) (hp g nu) := rfl
theorem eqL_ref {i : Nat} {ds : List D} {mu : Store} {d : D} (h : mu[i]? = some (.lst ds)) : fEq (.ref i) d mu = fEq (.lst ds) d mu := by
  unfold fEq
  have : py0 mu (.ref i) = py0 mu (.lst ds) := by
    unfold py0
    simp only [h]
  cases d <;> simp only [eqStr, this]
theorem neL_ref {i : Nat} {ds : List D} {mu : Store} {d : D} (h : mu[i]? = some (.lst ds)) : fNe (.ref i) d mu = fNe (.lst ds) d mu := by
  unfold fNe
  have : py0 mu (.ref i) = py0 mu (.lst ds) := by
    unfold py0
    simp only [h]
  cases d <;> simp only [eqStr, this]
theorem hp_ne {g : G} {nu : Store} : fNe (.ref 1) (.lst []) (hp g nu) = .val (.bl (!decide (g.xs = []))) (hp g nu) := by
  rw [neL_ref (ds := g.xs.map D.int) rfl, fNe_pl (n := 1) (by omega) (by
    show (g.xs.map D.int).all (pln 0) = true
    rw [List.all_map, List.all_eq_true]
    intro x _
    rfl) rfl]
  congr 3
  have : (D.lst (g.xs.map D.int) = .lst []) ↔ g.xs = [] := by
    constructor
    · intro e
      have := D.lst.inj e
      simpa using this
    · intro e
      rw [e]
      rfl
  exact decide_eq_decide.mpr this
theorem hp_last {g : G} {nu : Store} {ys : List Int} {y : Int} (h : g.xs = ys ++ [y]) : fIx (.ref 1) (.int (-1)) (hp g nu) = .val (.int y) (hp g nu) := by
  unfold fIx
  have : vwL (hp g nu) (.ref 1) = some (g.xs.map D.int) := rfl
  simp only [this, h]
  have : atI ((ys ++ [y]).map D.int) (-1) = some (.int y) := by
    unfold atI ixN
    simp
    have e : (-1 + ((ys.length : Int) + 1)).toNat = ys.length := by omega
    have h1 : (1 : Int) ≤ (ys.length : Int) + 1 := by omega
    rw [if_pos h1, e]
    show (List.map D.int ys ++ [D.int y])[ys.length]? = _
    rw [List.getElem?_append_right (by simp)]
    simp
  rw [this]
theorem hp_pop {g : G} {nu : Store} {ys : List Int} {y : Int} (h : g.xs = ys ++ [y]) : fPop (.ref 1) [] (hp g nu) = .val (.int y) (hp ⟨g.o, ys, g.st⟩ nu) := by
  unfold fPop
  have : (hp g nu)[1]? = some (.lst (g.xs.map D.int)) := rfl
  simp only [this, h, List.map_append, List.length_append, List.length_map, List.map_cons, List.map_nil, List.length_singleton, List.length_cons, List.length_nil]
  have e : (ys.map D.int ++ [D.int y])[ys.length + (0 + 1) - 1]? = some (.int y) := by
    rw [show ys.length + (0 + 1) - 1 = ys.length by omega, List.getElem?_append_right (by simp)]
    simp
  simp only [e, List.dropLast_concat]
  rfl
theorem hp_app {g : G} {nu : Store} {y : Int} (h : g.xs.length ≤ 60) : fAppend (.ref 1) [.int y] (hp g nu) = .val .non (hp ⟨g.o, g.xs ++ [y], g.st⟩ nu) := by
  unfold fAppend
  have : (hp g nu)[1]? = some (.lst (g.xs.map D.int)) := rfl
  have hf : few (g.xs.map D.int).length = true := by
    rw [List.length_map, few_s]
    omega
  simp only [this, hf, if_true]
  have e : g.xs.map D.int ++ [D.int y] = (g.xs ++ [y]).map D.int := by rw [List.map_append]; rfl
  rw [e]
  rfl
theorem methL_of {f : FM} {o : SE} {a : SA} {rh : DL.Env} {mu mu1 mu2 : Store} {d : D} {ds : List D} {r : R D} (h1 : o rh mu = .val d mu1) (h2 : isRefL mu1 d = true) (h3 : a rh mu1 = .val ds mu2) (h4 : f d ds mu2 = r) : eMethL f o a rh mu = r := by
  simp [h1, h2, h3, h4]
theorem draw_loop {many x2 : Option D} {nu : Store} : ∀ (k : Nat) (g : G), g.xs.length ≤ k → GOk g → ∃ ys, GOk ⟨g.o, ys, g.st⟩ ∧ (∀ zs y, ys = zs ++ [y] → y ≠ 0) ∧
    sWhile (bAnd (bOf (e2 fNe (e2 fIx (eVar 0) (eC (.int 0))) (eLst false aNil))) (bOf (e2 fEq (e2 fIx (e2 fIx (eVar 0) (eC (.int 0))) (e1 fNeg (eC (.int 1)))) (eC (.int 0))))) (sSeq (sDrop (eMethL fPop (e2 fIx (eVar 0) (eC (.int 0))) aNil)) sNil) [some (.ref 2), many, x2] (hp g nu) = .nx [some (.ref 2), many, x2] (hp ⟨g.o, ys, g.st⟩ nu) := by
  intro k
  induction k with
  | zero =>
    intro g hl hg
    have e : g.xs = [] := List.length_eq_zero_iff.mp (by omega)
    refine ⟨g.xs, hg, fun zs y h => by rw [e] at h; simp at h, while_f (bAnd_f (bOf_of (e2_r (e2_r rfl rfl hp0) rfl (hp_ne.trans ?_))))⟩
    rw [decide_eq_true e]
    rfl
  | succ k ih =>
    intro g hl hg
    rcases List.eq_nil_or_concat g.xs with e | ⟨ys, y, e⟩
    · refine ⟨g.xs, hg, fun zs y h => by rw [e] at h; simp at h, while_f (bAnd_f (bOf_of (e2_r (e2_r rfl rfl hp0) rfl (hp_ne.trans ?_))))⟩
      rw [decide_eq_true e]
      rfl
    · rw [List.concat_eq_append] at e
      have c1 : bOf (e2 fNe (e2 fIx (eVar 0) (eC (.int 0))) (eLst false aNil)) [some (.ref 2), many, x2] (hp g nu) = .val true (hp g nu) := bOf_of (e2_r (e2_r rfl rfl hp0) rfl (hp_ne.trans (by simp [e])))
      have c2 : bOf (e2 fEq (e2 fIx (e2 fIx (eVar 0) (eC (.int 0))) (e1 fNeg (eC (.int 1)))) (eC (.int 0))) [some (.ref 2), many, x2] (hp g nu) = .val (decide (y = 0)) (hp g nu) := bOf_of (e2_r (e2_r (e2_r rfl rfl hp0) rfl (hp_last e)) rfl fEq_i)
      by_cases hy : y = 0
      · have hg' : GOk ⟨g.o, ys, g.st⟩ := ⟨fun x hx => hg.nn x (by rw [e]; simp [hx]), by have := hg.len; rw [e] at this; simp at this; show ys.length ≤ 60; omega, hg.st0, hg.st1, hg.lo⟩
        obtain ⟨ws, w1, w2, w3⟩ := ih ⟨g.o, ys, g.st⟩ (by rw [e] at hl; simp at hl; exact hl) hg'
        refine ⟨ws, w1, w2, while_t (bAnd_t c1 (c2.trans (by rw [decide_eq_true hy]))) (seq_of (drop_of (methL_of (e2_r rfl rfl hp0) rfl rfl (hp_pop e))) rfl) w3⟩
      · refine ⟨g.xs, hg, fun zs w h => ?_, while_f (bAnd_t c1 (c2.trans (by rw [decide_eq_false hy])))⟩
        rw [e] at h
        have := List.append_inj_right' h rfl
        simp at this
        rw [← this]
        exact hy
theorem draw_eq {g : G} {nu : Store} {many : Nat} (hg : GOk g) (h1 : 1 ≤ many) (h2 : many ≤ 1000) : ∃ v g', v < many ∧ GOk g' ∧ F__law_draw [.ref 2, .int (many : Int)] (hp g nu) = .val (.int (v : Int)) (hp g' nu) := by
  obtain ⟨ys, k1, k2, k3⟩ := draw_loop (many := some (.int (many : Int))) (x2 := none) (nu := nu) g.xs.length g (Nat.le_refl _) hg
  have hm : (0 : Int) < (many : Int) := by omega
  have hlog : ((many : Int)).natAbs.log2 < 9000 := by
    have : many.log2 ≤ 10 := log2_le (by omega)
    show many.log2 < 9000
    omega
  have modv : ∀ i : Int, ∃ v, v < many ∧ i % (many : Int) = (v : Int) := fun i => ⟨(i % (many : Int)).toNat, by
    have a := Int.emod_nonneg i (show (many : Int) ≠ 0 by omega)
    have b := Int.emod_lt_of_pos i hm
    omega, by
    have a := Int.emod_nonneg i (show (many : Int) ≠ 0 by omega)
    omega⟩
  have dv : ∀ {i : Int} {mu : Store}, fDiv (.int i) (.int (many : Int)) mu = .val (.int (i / (many : Int))) mu := by
    intro i mu
    rw [fDiv_i, if_pos ⟨hm, hlog⟩]
  rcases List.eq_nil_or_concat ys with e | ⟨zs, z, e⟩
  · subst e
    have st' : 0 ≤ (g.st * 16807 + 23) % 2147483647 ∧ (g.st * 16807 + 23) % 2147483647 < 2 ^ 31 := by omega
    obtain ⟨v, v1, v2⟩ := modv ((g.st * 16807 + 23) % 2147483647 / 32)
    refine ⟨v, ⟨g.o, [], (g.st * 16807 + 23) % 2147483647⟩, v1, ⟨by simp, by simp, st'.1, st'.2, hg.lo⟩, ?_⟩
    unfold F__law_draw b__law_draw
    refine fnD_rt rfl (seq_of k3 (seq_of (rh1 := [some (.ref 2), some (.int (many : Int)), none]) (mu1 := hp ⟨g.o, [], g.st⟩ nu) (if_f (bOf_of (e2_r (e2_r rfl rfl hp0) rfl hp_ne)) rfl) ?_))
    have ok : okMul g.st 16807 = true := okMul_of (a := 31) (b := 15) (by have := hg.st0; have := hg.st1; omega) (by decide) (by omega)
    have hmul : fMul false (.int g.st) (.int 16807) (hp ⟨g.o, [], g.st⟩ nu) = .val (.int (g.st * 16807)) (hp ⟨g.o, [], g.st⟩ nu) := by rw [fMul_i, if_pos ok]
    refine seq_of (rh1 := [some (.ref 2), some (.int (many : Int)), none]) (mu1 := hp ⟨g.o, [], (g.st * 16807 + 23) % 2147483647⟩ nu) (asg_of (mu1 := hp ⟨g.o, [], g.st⟩ nu) (d := .int ((g.st * 16807 + 23) % 2147483647)) (e2_r (call_of (args1 (e2_r (e2_r (e2_r rfl rfl hp1) rfl hmul) rfl fAdd_i)) fInt_i) rfl (fMod_i (by decide))) rfl) (retseq ?_)
    refine e2_r (call_of (args1 (e2_r (e2_r rfl rfl hp1) rfl ?_)) fInt_i) rfl ((fMod_i hm).trans (by rw [v2]))
    rw [fDiv_i, if_pos ⟨by decide, by decide⟩]
  · rw [List.concat_eq_append] at e
    subst e
    have nz' := k1.nn z (by simp)
    have hzs : zs.length + 1 ≤ 60 := by
      have := k1.len
      simpa using this
    obtain ⟨v, v1, v2⟩ := modv z
    refine ⟨v, ⟨g.o, zs ++ [z / (many : Int)], g.st⟩, v1, ⟨fun x hx => ?_, by simp; omega, hg.st0, hg.st1, hg.lo⟩, ?_⟩
    · rcases List.mem_append.mp hx with hx | hx
      · exact k1.nn x (by simp [hx])
      · rw [List.mem_singleton] at hx
        rw [hx]
        exact Int.ediv_nonneg nz' (by omega)
    · unfold F__law_draw b__law_draw
      refine fnD_rt rfl (seq_of k3 ?_)
      have c : bOf (e2 fNe (e2 fIx (eVar 0) (eC (.int 0))) (eLst false aNil)) [some (.ref 2), some (.int (many : Int)), none] (hp ⟨g.o, zs ++ [z], g.st⟩ nu) = .val true (hp ⟨g.o, zs ++ [z], g.st⟩ nu) := bOf_of (e2_r (e2_r rfl rfl hp0) rfl (hp_ne.trans (by simp)))
      have r : sSeq (sAsg (eMethL fPop (e2 fIx (eVar 0) (eC (.int 0))) aNil) (gVar 2))
          (sSeq (sDrop (eMethL fAppend (e2 fIx (eVar 0) (eC (.int 0))) (aCons (e2 fDiv (eVar 2) (eVar 1)) aNil)))
          (sSeq (sRet (e2 fMod (eCall fInt (aCons (eVar 2) aNil)) (eVar 1))) sNil)) [some (.ref 2), some (.int (many : Int)), none] (hp ⟨g.o, zs ++ [z], g.st⟩ nu) = .rt (.int (v : Int)) (hp ⟨g.o, zs ++ [z / (many : Int)], g.st⟩ nu) := by
        refine seq_of (rh1 := [some (.ref 2), some (.int (many : Int)), some (.int z)]) (asgv (methL_of (e2_r rfl rfl hp0) rfl rfl (hp_pop rfl))) ?_
        refine seq_of (rh1 := [some (.ref 2), some (.int (many : Int)), some (.int z)]) (drop_of (methL_of (e2_r rfl rfl hp0) rfl (args1 (e2_r rfl rfl dv)) (hp_app (by show zs.length ≤ 60; omega)))) ?_
        exact retseq (e2_r (call_of (args1 rfl) fInt_i) rfl ((fMod_i hm).trans (by rw [v2])))
      have s : ∀ {rest : SS}, sSeq (sIf (bOf (e2 fNe (e2 fIx (eVar 0) (eC (.int 0))) (eLst false aNil))) (sSeq (sAsg (eMethL fPop (e2 fIx (eVar 0) (eC (.int 0))) aNil) (gVar 2))
          (sSeq (sDrop (eMethL fAppend (e2 fIx (eVar 0) (eC (.int 0))) (aCons (e2 fDiv (eVar 2) (eVar 1)) aNil)))
          (sSeq (sRet (e2 fMod (eCall fInt (aCons (eVar 2) aNil)) (eVar 1))) sNil))) sNil) rest [some (.ref 2), some (.int (many : Int)), none] (hp ⟨g.o, zs ++ [z], g.st⟩ nu) = .rt (.int (v : Int)) (hp ⟨g.o, zs ++ [z / (many : Int)], g.st⟩ nu) := by
        intro rest
        rw [sSeq_app, if_t c r]
      exact s
end DLk71

set_option Elab.async false
set_option linter.all false
set_option maxRecDepth 100000
set_option maxHeartbeats 4000000
/-! rows that the law draws -/
namespace DLk71
open PySem PySem.Spec PyProof.Rows L2 DL
theorem lc_st {S : Type} {σ : S → Store} {t : SG} {c : SB} {e : SE} {rh : DL.Env} {k : Bool} {src : SI} {vs : List Nat} {A : Type} {l : List A} {g : A → D} {I : S → Prop} {Q : D → Prop} {s0 : S} {mu0 : Store} (hs : src rh mu0 = .val ⟨l.map g, []⟩ (σ s0)) (hI : I s0) (hl : l.length ≤ 1000000)
    (step : ∀ a ∈ l, ∀ s, I s → ∃ rh1 d s', t (g a) (wipeE rh vs) (σ s) = .val rh1 (σ s) ∧ c rh1 (σ s) = .val true (σ s) ∧ e rh1 (σ s) = .val d (σ s') ∧ I s' ∧ Q d) :
    ∃ ds s', eLc k src t c e vs rh mu0 = mkL k ds (σ s') ∧ ds.length = l.length ∧ (∀ d ∈ ds, Q d) ∧ I s' := by
  have gen : ∀ (l : List A) (s : S), I s → (∀ a ∈ l, ∀ s, I s → ∃ rh1 d s', t (g a) (wipeE rh vs) (σ s) = .val rh1 (σ s) ∧ c rh1 (σ s) = .val true (σ s) ∧ e rh1 (σ s) = .val d (σ s') ∧ I s' ∧ Q d) →
      ∃ ds s', lcL [] t c e (l.map g) (wipeE rh vs) (σ s) = .val ds (σ s') ∧ ds.length = l.length ∧ (∀ d ∈ ds, Q d) ∧ I s' := by
    intro l
    induction l with
    | nil => exact fun s hi _ => ⟨[], s, lcL_0, rfl, fun d h => (by cases h), hi⟩
    | cons a l ih =>
      intro s hi st
      obtain ⟨rh1, d, s1, h1, h2, h3, h4, h5⟩ := st a (by simp) s hi
      obtain ⟨ds, s2, k1, k2, k3, k4⟩ := ih s1 h4 fun b hb => st b (by simp [hb])
      refine ⟨d :: ds, s2, lcL_t h1 h2 h3 k1, by simp [k2], fun x hx => ?_, k4⟩
      rcases List.mem_cons.mp hx with q | hx
      · rw [q]; exact h5
      · exact k3 x hx
  obtain ⟨ds, s', h1, h2, h3, h4⟩ := gen l s0 hI step
  refine ⟨ds, s', ?_, h2, h3, h4⟩
  rw [eLc_app, hs]
  simp only [h1]
  rw [if_pos (by omega)]
theorem choose_map {A : Type} {f : A → D} {R : A → Prop} : ∀ {ds : List D}, (∀ d ∈ ds, ∃ r, d = f r ∧ R r) → ∃ rs : List A, ds = rs.map f ∧ ∀ r ∈ rs, R r
  | [], _ => ⟨[], rfl, fun _ h => by cases h⟩
  | d :: ds, h => by
    obtain ⟨r, h1, h2⟩ := h d (by simp)
    obtain ⟨rs, k1, k2⟩ := choose_map (ds := ds) fun x hx => h x (by simp [hx])
    exact ⟨r :: rs, by rw [h1, k1]; rfl, fun x hx => by
      rcases List.mem_cons.mp hx with q | hx
      · rw [q]; exact h2
      · exact k2 x hx⟩
theorem pick_lst {g : G} {nu : Store} {ds : List D} (hg : GOk g) (h1 : 1 ≤ ds.length) (h2 : ds.length ≤ 1000) : ∃ d g', d ∈ ds ∧ GOk g' ∧ F__law_pick [.ref 2, .lst ds] (hp g nu) = .val d (hp g' nu) := by
  obtain ⟨v, g', hv, hg', e⟩ := draw_eq (nu := nu) hg h1 h2
  refine ⟨ds[v], g', List.getElem_mem hv, hg', ?_⟩
  unfold F__law_pick b__law_pick
  refine fnD_rt rfl (retseq (e2_r rfl (cCall1 (argsC rfl (args1 (call_of (args1 rfl) fLen_l))) e) ?_))
  rw [fIx_l, DL.atI_nat (List.getElem?_eq_getElem hv)]
theorem low_ints : ∀ {xs : List Int} {k : Nat}, lowL k (xs.map D.int) = true
  | [], _ => rfl
  | x :: xs, k => by simp only [List.map_cons, lowL, lowD, low_ints, Bool.and_self]
theorem trim_hp {g g' : G} {nu : Store} {d : D} (hg : GOk g') (h : lowD 3 d = true) : trim (hp g []) (.val d (hp g' nu)) = .val d (hp g' []) := by
  have hk : keptS (hp g []) (hp g' nu) := .inr (by
    show ((hp g' []).all (lowO 3)) = true
    unfold hp
    simp only [List.all_cons, List.all_nil, lowO, hg.lo, low_ints, lowL, lowD, Bool.and_true]
    rfl)
  have hl : (hp g []).length = 3 := rfl
  unfold trim
  simp only
  rw [if_pos hk]
  unfold trV
  rw [hl, if_pos h]
  rfl
theorem sum_nums {S : Nat} (h : S ≠ 0) : ∀ {ps : List Nat}, (ps.map fun (p : Nat) => mkRat (p : Int) S).sum = mkRat (ps.sum : Nat) S
  | [] => by simp
  | p :: ps => by
    rw [List.map_cons, List.sum_cons, List.sum_cons, sum_nums h, Rat.mkRat_eq_div, Rat.mkRat_eq_div, Rat.mkRat_eq_div, Rat.div_def, Rat.div_def, Rat.div_def, ← Rat.add_mul]
    congr 1
    rw [Int.natCast_add, Rat.intCast_add]
theorem le_sum {p : Nat} : ∀ {ps : List Nat}, p ∈ ps → p ≤ ps.sum
  | [], h => by cases h
  | q :: ps, h => by
    rw [List.sum_cons]
    rcases List.mem_cons.mp h with e | h
    · omega
    · have := le_sum h
      omega
theorem row_of {n S : Nat} {ps : List Nat} (hl : ps.length = n) (hS : ps.sum = S) (h0 : S ≠ 0) (h1 : S < 2 ^ 5) : Row 5 n (ps.map fun (p : Nat) => mkRat (p : Int) S) := by
  have hp : ∀ p ∈ ps, p ≤ S := fun p hp => by rw [← hS]; exact le_sum hp
  refine ⟨by simp [hl], fun q hq => ?_, fun q hq => ?_, ?_⟩
  · obtain ⟨p, hp', rfl⟩ := List.mem_map.mp hq
    have := hp p hp'
    exact mk_size (by show p < 2 ^ 5; omega) h1 h0
  · obtain ⟨p, hp', rfl⟩ := List.mem_map.mp hq
    rw [← Rat.num_nonneg, ← Rat.normalize_eq_mkRat h0, Rat.normalize_eq]
    exact Int.ediv_nonneg (Int.natCast_nonneg p) (Int.natCast_nonneg _)
  · rw [sum_nums h0, hS, Rat.mkRat_eq_div]
    have : ((S : Nat) : Rat) ≠ 0 := by exact_mod_cast h0
    rw [Rat.intCast_natCast, Rat.div_def]
    exact Rat.mul_inv_cancel _ this
def dN (n : Nat) : D := .int (n : Int)
theorem fSum_ref {i : Nat} {ps : List Nat} {mu : Store} (h : mu[i]? = some (.lst (ps.map dN))) : fSum [.ref i] mu = .val (.int (ps.sum : Nat)) mu := by
  have e := fSum_map (f := fun (p : Nat) => (p : Int)) ps mu
  have hs : ∀ ps : List Nat, (ps.map fun (p : Nat) => (p : Int)).sum = ((ps.sum : Nat) : Int) := fun ps => by
    induction ps with
    | nil => rfl
    | cons p ps ih => rw [List.map_cons, List.sum_cons, List.sum_cons, ih]; simp
  rw [hs] at e
  rw [← e]
  unfold fSum
  simp only [vwL, h]
  rfl
theorem mem_ints {xs : List Nat} {d : D} (h : d ∈ xs.map dN) : ∃ p, d = dN p ∧ p ∈ xs := by
  obtain ⟨p, hp, rfl⟩ := List.mem_map.mp h
  exact ⟨p, rfl, hp⟩
theorem row_eq {g : G} {n : Nat} (hg : GOk g) (h1 : 1 ≤ n) (h2 : n ≤ 6) : ∃ r g', Row 5 n r ∧ GOk g' ∧ F__law_row [.ref 2, .int (n : Int)] (hp g []) = .val (dRow r) (hp g' []) := by
  have hc := lc_st (S := G) (σ := fun g => hp g []) (t := gVar 3) (c := cYes) (e := cCall F__law_pick (aCons (eVar 0) (aCons (eLst false (aCons (eC (.int 0)) (aCons (eC (.int 1)) (aCons (eC (.int 1)) (aCons (eC (.int 2)) (aCons (eC (.int 3)) (aCons (eC (.int 5)) aNil))))))) aNil)))
    (rh := [some (.ref 2), some (.int (n : Int)), none, none, none]) (k := true) (src := gRg1 (aCons (eVar 1) aNil)) (vs := [3]) (l := List.range n) (g := fun (i : Nat) => D.int (i : Int)) (I := GOk) (Q := fun d => ∃ p, d = dN p ∧ p ≤ 5) (s0 := g) (rg1_app (by simp) (by omega)) hg (by simp; omega) fun a ha s hs => by
      obtain ⟨d, g', m, h, e⟩ := pick_lst (nu := []) (ds := [0, 1, 1, 2, 3, 5].map dN) hs (by decide) (by decide)
      refine ⟨_, d, g', rfl, rfl, cCall1 rfl e, h, ?_⟩
      obtain ⟨p, rfl, hp⟩ := mem_ints m
      refine ⟨p, rfl, ?_⟩
      simp at hp
      omega
  obtain ⟨ds, g1, e1, l1, q1, i1⟩ := hc
  obtain ⟨ps, rfl, q2⟩ := choose_map q1
  rw [List.length_map, List.length_range] at l1
  obtain ⟨v, g2, hv, i2, e2⟩ := draw_eq (nu := [.lst (ps.map dN)]) (many := 3) i1 (by omega) (by omega)
  obtain ⟨j, g3, hj, i3, e3⟩ := draw_eq (nu := [.lst (ps.map dN)]) (many := n) i2 h1 (by omega)
  have hset : (ps.map dN).set j (.int (1 + (v : Int))) = (ps.set j (1 + v)).map dN := by
    rw [List.map_set]
    rfl
  generalize hps : ps.set j (1 + v) = qs at hset
  have hql : qs.length = n := by rw [← hps, List.length_set, l1]
  have hq5 : ∀ q ∈ qs, q ≤ 5 := fun q hq => by
    rw [← hps] at hq
    rcases List.mem_or_eq_of_mem_set hq with h | h
    · exact q2 q h
    · omega
  have hs1 : 1 ≤ qs.sum := Nat.le_trans (by omega) (le_sum (p := 1 + v) (ps := qs) (by rw [← hps]; exact List.mem_set (l := ps) (i := j) (by omega) (1 + v)))
  have hs2 : qs.sum ≤ 5 * n := by
    rw [← hql]
    have := sum_le (f := fun (q : Nat) => q) (b := 5) (l := qs) hq5
    simpa using this
  have hrow := row_of hql rfl (show qs.sum ≠ 0 by omega) (show qs.sum < 2 ^ 5 by omega)
  refine ⟨_, g3, hrow, i3, ?_⟩
  have hget : (hp g3 [.lst (qs.map dN)])[3]? = some (.lst (qs.map dN)) := rfl
  have hlc : eLc false (gSeq (eVar 2)) (gVar 4) cYes (cCall F__law_low (aCons (eVar 4) (aCons (eCall fSum (aCons (eVar 2) aNil)) aNil))) [4] [some (.ref 2), some (.int (n : Int)), some (.ref 3), none, none] (hp g3 [.lst (qs.map dN)])
      = mkL false (qs.map fun (p : Nat) => dF (mkRat (p : Int) qs.sum)) (hp g3 [.lst (qs.map dN)]) :=
    lc_allg (gi := [(3, qs.map dN)]) (g := dN) (fun q hq => by rw [List.mem_singleton] at hq; subst hq; exact hget) (gSeq_of rfl rfl) (by omega) fun q hq =>
      ⟨[some (.ref 2), some (.int (n : Int)), some (.ref 3), none, some (dN q)], rfl, rfl, cCall1 (argsC rfl (args1 (call_of (args1 rfl) (fSum_ref hget)))) (low_eq (q : Int) (m := 5) (by omega) (by omega) (by omega) _)⟩
  unfold F__law_row b__law_row
  refine fnD_tr (d := dRow (qs.map fun (p : Nat) => mkRat (p : Int) qs.sum)) (mu1 := hp g3 [.lst (qs.map dN)]) rfl ?_ (trim_hp i3 dRow_low)
  refine seq_of (rh1 := [some (.ref 2), some (.int (n : Int)), some (.ref 3), none, none]) (mu1 := hp g1 [.lst (ps.map dN)]) (asgv e1) ?_
  refine seq_of (rh1 := [some (.ref 2), some (.int (n : Int)), some (.ref 3), none, none]) (mu1 := hp g3 [.lst (qs.map dN)]) (asg_of (e2_r rfl (cCall1 (argsC rfl (args1 rfl)) e2) fAdd_i) ?_) ?_
  · have hi : cCall F__law_draw (aCons (eVar 0) (aCons (eVar 1) aNil)) [some (.ref 2), some (.int (n : Int)), some (.ref 3), none, none] (hp g2 [.lst (ps.map dN)]) = .val (.int (j : Int)) (hp g3 [.lst (ps.map dN)]) := cCall1 (argsC rfl (args1 rfl)) e3
    have hx : ixN (ps.map dN).length (j : Int) = some j := by
      unfold ixN
      simp
      omega
    unfold gIx
    simp only [bnd_app, noX, eVar_s, eVar_0, hi]
    show (match ixN (ps.map dN).length (j : Int) with
      | some j' => R.val _ _
      | none => R.bad) = _
    rw [hx]
    show R.val _ (hp g3 [.lst ((ps.map dN).set j (.int (1 + (v : Int))))]) = _
    rw [hset]
  · refine retseq (call_of (args1 hlc) ?_)
    show R.val (D.tup _) _ = _
    unfold dRow
    rw [List.map_map]
    rfl
end DLk71

set_option Elab.async false
set_option linter.all false
set_option maxRecDepth 100000
set_option maxHeartbeats 4000000
/-! the parts that the law draws -/
namespace DLk71
open PySem PySem.Spec PyProof.Rows L2 DL
theorem sl_lo {a : SE} {i : SE} {ds : List D} {c : Nat} {rh : DL.Env} {mu : Store} (h1 : a rh mu = .val (.tup ds) mu) (h2 : i rh mu = .val (.int (c : Int)) mu) : eSl false a (oSome i) oNone rh mu = .val (.tup (ds.drop c)) mu := by
  unfold eSl oNone oSome
  simp only [bnd_app, h1, h2, ret_app]
  show R.val (D.tup (DL.cutD _ _ _)) mu = _
  unfold DL.cutD HT.sIx
  have h0 : ¬ ((c : Int) < 0) := by omega
  simp [h0]
  by_cases h : c ≤ ds.length
  · rw [Nat.min_eq_left h, List.take_of_length_le (by simp)]
  · rw [Nat.min_eq_right (by omega), List.drop_eq_nil_of_le (Nat.le_refl _), List.drop_eq_nil_of_le (by omega)]
    simp
theorem sl_hi {a : SE} {i : SE} {ds : List D} {c : Nat} {rh : DL.Env} {mu : Store} (h1 : a rh mu = .val (.tup ds) mu) (h2 : i rh mu = .val (.int (c : Int)) mu) : eSl false a oNone (oSome i) rh mu = .val (.tup (ds.take c)) mu := by
  unfold eSl oNone oSome
  simp only [bnd_app, h1, h2, ret_app]
  show R.val (D.tup (DL.cutD _ _ _)) mu = _
  unfold DL.cutD HT.sIx
  have h0 : ¬ ((c : Int) < 0) := by omega
  simp [h0]
theorem row_rot {m n c : Nat} {r : List Rat} (h : Row m n r) : Row m n (r.drop c ++ r.take c) := by
  have hp : (r.drop c ++ r.take c).Perm r := List.perm_append_comm.trans (by rw [List.take_append_drop])
  refine ⟨hp.length_eq.trans h.len, fun q hq => h.sz q (hp.mem_iff.mp hq), fun q hq => h.nn q (hp.mem_iff.mp hq), ?_⟩
  rw [← h.sum, List.sum_append]
  conv => rhs; rw [← List.take_append_drop c r, List.sum_append]
  exact Rat.add_comm _ _
theorem row_even {n : Nat} (h1 : 1 ≤ n) (h2 : n ≤ 6) : Row 5 n (List.replicate n (mkRat 1 n)) := by
  have := row_of (ps := List.replicate n 1) (n := n) (S := n) (by simp) (by simp) (by omega) (by omega)
  rw [List.map_replicate] at this
  exact this
theorem den_even {n : Nat} (h1 : 1 ≤ n) : dF (mkRat 1 n) = .tup [.int 1, .int (n : Int)] := by
  rw [← Rat.normalize_eq_mkRat (by omega), Rat.normalize_eq]
  unfold dF
  simp
theorem flat_rep {d : D} : ∀ n : Nat, (List.replicate n [d]).flatten = List.replicate n d
  | 0 => rfl
  | n + 1 => by rw [List.replicate_succ, List.flatten_cons, flat_rep n]; rfl
/-- rows beside each other -/
theorem rows_eq {g : G} {n k : Nat} {rh : DL.Env} {i : Nat} (hg : GOk g) (h1 : 1 ≤ k) (h2 : k ≤ 6) (hn : n ≤ 6) (r0 : rh[0]? = some (some (.ref 2))) (r3 : rh[3]? = some (some (dN n))) (hi : rh[i]? = some (some (dN k))) (h0 : i ≠ 7) : ∃ rs g', eCall fTuple (aCons (eLc false (gRg1 (aCons (eVar 3) aNil)) (gVar 7) cYes (cCall F__law_row (aCons (eVar 0) (aCons (eVar i) aNil))) [7]) aNil) rh (hp g []) = .val (dTab rs) (hp g' []) ∧ rs.length = n ∧ (∀ r ∈ rs, Row 5 k r) ∧ GOk g' := by
  have hc := lc_st (S := G) (σ := fun g => hp g []) (t := gVar 7) (c := cYes) (e := cCall F__law_row (aCons (eVar 0) (aCons (eVar i) aNil))) (rh := rh) (k := false) (src := gRg1 (aCons (eVar 3) aNil)) (vs := [7]) (l := List.range n) (g := fun (i : Nat) => D.int (i : Int)) (I := GOk) (Q := fun d => ∃ r, d = dRow r ∧ Row 5 k r) (s0 := g) (rg1_app (args1 (eVar_app r3)) (by omega)) hg (by simp; omega) fun a ha s hs => by
      obtain ⟨r, g', hr, h, e⟩ := row_eq hs h1 h2
      refine ⟨_, dRow r, g', rfl, rfl, cCall1 (argsC (eVar_app ?_) (args1 (eVar_app ?_))) e, h, r, rfl, hr⟩
      · rw [wipeE_s, wipeE_0, List.getElem?_set_ne (by omega), List.getElem?_set_ne (by omega)]
        exact r0
      · rw [wipeE_s, wipeE_0, List.getElem?_set_ne (by omega), List.getElem?_set_ne (by omega)]
        exact hi
  obtain ⟨ds, g1, e1, l1, q1, i1⟩ := hc
  obtain ⟨rs, rfl, q2⟩ := choose_map q1
  rw [List.length_map, List.length_range] at l1
  exact ⟨rs, g1, call_of (args1 e1) fTuple_l, l1, q2, i1⟩
theorem par2 {i j : Nat} {a b : SE} {rh : DL.Env} {mu mu1 mu2 : Store} {x y : D} (h1 : a rh mu = .val x mu1) (h2 : b rh mu1 = .val y mu2) : sPar [i, j] (aCons a (aCons b aNil)) rh mu = .nx ((rh.set i (some x)).set j (some y)) mu2 := by simp [h1, h2]
theorem asg2 {i j : Nat} {a b : SE} {rh : DL.Env} {mu mu1 mu2 : Store} {x y : D} (h1 : a rh mu = .val x mu1) (h2 : b rh mu1 = .val y mu2) : sAsg (eTup (aCons a (aCons b aNil))) (gTup 2 (gsCons (gVar i) (gsCons (gVar j) gsNil))) rh mu = .nx ((rh.set i (some x)).set j (some y)) mu2 := asg_of (tup2 h1 h2) (by simp)
theorem mul_rep {ds : List D} {n : Nat} {d : D} {mu : Store} (h2 : 2 ≤ n) (h3 : n ≤ 1000) : fMul false (.tup [d]) (.int (n : Int)) mu = .val (.tup (List.replicate n d)) mu := by
  unfold fMul
  have : (decide (2 ≤ (n : Int)) && decide ((n : Int) ≤ 1000) && decide ([d].length ≤ 1000) && !([d] : List D).isEmpty) = true := by
    simp
    omega
  simp only [this, if_true, Int.toNat_natCast]
  rw [flat_rep]
theorem Ch.of {n z : Nat} {s : List Rat} {t o : List (List Rat)} (h1 : Row 5 n s) (h2 : t.length = n) (h3 : ∀ r ∈ t, Row 5 n r) (h4 : o.length = n) (h5 : ∀ r ∈ o, Row 5 z r) (n2 : 2 ≤ n) (n6 : n ≤ 6) (z2 : 2 ≤ z) (z6 : z ≤ 6) : Ch 5 n z s t o := ⟨h1, h2, h3, h4, h5, n2, z2, by omega, by omega, by omega, by omega⟩
theorem parts_eq {g : G} (hg : GOk g) : ∃ n z s t o g', Ch 5 n z s t o ∧ n ≤ 6 ∧ z ≤ 6 ∧ GOk g' ∧ F__law_parts [.ref 2] (hp g []) = .val (dPt s t o) (hp g' []) := by
  obtain ⟨dn, g1, mn, i1, E1⟩ := pick_lst (nu := []) (ds := [2, 2, 2, 3, 3, 4, 6].map dN) hg (by decide) (by decide)
  obtain ⟨dz, g2, mz, i2, E2⟩ := pick_lst (nu := []) (ds := [2, 2, 3, 4, 6].map dN) i1 (by decide) (by decide)
  obtain ⟨n, rfl, hn⟩ := mem_ints mn
  obtain ⟨z, rfl, hz⟩ := mem_ints mz
  have hn2 : 2 ≤ n ∧ n ≤ 6 := by simp at hn; omega
  have hz2 : 2 ≤ z ∧ z ≤ 6 := by simp at hz; omega
  obtain ⟨s, g3, hs, i3, e3⟩ := row_eq (n := n) i2 (by omega) (by omega)
  obtain ⟨r, g4, hr, i4, e4⟩ := row_eq (n := n) i3 (by omega) (by omega)
  obtain ⟨t, g5, e5, l5, q5, i5⟩ := rows_eq (n := n) (k := n) (rh := [some (.ref 2), none, none, some (dN n), some (dN z), some (dRow s), some (dRow r), none]) (i := 3) i4 (by omega) (by omega) (by omega) rfl rfl rfl (by omega)
  obtain ⟨o, g6, e6, l6, q6, i6⟩ := rows_eq (n := n) (k := z) (rh := [some (.ref 2), some (dTab t), none, some (dN n), some (dN z), some (dRow s), some (dRow r), none]) (i := 4) i5 (by omega) (by omega) (by omega) rfl rfl rfl (by omega)
  obtain ⟨v, g7, hv, i7, e7⟩ := draw_eq (nu := []) (many := 3) i6 (by omega) (by omega)
  obtain ⟨w, g8, hw, i8, e8⟩ := draw_eq (nu := []) (many := 4) i7 (by omega) (by omega)
  obtain ⟨s', t', hc', hif⟩ : ∃ s' t', Ch 5 n z s' t' o ∧ (sIf (bOf (e2 fEq (cCall F__law_draw (aCons (eVar 0) (aCons (eC (.int 3)) aNil))) (eC (.int 0))))
      (sSeq (sPar [5, 1] (aCons (e2 (fMul false) (eTup (aCons (eTup (aCons (eC (.int 1)) (aCons (eVar 3) aNil))) aNil)) (eVar 3)) (aCons (eCall fTuple (aCons (eLc false (gRg1 (aCons (eVar 3) aNil)) (gVar 7) cYes (e2 (fAdd false) (eSl false (eVar 6) (oSome (eVar 7)) oNone) (eSl false (eVar 6) oNone (oSome (eVar 7)))) [7]) aNil)) aNil))) sNil) sNil)
      [some (.ref 2), some (dTab t), some (dTab o), some (dN n), some (dN z), some (dRow s), some (dRow r), none] (hp g6 []) = .nx [some (.ref 2), some (dTab t'), some (dTab o), some (dN n), some (dN z), some (dRow s'), some (dRow r), none] (hp g7 []) := by
    have hcond : bOf (e2 fEq (cCall F__law_draw (aCons (eVar 0) (aCons (eC (.int 3)) aNil))) (eC (.int 0))) [some (.ref 2), some (dTab t), some (dTab o), some (dN n), some (dN z), some (dRow s), some (dRow r), none] (hp g6 []) = .val (decide ((v : Int) = 0)) (hp g7 []) := bOf_of (e2_r (cCall1 (argsC rfl (args1 rfl)) e7) rfl fEq_i)
    by_cases h0 : (v : Int) = 0
    · rw [decide_eq_true h0] at hcond
      refine ⟨List.replicate n (mkRat 1 n), (List.range n).map fun c => r.drop c ++ r.take c, Ch.of (row_even (by omega) (by omega)) (by simp) (fun q hq => ?_) l6 q6 hn2.1 hn2.2 hz2.1 hz2.2, if_t hcond (seq_of (par2 (mu1 := hp g7 []) (x := dRow (List.replicate n (mkRat 1 n))) (y := dTab ((List.range n).map fun c => r.drop c ++ r.take c)) ?_ ?_) rfl)⟩
      · obtain ⟨c, _, rfl⟩ := List.mem_map.mp hq
        exact row_rot hr
      · refine e2_r (x := .tup [.tup [.int 1, .int (n : Int)]]) (y := .int (n : Int)) (mu1 := hp g7 []) (by simp [dN]) rfl ?_
        rw [mul_rep (ds := []) (by omega) (by omega), ← den_even (by omega)]
        unfold dRow
        rw [List.map_replicate]
      · have hlc : eLc false (gRg1 (aCons (eVar 3) aNil)) (gVar 7) cYes (e2 (fAdd false) (eSl false (eVar 6) (oSome (eVar 7)) oNone) (eSl false (eVar 6) oNone (oSome (eVar 7)))) [7] [some (.ref 2), some (dTab t), some (dTab o), some (dN n), some (dN z), some (dRow s), some (dRow r), none] (hp g7 [])
            = mkL false ((List.range n).map fun c => dRow (r.drop c ++ r.take c)) (hp g7 []) :=
          lc_all (g := dN) (rg1_app (args1 rfl) (by omega)) (by simp; omega) fun c hc => ⟨[some (.ref 2), some (dTab t), some (dTab o), some (dN n), some (dN z), some (dRow s), some (dRow r), some (dN c)], rfl, rfl, by
            refine e2_r (sl_lo (ds := r.map dF) (c := c) rfl rfl) (sl_hi (ds := r.map dF) (c := c) rfl rfl) ?_
            rw [fAdd_t, if_pos (by
              have := hr.len
              simp
              omega)]
            unfold dRow
            rw [List.map_append, List.map_drop, List.map_take]⟩
        refine call_of (args1 hlc) ?_
        show R.val (D.tup _) _ = _
        unfold dTab
        rw [List.map_map]
        rfl
    · rw [decide_eq_false h0] at hcond
      exact ⟨s, t, Ch.of hs l5 q5 l6 q6 hn2.1 hn2.2 hz2.1 hz2.2, if_f hcond rfl⟩
  obtain ⟨o', hc2, hif2⟩ : ∃ o', Ch 5 n z s' t' o' ∧ (sIf (bOf (e2 fEq (cCall F__law_draw (aCons (eVar 0) (aCons (eC (.int 4)) aNil))) (eC (.int 0))))
      (sSeq (sAsg (e2 (fMul false) (eTup (aCons (e2 fIx (eVar 2) (eC (.int 0))) aNil)) (eVar 3)) (gVar 2)) sNil) sNil)
      [some (.ref 2), some (dTab t'), some (dTab o), some (dN n), some (dN z), some (dRow s'), some (dRow r), none] (hp g7 []) = .nx [some (.ref 2), some (dTab t'), some (dTab o'), some (dN n), some (dN z), some (dRow s'), some (dRow r), none] (hp g8 []) := by
    have hcond : bOf (e2 fEq (cCall F__law_draw (aCons (eVar 0) (aCons (eC (.int 4)) aNil))) (eC (.int 0))) [some (.ref 2), some (dTab t'), some (dTab o), some (dN n), some (dN z), some (dRow s'), some (dRow r), none] (hp g7 []) = .val (decide ((w : Int) = 0)) (hp g8 []) := bOf_of (e2_r (cCall1 (argsC rfl (args1 rfl)) e8) rfl fEq_i)
    by_cases h0 : (w : Int) = 0
    · rw [decide_eq_true h0] at hcond
      have o0 := hc'.og (p := 0) (by omega)
      refine ⟨List.replicate n (gT o 0), Ch.of hc'.s hc'.tl hc'.t (by simp) (fun q hq => ?_) hn2.1 hn2.2 hz2.1 hz2.2, if_t hcond (seq_of (asgv ?_) rfl)⟩
      · rw [(List.mem_replicate.mp hq).2]
        exact o0.2
      · have hx : fIx (dTab o) (.int 0) (hp g8 []) = .val (dRow (gT o 0)) (hp g8 []) := ix_dTab (i := 0) o0.1
        refine e2_r (x := .tup [dRow (gT o 0)]) (y := .int (n : Int)) (mu1 := hp g8 []) (by simp [hx]) rfl ?_
        rw [mul_rep (ds := []) (by omega) (by omega)]
        unfold dTab
        rw [List.map_replicate]
    · rw [decide_eq_false h0] at hcond
      exact ⟨o, hc', if_f hcond rfl⟩
  refine ⟨n, z, s', t', o', g8, hc2, hn2.2, hz2.2, i8, ?_⟩
  unfold F__law_parts b__law_parts
  refine fnD_rt rfl ?_
  refine seq_of (rh1 := [some (.ref 2), none, none, some (dN n), some (dN z), none, none, none]) (mu1 := hp g2 []) (asg2 (cCall1 rfl E1) (cCall1 rfl E2)) ?_
  refine seq_of (rh1 := [some (.ref 2), none, none, some (dN n), some (dN z), some (dRow s), some (dRow r), none]) (mu1 := hp g4 []) (asg2 (cCall1 rfl e3) (cCall1 rfl e4)) ?_
  refine seq_of (asgv e5) (seq_of (asgv e6) (seq_of hif (seq_of hif2 (retseq ?_))))
  simp
  rfl
end DLk71

set_option Elab.async false
set_option linter.all false
set_option maxRecDepth 100000
set_option maxHeartbeats 4000000
/-! the signs that the law draws; what is refused -/
namespace DLk71
open PySem PySem.Spec PyProof.Rows L2 DL
theorem eAnd_f {a b : SE} {rh : DL.Env} {mu mu1 : Store} (h1 : a rh mu = .val (.bl false) mu1) : eAnd a b rh mu = .val (.bl false) mu1 := by simp [h1]
theorem eAnd_t {a b : SE} {rh : DL.Env} {mu mu1 : Store} {r : R D} (h1 : a rh mu = .val (.bl true) mu1) (h2 : b rh mu1 = r) : eAnd a b rh mu = r := by simp [h1, h2]
theorem bOr_t {a b : SB} {rh : DL.Env} {mu mu1 : Store} (h1 : a rh mu = .val true mu1) : bOr a b rh mu = .val true mu1 := by simp [h1]
theorem bOr_f {a b : SB} {rh : DL.Env} {mu mu1 : Store} {r : R Bool} (h1 : a rh mu = .val false mu1) (h2 : b rh mu1 = r) : bOr a b rh mu = r := by simp [h1, h2]
theorem fnD_exc {n z : Nat} {g : SS} {ds : List D} {mu mu1 : Store} {rh : DL.Env} {x : DX} {r : R D} (hl : ds.length = n) (h : g (ds.map some ++ List.replicate (z - n) none) mu = .exc x rh mu1) (ht : trim mu (.exc x mu1) = r) : fnD n z true g ds mu = r := by
  unfold fnD
  simp [hl, h, ht]
theorem seq_exc {a b : SS} {rh rh1 : DL.Env} {mu mu1 : Store} {x : DX} (h1 : a rh mu = .exc x rh1 mu1) : sSeq a b rh mu = .exc x rh1 mu1 := by simp [h1]
theorem drop_exc {g : SE} {rh : DL.Env} {mu mu1 : Store} {x : DX} (h1 : g rh mu = .exc x mu1) : sDrop g rh mu = .exc x rh mu1 := by simp [h1]
def odds : List D := [.int 1001, .int (-1), .non, .bl true, .str ("1" : Str), .tup [.int 1], .int (10 ^ 9)]
theorem need_odd {d : D} (h : d ∈ odds) (mu : Store) : F_need_many [d] mu = .exc ⟨1, .str ("many" : Str)⟩ mu := by
  have key : ∀ {d : D} {b k : Bool}, b_is_integer [some d] mu = .rt (.bl b) mu → (b = true → fGe d (.int 0) mu = .val (.bl k) mu) → (b = true → k = true → fGt d (.int 1000) mu = .val (.bl true) mu) → F_need_many [d] mu = .exc ⟨1, .str ("many" : Str)⟩ mu := by
    intro d b k h1 h2 h3
    have i1 : F_is_integer [d] mu = .val (.bl b) mu := fnD_tr rfl h1 (trim_val rfl)
    have raise : ∀ {c : SB} {rest : SS}, c [some d] mu = .val true mu → fnD 1 1 true (sSeq (sIf c (sSeq (sRz 1 (eC (.str ("many" : Str)))) sNil) sNil) rest) [d] mu = .exc ⟨1, .str ("many" : Str)⟩ mu := fun {c rest} hc => by
      refine fnD_exc (rh := [some d]) rfl ?_ (trim_exc rfl)
      exact seq_exc (if_t (c := c) (rh := [some d]) (mu := mu) hc rfl)
    cases b with
    | false =>
      have i2 : F_is_number [d] mu = .val (.bl false) mu := fnD_tr (mu1 := mu) (d := .bl false) rfl (retseq (eAnd_f (cCall1 rfl i1))) (trim_val rfl)
      exact raise (bOr_t (bNot_of (k := false) (bOf_of (cCall1 rfl i2))))
    | true =>
      have i2 : F_is_number [d] mu = .val (.bl k) mu := fnD_tr (mu1 := mu) (d := .bl k) rfl (retseq (eAnd_t (cCall1 rfl i1) (e2_r rfl rfl (h2 rfl)))) (trim_val rfl)
      cases k with
      | false => exact raise (bOr_t (bNot_of (k := false) (bOf_of (cCall1 rfl i2))))
      | true => exact raise (bOr_f (bNot_of (k := true) (bOf_of (cCall1 rfl i2))) (bOf_of (e2_r rfl rfl (h3 rfl rfl))))
  unfold odds at h
  simp only [List.mem_cons, List.not_mem_nil, or_false] at h
  rcases h with rfl | rfl | rfl | rfl | rfl | rfl | rfl
  · exact key (b := true) (k := true) (by rfl) (fun _ => by rfl) (fun _ _ => by rfl)
  · exact key (b := true) (k := false) (by rfl) (fun _ => by rfl) (fun _ h => by cases h)
  · exact key (b := false) (k := false) (by rfl) (fun h => by cases h) (fun h => by cases h)
  · exact key (b := false) (k := false) (by rfl) (fun h => by cases h) (fun h => by cases h)
  · exact key (b := false) (k := false) (by rfl) (fun h => by cases h) (fun h => by cases h)
  · exact key (b := false) (k := false) (by rfl) (fun h => by cases h) (fun h => by cases h)
  · exact key (b := true) (k := true) (by rfl) (fun _ => by rfl) (fun _ _ => by rfl)
theorem best_odd {d c s : D} (h : d ∈ odds) (mu : Store) : F_best_courses [c, s, d] mu = .exc ⟨1, .str ("many" : Str)⟩ mu := by
  have e := need_odd h mu
  unfold F_best_courses b_best_courses
  refine fnD_exc (mu1 := mu) (rh := [some c, some s, some d, none, none, none, none, none, none, none, none]) rfl ?_ (trim_exc rfl)
  have hd : cCall F_need_many (aCons (eVar 2) aNil) [some c, some s, some d, none, none, none, none, none, none, none, none] mu = .exc ⟨1, .str ("many" : Str)⟩ mu := cCall1 rfl e
  exact seq_exc (drop_exc hd)
theorem heard_odd {d c s : D} (h : d ∈ odds) (mu : Store) : F__law_heard [c, s, d] mu = .val (.str ("many" : Str)) mu := by
  unfold F__law_heard b__law_heard
  refine fnD_tr (d := .str ("many" : Str)) (mu1 := mu) rfl ?_ (trim_val rfl)
  have hb : cCall F_best_courses (aCons (eVar 0) (aCons (eVar 1) (aCons (eVar 2) aNil))) [some c, some s, some d, none] mu = .exc ⟨1, .str ("many" : Str)⟩ mu := cCall1 rfl (best_odd h mu)
  have hr : sSeq (sRet (cCall F_best_courses (aCons (eVar 0) (aCons (eVar 1) (aCons (eVar 2) aNil))))) sNil [some c, some s, some d, none] mu = .exc ⟨1, .str ("many" : Str)⟩ [some c, some s, some d, none] mu := by
    unfold sSeq sRet
    rw [hb]
    rfl
  show (match sTry _ _ [some c, some s, some d, none] mu with
    | .nx rh' mu' => sNil rh' mu'
    | r => r) = _
  unfold sTry
  rw [hr]
  rfl
theorem rep2 {a : List D} {mu : Store} (h : a.length ≤ 1000) : fMul false (.lst a) (.int 2) mu = .val (.lst (a ++ a)) mu := by
  unfold fMul
  have : (decide (0 ≤ (2 : Int)) && decide ((2 : Int) ≤ 1000) && decide (a.length ≤ 1000)) = true := by simp [h]
  simp only [vwL, this, if_true]
  show R.val (D.lst (a ++ (a ++ []))) mu = _
  rw [List.append_nil]
/-- the signs that are seen -/
theorem seen_eq {g : G} {n z most : Nat} {s : List Rat} {t o : List (List Rat)} (hg : GOk g) (hc : Ch 5 n z s t o) (hz : z ≤ 6) (h1 : 1 ≤ most) (h2 : most ≤ 100) : ∃ ss g', ss ≠ [] ∧ ss.length ≤ most ∧ (∀ x ∈ ss, okS z x) ∧ GOk g' ∧ F__law_seen [.ref 2, dPt s t o, .int (most : Int)] (hp g []) = .val (dSeen ss) (hp g' []) := by
  obtain ⟨v, g1, hv, i1, e1⟩ := draw_eq (nu := []) (many := most) hg h1 (by omega)
  have o0 := hc.og (p := 0) (by have := hc.n2; omega)
  have hlen : (gT o 0).length = z := o0.2.len
  let sg : List (Option Nat) := (List.range z).map some ++ (List.range z).map some ++ [none]
  have hsg : ∀ x ∈ sg, okS z x := fun x hx => by
    simp only [sg, List.mem_append, List.mem_map, List.mem_range, List.mem_singleton] at hx
    rcases hx with (⟨a, ha, rfl⟩ | ⟨a, ha, rfl⟩) | rfl
    · exact ha
    · exact ha
    · trivial
  have hsl : sg.length = z + z + 1 := by simp [sg]; omega
  have hd : (sg.map dS) = ((List.range z).map dN ++ (List.range z).map dN) ++ [.non] := by
    simp only [sg, List.map_append, List.map_map]
    rfl
  have step : ∀ (a : Nat) (g : G), GOk g → ∃ rh1 d g', gVar 4 (dN a) (wipeE [some (.ref 2), some (dPt s t o), some (.int (most : Int)), some (.lst (sg.map dS)), none] [4]) (hp g []) = .val rh1 (hp g []) ∧ cYes rh1 (hp g []) = .val true (hp g []) ∧ cCall F__law_pick (aCons (eVar 0) (aCons (eVar 3) aNil)) rh1 (hp g []) = .val d (hp g' []) ∧ GOk g' ∧ ∃ x, d = dS x ∧ okS z x := by
    intro a g hg
    obtain ⟨d, g', m, h, e⟩ := pick_lst (nu := []) (ds := sg.map dS) hg (by simp [hsl]) (by simp [hsl]; omega)
    refine ⟨_, d, g', rfl, rfl, cCall1 rfl e, h, ?_⟩
    obtain ⟨x, hx, rfl⟩ := List.mem_map.mp m
    exact ⟨x, rfl, hsg x hx⟩
  have hsrc : gRg1 (aCons (e2 (fAdd false) (eC (.int 1)) (cCall F__law_draw (aCons (eVar 0) (aCons (eVar 2) aNil)))) aNil) [some (.ref 2), some (dPt s t o), some (.int (most : Int)), some (.lst (sg.map dS)), none] (hp g []) = .val ⟨(List.range (1 + v)).map dN, []⟩ (hp g1 []) := by
    have ha : aCons (e2 (fAdd false) (eC (.int 1)) (cCall F__law_draw (aCons (eVar 0) (aCons (eVar 2) aNil)))) aNil [some (.ref 2), some (dPt s t o), some (.int (most : Int)), some (.lst (sg.map dS)), none] (hp g []) = .val [.int ((1 + v : Nat) : Int)] (hp g1 []) := args1 (e2_r rfl (cCall1 rfl e1) (by rw [fAdd_i, Int.natCast_add]; rfl))
    have := rg1_app (a := fun _ mu => .val [.int ((1 + v : Nat) : Int)] mu) (n := 1 + v) (rh := []) (mu := hp g1 []) rfl (by omega)
    unfold gRg1 at this ⊢
    rw [bnd_app] at this ⊢
    rw [ha]
    exact this
  obtain ⟨ds, g2, E2, l2, q2, i2⟩ := lc_st (S := G) (σ := fun g => hp g []) (k := false) (vs := [4]) (l := List.range (1 + v)) (g := dN) (I := GOk) (Q := fun d => ∃ x, d = dS x ∧ okS z x) hsrc i1 (by simp; omega) fun a _ g hg => step a g hg
  obtain ⟨ss, rfl, q3⟩ := choose_map q2
  rw [List.length_map, List.length_range] at l2
  refine ⟨ss, g2, fun e => by rw [e] at l2; simp at l2; omega, by omega, q3, i2, ?_⟩
  unfold F__law_seen b__law_seen
  refine fnD_rt rfl ?_
  refine seq_of (rh1 := [some (.ref 2), some (dPt s t o), some (.int (most : Int)), some (.lst (sg.map dS)), none]) (mu1 := hp g []) (asgv ?_) (retseq (call_of (args1 E2) fTuple_l))
  have hx : fIx (dTab o) (.int 0) (hp g []) = .val (dRow (gT o 0)) (hp g []) := ix_dTab (i := 0) o0.1
  have hr : eLstRg false (DL.r1 (eCall fLen (aCons (e2 fIx (e2 fIx (eVar 1) (eC (.int 2))) (eC (.int 0))) aNil))) [some (.ref 2), some (dPt s t o), some (.int (most : Int)), none, none] (hp g []) = .val (.lst ((List.range z).map dN)) (hp g []) := by
    have ok : okRg 0 (z : Int) = true := by
      unfold okRg
      simp
      omega
    have e : DL.rgD 0 (z : Int) = (List.range z).map dN := by
      unfold DL.rgD
      simp [dN]
    have hl : eCall fLen (aCons (e2 fIx (e2 fIx (eVar 1) (eC (.int 2))) (eC (.int 0))) aNil) [some (.ref 2), some (dPt s t o), some (.int (most : Int)), none, none] (hp g []) = .val (.int (z : Int)) (hp g []) := call_of (args1 (e2_r (e2_r rfl rfl ix_pt2) rfl hx)) (by rw [len_dRow, hlen])
    unfold eLstRg DL.r1
    rw [bnd_app, bnd_app, hl]
    show (if okRg 0 (z : Int) = true then mkL false (DL.rgD 0 (z : Int)) else bad) (hp g []) = _
    rw [if_pos ok, e]
    rfl
  rw [hd]
  have hn : eLst false (aCons (eC .non) aNil) [some (.ref 2), some (dPt s t o), some (.int (most : Int)), none, none] (hp g []) = .val (.lst [.non]) (hp g []) := by simp
  have ha : fAdd false (.lst ((List.range z).map dN ++ (List.range z).map dN)) (.lst [.non]) (hp g []) = .val (.lst ((List.range z).map dN ++ (List.range z).map dN ++ [.non])) (hp g []) := by
    rw [fAdd_l, if_pos (by simp; omega)]
    rfl
  exact e2_r (e2_r hr rfl (rep2 (by simp; omega))) hn ha
end DLk71

set_option Elab.async false
set_option linter.all false
set_option maxRecDepth 100000
set_option maxHeartbeats 4000000
/-! the courses are right -/
namespace DLk71
open PySem PySem.Spec PyProof.Rows L2 DL
theorem ne_str {z : Str} {mu : Store} : fNe (.str z) (.str z) mu = .val (.bl false) mu := by
  unfold fNe
  simp [eqStr]
theorem eq_str {z : Str} {mu : Store} : fEq (.str z) (.str z) mu = .val (.bl true) mu := by
  unfold fEq
  simp [eqStr]
theorem ne_same {n : Nat} {d : D} {mu : Store} (hn : n ≤ 60) (h : pln n d = true) : fNe d d mu = .val (.bl false) mu := by
  rw [fNe_pl hn h h]
  simp
theorem eq_same {n : Nat} {d : D} {mu : Store} (hn : n ≤ 60) (h : pln n d = true) : fEq d d mu = .val (.bl true) mu := by
  rw [fEq_pl hn h h]
  simp
theorem callK_of {F : List D → M D} {A : SA} {rh : DL.Env} {mu mu1 : Store} {a b c : D} {r : R D} (h1 : A rh mu = .val [a, b, c] mu1) (h2 : F [c, b, a] mu1 = r) : cCallK F 3 [2, 1, 0] A rh mu = r := by
  unfold cCallK
  rw [bnd_app, h1]
  exact h2
theorem small_log {q : Rat} {k : Nat} (h : Sz k q) (hk : k ≤ 1800) : sml 1 (dF q) = true := by
  have h1 := log2_le h.1
  have h2 := log2_le h.2
  unfold dF
  have a : decide (q.num.natAbs.log2 < 1900) = true := by rw [decide_eq_true_eq]; omega
  have b : decide (((q.den : Int)).natAbs.log2 < 1900) = true := by
    rw [decide_eq_true_eq]
    show q.den.log2 < 1900
    omega
  show (decide (q.num.natAbs.log2 < 1900) && (decide (((q.den : Int)).natAbs.log2 < 1900) && true)) = true
  rw [a, b]
  rfl
theorem rep_dF {q : Rat} {k : Nat} (h : Sz k q) (hk : k ≤ 1800) : ∃ z, ∀ mu, fRepr [dF q] mu = .val (.str z) mu := fRepr_pl (n := 1) (by omega) (dF_pln 0) (small_log h hk) (by show 3 ≤ 500; omega)
theorem dP_pln {p : P} : pln 2 (dP p) = true := by
  show (pln 1 (dF p.1) && (pln 1 (dC p.2) && true)) = true
  rw [dF_pln 0, dC_pln 0]
  rfl
theorem dPs_pln {l : List P} : pln 3 (.tup (l.map dP)) = true := by
  show (l.map dP).all (pln 2) = true
  rw [List.all_map, List.all_eq_true]
  exact fun p _ => dP_pln
theorem rep_Ps {l : List P} {k L : Nat} (hk : k ≤ 1800) (hL : L < 1000) (h : ∀ p ∈ l, Sz k p.1 ∧ p.2.length = L ∧ ∀ c ∈ p.2, c < 1000) (hn : (L + 5) * l.length + 1 ≤ 500) : ∃ z, ∀ mu, fRepr [.tup (l.map dP)] mu = .val (.str z) mu := by
  refine fRepr_pl (n := 3) (by omega) dPs_pln ?_ ?_
  · show (l.map dP).all (sml 2) = true
    rw [List.all_map, List.all_eq_true]
    intro p hp
    obtain ⟨h1, h2, h3⟩ := h p hp
    show (sml 1 (dF p.1) && (sml 1 (dC p.2) && true)) = true
    have : sml 1 (dC p.2) = true := by
      show (p.2.map fun (n : Nat) => D.int (n : Int)).all (sml 0) = true
      rw [List.all_map, List.all_eq_true]
      intro c hc
      have h4 := h3 c hc
      show decide (c.log2 < 1900) = true
      have : c.log2 ≤ 10 := log2_le (by omega)
      rw [decide_eq_true_eq]
      omega
    rw [small_log h1 hk, this]
    rfl
  · show ((l.map dP).map (nds 2)).sum + 1 ≤ 500
    rw [List.map_map]
    have := sum_le (f := nds 2 ∘ dP) (b := L + 5) (l := l) fun p hp => by
      show ((nds 1 (dF p.1) + (nds 1 (dC p.2) + 0)) + 1) ≤ _
      have e1 : nds 1 (dF p.1) = 3 := rfl
      have e2 : nds 1 (dC p.2) = L + 1 := by
        show ((p.2.map fun (n : Nat) => D.int (n : Int)).map (nds 0)).sum + 1 = _
        rw [List.map_map]
        have : ∀ w : List Nat, (w.map (nds 0 ∘ fun (n : Nat) => D.int (n : Int))).sum = w.length := fun w => by
          induction w with
          | nil => rfl
          | cons a w ih => rw [List.map_cons, List.sum_cons, ih, List.length_cons]; show 1 + _ = _; omega
        rw [this, (h p hp).2.1]
      rw [e1, e2]
      omega
    omega
theorem lst4 {a b c d : SE} {rh : DL.Env} {mu mu1 mu2 mu3 mu4 : Store} {w x y z : D} (h1 : a rh mu = .val w mu1) (h2 : b rh mu1 = .val x mu2) (h3 : c rh mu2 = .val y mu3) (h4 : d rh mu3 = .val z mu4) : eLst false (aCons a (aCons b (aCons c (aCons d aNil)))) rh mu = .val (.lst [w, x, y, z]) mu4 := by simp [h1, h2, h3, h4]
theorem Ch.chain {m n z : Nat} {s : List Rat} {t o : List (List Rat)} (h : Ch m n z s t o) {a b c : SE} {rh : DL.Env} {mu : Store} (h1 : a rh mu = .val (dRow s) mu) (h2 : b rh mu = .val (dTab t) mu) (h3 : c rh mu = .val (dTab o) mu) : cCall (mkIt 0 true F_Chain_init) (aCons a (aCons b (aCons c aNil))) rh mu = .val (dCh s t o) mu := cCall1 (argsC h1 (argsC h2 (args1 h3))) (Chain_eq h mu)
section
variable {n z : Nat} {s : List Rat} {t o : List (List Rat)} (h : Ch 5 n z s t o) {ss : List (Option Nat)} (h0 : ss ≠ []) (hss : ∀ x ∈ ss, okS z x) (hn : n ≤ 6) (hl : ss.length ≤ 4) (hN : (ss.length + 5) * n ^ ss.length + 1 ≤ 500)
include h hss hl
omit hss in
theorem pow_le {j : Nat} (hj : j ≤ ss.length) (hN : (ss.length + 5) * n ^ ss.length + 1 ≤ 500) : n ^ j ≤ 100 := by
  have n2 := h.n2
  have h1 : n ^ j ≤ n ^ ss.length := Nat.pow_le_pow_right (by omega) hj
  have h2 : 5 * n ^ ss.length ≤ (ss.length + 5) * n ^ ss.length := Nat.mul_le_mul_right _ (by omega)
  omega
theorem share_sz {w : List Nat} (hw : w ∈ cl n ss.length) : Sz 41 (prl s t o 1 none ss w) := by
  obtain ⟨h1, h2⟩ := cl_len hw
  have := prl_sz h (f := 1) (k := 1) (ss := ss) (w := w) (p := none) ⟨by decide, by decide⟩ hss h2 (fun _ e => by cases e)
  exact this.mono (by rw [h1]; omega)
include hN
theorem right_loop1 {x4 x5 x7 x8 : Option D} : ∀ (ts : List Nat) (g : G) (x3 x9 x10 : Option D), GOk g → ∃ y3 y9 y10 g', GOk g' ∧
    forL [] (gVar 3) (sSeq (sAsg (cCall F__law_pick (aCons (eVar 0) (aCons (cCall F__law_shares (aCons (eVar 1) (aCons (eVar 2) aNil))) aNil))) (gTup 2 (gsCons (gVar 9) (gsCons (gVar 10) gsNil))))
      (sSeq (sIf (bOr (bOf (e2 fNe (eCall fRepr (aCons (cCall F_course_share (aCons (eVar 6) (aCons (eVar 2) (aCons (eVar 10) aNil)))) aNil)) (eCall fRepr (aCons (eVar 9) aNil)))) (bOf (e2 fNe (cCallK F_course_share 3 [2, 1, 0] (aCons (eVar 10) (aCons (eVar 2) (aCons (eVar 6) aNil)))) (eVar 9))))
        (sSeq (sRet (eC (.bl false))) sNil) sNil) sNil)) (ts.map dN) [some (.ref 2), some (dPt s t o), some (dSeen ss), x3, x4, x5, some (dCh s t o), x7, x8, x9, x10] (hp g [])
    = .nx [some (.ref 2), some (dPt s t o), some (dSeen ss), y3, x4, x5, some (dCh s t o), x7, x8, y9, y10] (hp g' []) := by
  intro ts
  induction ts with
  | nil => exact fun g x3 x9 x10 hg => ⟨x3, x9, x10, g, hg, forL_0⟩
  | cons a ts ih =>
    intro g x3 x9 x10 hg
    have n2 := h.n2
    have hp1 : ∀ j, j ≤ ss.length → n ^ j ≤ 100000 := fun j hj => Nat.le_trans (pow_le h hl hj hN) (by decide)
    have hsh := fun mu => law_shares_eq h hss (by omega) (by omega) hp1 mu
    have hlen : ((cl n ss.length).map fun w => dP (prl s t o 1 none ss w, w)).length = n ^ ss.length := by rw [List.length_map, cl_size]
    obtain ⟨d, g1, m, i1, E1⟩ := pick_lst (nu := []) (ds := (cl n ss.length).map fun w => dP (prl s t o 1 none ss w, w)) hg (by rw [hlen]; exact Nat.pow_pos (by omega)) (by rw [hlen]; exact Nat.le_trans (pow_le h hl (Nat.le_refl _) hN) (by decide))
    obtain ⟨w, hw, rfl⟩ := List.mem_map.mp m
    obtain ⟨w1, w2⟩ := cl_len hw
    have sz := share_sz h hss hl hw
    obtain ⟨str, hstr⟩ := rep_dF sz (by omega)
    have cs := fun mu => course_share_eq h hss w2 w1.symm (by omega) (by omega) mu
    obtain ⟨y3, y9, y10, g', i', E2⟩ := ih g1 (some (dN a)) (some (dF (prl s t o 1 none ss w))) (some (dC w)) i1
    refine ⟨y3, y9, y10, g', i', ?_⟩
    rw [List.map_cons]
    refine (forL_nx (rh1 := [some (.ref 2), some (dPt s t o), some (dSeen ss), some (dN a), x4, x5, some (dCh s t o), x7, x8, x9, x10]) (mu1 := hp g []) rfl (.inl ?_)).trans E2
    refine seq_of (rh1 := [some (.ref 2), some (dPt s t o), some (dSeen ss), some (dN a), x4, x5, some (dCh s t o), x7, x8, some (dF (prl s t o 1 none ss w)), some (dC w)]) (mu1 := hp g1 []) (asg_of (cCall1 (argsC rfl (args1 (cCall1 rfl (hsh _)))) E1) (by simp)) ?_
    refine seq_of (if_f (bOr_f (bOf_of (e2_r (call_of (args1 (cCall1 rfl (cs _))) (hstr _)) (call_of (args1 rfl) (hstr _)) ne_str)) (bOf_of (e2_r (callK_of rfl (cs _)) rfl (ne_same (n := 1) (by omega) (dF_pln 0))))) rfl) rfl
include h0 hn
theorem right_loop2 {x3 x5 x9 x10 : Option D} {mu : Store} : ∀ (ms : List Nat) (x4 x8 : Option D), (∀ m ∈ ms, m ≤ 1000) → ∃ y4 y8,
    forL [] (gVar 4) (sSeq (sAsg (cCall F_best_courses (aCons (eVar 6) (aCons (eVar 2) (aCons (eVar 4) aNil)))) (gVar 8))
      (sSeq (sIf (bOr (bOf (e2 fNe (eCall fRepr (aCons (eVar 8) aNil)) (eCall fRepr (aCons (eSl false (eVar 7) oNone (oSome (eVar 4))) aNil)))) (bOf (e2 fNe (cCallK F_best_courses 3 [2, 1, 0] (aCons (eVar 4) (aCons (eVar 2) (aCons (eVar 6) aNil)))) (eSl false (eVar 7) oNone (oSome (eVar 4))))))
        (sSeq (sRet (eC (.bl false))) sNil) sNil) sNil)) (ms.map dN) [some (.ref 2), some (dPt s t o), some (dSeen ss), x3, x4, x5, some (dCh s t o), some (.tup ((rk (All n s t o ss)).map dP)), x8, x9, x10] mu
    = .nx [some (.ref 2), some (dPt s t o), some (dSeen ss), x3, y4, x5, some (dCh s t o), some (.tup ((rk (All n s t o ss)).map dP)), y8, x9, x10] mu := by
  intro ms
  induction ms with
  | nil => exact fun x4 x8 _ => ⟨x4, x8, forL_0⟩
  | cons a ms ih =>
    intro x4 x8 hm
    have n2 := h.n2
    have ha := hm a (by simp)
    have hall : ∀ p ∈ rk (All n s t o ss), Sz 41 p.1 ∧ p.2.length = ss.length ∧ ∀ c ∈ p.2, c < 1000 := fun p hp => by
      have hp := (rk_perm _).mem_iff.mp hp
      obtain ⟨w, hw, rfl⟩ := List.mem_map.mp (List.mem_filter.mp hp).1
      obtain ⟨w1, w2⟩ := cl_len hw
      exact ⟨share_sz h hss hl hw, w1, fun c hc => by have := w2 c hc; omega⟩
    have hlen : (rk (All n s t o ss)).length ≤ n ^ ss.length := by
      rw [(rk_perm _).length_eq]
      refine Nat.le_trans (List.length_filter_le _ _) ?_
      rw [List.length_map, cl_size]
      exact Nat.le_refl _
    have hb := fun mu => best_courses_all h (many := a) h0 ha (by omega) hss (by omega) (by omega) mu
    obtain ⟨str, hstr⟩ := rep_Ps (l := (rk (All n s t o ss)).take a) (k := 41) (L := ss.length) (by omega) (by omega) (fun p hp => hall p (List.mem_of_mem_take hp)) (by
      have h1 : ((rk (All n s t o ss)).take a).length ≤ n ^ ss.length := by
        rw [List.length_take]
        omega
      have := Nat.mul_le_mul_left (ss.length + 5) h1
      omega)
    obtain ⟨y4, y8, E⟩ := ih (some (dN a)) (some (.tup (((rk (All n s t o ss)).take a).map dP))) fun m h => hm m (by simp [h])
    refine ⟨y4, y8, ?_⟩
    rw [List.map_cons]
    refine (forL_nx (rh1 := [some (.ref 2), some (dPt s t o), some (dSeen ss), x3, some (dN a), x5, some (dCh s t o), some (.tup ((rk (All n s t o ss)).map dP)), x8, x9, x10]) (mu1 := mu) rfl (.inl ?_)).trans E
    have sl : eSl false (eVar 7) oNone (oSome (eVar 4)) [some (.ref 2), some (dPt s t o), some (dSeen ss), x3, some (dN a), x5, some (dCh s t o), some (.tup ((rk (All n s t o ss)).map dP)), some (.tup (((rk (All n s t o ss)).take a).map dP)), x9, x10] mu = .val (.tup (((rk (All n s t o ss)).take a).map dP)) mu := by
      rw [List.map_take]
      exact sl_hi rfl rfl
    refine seq_of (rh1 := [some (.ref 2), some (dPt s t o), some (dSeen ss), x3, some (dN a), x5, some (dCh s t o), some (.tup ((rk (All n s t o ss)).map dP)), some (.tup (((rk (All n s t o ss)).take a).map dP)), x9, x10]) (mu1 := mu) (asgv (cCall1 rfl (hb _))) ?_
    exact seq_of (if_f (bOr_f (bOf_of (e2_r (call_of (args1 rfl) (hstr _)) (call_of (args1 sl) (hstr _)) ne_str)) (bOf_of (e2_r (callK_of rfl (hb _)) sl (ne_same (n := 3) (by omega) dPs_pln)))) rfl) rfl
theorem courses_right_eq {g : G} (hg : GOk g) : ∃ g', GOk g' ∧ F__law_courses_right [.ref 2, dPt s t o, dSeen ss] (hp g []) = .val (.bl true) (hp g' []) := by
  have n2 := h.n2
  have hp1 : ∀ j, j ≤ ss.length → n ^ j ≤ 100000 := fun j hj => Nat.le_trans (pow_le h hl hj hN) (by decide)
  have hr := fun mu => law_ranked_eq h hss (by omega) (by omega) hp1 mu
  have hlen : (rk (All n s t o ss)).length ≤ 100 := by
    rw [(rk_perm _).length_eq]
    refine Nat.le_trans (List.length_filter_le _ _) ?_
    rw [List.length_map, cl_size]
    exact pow_le h hl (Nat.le_refl _) hN
  obtain ⟨y3, y9, y10, g1, i1, E1⟩ := right_loop1 h hss hl hN (x4 := none) (x5 := none) (x7 := some (.tup ((rk (All n s t o ss)).map dP))) (x8 := none) (List.range 4) g none none none hg
  obtain ⟨v, g2, hv, i2, D2⟩ := draw_eq (nu := []) (many := 7) i1 (by omega) (by omega)
  obtain ⟨w, g3, hw, i3, D3⟩ := draw_eq (nu := []) (many := 3) i2 (by omega) (by omega)
  obtain ⟨y4, y8, E2⟩ := right_loop2 h h0 hss hn hl hN (x3 := y3) (x5 := none) (x9 := y9) (x10 := y10) (mu := hp g3 []) [1, v, (rk (All n s t o ss)).length + w, 1000] none none (fun m hm => by
    simp only [List.mem_cons, List.not_mem_nil, or_false] at hm
    rcases hm with rfl | rfl | rfl | rfl <;> omega)
  obtain ⟨d, g4, m, i4, D4⟩ := pick_lst (nu := []) (ds := odds) i3 (by decide) (by decide)
  have hb0 := best_courses_all h (many := 0) h0 (by omega) (by omega) hss (by omega) (by omega) (hp g4 [])
  refine ⟨g4, i4, ?_⟩
  unfold F__law_courses_right b__law_courses_right
  refine fnD_rt rfl ?_
  refine seq_of (par2 (h.chain (e2_r rfl rfl ix_pt0) (e2_r rfl rfl ix_pt1) (e2_r rfl rfl ix_pt2)) (cCall1 rfl (hr _))) ?_
  refine seq_of (for_of (rg1_app (n := 4) rfl (by omega)) E1) ?_
  refine seq_of (for_of (gSeq_of (lst4 rfl (cCall1 rfl D2) (e2_r (call_of (args1 rfl) fLen_t) (cCall1 rfl D3) fAdd_i) rfl) (it := ⟨[1, v, (rk (All n s t o ss)).length + w, 1000].map dN, []⟩) ?_) E2) ?_
  · rw [itOf_lst, List.length_map]
    simp [dN]
  · have ho : eLst false (aCons (eC (.int 1001)) (aCons (e2 fSub (eC (.int 0)) (eC (.int 1))) (aCons (eC .non) (aCons (eC (.bl true)) (aCons (eC (.str ("1" : Str))) (aCons (eTup (aCons (eC (.int 1)) aNil)) (aCons (e2 fPow (eC (.int 10)) (eC (.int 9))) aNil))))))) [some (.ref 2), some (dPt s t o), some (dSeen ss), y3, y4, none, some (dCh s t o), some (.tup ((rk (All n s t o ss)).map dP)), y8, y9, y10] (hp g3 []) = .val (.lst odds) (hp g3 []) := by rfl
    refine seq_of (asgv (cCall1 (argsC rfl (args1 ho)) D4)) (retseq (eAnd_t (e2_r (cCall1 rfl (heard_odd m _)) rfl eq_str) (e2_r (cCall1 rfl hb0) (by simp) (eq_same (n := 1) (by omega) rfl))))
end
end DLk71

set_option Elab.async false
set_option linter.all false
set_option maxRecDepth 100000
set_option maxHeartbeats 4000000
/-! the long chain: its best courses -/
namespace DLk71
open PySem PySem.Spec PyProof.Rows L2 DL
/-! sorted -/
def toI (w : List Nat) : List Int := w.map fun (n : Nat) => (n : Int)
theorem tOf_toI {w : List Nat} : tOf (toI w) = dC w := by
  unfold tOf toI dC
  rw [List.map_map]
  rfl
theorem insS_map {A B : Type} {f : A → B} {c : B → Int} {a : A} : ∀ {l : List A}, insS c (f a) (l.map f) = (insS (fun x => c (f x)) a l).map f
  | [] => rfl
  | b :: l => by
    rw [List.map_cons, insS, insS]
    split
    · rfl
    · rw [insS_map, List.map_cons]
theorem srtS_map {A B : Type} {f : A → B} {c : B → Int} : ∀ {l : List A}, srtS c (l.map f) = (srtS (fun x => c (f x)) l).map f
  | [] => rfl
  | b :: l => by rw [List.map_cons, srtS, srtS, srtS_map, insS_map]
theorem bd_toI {w : List Nat} (h : ∀ c ∈ w, c < 1000) : TS.Bd 1000 (toI w) := by
  intro i hi
  obtain ⟨n, hn, rfl⟩ := List.mem_map.mp hi
  have := h n hn
  omega
theorem lex_code : ∀ {a b : List Nat}, a.length = b.length → (∀ c ∈ a, c < 1000) → (∀ c ∈ b, c < 1000) → a < b → TS.code 1000 (toI a) < TS.code 1000 (toI b)
  | [], [], _, _, _, h => (List.lt_irrefl _ h).elim
  | [], _ :: _, hl, _, _, _ => by cases hl
  | _ :: _, [], hl, _, _, _ => by cases hl
  | x :: a, y :: b, hl, ha, hb, h => by
    have hl' : a.length = b.length := by simpa using hl
    have ha' : ∀ c ∈ a, c < 1000 := fun c hc => ha c (by simp [hc])
    have hb' : ∀ c ∈ b, c < 1000 := fun c hc => hb c (by simp [hc])
    have e1 : (toI a).length = (toI b).length := by simp [toI, hl']
    rcases List.cons_lt_cons_iff.mp h with h2 | ⟨rfl, h2⟩
    · exact TS.code_lt e1 (bd_toI ha') (bd_toI hb') (show (x : Int) < y by omega)
    · have := lex_code hl' ha' hb' h2
      show (x : Int) * 1000 ^ (toI a).length + TS.code 1000 (toI a) < (x : Int) * 1000 ^ (toI b).length + TS.code 1000 (toI b)
      rw [e1]
      omega
theorem intsD_dC {w : List Nat} {ws : List (List Nat)} : intsD ((w :: ws).map dC) = none := rfl
theorem intsD_toI : ∀ {l : List Int}, intsD (l.map D.int) = some l
  | [] => rfl
  | x :: l => by
    show (intsD (l.map D.int)).map (x :: ·) = _
    rw [intsD_toI]
    rfl
theorem tupsI_dC : ∀ {ws : List (List Nat)}, tupsI (ws.map dC) = some (ws.map toI)
  | [] => rfl
  | w :: ws => by
    rw [List.map_cons, List.map_cons, tupsI, tupsI_dC]
    have : tupI (dC w) = some (toI w) := by
      rw [← tOf_toI]
      exact intsD_toI
    rw [this]
theorem sorted_dC {ws : List (List Nat)} {L : Nat} (hL : 1 ≤ L) (h0 : ws ≠ []) (h63 : ws.length < 64) (hw : ∀ w ∈ ws, w.length = L ∧ ∀ c ∈ w, c < 1000) (hn : ws.Nodup) : ∃ vs : List (List Nat), vs.Perm ws ∧ vs.Pairwise (· < ·) ∧ ∀ mu, fSorted false [.lst (ws.map dC)] mu = .val (.lst (vs.map dC)) mu := by
  refine ⟨srtS (fun w => TS.code 1000 (toI w)) ws, srtS_perm _ _, ?_, fun mu => ?_⟩
  · have hp := srtS_perm (fun w => TS.code 1000 (toI w)) ws
    have h1 := srtS_pair (fun w => TS.code 1000 (toI w)) ws
    have h2 : (srtS (fun w => TS.code 1000 (toI w)) ws).Nodup := hp.nodup_iff.mpr hn
    have h3 : (srtS (fun w => TS.code 1000 (toI w)) ws).Pairwise fun a b => (TS.code 1000 (toI a) ≤ TS.code 1000 (toI b)) ∧ a ≠ b := List.Pairwise.and h1 h2
    refine List.Pairwise.imp_of_mem ?_ h3
    intro a b ha hb h
    have wa := hw a (hp.mem_iff.mp ha)
    have wb := hw b (hp.mem_iff.mp hb)
    by_cases hlt : a < b
    · exact hlt
    · have hba : b < a := by
        have hle : b ≤ a := List.not_lt.mp hlt
        by_cases hba : b < a
        · exact hba
        · exact (h.2 (List.le_antisymm (List.not_lt.mp hba) hle)).elim
      have := lex_code (wb.1.trans wa.1.symm) wb.2 wa.2 hba
      omega
  · obtain ⟨w, ws', rfl⟩ : ∃ a b, ws = a :: b := by
      cases ws with
      | nil => exact (h0 rfl).elim
      | cons a b => exact ⟨a, b, rfl⟩
    unfold fSorted
    have hok : okTups (toI w).length ((w :: ws').map toI) = true := by
      unfold okTups
      simp only [Bool.and_eq_true, decide_eq_true_eq, List.all_eq_true]
      refine ⟨⟨by simpa using h63, by simp [toI, (hw w (by simp)).1]; exact hL⟩, fun x hx => ?_⟩
      obtain ⟨v, hv, rfl⟩ := List.mem_map.mp hx
      refine ⟨by simp [toI, (hw w (by simp)).1, (hw v hv).1], fun i hi => ?_⟩
      have := bd_toI (hw v hv).2 i hi
      exact this
    have h2 : tupsI ((w :: ws').map dC) = some (toI w :: ws'.map toI) := tupsI_dC
    have h3 : okTups (toI w).length (toI w :: ws'.map toI) = true := hok
    simp only [vwL, intsD_dC, h2, h3, if_true]
    show R.val (D.lst ((srtS (TS.code 1000) ((w :: ws').map toI)).map tOf)) mu = _
    rw [srtS_map, List.map_map]
    congr 3
    funext x
    exact tOf_toI
/-! the shares of the long chain -/
def hf : List Rat := [mkRat 1 2, mkRat 1 2]
def su : List (List Rat) := [[mkRat 99 100, mkRat 1 100], [mkRat 1 100, mkRat 99 100]]
/-- the top of a share: 99 where the sign is the case -/
def nm : List Nat → List Nat → Nat
  | k :: b, c :: w => (if c = k then 99 else 1) * nm b w
  | _, _ => 1
/-- how many signs are others -/
def mm : List Nat → List Nat → Nat
  | k :: b, c :: w => (if c = k then 0 else 1) + mm b w
  | _, _ => 0
theorem prl_long : ∀ {b w : List Nat} {a d : Nat} {p : Option Nat}, d ≠ 0 → b.length = w.length → (∀ k ∈ b, k < 2) → (∀ c ∈ w, c < 2) → (∀ c, p = some c → c < 2) → prl hf [hf, hf] su (mkRat a d) p (b.map some) w = mkRat (a * nm b w : Nat) (d * 200 ^ w.length)
  | [], [], a, d, p, _, _, _, _, _ => by simp [prl, nm]
  | [], _ :: _, _, _, _, _, hl, _, _, _ => by cases hl
  | _ :: _, [], _, _, _, _, hl, _, _, _ => by cases hl
  | k :: b, c :: w, a, d, p, hd, hl, hb, hw, hp => by
    have hk := hb k (by simp)
    have hc := hw c (by simp)
    have he : ent hf [hf, hf] p c = mkRat 1 2 := by
      have h1 : gR hf c = mkRat 1 2 := by
        match c, hc with
        | 0, _ => rfl
        | 1, _ => rfl
      cases p with
      | none => exact h1
      | some q =>
        have hq := hp q rfl
        match q, hq with
        | 0, _ => exact h1
        | 1, _ => exact h1
    have hs : shw su c (some k) = mkRat (if c = k then 99 else 1 : Nat) 100 := by
      match c, hc, k, hk with
      | 0, _, 0, _ => rfl
      | 0, _, 1, _ => rfl
      | 1, _, 0, _ => rfl
      | 1, _, 1, _ => rfl
    rw [List.map_cons, prl, he, hs, Rat.mkRat_mul_mkRat, Rat.mkRat_mul_mkRat]
    have := prl_long (b := b) (w := w) (a := a * (if c = k then 99 else 1)) (d := d * 200) (p := some c) (by omega) (by simpa using hl) (fun x hx => hb x (by simp [hx])) (fun x hx => hw x (by simp [hx])) (fun x hx => by cases hx; exact hc)
    rw [show ((a : Int) * 1 * ((if c = k then 99 else 1 : Nat) : Int)) = ((a * (if c = k then 99 else 1) : Nat) : Int) by rw [Int.mul_one, Int.natCast_mul], show d * 2 * 100 = d * 200 by omega, this]
    congr 1
    · rw [nm, Nat.mul_assoc]
    · rw [List.length_cons, Nat.pow_succ, Nat.mul_assoc, Nat.mul_comm 200]
theorem nm_mm : ∀ {b w : List Nat}, b.length = w.length → nm b w * 99 ^ mm b w = 99 ^ b.length
  | [], [], _ => rfl
  | [], _ :: _, hl => by cases hl
  | _ :: _, [], hl => by cases hl
  | k :: b, c :: w, hl => by
    have ih := nm_mm (b := b) (w := w) (by simpa using hl)
    rw [nm, mm, List.length_cons, Nat.pow_succ, ← ih]
    by_cases h : c = k
    · rw [if_pos h, if_pos h, Nat.zero_add, Nat.mul_comm, ← Nat.mul_assoc, Nat.mul_comm (99 ^ _) 99, Nat.mul_comm _ 99]
      rw [Nat.mul_assoc, Nat.mul_comm (99 ^ _)]
    · rw [if_neg h, if_neg h, Nat.one_mul, Nat.pow_add, Nat.pow_one, Nat.mul_comm 99, Nat.mul_assoc]
theorem nm_lt {b v w : List Nat} (h1 : b.length = v.length) (h2 : b.length = w.length) (h : mm b v < mm b w) : nm b w < nm b v := by
  have e1 := nm_mm h1
  have e2 := nm_mm h2
  have hp : 99 ^ mm b v < 99 ^ mm b w := Nat.pow_lt_pow_right (by omega) h
  have e : nm b v * 99 ^ mm b v = nm b w * 99 ^ mm b w := e1.trans e2.symm
  have hpos : 0 < nm b w * 99 ^ mm b w := by rw [e2]; exact Nat.pow_pos (by omega)
  by_cases hle : nm b v ≤ nm b w
  · have h3 : nm b v * 99 ^ mm b v ≤ nm b w * 99 ^ mm b v := Nat.mul_le_mul_right _ hle
    have hw : 0 < nm b w := Nat.pos_of_mul_pos_right hpos
    have h4 : nm b w * 99 ^ mm b v < nm b w * 99 ^ mm b w := Nat.mul_lt_mul_of_pos_left hp hw
    omega
  · omega
theorem nm_eq {b v w : List Nat} (h1 : b.length = v.length) (h2 : b.length = w.length) (h : mm b v = mm b w) : nm b w = nm b v := by
  have e1 := nm_mm h1
  have e2 := nm_mm h2
  rw [h] at e1
  exact Nat.eq_of_mul_eq_mul_right (Nat.pow_pos (by omega)) (e2.trans e1.symm)
theorem mk_lt {a b d : Nat} (hd : d ≠ 0) : mkRat (a : Int) d < mkRat (b : Int) d ↔ a < b := by
  have hp : (0 : Rat) < (d : Rat) := by
    have : 0 < d := by omega
    exact_mod_cast this
  have hq : (0 : Rat) < (d : Rat)⁻¹ := Rat.inv_pos.mpr hp
  rw [Rat.mkRat_eq_div, Rat.mkRat_eq_div, Rat.div_def, Rat.div_def, Rat.mul_lt_mul_right hq, Rat.intCast_lt_intCast]
  omega
theorem mm_0 : ∀ {b w : List Nat}, b.length = w.length → (mm b w = 0 ↔ w = b)
  | [], [], _ => by simp [mm]
  | [], _ :: _, hl => by cases hl
  | _ :: _, [], hl => by cases hl
  | k :: b, c :: w, hl => by
    have ih := mm_0 (b := b) (w := w) (by simpa using hl)
    rw [mm]
    by_cases h : c = k
    · simp [h, ih]
    · simp [h]
/-- the courses that differ at one moment -/
def fl : List Nat → List (List Nat)
  | [] => []
  | k :: b => ((1 - k) :: b) :: (fl b).map (k :: ·)
theorem mm_1 : ∀ {b w : List Nat}, b.length = w.length → (∀ k ∈ b, k < 2) → (∀ c ∈ w, c < 2) → (mm b w = 1 ↔ w ∈ fl b)
  | [], [], _, _, _ => by simp [mm, fl]
  | [], _ :: _, hl, _, _ => by cases hl
  | _ :: _, [], hl, _, _ => by cases hl
  | k :: b, c :: w, hl, hb, hw => by
    have hl' : b.length = w.length := by simpa using hl
    have ih := mm_1 hl' (fun x hx => hb x (by simp [hx])) (fun x hx => hw x (by simp [hx]))
    have i0 := mm_0 hl'
    have hk := hb k (by simp)
    have hc := hw c (by simp)
    rw [mm, fl]
    by_cases h : c = k
    · subst h
      have : ¬ (c = 1 - c) := by omega
      simp [this, ih]
    · have h2 : c = 1 - k := by omega
      have h3 : ¬ (k = 1 - k) := by omega
      rw [if_neg h]
      constructor
      · intro e
        have : w = b := i0.mp (by omega)
        rw [this, h2]
        simp
      · intro e
        rcases List.mem_cons.mp e with e | e
        · have : w = b := by
            have := List.cons.inj e
            exact this.2
          rw [i0.mpr this]
        · obtain ⟨v, _, e⟩ := List.mem_map.mp e
          have := (List.cons.inj e).1
          exact (h this.symm).elim
theorem fl_nodup : ∀ {b : List Nat}, (∀ k ∈ b, k < 2) → (fl b).Nodup
  | [], _ => .nil
  | k :: b, hb => by
    have hk := hb k (by simp)
    rw [fl]
    refine List.nodup_cons.mpr ⟨fun h => ?_, ?_⟩
    · obtain ⟨v, _, e⟩ := List.mem_map.mp h
      have := (List.cons.inj e).1
      omega
    · refine List.Pairwise.map _ (fun a c (h : a ≠ c) e => h (List.cons.inj e).2) (fl_nodup fun x hx => hb x (by simp [hx]))
theorem fl_len : ∀ {b w : List Nat}, (∀ k ∈ b, k < 2) → w ∈ fl b → w.length = b.length ∧ ∀ c ∈ w, c < 2
  | [], w, _, h => by cases h
  | k :: b, w, hb, h => by
    have hk := hb k (by simp)
    have hb' : ∀ x ∈ b, x < 2 := fun x hx => hb x (by simp [hx])
    rw [fl] at h
    rcases List.mem_cons.mp h with rfl | h
    · exact ⟨rfl, fun c hc => by
        rcases List.mem_cons.mp hc with rfl | hc
        · omega
        · exact hb' c hc⟩
    · obtain ⟨v, hv, rfl⟩ := List.mem_map.mp h
      obtain ⟨h1, h2⟩ := fl_len hb' hv
      exact ⟨by simp [h1], fun c hc => by
        rcases List.mem_cons.mp hc with rfl | hc
        · exact hk
        · exact h2 c hc⟩
theorem fl_size : ∀ {b : List Nat}, (fl b).length = b.length
  | [] => rfl
  | k :: b => by rw [fl, List.length_cons, List.length_map, fl_size, List.length_cons]
theorem fl_eq : ∀ {b : List Nat}, (List.range b.length).map (fun a => b.take a ++ [1 - b.getD a 0] ++ b.drop (a + 1)) = fl b
  | [] => rfl
  | k :: b => by
    rw [fl, ← fl_eq (b := b), List.length_cons, List.range_succ_eq_map, List.map_cons, List.map_map, List.map_map]
    rfl
end DLk71

set_option Elab.async false
set_option linter.all false
set_option maxRecDepth 100000
set_option maxHeartbeats 4000000
/-! the long chain is right -/
namespace DLk71
open PySem PySem.Spec PyProof.Rows L2 DL
theorem mem_cl {n : Nat} : ∀ {k : Nat} {w : List Nat}, w.length = k → (∀ c ∈ w, c < n) → w ∈ cl n k
  | 0, [], _, _ => by simp [cl]
  | 0, _ :: _, h, _ => by cases h
  | k + 1, [], h, _ => by cases h
  | k + 1, c :: w, h, hw => by
    rw [cl]
    refine List.mem_flatten.mpr ⟨_, List.mem_map.mpr ⟨c, List.mem_range.mpr (hw c (by simp)), rfl⟩, List.mem_map.mpr ⟨w, mem_cl (by simpa using h) (fun x hx => hw x (by simp [hx])), rfl⟩⟩
def shb (b w : List Nat) : Rat := mkRat (nm b w : Nat) (200 ^ b.length)
theorem mm_self {b : List Nat} : mm b b = 0 := (mm_0 rfl).mpr rfl
theorem nm_self {b : List Nat} : nm b b = 99 ^ b.length := by
  have := nm_mm (b := b) (w := b) rfl
  rw [mm_self, Nat.pow_zero, Nat.mul_one] at this
  exact this
theorem nm_one {b w : List Nat} (hl : b.length = w.length) (h : mm b w = 1) : nm b w * 99 = 99 ^ b.length := by
  have := nm_mm hl
  rw [h, Nat.pow_one] at this
  exact this
theorem nm_pos {b w : List Nat} (hl : b.length = w.length) : 0 < nm b w := by
  have h := nm_mm hl
  have : 0 < nm b w * 99 ^ mm b w := by rw [h]; exact Nat.pow_pos (by omega)
  exact Nat.pos_of_mul_pos_right this
theorem long_share {b w : List Nat} (hb : ∀ k ∈ b, k < 2) (hl : w.length = b.length) (hw : ∀ c ∈ w, c < 2) : prl hf [hf, hf] su 1 none (b.map some) w = shb b w := by
  have := prl_long (b := b) (w := w) (a := 1) (d := 1) (p := none) (by omega) hl.symm hb hw (fun _ h => by cases h)
  rw [Nat.one_mul, Nat.one_mul, hl] at this
  exact this
theorem long_best' {b : List Nat} {vs : List (List Nat)} (hb : ∀ k ∈ b, k < 2) (hp : vs.Perm (fl b)) (hs : vs.Pairwise (· < ·)) : (rk (All 2 hf [hf, hf] su (b.map some))).take (b.length + 1) = (b :: vs).map fun w => (shb b w, w) := by
  have hA : ∀ p : P, p ∈ rk (All 2 hf [hf, hf] su (b.map some)) ↔ p = (shb b p.2, p.2) ∧ p.2.length = b.length ∧ ∀ c ∈ p.2, c < 2 := fun p => by
    rw [(rk_perm _).mem_iff]
    unfold All nz
    rw [List.mem_filter, List.mem_map]
    constructor
    · rintro ⟨⟨w, hw, rfl⟩, _⟩
      obtain ⟨h1, h2⟩ := cl_len hw
      rw [List.length_map] at h1
      exact ⟨by rw [long_share hb h1 h2], h1, h2⟩
    · rintro ⟨h1, h2, h3⟩
      refine ⟨⟨p.2, mem_cl (by rw [List.length_map]; exact h2) h3, by rw [long_share hb h2 h3]; exact h1.symm⟩, ?_⟩
      have hz : (0 : Rat) < p.1 := by
        have e : p.1 = shb b p.2 := by conv => lhs; rw [h1]
        have := (mk_lt (a := 0) (b := nm b p.2) (d := 200 ^ b.length) (Nat.ne_of_gt (Nat.pow_pos (by omega)))).mpr (nm_pos h2.symm)
        rw [e]
        have z : mkRat ((0 : Nat) : Int) (200 ^ b.length) = 0 := by simp
        rw [z] at this
        exact this
      have : p.1 ≠ 0 := by grind
      simp [this]
  have S := rk_sorted (ps := All 2 hf [hf, hf] su (b.map some)) (by
    unfold Asc
    refine List.Pairwise.imp ?_ (All_asc (n := 2) (s := hf) (t := [hf, hf]) (o := su) (ss := b.map some))
    intro a c h _
    exact h)
  generalize rk (All 2 hf [hf, hf] su (b.map some)) = R at S hA
  have d0 : 200 ^ b.length ≠ 0 := Nat.ne_of_gt (Nat.pow_pos (by omega))
  have hv : ∀ w ∈ vs, w.length = b.length ∧ (∀ c ∈ w, c < 2) ∧ mm b w = 1 := fun w hw => by
    have hw := hp.mem_iff.mp hw
    obtain ⟨h1, h2⟩ := fl_len hb hw
    exact ⟨h1, h2, (mm_1 h1.symm hb h2).mpr hw⟩
  have hX : ((b :: vs).map fun w => (shb b w, w)).Pairwise Bf := by
    rw [List.pairwise_map]
    refine List.pairwise_cons.mpr ⟨fun w hw => ?_, hs.imp_of_mem fun {v w} hv1 hw1 h => ?_⟩
    · obtain ⟨h1, h2, h3⟩ := hv w hw
      exact .inl ((mk_lt d0).mpr (nm_lt rfl h1.symm (by rw [mm_self, h3]; omega)))
    · obtain ⟨h1, h2, h3⟩ := hv v hv1
      obtain ⟨k1, k2, k3⟩ := hv w hw1
      refine .inr ⟨?_, h⟩
      show shb b v = shb b w
      unfold shb
      rw [nm_eq k1.symm h1.symm (by rw [h3, k3])]
  have e1 : R.filter (fun p => decide (mm b p.2 ≤ 1)) = (b :: vs).map fun w => (shb b w, w) := by
    refine sorted_eq (S.sublist List.filter_sublist) hX ?_
    refine (List.perm_ext_iff_of_nodup ((sorted_nodup S).sublist List.filter_sublist) (sorted_nodup hX)).mpr fun p => ?_
    rw [List.mem_filter, hA, List.mem_map]
    simp only [decide_eq_true_eq]
    constructor
    · rintro ⟨⟨h1, h2, h3⟩, h4⟩
      refine ⟨p.2, ?_, h1.symm⟩
      by_cases h : mm b p.2 = 0
      · rw [(mm_0 h2.symm).mp h]
        simp
      · refine List.mem_cons_of_mem _ (hp.mem_iff.mpr ((mm_1 h2.symm hb h3).mp (by omega)))
    · rintro ⟨w, hw, rfl⟩
      rcases List.mem_cons.mp hw with rfl | hw
      · exact ⟨⟨rfl, rfl, hb⟩, by show mm w w ≤ 1; rw [mm_self]; omega⟩
      · obtain ⟨h1, h2, h3⟩ := hv w hw
        exact ⟨⟨rfl, h1, h2⟩, by show mm b w ≤ 1; omega⟩
  have e2 : R = R.filter (fun p => decide (mm b p.2 ≤ 1)) ++ R.filter (fun p => !decide (mm b p.2 ≤ 1)) := by
    refine sorted_eq S (List.pairwise_append.mpr ⟨S.sublist List.filter_sublist, S.sublist List.filter_sublist, fun x hx y hy => ?_⟩) (List.filter_append_perm _ _).symm
    obtain ⟨x1, x2⟩ := List.mem_filter.mp hx
    obtain ⟨y1, y2⟩ := List.mem_filter.mp hy
    obtain ⟨a1, a2, a3⟩ := (hA x).mp x1
    obtain ⟨b1, b2, b3⟩ := (hA y).mp y1
    simp only [decide_eq_true_eq, Bool.not_eq_true', decide_eq_false_iff_not] at x2 y2
    left
    rw [a1, b1]
    exact (mk_lt d0).mpr (nm_lt a2.symm b2.symm (by omega))
  rw [e2, e1]
  refine List.take_left' ?_
  rw [List.length_map, List.length_cons, hp.length_eq, fl_size]
theorem rg1_of {a : SA} {n : Nat} {rh : DL.Env} {mu mu1 : Store} (h : a rh mu = .val [.int (n : Int)] mu1) (hn : n ≤ 100000) : gRg1 a rh mu = .val ⟨(List.range n).map dN, []⟩ mu1 := by
  have := rg1_app (a := fun _ mu => .val [.int (n : Int)] mu) (n := n) (rh := []) (mu := mu1) rfl hn
  unfold gRg1 at this ⊢
  rw [bnd_app] at this ⊢
  rw [h]
  exact this
theorem power_eq {a k m : Nat} (ha : a < 2 ^ m) (hk : k ≤ 100) (hm : m ≤ 100) (mu : Store) : F__law_power [.int (a : Int), .int (k : Int)] mu = .val (.int ((a ^ k : Nat) : Int)) mu := by
  have loop : ∀ (js : List Nat) (i : Nat) (x3 : Option D), i + js.length ≤ k → ∃ y3, forL [] (gVar 3) (sSeq (sAsg (e2 (fMul false) (eVar 2) (eVar 0)) (gVar 2)) sNil) (js.map dN) [some (.int (a : Int)), some (.int (k : Int)), some (.int ((a ^ i : Nat) : Int)), x3] mu = .nx [some (.int (a : Int)), some (.int (k : Int)), some (.int ((a ^ (i + js.length) : Nat) : Int)), y3] mu := by
    intro js
    induction js with
    | nil => exact fun i x3 _ => ⟨x3, forL_0⟩
    | cons j js ih =>
      intro i x3 hi
      rw [List.length_cons] at hi
      obtain ⟨y3, e⟩ := ih (i + 1) (some (dN j)) (by omega)
      refine ⟨y3, ?_⟩
      rw [List.map_cons, List.length_cons, show i + (js.length + 1) = i + 1 + js.length by omega]
      refine (forL_nx (rh1 := [some (.int (a : Int)), some (.int (k : Int)), some (.int ((a ^ i : Nat) : Int)), some (dN j)]) (mu1 := mu) rfl (.inl ?_)).trans e
      refine asg1 (e2_r rfl rfl ?_)
      have hai : a ^ i < 2 ^ (m * i + 1) := by
        have h1 : a ^ i ≤ (2 ^ m) ^ i := Nat.pow_le_pow_left (by omega) i
        rw [← Nat.pow_mul] at h1
        have h2 : 2 ^ (m * i) < 2 ^ (m * i + 1) := Nat.pow_lt_pow_right (by omega) (by omega)
        omega
      have hmi : m * i ≤ 100 * 100 := Nat.mul_le_mul hm (by omega)
      have ok : okMul ((a ^ i : Nat) : Int) (a : Int) = true := okMul_of (a := m * i + 1) (b := m) hai ha (by omega)
      rw [fMul_i, if_pos ok, Nat.pow_succ, Int.natCast_mul]
  obtain ⟨y3, e⟩ := loop (List.range k) 0 none (by simp)
  rw [List.length_range, Nat.zero_add, Nat.pow_zero] at e
  unfold F__law_power b__law_power
  exact fnD_tr rfl (seq_of (asgv rfl) (seq_of (for_of (rg1_of (args1 rfl) (by omega)) e) (retseq rfl))) (trim_val rfl)
end DLk71

set_option Elab.async false
set_option linter.all false
set_option maxRecDepth 100000
set_option maxHeartbeats 4000000
namespace DLk71
open PySem PySem.Spec PyProof.Rows L2 DL
theorem row_hf : Row 7 2 hf := ⟨rfl, by unfold hf Sz; decide +kernel, by unfold hf; decide +kernel, by unfold hf; decide +kernel⟩
theorem row_su : ∀ r ∈ su, Row 7 2 r := fun r hr => by
  unfold su at hr
  simp only [List.mem_cons, List.not_mem_nil, or_false] at hr
  rcases hr with rfl | rfl
  · exact ⟨rfl, by unfold Sz; decide +kernel, by decide +kernel, by decide +kernel⟩
  · exact ⟨rfl, by unfold Sz; decide +kernel, by decide +kernel, by decide +kernel⟩
theorem ch_long : Ch 7 2 2 hf [hf, hf] su := ⟨row_hf, rfl, fun r hr => by
  simp only [List.mem_cons, List.not_mem_nil, or_false, or_self] at hr
  rw [hr]
  exact row_hf, rfl, row_su, by omega, by omega, by omega, by omega, by omega, by omega⟩
theorem d_hf : D.tup [.tup [.int 1, .int 2], .tup [.int 1, .int 2]] = dRow hf := by rfl
theorem d_su : D.tup [.tup [.int 99, .int 100], .tup [.int 1, .int 100]] = dRow [mkRat 99 100, mkRat 1 100] := by rfl
theorem dSeen_some {b : List Nat} : dSeen (b.map some) = dC b := by
  unfold dSeen dC
  rw [List.map_map]
  rfl
theorem long_right_eq {g : G} (hg : GOk g) : ∃ g', GOk g' ∧ F__law_long_right [.ref 2] (hp g []) = .val (.bl true) (hp g' []) := by
  obtain ⟨v, g1, hv, i1, D1⟩ := draw_eq (nu := []) (many := 9) hg (by omega) (by omega)
  have hsrc : gRg1 (aCons (e2 (fAdd false) (eC (.int 12)) (cCall F__law_draw (aCons (eVar 0) (aCons (eC (.int 9)) aNil)))) aNil) [some (.ref 2), none, none, none, none, none, none, none, none, none, none, none] (hp g []) = .val ⟨(List.range (12 + v)).map dN, []⟩ (hp g1 []) :=
    rg1_of (args1 (e2_r rfl (cCall1 rfl D1) (by rw [fAdd_i, Int.natCast_add]; rfl))) (by omega)
  obtain ⟨ds, g2, E1, l1, q1, i2⟩ := lc_st (S := G) (σ := fun g => hp g []) (k := false) (vs := [8]) (l := List.range (12 + v)) (g := dN) (t := gVar 8) (c := cYes) (e := cCall F__law_draw (aCons (eVar 0) (aCons (eC (.int 2)) aNil))) (I := GOk) (Q := fun d => ∃ k, d = dN k ∧ k < 2) hsrc i1 (by simp; omega) fun a _ g hg => by
    obtain ⟨k, g', hk, i, e⟩ := draw_eq (nu := []) (many := 2) hg (by omega) (by omega)
    exact ⟨_, dN k, g', rfl, rfl, cCall1 rfl e, i, k, rfl, hk⟩
  obtain ⟨b, rfl, hb⟩ := choose_map q1
  rw [List.length_map, List.length_range] at l1
  refine ⟨g2, i2, ?_⟩
  generalize hp g2 [] = mu at E1 ⊢
  have hL : b.length ≤ 20 := by omega
  have hL1 : 1 ≤ b.length := by omega
  have hb2 : ∀ c ∈ b, c < 1000 := fun c hc => by have := hb c hc; omega
  obtain ⟨vs, p1, p2, E2⟩ := sorted_dC (ws := fl b) (L := b.length) hL1 (fun e => by have := fl_size (b := b); rw [e] at this; simp at this; omega) (by rw [fl_size]; omega) (fun w hw => by
    obtain ⟨h1, h2⟩ := fl_len hb hw
    exact ⟨h1, fun c hc => by have := h2 c hc; omega⟩) (fl_nodup hb)
  have best := best_courses_all ch_long (many := b.length + 1) (ss := b.map some) (fun e => by have := congrArg List.length e; rw [List.length_map] at this; simp only [List.length_nil] at this; omega) (by omega) (by omega) (fun x hx => by
    obtain ⟨k, hk, rfl⟩ := List.mem_map.mp hx
    exact hb k hk) (by rw [List.length_map]; omega) (by rw [List.length_map]; omega) mu
  rw [long_best' hb p1 p2, dSeen_some] at best
  have d0 : 200 ^ b.length ≠ 0 := Nat.ne_of_gt (Nat.pow_pos (by omega))
  have d1 : 200 ^ b.length < 2 ^ (8 * b.length + 1) := by
    have h1 : 200 ^ b.length ≤ (2 ^ 8) ^ b.length := Nat.pow_le_pow_left (by omega) _
    rw [← Nat.pow_mul] at h1
    have h2 : 2 ^ (8 * b.length) < 2 ^ (8 * b.length + 1) := Nat.pow_lt_pow_right (by omega) (by omega)
    omega
  have P1 := power_eq (a := 99) (k := b.length) (m := 7) (by omega) (by omega) (by omega) mu
  have P2 := power_eq (a := 200) (k := b.length) (m := 8) (by omega) (by omega) (by omega) mu
  have hchain : cCall (mkIt 0 true F_Chain_init) (aCons (eVar 4) (aCons (eTup (aCons (eVar 4) (aCons (eVar 4) aNil))) (aCons (eTup (aCons (eVar 5) (aCons (e1 (fRev false) (eVar 5)) aNil))) aNil))) [some (.ref 2), some (dC b), none, none, some (dRow hf), some (dRow [mkRat 99 100, mkRat 1 100]), none, none, none, none, none, none] mu = .val (dCh hf [hf, hf] su) mu := ch_long.chain rfl (tup2 rfl rfl) (tup2 rfl (e1_of rfl rfl))
  let T : D := .tup ((((b :: vs).map fun w => (shb b w, w))).map dP)
  let S : D := .tup [.int ((99 ^ b.length : Nat) : Int), .int ((200 ^ b.length : Nat) : Int)]
  have hdue : eLc false (gRg1 (aCons (eCall fLen (aCons (eVar 1) aNil)) aNil)) (gVar 9) cYes (e2 (fAdd false) (e2 (fAdd false) (eSl false (eVar 1) oNone (oSome (eVar 9))) (eTup (aCons (e2 fSub (eC (.int 1)) (e2 fIx (eVar 1) (eVar 9))) aNil))) (eSl false (eVar 1) (oSome (e2 (fAdd false) (eVar 9) (eC (.int 1)))) oNone)) [9] [some (.ref 2), some (dC b), some (dCh hf [hf, hf] su), none, some (dRow hf), some (dRow [mkRat 99 100, mkRat 1 100]), some T, some S, none, none, none, none] mu
      = mkL false ((fl b).map dC) mu := by
    rw [← fl_eq, List.map_map]
    refine lc_all (g := dN) (rg1_of (args1 (call_of (args1 rfl) len_dC)) (by omega)) (by simp; omega) fun a ha => ⟨[some (.ref 2), some (dC b), some (dCh hf [hf, hf] su), none, some (dRow hf), some (dRow [mkRat 99 100, mkRat 1 100]), some T, some S, none, some (dN a), none, none], rfl, rfl, ?_⟩
    have ha := List.mem_range.mp ha
    have hx : fIx (dC b) (dN a) mu = .val (.int (b.getD a 0 : Nat)) mu := ix_dC (by rw [List.getD_eq_getElem?_getD, List.getElem?_eq_getElem ha]; rfl)
    have hba : b.getD a 0 < 2 := by
      rw [List.getD_eq_getElem?_getD, List.getElem?_eq_getElem ha]
      exact hb _ (List.getElem_mem ha)
    have hm : ((1 : Int) - ((b.getD a 0 : Nat) : Int)) = ((1 - b.getD a 0 : Nat) : Int) := by omega
    let iD : List Nat → List D := fun w => w.map fun (n : Nat) => D.int (n : Int)
    have h1 : eSl false (eVar 1) oNone (oSome (eVar 9)) [some (.ref 2), some (dC b), some (dCh hf [hf, hf] su), none, some (dRow hf), some (dRow [mkRat 99 100, mkRat 1 100]), some T, some S, none, some (dN a), none, none] mu = .val (.tup ((iD b).take a)) mu := sl_hi rfl rfl
    have h2 : eTup (aCons (e2 fSub (eC (.int 1)) (e2 fIx (eVar 1) (eVar 9))) aNil) [some (.ref 2), some (dC b), some (dCh hf [hf, hf] su), none, some (dRow hf), some (dRow [mkRat 99 100, mkRat 1 100]), some T, some S, none, some (dN a), none, none] mu = .val (.tup [dN (1 - b.getD a 0)]) mu := by
      rw [eTup_app, args1 (e2_r rfl (e2_r rfl rfl hx) fSub_i), hm]
      simp [dN]
    have h3 : eSl false (eVar 1) (oSome (e2 (fAdd false) (eVar 9) (eC (.int 1)))) oNone [some (.ref 2), some (dC b), some (dCh hf [hf, hf] su), none, some (dRow hf), some (dRow [mkRat 99 100, mkRat 1 100]), some T, some S, none, some (dN a), none, none] mu = .val (.tup ((iD b).drop (a + 1))) mu := sl_lo (c := a + 1) rfl (e2_r rfl rfl (by show R.val (D.int ((a : Int) + 1)) mu = _; rw [Int.natCast_add]; rfl))
    have hlt : ((iD b).take a).length ≤ 20 := by rw [List.length_take]; simp [iD]; omega
    have hld : ((iD b).drop (a + 1)).length ≤ 20 := by rw [List.length_drop]; simp [iD]; omega
    refine e2_r (e2_r h1 h2 (by rw [fAdd_t, if_pos (by simp only [List.length_singleton]; omega)])) h3 ?_
    rw [fAdd_t, if_pos (by rw [List.length_append]; simp only [List.length_singleton]; omega)]
    have hd : dC (b.take a ++ [1 - b.getD a 0] ++ b.drop (a + 1)) = .tup ((iD b).take a ++ [dN (1 - b.getD a 0)] ++ (iD b).drop (a + 1)) := by
      unfold dC
      rw [List.map_append, List.map_append, List.map_take, List.map_drop]
      rfl
    exact congrArg (fun d => R.val d mu) hd.symm
  have hT0 : fIx T (.int 0) mu = .val (dP (shb b b, b)) mu := by
    show fIx (.tup _) (.int ((0 : Nat) : Int)) mu = _
    rw [fIx_t, DL.atI_nat (n := 0) (x := dP (shb b b, b)) rfl]
  let rho : DL.Env := [some (.ref 2), some (dC b), some (dCh hf [hf, hf] su), some (.lst (vs.map dC)), some (dRow hf), some (dRow [mkRat 99 100, mkRat 1 100]), some T, some S, none, none, none, none]
  have low1 : F__law_low [.int ((99 ^ b.length : Nat) : Int), .int ((200 ^ b.length : Nat) : Int)] mu = .val (dF (shb b b)) mu := by
    rw [low_eq _ d0 d1 (by omega)]
    unfold shb
    rw [nm_self]
  have hdrop : eSl false (eVar 6) (oSome (eC (.int 1))) oNone rho mu = .val (.tup ((vs.map fun w => (shb b w, w)).map dP)) mu := sl_lo (ds := ((b :: vs).map fun w => (shb b w, w)).map dP) (c := 1) rfl rfl
  have hcs : eLc false (gSeq (eSl false (eVar 6) (oSome (eC (.int 1))) oNone)) (gTup 2 (gsCons (gVar 10) (gsCons (gVar 11) gsNil))) cYes (eVar 11) [10, 11] rho mu = mkL false (vs.map dC) mu :=
    lc_all (l := vs) (g := fun w => dP (shb b w, w)) (f := dC) (gSeq_of hdrop (by rw [itOf_tup, List.map_map]; rfl)) (by rw [p1.length_eq, fl_size]; omega) fun w hw => ⟨[some (.ref 2), some (dC b), some (dCh hf [hf, hf] su), some (.lst (vs.map dC)), some (dRow hf), some (dRow [mkRat 99 100, mkRat 1 100]), some T, some S, none, none, some (dF (shb b w)), some (dC w)], by simp [rho], rfl, rfl⟩
  have hm99 : fMul false (.int 99) (.int ((200 ^ b.length : Nat) : Int)) mu = .val (.int ((99 * 200 ^ b.length : Nat) : Int)) mu := by
    rw [fMul_i, if_pos (okMul_of (i := 99) (j := ((200 ^ b.length : Nat) : Int)) (a := 7) (b := 8 * b.length + 1) (by decide) d1 (by omega)), Int.natCast_mul]
    rfl
  have low2 : ∀ w ∈ vs, F__law_low [.int ((99 ^ b.length : Nat) : Int), .int ((99 * 200 ^ b.length : Nat) : Int)] mu = .val (dF (shb b w)) mu := fun w hw => by
    have hw := p1.mem_iff.mp hw
    obtain ⟨h1, h2⟩ := fl_len hb hw
    have e := nm_one h1.symm ((mm_1 h1.symm hb h2).mpr hw)
    rw [low_eq (m := 7 + (8 * b.length + 1)) _ (Nat.mul_ne_zero (by omega) d0) (by rw [Nat.pow_add]; exact Nat.mul_lt_mul'' (by omega) d1) (by omega)]
    unfold shb
    rw [← e, Nat.mul_comm (nm b w), Int.natCast_mul, Rat.mkRat_mul_left (by omega)]
  have hall : eLc false (gSeq (eSl false (eVar 6) (oSome (eC (.int 1))) oNone)) (gTup 2 (gsCons (gVar 10) (gsCons (gVar 11) gsNil))) cYes (e2 fEq (eVar 10) (cCall F__law_low (aCons (e2 fIx (eVar 7) (eC (.int 0))) (aCons (e2 (fMul false) (eC (.int 99)) (e2 fIx (eVar 7) (eC (.int 1)))) aNil)))) [10, 11] rho mu = mkL false (vs.map fun _ => D.bl true) mu :=
    lc_all (l := vs) (g := fun w => dP (shb b w, w)) (f := fun _ => D.bl true) (gSeq_of hdrop (by rw [itOf_tup, List.map_map]; rfl)) (by rw [p1.length_eq, fl_size]; omega) fun w hw => ⟨[some (.ref 2), some (dC b), some (dCh hf [hf, hf] su), some (.lst (vs.map dC)), some (dRow hf), some (dRow [mkRat 99 100, mkRat 1 100]), some T, some S, none, none, some (dF (shb b w)), some (dC w)], by simp [rho], rfl, e2_r rfl (cCall1 (argsC (e2_r rfl rfl rfl) (args1 (e2_r rfl (e2_r rfl rfl rfl) hm99))) (low2 w hw)) (eq_same (n := 1) (by omega) (dF_pln 0))⟩
  unfold F__law_long_right b__law_long_right
  refine fnD_rt rfl ?_
  refine seq_of (rh1 := [some (.ref 2), some (dC b), none, none, none, none, none, none, none, none, none, none]) (mu1 := mu) (asgv (call_of (args1 E1) fTuple_l)) ?_
  refine seq_of (rh1 := [some (.ref 2), some (dC b), none, none, some (dRow hf), some (dRow [mkRat 99 100, mkRat 1 100]), none, none, none, none, none, none]) (mu1 := mu) (asg2 (mu1 := mu) (x := dRow hf) (y := dRow [mkRat 99 100, mkRat 1 100]) (by rw [← d_hf]; simp) (by rw [← d_su]; simp)) ?_
  refine seq_of (rh1 := [some (.ref 2), some (dC b), some (dCh hf [hf, hf] su), none, some (dRow hf), some (dRow [mkRat 99 100, mkRat 1 100]), none, none, none, none, none, none]) (mu1 := mu) (asgv hchain) ?_
  refine seq_of (rh1 := [some (.ref 2), some (dC b), some (dCh hf [hf, hf] su), none, some (dRow hf), some (dRow [mkRat 99 100, mkRat 1 100]), some T, some S, none, none, none, none]) (mu1 := mu) (asg2 (cCall1 (argsC rfl (argsC rfl (args1 (e2_r rfl (call_of (args1 rfl) len_dC) (show _ = R.val (D.int ((b.length + 1 : Nat) : Int)) mu by rw [fAdd_i, Int.natCast_add, Int.add_comm]; rfl))))) best) (tup2 (cCall1 (argsC rfl (args1 (call_of (args1 rfl) len_dC))) P1) (cCall1 (argsC rfl (args1 (call_of (args1 rfl) len_dC))) P2))) ?_
  refine seq_of (rh1 := rho) (mu1 := mu) (asgv (call_of (args1 hdue) (E2 mu))) ?_
  refine seq_of (if_f (bOr_f (bOf_of (e2_r (x := dP (shb b b, b)) (y := dP (shb b b, b)) (e2_r rfl rfl hT0) (tup2 (cCall1 (argsC (e2_r rfl rfl rfl) (args1 (e2_r rfl rfl rfl))) low1) rfl) (ne_same (n := 2) (by omega) dP_pln))) (bOf_of (e2_r hcs rfl (ne_same (n := 2) (d := .lst (vs.map dC)) (by omega) ?_)))) rfl) (retseq (call_of (args1 hall) ?_))
  · show (vs.map dC).all (pln 1) = true
    rw [List.all_map, List.all_eq_true]
    exact fun w _ => dC_pln 0
  · have := fAll_map (f := fun _ : List Nat => true) vs mu
    rw [List.all_eq_true.mpr (fun _ _ => rfl)] at this
    exact this
end DLk71

set_option Elab.async false
set_option linter.all false
set_option maxRecDepth 100000
set_option maxHeartbeats 4000000
/-! the law -/
namespace DLk71
open PySem PySem.Spec PyProof.Rows L2 DL
theorem sl_scr {a : SE} {i : SE} {ds : List D} {c : Nat} {rh : DL.Env} {mu : Store} (h1 : a rh mu = .val (.scr ds) mu) (h2 : i rh mu = .val (.int (c : Int)) mu) : eSl false a oNone (oSome i) rh mu = .val (.lst (ds.take c)) mu := by
  unfold eSl oNone oSome
  simp only [bnd_app, h1, h2, ret_app]
  show R.val (D.lst (DL.cutD _ _ _)) mu = _
  unfold DL.cutD HT.sIx
  have h0 : ¬ ((c : Int) < 0) := by omega
  simp [h0]
theorem heap_eq (ns : List Int) : ∃ g, GOk g ∧ F__law_heap [.scr (ns.map D.int)] [] = .val (.ref 2) (hp g []) := by
  have loop : ∀ (xs : List Int) (st : Int) (x2 : Option D), 0 ≤ st → st < 2 ^ 31 → ∃ st' y2, 0 ≤ st' ∧ st' < 2 ^ 31 ∧
      forL [] (gVar 2) (sSeq (sAsg (e2 fMod (eCall fInt (aCons (e2 (fAdd false) (e2 (fAdd false) (e2 (fAdd false) (e2 (fMul false) (eVar 1) (eC (.int 48271))) (e2 (fMul false) (e2 fMod (eCall fInt (aCons (eCall fAbs (aCons (eVar 2) aNil)) aNil)) (eC (.int 2147483563))) (eC (.int 2)))) (eCall fInt (aCons (e2 fLt (eVar 2) (eC (.int 0))) aNil))) (eC (.int 17))) aNil)) (eC (.int 2147483647))) (gVar 1)) sNil)
        (xs.map D.int) [some (.scr (ns.map D.int)), some (.int st), x2] [] = .nx [some (.scr (ns.map D.int)), some (.int st'), y2] [] := by
    intro xs
    induction xs with
    | nil => exact fun st x2 h1 h2 => ⟨st, x2, h1, h2, forL_0⟩
    | cons x xs ih =>
      intro st x2 h1 h2
      have m1 : fMul false (.int st) (.int 48271) [] = .val (.int (st * 48271)) [] := by
        rw [fMul_i, if_pos (okMul_of (a := 31) (b := 16) (by omega) (by decide) (by omega))]
      have m2 : fMul false (.int ((if x < 0 then -x else x) % 2147483563)) (.int 2) [] = .val (.int ((if x < 0 then -x else x) % 2147483563 * 2)) [] := by
        rw [fMul_i, if_pos (okMul_of (a := 31) (b := 2) (by omega) (by decide) (by omega))]
      have key : ∀ i : Int, 0 ≤ i % 2147483647 ∧ i % 2147483647 < 2 ^ 31 := fun i => by omega
      let v : Int := (st * 48271 + (if x < 0 then -x else x) % 2147483563 * 2 + (if decide (x < 0) = true then 1 else 0) + 17) % 2147483647
      obtain ⟨st', y2, k1, k2, e⟩ := ih v (some (.int x)) (key _).1 (key _).2
      refine ⟨st', y2, k1, k2, ?_⟩
      rw [List.map_cons]
      refine (forL_nx (rh1 := [some (.scr (ns.map D.int)), some (.int st), some (.int x)]) (mu1 := []) rfl (.inl ?_)).trans e
      exact asg1 (e2_r (call_of (args1 (e2_r (e2_r (e2_r (e2_r rfl rfl m1) (e2_r (e2_r (call_of (args1 (call_of (args1 rfl) fAbs_i)) fInt_i) rfl (fMod_i (by decide))) rfl m2) fAdd_i) (call_of (args1 (e2_r rfl rfl fLt_i)) fInt_b) fAdd_i) rfl fAdd_i)) fInt_i) rfl (fMod_i (by decide)))
  obtain ⟨st', y2, k1, k2, E1⟩ := loop (ns.take 60) 71011 none (by omega) (by omega)
  have hsl : ∀ st x2, eSl false (eVar 0) oNone (oSome (eC (.int 60))) [some (.scr (ns.map D.int)), st, x2] [] = .val (.lst ((ns.take 60).map D.int)) [] := fun st x2 => by
    rw [List.map_take]
    exact sl_scr (c := 60) rfl rfl
  let xs : List Int := ((ns.take 60).filter fun x => decide (10 ^ 18 ≤ (if x < 0 then -x else x))).map fun x => if x < 0 then -x else x
  have hx : eLc true (gSeq (eSl false (eVar 0) oNone (oSome (eC (.int 60))))) (gVar 2) (bOf (e2 fGe (eCall fAbs (aCons (eVar 2) aNil)) (e2 fPow (eC (.int 10)) (eC (.int 18))))) (eCall fAbs (aCons (eVar 2) aNil)) [2] [some (.scr (ns.map D.int)), some (.int st'), y2] [] = mkL true (((ns.take 60).filter fun x => decide (10 ^ 18 ≤ (if x < 0 then -x else x))).map fun x => D.int (if x < 0 then -x else x)) [] :=
    lc_some (g := D.int) (gSeq_of (hsl _ _) rfl) (by rw [List.length_take]; omega) fun x _ => ⟨[some (.scr (ns.map D.int)), some (.int st'), some (.int x)], rfl, bOf_of (e2_r (call_of (args1 rfl) fAbs_i) (y := .int (10 ^ 18)) (mu2 := []) (by rfl) fGe_i), fun _ => call_of (args1 rfl) fAbs_i⟩
  have hxs : (((ns.take 60).filter fun x => decide (10 ^ 18 ≤ (if x < 0 then -x else x))).map fun x => D.int (if x < 0 then -x else x)) = xs.map D.int := by
    simp only [xs, List.map_map]
    rfl
  rw [hxs] at hx
  have hxl : xs.length ≤ 60 := by
    simp only [xs, List.length_map]
    refine Nat.le_trans (List.length_filter_le _ _) ?_
    rw [List.length_take]
    omega
  have hx0 : ∀ x ∈ xs, 0 ≤ x := fun x hx => by
    obtain ⟨y, _, rfl⟩ := List.mem_map.mp hx
    show 0 ≤ (if y < 0 then -y else y)
    split <;> omega
  refine ⟨⟨xs.map D.int, xs.reverse, st'⟩, ⟨fun x hx => hx0 x (List.mem_reverse.mp hx), by show xs.reverse.length ≤ 60; rw [List.length_reverse]; exact hxl, k1, k2, fun k => low_ints⟩, ?_⟩
  unfold F__law_heap b__law_heap
  refine fnD_rt rfl ?_
  refine seq_of (rh1 := [some (.scr (ns.map D.int)), some (.int 71011), none]) (mu1 := []) (asgv rfl) ?_
  refine seq_of (for_of (gSeq_of (hsl _ _) rfl) E1) (retseq ?_)
  have hrev : e1 (fRev true) (eLc true (gSeq (eSl false (eVar 0) oNone (oSome (eC (.int 60))))) (gVar 2) (bOf (e2 fGe (eCall fAbs (aCons (eVar 2) aNil)) (e2 fPow (eC (.int 10)) (eC (.int 18))))) (eCall fAbs (aCons (eVar 2) aNil)) [2]) [some (.scr (ns.map D.int)), some (.int st'), y2] [] = .val (.ref 1) [.lst (xs.map D.int), .lst (xs.reverse.map D.int)] := by
    refine e1_of hx ?_
    rw [List.map_reverse]
    rfl
  rw [eLst_app, argsC hrev (args1 rfl)]
  rfl
end DLk71

set_option Elab.async false
set_option linter.all false
set_option maxRecDepth 100000
set_option maxHeartbeats 4000000
namespace DLk71
open PySem PySem.Spec PyProof.Rows L2 DL
theorem few_courses {n k : Nat} (h1 : 2 ≤ n) (h2 : n ≤ 6) (h3 : 1 ≤ k) (h4 : k ≤ 1 ∨ k + n ≤ 6) : k ≤ 4 ∧ (k + 5) * n ^ k + 1 ≤ 500 := by
  have key : ∀ n : Fin 7, ∀ k : Fin 5, 2 ≤ n.val ∧ 1 ≤ k.val ∧ (k.val ≤ 1 ∨ k.val + n.val ≤ 6) → (k.val + 5) * n.val ^ k.val + 1 ≤ 500 := by decide +kernel
  have hk : k ≤ 4 := by omega
  exact ⟨hk, key ⟨n, by omega⟩ ⟨k, by omega⟩ ⟨h1, h3, h4⟩⟩
def gMost : SE := eCall fMax2 (aCons (eC (.int 1)) (aCons (e2 (fAdd false) (e2 fSub (e2 fIx (eLst false (aCons (eC (.int 2)) (aCons (eC (.int 3)) (aCons (eC (.int 3)) (aCons (eC (.int 4)) aNil))))) (eVar 2)) (eCall fLen (aCons (e2 fIx (eVar 5) (eC (.int 0))) aNil))) (eC (.int 2))) aNil))
theorem gMost_eq {ns : D} {t : Nat} (ht : t < 4) {s : List Rat} {tt o : List (List Rat)} {n z : Nat} (hc : Ch 5 n z s tt o) {mu : Store} : ∃ k, 1 ≤ k ∧ (k ≤ 1 ∨ k + n ≤ 6) ∧ gMost [some ns, some (.ref 2), some (dN t), none, none, some (dPt s tt o), none, none] mu = .val (.int (k : Nat)) mu := by
  have hq : ∃ q, q ≤ 4 ∧ fIx (.lst [.int 2, .int 3, .int 3, .int 4]) (dN t) mu = .val (.int (q : Nat)) mu := by
    match t, ht with
    | 0, _ => exact ⟨2, by omega, rfl⟩
    | 1, _ => exact ⟨3, by omega, rfl⟩
    | 2, _ => exact ⟨3, by omega, rfl⟩
    | 3, _ => exact ⟨4, by omega, rfl⟩
  obtain ⟨q, q4, hq⟩ := hq
  have n2 := hc.n2
  have e : gMost [some ns, some (.ref 2), some (dN t), none, none, some (dPt s tt o), none, none] mu = .val (.int (if (q : Int) - (n : Int) + 2 > 1 then (q : Int) - (n : Int) + 2 else 1)) mu := by
    unfold gMost
    refine call_of (argsC rfl (args1 (e2_r (e2_r (e2_r (lst4 rfl rfl rfl rfl) rfl hq) (call_of (args1 (e2_r rfl rfl ix_pt0)) (by rw [len_dRow, hc.s.len])) fSub_i) rfl fAdd_i))) rfl
  by_cases hb : (q : Int) - (n : Int) + 2 > 1
  · rw [if_pos hb] at e
    refine ⟨q + 2 - n, by omega, by omega, ?_⟩
    rw [e]
    congr 2
    omega
  · rw [if_neg hb] at e
    exact ⟨1, by omega, .inl (by omega), e⟩
theorem law_loop {ns : D} : ∀ (ts : List Nat) (g : G) (x2 x5 : Option D), GOk g → (∀ t ∈ ts, t < 4) → ∃ y2 y5 g', GOk g' ∧
    forL [] (gVar 2) (sSeq (sAsg (cCall F__law_parts (aCons (eVar 1) aNil)) (gVar 5))
      (sSeq (sIf (bNot (bOf (cCall F__law_courses_right (aCons (eVar 1) (aCons (eVar 5) (aCons (cCall F__law_seen (aCons (eVar 1) (aCons (eVar 5) (aCons gMost aNil)))) aNil)))))) (sSeq (sRet (eC (.bl false))) sNil) sNil) sNil))
      (ts.map dN) [some ns, some (.ref 2), x2, none, none, x5, none, none] (hp g []) = .nx [some ns, some (.ref 2), y2, none, none, y5, none, none] (hp g' []) := by
  intro ts
  induction ts with
  | nil => exact fun g x2 x5 hg _ => ⟨x2, x5, g, hg, forL_0⟩
  | cons a ts ih =>
    intro g x2 x5 hg ht
    obtain ⟨n, z, s, t, o, g1, hc, hn, hz, i1, E1⟩ := parts_eq hg
    obtain ⟨k, k1, k2, E2⟩ := gMost_eq (ns := ns) (ht a (by simp)) hc (mu := hp g1 [])
    have n2 := hc.n2
    obtain ⟨ss, g2, s0, sl, sok, i2, E3⟩ := seen_eq (most := k) i1 hc hz k1 (by omega)
    have hss1 : 1 ≤ ss.length := by
      cases ss with
      | nil => exact (s0 rfl).elim
      | cons a b => simp
    obtain ⟨l4, lN⟩ := few_courses n2 hn hss1 (by omega)
    obtain ⟨g3, i3, E4⟩ := courses_right_eq hc s0 sok hn l4 lN i2
    obtain ⟨y2, y5, g', i', E5⟩ := ih g3 (some (dN a)) (some (dPt s t o)) i3 fun t h => ht t (by simp [h])
    refine ⟨y2, y5, g', i', ?_⟩
    rw [List.map_cons]
    refine (forL_nx (rh1 := [some ns, some (.ref 2), some (dN a), none, none, x5, none, none]) (mu1 := hp g []) rfl (.inl ?_)).trans E5
    refine seq_of (rh1 := [some ns, some (.ref 2), some (dN a), none, none, some (dPt s t o), none, none]) (mu1 := hp g1 []) (asgv (cCall1 rfl E1)) ?_
    exact seq_of (if_f (bNot_of (k := true) (bOf_of (cCall1 (argsC rfl (argsC rfl (args1 (cCall1 (argsC rfl (argsC rfl (args1 E2))) E3)))) E4))) rfl) rfl
def tw : List Rat := [mkRat 1 3, mkRat 1 3, mkRat 1 3]
def tt : List (List Rat) := [[0, 1, 0], [0, 0, 1], [1, 0, 0]]
theorem ch_even : Ch 7 2 2 hf [hf, hf] [hf, hf] := by
  have h : ∀ r ∈ [hf, hf], Row 7 2 r := fun r hr => by
    simp only [List.mem_cons, List.not_mem_nil, or_false, or_self] at hr
    rw [hr]
    exact row_hf
  exact ⟨row_hf, rfl, h, rfl, h, by omega, by omega, by omega, by omega, by omega, by omega⟩
theorem ch_wheel : Ch 7 3 2 tw tt [hf, hf, hf] := by
  have h : ∀ r ∈ [hf, hf, hf], Row 7 2 r := fun r hr => by
    simp only [List.mem_cons, List.not_mem_nil, or_false, or_self] at hr
    rw [hr]
    exact row_hf
  refine ⟨⟨rfl, by unfold tw Sz; decide +kernel, by unfold tw; decide +kernel, by unfold tw; decide +kernel⟩, rfl, fun r hr => ?_, rfl, h, by omega, by omega, by omega, by omega, by omega, by omega⟩
  unfold tt at hr
  simp only [List.mem_cons, List.not_mem_nil, or_false] at hr
  rcases hr with rfl | rfl | rfl <;> exact ⟨rfl, by unfold Sz; decide +kernel, by decide +kernel, by decide +kernel⟩
theorem even_best : (rk (All 2 hf [hf, hf] [hf, hf] [some 0, none])).take 3 = [(mkRat 1 8, [0, 0]), (mkRat 1 8, [0, 1]), (mkRat 1 8, [1, 0])] := by decide +kernel
theorem wheel_best : (rk (All 3 tw tt [hf, hf, hf] [none, none, some 1])).take 9 = [(mkRat 1 6, [0, 1, 2]), (mkRat 1 6, [1, 2, 0]), (mkRat 1 6, [2, 0, 1])] := by decide +kernel
theorem tup3 {a b c : SE} {rh : DL.Env} {mu mu1 mu2 mu3 : Store} {x y z : D} (h1 : a rh mu = .val x mu1) (h2 : b rh mu1 = .val y mu2) (h3 : c rh mu2 = .val z mu3) : eTup (aCons a (aCons b (aCons c aNil))) rh mu = .val (.tup [x, y, z]) mu3 := by simp [h1, h2, h3]
theorem d_tt : D.tup [.tup [.tup [.int 0, .int 1], .tup [.int 1, .int 1], .tup [.int 0, .int 1]], .tup [.tup [.int 0, .int 1], .tup [.int 0, .int 1], .tup [.int 1, .int 1]], .tup [.tup [.int 1, .int 1], .tup [.int 0, .int 1], .tup [.int 0, .int 1]]] = dTab tt := by rfl
theorem d_tw : D.tup [.tup [.int 1, .int 3], .tup [.int 1, .int 3], .tup [.int 1, .int 3]] = dRow tw := by rfl
theorem law_eq (ns : List Int) : ∃ mu, F_law [.scr (ns.map D.int)] [] = .val (.bl true) mu := by
  obtain ⟨g, hg, E1⟩ := heap_eq ns
  have hcount : ∃ k, k ≤ 4 ∧ ∀ x2, gRg1 (aCons (e2 (fAdd false) (e2 (fAdd false) (eC (.int 2)) (eCall fInt (aCons (e2 fGt (eCall fLen (aCons (eVar 0) aNil)) (eC (.int 1))) aNil))) (eCall fInt (aCons (e2 fGt (eCall fLen (aCons (eVar 0) aNil)) (eC (.int 3))) aNil))) aNil) [some (.scr (ns.map D.int)), some (.ref 2), x2, none, none, none, none, none] (hp g []) = .val ⟨(List.range k).map dN, []⟩ (hp g []) := by
    refine ⟨2 + (if decide (1 < ((ns.map D.int).length : Int)) = true then 1 else 0) + (if decide (3 < ((ns.map D.int).length : Int)) = true then 1 else 0), by split <;> split <;> omega, fun x2 => rg1_of (args1 (e2_r (e2_r rfl (call_of (args1 (e2_r (call_of (args1 rfl) fLen_s) rfl fGt_i)) fInt_b) fAdd_i) (call_of (args1 (e2_r (call_of (args1 rfl) fLen_s) rfl fGt_i)) fInt_b) (fAdd_i.trans ?_))) (by split <;> split <;> omega)⟩
    congr 2
    split <;> split <;> rfl
  obtain ⟨k, hk, E2⟩ := hcount
  obtain ⟨y2, y5, g1, i1, E3⟩ := law_loop (ns := .scr (ns.map D.int)) (List.range k) g none none hg fun t h => by have := List.mem_range.mp h; omega
  obtain ⟨g2, i2, E4⟩ := long_right_eq i1
  have b1 := best_courses_all ch_even (many := 3) (ss := [some 0, none]) (by simp) (by omega) (by omega) (fun x hx => by
    simp only [List.mem_cons, List.not_mem_nil, or_false] at hx
    rcases hx with rfl | rfl
    · show 0 < 2
      omega
    · trivial) (by simp) (by simp) (hp g2 [])
  rw [even_best] at b1
  have b2 := best_courses_all ch_wheel (many := 9) (ss := [none, none, some 1]) (by simp) (by omega) (by omega) (fun x hx => by
    simp only [List.mem_cons, List.not_mem_nil, or_false] at hx
    rcases hx with rfl | rfl | rfl
    · trivial
    · trivial
    · show 1 < 2
      omega) (by simp) (by simp) (hp g2 [])
  rw [wheel_best] at b2
  refine ⟨hp g2 [], ?_⟩
  unfold F_law b_law
  refine fnD_rt rfl ?_
  refine seq_of (rh1 := [some (.scr (ns.map D.int)), some (.ref 2), none, none, none, none, none, none]) (mu1 := hp g []) (asgv (cCall1 rfl E1)) ?_
  refine seq_of (for_of (E2 none) E3) ?_
  refine seq_of (if_f (bNot_of (k := true) (bOf_of (cCall1 rfl E4))) rfl) ?_
  generalize hp g2 [] = mu at b1 b2 ⊢
  refine seq_of (rh1 := [some (.scr (ns.map D.int)), some (.ref 2), y2, some (dRow hf), none, y5, none, none]) (mu1 := mu) (asgv (by rw [← d_hf]; simp)) ?_
  refine seq_of (rh1 := [some (.scr (ns.map D.int)), some (.ref 2), y2, some (dRow hf), none, y5, some (dCh hf [hf, hf] [hf, hf]), some (.tup [.int 1, .int 3])]) (mu1 := mu) (par2 (ch_even.chain rfl (tup2 rfl rfl) (tup2 rfl rfl)) (tup2 rfl rfl)) ?_
  have q1 : cCall F_best_courses (aCons (eVar 6) (aCons (eTup (aCons (eC (.int 0)) (aCons (eC .non) aNil))) (aCons (eC (.int 3)) aNil))) [some (.scr (ns.map D.int)), some (.ref 2), y2, some (dRow hf), none, y5, some (dCh hf [hf, hf] [hf, hf]), some (.tup [.int 1, .int 3])] mu = _ := cCall1 (argsC rfl (argsC (tup2 rfl rfl) (args1 rfl))) b1
  refine seq_of (if_f (bOf_of (e2_r q1 (y := .tup ([(mkRat 1 8, [0, 0]), (mkRat 1 8, [0, 1]), (mkRat 1 8, [1, 0])].map dP)) (mu2 := mu) ?_ (ne_same (n := 3) (by omega) dPs_pln))) rfl) ?_
  · rfl
  refine seq_of (rh1 := [some (.scr (ns.map D.int)), some (.ref 2), y2, some (dRow hf), some (dCh tw tt [hf, hf, hf]), y5, some (dCh hf [hf, hf] [hf, hf]), some (.tup [.int 1, .int 3])]) (mu1 := mu) (asgv (ch_wheel.chain (tup3 rfl rfl rfl) ?_ (tup3 rfl rfl rfl))) (retseq ?_)
  · rfl
  · have q2 : cCall F_best_courses (aCons (eVar 4) (aCons (eTup (aCons (eC .non) (aCons (eC .non) (aCons (eC (.int 1)) aNil)))) (aCons (eC (.int 9)) aNil))) [some (.scr (ns.map D.int)), some (.ref 2), y2, some (dRow hf), some (dCh tw tt [hf, hf, hf]), y5, some (dCh hf [hf, hf] [hf, hf]), some (.tup [.int 1, .int 3])] mu = _ := cCall1 (argsC rfl (argsC (tup3 rfl rfl rfl) (args1 rfl))) b2
    refine e2_r q2 (y := .tup ([(mkRat 1 6, [0, 1, 2]), (mkRat 1 6, [1, 2, 0]), (mkRat 1 6, [2, 0, 1])].map dP)) (mu2 := mu) ?_ (eq_same (n := 3) (by omega) dPs_pln)
    rfl
end DLk71

set_option Elab.async false
set_option linter.all false
set_option maxRecDepth 100000
set_option maxHeartbeats 4000000
namespace DLk71
open PySem PySem.Spec PyProof.Rows L2 DL
section
variable {P : Program} {w : World} {K : PySem.W.Frag} {mg : Str → Option Value} {base : Heap} {T : Tbl} {k : Nat} {f : Addr} {fd : FuncData}
def d_is_integer : He.DefD := ⟨("is_integer", none), "is_integer", "is_integer", defArgs st_is_integer, defBody st_is_integer, defScope st_is_integer, [], []⟩
theorem n_is_integer (h : EnvOk (cc [] []) P w K mg base T k) (F : FunD K "is_integer" "is_integer" (defArgs st_is_integer) (defBody st_is_integer) (defScope st_is_integer) [] [] f fd) (hmg : mg ("is_integer" : Str) = some (.ref f)) : EnvOk (cc t_is_integer []) P w K mg base T (k + 1) :=
  h.def_ (N := N_is_integer) (ps := [("value" : Str)]) (kw := []) RzAll.nil F ⟨rfl, rfl, rfl, by decide +kernel, rfl, by decide +kernel, by decide +kernel⟩ true c_is_integer hmg F.kp (FunD.bindsN F fun _ _ _ _ _ _ us hl => match us, hl with | [_], _ => rfl) (fun q hq => by cases hq)
def d_is_number : He.DefD := ⟨("is_number", none), "is_number", "is_number", defArgs st_is_number, defBody st_is_number, defScope st_is_number, [], []⟩
theorem n_is_number (h : EnvOk (cc t_is_integer []) P w K mg base T k) (F : FunD K "is_number" "is_number" (defArgs st_is_number) (defBody st_is_number) (defScope st_is_number) [] [] f fd) (hmg : mg ("is_number" : Str) = some (.ref f)) : EnvOk (cc t_is_number []) P w K mg base T (k + 1) :=
  h.def_ (N := N_is_number) (ps := [("value" : Str)]) (kw := []) RzAll.nil F ⟨rfl, rfl, rfl, by decide +kernel, rfl, by decide +kernel, by decide +kernel⟩ true c_is_number hmg F.kp (FunD.bindsN F fun _ _ _ _ _ _ us hl => match us, hl with | [_], _ => rfl) (fun q hq => by cases hq)
def d_shared_divisor : He.DefD := ⟨("shared_divisor", none), "shared_divisor", "shared_divisor", defArgs st_shared_divisor, defBody st_shared_divisor, defScope st_shared_divisor, [], []⟩
theorem n_shared_divisor (h : EnvOk (cc t_is_number []) P w K mg base T k) (F : FunD K "shared_divisor" "shared_divisor" (defArgs st_shared_divisor) (defBody st_shared_divisor) (defScope st_shared_divisor) [] [] f fd) (hmg : mg ("shared_divisor" : Str) = some (.ref f)) : EnvOk (cc t_shared_divisor []) P w K mg base T (k + 1) :=
  h.def_ (N := N_shared_divisor) (ps := [("one" : Str), ("other" : Str)]) (kw := []) RzAll.nil F ⟨rfl, rfl, rfl, by decide +kernel, rfl, by decide +kernel, by decide +kernel⟩ true c_shared_divisor hmg F.kp (FunD.bindsN F fun _ _ _ _ _ _ us hl => match us, hl with | [_,_], _ => rfl) (fun q hq => by cases hq)
def d_common_bottom : He.DefD := ⟨("common_bottom", none), "common_bottom", "common_bottom", defArgs st_common_bottom, defBody st_common_bottom, defScope st_common_bottom, [], []⟩
theorem n_common_bottom (h : EnvOk (cc t_shared_divisor []) P w K mg base T k) (F : FunD K "common_bottom" "common_bottom" (defArgs st_common_bottom) (defBody st_common_bottom) (defScope st_common_bottom) [] [] f fd) (hmg : mg ("common_bottom" : Str) = some (.ref f)) : EnvOk (cc t_common_bottom []) P w K mg base T (k + 1) :=
  h.def_ (N := N_common_bottom) (ps := [("fractions" : Str)]) (kw := []) RzAll.nil F ⟨rfl, rfl, rfl, by decide +kernel, rfl, by decide +kernel, by decide +kernel⟩ true c_common_bottom hmg F.kp (FunD.bindsN F fun _ _ _ _ _ _ us hl => match us, hl with | [_], _ => rfl) (fun q hq => by cases hq)
def d_fraction_of : He.DefD := ⟨("fraction_of", none), "fraction_of", "fraction_of", defArgs st_fraction_of, defBody st_fraction_of, defScope st_fraction_of, [], []⟩
theorem n_fraction_of (h : EnvOk (cc t_common_bottom []) P w K mg base T k) (F : FunD K "fraction_of" "fraction_of" (defArgs st_fraction_of) (defBody st_fraction_of) (defScope st_fraction_of) [] [] f fd) (hmg : mg ("fraction_of" : Str) = some (.ref f)) : EnvOk (cc t_fraction_of []) P w K mg base T (k + 1) :=
  h.def_ (N := N_fraction_of) (ps := [("top" : Str), ("bottom" : Str)]) (kw := []) RzAll.nil F ⟨rfl, rfl, rfl, by decide +kernel, rfl, by decide +kernel, by decide +kernel⟩ true c_fraction_of hmg F.kp (FunD.bindsN F fun _ _ _ _ _ _ us hl => match us, hl with | [_,_], _ => rfl) (fun q hq => by cases hq)
def d_is_fraction : He.DefD := ⟨("is_fraction", none), "is_fraction", "is_fraction", defArgs st_is_fraction, defBody st_is_fraction, defScope st_is_fraction, [], []⟩
theorem n_is_fraction (h : EnvOk (cc t_fraction_of []) P w K mg base T k) (F : FunD K "is_fraction" "is_fraction" (defArgs st_is_fraction) (defBody st_is_fraction) (defScope st_is_fraction) [] [] f fd) (hmg : mg ("is_fraction" : Str) = some (.ref f)) : EnvOk (cc t_is_fraction []) P w K mg base T (k + 1) :=
  h.def_ (N := N_is_fraction) (ps := [("value" : Str)]) (kw := []) RzAll.nil F ⟨rfl, rfl, rfl, by decide +kernel, rfl, by decide +kernel, by decide +kernel⟩ true c_is_fraction hmg F.kp (FunD.bindsN F fun _ _ _ _ _ _ us hl => match us, hl with | [_], _ => rfl) (fun q hq => by cases hq)
def d_timed : He.DefD := ⟨("timed", none), "timed", "timed", defArgs st_timed, defBody st_timed, defScope st_timed, [], []⟩
theorem n_timed (h : EnvOk (cc t_is_fraction []) P w K mg base T k) (F : FunD K "timed" "timed" (defArgs st_timed) (defBody st_timed) (defScope st_timed) [] [] f fd) (hmg : mg ("timed" : Str) = some (.ref f)) : EnvOk (cc t_timed []) P w K mg base T (k + 1) :=
  h.def_ (N := N_timed) (ps := [("one" : Str), ("other" : Str)]) (kw := []) RzAll.nil F ⟨rfl, rfl, rfl, by decide +kernel, rfl, by decide +kernel, by decide +kernel⟩ true c_timed hmg F.kp (FunD.bindsN F fun _ _ _ _ _ _ us hl => match us, hl with | [_,_], _ => rfl) (fun q hq => by cases hq)
def d_is_less : He.DefD := ⟨("is_less", none), "is_less", "is_less", defArgs st_is_less, defBody st_is_less, defScope st_is_less, [], []⟩
theorem n_is_less (h : EnvOk (cc t_timed []) P w K mg base T k) (F : FunD K "is_less" "is_less" (defArgs st_is_less) (defBody st_is_less) (defScope st_is_less) [] [] f fd) (hmg : mg ("is_less" : Str) = some (.ref f)) : EnvOk (cc t_is_less []) P w K mg base T (k + 1) :=
  h.def_ (N := N_is_less) (ps := [("one" : Str), ("other" : Str)]) (kw := []) RzAll.nil F ⟨rfl, rfl, rfl, by decide +kernel, rfl, by decide +kernel, by decide +kernel⟩ true c_is_less hmg F.kp (FunD.bindsN F fun _ _ _ _ _ _ us hl => match us, hl with | [_,_], _ => rfl) (fun q hq => by cases hq)
def d_total_of_all : He.DefD := ⟨("total_of_all", none), "total_of_all", "total_of_all", defArgs st_total_of_all, defBody st_total_of_all, defScope st_total_of_all, [], []⟩
theorem n_total_of_all (h : EnvOk (cc t_is_less []) P w K mg base T k) (F : FunD K "total_of_all" "total_of_all" (defArgs st_total_of_all) (defBody st_total_of_all) (defScope st_total_of_all) [] [] f fd) (hmg : mg ("total_of_all" : Str) = some (.ref f)) : EnvOk (cc t_total_of_all []) P w K mg base T (k + 1) :=
  h.def_ (N := N_total_of_all) (ps := [("fractions" : Str)]) (kw := []) RzAll.nil F ⟨rfl, rfl, rfl, by decide +kernel, rfl, by decide +kernel, by decide +kernel⟩ true c_total_of_all hmg F.kp (FunD.bindsN F fun _ _ _ _ _ _ us hl => match us, hl with | [_], _ => rfl) (fun q hq => by cases hq)
def d_are_weights : He.DefD := ⟨("are_weights", none), "are_weights", "are_weights", defArgs st_are_weights, defBody st_are_weights, defScope st_are_weights, [], []⟩
theorem n_are_weights (h : EnvOk (cc t_total_of_all []) P w K mg base T k) (F : FunD K "are_weights" "are_weights" (defArgs st_are_weights) (defBody st_are_weights) (defScope st_are_weights) [] [] f fd) (hmg : mg ("are_weights" : Str) = some (.ref f)) : EnvOk (cc t_are_weights []) P w K mg base T (k + 1) :=
  h.def_ (N := N_are_weights) (ps := [("value" : Str), ("count" : Str)]) (kw := []) RzAll.nil F ⟨rfl, rfl, rfl, by decide +kernel, rfl, by decide +kernel, by decide +kernel⟩ true c_are_weights hmg F.kp (FunD.bindsN F fun _ _ _ _ _ _ us hl => match us, hl with | [_,_], _ => rfl) (fun q hq => by cases hq)
def d_is_row : He.DefD := ⟨("is_row", none), "is_row", "is_row", defArgs st_is_row, defBody st_is_row, defScope st_is_row, [], []⟩
theorem n_is_row (h : EnvOk (cc t_are_weights []) P w K mg base T k) (F : FunD K "is_row" "is_row" (defArgs st_is_row) (defBody st_is_row) (defScope st_is_row) [] [] f fd) (hmg : mg ("is_row" : Str) = some (.ref f)) : EnvOk (cc t_is_row []) P w K mg base T (k + 1) :=
  h.def_ (N := N_is_row) (ps := [("value" : Str), ("count" : Str)]) (kw := []) RzAll.nil F ⟨rfl, rfl, rfl, by decide +kernel, rfl, by decide +kernel, by decide +kernel⟩ true c_is_row hmg F.kp (FunD.bindsN F fun _ _ _ _ _ _ us hl => match us, hl with | [_,_], _ => rfl) (fun q hq => by cases hq)
def d_are_rows : He.DefD := ⟨("are_rows", none), "are_rows", "are_rows", defArgs st_are_rows, defBody st_are_rows, defScope st_are_rows, [], []⟩
theorem n_are_rows (h : EnvOk (cc t_is_row []) P w K mg base T k) (F : FunD K "are_rows" "are_rows" (defArgs st_are_rows) (defBody st_are_rows) (defScope st_are_rows) [] [] f fd) (hmg : mg ("are_rows" : Str) = some (.ref f)) : EnvOk (cc t_are_rows []) P w K mg base T (k + 1) :=
  h.def_ (N := N_are_rows) (ps := [("value" : Str), ("many" : Str), ("count" : Str)]) (kw := []) RzAll.nil F ⟨rfl, rfl, rfl, by decide +kernel, rfl, by decide +kernel, by decide +kernel⟩ true c_are_rows hmg F.kp (FunD.bindsN F fun _ _ _ _ _ _ us hl => match us, hl with | [_,_,_], _ => rfl) (fun q hq => by cases hq)
def d_Chain_init : He.DefD := ⟨("Chain", some "__init__"), "__init__", "Chain.__init__", defArgs st_Chain_init, defBody st_Chain_init, defScope st_Chain_init, [], []⟩
theorem n_Chain_init {C : Addr} (h : EnvOk (cc t_are_rows []) P w K mg base T k) (F : FunD K "__init__" "Chain.__init__" (defArgs st_Chain_init) (defBody st_Chain_init) (defScope st_Chain_init) [] [] f fd) (hM : Mk K C f) (hmg : mg ("Chain" : Str) = some (.ref C)) (hc : T.cls 0 = some C) : EnvOk (cc t_are_rows k_Chain) P w K mg base T (k + 2) :=
  h.addK (kl := ⟨0, true, F_Chain_init, [("self" : Str), ("start" : Str), ("steps" : Str), ("shows" : Str)]⟩) hM (fun hid => def_ok (N := N_Chain_init) (ps := [("self" : Str), ("start" : Str), ("steps" : Str), ("shows" : Str)]) h RzAll.nil F ⟨rfl, rfl, rfl, by decide +kernel, rfl, by decide +kernel, by decide +kernel⟩ false c_Chain_init hid) hmg hc (FunD.bindsN F fun _ _ _ _ _ _ us hl => match us, hl with | [_,_,_,_], _ => rfl) (fun ds mu hl => fnD_n ds mu hl)
def d_cases_in : He.DefD := ⟨("cases_in", none), "cases_in", "cases_in", defArgs st_cases_in, defBody st_cases_in, defScope st_cases_in, [], []⟩
theorem n_cases_in (h : EnvOk (cc t_are_rows k_Chain) P w K mg base T k) (F : FunD K "cases_in" "cases_in" (defArgs st_cases_in) (defBody st_cases_in) (defScope st_cases_in) [] [] f fd) (hmg : mg ("cases_in" : Str) = some (.ref f)) : EnvOk (cc t_cases_in k_Chain) P w K mg base T (k + 1) :=
  h.def_ (N := N_cases_in) (ps := [("chain" : Str)]) (kw := []) RzAll.nil F ⟨rfl, rfl, rfl, by decide +kernel, rfl, by decide +kernel, by decide +kernel⟩ true c_cases_in hmg F.kp (FunD.bindsN F fun _ _ _ _ _ _ us hl => match us, hl with | [_], _ => rfl) (fun q hq => by cases hq)
def d_show_at : He.DefD := ⟨("show_at", none), "show_at", "show_at", defArgs st_show_at, defBody st_show_at, defScope st_show_at, [], []⟩
theorem n_show_at (h : EnvOk (cc t_cases_in k_Chain) P w K mg base T k) (F : FunD K "show_at" "show_at" (defArgs st_show_at) (defBody st_show_at) (defScope st_show_at) [] [] f fd) (hmg : mg ("show_at" : Str) = some (.ref f)) : EnvOk (cc t_show_at k_Chain) P w K mg base T (k + 1) :=
  h.def_ (N := N_show_at) (ps := [("chain" : Str), ("case" : Str), ("sign" : Str)]) (kw := []) RzAll.nil F ⟨rfl, rfl, rfl, by decide +kernel, rfl, by decide +kernel, by decide +kernel⟩ true c_show_at hmg F.kp (FunD.bindsN F fun _ _ _ _ _ _ us hl => match us, hl with | [_,_,_], _ => rfl) (fun q hq => by cases hq)
def d_ranked_pairs : He.DefD := ⟨("ranked_pairs", none), "ranked_pairs", "ranked_pairs", defArgs st_ranked_pairs, defBody st_ranked_pairs, defScope st_ranked_pairs, [], []⟩
theorem n_ranked_pairs (h : EnvOk (cc t_show_at k_Chain) P w K mg base T k) (F : FunD K "ranked_pairs" "ranked_pairs" (defArgs st_ranked_pairs) (defBody st_ranked_pairs) (defScope st_ranked_pairs) [] [] f fd) (hmg : mg ("ranked_pairs" : Str) = some (.ref f)) : EnvOk (cc t_ranked_pairs k_Chain) P w K mg base T (k + 1) :=
  h.def_ (N := N_ranked_pairs) (ps := [("pairs" : Str)]) (kw := []) RzAll.nil F ⟨rfl, rfl, rfl, by decide +kernel, rfl, by decide +kernel, by decide +kernel⟩ true c_ranked_pairs hmg F.kp (FunD.bindsN F fun _ _ _ _ _ _ us hl => match us, hl with | [_], _ => rfl) (fun q hq => by cases hq)
def d_entry_share : He.DefD := ⟨("entry_share", none), "entry_share", "entry_share", defArgs st_entry_share, defBody st_entry_share, defScope st_entry_share, [], []⟩
theorem n_entry_share (h : EnvOk (cc t_ranked_pairs k_Chain) P w K mg base T k) (F : FunD K "entry_share" "entry_share" (defArgs st_entry_share) (defBody st_entry_share) (defScope st_entry_share) [] [] f fd) (hmg : mg ("entry_share" : Str) = some (.ref f)) : EnvOk (cc t_entry_share k_Chain) P w K mg base T (k + 1) :=
  h.def_ (N := N_entry_share) (ps := [("chain" : Str), ("course" : Str), ("case" : Str)]) (kw := []) RzAll.nil F ⟨rfl, rfl, rfl, by decide +kernel, rfl, by decide +kernel, by decide +kernel⟩ true c_entry_share hmg F.kp (FunD.bindsN F fun _ _ _ _ _ _ us hl => match us, hl with | [_,_,_], _ => rfl) (fun q hq => by cases hq)
def d_course_share : He.DefD := ⟨("course_share", none), "course_share", "course_share", defArgs st_course_share, defBody st_course_share, defScope st_course_share, [], []⟩
theorem n_course_share (h : EnvOk (cc t_entry_share k_Chain) P w K mg base T k) (F : FunD K "course_share" "course_share" (defArgs st_course_share) (defBody st_course_share) (defScope st_course_share) [] [] f fd) (hmg : mg ("course_share" : Str) = some (.ref f)) : EnvOk (cc t_course_share k_Chain) P w K mg base T (k + 1) :=
  h.def_ (N := N_course_share) (ps := [("chain" : Str), ("seen" : Str), ("course" : Str)]) (kw := [([("course" : Str), ("seen" : Str), ("chain" : Str)], [2, 1, 0])]) RzAll.nil F ⟨rfl, rfl, rfl, by decide +kernel, rfl, by decide +kernel, by decide +kernel⟩ true c_course_share hmg F.kp (FunD.bindsN F fun _ _ _ _ _ _ us hl => match us, hl with | [_,_,_], _ => rfl) (fun q hq => by
      rw [List.mem_singleton] at hq
      subst hq
      obtain ⟨oc, od, dV, kV, doc, pm, an, cdv, ct, osl, rfl, lk, hcd, hD, _⟩ := F.ex
      rcases hD with ⟨_, rfl⟩ | ⟨e, _⟩
      · exact ⟨fun ws hl => match ws, hl with | [_,_,_], _ => rfl, by decide, rfl⟩
      · exact absurd rfl e)
def d_need_many : He.DefD := ⟨("need_many", none), "need_many", "need_many", defArgs st_need_many, defBody st_need_many, defScope st_need_many, [], []⟩
theorem n_need_many (h : EnvOk (cc t_course_share k_Chain) P w K mg base T k) (hz : RzAll rz_need_many P w K mg base T k) (F : FunD K "need_many" "need_many" (defArgs st_need_many) (defBody st_need_many) (defScope st_need_many) [] [] f fd) (hmg : mg ("need_many" : Str) = some (.ref f)) : EnvOk (cc t_need_many k_Chain) P w K mg base T (k + 1) :=
  h.def_ (N := N_need_many) (ps := [("value" : Str)]) (kw := []) hz F ⟨rfl, rfl, rfl, by decide +kernel, rfl, by decide +kernel, by decide +kernel⟩ true c_need_many hmg F.kp (FunD.bindsN F fun _ _ _ _ _ _ us hl => match us, hl with | [_], _ => rfl) (fun q hq => by cases hq)
def d_best_endings : He.DefD := ⟨("best_endings", none), "best_endings", "best_endings", defArgs st_best_endings, defBody st_best_endings, defScope st_best_endings, [], []⟩
theorem n_best_endings (h : EnvOk (cc t_need_many k_Chain) P w K mg base T k) (F : FunD K "best_endings" "best_endings" (defArgs st_best_endings) (defBody st_best_endings) (defScope st_best_endings) [] [] f fd) (hmg : mg ("best_endings" : Str) = some (.ref f)) : EnvOk (cc t_best_endings k_Chain) P w K mg base T (k + 1) :=
  h.def_ (N := N_best_endings) (ps := [("chain" : Str), ("sign" : Str), ("case" : Str), ("endings" : Str), ("many" : Str)]) (kw := []) RzAll.nil F ⟨rfl, rfl, rfl, by decide +kernel, rfl, by decide +kernel, by decide +kernel⟩ true c_best_endings hmg F.kp (FunD.bindsN F fun _ _ _ _ _ _ us hl => match us, hl with | [_,_,_,_,_], _ => rfl) (fun q hq => by cases hq)
def d_best_courses : He.DefD := ⟨("best_courses", none), "best_courses", "best_courses", defArgs st_best_courses, defBody st_best_courses, defScope st_best_courses, [], []⟩
theorem n_best_courses (h : EnvOk (cc t_best_endings k_Chain) P w K mg base T k) (F : FunD K "best_courses" "best_courses" (defArgs st_best_courses) (defBody st_best_courses) (defScope st_best_courses) [] [] f fd) (hmg : mg ("best_courses" : Str) = some (.ref f)) : EnvOk (cc t_best_courses k_Chain) P w K mg base T (k + 1) :=
  h.def_ (N := N_best_courses) (ps := [("chain" : Str), ("seen" : Str), ("many" : Str)]) (kw := [([("many" : Str), ("seen" : Str), ("chain" : Str)], [2, 1, 0])]) RzAll.nil F ⟨rfl, rfl, rfl, by decide +kernel, rfl, by decide +kernel, by decide +kernel⟩ true c_best_courses hmg F.kp (FunD.bindsN F fun _ _ _ _ _ _ us hl => match us, hl with | [_,_,_], _ => rfl) (fun q hq => by
      rw [List.mem_singleton] at hq
      subst hq
      obtain ⟨oc, od, dV, kV, doc, pm, an, cdv, ct, osl, rfl, lk, hcd, hD, _⟩ := F.ex
      rcases hD with ⟨_, rfl⟩ | ⟨e, _⟩
      · exact ⟨fun ws hl => match ws, hl with | [_,_,_], _ => rfl, by decide, rfl⟩
      · exact absurd rfl e)
def d__law_heap : He.DefD := ⟨("_law_heap", none), "_law_heap", "_law_heap", defArgs st__law_heap, defBody st__law_heap, defScope st__law_heap, [], []⟩
theorem n__law_heap (h : EnvOk (cc t_best_courses k_Chain) P w K mg base T k) (F : FunD K "_law_heap" "_law_heap" (defArgs st__law_heap) (defBody st__law_heap) (defScope st__law_heap) [] [] f fd) (hmg : mg ("_law_heap" : Str) = some (.ref f)) : EnvOk (cc t__law_heap k_Chain) P w K mg base T (k + 1) :=
  h.def_ (N := N__law_heap) (ps := [("_law_script" : Str)]) (kw := []) RzAll.nil F ⟨rfl, rfl, rfl, by decide +kernel, rfl, by decide +kernel, by decide +kernel⟩ false c__law_heap hmg F.kp (FunD.bindsN F fun _ _ _ _ _ _ us hl => match us, hl with | [_], _ => rfl) (fun q hq => by cases hq)
def d__law_draw : He.DefD := ⟨("_law_draw", none), "_law_draw", "_law_draw", defArgs st__law_draw, defBody st__law_draw, defScope st__law_draw, [], []⟩
theorem n__law_draw (h : EnvOk (cc t__law_heap k_Chain) P w K mg base T k) (F : FunD K "_law_draw" "_law_draw" (defArgs st__law_draw) (defBody st__law_draw) (defScope st__law_draw) [] [] f fd) (hmg : mg ("_law_draw" : Str) = some (.ref f)) : EnvOk (cc t__law_draw k_Chain) P w K mg base T (k + 1) :=
  h.def_ (N := N__law_draw) (ps := [("_law_heap_here" : Str), ("_law_many" : Str)]) (kw := []) RzAll.nil F ⟨rfl, rfl, rfl, by decide +kernel, rfl, by decide +kernel, by decide +kernel⟩ false c__law_draw hmg F.kp (FunD.bindsN F fun _ _ _ _ _ _ us hl => match us, hl with | [_,_], _ => rfl) (fun q hq => by cases hq)
def d__law_pick : He.DefD := ⟨("_law_pick", none), "_law_pick", "_law_pick", defArgs st__law_pick, defBody st__law_pick, defScope st__law_pick, [], []⟩
theorem n__law_pick (h : EnvOk (cc t__law_draw k_Chain) P w K mg base T k) (F : FunD K "_law_pick" "_law_pick" (defArgs st__law_pick) (defBody st__law_pick) (defScope st__law_pick) [] [] f fd) (hmg : mg ("_law_pick" : Str) = some (.ref f)) : EnvOk (cc t__law_pick k_Chain) P w K mg base T (k + 1) :=
  h.def_ (N := N__law_pick) (ps := [("_law_heap_here" : Str), ("_law_some" : Str)]) (kw := []) RzAll.nil F ⟨rfl, rfl, rfl, by decide +kernel, rfl, by decide +kernel, by decide +kernel⟩ false c__law_pick hmg F.kp (FunD.bindsN F fun _ _ _ _ _ _ us hl => match us, hl with | [_,_], _ => rfl) (fun q hq => by cases hq)
def d__law_low : He.DefD := ⟨("_law_low", none), "_law_low", "_law_low", defArgs st__law_low, defBody st__law_low, defScope st__law_low, [], []⟩
theorem n__law_low (h : EnvOk (cc t__law_pick k_Chain) P w K mg base T k) (F : FunD K "_law_low" "_law_low" (defArgs st__law_low) (defBody st__law_low) (defScope st__law_low) [] [] f fd) (hmg : mg ("_law_low" : Str) = some (.ref f)) : EnvOk (cc t__law_low k_Chain) P w K mg base T (k + 1) :=
  h.def_ (N := N__law_low) (ps := [("_law_top" : Str), ("_law_bottom" : Str)]) (kw := []) RzAll.nil F ⟨rfl, rfl, rfl, by decide +kernel, rfl, by decide +kernel, by decide +kernel⟩ true c__law_low hmg F.kp (FunD.bindsN F fun _ _ _ _ _ _ us hl => match us, hl with | [_,_], _ => rfl) (fun q hq => by cases hq)
def d__law_mul : He.DefD := ⟨("_law_mul", none), "_law_mul", "_law_mul", defArgs st__law_mul, defBody st__law_mul, defScope st__law_mul, [], []⟩
theorem n__law_mul (h : EnvOk (cc t__law_low k_Chain) P w K mg base T k) (F : FunD K "_law_mul" "_law_mul" (defArgs st__law_mul) (defBody st__law_mul) (defScope st__law_mul) [] [] f fd) (hmg : mg ("_law_mul" : Str) = some (.ref f)) : EnvOk (cc t__law_mul k_Chain) P w K mg base T (k + 1) :=
  h.def_ (N := N__law_mul) (ps := [("_law_one" : Str), ("_law_other" : Str)]) (kw := []) RzAll.nil F ⟨rfl, rfl, rfl, by decide +kernel, rfl, by decide +kernel, by decide +kernel⟩ true c__law_mul hmg F.kp (FunD.bindsN F fun _ _ _ _ _ _ us hl => match us, hl with | [_,_], _ => rfl) (fun q hq => by cases hq)
def d__law_less : He.DefD := ⟨("_law_less", none), "_law_less", "_law_less", defArgs st__law_less, defBody st__law_less, defScope st__law_less, [], []⟩
theorem n__law_less (h : EnvOk (cc t__law_mul k_Chain) P w K mg base T k) (F : FunD K "_law_less" "_law_less" (defArgs st__law_less) (defBody st__law_less) (defScope st__law_less) [] [] f fd) (hmg : mg ("_law_less" : Str) = some (.ref f)) : EnvOk (cc t__law_less k_Chain) P w K mg base T (k + 1) :=
  h.def_ (N := N__law_less) (ps := [("_law_one" : Str), ("_law_other" : Str)]) (kw := []) RzAll.nil F ⟨rfl, rfl, rfl, by decide +kernel, rfl, by decide +kernel, by decide +kernel⟩ true c__law_less hmg F.kp (FunD.bindsN F fun _ _ _ _ _ _ us hl => match us, hl with | [_,_], _ => rfl) (fun q hq => by cases hq)
def d__law_row : He.DefD := ⟨("_law_row", none), "_law_row", "_law_row", defArgs st__law_row, defBody st__law_row, defScope st__law_row, [], []⟩
theorem n__law_row (h : EnvOk (cc t__law_less k_Chain) P w K mg base T k) (F : FunD K "_law_row" "_law_row" (defArgs st__law_row) (defBody st__law_row) (defScope st__law_row) [] [] f fd) (hmg : mg ("_law_row" : Str) = some (.ref f)) : EnvOk (cc t__law_row k_Chain) P w K mg base T (k + 1) :=
  h.def_ (N := N__law_row) (ps := [("_law_heap_here" : Str), ("_law_count" : Str)]) (kw := []) RzAll.nil F ⟨rfl, rfl, rfl, by decide +kernel, rfl, by decide +kernel, by decide +kernel⟩ true c__law_row hmg F.kp (FunD.bindsN F fun _ _ _ _ _ _ us hl => match us, hl with | [_,_], _ => rfl) (fun q hq => by cases hq)
def d__law_parts : He.DefD := ⟨("_law_parts", none), "_law_parts", "_law_parts", defArgs st__law_parts, defBody st__law_parts, defScope st__law_parts, [], []⟩
theorem n__law_parts (h : EnvOk (cc t__law_row k_Chain) P w K mg base T k) (F : FunD K "_law_parts" "_law_parts" (defArgs st__law_parts) (defBody st__law_parts) (defScope st__law_parts) [] [] f fd) (hmg : mg ("_law_parts" : Str) = some (.ref f)) : EnvOk (cc t__law_parts k_Chain) P w K mg base T (k + 1) :=
  h.def_ (N := N__law_parts) (ps := [("_law_heap_here" : Str)]) (kw := []) RzAll.nil F ⟨rfl, rfl, rfl, by decide +kernel, rfl, by decide +kernel, by decide +kernel⟩ false c__law_parts hmg F.kp (FunD.bindsN F fun _ _ _ _ _ _ us hl => match us, hl with | [_], _ => rfl) (fun q hq => by cases hq)
def d__law_seen : He.DefD := ⟨("_law_seen", none), "_law_seen", "_law_seen", defArgs st__law_seen, defBody st__law_seen, defScope st__law_seen, [], []⟩
theorem n__law_seen (h : EnvOk (cc t__law_parts k_Chain) P w K mg base T k) (F : FunD K "_law_seen" "_law_seen" (defArgs st__law_seen) (defBody st__law_seen) (defScope st__law_seen) [] [] f fd) (hmg : mg ("_law_seen" : Str) = some (.ref f)) : EnvOk (cc t__law_seen k_Chain) P w K mg base T (k + 1) :=
  h.def_ (N := N__law_seen) (ps := [("_law_heap_here" : Str), ("_law_parts_here" : Str), ("_law_most" : Str)]) (kw := []) RzAll.nil F ⟨rfl, rfl, rfl, by decide +kernel, rfl, by decide +kernel, by decide +kernel⟩ false c__law_seen hmg F.kp (FunD.bindsN F fun _ _ _ _ _ _ us hl => match us, hl with | [_,_,_], _ => rfl) (fun q hq => by cases hq)
def d__law_courses : He.DefD := ⟨("_law_courses", none), "_law_courses", "_law_courses", defArgs st__law_courses, defBody st__law_courses, defScope st__law_courses, [], []⟩
theorem n__law_courses (h : EnvOk (cc t__law_seen k_Chain) P w K mg base T k) (F : FunD K "_law_courses" "_law_courses" (defArgs st__law_courses) (defBody st__law_courses) (defScope st__law_courses) [] [] f fd) (hmg : mg ("_law_courses" : Str) = some (.ref f)) : EnvOk (cc t__law_courses k_Chain) P w K mg base T (k + 1) :=
  h.def_ (N := N__law_courses) (ps := [("_law_count" : Str), ("_law_moments" : Str)]) (kw := []) RzAll.nil F ⟨rfl, rfl, rfl, by decide +kernel, rfl, by decide +kernel, by decide +kernel⟩ true c__law_courses hmg F.kp (FunD.bindsN F fun _ _ _ _ _ _ us hl => match us, hl with | [_,_], _ => rfl) (fun q hq => by cases hq)
def d__law_course_share : He.DefD := ⟨("_law_course_share", none), "_law_course_share", "_law_course_share", defArgs st__law_course_share, defBody st__law_course_share, defScope st__law_course_share, [], []⟩
theorem n__law_course_share (h : EnvOk (cc t__law_courses k_Chain) P w K mg base T k) (F : FunD K "_law_course_share" "_law_course_share" (defArgs st__law_course_share) (defBody st__law_course_share) (defScope st__law_course_share) [] [] f fd) (hmg : mg ("_law_course_share" : Str) = some (.ref f)) : EnvOk (cc t__law_course_share k_Chain) P w K mg base T (k + 1) :=
  h.def_ (N := N__law_course_share) (ps := [("_law_parts_here" : Str), ("_law_seen_here" : Str), ("_law_course" : Str)]) (kw := []) RzAll.nil F ⟨rfl, rfl, rfl, by decide +kernel, rfl, by decide +kernel, by decide +kernel⟩ true c__law_course_share hmg F.kp (FunD.bindsN F fun _ _ _ _ _ _ us hl => match us, hl with | [_,_,_], _ => rfl) (fun q hq => by cases hq)
def d__law_shares : He.DefD := ⟨("_law_shares", none), "_law_shares", "_law_shares", defArgs st__law_shares, defBody st__law_shares, defScope st__law_shares, [], []⟩
theorem n__law_shares (h : EnvOk (cc t__law_course_share k_Chain) P w K mg base T k) (F : FunD K "_law_shares" "_law_shares" (defArgs st__law_shares) (defBody st__law_shares) (defScope st__law_shares) [] [] f fd) (hmg : mg ("_law_shares" : Str) = some (.ref f)) : EnvOk (cc t__law_shares k_Chain) P w K mg base T (k + 1) :=
  h.def_ (N := N__law_shares) (ps := [("_law_parts_here" : Str), ("_law_seen_here" : Str)]) (kw := []) RzAll.nil F ⟨rfl, rfl, rfl, by decide +kernel, rfl, by decide +kernel, by decide +kernel⟩ true c__law_shares hmg F.kp (FunD.bindsN F fun _ _ _ _ _ _ us hl => match us, hl with | [_,_], _ => rfl) (fun q hq => by cases hq)
def d__law_ranked : He.DefD := ⟨("_law_ranked", none), "_law_ranked", "_law_ranked", defArgs st__law_ranked, defBody st__law_ranked, defScope st__law_ranked, [], []⟩
theorem n__law_ranked (h : EnvOk (cc t__law_shares k_Chain) P w K mg base T k) (F : FunD K "_law_ranked" "_law_ranked" (defArgs st__law_ranked) (defBody st__law_ranked) (defScope st__law_ranked) [] [] f fd) (hmg : mg ("_law_ranked" : Str) = some (.ref f)) : EnvOk (cc t__law_ranked k_Chain) P w K mg base T (k + 1) :=
  h.def_ (N := N__law_ranked) (ps := [("_law_parts_here" : Str), ("_law_seen_here" : Str)]) (kw := []) RzAll.nil F ⟨rfl, rfl, rfl, by decide +kernel, rfl, by decide +kernel, by decide +kernel⟩ true c__law_ranked hmg F.kp (FunD.bindsN F fun _ _ _ _ _ _ us hl => match us, hl with | [_,_], _ => rfl) (fun q hq => by cases hq)
def d__law_heard : He.DefD := ⟨("_law_heard", none), "_law_heard", "_law_heard", defArgs st__law_heard, defBody st__law_heard, defScope st__law_heard, [], []⟩
theorem n__law_heard (hx : XcOk xcF T K mg) (h : EnvOk (cc t__law_ranked k_Chain) P w K mg base T k) (F : FunD K "_law_heard" "_law_heard" (defArgs st__law_heard) (defBody st__law_heard) (defScope st__law_heard) [] [] f fd) (hmg : mg ("_law_heard" : Str) = some (.ref f)) : EnvOk (cc t__law_heard k_Chain) P w K mg base T (k + 1) :=
  EnvOk.defT hx h (N := N__law_heard) (ps := [("_law_chain" : Str), ("_law_seen_here" : Str), ("_law_many" : Str)]) (kw := []) RzAll.nil F ⟨rfl, rfl, rfl, by decide +kernel, rfl, by decide +kernel, by decide +kernel⟩ true c__law_heard hmg F.kp (FunD.bindsN F fun _ _ _ _ _ _ us hl => match us, hl with | [_,_,_], _ => rfl) (fun q hq => by cases hq)
def d__law_courses_right : He.DefD := ⟨("_law_courses_right", none), "_law_courses_right", "_law_courses_right", defArgs st__law_courses_right, defBody st__law_courses_right, defScope st__law_courses_right, [], []⟩
theorem n__law_courses_right (h : EnvOk (cc t__law_heard k_Chain) P w K mg base T k) (F : FunD K "_law_courses_right" "_law_courses_right" (defArgs st__law_courses_right) (defBody st__law_courses_right) (defScope st__law_courses_right) [] [] f fd) (hmg : mg ("_law_courses_right" : Str) = some (.ref f)) : EnvOk (cc t__law_courses_right k_Chain) P w K mg base T (k + 1) :=
  h.def_ (N := N__law_courses_right) (ps := [("_law_heap_here" : Str), ("_law_parts_here" : Str), ("_law_seen_here" : Str)]) (kw := []) RzAll.nil F ⟨rfl, rfl, rfl, by decide +kernel, rfl, by decide +kernel, by decide +kernel⟩ false c__law_courses_right hmg F.kp (FunD.bindsN F fun _ _ _ _ _ _ us hl => match us, hl with | [_,_,_], _ => rfl) (fun q hq => by cases hq)
def d__law_power : He.DefD := ⟨("_law_power", none), "_law_power", "_law_power", defArgs st__law_power, defBody st__law_power, defScope st__law_power, [], []⟩
theorem n__law_power (h : EnvOk (cc t__law_courses_right k_Chain) P w K mg base T k) (F : FunD K "_law_power" "_law_power" (defArgs st__law_power) (defBody st__law_power) (defScope st__law_power) [] [] f fd) (hmg : mg ("_law_power" : Str) = some (.ref f)) : EnvOk (cc t__law_power k_Chain) P w K mg base T (k + 1) :=
  h.def_ (N := N__law_power) (ps := [("_law_base" : Str), ("_law_times" : Str)]) (kw := []) RzAll.nil F ⟨rfl, rfl, rfl, by decide +kernel, rfl, by decide +kernel, by decide +kernel⟩ true c__law_power hmg F.kp (FunD.bindsN F fun _ _ _ _ _ _ us hl => match us, hl with | [_,_], _ => rfl) (fun q hq => by cases hq)
def d__law_long_right : He.DefD := ⟨("_law_long_right", none), "_law_long_right", "_law_long_right", defArgs st__law_long_right, defBody st__law_long_right, defScope st__law_long_right, [], []⟩
theorem n__law_long_right (h : EnvOk (cc t__law_power k_Chain) P w K mg base T k) (F : FunD K "_law_long_right" "_law_long_right" (defArgs st__law_long_right) (defBody st__law_long_right) (defScope st__law_long_right) [] [] f fd) (hmg : mg ("_law_long_right" : Str) = some (.ref f)) : EnvOk (cc t__law_long_right k_Chain) P w K mg base T (k + 1) :=
  h.def_ (N := N__law_long_right) (ps := [("_law_heap_here" : Str)]) (kw := []) RzAll.nil F ⟨rfl, rfl, rfl, by decide +kernel, rfl, by decide +kernel, by decide +kernel⟩ false c__law_long_right hmg F.kp (FunD.bindsN F fun _ _ _ _ _ _ us hl => match us, hl with | [_], _ => rfl) (fun q hq => by cases hq)
def d_law : He.DefD := ⟨("law", none), "law", "law", defArgs st_law, defBody st_law, defScope st_law, [], []⟩
theorem n_law (h : EnvOk (cc t__law_long_right k_Chain) P w K mg base T k) (F : FunD K "law" "law" (defArgs st_law) (defBody st_law) (defScope st_law) [] [] f fd) (hmg : mg ("law" : Str) = some (.ref f)) : EnvOk (cc t_law k_Chain) P w K mg base T (k + 1) :=
  h.def_ (N := N_law) (ps := [("_law_script" : Str)]) (kw := []) RzAll.nil F ⟨rfl, rfl, rfl, by decide +kernel, rfl, by decide +kernel, by decide +kernel⟩ false c_law hmg F.kp (FunD.bindsN F fun _ _ _ _ _ _ us hl => match us, hl with | [_], _ => rfl) (fun q hq => by cases hq)
end

set_option maxHeartbeats 0
def dx_InvalidNumber : DefC := ⟨⟨("InvalidNumber", some "__init__"), "__init__", "InvalidNumber.__init__", defArgs (meth 3 0), defBody (meth 3 0), defScope (meth 3 0), [], []⟩, ["__class__"]⟩
def fnAll : List He.DefD := [d_is_integer, d_is_number, d_shared_divisor, d_common_bottom, d_fraction_of, d_is_fraction, d_timed, d_is_less, d_total_of_all, d_are_weights, d_is_row, d_are_rows, d_Chain_init, d_cases_in, d_show_at, d_ranked_pairs, d_entry_share, d_course_share, d_need_many, d_best_endings, d_best_courses, d__law_heap, d__law_draw, d__law_pick, d__law_low, d__law_mul, d__law_less, d__law_row, d__law_parts, d__law_seen, d__law_courses, d__law_course_share, d__law_shares, d__law_ranked, d__law_heard, d__law_courses_right, d__law_power, d__law_long_right, d_law]
def faAll : List He.Fa := [.glo "is_integer", .glo "is_number", .glo "shared_divisor", .glo "common_bottom", .glo "fraction_of", .glo "is_fraction", .glo "timed", .glo "is_less", .glo "total_of_all", .glo "are_weights", .glo "is_row", .glo "are_rows", .glo "Chain", .glo "cases_in", .glo "show_at", .glo "ranked_pairs", .glo "entry_share", .glo "course_share", .glo "need_many", .glo "best_endings", .glo "best_courses", .glo "_law_heap", .glo "_law_draw", .glo "_law_pick", .glo "_law_low", .glo "_law_mul", .glo "_law_less", .glo "_law_row", .glo "_law_parts", .glo "_law_seen", .glo "_law_courses", .glo "_law_course_share", .glo "_law_shares", .glo "_law_ranked", .glo "_law_heard", .glo "_law_courses_right", .glo "_law_power", .glo "_law_long_right", .glo "law", .free "len", .free "abs", .free "int", .free "sum", .free "all", .free "max", .free "tuple", .free "list", .free "isinstance", .free "repr", .free "range", .free "enumerate", .free "sorted", .free "bool", .glo "ZERO", .glo "ONE", .int "MOST_COURSES" 1000, .cls "Chain", .mkr "Chain", .noat "Chain" "start", .noat "Chain" "steps", .noat "Chain" "shows", .glo "InvalidNumber", .glo "NetError"]
def dxAll : List DefC := [dx_InvalidNumber]
structure ExF (K : PySem.W.Frag) : Prop where
  e0 : (He.tupB K "ZERO" [.int 0, .int 1]) = true
  e1 : (He.tupB K "ONE" [.int 1, .int 1]) = true
  e2 : (EXN.exnB "/claim/cut.py" K "InvalidNumber" "word" && EXN.exrB K (He.ga K "InvalidNumber")) = true
  e3 : (EXN.exqB K "InvalidNumber" "InvalidNumber" true) = true
  e4 : (EXN.exqB K "InvalidNumber" "NetError" true) = true
def exAll (K : PySem.W.Frag) : Bool := (He.tupB K "ZERO" [.int 0, .int 1]) && ((He.tupB K "ONE" [.int 1, .int 1]) && ((EXN.exnB "/claim/cut.py" K "InvalidNumber" "word" && EXN.exrB K (He.ga K "InvalidNumber")) && ((EXN.exqB K "InvalidNumber" "InvalidNumber" true) && ((EXN.exqB K "InvalidNumber" "NetError" true)))))
theorem exAll_ok {K : PySem.W.Frag} (h : exAll K = true) : ExF K := by
  unfold exAll at h
  obtain ⟨e0, h⟩ := He.ba h
  obtain ⟨e1, h⟩ := He.ba h
  obtain ⟨e2, h⟩ := He.ba h
  obtain ⟨e3, h⟩ := He.ba h
  exact ⟨e0, e1, e2, e3, h⟩
abbrev R : PySem.W.OpenRow := PySem.W.OpenLaw.row PySem.Challenge.rw_allworlds_k71_whole_best_courses
abbrev hk : PySem.W.Hook := hookX 4 faAll fnAll dxAll exAll
def ob (s : PySem.W.SharedT) : AlX := obsXG 4 faAll fnAll dxAll exAll (HandSHeadRun.getT s)
theorem ob_eq (s : PySem.W.SharedT) : ob s = hk.obs s.abs := obsXG_eq (HandSHeadRun.getT_eq s)
def loose0 : List Str := [("NetError" : Str), ("InvalidTable" : Str), ("InvalidNumber" : Str), ("is_integer" : Str), ("is_number" : Str), ("ZERO" : Str), ("ONE" : Str), ("shared_divisor" : Str), ("common_bottom" : Str), ("fraction_of" : Str), ("is_fraction" : Str), ("timed" : Str), ("is_less" : Str), ("total_of_all" : Str), ("are_weights" : Str), ("is_row" : Str), ("are_rows" : Str), ("Chain" : Str), ("cases_in" : Str), ("show_at" : Str), ("ranked_pairs" : Str), ("MOST_COURSES" : Str), ("entry_share" : Str), ("course_share" : Str), ("need_many" : Str), ("best_endings" : Str), ("best_courses" : Str), ("_law_heap" : Str), ("_law_draw" : Str), ("_law_pick" : Str)]
def loose1 : List Str := [("_law_low" : Str), ("_law_mul" : Str), ("_law_less" : Str), ("_law_row" : Str), ("_law_parts" : Str), ("_law_seen" : Str), ("_law_courses" : Str), ("_law_course_share" : Str), ("_law_shares" : Str), ("_law_ranked" : Str), ("_law_heard" : Str), ("_law_courses_right" : Str), ("_law_power" : Str), ("_law_long_right" : Str)]
def loose : List Str := loose0 ++ loose1
theorem run (w : World) : HandSHeadRun.RunEq R (PySem.W.view R.prog [52]) hk ob 4000 loose w := by
  intro os
  kernel_rfl
set_option maxHeartbeats 4000000
def T0 (K : PySem.W.Frag) : Tbl := ⟨K, fun c => if c = 0 then some (He.ga K "Chain") else none, fun c => if c = 1 then some (He.ga K "InvalidNumber", ("word" : Str)) else none, []⟩
section
variable {P : Program} {w : World} {K : PySem.W.Frag} {mg : Str → Option Value} {base h : Heap}
theorem env0 (X : K.In h) (G : h.Ns mainGlobals mg) (c : SaysX faAll fnAll dxAll exAll K) : EnvOk (cc [] []) P w K mg base (T0 K) 0 := by
  have hx := exAll_ok c.ex
  refine EnvOk.start rfl rfl rfl (fun x d m => ?_) (fun x m => ?_) (fun q m => ?_)
  · have m : (x, d) ∈ csF := m
    unfold csF at m
    simp only [List.mem_cons, List.not_mem_nil, or_false, Prod.mk.injEq] at m
    rcases m with ⟨rfl, rfl⟩ | ⟨rfl, rfl⟩ | ⟨rfl, rfl⟩
    · exact ⟨.ref (He.ga K "ZERO"), _, He.glo_ok X G (c.d.fact 53 (f := .glo "ZERO") rfl), rfl, fun hid H al => .tup (He.tupB_ok hx.e0 H) (.cons (.int 0) (.cons (.int 1) .nil))⟩
    · exact ⟨.ref (He.ga K "ONE"), _, He.glo_ok X G (c.d.fact 54 (f := .glo "ONE") rfl), rfl, fun hid H al => .tup (He.tupB_ok hx.e1 H) (.cons (.int 1) (.cons (.int 1) .nil))⟩
    · obtain ⟨t, ht⟩ := He.int_ok X G (c.d.fact 55 (f := .int "MOST_COURSES" 1000) rfl)
      exact ⟨.int 1000, _, ht, ⟨t, rfl⟩, fun hid H al => .int 1000⟩
  · have m : x ∈ blF := m
    unfold blF at m
    simp only [List.mem_cons, List.not_mem_nil, or_false] at m
    rcases m with rfl | rfl | rfl | rfl | rfl | rfl | rfl | rfl | rfl | rfl | rfl | rfl | rfl | rfl
    · exact He.free_ok X G (c.d.fact 39 (f := .free "len") rfl)
    · exact He.free_ok X G (c.d.fact 40 (f := .free "abs") rfl)
    · exact He.free_ok X G (c.d.fact 41 (f := .free "int") rfl)
    · exact He.free_ok X G (c.d.fact 42 (f := .free "sum") rfl)
    · exact He.free_ok X G (c.d.fact 43 (f := .free "all") rfl)
    · exact He.free_ok X G (c.d.fact 44 (f := .free "max") rfl)
    · exact He.free_ok X G (c.d.fact 45 (f := .free "tuple") rfl)
    · exact He.free_ok X G (c.d.fact 46 (f := .free "list") rfl)
    · exact He.free_ok X G (c.d.fact 47 (f := .free "isinstance") rfl)
    · exact He.free_ok X G (c.d.fact 48 (f := .free "repr") rfl)
    · exact He.free_ok X G (c.d.fact 49 (f := .free "range") rfl)
    · exact He.free_ok X G (c.d.fact 50 (f := .free "enumerate") rfl)
    · exact He.free_ok X G (c.d.fact 51 (f := .free "sorted") rfl)
    · exact He.free_ok X G (c.d.fact 52 (f := .free "bool") rfl)
  · have m : q ∈ clsF := m
    unfold clsF at m
    simp only [List.mem_cons, List.not_mem_nil, or_false] at m
    rcases m with rfl
    · refine ⟨fun C hC => ?_⟩
      have e : He.ga K "Chain" = C := Option.some.inj hC
      subst e
      refine ⟨He.cls_ok (c.d.fact 56 (f := .cls "Chain") rfl), fun f hf => ?_⟩
      simp only [List.mem_cons, List.not_mem_nil, or_false] at hf
      rcases hf with rfl | rfl | rfl
      · exact He.noat_ok (c.d.fact 58 (f := .noat "Chain" "start") rfl)
      · exact He.noat_ok (c.d.fact 59 (f := .noat "Chain" "steps") rfl)
      · exact He.noat_ok (c.d.fact 60 (f := .noat "Chain" "shows") rfl)
theorem xc_ok (X : K.In h) (G : h.Ns mainGlobals mg) (c : SaysX faAll fnAll dxAll exAll K) : XcOk xcF (T0 K) K mg := by
  have hx := exAll_ok c.ex
  refine ⟨fun k C f e => ?_, fun x l m => ?_⟩
  · have e : (if k = 1 then some (He.ga K "InvalidNumber", ("word" : Str)) else none) = some (C, f) := e
    split at e
    · rename_i hk
      subst hk
      cases e
      obtain ⟨q1, q2⟩ := EXN.exrB_ok (He.ba hx.e2).2
      refine ⟨rfl, q1, q2, ?_⟩
      obtain ⟨_, z⟩ := He.ba (He.ba hx.e2).1
      obtain ⟨_, z⟩ := He.ba z
      exact He.eqO_ok (He.ba z).1
    · cases e
  · have m : (x, l) ∈ xcF.hs := m
    unfold xcF at m
    simp only [List.mem_cons, List.not_mem_nil, or_false, Prod.mk.injEq] at m
    rcases m with ⟨rfl, rfl⟩ | ⟨rfl, rfl⟩
    · refine ⟨by decide, _, He.glo_ok X G (c.d.fact 61 (f := .glo "InvalidNumber") rfl), fun k C f b e hb => ?_⟩
      have e : (if k = 1 then some (He.ga K "InvalidNumber", ("word" : Str)) else none) = some (C, f) := e
      split at e
      · rename_i hk
        subst hk
        cases e
        have hb : true = b := Option.some.inj hb
        subst hb
        exact EXN.exqB_ok hx.e3
      · cases e
    · refine ⟨by decide, _, He.glo_ok X G (c.d.fact 62 (f := .glo "NetError") rfl), fun k C f b e hb => ?_⟩
      have e : (if k = 1 then some (He.ga K "InvalidNumber", ("word" : Str)) else none) = some (C, f) := e
      split at e
      · rename_i hk
        subst hk
        cases e
        have hb : true = b := Option.some.inj hb
        subst hb
        exact EXN.exqB_ok hx.e4
      · cases e
theorem xb_InvalidNumber : EXN.ExBody ("word" : Str) dx_InvalidNumber.d.params dx_InvalidNumber.d.body dx_InvalidNumber.d.scope :=
  ⟨⟨_, _, _, _, rfl⟩, ⟨_, _, _, _, _, _, _, _, _, _, _, _, rfl, fun _ => rfl⟩, fun _ _ _ _ _ _ _ _ _ _ => rfl, rfl, rfl, rfl, rfl, rfl, rfl, rfl, by decide, by decide, by decide⟩
theorem xt_InvalidNumber (X : K.In h) (G : h.Ns mainGlobals mg) (c : SaysX faAll fnAll dxAll exAll K) : EXN.ExTxt R.prog K mg (He.ga K ("InvalidNumber" : Str)) (He.ma K (He.ga K ("InvalidNumber" : Str)) "__init__") ("InvalidNumber" : Str) ("word" : Str) := by
  have hx := exAll_ok c.ex
  have hc := c.cf
  unfold dxAll at hc
  simp only [List.map_cons, List.map_nil, List.cons.injEq, and_true] at hc
  exact EXN.exn_txt (d := dx_InvalidNumber) X G rfl rfl rfl hc (He.ba hx.e2).1 (file := "/claim/cut.py") (by decide +kernel) (by decide +kernel) xb_InvalidNumber
theorem rz1_InvalidNumber {k : Nat} (X : K.In h) (G : h.Ns mainGlobals mg) (c : SaysX faAll fnAll dxAll exAll K) : RzAll [(("InvalidNumber" : Str), 1)] R.prog w K mg base (T0 K) k := rz_one (C := He.ga K ("InvalidNumber" : Str)) (fld := ("word" : Str)) rfl rfl (xt_InvalidNumber X G c) (by decide)
end
theorem env_all {w : World} {K : PySem.W.Frag} {mg : Str → Option Value} {base h : Heap} (X : K.In h) (G : h.Ns mainGlobals mg) (c : SaysX faAll fnAll dxAll exAll K) : EnvOk (cc t__law_long_right k_Chain) R.prog w K mg base (T0 K) 39 := by
  have e0 := env0 (P := R.prog) (w := w) (base := base) X G c
  obtain ⟨fd0, F0⟩ := c.d.def_ 0 (d := d_is_integer) rfl
  have e1 := n_is_integer e0 F0 (He.glo_ok X G (c.d.fact 0 (f := .glo "is_integer") rfl))
  obtain ⟨fd1, F1⟩ := c.d.def_ 1 (d := d_is_number) rfl
  have e2 := n_is_number e1 F1 (He.glo_ok X G (c.d.fact 1 (f := .glo "is_number") rfl))
  obtain ⟨fd2, F2⟩ := c.d.def_ 2 (d := d_shared_divisor) rfl
  have e3 := n_shared_divisor e2 F2 (He.glo_ok X G (c.d.fact 2 (f := .glo "shared_divisor") rfl))
  obtain ⟨fd3, F3⟩ := c.d.def_ 3 (d := d_common_bottom) rfl
  have e4 := n_common_bottom e3 F3 (He.glo_ok X G (c.d.fact 3 (f := .glo "common_bottom") rfl))
  obtain ⟨fd4, F4⟩ := c.d.def_ 4 (d := d_fraction_of) rfl
  have e5 := n_fraction_of e4 F4 (He.glo_ok X G (c.d.fact 4 (f := .glo "fraction_of") rfl))
  obtain ⟨fd5, F5⟩ := c.d.def_ 5 (d := d_is_fraction) rfl
  have e6 := n_is_fraction e5 F5 (He.glo_ok X G (c.d.fact 5 (f := .glo "is_fraction") rfl))
  obtain ⟨fd6, F6⟩ := c.d.def_ 6 (d := d_timed) rfl
  have e7 := n_timed e6 F6 (He.glo_ok X G (c.d.fact 6 (f := .glo "timed") rfl))
  obtain ⟨fd7, F7⟩ := c.d.def_ 7 (d := d_is_less) rfl
  have e8 := n_is_less e7 F7 (He.glo_ok X G (c.d.fact 7 (f := .glo "is_less") rfl))
  obtain ⟨fd8, F8⟩ := c.d.def_ 8 (d := d_total_of_all) rfl
  have e9 := n_total_of_all e8 F8 (He.glo_ok X G (c.d.fact 8 (f := .glo "total_of_all") rfl))
  obtain ⟨fd9, F9⟩ := c.d.def_ 9 (d := d_are_weights) rfl
  have e10 := n_are_weights e9 F9 (He.glo_ok X G (c.d.fact 9 (f := .glo "are_weights") rfl))
  obtain ⟨fd10, F10⟩ := c.d.def_ 10 (d := d_is_row) rfl
  have e11 := n_is_row e10 F10 (He.glo_ok X G (c.d.fact 10 (f := .glo "is_row") rfl))
  obtain ⟨fd11, F11⟩ := c.d.def_ 11 (d := d_are_rows) rfl
  have e12 := n_are_rows e11 F11 (He.glo_ok X G (c.d.fact 11 (f := .glo "are_rows") rfl))
  obtain ⟨fd12, F12⟩ := c.d.def_ 12 (d := d_Chain_init) rfl
  have e13 := n_Chain_init e12 F12 (He.mkr_ok (c.d.fact 57 (f := .mkr "Chain") rfl)) (He.glo_ok X G (c.d.fact 12 (f := .glo "Chain") rfl)) rfl
  obtain ⟨fd13, F13⟩ := c.d.def_ 13 (d := d_cases_in) rfl
  have e14 := n_cases_in e13 F13 (He.glo_ok X G (c.d.fact 13 (f := .glo "cases_in") rfl))
  obtain ⟨fd14, F14⟩ := c.d.def_ 14 (d := d_show_at) rfl
  have e15 := n_show_at e14 F14 (He.glo_ok X G (c.d.fact 14 (f := .glo "show_at") rfl))
  obtain ⟨fd15, F15⟩ := c.d.def_ 15 (d := d_ranked_pairs) rfl
  have e16 := n_ranked_pairs e15 F15 (He.glo_ok X G (c.d.fact 15 (f := .glo "ranked_pairs") rfl))
  obtain ⟨fd16, F16⟩ := c.d.def_ 16 (d := d_entry_share) rfl
  have e17 := n_entry_share e16 F16 (He.glo_ok X G (c.d.fact 16 (f := .glo "entry_share") rfl))
  obtain ⟨fd17, F17⟩ := c.d.def_ 17 (d := d_course_share) rfl
  have e18 := n_course_share e17 F17 (He.glo_ok X G (c.d.fact 17 (f := .glo "course_share") rfl))
  obtain ⟨fd18, F18⟩ := c.d.def_ 18 (d := d_need_many) rfl
  have e19 := n_need_many e18 (rz1_InvalidNumber X G c) F18 (He.glo_ok X G (c.d.fact 18 (f := .glo "need_many") rfl))
  obtain ⟨fd19, F19⟩ := c.d.def_ 19 (d := d_best_endings) rfl
  have e20 := n_best_endings e19 F19 (He.glo_ok X G (c.d.fact 19 (f := .glo "best_endings") rfl))
  obtain ⟨fd20, F20⟩ := c.d.def_ 20 (d := d_best_courses) rfl
  have e21 := n_best_courses e20 F20 (He.glo_ok X G (c.d.fact 20 (f := .glo "best_courses") rfl))
  obtain ⟨fd21, F21⟩ := c.d.def_ 21 (d := d__law_heap) rfl
  have e22 := n__law_heap e21 F21 (He.glo_ok X G (c.d.fact 21 (f := .glo "_law_heap") rfl))
  obtain ⟨fd22, F22⟩ := c.d.def_ 22 (d := d__law_draw) rfl
  have e23 := n__law_draw e22 F22 (He.glo_ok X G (c.d.fact 22 (f := .glo "_law_draw") rfl))
  obtain ⟨fd23, F23⟩ := c.d.def_ 23 (d := d__law_pick) rfl
  have e24 := n__law_pick e23 F23 (He.glo_ok X G (c.d.fact 23 (f := .glo "_law_pick") rfl))
  obtain ⟨fd24, F24⟩ := c.d.def_ 24 (d := d__law_low) rfl
  have e25 := n__law_low e24 F24 (He.glo_ok X G (c.d.fact 24 (f := .glo "_law_low") rfl))
  obtain ⟨fd25, F25⟩ := c.d.def_ 25 (d := d__law_mul) rfl
  have e26 := n__law_mul e25 F25 (He.glo_ok X G (c.d.fact 25 (f := .glo "_law_mul") rfl))
  obtain ⟨fd26, F26⟩ := c.d.def_ 26 (d := d__law_less) rfl
  have e27 := n__law_less e26 F26 (He.glo_ok X G (c.d.fact 26 (f := .glo "_law_less") rfl))
  obtain ⟨fd27, F27⟩ := c.d.def_ 27 (d := d__law_row) rfl
  have e28 := n__law_row e27 F27 (He.glo_ok X G (c.d.fact 27 (f := .glo "_law_row") rfl))
  obtain ⟨fd28, F28⟩ := c.d.def_ 28 (d := d__law_parts) rfl
  have e29 := n__law_parts e28 F28 (He.glo_ok X G (c.d.fact 28 (f := .glo "_law_parts") rfl))
  obtain ⟨fd29, F29⟩ := c.d.def_ 29 (d := d__law_seen) rfl
  have e30 := n__law_seen e29 F29 (He.glo_ok X G (c.d.fact 29 (f := .glo "_law_seen") rfl))
  obtain ⟨fd30, F30⟩ := c.d.def_ 30 (d := d__law_courses) rfl
  have e31 := n__law_courses e30 F30 (He.glo_ok X G (c.d.fact 30 (f := .glo "_law_courses") rfl))
  obtain ⟨fd31, F31⟩ := c.d.def_ 31 (d := d__law_course_share) rfl
  have e32 := n__law_course_share e31 F31 (He.glo_ok X G (c.d.fact 31 (f := .glo "_law_course_share") rfl))
  obtain ⟨fd32, F32⟩ := c.d.def_ 32 (d := d__law_shares) rfl
  have e33 := n__law_shares e32 F32 (He.glo_ok X G (c.d.fact 32 (f := .glo "_law_shares") rfl))
  obtain ⟨fd33, F33⟩ := c.d.def_ 33 (d := d__law_ranked) rfl
  have e34 := n__law_ranked e33 F33 (He.glo_ok X G (c.d.fact 33 (f := .glo "_law_ranked") rfl))
  obtain ⟨fd34, F34⟩ := c.d.def_ 34 (d := d__law_heard) rfl
  have e35 := n__law_heard (xc_ok X G c) e34 F34 (He.glo_ok X G (c.d.fact 34 (f := .glo "_law_heard") rfl))
  obtain ⟨fd35, F35⟩ := c.d.def_ 35 (d := d__law_courses_right) rfl
  have e36 := n__law_courses_right e35 F35 (He.glo_ok X G (c.d.fact 35 (f := .glo "_law_courses_right") rfl))
  obtain ⟨fd36, F36⟩ := c.d.def_ 36 (d := d__law_power) rfl
  have e37 := n__law_power e36 F36 (He.glo_ok X G (c.d.fact 36 (f := .glo "_law_power") rfl))
  obtain ⟨fd37, F37⟩ := c.d.def_ 37 (d := d__law_long_right) rfl
  have e38 := n__law_long_right e37 F37 (He.glo_ok X G (c.d.fact 37 (f := .glo "_law_long_right") rfl))
  exact e38
end DLk71
open PySem PySem.W PySem.Calls PyProof.Rows
theorem PySem.Challenge.cw_allworlds_k71_whole_best_courses_holds : PySem.Challenge.rw_allworlds_k71_whole_best_courses.Holds := by
  w_on; o_law
  refine HandSHeadRun.head_any (r := OpenLaw.row PySem.Challenge.rw_allworlds_k71_whole_best_courses) (q := view (OpenLaw.row PySem.Challenge.rw_allworlds_k71_whole_best_courses).prog [52]) (H := DLk71.hk) (ob := DLk71.ob) (M := 4000) (loose := DLk71.loose) (d := HandSHeadRun.topDef (OpenLaw.row PySem.Challenge.rw_allworlds_k71_whole_best_courses).prog 52) (kwd := []) DLk71.ob_eq
    (by kernel_rfl) (fun s => by kernel_rfl) DLk71.run (by kernel_rfl) (by kernel_rfl) (by kernel_rfl) (by rfl) (by first | assumption | decide +kernel) (by decide +kernel) ⟨rfl, rfl, rfl, rfl, rfl, by decide +kernel⟩ ?hw ?hc
  case hw => w_witness2
  case hc =>
    refine DL.walkG (l := PySem.Challenge.rw_allworlds_k71_whole_best_courses) (n := 63) (k := 40) (x := "_law_script") rfl (by decide) (by kernel_rfl) ⟨rfl, by decide, by decide⟩ ?F
    intro w mg fa h Y G hmg0
    obtain ⟨K, KX, c⟩ := Y
    have hmg : mg ("law" : PySem.Str) = some (.ref fa) := by
      have e : (HandSHeadRun.topDef (OpenLaw.row PySem.Challenge.rw_allworlds_k71_whole_best_courses).prog 52).name = ("law" : PySem.Str) := by kernel_rfl
      rw [← e]
      exact hmg0
    obtain ⟨fd, F⟩ := c.d.def_ 38 (d := DLk71.d_law) rfl
    have e := hmg.symm.trans (He.glo_ok KX G (c.d.fact 38 (f := .glo "law") rfl))
    cases e
    have b := L2.FunD.bindsA (ps := ["_law_script"]) F fun _ _ _ _ _ _ us hl => match us, hl with | [_], _ => rfl
    refine ⟨K, DLk71.T0 K, fd, DLk71.F_law, KX, rfl, rfl, fun s v => b s [v] rfl, fun ns _ => DLk71.law_eq ns, fun base hK hG => ?_⟩
    exact DL.def_ok (N := DLk71.N_law) (ps := ["_law_script"]) (DLk71.env_all (w := w) (base := base) KX G c) DL.RzAll.nil F ⟨rfl, rfl, rfl, by decide +kernel, rfl, by decide +kernel, by decide +kernel⟩ false DLk71.c_law []

