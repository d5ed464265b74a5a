import PyProof.Rows.All
import Wide.All
import OpenK.AllK
import Wide.FinOn
import HandS.ForMost
import HandS.Deep
import KE.SortData
import HandS.TupAny
import HandS.TupMul
import HandS.Style
import HandS.IsInst
import HandS.Conv
import HandS.Wide
import HandS.Defaults
import PySem.Challenge.RW_liarschange_k06_patterns_are_lots_of_two
set_option Elab.async false
set_option linter.all false
set_option maxRecDepth 100000
/-! Vx: a value layer over HandS: data as trees, expressions and statements as functions of trees. -/
namespace Vx
open PySem L2

/-- data as trees; frz: a list that is never written (the script); loc n: the n-th shared list -/
inductive D where
  | non | bl (b : Bool) | int (i : Int) | str (s : Str) | tup (l : List D) | lst (l : List D) | frz (l : List D) | loc (n : Nat)

/-- the shared lists' addresses, the lists that are never written any more, the heap -/
structure Wd where
  al : List Addr
  S : Addr → Prop
  H : Hp

mutual
inductive Rep (K : PySem.W.Frag) (w : Wd) : V → D → Prop
  | non : Rep K w .non .non
  | bl (b : Bool) : Rep K w (.bl b) (.bl b)
  | int (i : Int) : Rep K w (.int i) (.int i)
  | str (s : Str) : Rep K w (.str s) (.str s)
  | tup {a : Addr} {vs : List V} {ds : List D} : SqT K w.H a vs → RepL K w vs ds → Rep K w (.ref a) (.tup ds)
  | lst {a : Addr} {vs : List V} {ds : List D} : w.S a → w.H a = some (.lst vs) → RepL K w vs ds → Rep K w (.ref a) (.lst ds)
  | frz {a : Addr} {vs : List V} {ds : List D} {o : Obj} : w.H a = some (.frz o (.lst vs)) → RepL K w vs ds → Rep K w (.ref a) (.frz ds)
  | frk {a : Addr} {vs : List V} {ds : List D} {o : Obj} {its : Array Value} {n : Nat} : K.lookup a = some o → o.cls = .type "list" → o.dict = none → o.data = .seq its n → its.size ≤ sizeLine → Vals vs its.toList → RepL K w vs ds → Rep K w (.ref a) (.frz ds)
  | loc {n : Nat} {a : Addr} : w.al[n]? = some a → Rep K w (.ref a) (.loc n)
inductive RepL (K : PySem.W.Frag) (w : Wd) : List V → List D → Prop
  | nil : RepL K w [] []
  | cons {v : V} {vs : List V} {d : D} {ds : List D} : Rep K w v d → RepL K w vs ds → RepL K w (v :: vs) (d :: ds)
end

section
variable {K : PySem.W.Frag} {w w' : Wd}
mutual
theorem Rep.imp (hT : ∀ a xs, SqT K w.H a xs → SqT K w'.H a xs) (hL : ∀ a xs, w.S a → w.H a = some (.lst xs) → w'.S a ∧ w'.H a = some (.lst xs))
    (hF : ∀ a o xs, w.H a = some (.frz o (.lst xs)) → w'.H a = some (.frz o (.lst xs))) (hA : ∀ (n : Nat) (a : Addr), w.al[n]? = some a → w'.al[n]? = some a) :
    ∀ (d : D) (v : V), Rep K w v d → Rep K w' v d
  | .non, _, h => by cases h; exact .non
  | .bl b, _, h => by cases h; exact .bl b
  | .int i, _, h => by cases h; exact .int i
  | .str s, _, h => by cases h; exact .str s
  | .tup ds, _, h => by cases h with | tup h1 h2 => exact .tup (hT _ _ h1) (RepL.imp hT hL hF hA ds _ h2)
  | .lst ds, _, h => by cases h with | lst h0 h1 h2 => exact .lst (hL _ _ h0 h1).1 (hL _ _ h0 h1).2 (RepL.imp hT hL hF hA ds _ h2)
  | .frz ds, _, h => by
    cases h with
    | frz h1 h2 => exact .frz (hF _ _ _ h1) (RepL.imp hT hL hF hA ds _ h2)
    | frk a b c d e f h2 => exact .frk a b c d e f (RepL.imp hT hL hF hA ds _ h2)
  | .loc n, _, h => by cases h with | loc h1 => exact .loc (hA _ _ h1)
theorem RepL.imp (hT : ∀ a xs, SqT K w.H a xs → SqT K w'.H a xs) (hL : ∀ a xs, w.S a → w.H a = some (.lst xs) → w'.S a ∧ w'.H a = some (.lst xs))
    (hF : ∀ a o xs, w.H a = some (.frz o (.lst xs)) → w'.H a = some (.frz o (.lst xs))) (hA : ∀ (n : Nat) (a : Addr), w.al[n]? = some a → w'.al[n]? = some a) :
    ∀ (ds : List D) (vs : List V), RepL K w vs ds → RepL K w' vs ds
  | [], _, h => by cases h; exact .nil
  | d :: ds, _, h => by cases h with | cons h1 h2 => exact .cons (Rep.imp hT hL hF hA d _ h1) (RepL.imp hT hL hF hA ds _ h2)
end
theorem RepL.length : ∀ {ds : List D} {vs : List V}, RepL K w vs ds → vs.length = ds.length
  | [], _, h => by cases h; rfl
  | _ :: _, _, h => by cases h with | cons h1 h2 => simp [RepL.length h2]
theorem RepL.get : ∀ {ds : List D} {vs : List V} {i : Nat} {d : D}, RepL K w vs ds → ds[i]? = some d → ∃ v, vs[i]? = some v ∧ Rep K w v d
  | [], _, _, _, _, e => by simp at e
  | _ :: _, _, 0, _, h, e => by
    cases h with
    | cons h1 h2 => simp at e; subst e; exact ⟨_, rfl, h1⟩
  | _ :: _, _, i + 1, _, h, e => by
    cases h with
    | cons h1 h2 =>
      obtain ⟨v, a, b⟩ := RepL.get (i := i) h2 (by simpa using e)
      exact ⟨v, by simpa using a, b⟩
theorem RepL.getV : ∀ {ds : List D} {vs : List V} {i : Nat} {v : V}, RepL K w vs ds → vs[i]? = some v → ∃ d, ds[i]? = some d ∧ Rep K w v d
  | _, [], _, _, _, e => by simp at e
  | _, _ :: _, 0, _, h, e => by
    cases h with
    | cons h1 h2 => simp at e; subst e; exact ⟨_, rfl, h1⟩
  | _, _ :: _, i + 1, _, h, e => by
    cases h with
    | cons h1 h2 =>
      obtain ⟨v, a, b⟩ := RepL.getV (i := i) h2 (by simpa using e)
      exact ⟨v, by simpa using a, b⟩
theorem RepL.append : ∀ {ds es : List D} {vs us : List V}, RepL K w vs ds → RepL K w us es → RepL K w (vs ++ us) (ds ++ es)
  | [], _, _, _, h, k => by cases h; exact k
  | _ :: _, _, _, _, h, k => by cases h with | cons h1 h2 => exact .cons h1 (RepL.append h2 k)
theorem RepL.take : ∀ {ds : List D} {vs : List V} (n : Nat), RepL K w vs ds → RepL K w (vs.take n) (ds.take n)
  | _, _, 0, _ => .nil
  | [], _, _ + 1, h => by cases h; exact .nil
  | _ :: _, _, n + 1, h => by cases h with | cons h1 h2 => exact .cons h1 (RepL.take n h2)
theorem RepL.drop : ∀ {ds : List D} {vs : List V} (n : Nat), RepL K w vs ds → RepL K w (vs.drop n) (ds.drop n)
  | _, _, 0, h => h
  | [], _, _ + 1, h => by cases h; exact .nil
  | _ :: _, _, n + 1, h => by cases h with | cons h1 h2 => exact RepL.drop n h2
theorem RepL.set {d : D} {v : V} (r : Rep K w v d) : ∀ {ds : List D} {vs : List V} (n : Nat), RepL K w vs ds → RepL K w (vs.set n v) (ds.set n d)
  | [], _, _, h => by cases h; exact .nil
  | _ :: _, _, 0, h => by cases h with | cons h1 h2 => exact .cons r h2
  | _ :: _, _, n + 1, h => by cases h with | cons h1 h2 => exact .cons h1 (RepL.set r n h2)
theorem RepL.dropLast {ds : List D} {vs : List V} (h : RepL K w vs ds) : RepL K w vs.dropLast ds.dropLast := by
  rw [List.dropLast_eq_take, List.dropLast_eq_take, h.length]; exact h.take _
theorem RepL.reverse {ds : List D} {vs : List V} : RepL K w vs ds → RepL K w vs.reverse ds.reverse := by
  intro h
  induction ds generalizing vs with
  | nil => cases h; exact .nil
  | cons d ds ih =>
    cases h with
    | cons h1 h2 => simp only [List.reverse_cons]; exact (ih h2).append (.cons h1 .nil)
end

/-! ### worlds that go on -/
/-- from w to w': what stands stands, but at F (what may be written); F' : what may be written behind -/
structure Ext (w : Wd) (F : Addr → Prop) (w' : Wd) (F' : Addr → Prop) : Prop where
  keep : ∀ a o, w.H a = some o → ¬ F a → w'.H a = some o
  sS : ∀ a, w.S a → w'.S a
  sN : ∀ a, w'.S a → w.S a ∨ w.H a = none ∨ F a
  al : ∃ more, w'.al = w.al ++ more
  dom : ∀ a, w'.H a = none → w.H a = none
  fo : ∀ a, F' a → F a ∨ w.H a = none
theorem Ext.refl {w : Wd} {F : Addr → Prop} : Ext w F w F := ⟨fun _ _ h _ => h, fun _ h => h, fun _ h => .inl h, ⟨[], by simp⟩, fun _ h => h, fun _ h => .inl h⟩
theorem Ext.trans {w w1 w2 : Wd} {F F1 F2 : Addr → Prop} (a : Ext w F w1 F1) (b : Ext w1 F1 w2 F2) : Ext w F w2 F2 where
  keep := fun c o h n => b.keep c o (a.keep c o h n) fun k => (a.fo c k).elim n fun z => by rw [h] at z; cases z
  sS := fun c h => b.sS c (a.sS c h)
  sN := fun c h => by
    rcases b.sN c h with h | h | h
    · exact a.sN c h
    · exact .inr (.inl (a.dom c h))
    · rcases a.fo c h with h | h
      · exact .inr (.inr h)
      · exact .inr (.inl h)
  al := by
    obtain ⟨m, e⟩ := a.al
    obtain ⟨n, f⟩ := b.al
    exact ⟨m ++ n, by rw [f, e, List.append_assoc]⟩
  dom := fun c h => a.dom c (b.dom c h)
  fo := fun c h => by
    rcases b.fo c h with h | h
    · exact a.fo c h
    · exact .inr (a.dom c h)
theorem Ext.mem {w w' : Wd} {F F' : Addr → Prop} (x : Ext w F w' F') {a : Addr} (h : a ∈ w.al) : a ∈ w'.al := by
  obtain ⟨m, e⟩ := x.al
  rw [e]
  exact List.mem_append_left _ h

/-! ### slots -/
inductive Sl where
  | un | pub (d : D) | own (l : List D)
abbrev Sls := List Sl
abbrev Amb := List (List D)
/-- what may be written: the shared lists, the slots' own lists -/
def Foot (al : List Addr) (sl : Sls) (σ : St) (a : Addr) : Prop := a ∈ al ∨ ∃ (i : Nat) (ds : List D), sl[i]? = some (.own ds) ∧ σ[i]? = some (some (.ref a))
structure AmbOk (K : PySem.W.Frag) (w : Wd) (st : Amb) : Prop where
  len : w.al.length = st.length
  at_ : ∀ (n : Nat) (a : Addr), w.al[n]? = some a → ¬ w.S a ∧ ∃ vs ds, w.H a = some (.lst vs) ∧ st[n]? = some ds ∧ RepL K w vs ds
  nod : w.al.Nodup
  sd : ∀ a, w.S a → ∃ vs, w.H a = some (.lst vs)
structure Ok (K : PySem.W.Frag) (w : Wd) (sl : Sls) (st : Amb) (σ : St) : Prop where
  amb : AmbOk K w st
  len : σ.length = sl.length
  pub : ∀ (i : Nat) (d : D), sl[i]? = some (.pub d) → ∃ v, σ[i]? = some (some v) ∧ Rep K w v d
  own : ∀ (i : Nat) (ds : List D), sl[i]? = some (.own ds) → ∃ a vs, σ[i]? = some (some (.ref a)) ∧ w.H a = some (.lst vs) ∧ RepL K w vs ds ∧ ¬ w.S a ∧ a ∉ w.al
  dis : ∀ (i j : Nat) (ds es : List D) (a : Addr), sl[i]? = some (.own ds) → sl[j]? = some (.own es) → σ[i]? = some (some (.ref a)) → σ[j]? = some (some (.ref a)) → i = j
section
variable {K : PySem.W.Frag} {w w' : Wd} {sl sl' : Sls} {st st' : Amb} {σ σ' : St} {F F' : Addr → Prop}
theorem AmbOk.mem (h : AmbOk K w st) {a : Addr} (m : a ∈ w.al) : ¬ w.S a ∧ ∃ vs, w.H a = some (.lst vs) := by
  obtain ⟨n, hn⟩ := List.getElem?_of_mem m
  obtain ⟨s, vs, _, e, _⟩ := h.at_ n a hn
  exact ⟨s, vs, e⟩
theorem Ok.foot (h : Ok K w sl st σ) {a : Addr} (f : Foot w.al sl σ a) : ¬ w.S a ∧ ∃ vs, w.H a = some (.lst vs) := by
  rcases f with f | ⟨i, ds, e1, e2⟩
  · exact h.amb.mem f
  · obtain ⟨b, vs, e3, e4, _, s, _⟩ := h.own i ds e1
    rw [e2] at e3
    cases e3
    exact ⟨s, vs, e4⟩
/-- where what may be written are lists that no value leans on, values stand -/
theorem Ext.repG (x : Ext w F w' F') (hf : ∀ a, F a → ¬ w.S a ∧ ∃ vs, w.H a = some (.lst vs)) :
    (∀ a xs, SqT K w.H a xs → SqT K w'.H a xs) ∧ (∀ a xs, w.S a → w.H a = some (.lst xs) → w'.S a ∧ w'.H a = some (.lst xs)) ∧
    (∀ a o xs, w.H a = some (.frz o (.lst xs)) → w'.H a = some (.frz o (.lst xs))) ∧ (∀ (n : Nat) (a : Addr), w.al[n]? = some a → w'.al[n]? = some a) := by
  refine ⟨fun a xs h => ?_, fun a xs s h => ⟨x.sS a s, x.keep a _ h fun f => (hf a f).1 s⟩, fun a o xs h => x.keep a _ h fun f => ?_, fun n a h => ?_⟩
  · rcases h with (h | ⟨o, h⟩) | h
    · refine .inl (.inl (x.keep a _ h fun f => ?_))
      obtain ⟨vs, e⟩ := (hf a f).2
      rw [h] at e; cases e
    · refine .inl (.inr ⟨o, x.keep a _ h fun f => ?_⟩)
      obtain ⟨vs, e⟩ := (hf a f).2
      rw [h] at e; cases e
    · exact .inr h
  · obtain ⟨vs, e⟩ := (hf a f).2
    rw [h] at e; cases e
  · obtain ⟨m, e⟩ := x.al
    rw [e, List.getElem?_append_left (List.getElem?_eq_some_iff.mp h).1]
    exact h
theorem Ext.rep (x : Ext w F w' F') (hf : ∀ a, F a → ¬ w.S a ∧ ∃ vs, w.H a = some (.lst vs)) {d : D} {v : V} (r : Rep K w v d) : Rep K w' v d := by
  obtain ⟨a, b, c, e⟩ := x.repG (K := K) hf
  exact Rep.imp a b c e d v r
theorem Ext.repL (x : Ext w F w' F') (hf : ∀ a, F a → ¬ w.S a ∧ ∃ vs, w.H a = some (.lst vs)) {ds : List D} {vs : List V} (r : RepL K w vs ds) : RepL K w' vs ds := by
  obtain ⟨a, b, c, e⟩ := x.repG (K := K) hf
  exact RepL.imp a b c e ds vs r
end

/-! ### results of expressions -/
/-- val: a value that may be kept; prv: a new list that nobody else knows; bor: a slot's own list, looked at -/
inductive R where
  | val (d : D) | prv (l : List D) | bor (l : List D)
def R.d : R → D
  | .val d => d
  | .prv l => .lst l
  | .bor l => .lst l
def RdR (K : PySem.W.Frag) (w : Wd) (sl : Sls) (σ : St) (v : V) : R → Prop
  | .val d => Rep K w v d
  | .prv ds => ∃ a vs, v = .ref a ∧ w.H a = some (.lst vs) ∧ RepL K w vs ds ∧ ¬ w.S a ∧ ¬ Foot w.al sl σ a
  | .bor ds => ∃ (i : Nat) (a : Addr), sl[i]? = some (.own ds) ∧ σ[i]? = some (some (.ref a)) ∧ v = .ref a
def Frs (w : Wd) (v : V) : R → Prop
  | .prv _ => ∀ a, v = .ref a → w.H a = none
  | _ => True
section
variable {K : PySem.W.Frag} {w w' : Wd} {sl sl' : Sls} {st st' : Amb} {σ σ' : St} {v : V} {r : R}
abbrev FootW (w : Wd) (sl : Sls) (σ : St) : Addr → Prop := Foot w.al sl σ
theorem RdR.ext (h : RdR K w sl σ v r) (ok : Ok K w sl st σ) (x : Ext w (FootW w sl σ) w' (FootW w' sl σ)) : RdR K w' sl σ v r := by
  cases r with
  | val d => exact x.rep (fun a f => ok.foot f) h
  | bor ds => exact h
  | prv ds =>
    obtain ⟨a, vs, e, h1, h2, h3, h4⟩ := h
    refine ⟨a, vs, e, x.keep _ _ h1 h4, x.repL (fun a f => ok.foot f) h2, fun s => ?_, fun f => ?_⟩
    · rcases x.sN _ s with s | s | s
      · exact h3 s
      · rw [h1] at s; cases s
      · exact h4 s
    · rcases x.fo _ f with f | f
      · exact h4 f
      · rw [h1] at f; cases f
theorem Frs.back {F F' : Addr → Prop} (h : Frs w' v r) (x : Ext w F w' F') : Frs w v r := by
  cases r with
  | prv ds => exact fun a e => x.dom _ (h a e)
  | val d => trivial
  | bor d => trivial
/-- a list that is read: its items -/
theorem RdR.lst (h : RdR K w sl σ v r) (ok : Ok K w sl st σ) {ds : List D} (e : r.d = .lst ds) : ∃ a vs, v = .ref a ∧ w.H a = some (.lst vs) ∧ RepL K w vs ds := by
  cases r with
  | val d =>
    have e' : d = .lst ds := e
    subst e'
    cases h with
    | lst h0 h1 h2 => exact ⟨_, _, rfl, h1, h2⟩
  | prv es =>
    have e' : D.lst es = .lst ds := e
    cases e'
    obtain ⟨a, vs, e, h1, h2, _⟩ := h
    exact ⟨a, vs, e, h1, h2⟩
  | bor es =>
    have e' : D.lst es = .lst ds := e
    cases e'
    obtain ⟨i, a, h1, h2, h3⟩ := h
    obtain ⟨b, vs, k1, k2, k3, _⟩ := ok.own i _ h1
    rw [h2] at k1
    cases k1
    exact ⟨a, vs, h3, k2, k3⟩
theorem RdR.rep (h : RdR K w sl σ v r) {d : D} (e : r.d = d) (n : ∀ l, d ≠ .lst l) : Rep K w v d := by
  cases r with
  | val d' => have e' : d' = d := e; subst e'; exact h
  | prv es => exact absurd e.symm (n es)
  | bor es => exact absurd e.symm (n es)
theorem RdR.int (h : RdR K w sl σ v r) {i : Int} (e : r.d = .int i) : v = .int i := by
  have q := h.rep e (fun l z => by cases z)
  cases q
  rfl
theorem RdR.bl (h : RdR K w sl σ v r) {i : Bool} (e : r.d = .bl i) : v = .bl i := by
  have q := h.rep e (fun l z => by cases z)
  cases q
  rfl
theorem RdR.str (h : RdR K w sl σ v r) {i : Str} (e : r.d = .str i) : v = .str i := by
  have q := h.rep e (fun l z => by cases z)
  cases q
  rfl
theorem RdR.tup (h : RdR K w sl σ v r) {ds : List D} (e : r.d = .tup ds) : ∃ a vs, v = .ref a ∧ SqT K w.H a vs ∧ RepL K w vs ds := by
  have q := h.rep e (fun l z => by cases z)
  cases q with
  | tup h1 h2 => exact ⟨_, _, rfl, h1, h2⟩
end

/-! ### the heap grows by an object, a slot's or a shared list is written -/
section
variable {K : PySem.W.Frag} {w w' : Wd} {sl sl' : Sls} {st st' : Amb} {σ σ' : St} {v : V} {r : R}
/-- the same slots behind, the world goes on, the shared lists as they were -/
theorem Ok.ext {F : Addr → Prop} (ok : Ok K w sl st σ) (x : Ext w F w' (FootW w' sl σ)) (hal : w'.al = w.al) (hF : ∀ a, F a → ¬ FootW w sl σ a) (hf : ∀ a, F a → ¬ w.S a ∧ ∃ vs, w.H a = some (.lst vs)) (hs : ∀ a, w'.S a → ∃ vs, w'.H a = some (.lst vs)) : Ok K w' sl st σ where
  amb := by
    refine ⟨by rw [hal]; exact ok.amb.len, fun n a h => ?_, by rw [hal]; exact ok.amb.nod, hs⟩
    rw [hal] at h
    obtain ⟨s, vs, ds, e1, e2, e3⟩ := ok.amb.at_ n a h
    have nf : ¬ F a := fun f => hF a f (.inl (List.mem_of_getElem? h))
    refine ⟨fun q => ?_, vs, ds, x.keep _ _ e1 nf, e2, x.repL hf e3⟩
    rcases x.sN _ q with q | q | q
    · exact s q
    · rw [e1] at q; cases q
    · exact nf q
  len := ok.len
  pub := fun i d h => by
    obtain ⟨v, e, r⟩ := ok.pub i d h
    exact ⟨v, e, x.rep hf r⟩
  own := fun i ds h => by
    obtain ⟨a, vs, e1, e2, e3, s, m⟩ := ok.own i ds h
    have nf : ¬ F a := fun f => hF a f (.inr ⟨i, ds, h, e1⟩)
    refine ⟨a, vs, e1, x.keep _ _ e2 nf, x.repL hf e3, fun q => ?_, by rw [hal]; exact m⟩
    rcases x.sN _ q with q | q | q
    · exact s q
    · rw [e2] at q; cases q
    · exact nf q
  dis := ok.dis
/-- a new object -/
theorem ext_new {p : Addr} {o : HO} (hp : w.H p = none) : Ext w (FootW w sl σ) ⟨w.al, w.S, upd w.H p o⟩ (FootW ⟨w.al, w.S, upd w.H p o⟩ sl σ) where
  keep := fun a o' h _ => by
    show upd w.H p o a = some o'
    rw [upd_ne (ne_of_none h hp)]; exact h
  sS := fun _ h => h
  sN := fun _ h => .inl h
  al := ⟨[], by simp⟩
  dom := fun a h => by
    by_cases e : a = p
    · rw [e]; exact hp
    · have h' : upd w.H p o a = none := h
      rw [upd_ne e] at h'; exact h'
  fo := fun _ h => .inl h
theorem Ok.new {p : Addr} {o : HO} (ok : Ok K w sl st σ) (hp : w.H p = none) : Ok K ⟨w.al, w.S, upd w.H p o⟩ sl st σ := by
  have keep : ∀ a o', w.H a = some o' → upd w.H p o a = some o' := fun a o' h => by rw [upd_ne (ne_of_none h hp)]; exact h
  have hT : ∀ a xs, SqT K w.H a xs → SqT K (upd w.H p o) a xs := fun a xs h => by
    rcases h with (h | ⟨o, h⟩) | h
    · exact .inl (.inl (keep _ _ h))
    · exact .inl (.inr ⟨o, keep _ _ h⟩)
    · exact .inr h
  have rl : ∀ {ds vs}, RepL K w vs ds → RepL K ⟨w.al, w.S, upd w.H p o⟩ vs ds := fun {ds vs} r =>
    RepL.imp (w := w) (w' := ⟨w.al, w.S, upd w.H p o⟩) hT (fun a xs s h => ⟨s, keep _ _ h⟩) (fun a o xs h => keep _ _ h) (fun _ _ h => h) ds vs r
  have r1 : ∀ {d v}, Rep K w v d → Rep K ⟨w.al, w.S, upd w.H p o⟩ v d := fun {d v} r =>
    Rep.imp (w := w) (w' := ⟨w.al, w.S, upd w.H p o⟩) hT (fun a xs s h => ⟨s, keep _ _ h⟩) (fun a o xs h => keep _ _ h) (fun _ _ h => h) d v r
  refine ⟨⟨ok.amb.len, fun n a h => ?_, ok.amb.nod, fun a h => ?_⟩, ok.len, fun i d h => ?_, fun i ds h => ?_, ok.dis⟩
  · obtain ⟨s, vs, ds, e1, e2, e3⟩ := ok.amb.at_ n a h
    exact ⟨s, vs, ds, keep _ _ e1, e2, rl e3⟩
  · obtain ⟨vs, e⟩ := ok.amb.sd a h
    exact ⟨vs, keep _ _ e⟩
  · obtain ⟨v, e, r⟩ := ok.pub i d h
    exact ⟨v, e, r1 r⟩
  · obtain ⟨a, vs, e1, e2, e3, s, m⟩ := ok.own i ds h
    exact ⟨a, vs, e1, keep _ _ e2, rl e3, s, m⟩
theorem rep_new {p : Addr} {o : HO} (hp : w.H p = none) {d : D} {v : V} (r : Rep K w v d) : Rep K ⟨w.al, w.S, upd w.H p o⟩ v d := by
  have keep : ∀ a o', w.H a = some o' → upd w.H p o a = some o' := fun a o' h => by rw [upd_ne (ne_of_none h hp)]; exact h
  refine Rep.imp (w := w) (w' := ⟨w.al, w.S, upd w.H p o⟩) (fun a xs h => ?_) (fun a xs s h => ⟨s, keep _ _ h⟩) (fun a o xs h => keep _ _ h) (fun _ _ h => h) d v r
  rcases h with (h | ⟨o, h⟩) | h
  · exact .inl (.inl (keep _ _ h))
  · exact .inl (.inr ⟨o, keep _ _ h⟩)
  · exact .inr h
theorem repL_new {p : Addr} {o : HO} (hp : w.H p = none) {d : List D} {v : List V} (r : RepL K w v d) : RepL K ⟨w.al, w.S, upd w.H p o⟩ v d := by
  have keep : ∀ a o', w.H a = some o' → upd w.H p o a = some o' := fun a o' h => by rw [upd_ne (ne_of_none h hp)]; exact h
  refine RepL.imp (w := w) (w' := ⟨w.al, w.S, upd w.H p o⟩) (fun a xs h => ?_) (fun a xs s h => ⟨s, keep _ _ h⟩) (fun a o xs h => keep _ _ h) (fun _ _ h => h) d v r
  rcases h with (h | ⟨o, h⟩) | h
  · exact .inl (.inl (keep _ _ h))
  · exact .inl (.inr ⟨o, keep _ _ h⟩)
  · exact .inr h
/-- a new list, nobody's yet -/
theorem prv_new {p : Addr} {vs : List V} {ds : List D} (ok : Ok K w sl st σ) (hp : w.H p = none) (r : RepL K w vs ds) : RdR K ⟨w.al, w.S, upd w.H p (.lst vs)⟩ sl σ (.ref p) (.prv ds) := by
  refine ⟨p, vs, rfl, upd_same, repL_new hp r, fun s => ?_, fun f => ?_⟩
  · obtain ⟨vs, e⟩ := ok.amb.sd p s
    rw [hp] at e; cases e
  · obtain ⟨_, vs, e⟩ := ok.foot f
    rw [hp] at e; cases e
/-- a new list is given to all -/
theorem prv_pub {ds : List D} (ok : Ok K w sl st σ) (h : RdR K w sl σ v (.prv ds)) : ∃ S', (∀ a, w.S a → S' a) ∧ Ok K ⟨w.al, S', w.H⟩ sl st σ ∧ Rep K ⟨w.al, S', w.H⟩ v (.lst ds) ∧
    ∀ {w0 : Wd}, Ext w0 (FootW w0 sl σ) w (FootW w sl σ) → (∀ a, v = .ref a → w0.H a = none ∨ FootW w0 sl σ a) → Ext w0 (FootW w0 sl σ) ⟨w.al, S', w.H⟩ (FootW ⟨w.al, S', w.H⟩ sl σ) := by
  obtain ⟨p, vs, rfl, hH, hr, hs, hf⟩ := h
  have r1 : ∀ {d v}, Rep K w v d → Rep K ⟨w.al, fun a => w.S a ∨ a = p, w.H⟩ v d := fun {d v} r =>
    Rep.imp (w := w) (w' := ⟨w.al, fun a => w.S a ∨ a = p, w.H⟩) (fun _ _ h => h) (fun a xs s h => ⟨.inl s, h⟩) (fun _ _ _ h => h) (fun _ _ h => h) d v r
  have rl : ∀ {d v}, RepL K w v d → RepL K ⟨w.al, fun a => w.S a ∨ a = p, w.H⟩ v d := fun {d v} r =>
    RepL.imp (w := w) (w' := ⟨w.al, fun a => w.S a ∨ a = p, w.H⟩) (fun _ _ h => h) (fun a xs s h => ⟨.inl s, h⟩) (fun _ _ _ h => h) (fun _ _ h => h) d v r
  refine ⟨fun a => w.S a ∨ a = p, fun a h => .inl h, ⟨⟨ok.amb.len, fun n a h => ?_, ok.amb.nod, fun a h => ?_⟩, ok.len, fun i d h => ?_, fun i ds h => ?_, ok.dis⟩, .lst (.inr rfl) hH (rl hr), fun {w0} x h0 => ?_⟩
  · obtain ⟨s, vs, ds, e1, e2, e3⟩ := ok.amb.at_ n a h
    exact ⟨fun q => q.elim s fun z => hf (.inl (z ▸ List.mem_of_getElem? h)), vs, ds, e1, e2, rl e3⟩
  · rcases h with h | rfl
    · exact ok.amb.sd a h
    · exact ⟨_, hH⟩
  · obtain ⟨v, e, r⟩ := ok.pub i d h
    exact ⟨v, e, r1 r⟩
  · obtain ⟨a, vs, e1, e2, e3, s, m⟩ := ok.own i ds h
    exact ⟨a, vs, e1, e2, rl e3, fun q => q.elim s fun z => hf (.inr ⟨i, ds, h, z ▸ e1⟩), m⟩
  · refine ⟨x.keep, fun a h => .inl (x.sS a h), fun a h => ?_, x.al, x.dom, x.fo⟩
    rcases h with h | rfl
    · exact x.sN a h
    · rcases h0 a rfl with h0 | h0
      · exact .inr (.inl h0)
      · exact .inr (.inr h0)
end

/-! ### expressions -/
abbrev EvF := Sls → Amb → Option (R × Amb)
def tV (K : PySem.W.Frag) (f : EvF) : TE := fun σ H Q => ∃ al S sl st r st', Ok K ⟨al, S, H⟩ sl st σ ∧ f sl st = some (r, st') ∧
  ∀ v w', Ok K w' sl st' σ → Ext ⟨al, S, H⟩ (Foot al sl σ) w' (FootW w' sl σ) → RdR K w' sl σ v r → Frs ⟨al, S, H⟩ v r → Q v w'.H
abbrev VE (X : Cx) (e : Expr) (f : EvF) : Prop := PE X e (tV X.K f)
abbrev EvB := Sls → Amb → Option (Bool × Amb)
def tVB (K : PySem.W.Frag) (f : EvB) : TT := fun σ H Q => ∃ al S sl st r st', Ok K ⟨al, S, H⟩ sl st σ ∧ f sl st = some (r, st') ∧
  ∀ w', Ok K w' sl st' σ → Ext ⟨al, S, H⟩ (Foot al sl σ) w' (FootW w' sl σ) → Q r w'.H
abbrev VT (X : Cx) (e : Expr) (f : EvB) : Prop := PT X e (tVB X.K f)
abbrev EvA := Sls → Amb → Option (List R × Amb)
/-- what is new among them was not there ahead -/
def FrsL (w : Wd) (vs : List V) (rs : List R) : Prop := ∀ (i : Nat) (v : V) (r : R), vs[i]? = some v → rs[i]? = some r → Frs w v r
inductive RdRs (K : PySem.W.Frag) (w : Wd) (sl : Sls) (σ : St) : List V → List R → Prop
  | nil : RdRs K w sl σ [] []
  | cons {v : V} {vs : List V} {r : R} {rs : List R} : RdR K w sl σ v r → RdRs K w sl σ vs rs → RdRs K w sl σ (v :: vs) (r :: rs)
def tVA (K : PySem.W.Frag) (f : EvA) : TA := fun σ H Q => ∃ al S sl st r st', Ok K ⟨al, S, H⟩ sl st σ ∧ f sl st = some (r, st') ∧
  ∀ v w', Ok K w' sl st' σ → Ext ⟨al, S, H⟩ (Foot al sl σ) w' (FootW w' sl σ) → RdRs K w' sl σ v r → FrsL ⟨al, S, H⟩ v r → Q v w'.H
abbrev VA (X : Cx) (e : List Expr) (f : EvA) : Prop := PA X e (tVA X.K f)

theorem PEimp {X : Cx} {e : Expr} {t t' : TE} (h : PE X e t) (i : ∀ σ H Q, t' σ H Q → t σ H Q) : PE X e t' := ⟨fun pins s σ H Q I q => h.run pins s σ H Q I (i σ H Q q)⟩
theorem PTimp {X : Cx} {e : Expr} {t t' : TT} (h : PT X e t) (i : ∀ σ H Q, t' σ H Q → t σ H Q) : PT X e t' := ⟨fun pins s σ H Q I q => h.run pins s σ H Q I (i σ H Q q)⟩
theorem PWimp {X : Cx} {e : Expr} {t t' : TT} (h : PW X e t) (i : ∀ σ H Q, t' σ H Q → t σ H Q) : PW X e t' := ⟨fun wh pins s σ H Q I q => h.run wh pins s σ H Q I (i σ H Q q)⟩
theorem PAimp {X : Cx} {e : List Expr} {t t' : TA} (h : PA X e t) (i : ∀ σ H Q, t' σ H Q → t σ H Q) : PA X e t' := ⟨fun pos pins s σ H Q I q => h.run pos pins s σ H Q I (i σ H Q q)⟩
theorem PSimp {X : Cx} {e : Stmt} {t t' : TS} (h : PS X e t) (i : ∀ D σ H, t' D σ H → t D σ H) : PS X e t' := ⟨fun pins s σ H D I q => h.run pins s σ H D I (i D σ H q)⟩
theorem PSsimp {X : Cx} {e : List Stmt} {t t' : TS} (h : PSs X e t) (i : ∀ D σ H, t' D σ H → t D σ H) : PSs X e t' := ⟨fun pins s σ H D I q => h.run pins s σ H D I (i D σ H q)⟩
theorem RdRs.ext {K : PySem.W.Frag} {w w' : Wd} {sl : Sls} {st : Amb} {σ : St} : ∀ {rs : List R} {vs : List V}, RdRs K w sl σ vs rs → Ok K w sl st σ → Ext w (FootW w sl σ) w' (FootW w' sl σ) → RdRs K w' sl σ vs rs
  | _, _, .nil, _, _ => .nil
  | _, _, .cons h t, ok, x => .cons (h.ext ok x) (t.ext ok x)

/-- a value made without a change -/
theorem tV_pure {K : PySem.W.Frag} {f : EvF} {σ : St} {H : Hp} {Q : VK} {v : V} (h : tV K f σ H Q) (hp : ∀ al S sl st r st', Ok K ⟨al, S, H⟩ sl st σ → f sl st = some (r, st') → st' = st ∧ RdR K ⟨al, S, H⟩ sl σ v r ∧ ∀ l, r ≠ .prv l) : Q v H := by
  obtain ⟨al, S, sl, st, r, st', ok, e, k⟩ := h
  obtain ⟨rfl, rd, np⟩ := hp al S sl st r st' ok e
  refine k v ⟨al, S, H⟩ ok Ext.refl rd ?_
  cases r with
  | prv l => exact absurd rfl (np l)
  | val d => trivial
  | bor d => trivial
end Vx


set_option Elab.async false
set_option linter.all false
set_option maxRecDepth 100000
/-! Vs: sorted(xs) of data, also where some of the tuples are empty; as an insertion sort. -/
namespace Vx
open PySem PySem.W PySem.SeqAt PySem.Calls PyProof.Rows

section
variable {prog : Program} {w : World} {A : Around} {E : Value → Shared → Prop} {s : Shared}
/-- one tuple against another, both of one type -/
theorem oneLt_tup {f : Bool} {xs ys : List PyData} {a b : Value} {as bs : List Addr} {Q : Bool → Shared → Prop} (ra : Reads s.heap a (.tuple xs) as) (rb : Reads s.heap b (.tuple ys) bs) (hal : alikeAll xs ys = true)
    (hu : A.units + min (PyData.depth (.tuple xs)) (PyData.depth (.tuple ys)) < cLine) (hq : Q (dataLt (.tuple xs) (.tuple ys)) s) : wpAny (model prog w) A (oneLt' f a b) Q E s := by
  have hd : A.units + 1 + min (PyData.depthAll xs) (PyData.depthAll ys) < cLine := by
    simp only [PyData.depth] at hu
    omega
  have hu0 : A.units < cLine := by omega
  have hin : A.in1.units + min (PyData.depthAll xs) (PyData.depthAll ys) < cLine := hd
  cases f with
  | false => exact oneLt_alike (fun z => absurd z Bool.false_ne_true) ra rb (by simpa [alike] using hal) (fun z => by cases z) hu hq
  | true =>
    cases ra with
    | @tuple l o vs n _ as₁ h1 h2 h3 h4 =>
      cases rb with
      | @tuple l' o' vs' n' _ bs₁ k1 k2 k3 k4 =>
        have n1 : vs.size = xs.length := by simpa using ReadsAll.length _ _ _ h4
        have n2 : vs'.size = ys.length := by simpa using ReadsAll.length _ _ _ k4
        rw [dataLt_tuple, ← firstLt_toks xs ys hal, ← n1, ← n2] at hq
        rw [oneLt'_eq]
        simp only [if_true]
        refine wpAny_bind (wpAny_cRoomFor hu0 ?_)
        obtain ⟨cls, dd, data, sl⟩ := o
        obtain ⟨cls2, dd2, data2, sl2⟩ := o'
        simp only at h2 h3 k2 k3
        subst h2 h3 k2 k3
        refine wpAny_bind (wpAny_callSpecialIfBound?_slot (T := "tuple") ⟨_, h1, rfl⟩ F.slot_tuple_lt (call_meets F.slot_tuple_lt ⟨_, h1, rfl⟩ F.entry_tuple_lt (F.args_tuple_lt_2 _ _)
          (tuple_ltAt l l' vs vs' n n' dd dd2 sl sl2 (pairEq xs ys) (fun j => dataLt (xs.getD j .none) (ys.getD j .none))) ⟨h1, k1, fun j j1 j2 => ?_, fun j j1 j2 hj => ?_, ?_⟩))
        · have := eqAt_alikeAll xs ys A.in1 s vs.toList vs'.toList _ _ h4 k4 hal hin j (by simpa using j1) (by simpa using j2)
          simpa using this
        · have := rcLt_alikeAll xs ys A.in1 s vs.toList vs'.toList _ _ h4 k4 hal hin j (by simpa using j1) (by simpa using j2) hj
          simpa using this
        · exact wpAny_truthy_bool hq

/-- the first items of tuples -/
theorem firsts_tups : ∀ (vs : List Value) (ds : List PyData) {Q : List (Option Value) → Shared → Prop}, EachIs (fun v d => ∃ as, Reads s.heap v d as) vs ds → (∀ d ∈ ds, ∃ xs, d = .tuple xs) →
    (∀ fs : List (Option Value), fs.length = vs.length → (∀ i : Nat, (fs[i]?.bind id).isSome = true → ∃ x r, ds[i]? = some (PyData.tuple (x :: r))) → (∀ (i : Nat) (x : PyData) (r : List PyData), ds[i]? = some (PyData.tuple (x :: r)) → (fs[i]?.bind id).isSome = true) → Q fs s) →
    wpAny (model prog w) A (vs.mapM firstOfTuple') Q E s
  | [], [], Q, .nil, _, h => by
    rw [List.mapM_nil]
    exact wpAny_pure (h [] rfl (fun i z => by simp at z) fun i x r z => by simp at z)
  | v :: vs, d :: ds, Q, .cons ⟨as, r⟩ t, ht, h => by
    obtain ⟨xs, rfl⟩ := ht d (List.mem_cons_self ..)
    rw [List.mapM_cons]
    refine wpAny_bind ?_
    rw [kas_first_eq]
    cases r with
    | @tuple a o its n _ _ ho hc hd hr =>
      refine wpAny_bind (Looks.here (show Looks _ s.heap (typeOf (.ref a)) o.cls from (Looks.ld ho).andThen .now) ?_)
      rw [hc, if_neg (by first | decide | simp)]
      refine wpAny_bind (listItems_at ho hd (wpAny_pure ?_))
      refine wpAny_bind (firsts_tups vs ds (Q := fun bs s' => wpAny (model prog w) A (pure (its[0]? :: bs)) Q E s') t (fun d hd => ht d (List.mem_cons_of_mem _ hd)) fun fs hl h1 h2 => wpAny_pure (h _ (by simp [hl]) (fun i z => ?_) fun i x r z => ?_))
      · cases i with
        | zero =>
          cases q : its.toList with
          | nil =>
            have e : its = #[] := by simpa using q
            simp [e] at z
          | cons f fr =>
            rw [q] at hr
            cases hr with
            | cons r1 r2 => exact ⟨_, _, rfl⟩
        | succ i => exact h1 i (by simpa using z)
      · cases i with
        | zero =>
          have z' : xs = x :: r := by simpa using z
          subst z'
          cases q : its.toList with
          | nil => rw [q] at hr; cases hr
          | cons f fr =>
            have e : its[0]? = some f := by rw [← Array.getElem?_toList, q]; rfl
            simp [e]
        | succ i => simpa using h2 i x r (by simpa using z)

/-- the kind of keys that tuples are, some of them empty -/
theorem kind_tups0 {vs : List Value} {ds : List PyData} {Q : SortKind → Shared → Prop} (e : EachIs (fun v d => ∃ as, Reads s.heap v d as) vs ds) (ht : ∀ d ∈ ds, ∃ xs, d = .tuple xs) (h0 : PyData.tuple [] ∈ ds)
    (h1 : (∃ x r, ds[0]? = some (PyData.tuple (x :: r))) → Q general' s) (h2 : (¬ ∃ x r, ds[0]? = some (PyData.tuple (x :: r))) → Q oneType' s) : wpAny (model prog w) A (keyKind' vs.toArray) Q E s := by
  rw [kat_kind_eq, List.mapM_toArray, map_eq_pure_bind]
  refine wpAny_bind (wpAny_bind (firsts_tups vs ds e ht fun fs hl k1 k2 => wpAny_pure ?_))
  have hlen : vs.length = ds.length := e.length
  have hn : ¬ (fs.toArray.all fun x => x.isSome) = true := fun z => by
    obtain ⟨i, hi⟩ := List.getElem?_of_mem h0
    have hi' : i < ds.length := (List.getElem?_eq_some_iff.mp hi).1
    have hif : i < fs.length := by omega
    simp only [List.all_toArray, List.all_eq_true] at z
    have q := z fs[i] (List.getElem_mem hif)
    obtain ⟨x, r, e2⟩ := k1 i (by rw [List.getElem?_eq_getElem hif]; exact q)
    rw [hi] at e2
    cases e2
  rw [if_neg hn]
  have e0 : (fs.toArray[0]?.bind id).isSome = (fs[0]?.bind id).isSome := by simp
  split
  · rename_i z
    rw [e0] at z
    exact wpAny_pure (h1 (k1 0 z))
  · have hT : ∀ v ∈ vs, Looks (model prog w) s.heap (typeOf v) (.type "tuple") := fun v hv => by
      obtain ⟨d, hd, as, r⟩ := e.left v hv
      obtain ⟨xs, rfl⟩ := ht d hd
      exact looks_reads r
    rw [oneTypeOnly'_eq, List.mapM_toArray, map_eq_pure_bind]
    refine wpAny_bind (wpAny_bind (wpAny_bind (kas_mapM (r := Value.type "tuple") _ (fun v hv Q' hq => (hT v hv).here hq) (wpAny_pure ?_))))
    have hall : ((List.map (fun _ => Value.type "tuple") vs).toArray.all fun x => x == Value.type "tuple") = true := by
      simp only [List.all_toArray, List.all_map, List.all_eq_true]
      intro _ _
      exact beq_self_eq_true _
    have hpos : 0 < vs.length := by
      rw [hlen]
      exact List.length_pos_of_mem h0
    have hx : (List.map (fun _ => Value.type "tuple") vs).toArray[0]? = some (Value.type "tuple") := by simp [hpos]
    rw [hx]
    simp only [hall, if_true]
    rename_i z
    rw [e0] at z
    exact wpAny_pure (wpAny_pure (h2 fun ⟨x, r, q⟩ => z (k2 0 x r q)))

/-- data that can be sorted: alike, and no None -/
structure Srtb (ds : List PyData) : Prop where
  al : AllAlike ds
  nn : ∀ d ∈ ds, d ≠ .none

/-- values that read as alike data can be sorted, empty tuples among them or not -/
theorem SortsAt_any {vs : List Value} {ds : List PyData} (e : EachIs (fun v d => ∃ as, Reads s.heap v d as) vs ds) (hs : Srtb ds) (hu : ∀ d, d ∈ ds → A.units + d.depth < cLine) : SortsAt prog w A s (dataKind s.heap ds) vs := by
  have room : ∀ {d d' : PyData}, d ∈ ds → A.units + min d.depth d'.depth < cLine := fun {d d'} hd => Nat.lt_of_le_of_lt (Nat.add_le_add_left (Nat.min_le_left _ _) _) (hu d hd)
  by_cases hT : ∃ d ∈ ds, ∃ xs, d = PyData.tuple xs
  · obtain ⟨d0, hd0, xs0, rfl⟩ := hT
    have ht : ∀ d ∈ ds, ∃ xs, d = .tuple xs := fun d hd => by
      have q := hs.al d hd _ hd0
      cases d with
      | tuple xs => exact ⟨xs, rfl⟩
      | _ => exact absurd q (by simp [alike])
    by_cases h0 : PyData.tuple [] ∈ ds
    · have lt : ∀ f : Bool, ∀ (E : Value → Shared → Prop) (x y : Value) (a b : List (Int ⊕ List Nat)) {Q : Bool → Shared → Prop}, (dataKind s.heap ds).keyOf x = some a → (dataKind s.heap ds).keyOf y = some b →
          Q (PyProof.Rows.lexLt itemOrd a b) s → wpAny (model prog w) A (oneLt' f x y) Q E s := fun f E x y a b Q ha hb hq => by
        obtain ⟨d, as, hd, ra, rfl⟩ := dataKind_inv ha
        obtain ⟨d', as', hd', rb, rfl⟩ := dataKind_inv hb
        obtain ⟨xs, rfl⟩ := ht d hd
        obtain ⟨ys, rfl⟩ := ht d' hd'
        exact oneLt_tup ra rb (by simpa [alike] using hs.al _ hd _ hd') (room hd) hq
      have hkeys : ∀ v, v ∈ vs → ∃ a, (dataKind s.heap ds).keyOf v = some a := fun v hv => by
        obtain ⟨d, hd, as, r⟩ := e.left v hv
        exact ⟨_, dataKind_some hs.al hd r⟩
      refine ⟨hkeys, ?_⟩
      by_cases hg : ∃ x r, ds[0]? = some (PyData.tuple (x :: r))
      · exact ⟨general', fun E x y a b Q ha hb hq => lt false E x y a b ha hb hq, fun _ E Q hq => kind_tups0 e ht h0 (fun _ => hq) fun z => absurd hg z⟩
      · exact ⟨oneType', fun E x y a b Q ha hb hq => by
          rw [keyLt'_oneType]
          exact lt true E x y a b ha hb hq, fun _ E Q hq => kind_tups0 e ht h0 (fun z => absurd z hg) fun _ => hq⟩
    · refine SortsAt.data e hs.al (.inl fun d hd => ?_) hu
      obtain ⟨xs, rfl⟩ := ht d hd
      cases xs with
      | nil => exact absurd hd h0
      | cons x r => exact ⟨x, r, rfl⟩
  · exact SortsAt.data e hs.al (.inr fun d hd => ⟨hs.nn d hd, fun xs z => hT ⟨d, hd, xs, z⟩⟩) hu
end
end Vx


set_option Elab.async false
set_option linter.all false
set_option maxRecDepth 100000
/-! Vd: trees as PyData; ==, <, sorted over trees. -/
namespace Vx
open PySem L2

mutual
def D.py : D → PyData
  | .non => .none
  | .bl b => .bool b
  | .int i => .int i
  | .str s => .str s
  | .tup l => .tuple (D.pyL l)
  | .lst l => .list (D.pyL l)
  | .frz _ => .dict []
  | .loc _ => .dict []
def D.pyL : List D → List PyData
  | [] => []
  | d :: ds => D.py d :: D.pyL ds
end
mutual
/-- plain data -/
def D.dat : D → Bool
  | .non => true
  | .bl _ => true
  | .int _ => true
  | .str s => PyData.strOk s
  | .tup l => D.datL l
  | .lst l => D.datL l
  | .frz _ => false
  | .loc _ => false
def D.datL : List D → Bool
  | [] => true
  | d :: ds => D.dat d && D.datL ds
end
mutual
def D.dep : D → Nat
  | .tup l => D.depL l + 1
  | .lst l => D.depL l + 1
  | .non => 0
  | .bl _ => 0
  | .int _ => 0
  | .str _ => 0
  | .frz _ => 0
  | .loc _ => 0
def D.depL : List D → Nat
  | [] => 0
  | d :: ds => max (D.dep d) (D.depL ds)
end
mutual
def D.eqv : D → D → Bool
  | .non, y => match y with | .non => true | _ => false
  | .bl a, y => match y with | .bl b => a == b | .int j => (if a then 1 else 0) == j | _ => false
  | .int i, y => match y with | .bl b => i == (if b then 1 else 0) | .int j => i == j | _ => false
  | .str a, y => match y with | .str b => a == b | _ => false
  | .tup xs, y => match y with | .tup ys => D.eqvL xs ys | _ => false
  | .lst xs, y => match y with | .lst ys => D.eqvL xs ys | _ => false
  | .frz _, _ => false
  | .loc _, _ => false
def D.eqvL : List D → List D → Bool
  | [], ys => match ys with | [] => true | _ :: _ => false
  | x :: xs, ys => match ys with | [] => false | y :: ys => D.eqv x y && D.eqvL xs ys
end
mutual
def D.alk : D → D → Bool
  | .non, y => match y with | .non => true | _ => false
  | .bl _, y => match y with | .bl _ => true | _ => false
  | .int _, y => match y with | .int _ => true | _ => false
  | .str _, y => match y with | .str _ => true | _ => false
  | .tup xs, y => match y with | .tup ys => D.alkL xs ys | _ => false
  | .lst xs, y => match y with | .lst ys => D.alkL xs ys | _ => false
  | .frz _, _ => false
  | .loc _, _ => false
def D.alkL : List D → List D → Bool
  | [], _ => true
  | x :: xs, ys => match ys with | [] => true | y :: ys => D.alk x y && D.alkL xs ys
end
mutual
def D.lt : D → D → Bool
  | .non, _ => false
  | .bl a, y => match y with | .bl b => !a && b | _ => false
  | .int i, y => match y with | .int j => decide (i < j) | _ => false
  | .str a, y => match y with | .str b => decide (a.cps.toList < b.cps.toList) | _ => false
  | .tup xs, y => match y with | .tup ys => D.ltL xs ys | _ => false
  | .lst xs, y => match y with | .lst ys => D.ltL xs ys | _ => false
  | .frz _, _ => false
  | .loc _, _ => false
def D.ltL : List D → List D → Bool
  | [], ys => match ys with | [] => false | _ :: _ => true
  | x :: xs, ys => match ys with | [] => false | y :: ys => if D.eqv x y = true then D.ltL xs ys else D.lt x y
end

theorem pyL_map : ∀ ds : List D, D.pyL ds = ds.map D.py
  | [] => rfl
  | d :: ds => by rw [D.pyL, pyL_map ds]; rfl
mutual
theorem eqv_py : ∀ x y : D, x.dat = true → y.dat = true → D.eqv x y = PyData.eqv x.py y.py
  | .non, y, _, h => by cases y <;> first | (simp [D.dat] at h; done) | simp [D.eqv, D.py, PyData.eqv]
  | .bl a, y, _, h => by cases y <;> first | (simp [D.dat] at h; done) | simp [D.eqv, D.py, PyData.eqv]
  | .int a, y, _, h => by cases y <;> first | (simp [D.dat] at h; done) | simp [D.eqv, D.py, PyData.eqv]
  | .str a, y, _, h => by cases y <;> first | (simp [D.dat] at h; done) | simp [D.eqv, D.py, PyData.eqv]
  | .tup xs, y, h0, h => by
    cases y with
    | tup ys => simp only [D.eqv, D.py, PyData.eqv]; exact eqvL_py xs ys (by simpa [D.dat] using h0) (by simpa [D.dat] using h)
    | _ => first | (simp [D.dat] at h; done) | simp [D.eqv, D.py, PyData.eqv]
  | .lst xs, y, h0, h => by
    cases y with
    | lst ys => simp only [D.eqv, D.py, PyData.eqv]; exact eqvL_py xs ys (by simpa [D.dat] using h0) (by simpa [D.dat] using h)
    | _ => first | (simp [D.dat] at h; done) | simp [D.eqv, D.py, PyData.eqv]
  | .frz _, _, h, _ => by simp [D.dat] at h
  | .loc _, _, h, _ => by simp [D.dat] at h
theorem eqvL_py : ∀ xs ys : List D, D.datL xs = true → D.datL ys = true → D.eqvL xs ys = PyData.eqvAll (D.pyL xs) (D.pyL ys)
  | [], ys, _, h => by cases ys <;> simp [D.eqvL, D.pyL, PyData.eqvAll]
  | x :: xs, ys, h0, h => by
    cases ys with
    | nil => simp [D.eqvL, D.pyL, PyData.eqvAll]
    | cons y ys =>
      rw [D.datL, Bool.and_eq_true] at h0 h
      simp only [D.eqvL, D.pyL, PyData.eqvAll]
      rw [eqv_py x y h0.1 h.1, eqvL_py xs ys h0.2 h.2]
end
mutual
theorem alk_py : ∀ x y : D, D.alk x y = true → PySem.W.alike x.py y.py = true
  | .non, y, h => by cases y <;> simp_all [D.alk, D.py, PySem.W.alike]
  | .bl a, y, h => by cases y <;> simp_all [D.alk, D.py, PySem.W.alike]
  | .int a, y, h => by cases y <;> simp_all [D.alk, D.py, PySem.W.alike]
  | .str a, y, h => by cases y <;> simp_all [D.alk, D.py, PySem.W.alike]
  | .tup xs, y, h => by
    cases y with
    | tup ys => simp only [D.alk] at h; simp only [D.py, PySem.W.alike]; exact alkL_py xs ys h
    | _ => simp [D.alk] at h
  | .lst xs, y, h => by
    cases y with
    | lst ys => simp only [D.alk] at h; simp only [D.py, PySem.W.alike]; exact alkL_py xs ys h
    | _ => simp [D.alk] at h
  | .frz _, _, h => by simp [D.alk] at h
  | .loc _, _, h => by simp [D.alk] at h
theorem alkL_py : ∀ xs ys : List D, D.alkL xs ys = true → PySem.W.alikeAll (D.pyL xs) (D.pyL ys) = true
  | [], ys, h => by cases ys <;> simp [D.pyL, PySem.W.alikeAll]
  | x :: xs, ys, h => by
    cases ys with
    | nil => simp [D.pyL, PySem.W.alikeAll]
    | cons y ys =>
      simp only [D.alkL, Bool.and_eq_true] at h
      simp only [D.pyL, PySem.W.alikeAll, Bool.and_eq_true]
      exact ⟨alk_py x y h.1, alkL_py xs ys h.2⟩
end
mutual
theorem lt_py : ∀ x y : D, x.dat = true → y.dat = true → D.alk x y = true → D.lt x y = PySem.W.dataLt x.py y.py
  | .non, y, _, _, h => by
    cases y with
    | non => simp only [D.lt, D.py]; unfold PySem.W.dataLt; exact (PyProof.Rows.lex_irrefl _).symm
    | _ => simp [D.alk] at h
  | .bl a, y, _, _, h => by
    cases y with
    | bl b => simp only [D.lt, D.py, PySem.W.dataLt_bool]; cases a <;> cases b <;> decide
    | _ => simp [D.alk] at h
  | .int a, y, _, _, h => by
    cases y with
    | int b => simp only [D.lt, D.py, PySem.W.dataLt_int]
    | _ => simp [D.alk] at h
  | .str a, y, _, _, h => by
    cases y with
    | str b => simp only [D.lt, D.py, PySem.W.dataLt_str]
    | _ => simp [D.alk] at h
  | .tup xs, y, h0, h1, h => by
    cases y with
    | tup ys => simp only [D.lt, D.py, PySem.W.dataLt_tuple]; exact ltL_py xs ys (by simpa [D.dat] using h0) (by simpa [D.dat] using h1) (by simpa [D.alk] using h)
    | _ => simp [D.alk] at h
  | .lst xs, y, h0, h1, h => by
    cases y with
    | lst ys => simp only [D.lt, D.py, PySem.W.dataLt_list]; exact ltL_py xs ys (by simpa [D.dat] using h0) (by simpa [D.dat] using h1) (by simpa [D.alk] using h)
    | _ => simp [D.alk] at h
  | .frz _, _, h, _, _ => by simp [D.dat] at h
  | .loc _, _, h, _, _ => by simp [D.dat] at h
theorem ltL_py : ∀ xs ys : List D, D.datL xs = true → D.datL ys = true → D.alkL xs ys = true → D.ltL xs ys = PyProof.Rows.lexLt PyProof.Rows.itemOrd (PySem.W.keyToksAll (D.pyL xs)) (PySem.W.keyToksAll (D.pyL ys))
  | [], ys, _, _, h => by
    cases ys with
    | nil => simp only [D.ltL, D.pyL]; exact (PyProof.Rows.lex_irrefl _).symm
    | cons y ys =>
      simp only [D.ltL, D.pyL]
      rw [PySem.W.toks_all_cons]
      simp only [PySem.W.keyToksAll]
      rw [PyProof.Rows.lex_diff (O := PyProof.Rows.itemOrd) (by simp)]
      simp [PyProof.Rows.itemLt]
  | x :: xs, ys, h0, h1, h => by
    cases ys with
    | nil =>
      simp only [D.ltL, D.pyL]
      rw [PySem.W.toks_all_cons]
      simp only [PySem.W.keyToksAll]
      rw [PyProof.Rows.lex_diff (O := PyProof.Rows.itemOrd) (by simp)]
      simp [PyProof.Rows.itemLt]
    | cons y ys =>
      rw [D.datL, Bool.and_eq_true] at h0 h1
      simp only [D.alkL, Bool.and_eq_true] at h
      simp only [D.ltL, D.pyL]
      rw [PySem.W.dataLt_cons (alk_py x y h.1), ← eqv_py x y h0.1 h1.1, ltL_py xs ys h0.2 h1.2 h.2, lt_py x y h0.1 h1.1 h.1]
end

/-! ### a stable insertion sort -/
section
variable {α : Type} (le : α → α → Bool)
def ins (x : α) : List α → List α
  | [] => [x]
  | y :: ys => if le x y = true then x :: y :: ys else y :: ins x ys
def isort : List α → List α
  | [] => []
  | x :: xs => ins le x (isort xs)
variable {le}
theorem ins_mem {x z : α} : ∀ {l : List α}, z ∈ ins le x l ↔ z = x ∨ z ∈ l
  | [] => by simp [ins]
  | y :: ys => by
    unfold ins
    split
    · simp
    · simp only [List.mem_cons, ins_mem (l := ys)]
      constructor
      · rintro (h | h | h)
        · exact .inr (.inl h)
        · exact .inl h
        · exact .inr (.inr h)
      · rintro (h | h | h)
        · exact .inr (.inl h)
        · exact .inl h
        · exact .inr (.inr h)
theorem isort_mem {z : α} : ∀ {l : List α}, z ∈ isort le l ↔ z ∈ l
  | [] => by simp [isort]
  | x :: xs => by unfold isort; rw [ins_mem, isort_mem (l := xs), List.mem_cons]
theorem ins_length {x : α} : ∀ {l : List α}, (ins le x l).length = l.length + 1
  | [] => rfl
  | y :: ys => by unfold ins; split <;> simp [ins_length (l := ys)]
theorem isort_length : ∀ {l : List α}, (isort le l).length = l.length
  | [] => rfl
  | x :: xs => by unfold isort; rw [ins_length, isort_length (l := xs)]; rfl
theorem ins_pw (h : PySem.W.TotalLe le) {x : α} : ∀ {l : List α}, l.Pairwise (fun a b => le a b = true) → (ins le x l).Pairwise (fun a b => le a b = true)
  | [], _ => by simp [ins]
  | y :: ys, p => by
    have p' := List.pairwise_cons.mp p
    unfold ins
    split
    · rename_i q
      refine List.pairwise_cons.mpr ⟨fun z hz => ?_, p⟩
      rcases List.mem_cons.mp hz with rfl | hz
      · exact q
      · exact h.trans _ _ _ q (p'.1 z hz)
    · rename_i q
      have hyx : le y x = true := (h.total x y).resolve_left q
      refine List.pairwise_cons.mpr ⟨fun z hz => ?_, ins_pw h p'.2⟩
      rcases ins_mem.mp hz with rfl | hz
      · exact hyx
      · exact p'.1 z hz
theorem isort_pw (h : PySem.W.TotalLe le) : ∀ l : List α, (isort le l).Pairwise (fun a b => le a b = true)
  | [] => by simp [isort]
  | x :: xs => ins_pw h (isort_pw h xs)
theorem ins_stable (h : PySem.W.TotalLe le) {x c : α} : ∀ {l : List α}, (ins le x l).filter (PySem.W.sameRank le c) = (x :: l).filter (PySem.W.sameRank le c)
  | [] => rfl
  | y :: ys => by
    unfold ins
    split
    · rfl
    · rename_i q
      have ih := ins_stable h (x := x) (c := c) (l := ys)
      rw [List.filter_cons, ih]
      rw [List.filter_cons, List.filter_cons, List.filter_cons]
      cases hx : PySem.W.sameRank le c x with
      | false => simp
      | true =>
        cases hy : PySem.W.sameRank le c y with
        | false => simp
        | true =>
          exfalso
          unfold PySem.W.sameRank at hx hy
          rw [Bool.and_eq_true] at hx hy
          exact q (h.trans _ _ _ hx.2 hy.1)
theorem isort_stable (h : PySem.W.TotalLe le) {c : α} : ∀ l : List α, (isort le l).filter (PySem.W.sameRank le c) = l.filter (PySem.W.sameRank le c)
  | [] => rfl
  | x :: xs => by
    unfold isort
    rw [ins_stable h, List.filter_cons, List.filter_cons, isort_stable h xs]
theorem isort_merge (h : PySem.W.TotalLe le) (l : List α) : isort le l = l.mergeSort le := PySem.W.sort_unique h (isort_pw h l) fun _ => isort_stable h l
theorem ins_congr {le' : α → α → Bool} {x : α} : ∀ {l : List α}, (∀ y ∈ l, le x y = le' x y) → ins le x l = ins le' x l
  | [], _ => rfl
  | y :: ys, h => by
    unfold ins
    rw [h y List.mem_cons_self, ins_congr fun z hz => h z (List.mem_cons_of_mem _ hz)]
theorem isort_congr {le' : α → α → Bool} : ∀ {l : List α}, (∀ x ∈ l, ∀ y ∈ l, le x y = le' x y) → isort le l = isort le' l
  | [], _ => rfl
  | x :: xs, h => by
    unfold isort
    rw [← isort_congr (l := xs) fun a ha b hb => h a (List.mem_cons_of_mem _ ha) b (List.mem_cons_of_mem _ hb)]
    exact ins_congr fun y hy => h x List.mem_cons_self y (List.mem_cons_of_mem _ (isort_mem.mp hy))
end
/-- Python's order -/
def D.le (x y : D) : Bool := !D.lt y x
def isN : D → Bool
  | .non => true
  | _ => false
/-- what sorted takes -/
def srt (ds : List D) : Bool := D.datL ds && decide (D.depL ds ≤ 60) && ds.all (fun x => !isN x && ds.all fun y => D.alk x y)
theorem datL_mem : ∀ {ds : List D}, D.datL ds = true → ∀ d ∈ ds, d.dat = true
  | d :: ds, h, x, hx => by
    rw [D.datL, Bool.and_eq_true] at h
    rcases List.mem_cons.mp hx with rfl | hx
    · exact h.1
    · exact datL_mem h.2 x hx
theorem depL_mem : ∀ {ds : List D} {n : Nat}, D.depL ds ≤ n → ∀ d ∈ ds, d.dep ≤ n
  | d :: ds, n, h, x, hx => by
    rw [D.depL] at h
    rcases List.mem_cons.mp hx with rfl | hx
    · omega
    · exact depL_mem (by omega) x hx
mutual
theorem dep_py : ∀ d : D, d.dat = true → d.py.depth = d.dep
  | .non, _ => rfl
  | .bl _, _ => rfl
  | .int _, _ => rfl
  | .str _, _ => rfl
  | .tup l, h => by simp only [D.py, D.dep, PyData.depth]; rw [depL_py l (by simpa [D.dat] using h)]
  | .lst l, h => by simp only [D.py, D.dep, PyData.depth]; rw [depL_py l (by simpa [D.dat] using h)]
  | .frz _, h => by simp [D.dat] at h
  | .loc _, h => by simp [D.dat] at h
theorem depL_py : ∀ l : List D, D.datL l = true → PyData.depthAll (D.pyL l) = D.depL l
  | [], _ => rfl
  | d :: ds, h => by
    rw [D.datL, Bool.and_eq_true] at h
    simp only [D.pyL, D.depL, PyData.depthAll]
    rw [dep_py d h.1, depL_py ds h.2]
end
mutual
theorem lay_py : ∀ d : D, d.dat = true → d.py.canLay0 = true
  | .non, _ => by simp [D.py, PyData.canLay0]
  | .bl _, _ => by simp [D.py, PyData.canLay0]
  | .int _, _ => by simp [D.py, PyData.canLay0]
  | .str _, h => by simpa [D.py, PyData.canLay0, D.dat] using h
  | .tup l, h => by simp only [D.py, PyData.canLay0]; exact layL_py l (by simpa [D.dat] using h)
  | .lst l, h => by simp only [D.py, PyData.canLay0]; exact layL_py l (by simpa [D.dat] using h)
  | .frz _, h => by simp [D.dat] at h
  | .loc _, h => by simp [D.dat] at h
theorem layL_py : ∀ l : List D, D.datL l = true → PyData.canLayAll0 (D.pyL l) = true
  | [], _ => by simp [D.pyL, PyData.canLayAll0]
  | d :: ds, h => by
    rw [D.datL, Bool.and_eq_true] at h
    simp only [D.pyL, PyData.canLayAll0, Bool.and_eq_true]
    exact ⟨lay_py d h.1, layL_py ds h.2⟩
end
theorem shaped_py {d : D} (h : d.dat = true) (h2 : d.dep ≤ 64) : SeqAt.shaped d.py = true := by
  unfold SeqAt.shaped
  rw [Bool.and_eq_true]
  exact ⟨lay_py d h, decide_eq_true (by rw [dep_py d h]; exact h2)⟩
mutual
theorem Rep.dp {K : PySem.W.Frag} {w : Wd} : ∀ {d : D} {v : V}, Rep K w v d → d.dat = true → Dp K w.H v d.py
  | .non, _, h, _ => by cases h; exact .non
  | .bl b, _, h, _ => by cases h; exact .bl b
  | .int i, _, h, _ => by cases h; exact .int i
  | .str s, _, h, _ => by cases h; exact .str s
  | .tup l, _, h, q => by cases h with | tup h1 h2 => exact .tup h1 (RepL.dp h2 (by simpa [D.dat] using q))
  | .lst l, _, h, q => by cases h with | lst h0 h1 h2 => exact .lst (SqL.of h1) (RepL.dp h2 (by simpa [D.dat] using q))
  | .frz _, _, _, q => by simp [D.dat] at q
  | .loc _, _, _, q => by simp [D.dat] at q
theorem RepL.dp {K : PySem.W.Frag} {w : Wd} : ∀ {ds : List D} {vs : List V}, RepL K w vs ds → D.datL ds = true → DpAll K w.H vs (D.pyL ds)
  | [], _, h, _ => by cases h; exact .nil
  | d :: ds, _, h, q => by
    rw [D.datL, Bool.and_eq_true] at q
    cases h with
    | cons h1 h2 => exact .cons (Rep.dp h1 q.1) (RepL.dp h2 q.2)
end
end Vx


set_option Elab.async false
set_option linter.all false
set_option maxRecDepth 100000
/-! Vq: sorted(xs) of a list or a tuple of data, as a rule on values. -/
namespace Vx
open PySem PySem.W PySem.Calls PyProof.Rows L2

section
variable {prog : Program} {w : World} {A : Around} {E : Value → Shared → Prop} {s : Shared}
/-- the items of a tuple, collected -/
theorem collect_tup {l : Addr} {vs : List Value} {Q : List Value → Shared → Prop} (hl : IsTup s.heap l vs.toArray)
    (h : Q vs { s with heap := (s.heap.push (seqObj "list" #[] 0)).update s.heap.objs.size (Obj.mapSeq (· ++ vs.toArray)) }) (hsz : vs.length ≤ sizeLine) :
    wpAny (model prog w) A (collect (.ref l)) Q E s := by
  obtain ⟨o, ho, hc, n, hd⟩ := id hl
  unfold collect
  refine wpAny_bind (wpAny_runValue (codeAny_builtin entry_proto_collect' ?_))
  show wpAny _ _ (do again (.builtin "list.__iadd__" ⟨[← newList [], .ref l], []⟩)) _ _ s
  refine wpAny_bind (wpAny_newList (wpAny_pure ⟨Code.quiet_builtin _ (by decide +kernel), codeAny_builtin entry_list_iadd' ?_⟩))
  show wpAny _ _ (Builtin.List.listExtendWith (.ref s.heap.objs.size) (.ref l) (.ref s.heap.objs.size)) _ _ { s with heap := s.heap.push (seqObj "list" #[] 0) }
  unfold Builtin.List.listExtendWith
  have ho' : (s.heap.push (seqObj "list" #[] 0)).get? l = some o := Heap.get?_push_of_some _ ho
  refine wpAny_bind (wpAny_typeOf (T := "tuple") ⟨o, ho', hc⟩ ?_)
  have ht : (Value.type "tuple" == Value.type "tuple") = true := by rfl
  rw [if_pos (by simp [ht])]
  refine wpAny_bind (listItems_at ho' hd ?_)
  refine wpAny_bind (listItems_at (xs := #[]) (n := 0) (Heap.get?_push_size _ rfl) rfl ?_)
  rw [if_neg (by simp)]
  refine wpAny_bind (listUpdate_at (xs := #[]) (n := 0) (Heap.get?_push_size _ rfl) rfl ?_ (Nat.zero_le _) (by show (#[] ++ vs.toArray).size ≤ sizeLine + 1; simp only [Array.size_append, List.size_toArray, List.length_nil]; omega))
  refine wpAny_pure ?_
  show wpAny (model prog w) A (do
      let o ← load s.heap.objs.size
      match o.data with
      | .seq xs _ => pure xs.toList
      | _ => unsupported "internal:collect") Q E { s with heap := (s.heap.push (seqObj "list" #[] 0)).update s.heap.objs.size (Obj.mapSeq (· ++ vs.toArray)) }
  refine wpAny_bind (wpAny_load (get?_update_seq (Heap.get?_push_size _ rfl) _) ?_)
  show wpAny _ _ (pure ((#[] : Array Value) ++ vs.toArray).toList) Q E _
  rw [show ((#[] : Array Value) ++ vs.toArray).toList = vs by simp]
  exact wpAny_pure h

/-- sorted(t), t a tuple -/
theorem sorted_tupV {κ : PyProof.Rows.KeyKind} {l : Addr} {vs : List Value} {Q : Value → Shared → Prop} (hl : IsTup s.heap l vs.toArray) (S : SortsAt prog w A.in1.in1 { s with heap := sortingHeap (copyHeap s.heap vs) (s.heap.objs.size + 1) vs } κ vs) (hL : vs.length ≤ sizeLine)
    (h : Q (.ref (s.heap.objs.size + 1)) { s with heap := sortedAll s.heap vs (sortVals κ false vs vs).toArray }) : wpAny (model prog w) A (call (.builtin "sorted") [.ref l]) Q E s := by
  refine call_function_entry_kw kind_sorted plain_sorted entry_sorted (args_sorted1 _) ?_
  unfold Builtin.«sorted»
  refine wpAny_bind (m := checkCount "sorted" 1 1 _) (wpAny_pure ?_)
  refine wpAny_bind (collect_tup hl ?_ hL)
  refine wpAny_bind (wpAny_newList ?_ hL)
  have hsz : ((s.heap.push (seqObj "list" #[] 0)).update s.heap.objs.size (Obj.mapSeq (· ++ vs.toArray))).objs.size = s.heap.objs.size + 1 := by
    rw [Heap.size_update, size_push']
  show wpAny _ _ _ _ _ { s with heap := copyHeap s.heap vs }
  rw [hsz]
  refine wpAny_bind (wpAny_holding (wpAny_call_entry_kw slot_list_sort ⟨_, copyHeap_at s.heap vs, rfl⟩ entry_list_sort ?body (args_list_sort _)))
  case body =>
    show wpAny (model prog w) A.in1.in1 (Builtin.«list.sort» ⟨[.ref (s.heap.objs.size + 1)], []⟩) _ _ _
    exact list_sort_vals (s := { s with heap := copyHeap s.heap vs }) (copyHeap_at s.heap vs) S hL ⟨_, rfl, wpAny_pure ⟨_, rfl, h⟩⟩
end

theorem ins_map {α β : Type} {le : α → α → Bool} {le' : β → β → Bool} (f : α → β) (h : ∀ a b, le a b = le' (f a) (f b)) {x : α} : ∀ l : List α, (ins le x l).map f = ins le' (f x) (l.map f)
  | [] => rfl
  | y :: ys => by
    simp only [ins, List.map_cons, h]
    split
    · rfl
    · rw [List.map_cons, ins_map f h ys]
theorem isort_map {α β : Type} {le : α → α → Bool} {le' : β → β → Bool} (f : α → β) (h : ∀ a b, le a b = le' (f a) (f b)) : ∀ l : List α, (isort le l).map f = isort le' (l.map f)
  | [] => rfl
  | x :: xs => by simp only [isort, List.map_cons]; rw [ins_map f h, isort_map f h xs]

theorem srt_srtb {ds : List D} (h : srt ds = true) : Srtb (ds.map D.py) ∧ (∀ x ∈ ds, ∀ y ∈ ds, D.le x y = PySem.W.dataLe false D.py x y) ∧ D.datL ds = true ∧ D.depL ds ≤ 60 := by
  unfold srt at h
  simp only [Bool.and_eq_true, List.all_eq_true, decide_eq_true_eq] at h
  obtain ⟨⟨h1, h2⟩, h3⟩ := h
  refine ⟨⟨fun d hd d' hd' => ?_, fun d hd => ?_⟩, fun x hx y hy => ?_, h1, h2⟩
  · obtain ⟨x, hx, rfl⟩ := List.mem_map.mp hd
    obtain ⟨y, hy, rfl⟩ := List.mem_map.mp hd'
    exact alk_py x y ((h3 x hx).2 y hy)
  · obtain ⟨x, hx, rfl⟩ := List.mem_map.mp hd
    have q := (h3 x hx).1
    cases x <;> first | (simp [isN] at q; done) | simp [D.py]
  · show (!D.lt y x) = _
    rw [lt_py y x (datL_mem h1 y hy) (datL_mem h1 x hx) ((h3 y hy).2 x hx)]
    rfl

/-- sorted(xs) -/
def rSortD (K : PySem.W.Frag) : List V → Hp → VK → Prop := fun vs H Q => ∃ (a : Addr) (ps : List (D × V)), vs = [.ref a] ∧ (SqL K H a (ps.map (·.2)) ∨ SqT K H a (ps.map (·.2))) ∧ (∀ p ∈ ps, Dp K H p.2 p.1.py) ∧ srt (ps.map (·.1)) = true ∧
  ∀ p, H p = none → Q (.ref p) (upd H p (.lst ((isort (fun a b : D × V => D.le a.1 b.1) ps).map (·.2))))
theorem eachV {ps : List (D × V)} : ∀ {us : List Value}, Vals (ps.map (·.2)) us → EachIs (fun u (p : D × V) => RelV p.2 u) us ps := by
  induction ps with
  | nil => intro us h; cases h; exact .nil
  | cons p ps ih =>
    intro us h
    cases h with
    | cons h1 h2 => exact .cons h1 (ih h2)
theorem valsE {ps : List (D × V)} : ∀ {us : List Value}, EachIs (fun u (p : D × V) => RelV p.2 u) us ps → Vals (ps.map (·.2)) us := by
  induction ps with
  | nil => intro us h; cases h; exact .nil
  | cons p ps ih =>
    intro us h
    cases h with
    | cons h1 h2 => exact .cons h1 (ih h2)
theorem cr_sortD {X : Cx} (hu : X.A.units + 64 < cLine) : CallR X (.builtin "sorted") (rSortD X.K) := by
  intro pins s σ H xs us Q I r h
  obtain ⟨a, ps, rfl, hs, hd, hsr, q⟩ := h
  obtain ⟨u, rfl, ru⟩ := vals1 r
  obtain rfl : u = Value.ref a := ru
  obtain ⟨sb, hle, hdat, hdep⟩ := srt_srtb hsr
  have hpy : ps.map (fun p => p.1.py) = (ps.map (·.1)).map D.py := by rw [List.map_map]; rfl
  -- the sort of the items, in any heap that keeps what stands
  have main : ∀ (its : List Value) (h' : Heap), Vals (ps.map (·.2)) its → (∀ b o, s.heap.get? b = some o → h'.get? b = some o) → ∃ κ : PyProof.Rows.KeyKind, SortsAt X.prog X.w X.A.in1.in1 { s with heap := h' } κ its ∧
      EachIs (fun u (p : D × V) => RelV p.2 u) (sortVals κ false its its) (isort (fun a b : D × V => D.le a.1 b.1) ps) := by
    intro its h' rv kp
    have e := eachV rv
    have er : EachIs (fun u (p : D × V) => ∃ as, Reads h' u p.1.py as) its ps := by
      have e2 := each_mem e
      refine e2.mono fun u p ⟨r1, hp⟩ => ?_
      obtain ⟨as, rd⟩ := Dp.reads I p.1.py p.2 u (hd p hp) r1
      exact ⟨as, PyProof.Rows.Reads.keeps (fun _ _ z => kp _ _ z) rd⟩
    have hal : AllAlike (ps.map (fun p => p.1.py)) := by rw [hpy]; exact sb.al
    refine ⟨dataKind h' (ps.map (fun p => p.1.py)), SortsAt_any (s := { s with heap := h' }) (each_map (R := fun v d => ∃ as, Reads h' v d as) (fun p : D × V => p.1.py) er) (by rw [hpy]; exact sb) (fun d hd' => ?_), ?_⟩
    · obtain ⟨p, hp, rfl⟩ := List.mem_map.mp hd'
      have h1 : p.1 ∈ ps.map (·.1) := List.mem_map.mpr ⟨p, hp, rfl⟩
      rw [dep_py p.1 (datL_mem hdat _ h1)]
      have h2 := depL_mem hdep _ h1
      show X.A.units + 1 + 1 + _ < cLine
      omega
    · have t := sortVals_data (h' := h') (R := fun u (p : D × V) => RelV p.2 u) (enc := fun p : D × V => p.1.py) false e er hal
      have e3 : isort (fun a b : D × V => D.le a.1 b.1) ps = ps.mergeSort (dataLe false fun p : D × V => p.1.py) := by
        have tl : TotalLe (dataLe false fun p : D × V => p.1.py) := sortLe_total (listOrd itemOrd) false fun p : D × V => keyToks p.1.py
        rw [← isort_merge tl ps]
        refine isort_congr fun x hx y hy => ?_
        rw [hle x.1 (List.mem_map.mpr ⟨x, hx, rfl⟩) y.1 (List.mem_map.mpr ⟨y, hy, rfl⟩)]
        rfl
      rw [e3]
      exact t
  have hlen : ∀ {its : List Value}, Vals (ps.map (·.2)) its → ps.length = its.length := fun rv => by have := rv.length; simpa using this
  have fin : ∀ (its : List Value) (κ : PyProof.Rows.KeyKind), Vals (ps.map (·.2)) its → its.length ≤ sizeLine → EachIs (fun u (p : D × V) => RelV p.2 u) (sortVals κ false its its) (isort (fun a b : D × V => D.le a.1 b.1) ps) →
      EP X pins σ Q (.ref (s.heap.objs.size + 1)) { s with heap := sortedAll s.heap its (sortVals κ false its its).toArray } := fun its κ rv hz eo => by
    have hp : s.heap.objs.size ≤ s.heap.objs.size + 1 := Nat.le_succ _
    obtain ⟨n, hn⟩ := sortedAll_at s.heap its (sortVals κ false its its).toArray
    refine ⟨.ref (s.heap.objs.size + 1), _, I.laid (t' := s.toks) (fun b o e => sortedAll_old e) hp (o := .lst ((isort (fun a b : D × V => D.le a.1 b.1) ps).map (·.2))) ⟨?_, _, n, valsE eo, hn⟩, rfl, q _ (I.hok.fresh hp)⟩
    rw [List.length_map, isort_length, hlen rv]
    exact hz
  rcases hs with hs | hs
  · obtain ⟨its, rv, pl, hz⟩ := I.list hs
    have hz' : its.length ≤ sizeLine := by rw [← rv.length]; exact hz
    obtain ⟨κ, S, eo⟩ := main its (sortingHeap (copyHeap s.heap its) (s.heap.objs.size + 1) its) rv fun b o e => sorting_copy_old e
    exact sorted_vals pl.isList S hz' (fin its κ rv hz' eo)
  · obtain ⟨its, rv, pl, hz⟩ := I.tuple hs
    have hz' : its.length ≤ sizeLine := by rw [← rv.length]; exact hz
    obtain ⟨κ, S, eo⟩ := main its (sortingHeap (copyHeap s.heap its) (s.heap.objs.size + 1) its) rv fun b o e => sorting_copy_old e
    exact sorted_tupV pl S hz' (fin its κ rv hz' eo)
end Vx


set_option Elab.async false
set_option linter.all false
set_option maxRecDepth 100000
/-! Vr: the rules of expressions over trees. -/
namespace Vx
open PySem L2

/-- the longest list -/
def line : Nat := 16777216
theorem line_eq : sizeLine = line := sizeLine_eq

def eC (d : D) : EvF := fun _ st => some (.val d, st)
def eVar (i : Nat) : EvF := fun sl st => match sl[i]? with
  | some (.pub d) => some (.val d, st)
  | some (.own l) => some (.bor l, st)
  | _ => none
/-- what is new is given to all -/
def ePub (f : EvF) : EvF := fun sl st => match f sl st with
  | some (.val d, st') => some (.val d, st')
  | some (.prv l, st') => some (.val (.lst l), st')
  | _ => none
def e1 (f : EvF) (c : Amb → D → Option R) : EvF := fun sl st => (f sl st).bind fun p => (c p.2 p.1.d).map fun r => (r, p.2)
def e2 (f g : EvF) (c : Amb → D → D → Option R) : EvF := fun sl st => (f sl st).bind fun p => (g sl p.2).bind fun q => (c q.2 p.1.d q.1.d).map fun r => (r, q.2)
def eNil : EvA := fun _ st => some ([], st)
def eCons (f : EvF) (g : EvA) : EvA := fun sl st => (f sl st).bind fun p => (g sl p.2).map fun q => (p.1 :: q.1, q.2)
def eA (F : EvA) (c : Amb → List D → Option R) : EvF := fun sl st => (F sl st).bind fun p => (c p.2 (p.1.map R.d)).map fun r => (r, p.2)
/-- what one goes on with -/
abbrev Kon (K : PySem.W.Frag) (w : Wd) (sl : Sls) (st : Amb) (σ : St) (res : R) (Q : VK) : Prop :=
  ∀ v' w', Ok K w' sl st σ → Ext w (FootW w sl σ) w' (FootW w' sl σ) → RdR K w' sl σ v' res → Frs w v' res → Q v' w'.H
def Con1 (K : PySem.W.Frag) (rd : V → Hp → VK → Prop) (c : Amb → D → Option R) : Prop :=
  ∀ (w : Wd) (sl : Sls) (st : Amb) (σ : St) (v : V) (x res : R) (Q : VK), Ok K w sl st σ → RdR K w sl σ v x → c st x.d = some res → Kon K w sl st σ res Q → rd v w.H Q
def Con2 (K : PySem.W.Frag) (rd : R2) (c : Amb → D → D → Option R) : Prop :=
  ∀ (w : Wd) (sl : Sls) (st : Amb) (σ : St) (v u : V) (x y res : R) (Q : VK), Ok K w sl st σ → RdR K w sl σ v x → RdR K w sl σ u y → c st x.d y.d = some res → Kon K w sl st σ res Q → rd v u w.H Q
def ConA (K : PySem.W.Frag) (rd : List V → Hp → VK → Prop) (c : Amb → List D → Option R) : Prop :=
  ∀ (w : Wd) (sl : Sls) (st : Amb) (σ : St) (vs : List V) (rs : List R) (res : R) (Q : VK), Ok K w sl st σ → RdRs K w sl σ vs rs → c st (rs.map R.d) = some res → Kon K w sl st σ res Q → rd vs w.H Q

section
variable {K : PySem.W.Frag} {w : Wd} {sl : Sls} {st : Amb} {σ : St} {Q : VK}
theorem Kon.val {d : D} {v : V} (k : Kon K w sl st σ (.val d) Q) (ok : Ok K w sl st σ) (r : Rep K w v d) : Q v w.H := k v w ok Ext.refl r trivial
theorem Kon.prv {ds : List D} {vs : List V} {p : Addr} (k : Kon K w sl st σ (.prv ds) Q) (ok : Ok K w sl st σ) (hp : w.H p = none) (r : RepL K w vs ds) : Q (.ref p) (upd w.H p (.lst vs)) :=
  k (.ref p) ⟨w.al, w.S, upd w.H p (.lst vs)⟩ (ok.new hp) (ext_new hp) (prv_new ok hp r) fun a e => by cases e; exact hp
theorem Kon.tup {ds : List D} {vs : List V} {p : Addr} (k : Kon K w sl st σ (.val (.tup ds)) Q) (ok : Ok K w sl st σ) (hp : w.H p = none) (r : RepL K w vs ds) : Q (.ref p) (upd w.H p (.tup vs)) :=
  k (.ref p) ⟨w.al, w.S, upd w.H p (.tup vs)⟩ (ok.new hp) (ext_new hp) (Rep.tup (SqT.of upd_same) (repL_new hp r)) trivial
theorem e1_read {f : EvF} {rd : V → Hp → VK → Prop} {c : Amb → D → Option R} (hc : Con1 K rd c) {H : Hp} (h : tV K (e1 f c) σ H Q) : tV K f σ H fun v H1 => rd v H1 Q := by
  obtain ⟨al, S, sl, st, r, st', ok, e, k⟩ := h
  unfold e1 at e
  cases h1 : f sl st with
  | none => rw [h1] at e; cases e
  | some p =>
    obtain ⟨x, st1⟩ := p
    rw [h1] at e
    simp only [Option.bind_some] at e
    cases h2 : c st1 x.d with
    | none => rw [h2] at e; cases e
    | some res =>
      rw [h2] at e
      cases e
      refine ⟨al, S, sl, st, x, _, ok, h1, fun v w1 ok1 x1 rd1 fr1 => hc w1 sl _ σ v x _ Q ok1 rd1 h2 fun v' w' ok' x' rd' fr' => k v' w' ok' (x1.trans x') rd' (fr'.back x1)⟩
theorem e2_read {f g : EvF} {rd : R2} {c : Amb → D → D → Option R} (hc : Con2 K rd c) {H : Hp} (h : tV K (e2 f g c) σ H Q) : tV K f σ H fun v H1 => tV K g σ H1 fun u H2 => rd v u H2 Q := by
  obtain ⟨al, S, sl, st, r, st', ok, e, k⟩ := h
  unfold e2 at e
  cases h1 : f sl st with
  | none => rw [h1] at e; cases e
  | some p =>
    obtain ⟨x, st1⟩ := p
    rw [h1] at e
    simp only [Option.bind_some] at e
    cases h2 : g sl st1 with
    | none => rw [h2] at e; cases e
    | some q =>
      obtain ⟨y, st2⟩ := q
      rw [h2] at e
      simp only [Option.bind_some] at e
      cases h3 : c st2 x.d y.d with
      | none => rw [h3] at e; cases e
      | some res =>
        rw [h3] at e
        cases e
        refine ⟨al, S, sl, st, x, st1, ok, h1, fun v w1 ok1 x1 rd1 fr1 => ⟨w1.al, w1.S, sl, st1, y, _, ok1, h2, fun u w2 ok2 x2 rd2 fr2 => ?_⟩⟩
        exact hc w2 sl _ σ v u x y _ Q ok2 (rd1.ext ok1 x2) rd2 h3 fun v' w' ok' x' rd' fr' => k v' w' ok' (x1.trans (x2.trans x')) rd' (fr'.back (x1.trans x2))
theorem eA_read {F : EvA} {rd : List V → Hp → VK → Prop} {c : Amb → List D → Option R} (hc : ConA K rd c) {H : Hp} (h : tV K (eA F c) σ H Q) : tVA K F σ H fun vs H1 => rd vs H1 Q := by
  obtain ⟨al, S, sl, st, r, st', ok, e, k⟩ := h
  unfold eA at e
  cases h1 : F sl st with
  | none => rw [h1] at e; cases e
  | some p =>
    obtain ⟨x, st1⟩ := p
    rw [h1] at e
    simp only [Option.bind_some] at e
    cases h2 : c st1 (x.map R.d) with
    | none => rw [h2] at e; cases e
    | some res =>
      rw [h2] at e
      cases e
      refine ⟨al, S, sl, st, x, _, ok, h1, fun v w1 ok1 x1 rd1 _ => hc w1 sl _ σ v x _ Q ok1 rd1 h2 fun v' w' ok' x' rd' fr' => k v' w' ok' (x1.trans x') rd' (fr'.back x1)⟩
end

section
variable {X : Cx} {a b : Expr} {f g : EvF} {pos : Pos}
/-! ### names and constants -/
theorem ve_var (i : Nat) {x : Str} (hN : X.N[i]? = some x := by rfl) (hv : Vis X.env.scope x := by first | exact Or.inl rfl | exact Or.inr (Or.inl rfl) | exact Or.inr (Or.inr rfl)) (hd : (x == ("__debug__" : Str)) = false := by decide)
    (hcd : (x == ("__classdict__" : Str)) = false := by decide) : VE X (.Name x pos) (eVar i) := by
  refine PEimp (pe_var hN hv hd hcd) fun σ H Q h => ?_
  obtain ⟨al, S, sl, st, r, st', ok, e, k⟩ := h
  unfold eVar at e
  cases h1 : sl[i]? with
  | none => rw [h1] at e; cases e
  | some s =>
    rw [h1] at e
    cases s with
    | un => cases e
    | pub d =>
      cases e
      obtain ⟨v, e1, r1⟩ := ok.pub i d h1
      exact ⟨v, e1, k v ⟨al, S, H⟩ ok Ext.refl r1 trivial⟩
    | own l =>
      cases e
      obtain ⟨p, vs, e1, e2, e3, s, m⟩ := ok.own i l h1
      exact ⟨.ref p, e1, k (.ref p) ⟨al, S, H⟩ ok Ext.refl ⟨i, p, h1, e1, rfl⟩ trivial⟩
theorem ve_const {v : V} {d : D} (h : PE X a (tC v)) (r : ∀ w, Rep X.K w v d) : VE X a (eC d) := by
  refine PEimp h fun σ H Q h => ?_
  obtain ⟨al, S, sl, st, r', st', ok, e, k⟩ := h
  cases e
  exact k v ⟨al, S, H⟩ ok Ext.refl (r _) trivial
theorem ve_int {i : Int} {j} : VE X (.Constant (.int i) j pos) (eC (.int i)) := ve_const pe_int fun _ => .int i
theorem ve_bl {b : Bool} {j} : VE X (.Constant (.bool b) j pos) (eC (.bl b)) := ve_const pe_bl fun _ => .bl b
theorem ve_non {j} : VE X (.Constant .none j pos) (eC .non) := ve_const pe_non fun _ => .non
theorem ve_str {s : Str} {j} : VE X (.Constant (.str s) j pos) (eC (.str s)) := ve_const pe_str fun _ => .str s
theorem ve_glob {x : Str} {v : V} {u : Value} {d : D} (hg : Gl X x) (hm : X.mg x = some u) (r : RelV v u) (rd : ∀ w, Rep X.K w v d) (hd : (x == ("__debug__" : Str)) = false := by decide) : VE X (.Name x pos) (eC d) := ve_const (pe_glob hg hm r hd) rd
theorem ve_pub (ha : VE X a f) : VE X a (ePub f) := by
  refine PEimp ha fun σ H Q h => ?_
  obtain ⟨al, S, sl, st, r, st', ok, e, k⟩ := h
  unfold ePub at e
  cases h1 : f sl st with
  | none => rw [h1] at e; cases e
  | some p =>
    obtain ⟨x, st1⟩ := p
    rw [h1] at e
    cases x with
    | val d => cases e; exact ⟨al, S, sl, st, .val d, _, ok, h1, k⟩
    | bor d => cases e
    | prv l =>
      cases e
      refine ⟨al, S, sl, st, .prv l, _, ok, h1, fun v w1 ok1 x1 rd1 fr1 => ?_⟩
      obtain ⟨S', _, ok2, r2, x2⟩ := prv_pub ok1 rd1
      exact k v ⟨w1.al, S', w1.H⟩ ok2 (x2 (w0 := ⟨al, S, H⟩) x1 fun a e => .inl (fr1 a e)) r2 trivial
/-! ### operators -/
theorem ve_bin {op : Operator} {rd : R2} {c : Amb → D → D → Option R} (ho : OpR X (binaryOp op) rd) (hc : Con2 X.K rd c) (ha : VE X a f) (hb : VE X b g) : VE X (.BinOp a op b pos) (e2 f g c) :=
  PEimp (pe_op ho ha hb) fun σ H Q h => e2_read hc h
theorem ve_cmp {op : CmpOp} {rd : R2} {c : Amb → D → D → Option R} (ho : OpR X (compareOp op) rd) (hc : Con2 X.K rd c) (ha : VE X a f) (hb : VE X b g) (hm : behindInMarks op b = false) : VE X (.Compare a [op] [b] pos) (e2 f g c) :=
  PEimp (pe_cmpR ho ha hb hm) fun σ H Q h => e2_read hc h
def bV (c : Amb → D → D → Option Bool) : Amb → D → D → Option R := fun st x y => (c st x y).map fun b => .val (.bl b)
/-- a truth value as a test -/
def eT (f : EvF) : EvB := fun sl st => match f sl st with
  | some (.val (.bl b), st') => some (b, st')
  | _ => none
theorem eT_read {K : PySem.W.Frag} {σ : St} {H : Hp} {Q : Bool → Hp → Prop} (h : tVB K (eT f) σ H Q) : tV K f σ H fun x H1 => ∃ c, x = .bl c ∧ Q c H1 := by
  obtain ⟨al, S, sl, st, r, st', ok, e, k⟩ := h
  unfold eT at e
  cases h1 : f sl st with
  | none => rw [h1] at e; cases e
  | some p =>
    obtain ⟨x, st1⟩ := p
    rw [h1] at e
    cases x with
    | prv l => cases e
    | bor l => cases e
    | val d =>
      cases d <;> cases e
      refine ⟨al, S, sl, st, _, _, ok, h1, fun v w1 ok1 x1 rd1 fr1 => ?_⟩
      cases rd1
      exact ⟨_, rfl, k w1 ok1 x1⟩
theorem vt_cmp {op : CmpOp} {rd : R2} {c : Amb → D → D → Option R} (ho : OpR X (compareOp op) rd) (hc : Con2 X.K rd c) (ha : VE X a f) (hb : VE X b g) (hm : behindInMarks op b = false) : VT X (.Compare a [op] [b] pos) (eT (e2 f g c)) := by
  refine PTimp (pt_cmpR ho ha hb hm) fun σ H Q h => ?_
  exact e2_read hc (eT_read h)
theorem vt_val (ha : VE X a f) (he : ∀ whole, isTrue a X.env whole = (do let v ← whole; standAt a.pos; holding [v] (truthy v)) := by intro _; rfl) : VT X a (eT f) :=
  PTimp (pt_val ha he) fun σ H Q h => eT_read h
/-! ### tests -/
def tAndB (f g : EvB) : EvB := fun sl st => (f sl st).bind fun p => if p.1 = true then g sl p.2 else some (false, p.2)
def tOrB (f g : EvB) : EvB := fun sl st => (f sl st).bind fun p => if p.1 = true then some (true, p.2) else g sl p.2
def tNotB (f : EvB) : EvB := fun sl st => (f sl st).map fun p => (!p.1, p.2)
abbrev VW (X : Cx) (e : Expr) (f : EvB) : Prop := PW X e (tVB X.K f)
variable {F G : EvB} {rest : List Expr}
theorem vw_and1 (ha : VT X a F) : VW X (.BoolOp .And [a] pos) F := pw_and1 ha
theorem vw_or1 (ha : VT X a F) : VW X (.BoolOp .Or [a] pos) F := pw_or1 ha
theorem vw_and (ha : VT X a F) (hb : VW X (.BoolOp .And (b :: rest) pos) G) : VW X (.BoolOp .And (a :: b :: rest) pos) (tAndB F G) := by
  refine PWimp (pw_and ha hb) fun σ H Q h => ?_
  obtain ⟨al, S, sl, st, r, st', ok, e, k⟩ := h
  unfold tAndB at e
  cases h1 : F sl st with
  | none => rw [h1] at e; cases e
  | some p =>
    obtain ⟨c, st1⟩ := p
    rw [h1] at e
    simp only [Option.bind_some] at e
    refine ⟨al, S, sl, st, c, st1, ok, h1, fun w1 ok1 x1 => ?_⟩
    cases c with
    | true => exact ⟨w1.al, w1.S, sl, st1, r, st', ok1, by simpa using e, fun w2 ok2 x2 => k w2 ok2 (x1.trans x2)⟩
    | false =>
      simp only [Bool.false_eq_true, if_false] at e
      cases e
      exact k w1 ok1 x1
theorem vw_or (ha : VT X a F) (hb : VW X (.BoolOp .Or (b :: rest) pos) G) : VW X (.BoolOp .Or (a :: b :: rest) pos) (tOrB F G) := by
  refine PWimp (pw_or ha hb) fun σ H Q h => ?_
  obtain ⟨al, S, sl, st, r, st', ok, e, k⟩ := h
  unfold tOrB at e
  cases h1 : F sl st with
  | none => rw [h1] at e; cases e
  | some p =>
    obtain ⟨c, st1⟩ := p
    rw [h1] at e
    simp only [Option.bind_some] at e
    refine ⟨al, S, sl, st, c, st1, ok, h1, fun w1 ok1 x1 => ?_⟩
    cases c with
    | false => exact ⟨w1.al, w1.S, sl, st1, r, st', ok1, by simpa using e, fun w2 ok2 x2 => k w2 ok2 (x1.trans x2)⟩
    | true =>
      simp only [if_true] at e
      cases e
      exact k w1 ok1 x1
theorem vt_bool (h : VW X a F) : VT X a F := h.pt
theorem vt_not (ha : VT X a F) : VT X (.UnaryOp .Not a pos) (tNotB F) := by
  refine PTimp (pt_not ha) fun σ H Q h => ?_
  obtain ⟨al, S, sl, st, r, st', ok, e, k⟩ := h
  unfold tNotB at e
  cases h1 : F sl st with
  | none => rw [h1] at e; cases e
  | some p =>
    obtain ⟨c, st1⟩ := p
    rw [h1] at e
    cases e
    exact ⟨al, S, sl, st, c, _, ok, h1, fun w1 ok1 x1 => k w1 ok1 x1⟩
/-- and, or, not as values -/
def eAndV (f g : EvF) : EvF := fun sl st => match f sl st with
  | some (.val (.bl true), st') => g sl st'
  | some (.val (.bl false), st') => some (.val (.bl false), st')
  | _ => none
def eOrV (f g : EvF) : EvF := fun sl st => match f sl st with
  | some (.val (.bl false), st') => g sl st'
  | some (.val (.bl true), st') => some (.val (.bl true), st')
  | _ => none
def eNotV (f : EvF) : EvF := e1 f fun _ d => match d with
  | .bl b => some (.val (.bl !b))
  | _ => none
theorem ve_one {op} (h : VE X a f) : VE X (.BoolOp op [a] pos) f := pe_one h
theorem ve_and (ha : VE X a f) (hb : VE X (.BoolOp .And (b :: rest) pos) g) : VE X (.BoolOp .And (a :: b :: rest) pos) (eAndV f g) := by
  refine PEimp (pe_and ha hb) fun σ H Q h => ?_
  obtain ⟨al, S, sl, st, r, st', ok, e, k⟩ := h
  unfold eAndV at e
  cases h1 : f sl st with
  | none => rw [h1] at e; cases e
  | some p =>
    obtain ⟨x, st1⟩ := p
    rw [h1] at e
    cases x with
    | prv l => cases e
    | bor l => cases e
    | val d =>
      cases d with
      | bl c =>
        refine ⟨al, S, sl, st, _, st1, ok, h1, fun v w1 ok1 x1 rd1 fr1 => ?_⟩
        cases rd1
        refine ⟨c, rfl, ?_⟩
        cases c with
        | true => exact ⟨w1.al, w1.S, sl, st1, r, st', ok1, e, fun u w2 ok2 x2 rd2 fr2 => k u w2 ok2 (x1.trans x2) rd2 (fr2.back x1)⟩
        | false =>
          simp only at e
          cases e
          exact k _ w1 ok1 x1 (Rep.bl false) trivial
      | _ => cases e
theorem ve_or (ha : VE X a f) (hb : VE X (.BoolOp .Or (b :: rest) pos) g) : VE X (.BoolOp .Or (a :: b :: rest) pos) (eOrV f g) := by
  refine PEimp (pe_or ha hb) fun σ H Q h => ?_
  obtain ⟨al, S, sl, st, r, st', ok, e, k⟩ := h
  unfold eOrV at e
  cases h1 : f sl st with
  | none => rw [h1] at e; cases e
  | some p =>
    obtain ⟨x, st1⟩ := p
    rw [h1] at e
    cases x with
    | prv l => cases e
    | bor l => cases e
    | val d =>
      cases d with
      | bl c =>
        refine ⟨al, S, sl, st, _, st1, ok, h1, fun v w1 ok1 x1 rd1 fr1 => ?_⟩
        cases rd1
        refine ⟨c, rfl, ?_⟩
        cases c with
        | false => exact ⟨w1.al, w1.S, sl, st1, r, st', ok1, e, fun u w2 ok2 x2 rd2 fr2 => k u w2 ok2 (x1.trans x2) rd2 (fr2.back x1)⟩
        | true =>
          simp only at e
          cases e
          exact k _ w1 ok1 x1 (Rep.bl true) trivial
      | _ => cases e
theorem ve_not (ha : VE X a f) : VE X (.UnaryOp .Not a pos) (eNotV f) := by
  refine PEimp (pe_not ha) fun σ H Q h => ?_
  refine e1_read (rd := fun v H Q => ∃ c, v = .bl c ∧ Q (.bl !c) H) (fun w sl st σ v x res Q ok rd e k => ?_) h
  cases hx : x.d <;> rw [hx] at e <;> cases e
  refine ⟨_, rd.bl hx, Kon.val k ok (.bl _)⟩
/-- a if t else b -/
def eIf (t : EvB) (f g : EvF) : EvF := fun sl st => (t sl st).bind fun p => if p.1 = true then f sl p.2 else g sl p.2
theorem ve_if {t : Expr} (ht : VT X t F) (ha : VE X a f) (hb : VE X b g) : VE X (.IfExp t a b pos) (eIf F f g) := by
  refine PEimp (pe_ifExp ht ha hb) fun σ H Q h => ?_
  obtain ⟨al, S, sl, st, r, st', ok, e, k⟩ := h
  unfold eIf at e
  cases h1 : F sl st with
  | none => rw [h1] at e; cases e
  | some p =>
    obtain ⟨c, st1⟩ := p
    rw [h1] at e
    simp only [Option.bind_some] at e
    refine ⟨al, S, sl, st, c, st1, ok, h1, fun w1 ok1 x1 => ?_⟩
    cases c with
    | true => exact ⟨w1.al, w1.S, sl, st1, r, st', ok1, by simpa using e, fun u w2 ok2 x2 rd2 fr2 => k u w2 ok2 (x1.trans x2) rd2 (fr2.back x1)⟩
    | false => exact ⟨w1.al, w1.S, sl, st1, r, st', ok1, by simpa using e, fun u w2 ok2 x2 rd2 fr2 => k u w2 ok2 (x1.trans x2) rd2 (fr2.back x1)⟩
/-! ### lists of expressions -/
theorem va_nil : VA X [] eNil := by
  refine PAimp pa_nil fun σ H Q h => ?_
  obtain ⟨al, S, sl, st, r, st', ok, e, k⟩ := h
  cases e
  exact k [] ⟨al, S, H⟩ ok Ext.refl .nil fun i v r e => by simp at e
theorem va_cons {es : List Expr} {FA : EvA} (ha : VE X a f) (hr : VA X es FA) (hs : starEach (a :: es) X.env = (false, eval a X.env) :: starEach es X.env := by rfl) : VA X (a :: es) (eCons f FA) := by
  refine PAimp (pa_cons ha hr hs) fun σ H Q h => ?_
  obtain ⟨al, S, sl, st, r, st', ok, e, k⟩ := h
  unfold eCons at e
  cases h1 : f sl st with
  | none => rw [h1] at e; cases e
  | some p =>
    obtain ⟨x, st1⟩ := p
    rw [h1] at e
    simp only [Option.bind_some] at e
    cases h2 : FA sl st1 with
    | none => rw [h2] at e; cases e
    | some q =>
      obtain ⟨ys, st2⟩ := q
      rw [h2] at e
      cases e
      refine ⟨al, S, sl, st, x, st1, ok, h1, fun v w1 ok1 x1 rd1 fr1 => ⟨w1.al, w1.S, sl, st1, ys, _, ok1, h2, fun vs w2 ok2 x2 rd2 fl2 => ?_⟩⟩
      exact k (v :: vs) w2 ok2 (x1.trans x2) (.cons (rd1.ext ok1 x2) rd2) fun i u r e1 e2 => by
        cases i with
        | zero => simp at e1 e2; subst e1 e2; exact fr1
        | succ i => exact (fl2 i u r (by simpa using e1) (by simpa using e2)).back x1
/-- all of them may be kept -/
def vals : List R → Option (List D)
  | [] => some []
  | .val d :: rs => (vals rs).map (d :: ·)
  | _ :: _ => none
theorem vals_rep {K : PySem.W.Frag} {w : Wd} {sl : Sls} {σ : St} : ∀ {rs : List R} {vs : List V} {ds : List D}, RdRs K w sl σ vs rs → vals rs = some ds → RepL K w vs ds
  | _, _, _, .nil, e => by cases e; exact .nil
  | .val d :: rs, _, _, .cons h t, e => by
    cases h1 : vals rs with
    | none => simp [vals, h1] at e
    | some ds =>
      simp only [vals, h1, Option.map_some, Option.some.injEq] at e
      subst e
      exact .cons h (vals_rep t h1)
  | .prv _ :: _, _, _, .cons _ _, e => by simp [vals] at e
  | .bor _ :: _, _, _, .cons _ _, e => by simp [vals] at e
def eTup (F : EvA) : EvF := fun sl st => (F sl st).bind fun p => (vals p.1).bind fun ds => if ds.length ≤ line then some (.val (.tup ds), p.2) else none
def eLst (F : EvA) : EvF := fun sl st => (F sl st).bind fun p => (vals p.1).bind fun ds => if ds.length ≤ line then some (.prv ds, p.2) else none
theorem disp_read {K : PySem.W.Frag} {FA : EvA} {σ : St} {H : Hp} {Q : VK} {mk : List D → R} (h : tV K (fun sl st => (FA sl st).bind fun p => (vals p.1).bind fun ds => if ds.length ≤ line then some (mk ds, p.2) else none) σ H Q)
    {o : List V → HO} (hk : ∀ (w : Wd) (sl : Sls) (st : Amb) (ds : List D) (vs : List V) (p : Addr), Ok K w sl st σ → RepL K w vs ds → w.H p = none → Kon K w sl st σ (mk ds) Q → Q (.ref p) (upd w.H p (o vs))) :
    tVA K FA σ H fun xs H1 => xs.length ≤ sizeLine ∧ ∀ p, H1 p = none → Q (.ref p) (upd H1 p (o xs)) := by
  obtain ⟨al, S, sl, st, r, st', ok, e, k⟩ := h
  simp only at e
  cases h1 : FA sl st with
  | none => rw [h1] at e; cases e
  | some q =>
    obtain ⟨rs, st1⟩ := q
    rw [h1] at e
    simp only [Option.bind_some] at e
    cases h2 : vals rs with
    | none => rw [h2] at e; cases e
    | some ds =>
      rw [h2] at e
      simp only [Option.bind_some] at e
      by_cases hz : ds.length ≤ line
      · rw [if_pos hz] at e
        cases e
        refine ⟨al, S, sl, st, rs, _, ok, h1, fun vs w1 ok1 x1 rd1 _ => ?_⟩
        have rl := vals_rep rd1 h2
        refine ⟨by rw [rl.length, line_eq]; exact hz, fun p hp => hk w1 sl _ ds vs p ok1 rl hp fun v' w' ok' x' rd' fr' => k v' w' ok' (x1.trans x') rd' (fr'.back x1)⟩
      · rw [if_neg hz] at e; cases e
theorem ve_tup {es : List Expr} {FA : EvA} {x1} (h : VA X es FA) : VE X (.Tuple es x1 pos) (eTup FA) :=
  PEimp (pe_tup h) fun σ H Q hq => disp_read (mk := fun ds => .val (.tup ds)) (o := .tup) hq fun w sl st ds vs p ok r hp k => Kon.tup k ok hp r
theorem ve_lst {es : List Expr} {FA : EvA} (h : VA X es FA) : VE X (.List es pos) (eLst FA) :=
  PEimp (pe_lst h) fun σ H Q hq => disp_read (mk := fun ds => .prv ds) (o := .lst) hq fun w sl st ds vs p ok r hp k => Kon.prv k ok hp r
/-! ### calls of built-ins -/
theorem ve_callB {id : String} {x : Str} {p : Pos} {es : List Expr} {FA : EvA} {rd : List V → Hp → VK → Prop} {c : Amb → List D → Option R} (hc : CallR X (.builtin id) rd) (hcon : ConA X.K rd c) (hg : Gl X x) (hm : X.mg x = none) (hv : bootBuiltins x = some (.builtin id)) (ha : VA X (a :: es) FA) (hn : x ≠ "__name__" := by decide) (hdb : (x == ("__debug__" : Str)) = false := by decide)
    (he : starEach (a :: es) X.env = (false, eval a X.env) :: starEach es X.env := by rfl) (hpl : (backTo pos (starEach es X.env)).any (·.1) = false := by rfl) : VE X (.Call (.Name x p) (a :: es) [] pos) (eA FA c) :=
  PEimp (pe_callB hc hg hm hv ha hn hdb he hpl) fun σ H Q h => eA_read hcon h
theorem ve_callTy {T : String} {x : Str} {p : Pos} {es : List Expr} {FA : EvA} {rd : List V → Hp → VK → Prop} {c : Amb → List D → Option R} (hc : CallR X (.type T) rd) (hcon : ConA X.K rd c) (hg : Gl X x) (hm : X.mg x = none) (hv : bootBuiltins x = some (.type T)) (ha : VA X (a :: es) FA) (hn : x ≠ "__name__" := by decide) (hdb : (x == ("__debug__" : Str)) = false := by decide)
    (he : starEach (a :: es) X.env = (false, eval a X.env) :: starEach es X.env := by rfl) (hpl : (backTo pos (starEach es X.env)).any (·.1) = false := by rfl) : VE X (.Call (.Name x p) (a :: es) [] pos) (eA FA c) :=
  PEimp (pe_callTy hc hg hm hv ha hn hdb he hpl) fun σ H Q h => eA_read hcon h
end
end Vx


set_option Elab.async false
set_option linter.all false
set_option maxRecDepth 100000
/-! Vo: operators, built-ins, subscripts over trees. -/
namespace Vx
open PySem L2

section
variable {K : PySem.W.Frag} {w : Wd} {sl : Sls} {st : Amb} {σ : St} {v : V} {r : R}
theorem RdR.dp (h : RdR K w sl σ v r) (ok : Ok K w sl st σ) (q : r.d.dat = true) : Dp K w.H v r.d.py := by
  cases r with
  | val d => exact Rep.dp h q
  | prv l =>
    obtain ⟨a, vs, e, h1, h2⟩ := h.lst ok (ds := l) rfl
    subst e
    exact .lst (SqL.of h1) (RepL.dp h2 (by simpa [D.dat, R.d] using q))
  | bor l =>
    obtain ⟨a, vs, e, h1, h2⟩ := h.lst ok (ds := l) rfl
    subst e
    exact .lst (SqL.of h1) (RepL.dp h2 (by simpa [D.dat, R.d] using q))
/-- a sequence that is read -/
def seqD (st : Amb) : D → Option (List D)
  | .tup l => some l
  | .lst l => some l
  | .frz l => some l
  | .loc n => st[n]?
  | _ => none
theorem RdR.seq (h : RdR K w sl σ v r) (ok : Ok K w sl st σ) {ds : List D} (e : seqD st r.d = some ds) : ∃ a vs, v = .ref a ∧ RepL K w vs ds ∧ (SqL K w.H a vs ∨ SqT K w.H a vs) ∧ ((∃ l, r.d = .tup l) ∨ SqL K w.H a vs) := by
  cases hd : r.d with
  | tup l =>
    rw [hd] at e
    cases e
    obtain ⟨a, vs, e1, h1, h2⟩ := h.tup hd
    exact ⟨a, vs, e1, h2, .inr h1, .inl ⟨_, rfl⟩⟩
  | lst l =>
    rw [hd] at e
    cases e
    obtain ⟨a, vs, e1, h1, h2⟩ := h.lst ok hd
    exact ⟨a, vs, e1, h2, .inl (SqL.of h1), .inr (SqL.of h1)⟩
  | frz l =>
    rw [hd] at e
    cases e
    have q := h.rep hd (fun l z => by cases z)
    cases q with
    | frz h1 h2 => exact ⟨_, _, rfl, h2, .inl (.inl (.inr ⟨_, h1⟩)), .inr (.inl (.inr ⟨_, h1⟩))⟩
    | frk a b c d e f g => exact ⟨_, _, rfl, g, .inl (.inr ⟨_, _, _, a, b, c, d, e, f⟩), .inr (.inr ⟨_, _, _, a, b, c, d, e, f⟩)⟩
  | loc n =>
    rw [hd] at e
    have q := h.rep hd (fun l z => by cases z)
    cases q with
    | loc h1 =>
      obtain ⟨_, vs, es, e1, e2, e3⟩ := ok.amb.at_ n _ h1
      have e' : st[n]? = some ds := e
      rw [e2] at e'
      cases e'
      exact ⟨_, vs, rfl, e3, .inl (SqL.of e1), .inr (SqL.of e1)⟩
  | _ => rw [hd] at e; cases e
end

/-! ### arithmetic -/
def cAdd : Amb → D → D → Option R := fun _ x y => match x with
  | .int i => (match y with | .int j => some (.val (.int (i + j))) | _ => none)
  | .tup xs => (match y with | .tup ys => if xs.length + ys.length ≤ line then some (.val (.tup (xs ++ ys))) else none | _ => none)
  | .lst xs => (match y with | .lst ys => if xs.length + ys.length ≤ line then some (.prv (xs ++ ys)) else none | _ => none)
  | .str a => (match y with | .str b => if a.length + b.length ≤ line then some (.val (.str (a ++ b))) else none | _ => none)
  | _ => none
def cI (f : Int → Int → Option D) : Amb → D → D → Option R := fun _ x y => match x with
  | .int i => (match y with | .int j => (f i j).map .val | _ => none)
  | _ => none
def fSub (i j : Int) : Option D := some (.int (i - j))
def fMul (i j : Int) : Option D := if i.natAbs.log2 + j.natAbs.log2 < 1000000 then some (.int (i * j)) else none
def fDiv (i j : Int) : Option D := if 0 < j ∧ j < 1073741824 then some (.int (i / j)) else none
def fMod (i j : Int) : Option D := if 0 < j then some (.int (i % j)) else none
def fPow (i j : Int) : Option D := if 0 ≤ j ∧ j ≤ 1000000 ∧ i.natAbs < 2 ^ 64 then some (.int (i ^ j.toNat)) else none
def fLt (i j : Int) : Option D := some (.bl (decide (i < j)))
def fLe (i j : Int) : Option D := some (.bl (decide (i ≤ j)))
def fGt (i j : Int) : Option D := some (.bl (decide (j < i)))
def fGe (i j : Int) : Option D := some (.bl (decide (j ≤ i)))
def cMul : Amb → D → D → Option R := fun st x y => match x with
  | .tup xs => (match y with | .int k => if xs ≠ [] ∧ 2 ≤ k ∧ k ≤ 1000 ∧ xs.length ≤ 1000 then some (.val (.tup (List.replicate k.toNat xs).flatten)) else none | _ => none)
  | _ => cI fMul st x y
section
variable {K : PySem.W.Frag}
theorem con_I {rd : R2} {f : Int → Int → Option D} (h : ∀ (i j : Int) (d : D) (H : Hp) (Q : VK), f i j = some d → (∀ v, (∀ w, Rep K w v d) → Q v H) → rd (.int i) (.int j) H Q) : Con2 K rd (cI f) := by
  intro w sl st σ v u x y res Q ok rx ry e k
  unfold cI at e
  cases hx : x.d <;> rw [hx] at e <;> try (cases e; done)
  rename_i i
  cases hy : y.d <;> rw [hy] at e <;> try (cases e; done)
  rename_i j
  simp only at e
  cases hf : f i j with
  | none => rw [hf] at e; cases e
  | some d =>
    rw [hf] at e
    cases e
    rw [rx.int hx, ry.int hy]
    exact h i j d w.H Q hf fun v hv => Kon.val k ok (hv w)
theorem RepL.rep_n {w : Wd} {vs : List V} {ds : List D} (r : RepL K w vs ds) : ∀ n : Nat, RepL K w (List.replicate n vs).flatten (List.replicate n ds).flatten
  | 0 => .nil
  | n + 1 => by
    rw [List.replicate_succ, List.replicate_succ, List.flatten_cons, List.flatten_cons]
    exact r.append (RepL.rep_n r n)
theorem RepL.ne_nil {w : Wd} {vs : List V} {ds : List D} (r : RepL K w vs ds) (h : ds ≠ []) : vs ≠ [] := fun e => by
  subst e
  have := r.length
  simp at this
  exact h (List.eq_nil_of_length_eq_zero this.symm)
end
section
variable {X : Cx} {a b : Expr} {f g : EvF} {pos : Pos}
theorem ve_add (ha : VE X a f) (hb : VE X b g) : VE X (.BinOp a .Add b pos) (e2 f g cAdd) := by
  refine ve_bin (op_add.or (op_catA.or (op_cat.or op_add_str))) ?_ ha hb
  intro w sl st σ v u x y res Q ok rx ry e k
  unfold cAdd at e
  cases hx : x.d <;> rw [hx] at e <;> try (cases e; done)
  · cases hy : y.d <;> rw [hy] at e <;> try (cases e; done)
    cases e
    exact .inl ⟨_, _, rx.int hx, ry.int hy, Kon.val k ok (.int _)⟩
  · cases hy : y.d <;> rw [hy] at e <;> try (cases e; done)
    rename_i s t
    simp only at e
    split at e
    · rename_i hz
      cases e
      exact .inr (.inr (.inr ⟨_, _, rx.str hx, ry.str hy, by rw [line_eq]; exact hz, Kon.val k ok (.str _)⟩))
    · cases e
  · cases hy : y.d <;> rw [hy] at e <;> try (cases e; done)
    rename_i xs ys
    simp only at e
    split at e
    · rename_i hz
      cases e
      obtain ⟨p, vs, e1, h1, r1⟩ := rx.tup hx
      obtain ⟨q, us, e2, h2, r2⟩ := ry.tup hy
      refine .inr (.inl ⟨p, q, vs, us, e1, e2, h1, h2, by rw [line_eq, r1.length, r2.length]; exact hz, fun z => ?_, fun z1 z2 => ?_, fun _ _ n hn => Kon.tup k ok hn (r1.append r2)⟩)
      · subst z
        cases r1 with
        | nil => exact Kon.val k ok (.tup h2 r2)
      · subst z2
        cases r2 with
        | nil => refine Kon.val k ok (.tup h1 ?_); rw [List.append_nil]; exact r1
    · cases e
  · cases hy : y.d <;> rw [hy] at e <;> try (cases e; done)
    rename_i xs ys
    simp only at e
    split at e
    · rename_i hz
      cases e
      obtain ⟨p, vs, e1, h1, r1⟩ := rx.lst ok hx
      obtain ⟨q, us, e2, h2, r2⟩ := ry.lst ok hy
      exact .inr (.inr (.inl ⟨p, q, vs, us, e1, e2, h1, h2, by rw [line_eq, r1.length, r2.length]; exact hz, fun n hn => Kon.prv k ok hn (r1.append r2)⟩))
    · cases e
theorem ve_sub (ha : VE X a f) (hb : VE X b g) : VE X (.BinOp a .Sub b pos) (e2 f g (cI fSub)) :=
  ve_bin op_sub (con_I fun i j d H Q e k => by cases e; exact ⟨i, j, rfl, rfl, k _ fun w => .int _⟩) ha hb
theorem ve_div (ha : VE X a f) (hb : VE X b g) : VE X (.BinOp a .FloorDiv b pos) (e2 f g (cI fDiv)) :=
  ve_bin op_fdiv (con_I fun i j d H Q e k => by
    unfold fDiv at e
    split at e
    · rename_i h; cases e; exact ⟨i, j, rfl, rfl, h, k _ fun w => .int _⟩
    · cases e) ha hb
theorem ve_mod (ha : VE X a f) (hb : VE X b g) : VE X (.BinOp a .Mod b pos) (e2 f g (cI fMod)) :=
  ve_bin op_mod (con_I fun i j d H Q e k => by
    unfold fMod at e
    split at e
    · rename_i h; cases e; exact ⟨i, j, rfl, rfl, h, k _ fun w => .int _⟩
    · cases e) ha hb
theorem ve_pow (ha : VE X a f) (hb : VE X b g) : VE X (.BinOp a .Pow b pos) (e2 f g (cI fPow)) :=
  ve_bin op_pow (con_I fun i j d H Q e k => by
    unfold fPow at e
    split at e
    · rename_i h; cases e; exact ⟨i, j, rfl, rfl, h, k _ fun w => .int _⟩
    · cases e) ha hb
theorem ve_mul (ha : VE X a f) (hb : VE X b g) : VE X (.BinOp a .Mult b pos) (e2 f g cMul) := by
  refine ve_bin (op_mulW.or op_repT) ?_ ha hb
  intro w sl st σ v u x y res Q ok rx ry e k
  unfold cMul at e
  cases hx : x.d with
  | tup xs =>
    rw [hx] at e
    simp only at e
    cases hy : y.d <;> rw [hy] at e <;> try (cases e; done)
    simp only at e
    split at e
    · rename_i hz
      cases e
      obtain ⟨p, vs, e1, h1, r1⟩ := rx.tup hx
      exact .inr ⟨p, _, vs, e1, ry.int hy, h1, r1.ne_nil hz.1, hz.2.1, hz.2.2.1, by rw [r1.length]; exact hz.2.2.2, fun n hn => Kon.tup k ok hn (r1.rep_n _)⟩
    · cases e
  | _ =>
    rw [hx] at e
    simp only at e
    refine .inl (con_I (K := X.K) (rd := rI CMulW fun i j => .int (i * j)) (f := fMul) (fun i j d H Q e k => ?_) w sl st σ v u x y res Q ok rx ry (by rw [hx]; exact e) k)
    unfold fMul at e
    split at e
    · rename_i h; cases e; exact ⟨i, j, rfl, rfl, h, k _ fun w => .int _⟩
    · cases e
/-! ### comparisons -/
theorem ci_lt : Con2 X.K (rI0 fun i j => .bl (decide (i < j))) (cI fLt) := con_I fun i j d H Q e k => by cases e; exact ⟨i, j, rfl, rfl, k _ fun w => .bl _⟩
theorem ci_le : Con2 X.K (rI0 fun i j => .bl (decide (i ≤ j))) (cI fLe) := con_I fun i j d H Q e k => by cases e; exact ⟨i, j, rfl, rfl, k _ fun w => .bl _⟩
theorem ci_gt : Con2 X.K (rI0 fun i j => .bl (decide (j < i))) (cI fGt) := con_I fun i j d H Q e k => by cases e; exact ⟨i, j, rfl, rfl, k _ fun w => .bl _⟩
theorem ci_ge : Con2 X.K (rI0 fun i j => .bl (decide (j ≤ i))) (cI fGe) := con_I fun i j d H Q e k => by cases e; exact ⟨i, j, rfl, rfl, k _ fun w => .bl _⟩
theorem vt_lt (ha : VE X a f) (hb : VE X b g) : VT X (.Compare a [.Lt] [b] pos) (eT (e2 f g (cI fLt))) := vt_cmp op_lt ci_lt ha hb (nomark _)
theorem vt_le (ha : VE X a f) (hb : VE X b g) : VT X (.Compare a [.LtE] [b] pos) (eT (e2 f g (cI fLe))) := vt_cmp op_le ci_le ha hb (nomark _)
theorem vt_gt (ha : VE X a f) (hb : VE X b g) : VT X (.Compare a [.Gt] [b] pos) (eT (e2 f g (cI fGt))) := vt_cmp op_gt ci_gt ha hb (nomark _)
theorem vt_ge (ha : VE X a f) (hb : VE X b g) : VT X (.Compare a [.GtE] [b] pos) (eT (e2 f g (cI fGe))) := vt_cmp op_ge ci_ge ha hb (nomark _)
theorem ve_lt (ha : VE X a f) (hb : VE X b g) : VE X (.Compare a [.Lt] [b] pos) (e2 f g (cI fLt)) := ve_cmp op_lt ci_lt ha hb (nomark _)
theorem ve_le (ha : VE X a f) (hb : VE X b g) : VE X (.Compare a [.LtE] [b] pos) (e2 f g (cI fLe)) := ve_cmp op_le ci_le ha hb (nomark _)
theorem ve_gt (ha : VE X a f) (hb : VE X b g) : VE X (.Compare a [.Gt] [b] pos) (e2 f g (cI fGt)) := ve_cmp op_gt ci_gt ha hb (nomark _)
theorem ve_ge (ha : VE X a f) (hb : VE X b g) : VE X (.Compare a [.GtE] [b] pos) (e2 f g (cI fGe)) := ve_cmp op_ge ci_ge ha hb (nomark _)
def flat64 (x : D) : Bool := x.dat && decide (x.dep ≤ 63)
theorem flat64_iff {x : D} : flat64 x = true ↔ x.dat = true ∧ x.dep ≤ 63 := by unfold flat64; rw [Bool.and_eq_true, decide_eq_true_eq]
def cEq : Amb → D → D → Option R := fun _ x y => if flat64 x = true ∧ flat64 y = true then some (.val (.bl (D.eqv x y))) else none
def cNe : Amb → D → D → Option R := fun _ x y => if flat64 x = true ∧ flat64 y = true then some (.val (.bl (!D.eqv x y))) else none
theorem con_eq : Con2 X.K (rEqD X.K) cEq := by
  intro w sl st σ v u x y res Q ok rx ry e k
  unfold cEq at e
  split at e
  · rename_i h
    cases e
    obtain ⟨h1, h2⟩ := flat64_iff.mp h.1
    obtain ⟨h3, h4⟩ := flat64_iff.mp h.2
    refine ⟨_, _, rx.dp ok h1, ry.dp ok h3, shaped_py h1 (by omega), shaped_py h3 (by omega), ?_⟩
    rw [← eqv_py _ _ h1 h3]
    exact Kon.val k ok (.bl _)
  · cases e
theorem con_ne : Con2 X.K (rNeD X.K) cNe := by
  intro w sl st σ v u x y res Q ok rx ry e k
  unfold cNe at e
  split at e
  · rename_i h
    cases e
    obtain ⟨h1, h2⟩ := flat64_iff.mp h.1
    obtain ⟨h3, h4⟩ := flat64_iff.mp h.2
    refine ⟨_, _, rx.dp ok h1, ry.dp ok h3, shaped_py h1 (by omega), shaped_py h3 (by omega), ?_⟩
    rw [← eqv_py _ _ h1 h3]
    exact Kon.val k ok (.bl _)
  · cases e
theorem vt_eq (hu : X.A.units + 64 < cLine) (ha : VE X a f) (hb : VE X b g) : VT X (.Compare a [.Eq] [b] pos) (eT (e2 f g cEq)) := vt_cmp (op_eqD hu) con_eq ha hb (nomark _)
theorem vt_ne (hu : X.A.units + 64 < cLine) (ha : VE X a f) (hb : VE X b g) : VT X (.Compare a [.NotEq] [b] pos) (eT (e2 f g cNe)) := vt_cmp (op_neD hu) con_ne ha hb (nomark _)
theorem ve_eq (hu : X.A.units + 64 < cLine) (ha : VE X a f) (hb : VE X b g) : VE X (.Compare a [.Eq] [b] pos) (e2 f g cEq) := ve_cmp (op_eqD hu) con_eq ha hb (nomark _)
theorem ve_ne (hu : X.A.units + 64 < cLine) (ha : VE X a f) (hb : VE X b g) : VE X (.Compare a [.NotEq] [b] pos) (e2 f g cNe) := ve_cmp (op_neD hu) con_ne ha hb (nomark _)
/-! ### in -/
def rInS (K : PySem.W.Frag) (neg : Bool) : R2 := fun x y H Q => ∃ d ds, Dp K H x d ∧ (Dp K H y (.list ds) ∨ Dp K H y (.tuple ds)) ∧ SeqAt.shaped d = true ∧ SeqAt.shaped (.list ds) = true ∧ Q (.bl (if neg then !ds.any fun z => PyData.eqv z d else ds.any fun z => PyData.eqv z d)) H
theorem op_inS (hu : X.A.units + 65 < cLine) : OpR X (compareOp .In) (rInS X.K false) := by
  intro pins s σ H x y v u Q I rx ry h
  obtain ⟨d, ds, hd, he, sd, se, q⟩ := h
  rcases he with he | he
  · exact op_inD hu pins s σ H x y v u Q I rx ry ⟨d, ds, hd, he, sd, se, q⟩
  · obtain ⟨as, r1⟩ := Dp.reads I d x v hd rx
    obtain ⟨bs, r2⟩ := Dp.reads I (.tuple ds) y u he ry
    exact SeqAt.in_tuple_reads r2 r1 (SeqAt.canLay_of_shaped se) (SeqAt.canLay_of_shaped sd) (PyProof.Rows.room_in_shaped sd hu) ⟨.bl _, H, I, rfl, q⟩
theorem op_notInS (hu : X.A.units + 65 < cLine) : OpR X (compareOp .NotIn) (rInS X.K true) := by
  intro pins s σ H x y v u Q I rx ry h
  obtain ⟨d, ds, hd, he, sd, se, q⟩ := h
  rcases he with he | he
  · exact op_notInD hu pins s σ H x y v u Q I rx ry ⟨d, ds, hd, he, sd, se, q⟩
  · obtain ⟨as, r1⟩ := Dp.reads I d x v hd rx
    obtain ⟨bs, r2⟩ := Dp.reads I (.tuple ds) y u he ry
    exact SeqAt.notIn_tuple_reads r2 r1 (SeqAt.canLay_of_shaped se) (SeqAt.canLay_of_shaped sd) (PyProof.Rows.room_in_shaped sd hu) ⟨.bl _, H, I, rfl, q⟩
def inL (x : D) (l : List D) : Bool := l.any fun z => D.eqv z x
def cIn (neg : Bool) : Amb → D → D → Option R := fun _ x y => match y with
  | .tup l => if flat64 x = true ∧ flat64 (.lst l) = true then some (.val (.bl (if neg then !inL x l else inL x l))) else none
  | .lst l => if flat64 x = true ∧ flat64 (.lst l) = true then some (.val (.bl (if neg then !inL x l else inL x l))) else none
  | _ => none
theorem inL_py {x : D} (hx : x.dat = true) : ∀ {l : List D}, D.datL l = true → inL x l = (D.pyL l).any fun z => PyData.eqv z x.py
  | [], _ => rfl
  | d :: l, h => by
    rw [D.datL, Bool.and_eq_true] at h
    unfold inL
    rw [List.any_cons, D.pyL, List.any_cons, eqv_py d x h.1 hx]
    have := inL_py hx (l := l) h.2
    unfold inL at this
    rw [this]
theorem con_in {neg : Bool} : Con2 X.K (rInS X.K neg) (cIn neg) := by
  intro w sl st σ v u x y res Q ok rx ry e k
  have go : ∀ l, (y.d = .tup l ∨ y.d = .lst l) → flat64 x.d = true ∧ flat64 (.lst l) = true → Kon X.K w sl st σ (.val (.bl (if neg then !inL x.d l else inL x.d l))) Q → rInS X.K neg v u w.H Q := fun l hy h k => by
    obtain ⟨h1, h2⟩ := flat64_iff.mp h.1
    obtain ⟨h3, h4⟩ := flat64_iff.mp h.2
    have h3' : D.datL l = true := by simpa [D.dat] using h3
    have sh : SeqAt.shaped (.list (D.pyL l)) = true := shaped_py (d := .lst l) h3 (by omega)
    have q : Q (.bl (if neg then !inL x.d l else inL x.d l)) w.H := Kon.val k ok (.bl _)
    rw [inL_py h1 h3'] at q
    refine ⟨_, D.pyL l, rx.dp ok h1, ?_, shaped_py h1 (by omega), sh, q⟩
    rcases hy with hy | hy
    · have := ry.dp ok (by rw [hy]; exact h3)
      rw [hy] at this
      exact .inr this
    · have := ry.dp ok (by rw [hy]; exact h3)
      rw [hy] at this
      exact .inl this
  unfold cIn at e
  cases hy : y.d <;> rw [hy] at e <;> simp only at e <;> try (cases e; done)
  · split at e
    · rename_i l h
      cases e
      exact go l (.inl hy) h k
    · cases e
  · split at e
    · rename_i l h
      cases e
      exact go l (.inr hy) h k
    · cases e
theorem vt_in (hu : X.A.units + 65 < cLine) (ha : VE X a f) (hb : VE X b g) (hm : behindInMarks .In b = false := by rfl) : VT X (.Compare a [.In] [b] pos) (eT (e2 f g (cIn false))) := vt_cmp (op_inS hu) con_in ha hb hm
theorem vt_notIn (hu : X.A.units + 65 < cLine) (ha : VE X a f) (hb : VE X b g) (hm : behindInMarks .NotIn b = false := by rfl) : VT X (.Compare a [.NotIn] [b] pos) (eT (e2 f g (cIn true))) := vt_cmp (op_notInS hu) con_in ha hb hm
theorem ve_in (hu : X.A.units + 65 < cLine) (ha : VE X a f) (hb : VE X b g) (hm : behindInMarks .In b = false := by rfl) : VE X (.Compare a [.In] [b] pos) (e2 f g (cIn false)) := ve_cmp (op_inS hu) con_in ha hb hm
theorem ve_notIn (hu : X.A.units + 65 < cLine) (ha : VE X a f) (hb : VE X b g) (hm : behindInMarks .NotIn b = false := by rfl) : VE X (.Compare a [.NotIn] [b] pos) (e2 f g (cIn true)) := ve_cmp (op_notInS hu) con_in ha hb hm
/-! ### is -/
theorem op_isC : OpR X (compareOp .Is) (fun x y H Q => (y = .non ∧ Q (.bl (decide (x = .non))) H) ∨ ∃ b, y = .bl b ∧ (∀ p, x ≠ .ref p) ∧ Q (.bl (decide (x = .bl b))) H ∨ ∃ b p, y = .bl b ∧ x = .ref p ∧ Q (.bl false) H) := by
  intro pins s σ H x y v u Q I rx ry h
  rcases h with h | ⟨b, ⟨e, nr, q⟩ | ⟨b, p, e, ex, q⟩⟩
  · exact op_isN pins s σ H x y v u Q I rx ry h
  · subst e
    cases (show u = Value.bool b from ry)
    by_cases e : x = .bl b
    · subst e
      cases (show v = Value.bool b from rx)
      exact wpAny_is_self rfl ⟨.bl true, H, I, rfl, by simpa using q⟩
    · have q' : Q (.bl false) H := by rw [decide_eq_false e] at q; exact q
      have hne : v ≠ Value.bool b := fun z => by
        subst z
        exact e (RelV.inj rx (show RelV (.bl b) (Value.bool b) from rfl))
      refine wpAny_is_other ?_ hne ⟨.bl false, H, I, rfl, q'⟩
      cases x with
      | ref p => exact absurd rfl (nr p)
      | non => cases (show v = Value.none from rx); rfl
      | bl c => cases (show v = Value.bool c from rx); rfl
      | int i => obtain ⟨t, rfl⟩ := rx; rfl
      | str i => obtain ⟨t, rfl⟩ := rx; rfl
      | byt i => obtain ⟨t, rfl⟩ := rx; rfl
      | flt i => obtain ⟨t, rfl⟩ := rx; rfl
      | ty i => cases (show v = Value.type i from rx); rfl
  · subst e ex
    cases (show u = Value.bool b from ry)
    cases (show v = Value.ref p from rx)
    exact wpAny_is_other rfl (fun z => by cases z) ⟨.bl false, H, I, rfl, q⟩
/-- x is None, True, False -/
def cIs : Amb → D → D → Option R := fun _ x y => match y with
  | .non => some (.val (.bl (isN x)))
  | .bl b => some (.val (.bl (match x with | .bl c => c == b | _ => false)))
  | _ => none
theorem rep_isN {K : PySem.W.Frag} {w : Wd} {sl : Sls} {σ : St} {st : Amb} {v : V} {x : R} (h : RdR K w sl σ v x) (ok : Ok K w sl st σ) : decide (v = .non) = isN x.d := by
  cases hx : x.d with
  | lst l =>
    obtain ⟨a, vs, e, _⟩ := h.lst ok hx
    rw [e]
    rfl
  | _ =>
    have q := h.rep hx (fun l z => by cases z)
    cases q <;> rfl
theorem con_is : Con2 X.K (fun x y H Q => (y = .non ∧ Q (.bl (decide (x = .non))) H) ∨ ∃ b, y = .bl b ∧ (∀ p, x ≠ .ref p) ∧ Q (.bl (decide (x = .bl b))) H ∨ ∃ b p, y = .bl b ∧ x = .ref p ∧ Q (.bl false) H) cIs := by
  intro w sl st σ v u x y res Q ok rx ry e k
  unfold cIs at e
  cases hy : y.d <;> rw [hy] at e <;> simp only at e <;> try (cases e; done)
  · cases e
    have q := ry.rep hy (fun l z => by cases z)
    cases q
    refine .inl ⟨rfl, ?_⟩
    rw [rep_isN rx ok]
    exact Kon.val k ok (.bl _)
  · rename_i b
    cases e
    have hb := ry.bl hy
    subst hb
    have kv : Q (.bl (match x.d with | .bl c => c == b | _ => false)) w.H := Kon.val k ok (.bl _)
    cases hx : x.d with
    | lst l =>
      obtain ⟨a, vs, e, _⟩ := rx.lst ok hx
      rw [hx] at kv
      exact .inr ⟨b, .inr ⟨b, a, rfl, e, kv⟩⟩
    | _ =>
      rw [hx] at kv
      have q := rx.rep hx (fun l z => by cases z)
      cases q <;> first
        | exact .inr ⟨b, .inr ⟨b, _, rfl, rfl, kv⟩⟩
        | (refine .inr ⟨b, .inl ⟨rfl, fun p z => (by cases z), ?_⟩⟩
           first
             | exact kv
             | (rename_i c; have e : decide (V.bl c = V.bl b) = (c == b) := dec_bl; rw [e]; exact kv))
theorem vt_is (ha : VE X a f) (hb : VE X b g) : VT X (.Compare a [.Is] [b] pos) (eT (e2 f g cIs)) := vt_cmp op_isC con_is ha hb (nomark _)
theorem ve_is (ha : VE X a f) (hb : VE X b g) : VE X (.Compare a [.Is] [b] pos) (e2 f g cIs) := ve_cmp op_isC con_is ha hb (nomark _)
/-- x is not None -/
def cIsNot : Amb → D → D → Option R := fun _ x y => match y with
  | .non => some (.val (.bl (!isN x)))
  | _ => none
theorem con_isNot : Con2 X.K (fun x y H Q => y = .non ∧ Q (.bl (!decide (x = .non))) H) cIsNot := by
  intro w sl st σ v u x y res Q ok rx ry e k
  unfold cIsNot at e
  cases hy : y.d <;> rw [hy] at e <;> simp only at e <;> try (cases e; done)
  cases e
  have q := ry.rep hy (fun l z => by cases z)
  cases q
  refine ⟨rfl, ?_⟩
  rw [rep_isN rx ok]
  exact Kon.val k ok (.bl _)
theorem vt_isNot (ha : VE X a f) (hb : VE X b g) : VT X (.Compare a [.IsNot] [b] pos) (eT (e2 f g cIsNot)) := vt_cmp op_notN con_isNot ha hb (nomark _)
theorem ve_isNot (ha : VE X a f) (hb : VE X b g) : VE X (.Compare a [.IsNot] [b] pos) (e2 f g cIsNot) := ve_cmp op_notN con_isNot ha hb (nomark _)
theorem ve_neg (ha : VE X a f) : VE X (.UnaryOp .USub a pos) (e1 f fun _ d => match d with | .int i => some (.val (.int (-i))) | _ => none) := by
  refine PEimp (pe_un un_neg ha) fun σ H Q h => ?_
  refine e1_read (rd := fun v H Q => ∃ i, v = .int i ∧ Q (.int (-i)) H) (fun w sl st σ v x res Q ok rd e k => ?_) h
  cases hx : x.d <;> rw [hx] at e <;> cases e
  exact ⟨_, rd.int hx, Kon.val k ok (.int _)⟩
/-! ### subscripts -/
theorem atI_rep {K : PySem.W.Frag} {w : Wd} {vs : List V} {ds : List D} (r : RepL K w vs ds) {i : Int} {d : D} (h : atI ds i = some d) : ∃ v, atI vs i = some v ∧ Rep K w v d := by
  unfold atI at h ⊢
  rw [r.length]
  cases hj : ixN ds.length i with
  | none => rw [hj] at h; cases h
  | some j =>
    rw [hj] at h
    exact r.get h
def cIx : Amb → D → D → Option R := fun st x y => match y with
  | .int i => (seqD st x).bind fun l => (atI l i).map .val
  | _ => none
theorem ve_ix (ha : VE X a f) (hb : VE X b g) (hs : PlainIx b := by exact fun _ _ => rfl) : VE X (.Subscript a b pos) (e2 f g cIx) := by
  refine PEimp (pe_ix (ix_list.or ix_tup) ha hb hs) fun σ H Q h => e2_read (rd := fun x y H Q => rIxL X.K x y H Q ∨ rIxT X.K x y H Q) ?_ h
  intro w sl st σ v u x y res Q ok rx ry e k
  unfold cIx at e
  cases hy : y.d <;> rw [hy] at e <;> simp only at e <;> try (cases e; done)
  rename_i i
  cases hs : seqD st x.d with
  | none => rw [hs] at e; cases e
  | some l =>
    rw [hs] at e
    simp only [Option.bind_some] at e
    cases hi : atI l i with
    | none => rw [hi] at e; cases e
    | some d =>
      rw [hi] at e
      cases e
      obtain ⟨p, vs, e1, r1, h1, _⟩ := rx.seq ok hs
      obtain ⟨z, e2, r2⟩ := atI_rep r1 hi
      have q : Q z w.H := Kon.val k ok r2
      rcases h1 with h1 | h1
      · exact .inl ⟨p, vs, i, z, e1, ry.int hy, h1, e2, q⟩
      · exact .inr ⟨p, vs, i, z, e1, ry.int hy, h1, e2, q⟩
abbrev EvO := Sls → Amb → Option (Option Int × Amb)
def oNone : EvO := fun _ st => some (none, st)
def oSome (f : EvF) : EvO := fun sl st => match f sl st with
  | some (.val (.int i), st') => some (some i, st')
  | _ => none
def tVO (K : PySem.W.Frag) (f : EvO) : TO := fun σ H Q => ∃ al S sl st r st', Ok K ⟨al, S, H⟩ sl st σ ∧ f sl st = some (r, st') ∧
  ∀ w', Ok K w' sl st' σ → Ext ⟨al, S, H⟩ (Foot al sl σ) w' (FootW w' sl σ) → Q r w'.H
abbrev VO (X : Cx) (e : Option Expr) (f : EvO) : Prop := PO X e (tVO X.K f)
theorem POimp {e : Option Expr} {t t' : TO} (h : PO X e t) (i : ∀ σ H Q, t' σ H Q → t σ H Q) : PO X e t' := ⟨fun pins s σ H Q I q => h.run pins s σ H Q I (i σ H Q q)⟩
theorem vo_none : VO X none oNone := POimp po_none fun σ H Q h => by
  obtain ⟨al, S, sl, st, r, st', ok, e, k⟩ := h
  cases e
  exact k ⟨al, S, H⟩ ok Ext.refl
theorem vo_some (ha : VE X a f) : VO X (some a) (oSome f) := POimp (po_some ha) fun σ H Q h => by
  obtain ⟨al, S, sl, st, r, st', ok, e, k⟩ := h
  unfold oSome at e
  cases h1 : f sl st with
  | none => rw [h1] at e; cases e
  | some p =>
    obtain ⟨x, st1⟩ := p
    rw [h1] at e
    cases x with
    | prv l => cases e
    | bor l => cases e
    | val d =>
      cases d <;> cases e
      refine ⟨al, S, sl, st, _, _, ok, h1, fun v w1 ok1 x1 rd1 fr1 => ?_⟩
      cases rd1
      exact ⟨_, rfl, k w1 ok1 x1⟩
def cutD (xs : List D) (lo hi : Option Int) : List D := (xs.drop (HT.sIx xs.length 0 lo)).take (HT.sIx xs.length xs.length hi - HT.sIx xs.length 0 lo)
def cSl : Amb → D → Option Int → Option Int → Option R := fun st x lo hi => match x with
  | .tup l => some (.val (.tup (cutD l lo hi)))
  | x => (seqD st x).map fun l => .prv (cutD l lo hi)
def eSl (f : EvF) (l h : EvO) : EvF := fun sl st => (f sl st).bind fun p => (l sl p.2).bind fun q => (h sl q.2).bind fun r => (cSl r.2 p.1.d q.1 r.1).map fun s => (s, r.2)
theorem cut_rep {K : PySem.W.Frag} {w : Wd} {vs : List V} {ds : List D} (r : RepL K w vs ds) (lo hi : Option Int) : RepL K w (cutV vs lo hi) (cutD ds lo hi) := by
  unfold cutV cutD
  rw [r.length]
  exact (r.drop _).take _
theorem ve_slice {lo hi : Option Expr} {l h : EvO} {p2 : Pos} (ha : VE X a f) (hl : VO X lo l) (hh : VO X hi h) : VE X (.Subscript a (.Slice lo hi none p2) pos) (eSl f l h) := by
  refine PEimp (pe_slice (sl_list.or sl_tupA) ha hl hh) fun σ H Q q => ?_
  obtain ⟨al, S, sl, st, r, st', ok, e, k⟩ := q
  unfold eSl at e
  cases h1 : f sl st with
  | none => rw [h1] at e; cases e
  | some p =>
    obtain ⟨x, st1⟩ := p
    rw [h1] at e
    simp only [Option.bind_some] at e
    cases h2 : l sl st1 with
    | none => rw [h2] at e; cases e
    | some q =>
      obtain ⟨o1, st2⟩ := q
      rw [h2] at e
      simp only [Option.bind_some] at e
      cases h3 : h sl st2 with
      | none => rw [h3] at e; cases e
      | some q =>
        obtain ⟨o2, st3⟩ := q
        rw [h3] at e
        simp only [Option.bind_some] at e
        refine ⟨al, S, sl, st, x, st1, ok, h1, fun v w1 ok1 x1 rd1 fr1 => ⟨w1.al, w1.S, sl, st1, o1, st2, ok1, h2, fun w2 ok2 x2 => ⟨w2.al, w2.S, sl, st2, o2, st3, ok2, h3, fun w3 ok3 x3 => ?_⟩⟩⟩
        have rd3 := (rd1.ext ok1 x2).ext ok2 x3
        have xx := x1.trans (x2.trans x3)
        unfold cSl at e
        split at e
        · rename_i l hd
          cases e
          obtain ⟨p, vs, e1, h4, r4⟩ := rd3.tup hd
          refine .inr ⟨p, vs, e1, h4, fun hw => ?_, fun _ n hn => ?_⟩
          · refine k (.ref p) w3 ok3 xx ?_ trivial
            have ec : cutD l o1 o2 = l := by
              unfold cutD
              rw [r4.length] at hw
              rw [hw.1, hw.2, List.drop_zero, Nat.sub_zero, List.take_length]
            subst e1
            exact Rep.tup h4 (by rw [ec]; exact r4)
          · exact k (.ref n) ⟨w3.al, w3.S, upd w3.H n (.tup (cutV vs o1 o2))⟩ (ok3.new hn) (xx.trans (ext_new hn)) (Rep.tup (SqT.of upd_same) (repL_new hn (cut_rep r4 o1 o2))) trivial
        · rename_i hd
          cases hs : seqD st3 x.d with
          | none => rw [hs] at e; cases e
          | some l =>
            rw [hs] at e
            cases e
            obtain ⟨p, vs, e1, r4, _, h5⟩ := rd3.seq ok3 hs
            rcases h5 with ⟨l', h5⟩ | h5
            · exact absurd h5 (hd l')
            · exact .inl ⟨p, vs, e1, h5, fun n hn => k (.ref n) ⟨w3.al, w3.S, upd w3.H n (.lst (cutV vs o1 o2))⟩ (ok3.new hn) (xx.trans (ext_new hn)) (prv_new ok3 hn (cut_rep r4 o1 o2)) fun a ea => by
                cases ea
                exact xx.dom _ hn⟩
/-- xs[::-1] of a list -/
def cRev : Amb → D → Option R := fun st x => match x with
  | .tup _ => none
  | x => (seqD st x).map fun l => .prv l.reverse
theorem ve_rev {k : Nat} {p1 p2 p3 : Pos} (ha : VE X a f) : VE X (.Subscript a (.Slice none none (some (.UnaryOp .USub (.Constant (.int 1) k p1) p2)) p3) pos) (e1 f cRev) := by
  refine PEimp (pe_revL ha) fun σ H Q q => e1_read (rd := fun x H1 Q => ∃ a xs, x = .ref a ∧ SqL X.K H1 a xs ∧ ∀ p, H1 p = none → Q (.ref p) (upd H1 p (.lst xs.reverse))) ?_ q
  intro w sl st σ v x res Q ok rx e k
  unfold cRev at e
  split at e
  · cases e
  · rename_i hd
    cases hs : seqD st x.d with
    | none => rw [hs] at e; cases e
    | some l =>
      rw [hs] at e
      cases e
      obtain ⟨p, vs, e1, r4, _, h5⟩ := rx.seq ok hs
      rcases h5 with ⟨l', h5⟩ | h5
      · exact absurd h5 (hd l')
      · exact ⟨p, vs, e1, h5, fun n hn => Kon.prv k ok hn r4.reverse⟩
end
end Vx


set_option Elab.async false
set_option linter.all false
set_option maxRecDepth 100000
/-! Vb: built-in functions over trees; isinstance. -/
namespace Vx
open PySem L2

section
variable {X : Cx} {a b : Expr} {f g : EvF} {pos p : Pos} {FA : EvA} {es : List Expr}
theorem RdRs.one {K : PySem.W.Frag} {w : Wd} {sl : Sls} {σ : St} {vs : List V} {rs : List R} {d : D} (h : RdRs K w sl σ vs rs) (e : rs.map R.d = [d]) : ∃ v r, vs = [v] ∧ rs = [r] ∧ r.d = d ∧ RdR K w sl σ v r := by
  cases h with
  | nil => simp at e
  | cons h1 h2 =>
    cases h2 with
    | nil =>
      simp only [List.map_cons, List.map_nil, List.cons.injEq, and_true] at e
      exact ⟨_, _, rfl, rfl, e, h1⟩
    | cons h3 h4 => simp at e
theorem RdRs.two {K : PySem.W.Frag} {w : Wd} {sl : Sls} {σ : St} {vs : List V} {rs : List R} {d d' : D} (h : RdRs K w sl σ vs rs) (e : rs.map R.d = [d, d']) : ∃ v r v' r', vs = [v, v'] ∧ rs = [r, r'] ∧ r.d = d ∧ r'.d = d' ∧ RdR K w sl σ v r ∧ RdR K w sl σ v' r' := by
  cases h with
  | nil => simp at e
  | cons h1 h2 =>
    simp only [List.map_cons, List.cons.injEq] at e
    obtain ⟨v', r', e1, e2, e3, h3⟩ := h2.one e.2
    subst e1 e2
    exact ⟨_, _, v', r', rfl, rfl, e.1, e3, h1, h3⟩
/-! ### len -/
def cLen : Amb → List D → Option R := fun st xs => match xs with
  | [.str z] => if z.length ≤ line then some (.val (.int z.length)) else none
  | [x] => (seqD st x).map fun l => .val (.int l.length)
  | _ => none
theorem con_len : ConA X.K (fun xs H Q => ∃ x n, xs = [x] ∧ LenV X.K x H n ∧ Q (.int n) H) cLen := by
  intro w sl st σ vs rs res Q ok rd e k
  unfold cLen at e
  split at e
  · rename_i z hz
    split at e
    · rename_i hl
      cases e
      obtain ⟨v, r, rfl, rfl, e1, h1⟩ := rd.one hz
      rw [h1.str e1]
      exact ⟨_, z.length, rfl, ⟨by rw [line_eq]; exact hl, rfl⟩, Kon.val k ok (.int _)⟩
    · cases e
  · rename_i x hx hz
    cases hs : seqD st x with
    | none => rw [hs] at e; cases e
    | some l =>
      rw [hs] at e
      cases e
      obtain ⟨v, r, rfl, rfl, e1, h1⟩ := rd.one hz
      subst e1
      obtain ⟨q, vs, e2, r2, h2, _⟩ := h1.seq ok hs
      subst e2
      refine ⟨_, vs.length, rfl, ?_, ?_⟩
      · rcases h2 with h2 | h2
        · exact .inl ⟨vs, h2, rfl⟩
        · exact .inr ⟨vs, h2, rfl⟩
      · rw [r2.length]
        exact Kon.val k ok (.int _)
  · cases e
theorem ve_len (hg : Gl X "len") (hm : X.mg "len" = none) (ha : VA X (a :: es) FA) (he : starEach (a :: es) X.env = (false, eval a X.env) :: starEach es X.env := by rfl) (hpl : (backTo pos (starEach es X.env)).any (·.1) = false := by rfl) : VE X (.Call (.Name "len" p) (a :: es) [] pos) (eA FA cLen) :=
  ve_callB call_len con_len hg hm PySem.boot_len ha (he := he) (hpl := hpl)
/-! ### min, max of two, abs, int -/
def cMin : Amb → List D → Option R := fun _ xs => match xs with
  | [.int i, .int j] => some (.val (.int (if j < i then j else i)))
  | _ => none
def cMax : Amb → List D → Option R := fun _ xs => match xs with
  | [.int i, .int j] => some (.val (.int (if j > i then j else i)))
  | _ => none
theorem con_min : ConA X.K (fun xs H Q => ∃ i j, xs = [.int i, .int j] ∧ Q (.int (if j < i then j else i)) H) cMin := by
  intro w sl st σ vs rs res Q ok rd e k
  unfold cMin at e
  split at e
  · rename_i i j hz
    cases e
    obtain ⟨v, r, v', r', rfl, rfl, e1, e2, h1, h2⟩ := rd.two hz
    rw [h1.int e1, h2.int e2]
    exact ⟨i, j, rfl, Kon.val k ok (.int _)⟩
  · cases e
theorem con_max : ConA X.K (fun xs H Q => ∃ i j, xs = [.int i, .int j] ∧ Q (.int (if j > i then j else i)) H) cMax := by
  intro w sl st σ vs rs res Q ok rd e k
  unfold cMax at e
  split at e
  · rename_i i j hz
    cases e
    obtain ⟨v, r, v', r', rfl, rfl, e1, e2, h1, h2⟩ := rd.two hz
    rw [h1.int e1, h2.int e2]
    exact ⟨i, j, rfl, Kon.val k ok (.int _)⟩
  · cases e
theorem ve_min2 (hc : X.calm = true) (hg : Gl X "min") (hm : X.mg "min" = none) (ha : VA X (a :: es) FA) (he : starEach (a :: es) X.env = (false, eval a X.env) :: starEach es X.env := by rfl) (hpl : (backTo pos (starEach es X.env)).any (·.1) = false := by rfl) : VE X (.Call (.Name "min" p) (a :: es) [] pos) (eA FA cMin) :=
  ve_callB (call_min2 hc) con_min hg hm (by decide +kernel) ha (he := he) (hpl := hpl)
theorem ve_max2 (hc : X.calm = true) (hg : Gl X "max") (hm : X.mg "max" = none) (ha : VA X (a :: es) FA) (he : starEach (a :: es) X.env = (false, eval a X.env) :: starEach es X.env := by rfl) (hpl : (backTo pos (starEach es X.env)).any (·.1) = false := by rfl) : VE X (.Call (.Name "max" p) (a :: es) [] pos) (eA FA cMax) :=
  ve_callB (call_max2 hc) con_max hg hm (by decide +kernel) ha (he := he) (hpl := hpl)
def cInt : Amb → List D → Option R := fun _ xs => match xs with
  | [.int i] => some (.val (.int i))
  | [.bl b] => some (.val (.int (if b then 1 else 0)))
  | _ => none
theorem con_int : ConA X.K (fun xs H Q => (∃ i, xs = [.int i] ∧ Q (.int i) H) ∨ ∃ k, xs = [.bl k] ∧ Q (.int (if k then 1 else 0)) H) cInt := by
  intro w sl st σ vs rs res Q ok rd e k
  unfold cInt at e
  split at e
  · rename_i i hz
    cases e
    obtain ⟨v, r, rfl, rfl, e1, h1⟩ := rd.one hz
    rw [h1.int e1]
    exact .inl ⟨i, rfl, Kon.val k ok (.int _)⟩
  · rename_i i hz
    cases e
    obtain ⟨v, r, rfl, rfl, e1, h1⟩ := rd.one hz
    rw [h1.bl e1]
    exact .inr ⟨i, rfl, Kon.val k ok (.int _)⟩
  · cases e
theorem ve_int1 (hg : Gl X "int") (hm : X.mg "int" = none) (ha : VA X (a :: es) FA) (he : starEach (a :: es) X.env = (false, eval a X.env) :: starEach es X.env := by rfl) (hpl : (backTo pos (starEach es X.env)).any (·.1) = false := by rfl) : VE X (.Call (.Name "int" p) (a :: es) [] pos) (eA FA cInt) :=
  ve_callTy call_int1 con_int hg hm (by decide +kernel) ha (he := he) (hpl := hpl)
def cAbs : Amb → List D → Option R := fun _ xs => match xs with
  | [.int i] => some (.val (.int (if i < 0 then -i else i)))
  | _ => none
theorem con_abs : ConA X.K (fun xs H Q => ∃ i, xs = [.int i] ∧ Q (.int (if i < 0 then -i else i)) H) cAbs := by
  intro w sl st σ vs rs res Q ok rd e k
  unfold cAbs at e
  split at e
  · rename_i i hz
    cases e
    obtain ⟨v, r, rfl, rfl, e1, h1⟩ := rd.one hz
    rw [h1.int e1]
    exact ⟨i, rfl, Kon.val k ok (.int _)⟩
  · cases e
theorem ve_abs (hg : Gl X "abs") (hm : X.mg "abs" = none) (ha : VA X (a :: es) FA) (he : starEach (a :: es) X.env = (false, eval a X.env) :: starEach es X.env := by rfl) (hpl : (backTo pos (starEach es X.env)).any (·.1) = false := by rfl) : VE X (.Call (.Name "abs" p) (a :: es) [] pos) (eA FA cAbs) :=
  ve_callB call_abs con_abs hg hm (by decide +kernel) ha (he := he) (hpl := hpl)
/-! ### tuple, list, sorted -/
def cTuple : Amb → List D → Option R := fun st xs => match xs with
  | [x] => (seqD st x).map fun l => .val (.tup l)
  | _ => none
theorem con_tuple : ConA X.K (fun xs H Q => ∃ p ys, xs = [.ref p] ∧ ((SqL X.K H p ys ∧ ∀ l, H l = none → Q (.ref l) (upd H l (.tup ys))) ∨ (SqT X.K H p ys ∧ Q (.ref p) H))) cTuple := by
  intro w sl st σ vs rs res Q ok rd e k
  unfold cTuple at e
  split at e
  · rename_i x hz
    cases hs : seqD st x with
    | none => rw [hs] at e; cases e
    | some l =>
      rw [hs] at e
      cases e
      obtain ⟨v, r, rfl, rfl, e1, h1⟩ := rd.one hz
      subst e1
      obtain ⟨q, vs, e2, r2, h2, h3⟩ := h1.seq ok hs
      subst e2
      refine ⟨q, vs, rfl, ?_⟩
      rcases h2 with h2 | h2
      · exact .inl ⟨h2, fun n hn => Kon.tup k ok hn r2⟩
      · exact .inr ⟨h2, Kon.val k ok (.tup h2 r2)⟩
  · cases e
theorem ve_tuple (hg : Gl X "tuple") (hm : X.mg "tuple" = none) (ha : VA X (a :: es) FA) (he : starEach (a :: es) X.env = (false, eval a X.env) :: starEach es X.env := by rfl) (hpl : (backTo pos (starEach es X.env)).any (·.1) = false := by rfl) : VE X (.Call (.Name "tuple" p) (a :: es) [] pos) (eA FA cTuple) :=
  ve_callTy call_tuple_of con_tuple hg hm (by decide +kernel) ha (he := he) (hpl := hpl)
def cList : Amb → List D → Option R := fun st xs => match xs with
  | [x] => (seqD st x).map fun l => .prv l
  | _ => none
theorem con_list : ConA X.K (fun xs H Q => ∃ p ys, xs = [.ref p] ∧ (SqL X.K H p ys ∨ SqT X.K H p ys) ∧ ∀ l, H l = none → Q (.ref l) (upd H l (.lst ys))) cList := by
  intro w sl st σ vs rs res Q ok rd e k
  unfold cList at e
  split at e
  · rename_i x hz
    cases hs : seqD st x with
    | none => rw [hs] at e; cases e
    | some l =>
      rw [hs] at e
      cases e
      obtain ⟨v, r, rfl, rfl, e1, h1⟩ := rd.one hz
      subst e1
      obtain ⟨q, vs, e2, r2, h2, h3⟩ := h1.seq ok hs
      subst e2
      exact ⟨q, vs, rfl, h2, fun n hn => Kon.prv k ok hn r2⟩
  · cases e
theorem ve_list (hg : Gl X "list") (hm : X.mg "list" = none) (ha : VA X (a :: es) FA) (he : starEach (a :: es) X.env = (false, eval a X.env) :: starEach es X.env := by rfl) (hpl : (backTo pos (starEach es X.env)).any (·.1) = false := by rfl) : VE X (.Call (.Name "list" p) (a :: es) [] pos) (eA FA cList) :=
  ve_callTy call_list_of con_list hg hm (by decide +kernel) ha (he := he) (hpl := hpl)
def cSort : Amb → List D → Option R := fun _ xs => match xs with
  | [.lst l] => if srt l = true then some (.prv (isort D.le l)) else none
  | [.tup l] => if srt l = true then some (.prv (isort D.le l)) else none
  | _ => none
theorem zip_fst {K : PySem.W.Frag} {w : Wd} : ∀ {ds : List D} {vs : List V}, RepL K w vs ds → (ds.zip vs).map (·.1) = ds ∧ (ds.zip vs).map (·.2) = vs ∧ ∀ q ∈ ds.zip vs, Rep K w q.2 q.1
  | [], _, h => by cases h; exact ⟨rfl, rfl, fun q hq => by simp at hq⟩
  | d :: ds, _, h => by
    cases h with
    | cons h1 h2 =>
      obtain ⟨e1, e2, e3⟩ := zip_fst h2
      refine ⟨by simp [e1], by simp [e2], fun q hq => ?_⟩
      rw [List.zip_cons_cons] at hq
      rcases List.mem_cons.mp hq with rfl | hq
      · exact h1
      · exact e3 q hq
theorem repL_of {K : PySem.W.Frag} {w : Wd} : ∀ {ps : List (D × V)}, (∀ q ∈ ps, Rep K w q.2 q.1) → RepL K w (ps.map (·.2)) (ps.map (·.1))
  | [], _ => .nil
  | q :: ps, h => .cons (h q List.mem_cons_self) (repL_of fun z hz => h z (List.mem_cons_of_mem _ hz))
theorem con_sort : ConA X.K (rSortD X.K) cSort := by
  intro w sl st σ vs rs res Q ok rd e k
  have go : ∀ (a : Addr) (us : List V) (l : List D), RepL X.K w us l → (SqL X.K w.H a us ∨ SqT X.K w.H a us) → srt l = true → Kon X.K w sl st σ (.prv (isort D.le l)) Q → rSortD X.K [.ref a] w.H Q := fun a us l r hs hl k => by
    obtain ⟨z1, z2, z3⟩ := zip_fst r
    refine ⟨a, l.zip us, rfl, by rw [z2]; exact hs, fun q hq => ?_, by rw [z1]; exact hl, fun n hn => ?_⟩
    · have hm : q.1 ∈ l := by rw [← z1]; exact List.mem_map.mpr ⟨q, hq, rfl⟩
      exact Rep.dp (z3 q hq) (datL_mem (srt_srtb hl).2.2.1 _ hm)
    · refine Kon.prv k ok hn ?_
      have e : isort D.le l = (isort (fun a b : D × V => D.le a.1 b.1) (l.zip us)).map (·.1) := by
        rw [isort_map (le' := D.le) (fun q : D × V => q.1) (fun a b => rfl), z1]
      rw [e]
      exact repL_of fun q hq => z3 q (isort_mem.mp hq)
  unfold cSort at e
  split at e
  · rename_i l hz
    split at e
    · rename_i hl
      cases e
      obtain ⟨v, r, rfl, rfl, e1, h1⟩ := rd.one hz
      obtain ⟨q, us, e2, h2, r2⟩ := h1.lst ok e1
      subst e2
      exact go q us l r2 (.inl (SqL.of h2)) hl k
    · cases e
  · rename_i l hz
    split at e
    · rename_i hl
      cases e
      obtain ⟨v, r, rfl, rfl, e1, h1⟩ := rd.one hz
      obtain ⟨q, us, e2, h2, r2⟩ := h1.tup e1
      subst e2
      exact go q us l r2 (.inr h2) hl k
    · cases e
  · cases e
theorem ve_sorted (hu : X.A.units + 64 < cLine) (hg : Gl X "sorted") (hm : X.mg "sorted" = none) (ha : VA X (a :: es) FA) (he : starEach (a :: es) X.env = (false, eval a X.env) :: starEach es X.env := by rfl) (hpl : (backTo pos (starEach es X.env)).any (·.1) = false := by rfl) : VE X (.Call (.Name "sorted" p) (a :: es) [] pos) (eA FA cSort) :=
  ve_callB (cr_sortD hu) con_sort hg hm (by decide +kernel) ha (he := he) (hpl := hpl)
/-! ### list(range(..)), tuple(range(..)) -/
def rg (lo hi : Int) : List D := (List.range (hi - lo).toNat).map fun i => .int (lo + (i : Nat))
theorem rg_rep {K : PySem.W.Frag} {w : Wd} (lo hi : Int) : RepL K w (rgV lo hi) (rg lo hi) := by
  unfold rgV rg
  generalize List.range (hi - lo).toNat = l
  induction l with
  | nil => exact .nil
  | cons i l ih => exact .cons (.int _) ih
def rgOk (lo hi : Int) : Bool := decide (-4611686018427387904 ≤ lo ∧ lo < 4611686018427387904 ∧ -4611686018427387904 ≤ hi ∧ hi < 4611686018427387904 ∧ (hi - lo).toNat ≤ 16777216)
theorem rgOk_iff {lo hi : Int} (h : rgOk lo hi = true) : RgOk lo hi := by
  have q := of_decide_eq_true h
  exact ⟨by omega, by omega, by omega, by omega, by omega⟩
def cRg1 (mk : List D → R) : Amb → D → Option R := fun _ x => match x with
  | .int n => if rgOk 0 n = true then some (mk (rg 0 n)) else none
  | _ => none
def cRg2 (mk : List D → R) : Amb → D → D → Option R := fun _ x y => match x with
  | .int i => (match y with | .int j => if rgOk i j = true then some (mk (rg i j)) else none | _ => none)
  | _ => none
def mTup (l : List D) : R := .val (.tup l)
theorem con_rg1 {K : PySem.W.Frag} : Con1 K (fun x H Q => ∃ n, x = .int n ∧ RgOk 0 n ∧ ∀ q, H q = none → Q (.ref q) (upd H q (.lst (rgV 0 n)))) (cRg1 .prv) ∧
    Con1 K (fun x H Q => ∃ n, x = .int n ∧ RgOk 0 n ∧ ∀ q, H q = none → Q (.ref q) (upd H q (.tup (rgV 0 n)))) (cRg1 mTup) := by
  constructor <;>
  · intro w sl st σ v x res Q ok rx e k
    unfold cRg1 at e
    cases hx : x.d <;> rw [hx] at e <;> simp only at e <;> try (cases e; done)
    split at e
    · rename_i h
      cases e
      first
        | exact ⟨_, rx.int hx, rgOk_iff h, fun n hn => Kon.prv k ok hn (rg_rep _ _)⟩
        | exact ⟨_, rx.int hx, rgOk_iff h, fun n hn => Kon.tup k ok hn (rg_rep _ _)⟩
    · cases e
theorem con_rg2 {K : PySem.W.Frag} : Con2 K (fun x y H Q => ∃ i j, x = .int i ∧ y = .int j ∧ RgOk i j ∧ ∀ q, H q = none → Q (.ref q) (upd H q (.lst (rgV i j)))) (cRg2 .prv) ∧
    Con2 K (fun x y H Q => ∃ i j, x = .int i ∧ y = .int j ∧ RgOk i j ∧ ∀ q, H q = none → Q (.ref q) (upd H q (.tup (rgV i j)))) (cRg2 mTup) := by
  constructor <;>
  · intro w sl st σ v u x y res Q ok rx ry e k
    unfold cRg2 at e
    cases hx : x.d <;> rw [hx] at e <;> simp only at e <;> try (cases e; done)
    cases hy : y.d <;> rw [hy] at e <;> simp only at e <;> try (cases e; done)
    split at e
    · rename_i h
      cases e
      first
        | exact ⟨_, _, rx.int hx, ry.int hy, rgOk_iff h, fun n hn => Kon.prv k ok hn (rg_rep _ _)⟩
        | exact ⟨_, _, rx.int hx, ry.int hy, rgOk_iff h, fun n hn => Kon.tup k ok hn (rg_rep _ _)⟩
    · cases e
variable {p2 pos2 : Pos}
theorem ve_listRg1 (hc : X.calm = true) (hg : Gl X "list") (hm : X.mg "list" = none) (hg2 : Gl X "range") (hm2 : X.mg "range" = none) (ha : VE X a f) (na : starEach [a] X.env = (false, eval a X.env) :: starEach [] X.env := by rfl)
    (na2 : starEach [Expr.Call (.Name "range" p2) [a] [] pos2] X.env = (false, eval (Expr.Call (.Name "range" p2) [a] [] pos2) X.env) :: starEach [] X.env := by rfl) : VE X (.Call (.Name "list" p) [.Call (.Name "range" p2) [a] [] pos2] [] pos) (e1 f (cRg1 .prv)) :=
  PEimp (pe_listRg hc hg hm (prg_1 hg2 hm2 ha na) na2) fun σ H Q h => e1_read con_rg1.1 h
theorem ve_tupRg1 (hc : X.calm = true) (hg : Gl X "tuple") (hm : X.mg "tuple" = none) (hg2 : Gl X "range") (hm2 : X.mg "range" = none) (ha : VE X a f) (na : starEach [a] X.env = (false, eval a X.env) :: starEach [] X.env := by rfl)
    (na2 : starEach [Expr.Call (.Name "range" p2) [a] [] pos2] X.env = (false, eval (Expr.Call (.Name "range" p2) [a] [] pos2) X.env) :: starEach [] X.env := by rfl) : VE X (.Call (.Name "tuple" p) [.Call (.Name "range" p2) [a] [] pos2] [] pos) (e1 f (cRg1 mTup)) :=
  PEimp (pe_tupRg hc hg hm (prg_1 hg2 hm2 ha na) na2) fun σ H Q h => e1_read con_rg1.2 h
/-! ### isinstance -/
def tyD : D → String
  | .non => "NoneType"
  | .bl _ => "bool"
  | .int _ => "int"
  | .str _ => "str"
  | .tup _ => "tuple"
  | .lst _ => "list"
  | .frz _ => "list"
  | .loc _ => "list"
theorem rd_ty {K : PySem.W.Frag} {w : Wd} {sl : Sls} {σ : St} {st : Amb} {v : V} {x : R} (h : RdR K w sl σ v x) (ok : Ok K w sl st σ) : TyX K w.H v (.type (tyD x.d)) := by
  cases hx : x.d with
  | lst l =>
    obtain ⟨a, vs, e, h1, _⟩ := h.lst ok hx
    rw [e]
    exact .base (.lst h1)
  | tup l =>
    obtain ⟨a, vs, e, h1, _⟩ := h.tup hx
    rw [e]
    rcases h1 with (h1 | ⟨o, h1⟩) | ⟨o, its, n, h1, h2, _⟩
    · exact .base (.tup h1)
    · exact .fTuple h1
    · exact .kTuple h1 h2
  | loc n =>
    have q := h.rep hx (fun l z => by cases z)
    cases q with
    | loc h1 =>
      obtain ⟨_, vs, es, e1, _⟩ := ok.amb.at_ n _ h1
      exact .base (.lst e1)
  | frz l =>
    have q := h.rep hx (fun l z => by cases z)
    cases q with
    | frz h1 h2 => exact .base (.frz h1)
    | frk a b c d e f g => exact .kList a b
  | non =>
    have q := h.rep hx (fun l z => by cases z)
    cases q
    exact .base .non
  | bl b =>
    have q := h.rep hx (fun l z => by cases z)
    cases q
    exact .base (.bl b)
  | int i =>
    have q := h.rep hx (fun l z => by cases z)
    cases q
    exact .base (.int i)
  | str s =>
    have q := h.rep hx (fun l z => by cases z)
    cases q
    exact .base (.str s)
/-- the classes that are asked for -/
inductive Ty | int | bool | str | tuple | list | dict
  deriving DecidableEq
def Ty.nm : Ty → String
  | .int => "int" | .bool => "bool" | .str => "str" | .tuple => "tuple" | .list => "list" | .dict => "dict"
def isT (d : D) : Ty → Bool
  | .int => match d with | .int _ => true | .bl _ => true | _ => false
  | .bool => match d with | .bl _ => true | _ => false
  | .str => match d with | .str _ => true | _ => false
  | .tuple => match d with | .tup _ => true | _ => false
  | .list => match d with | .lst _ => true | .frz _ => true | .loc _ => true | _ => false
  | .dict => false
theorem kit_all {K : PySem.W.Frag} (d : D) (t : Ty) : PySem.W.kitOne K (.type (tyD d)) (.type t.nm) = some (isT d t) := by
  cases d <;> cases t <;> exact kit_ty (by dsimp only [tyD, isT, Ty.nm]; decide +kernel)
theorem kit_any {K : PySem.W.Frag} (d : D) : ∀ ts : List Ty, PySem.W.kitAny K (.type (tyD d)) (ts.map fun t => Value.type t.nm) = some (ts.any (isT d))
  | [] => kitAny_nil
  | t :: ts => by
    refine kitAny_cons (kit_all d t) (fun e => ?_) (fun e => ?_)
    · rw [List.any_cons, e, Bool.false_or]
      exact kit_any d ts
    · rw [List.any_cons, e, Bool.true_or]
def cIsi (t : Ty) : Amb → D → Option R := fun _ x => some (.val (.bl (isT x t)))
def cIsis (ts : List Ty) : Amb → D → Option R := fun _ x => some (.val (.bl (ts.any (isT x))))
theorem ve_isi (t : Ty) {pt : Pos} {nm : Str} (hg : Gl X "isinstance") (hm : X.mg "isinstance" = none) (hgT : Gl X nm) (hmT : X.mg nm = none) (hvT : bootBuiltins nm = some (.type t.nm)) (ha : VE X a f) (hn : nm ≠ "__name__" := by decide) (hdb : (nm == ("__debug__" : Str)) = false := by decide)
    (he : starEach [a, Expr.Name nm pt] X.env = (false, eval a X.env) :: starEach [Expr.Name nm pt] X.env := by rfl) (he2 : starEach [Expr.Name nm pt] X.env = (false, eval (Expr.Name nm pt) X.env) :: starEach [] X.env := by rfl) (hpl : (backTo pos (starEach [Expr.Name nm pt] X.env)).any (·.1) = false := by rfl) :
    VE X (.Call (.Name "isinstance" p) [a, .Name nm pt] [] pos) (e1 f (cIsi t)) := by
  refine PEimp (pe_callB call_isi hg hm (by decide +kernel) (pa_cons ha (pa_cons (pe_bltn (v := .ty t.nm) hgT hmT hvT rfl hn hdb) pa_nil he2) he) (he := he) (hpl := hpl)) fun σ H Q h => ?_
  refine e1_read (rd := fun x H1 Q => rIsi X.K [x, .ty t.nm] H1 Q) (fun w sl st σ v x res Q ok rx e k => ?_) h
  cases e
  exact ⟨v, .ty t.nm, _, _, _, rfl, .ty _, rd_ty rx ok, kit_all x.d t, Kon.val k ok (.bl _)⟩
/-- names of classes -/
inductive TyNames (X : Cx) : List Expr → List Ty → Prop
  | nil : TyNames X [] []
  | cons {t : Ty} {nm : Str} {pt : Pos} {es : List Expr} {ts : List Ty} (hg : Gl X nm) (hm : X.mg nm = none) (hv : bootBuiltins nm = some (.type t.nm)) (hn : nm ≠ "__name__") (hdb : (nm == ("__debug__" : Str)) = false)
    (he : starEach (Expr.Name nm pt :: es) X.env = (false, eval (Expr.Name nm pt) X.env) :: starEach es X.env) (r : TyNames X es ts) : TyNames X (.Name nm pt :: es) (t :: ts)
theorem tyNames_pa : ∀ {es : List Expr} {ts : List Ty}, TyNames X es ts → PA X es (fun _ H Q => Q (ts.map fun t => V.ty t.nm) H)
  | _, _, .nil => pa_nil
  | _, _, .cons hg hm hv hn hdb he r => PAimp (pa_cons (pe_bltn (v := .ty _) hg hm hv rfl hn hdb) (tyNames_pa r) he) fun σ H Q h => h
theorem ve_isiT {ts : List Ty} {es : List Expr} {k2 : Nat} {pt : Pos} (hg : Gl X "isinstance") (hm : X.mg "isinstance" = none) (ht : TyNames X es ts) (hz : ts.length ≤ line) (ha : VE X a f)
    (he : starEach [a, Expr.Tuple es k2 pt] X.env = (false, eval a X.env) :: starEach [Expr.Tuple es k2 pt] X.env := by rfl) (he2 : starEach [Expr.Tuple es k2 pt] X.env = (false, eval (Expr.Tuple es k2 pt) X.env) :: starEach [] X.env := by rfl) (hpl : (backTo pos (starEach [Expr.Tuple es k2 pt] X.env)).any (·.1) = false := by rfl) :
    VE X (.Call (.Name "isinstance" p) [a, .Tuple es k2 pt] [] pos) (e1 f (cIsis ts)) := by
  refine PEimp (pe_callB call_isiT hg hm (by decide +kernel) (pa_cons ha (pa_cons (pe_tup (tyNames_pa ht)) pa_nil he2) he) (he := he) (hpl := hpl)) fun σ H Q h => ?_
  refine e1_read (rd := fun x H1 Q => (ts.map fun t => V.ty t.nm).length ≤ sizeLine ∧ ∀ p, H1 p = none → rIsiT X.K [x, .ref p] (upd H1 p (.tup (ts.map fun t => V.ty t.nm))) Q) (fun w sl st σ v x res Q ok rx e k => ?_) h
  cases e
  refine ⟨by rw [List.length_map, line_eq]; exact hz, fun n hn => ⟨v, n, _, _, ts.map fun t => Value.type t.nm, _, rfl, upd_same, ?_, rd_ty (rx.ext ok (ext_new hn)) (ok.new hn), kit_any x.d ts, ?_⟩⟩
  · clear hz k ht h
    induction ts with
    | nil => exact .nil
    | cons t ts ih => exact .cons (.ty _) ih
  · exact k _ ⟨w.al, w.S, upd w.H n _⟩ (ok.new hn) (ext_new hn) (Rep.bl _) trivial
end
end Vx


set_option Elab.async false
set_option linter.all false
set_option maxRecDepth 100000
/-! Vc: writes, shared lists, targets, statements, loops over trees. -/
namespace Vx
open PySem L2

/-! ### writes -/
structure Wr (w : Wd) (P : Addr → Prop) (H' : Hp) : Prop where
  keep : ∀ a o, w.H a = some o → ¬ P a → H' a = some o
  lst : ∀ a, P a → ¬ w.S a ∧ ∃ vs, w.H a = some (.lst vs)
  dom : ∀ a, H' a = none → w.H a = none
abbrev Wd.to (w : Wd) (H' : Hp) : Wd := ⟨w.al, w.S, H'⟩
section
variable {K : PySem.W.Frag} {w w' : Wd} {sl sl' : Sls} {st st' : Amb} {σ σ' : St} {v : V} {r : R} {P : Addr → Prop} {H' : Hp}
theorem Wr.repG (x : Wr w P H') :
    (∀ a xs, SqT K w.H a xs → SqT K H' a xs) ∧ (∀ a xs, w.S a → w.H a = some (.lst xs) → w.S a ∧ H' a = some (.lst xs)) ∧ (∀ a o xs, w.H a = some (.frz o (.lst xs)) → H' a = some (.frz o (.lst xs))) := by
  refine ⟨fun a xs h => ?_, fun a xs s h => ⟨s, x.keep a _ h fun f => (x.lst a f).1 s⟩, fun a o xs h => x.keep a _ h fun f => ?_⟩
  · rcases h with (h | ⟨o, h⟩) | h
    · refine .inl (.inl (x.keep a _ h fun f => ?_))
      obtain ⟨vs, e⟩ := (x.lst a f).2
      rw [h] at e; cases e
    · refine .inl (.inr ⟨o, x.keep a _ h fun f => ?_⟩)
      obtain ⟨vs, e⟩ := (x.lst a f).2
      rw [h] at e; cases e
    · exact .inr h
  · obtain ⟨vs, e⟩ := (x.lst a f).2
    rw [h] at e; cases e
theorem Wr.rep (x : Wr w P H') {d : D} (h : Rep K w v d) : Rep K (w.to H') v d := by
  obtain ⟨a, b, c⟩ := x.repG (K := K)
  exact Rep.imp (w := w) (w' := w.to H') a b c (fun _ _ h => h) d v h
theorem Wr.repL (x : Wr w P H') {ds : List D} {vs : List V} (h : RepL K w vs ds) : RepL K (w.to H') vs ds := by
  obtain ⟨a, b, c⟩ := x.repG (K := K)
  exact RepL.imp (w := w) (w' := w.to H') a b c (fun _ _ h => h) ds vs h
theorem Ok.wr (ok : Ok K w sl st σ) (x : Wr w P H') (hst : ∀ (n : Nat) (a : Addr), w.al[n]? = some a → (¬ P a ∧ st'[n]? = st[n]?) ∨ ∃ vs ds, H' a = some (.lst vs) ∧ st'[n]? = some ds ∧ RepL K (w.to H') vs ds) (hsl : st'.length = st.length)
    (hpub : ∀ (j : Nat) (d : D), sl'[j]? = some (.pub d) → sl[j]? = some (.pub d)) (hown : ∀ (j : Nat) (ds : List D), sl'[j]? = some (.own ds) → ∃ es, sl[j]? = some (.own es) ∧ ∀ a, σ[j]? = some (some (.ref a)) → (¬ P a ∧ es = ds) ∨ ∃ vs, H' a = some (.lst vs) ∧ RepL K (w.to H') vs ds)
    (hlen : sl'.length = sl.length) (hs : ∀ a, w.S a → ∃ vs, H' a = some (.lst vs)) : Ok K (w.to H') sl' st' σ where
  amb := by
    refine ⟨by rw [hsl]; exact ok.amb.len, fun n a h => ?_, ok.amb.nod, hs⟩
    obtain ⟨s, vs, ds, e1, e2, e3⟩ := ok.amb.at_ n a h
    rcases hst n a h with ⟨np, e⟩ | h'
    · exact ⟨s, vs, ds, x.keep _ _ e1 np, by rw [e]; exact e2, x.repL e3⟩
    · exact ⟨s, h'⟩
  len := by rw [hlen]; exact ok.len
  pub := fun i d h => by
    obtain ⟨v, e, r⟩ := ok.pub i d (hpub i d h)
    exact ⟨v, e, x.rep r⟩
  own := fun i ds h => by
    obtain ⟨es, e0, k⟩ := hown i ds h
    obtain ⟨a, vs, e1, e2, e3, s, m⟩ := ok.own i es e0
    rcases k a e1 with ⟨np, rfl⟩ | ⟨us, e4, e5⟩
    · exact ⟨a, vs, e1, x.keep _ _ e2 np, x.repL e3, s, m⟩
    · exact ⟨a, us, e1, e4, e5, s, m⟩
  dis := fun i j ds es a h1 h2 h3 h4 => by
    obtain ⟨ds', e1, _⟩ := hown i ds h1
    obtain ⟨es', e2, _⟩ := hown j es h2
    exact ok.dis i j ds' es' a e1 e2 h3 h4
theorem Wr.s_keep (ok : Ok K w sl st σ) (x : Wr w P H') : ∀ a, w.S a → ∃ vs, H' a = some (.lst vs) := fun a s => by
  obtain ⟨vs, e⟩ := ok.amb.sd a s
  exact ⟨vs, x.keep _ _ e fun p => (x.lst a p).1 s⟩
/-- the heap grows -/
theorem Ok.grow (ok : Ok K w sl st σ) (k : ∀ a o, w.H a = some o → H' a = some o) (d : ∀ a, H' a = none → w.H a = none) : Ok K (w.to H') sl st σ :=
  have x : Wr w (fun _ => False) H' := ⟨fun a o h _ => k a o h, fun _ h => h.elim, d⟩
  ok.wr x (fun n a h => .inl ⟨fun z => z, rfl⟩) rfl (fun _ _ h => h) (fun j ds h => ⟨ds, h, fun a _ => .inl ⟨fun z => z, rfl⟩⟩) rfl (x.s_keep ok)
theorem Ext.grow (k : ∀ a o, w.H a = some o → H' a = some o) (d : ∀ a, H' a = none → w.H a = none) : Ext w (FootW w sl σ) (w.to H') (FootW (w.to H') sl σ) :=
  ⟨fun a o h _ => k a o h, fun _ h => h, fun _ h => .inl h, ⟨[], by simp⟩, d, fun _ h => .inl h⟩
theorem upd_dom {H : Hp} {a : Addr} {o u : HO} (h : H a = some u) : ∀ b, upd H a o b = none → H b = none := fun b hb => by
  by_cases e : b = a
  · subst e; rw [upd_same] at hb; cases hb
  · rw [upd_ne e] at hb; exact hb
theorem wr_at {a : Addr} {vs us : List V} (ha : w.H a = some (.lst vs)) (hs : ¬ w.S a) : Wr w (· = a) (upd w.H a (.lst us)) :=
  ⟨fun b o h n => by rw [upd_ne n]; exact h, fun b e => by subst e; exact ⟨hs, vs, ha⟩, upd_dom ha⟩
/-- a private list is written -/
theorem Ok.prvW {a : Addr} {vs us : List V} (ok : Ok K w sl st σ) (ha : w.H a = some (.lst vs)) (hs : ¬ w.S a) (hf : ¬ FootW w sl σ a) : Ok K (w.to (upd w.H a (.lst us))) sl st σ :=
  have x := wr_at (us := us) ha hs
  ok.wr x (fun n b h => .inl ⟨fun z => hf (.inl (z ▸ List.mem_of_getElem? h)), rfl⟩) rfl (fun _ _ h => h) (fun j ds h => ⟨ds, h, fun b hb => .inl ⟨fun z => hf (.inr ⟨j, ds, h, z ▸ hb⟩), rfl⟩⟩) rfl (x.s_keep ok)
/-- a shared list is written -/
theorem Ok.ambW {n : Nat} {a : Addr} {us : List V} {ds : List D} (ok : Ok K w sl st σ) (hn : w.al[n]? = some a) (r : RepL K w us ds) : Ok K (w.to (upd w.H a (.lst us))) sl (st.set n ds) σ := by
  obtain ⟨s, vs, es, e1, e2, e3⟩ := ok.amb.at_ n a hn
  have x := wr_at (us := us) e1 s
  refine ok.wr x (fun m b h => ?_) (by simp) (fun _ _ h => h) (fun j ds h => ⟨ds, h, fun b hb => .inl ⟨fun z => ?_, rfl⟩⟩) rfl (x.s_keep ok)
  · by_cases e : b = a
    · subst e
      have hm : m = n := by
        obtain ⟨h1, g1⟩ := List.getElem?_eq_some_iff.mp h
        obtain ⟨h2, g2⟩ := List.getElem?_eq_some_iff.mp hn
        exact (List.getElem_inj ok.amb.nod).mp (g1.trans g2.symm)
      subst hm
      refine .inr ⟨us, ds, upd_same, ?_, x.repL r⟩
      rw [List.getElem?_set_self]
      exact (List.getElem?_eq_some_iff.mp e2).1
    · refine .inl ⟨e, ?_⟩
      have hm : n ≠ m := fun z => e (by subst z; rw [hn] at h; exact (Option.some.inj h).symm)
      rw [List.getElem?_set_ne hm]
  · obtain ⟨c, vs', g1, _, _, _, m⟩ := ok.own j ds h
    rw [hb] at g1
    cases g1
    exact m (z ▸ List.mem_of_getElem? hn)
theorem Ext.ambW {n : Nat} {a : Addr} {us : List V} (ok : Ok K w sl st σ) (hn : w.al[n]? = some a) : Ext w (FootW w sl σ) (w.to (upd w.H a (.lst us))) (FootW (w.to (upd w.H a (.lst us))) sl σ) := by
  obtain ⟨s, vs, es, e1, e2, e3⟩ := ok.amb.at_ n a hn
  exact ⟨fun b o h nf => by
    have hb : b ≠ a := fun z => nf (.inl (by rw [z]; exact List.mem_of_getElem? hn))
    show upd w.H a (.lst us) b = some o
    rw [upd_ne hb]; exact h, fun _ h => h, fun _ h => .inl h, ⟨[], by simp⟩, upd_dom e1, fun _ h => .inl h⟩
/-- a slot's own list is written -/
theorem Ok.ownW {i : Nat} {a : Addr} {us : List V} {ds es : List D} (ok : Ok K w sl st σ) (hi : sl[i]? = some (.own es)) (ha : σ[i]? = some (some (.ref a))) (r : RepL K w us ds) : Ok K (w.to (upd w.H a (.lst us))) (sl.set i (.own ds)) st σ := by
  obtain ⟨b, vs, e1, e2, e3, s, m⟩ := ok.own i es hi
  rw [ha] at e1
  cases e1
  have x := wr_at (us := us) e2 s
  have hil : i < sl.length := (List.getElem?_eq_some_iff.mp hi).1
  refine ok.wr x (fun n c h => .inl ⟨fun z => m (z ▸ List.mem_of_getElem? h), rfl⟩) rfl (fun j d h => ?_) (fun j fs h => ?_) (by simp) (x.s_keep ok)
  · by_cases e : i = j
    · subst e; rw [List.getElem?_set_self hil] at h; cases h
    · rw [List.getElem?_set_ne e] at h; exact h
  · by_cases e : i = j
    · subst e
      rw [List.getElem?_set_self hil] at h
      cases h
      refine ⟨es, hi, fun c hc => ?_⟩
      rw [ha] at hc
      cases hc
      exact .inr ⟨us, upd_same, x.repL r⟩
    · rw [List.getElem?_set_ne e] at h
      exact ⟨fs, h, fun c hc => .inl ⟨fun z => e (ok.dis i j es fs a hi h ha (z ▸ hc)), rfl⟩⟩
theorem foot_set_own {i : Nat} {al : List Addr} {ds es : List D} (hi : sl[i]? = some (.own es)) {b : Addr} (h : Foot al (sl.set i (.own ds)) σ b) : Foot al sl σ b := by
  rcases h with h | ⟨j, fs, h1, h2⟩
  · exact .inl h
  · by_cases e : i = j
    · subst e; exact .inr ⟨i, es, hi, h2⟩
    · rw [List.getElem?_set_ne e] at h1; exact .inr ⟨j, fs, h1, h2⟩
theorem Ext.ownW {i : Nat} {a : Addr} {us : List V} {ds es : List D} (ok : Ok K w sl st σ) (hi : sl[i]? = some (.own es)) (ha : σ[i]? = some (some (.ref a))) : Ext w (FootW w sl σ) (w.to (upd w.H a (.lst us))) (FootW (w.to (upd w.H a (.lst us))) (sl.set i (.own ds)) σ) := by
  obtain ⟨b, vs, e1, e2, e3, s, m⟩ := ok.own i es hi
  rw [ha] at e1
  cases e1
  exact ⟨fun b o h nf => by
    have hb : b ≠ a := fun z => nf (.inr ⟨i, es, hi, by rw [z]; exact ha⟩)
    show upd w.H a (.lst us) b = some o
    rw [upd_ne hb]; exact h, fun _ h => h, fun _ h => .inl h, ⟨[], by simp⟩, upd_dom e2, fun _ h => .inl (foot_set_own hi h)⟩
/-- a slot is set: a value -/
theorem Ok.setPub {i : Nat} {d : D} (ok : Ok K w sl st σ) (r : Rep K w v d) : Ok K w (sl.set i (.pub d)) st (σ.set i (some v)) where
  amb := ok.amb
  len := by rw [List.length_set, List.length_set]; exact ok.len
  pub := fun j e h => by
    by_cases q : i = j
    · subst q
      have hil : i < sl.length := by
        have := (List.getElem?_eq_some_iff.mp h).1
        simpa using this
      rw [List.getElem?_set_self hil] at h
      cases h
      exact ⟨v, by rw [List.getElem?_set_self (by rw [ok.len]; exact hil)], r⟩
    · rw [List.getElem?_set_ne q] at h
      obtain ⟨u, e1, r1⟩ := ok.pub j e h
      exact ⟨u, by rw [List.getElem?_set_ne q]; exact e1, r1⟩
  own := fun j ds h => by
    by_cases q : i = j
    · subst q
      have hil : i < sl.length := by
        have := (List.getElem?_eq_some_iff.mp h).1
        simpa using this
      rw [List.getElem?_set_self hil] at h
      cases h
    · rw [List.getElem?_set_ne q] at h
      obtain ⟨a, vs, e1, e2⟩ := ok.own j ds h
      exact ⟨a, vs, by rw [List.getElem?_set_ne q]; exact e1, e2⟩
  dis := fun j k ds es a h1 h2 h3 h4 => by
    have hn : ∀ {m : Nat} {fs : List D}, (sl.set i (.pub d))[m]? = some (.own fs) → i ≠ m := fun {m fs} h q => by
      subst q
      have hil : i < sl.length := by
        have := (List.getElem?_eq_some_iff.mp h).1
        simpa using this
      rw [List.getElem?_set_self hil] at h
      cases h
    have q1 := hn h1
    have q2 := hn h2
    rw [List.getElem?_set_ne q1] at h1 h3
    rw [List.getElem?_set_ne q2] at h2 h4
    exact ok.dis j k ds es a h1 h2 h3 h4
theorem foot_set_pub {i : Nat} {al : List Addr} {d : D} {b : Addr} {o : Option V} (h : Foot al (sl.set i (.pub d)) (σ.set i o) b) : Foot al sl σ b := by
  rcases h with h | ⟨j, fs, h1, h2⟩
  · exact .inl h
  · by_cases e : i = j
    · subst e
      have hil : i < sl.length := by
        have := (List.getElem?_eq_some_iff.mp h1).1
        simpa using this
      rw [List.getElem?_set_self hil] at h1
      cases h1
    · rw [List.getElem?_set_ne e] at h1 h2; exact .inr ⟨j, fs, h1, h2⟩
theorem Ext.foot (F F' : Addr → Prop) (h : ∀ a, F' a → F a) : Ext w F w F' := ⟨fun _ _ h _ => h, fun _ h => h, fun _ h => .inl h, ⟨[], by simp⟩, fun _ h => h, fun a q => .inl (h a q)⟩
/-- a slot is set: a new list of its own -/
theorem Ok.setOwn {i : Nat} {ds : List D} (ok : Ok K w sl st σ) (hi : i < sl.length) (r : RdR K w sl σ v (.prv ds)) : Ok K w (sl.set i (.own ds)) st (σ.set i (some v)) := by
  obtain ⟨p, vs, rfl, hH, hr, hs, hf⟩ := r
  refine ⟨ok.amb, by rw [List.length_set, List.length_set]; exact ok.len, fun j e h => ?_, fun j es h => ?_, fun j k es fs a h1 h2 h3 h4 => ?_⟩
  · by_cases q : i = j
    · subst q; rw [List.getElem?_set_self hi] at h; cases h
    · rw [List.getElem?_set_ne q] at h
      obtain ⟨u, e1, r1⟩ := ok.pub j e h
      exact ⟨u, by rw [List.getElem?_set_ne q]; exact e1, r1⟩
  · by_cases q : i = j
    · subst q
      rw [List.getElem?_set_self hi] at h
      cases h
      exact ⟨p, vs, by rw [List.getElem?_set_self (by rw [ok.len]; exact hi)], hH, hr, hs, fun m => hf (.inl m)⟩
    · rw [List.getElem?_set_ne q] at h
      obtain ⟨a, us, e1, e2⟩ := ok.own j es h
      exact ⟨a, us, by rw [List.getElem?_set_ne q]; exact e1, e2⟩
  · by_cases q : i = j
    · by_cases q2 : i = k
      · omega
      · subst q
        rw [List.getElem?_set_self (by rw [ok.len]; exact hi)] at h3
        cases h3
        rw [List.getElem?_set_ne q2] at h2 h4
        exact absurd (.inr ⟨k, fs, h2, h4⟩) hf
    · by_cases q2 : i = k
      · subst q2
        rw [List.getElem?_set_self (by rw [ok.len]; exact hi)] at h4
        cases h4
        rw [List.getElem?_set_ne q] at h1 h3
        exact absurd (.inr ⟨j, es, h1, h3⟩) hf
      · rw [List.getElem?_set_ne q] at h1 h3
        rw [List.getElem?_set_ne q2] at h2 h4
        exact ok.dis j k es fs a h1 h2 h3 h4
theorem foot_set_own2 {i : Nat} {al : List Addr} {ds : List D} {p b : Addr} (hi : i < sl.length) (hl : σ.length = sl.length) (h : Foot al (sl.set i (.own ds)) (σ.set i (some (.ref p))) b) : Foot al sl σ b ∨ b = p := by
  rcases h with h | ⟨j, fs, h1, h2⟩
  · exact .inl (.inl h)
  · by_cases e : i = j
    · subst e
      rw [List.getElem?_set_self (by rw [hl]; exact hi)] at h2
      cases h2
      exact .inr rfl
    · rw [List.getElem?_set_ne e] at h1 h2; exact .inl (.inr ⟨j, fs, h1, h2⟩)
/-- a new list becomes a shared one -/
theorem Ok.share {ds : List D} (ok : Ok K w sl st σ) (r : RdR K w sl σ v (.prv ds)) : ∃ p, v = .ref p ∧ Ok K ⟨w.al ++ [p], w.S, w.H⟩ sl (st ++ [ds]) σ ∧ Rep K ⟨w.al ++ [p], w.S, w.H⟩ v (.loc st.length) := by
  obtain ⟨p, vs, rfl, hH, hr, hs, hf⟩ := r
  have hA : ∀ (n : Nat) (a : Addr), w.al[n]? = some a → (w.al ++ [p])[n]? = some a := fun n a h => by
    rw [List.getElem?_append_left (List.getElem?_eq_some_iff.mp h).1]; exact h
  have r1 : ∀ {d v}, Rep K w v d → Rep K ⟨w.al ++ [p], w.S, w.H⟩ v d := fun {d v} h => Rep.imp (w := w) (w' := ⟨w.al ++ [p], w.S, w.H⟩) (fun _ _ h => h) (fun _ _ s h => ⟨s, h⟩) (fun _ _ _ h => h) hA d v h
  have rl : ∀ {d v}, RepL K w v d → RepL K ⟨w.al ++ [p], w.S, w.H⟩ v d := fun {d v} h => RepL.imp (w := w) (w' := ⟨w.al ++ [p], w.S, w.H⟩) (fun _ _ h => h) (fun _ _ s h => ⟨s, h⟩) (fun _ _ _ h => h) hA d v h
  have hl := ok.amb.len
  refine ⟨p, rfl, ⟨⟨by simp [hl], fun n a h => ?_, ?_, ok.amb.sd⟩, ok.len, fun i d h => ?_, fun i es h => ?_, ok.dis⟩, .loc ?_⟩
  · by_cases hn : n < w.al.length
    · have h' : w.al[n]? = some a := by
        have q : (w.al ++ [p])[n]? = some a := h
        rw [List.getElem?_append_left hn] at q; exact q
      obtain ⟨s, us, es, e1, e2, e3⟩ := ok.amb.at_ n a h'
      exact ⟨s, us, es, e1, by rw [List.getElem?_append_left (by omega)]; exact e2, rl e3⟩
    · have q : (w.al ++ [p])[n]? = some a := h
      have hn' : n = w.al.length := by
        have := (List.getElem?_eq_some_iff.mp q).1
        simp at this
        omega
      subst hn'
      simp at q
      subst q
      exact ⟨hs, vs, ds, hH, by rw [hl]; simp, rl hr⟩
  · rw [List.nodup_append]
    exact ⟨ok.amb.nod, by simp, fun a ha b hb => by
      have : b = p := by simpa using hb
      subst this
      intro z
      subst z
      exact hf (.inl ha)⟩
  · obtain ⟨u, e, r⟩ := ok.pub i d h
    exact ⟨u, e, r1 r⟩
  · obtain ⟨a, us, e1, e2, e3, s, m⟩ := ok.own i es h
    refine ⟨a, us, e1, e2, rl e3, s, fun q => ?_⟩
    rcases List.mem_append.mp q with q | q
    · exact m q
    · have : a = p := by simpa using q
      subst this
      exact hf (.inr ⟨i, es, h, e1⟩)
  · rw [← hl]; simp
end

/-! ### shared lists in expressions -/
def eAmb (f : EvF) : EvF := fun sl st => match f sl st with
  | some (.prv l, st') => some (.val (.loc st'.length), st' ++ [l])
  | _ => none
/-- e.pop(), e a shared list -/
def cPop (st : Amb) (d : D) : Option (R × Amb) := match d with
  | .loc n => (match st[n]? with
    | some l => (match l[l.length - 1]? with | some x => some (.val x, st.set n l.dropLast) | none => none)
    | none => none)
  | _ => none
def ePop (f : EvF) : EvF := fun sl st => (f sl st).bind fun p => cPop p.2 p.1.d
section
variable {X : Cx} {a b : Expr} {f g : EvF} {pos apos : Pos}
theorem ve_amb (ha : VE X a f) : VE X a (eAmb f) := by
  refine PEimp ha fun σ H Q h => ?_
  obtain ⟨al, S, sl, st, r, st', ok, e, k⟩ := h
  unfold eAmb at e
  cases h1 : f sl st with
  | none => rw [h1] at e; cases e
  | some p =>
    obtain ⟨x, st1⟩ := p
    rw [h1] at e
    cases x with
    | val d => cases e
    | bor d => cases e
    | prv l =>
      cases e
      refine ⟨al, S, sl, st, .prv l, _, ok, h1, fun v w1 ok1 x1 rd1 fr1 => ?_⟩
      obtain ⟨p, e, ok2, r2⟩ := ok1.share rd1
      refine k v ⟨w1.al ++ [p], w1.S, w1.H⟩ ok2 ⟨x1.keep, x1.sS, x1.sN, ?_, x1.dom, fun c hc => ?_⟩ r2 trivial
      · obtain ⟨m, hm⟩ := x1.al
        exact ⟨m ++ [p], by rw [hm, List.append_assoc]⟩
      · rcases hc with hc | hc
        · rcases List.mem_append.mp hc with hc | hc
          · exact x1.fo c (.inl hc)
          · have : c = p := by simpa using hc
            subst this
            exact .inr (fr1 c e)
        · exact x1.fo c (.inr hc)
theorem loc_read {K : PySem.W.Frag} {w : Wd} {sl : Sls} {st : Amb} {σ : St} {v : V} {r : R} {n : Nat} (ok : Ok K w sl st σ) (h : RdR K w sl σ v r) (e : r.d = .loc n) :
    ∃ p vs ds, v = .ref p ∧ w.al[n]? = some p ∧ w.H p = some (.lst vs) ∧ st[n]? = some ds ∧ RepL K w vs ds := by
  have q := h.rep e (fun l z => by cases z)
  cases q with
  | loc h1 =>
    obtain ⟨s, vs, ds, e1, e2, e3⟩ := ok.amb.at_ n _ h1
    exact ⟨_, vs, ds, rfl, h1, e1, e2, e3⟩
theorem ve_pop (ha : VE X a f) (hbase : attributeBase a "pop" X.env (eval a X.env) = eval a X.env := by rfl) (hline : (apos.endLine == pos.line) = true := by rfl) : VE X (.Call (.Attribute a "pop" apos) [] [] pos) (ePop f) := by
  refine PEimp (pe_bm0 PySem.F.plainAttrs_list PySem.F.slot_list_pop PySem.F.type_list_pop (X := X) (r := rPop) (by exact fun pins s σ H x xs v us Q I rx rxs h => mt_pop pins s σ H x xs v us Q I rx rxs h) ha hbase hline) fun σ H Q h => ?_
  obtain ⟨al, S, sl, st, r, st', ok, e, k⟩ := h
  unfold ePop at e
  cases h1 : f sl st with
  | none => rw [h1] at e; cases e
  | some p =>
    obtain ⟨x, st1⟩ := p
    rw [h1] at e
    simp only [Option.bind_some, cPop] at e
    refine ⟨al, S, sl, st, x, st1, ok, h1, fun v w1 ok1 x1 rd1 fr1 => ?_⟩
    cases hx : x.d <;> rw [hx] at e <;> simp only at e <;> try (cases e; done)
    rename_i n
    obtain ⟨p, vs, ds, ev, e1, e2, e3, e4⟩ := loc_read ok1 rd1 hx
    rw [e3] at e
    simp only at e
    cases hl : ds[ds.length - 1]? with
    | none => rw [hl] at e; cases e
    | some y =>
      rw [hl] at e
      cases e
      obtain ⟨u, e5, r5⟩ := e4.get hl
      subst ev
      refine ⟨.inl ⟨rfl, vs, SqL.of e2⟩, p, vs, u, rfl, rfl, e2, by rw [e4.length]; exact e5, ?_⟩
      have ok2 := ok1.ambW e1 e4.dropLast
      have x2 : Ext w1 (FootW w1 sl σ) (w1.to (upd w1.H p (.lst vs.dropLast))) (FootW (w1.to (upd w1.H p (.lst vs.dropLast))) sl σ) := Ext.ambW ok1 e1
      exact k u (w1.to (upd w1.H p (.lst vs.dropLast))) ok2 (x1.trans x2) (x2.rep (fun c hc => ok1.foot hc) r5) trivial
end
end Vx


set_option Elab.async false
set_option linter.all false
set_option maxRecDepth 100000
/-! Vt: targets, statements, loops over trees. -/
namespace Vx
open PySem L2

/-! ### targets -/
inductive Tg where
  | name (i : Nat) | names (is : List Nat)
def Tg.ix : Tg → List Nat
  | .name i => [i]
  | .names is => is
def gNames : List Nat → TGs
  | [] => gNil
  | i :: is => gCons (gName i) (gNames is)
def gT (K : PySem.W.Frag) : Tg → TG
  | .name i => gName i
  | .names is => gTup K is.length (gNames is)
abbrev VG (X : Cx) (e : Expr) (t : Tg) : Prop := PG X e (gT X.K t)
abbrev VGs (X : Cx) (es : List Expr) (is : List Nat) : Prop := PGs X es (gNames is)
def putN : List Nat → List D → Sls → Option Sls
  | [], [], sl => some sl
  | i :: is, d :: ds, sl => if i < sl.length then putN is ds (sl.set i (.pub d)) else none
  | _, _, _ => none
def put (t : Tg) (d : D) (sl : Sls) : Option Sls := match t with
  | .name i => if i < sl.length then some (sl.set i (.pub d)) else none
  | .names is => (match d with | .tup ds => putN is ds sl | _ => none)
section
variable {X : Cx} {pos : Pos} {x : Str} {e : Expr} {es : List Expr} {is : List Nat} {t : Tg}
theorem vg_name (i : Nat) (hN : X.N.Nodup) (hi : X.N[i]? = some x := by rfl) (hx : Loc X.env.scope x := by first | exact Or.inl rfl | exact Or.inr rfl) (hf : X.fn x = true ∨ X.env.scope.names.lookup x = some .local := by first | exact .inl rfl | exact .inr rfl | assumption) : VG X (.Name x pos) (.name i) :=
  pg_name hN hi hx hf
theorem vgs_nil : VGs X [] [] := pgs_nil
theorem vgs_cons {i : Nat} (h1 : VG X e (.name i)) (h2 : VGs X es is) (hs : (assignEach (e :: es) X.env).map (·.2) = assign e X.env :: (assignEach es X.env).map (·.2) := by rfl) : VGs X (e :: es) (i :: is) := pgs_cons h1 h2 hs
theorem vg_tup {k : Nat} (hc : X.calm = true) (h : VGs X es is) (hn : (assignEach es X.env).length = is.length := by rfl) (hst : (assignEach es X.env).findIdx? (·.1) = none := by rfl) : VG X (.Tuple es k pos) (.names is) := pg_tup hc h hn hst
end
section
variable {K : PySem.W.Frag} {w : Wd} {sl sl' : Sls} {st : Amb} {σ : St}
/-- what the target's stores leave -/
def Kept (is : List Nat) (σ σ' : St) : Prop := σ'.length = σ.length ∧ ∀ j, j ∉ is → σ'[j]? = σ[j]?
theorem gNames_read : ∀ {is : List Nat} {ds : List D} {vs : List V} {sl : Sls} {σ : St} {Q : St → Hp → Prop}, Ok K w sl st σ → RepL K w vs ds → putN is ds sl = some sl' →
    (∀ σ', Ok K w sl' st σ' → Ext w (FootW w sl σ) w (FootW w sl' σ') → Kept is σ σ' → Q σ' w.H) → gNames is vs σ w.H Q
  | [], [], _, sl, σ, Q, ok, r, e, k => by
    cases r
    simp only [putN, Option.some.injEq] at e
    subst e
    exact ⟨rfl, k σ ok Ext.refl ⟨rfl, fun _ _ => rfl⟩⟩
  | i :: is, d :: ds, _, sl, σ, Q, ok, r, e, k => by
    cases r with
    | @cons u us _ _ h1 h2 =>
      simp only [putN] at e
      split at e
      · rename_i hi
        have ok1 := ok.setPub (i := i) h1
        refine ⟨_, _, rfl, ?_⟩
        have x1 : Ext w (FootW w sl σ) w (FootW w (sl.set i (.pub d)) (σ.set i (some u))) := Ext.foot _ _ fun a ha => foot_set_pub ha
        refine gNames_read ok1 h2 e fun σ' ok' x' kp => k σ' ok' (x1.trans x') ⟨by rw [kp.1, List.length_set], fun j hj => ?_⟩
        have hj1 : j ∉ is := fun z => hj (List.mem_cons_of_mem _ z)
        have hj2 : i ≠ j := fun z => hj (by rw [z]; exact List.mem_cons_self)
        rw [kp.2 j hj1, List.getElem?_set_ne hj2]
      · cases e
  | [], d :: ds, _, _, _, _, _, _, e, _ => by simp [putN] at e
  | i :: is, [], _, _, _, _, _, _, e, _ => by simp [putN] at e
theorem putN_len : ∀ {is : List Nat} {ds : List D} {sl : Sls}, putN is ds sl = some sl' → is.length = ds.length
  | [], [], _, _ => rfl
  | i :: is, d :: ds, sl, e => by
    simp only [putN] at e
    split at e
    · rw [List.length_cons, List.length_cons, putN_len e]
    · cases e
  | [], d :: ds, _, e => by simp [putN] at e
  | i :: is, [], _, e => by simp [putN] at e
theorem gT_read {t : Tg} {d : D} {v : V} {Q : St → Hp → Prop} (ok : Ok K w sl st σ) (r : Rep K w v d) (e : put t d sl = some sl') (k : ∀ σ', Ok K w sl' st σ' → Ext w (FootW w sl σ) w (FootW w sl' σ') → Kept t.ix σ σ' → Q σ' w.H) : gT K t v σ w.H Q := by
  cases t with
  | name i =>
    simp only [put] at e
    split at e
    · cases e
      refine k _ (ok.setPub r) (Ext.foot _ _ fun a ha => foot_set_pub ha) ⟨List.length_set .., fun j hj => ?_⟩
      have hj2 : i ≠ j := fun z => hj (by rw [z]; exact List.mem_cons_self)
      rw [List.getElem?_set_ne hj2]
    · cases e
  | names is =>
    simp only [put] at e
    cases d <;> simp only at e <;> try (cases e; done)
    cases r with
    | tup h1 h2 => exact ⟨_, _, rfl, h1, by rw [h2.length, putN_len e], gNames_read ok h2 e k⟩
end

/-! ### statements -/
inductive Out where
  | nx (sl : Sls) (st : Amb) | bk (sl : Sls) (st : Amb) | ct (sl : Sls) (st : Amb) | rt (r : R) (st : Amb)
abbrev SvF := Sls → Amb → Option Out
def RdF (K : PySem.W.Frag) (w : Wd) (v : V) : R → Prop
  | .val d => Rep K w v d
  | .prv ds => ∃ a vs, v = .ref a ∧ w.H a = some (.lst vs) ∧ RepL K w vs ds ∧ ¬ w.S a ∧ a ∉ w.al
  | .bor _ => False
def FrsR (w : Wd) (F : Addr → Prop) (v : V) : R → Prop
  | .prv _ => ∀ a, v = .ref a → w.H a = none ∨ F a
  | _ => True
def Fin (K : PySem.W.Frag) (w : Wd) (F : Addr → Prop) (D : Ends) : Out → Prop
  | .nx sl' st' => ∀ σ' w', Ok K w' sl' st' σ' → Ext w F w' (FootW w' sl' σ') → D.nx σ' w'.H
  | .bk sl' st' => ∀ σ' w', Ok K w' sl' st' σ' → Ext w F w' (FootW w' sl' σ') → D.bk σ' w'.H
  | .ct sl' st' => ∀ σ' w', Ok K w' sl' st' σ' → Ext w F w' (FootW w' sl' σ') → D.ct σ' w'.H
  | .rt r st' => ∀ v w', AmbOk K w' st' → Ext w F w' (· ∈ w'.al) → RdF K w' v r → FrsR w F v r → D.rt v w'.H
def tS (K : PySem.W.Frag) (F : SvF) : TS := fun D σ H => ∃ al S sl st o, Ok K ⟨al, S, H⟩ sl st σ ∧ F sl st = some o ∧ Fin K ⟨al, S, H⟩ (Foot al sl σ) D o
abbrev VS (X : Cx) (s : Stmt) (F : SvF) : Prop := PS X s (tS X.K F)
abbrev VSs (X : Cx) (s : List Stmt) (F : SvF) : Prop := PSs X s (tS X.K F)
theorem FrsR.back {w w' : Wd} {F F' : Addr → Prop} {v : V} {r : R} (h : FrsR w' F' v r) (x : Ext w F w' F') : FrsR w F v r := by
  cases r with
  | prv ds =>
    intro a e
    rcases h a e with h | h
    · exact .inl (x.dom _ h)
    · exact (x.fo a h).symm
  | val d => trivial
  | bor d => trivial
theorem Fin.back {K : PySem.W.Frag} {w w' : Wd} {F F' : Addr → Prop} {D : Ends} {o : Out} (h : Fin K w F D o) (x : Ext w F w' F') : Fin K w' F' D o := by
  cases o with
  | nx sl st => exact fun σ' w2 ok x2 => h σ' w2 ok (x.trans x2)
  | bk sl st => exact fun σ' w2 ok x2 => h σ' w2 ok (x.trans x2)
  | ct sl st => exact fun σ' w2 ok x2 => h σ' w2 ok (x.trans x2)
  | rt r st => exact fun v w2 ok x2 rd fr => h v w2 ok (x.trans x2) rd (fr.back x)

def sSeq (F G : SvF) : SvF := fun sl st => (F sl st).bind fun o => match o with
  | .nx sl' st' => G sl' st'
  | o => some o
def sNil : SvF := fun sl st => some (.nx sl st)
section
variable {X : Cx} {s : Stmt} {rest : List Stmt} {F G : SvF} {e : Expr} {f g : EvF} {pos : Pos} {B : EvB}
theorem vss_nil : VSs X [] sNil := PSsimp pss_nil fun D σ H h => by
  obtain ⟨al, S, sl, st, o, ok, e, k⟩ := h
  cases e
  exact k σ ⟨al, S, H⟩ ok Ext.refl
theorem vss_cons (h1 : VS X s F) (h2 : VSs X rest G) : VSs X (s :: rest) (sSeq F G) := PSsimp (pss_cons h1 h2) fun D σ H h => by
  obtain ⟨al, S, sl, st, o, ok, e, k⟩ := h
  unfold sSeq at e
  cases h1 : F sl st with
  | none => rw [h1] at e; cases e
  | some o1 =>
    rw [h1] at e
    simp only [Option.bind_some] at e
    refine ⟨al, S, sl, st, o1, ok, h1, ?_⟩
    cases o1 with
    | nx sl1 st1 => exact fun σ1 w1 ok1 x1 => ⟨w1.al, w1.S, sl1, st1, o, ok1, e, k.back x1⟩
    | bk sl1 st1 => cases e; exact k
    | ct sl1 st1 => cases e; exact k
    | rt r st1 => cases e; exact k
theorem vss_one (h1 : VS X s F) : VSs X [s] F := pss_one h1
def sPass : SvF := fun sl st => some (.nx sl st)
theorem vs_pass : VS X (.Pass pos) sPass := PSimp ps_pass fun D σ H h => by
  obtain ⟨al, S, sl, st, o, ok, e, k⟩ := h
  cases e
  exact k σ ⟨al, S, H⟩ ok Ext.refl
def sBreak : SvF := fun sl st => some (.bk sl st)
def sCont : SvF := fun sl st => some (.ct sl st)
theorem vs_break : VS X (.Break pos) sBreak := PSimp ps_break fun D σ H h => by
  obtain ⟨al, S, sl, st, o, ok, e, k⟩ := h
  cases e
  exact k σ ⟨al, S, H⟩ ok Ext.refl
theorem vs_continue : VS X (.Continue pos) sCont := PSimp ps_continue fun D σ H h => by
  obtain ⟨al, S, sl, st, o, ok, e, k⟩ := h
  cases e
  exact k σ ⟨al, S, H⟩ ok Ext.refl
def sIf (t : EvB) (F G : SvF) : SvF := fun sl st => (t sl st).bind fun p => if p.1 = true then F sl p.2 else G sl p.2
theorem vs_if {c : Expr} {a b : List Stmt} (hc : VT X c B) (ha : VSs X a F) (hb : VSs X b G) : VS X (.If c a b pos) (sIf B F G) := PSimp (ps_if hc ha hb) fun D σ H h => by
  obtain ⟨al, S, sl, st, o, ok, e, k⟩ := h
  unfold sIf at e
  cases h1 : B sl st with
  | none => rw [h1] at e; cases e
  | some p =>
    obtain ⟨c, st1⟩ := p
    rw [h1] at e
    simp only [Option.bind_some] at e
    refine ⟨al, S, sl, st, c, st1, ok, h1, fun w1 ok1 x1 => ?_⟩
    cases c with
    | true => exact ⟨w1.al, w1.S, sl, st1, o, ok1, by simpa using e, k.back x1⟩
    | false => exact ⟨w1.al, w1.S, sl, st1, o, ok1, by simpa using e, k.back x1⟩
/-- return e -/
def sRet (f : EvF) : SvF := fun sl st => match f sl st with
  | some (.val d, st') => some (.rt (.val d) st')
  | some (.prv l, st') => some (.rt (.prv l) st')
  | _ => none
theorem ext_rt {w w' : Wd} {F F' : Addr → Prop} (x : Ext w F w' F') (h : ∀ a, a ∈ w'.al → F' a) : Ext w F w' (· ∈ w'.al) := ⟨x.keep, x.sS, x.sN, x.al, x.dom, fun a m => x.fo a (h a m)⟩
theorem vs_ret (he : VE X e f) : VS X (.Return (some e) pos) (sRet f) := PSimp (ps_ret he) fun D σ H h => by
  obtain ⟨al, S, sl, st, o, ok, e, k⟩ := h
  unfold sRet at e
  cases h1 : f sl st with
  | none => rw [h1] at e; cases e
  | some p =>
    obtain ⟨x, st1⟩ := p
    rw [h1] at e
    cases x with
    | bor l => cases e
    | val d =>
      cases e
      exact ⟨al, S, sl, st, .val d, _, ok, h1, fun v w1 ok1 x1 rd1 fr1 => k v w1 ok1.amb (ext_rt x1 fun a m => .inl m) rd1 trivial⟩
    | prv l =>
      cases e
      refine ⟨al, S, sl, st, .prv l, _, ok, h1, fun v w1 ok1 x1 rd1 fr1 => k v w1 ok1.amb (ext_rt x1 fun a m => .inl m) ?_ fun a ea => .inl (fr1 a ea)⟩
      obtain ⟨a, vs, ea, h2, h3, h4, h5⟩ := rd1
      exact ⟨a, vs, ea, h2, h3, h4, fun m => h5 (.inl m)⟩
def sRetN : SvF := fun _ st => some (.rt (.val .non) st)
theorem vs_retN : VS X (.Return none pos) sRetN := PSimp ps_retN fun D σ H h => by
  obtain ⟨al, S, sl, st, o, ok, e, k⟩ := h
  cases e
  exact k .non ⟨al, S, H⟩ ok.amb (ext_rt (F' := Foot al sl σ) Ext.refl fun a m => .inl m) .non trivial
/-- return x, x a slot with a list of its own -/
def sRetO (i : Nat) : SvF := fun sl st => match sl[i]? with
  | some (.own l) => some (.rt (.prv l) st)
  | _ => none
theorem vs_retO (i : Nat) {x : Str} {p : Pos} (hN : X.N[i]? = some x := by rfl) (hv : Vis X.env.scope x := by first | exact Or.inl rfl | exact Or.inr (Or.inl rfl) | exact Or.inr (Or.inr rfl)) (hd : (x == ("__debug__" : Str)) = false := by decide)
    (hcd : (x == ("__classdict__" : Str)) = false := by decide) : VS X (.Return (some (.Name x p)) pos) (sRetO i) := PSimp (ps_ret (pe_var hN hv hd hcd)) fun D σ H h => by
  obtain ⟨al, S, sl, st, o, ok, e, k⟩ := h
  unfold sRetO at e
  split at e
  · rename_i l hl
    cases e
    obtain ⟨a, vs, e1, e2, e3, s, m⟩ := ok.own i l hl
    exact ⟨.ref a, e1, k (.ref a) ⟨al, S, H⟩ ok.amb (ext_rt (F' := Foot al sl σ) Ext.refl fun a m => .inl m) ⟨a, vs, rfl, e2, e3, s, m⟩ fun c ec => by
      cases ec
      exact .inr (.inr ⟨i, l, hl, e1⟩)⟩
  · cases e
/-- an expression alone -/
def sDrop (f : EvF) : SvF := fun sl st => (f sl st).map fun p => .nx sl p.2
theorem vs_expr (he : VE X e f) (hs : swapsWith e none pos.line X.env = pure false := by rfl) : VS X (.Expr e pos) (sDrop f) := PSimp (ps_expr he hs) fun D σ H h => by
  obtain ⟨al, S, sl, st, o, ok, e, k⟩ := h
  unfold sDrop at e
  cases h1 : f sl st with
  | none => rw [h1] at e; cases e
  | some p =>
    obtain ⟨x, st1⟩ := p
    rw [h1] at e
    cases e
    exact ⟨al, S, sl, st, x, _, ok, h1, fun v w1 ok1 x1 rd1 fr1 => k σ w1 ok1 x1⟩
/-! ### assignments -/
def sAsg (t : Tg) (f : EvF) : SvF := fun sl st => match ePub f sl st with
  | some (.val d, st') => (put t d sl).map fun sl' => .nx sl' st'
  | _ => none
theorem ePub_read {K : PySem.W.Frag} {f : EvF} {σ : St} {H : Hp} {Q : VK} (h : tV K (ePub f) σ H Q) : tV K f σ H Q := by
  obtain ⟨al, S, sl, st, r, st', ok, e, k⟩ := h
  unfold ePub at e
  cases h1 : f sl st with
  | none => rw [h1] at e; cases e
  | some p =>
    obtain ⟨x, st1⟩ := p
    rw [h1] at e
    cases x with
    | val d => cases e; exact ⟨al, S, sl, st, .val d, _, ok, h1, k⟩
    | bor d => cases e
    | prv l =>
      cases e
      refine ⟨al, S, sl, st, .prv l, _, ok, h1, fun v w1 ok1 x1 rd1 fr1 => ?_⟩
      obtain ⟨S', _, ok2, r2, x2⟩ := prv_pub ok1 rd1
      exact k v ⟨w1.al, S', w1.H⟩ ok2 (x2 (w0 := ⟨al, S, H⟩) x1 fun a e => .inl (fr1 a e)) r2 trivial
theorem asg_read {K : PySem.W.Frag} {f : EvF} {t : Tg} {te : TE} (hte : ∀ σ H Q, tV K f σ H Q → te σ H Q) {D : Ends} {σ : St} {H : Hp} (h : tS K (sAsg t f) D σ H) : tAsg te (gT K t) D σ H := by
  obtain ⟨al, S, sl, st, o, ok, e, k⟩ := h
  refine hte _ _ _ (ePub_read ?_)
  unfold sAsg at e
  cases h1 : ePub f sl st with
  | none => rw [h1] at e; cases e
  | some p =>
    obtain ⟨x, st1⟩ := p
    rw [h1] at e
    cases x with
    | prv l => cases e
    | bor l => cases e
    | val d =>
      simp only at e
      cases h2 : put t d sl with
      | none => rw [h2] at e; cases e
      | some sl1 =>
        rw [h2] at e
        cases e
        exact ⟨al, S, sl, st, .val d, _, ok, h1, fun v w1 ok1 x1 rd1 fr1 => gT_read ok1 rd1 h2 fun σ' ok' x' _ => k σ' w1 ok' (x1.trans x')⟩
theorem vs_asg {tg : Expr} {t : Tg} (he : VE X e f) (hg : VG X tg t) (hs : swapsWithSole [tg] e pos.line X.env = pure false := by rfl) (hw : swappedStores [tg] e X.env = pure none := by rfl)
    (h1 : (assignEach [tg] X.env).map (·.2) = [assign tg X.env] := by rfl) : VS X (.Assign [tg] e pos) (sAsg t f) := PSimp (ps_asg he hg hs hw h1) fun D σ H h => asg_read (fun _ _ _ h => h) h
/-- x = e, x a slot with a list of its own -/
def sOwn (i : Nat) (f : EvF) : SvF := fun sl st => match f sl st with
  | some (.prv l, st') => if i < sl.length then some (.nx (sl.set i (.own l)) st') else none
  | _ => none
theorem own_read {K : PySem.W.Frag} {f : EvF} {i : Nat} {te : TE} (hte : ∀ σ H Q, tV K f σ H Q → te σ H Q) {D : Ends} {σ : St} {H : Hp} (h : tS K (sOwn i f) D σ H) : tAsg te (gName i) D σ H := by
  obtain ⟨al, S, sl, st, o, ok, e, k⟩ := h
  refine hte _ _ _ ?_
  unfold sOwn at e
  cases h1 : f sl st with
  | none => rw [h1] at e; cases e
  | some p =>
    obtain ⟨x, st1⟩ := p
    rw [h1] at e
    cases x with
    | val l => cases e
    | bor l => cases e
    | prv l =>
      simp only at e
      split at e
      · rename_i hi
        cases e
        refine ⟨al, S, sl, st, .prv l, _, ok, h1, fun v w1 ok1 x1 rd1 fr1 => ?_⟩
        have ok2 := ok1.setOwn hi rd1
        obtain ⟨p, vs, ev, h2, h3, h4, h5⟩ := rd1
        refine k _ w1 ok2 ⟨x1.keep, x1.sS, x1.sN, x1.al, x1.dom, fun a ha => ?_⟩
        subst ev
        rcases foot_set_own2 hi ok1.len ha with ha | rfl
        · exact x1.fo a ha
        · exact .inr (fr1 _ rfl)
      · cases e
theorem vs_own (i : Nat) {x : Str} {px : Pos} (he : VE X e f) (hN : X.N.Nodup) (hi : X.N[i]? = some x := by rfl) (hx : Loc X.env.scope x := by first | exact Or.inl rfl | exact Or.inr rfl) (hf : X.fn x = true ∨ X.env.scope.names.lookup x = some .local := by first | exact .inl rfl | exact .inr rfl | assumption)
    (hs : swapsWith e (some (.Name x px)) pos.line X.env = pure false := by rfl) : VS X (.Assign [.Name x px] e pos) (sOwn i f) := PSimp (ps_set hN hi hx he hs hf) fun D σ H h => own_read (fun _ _ _ h => h) h
/-- y = x: the list of slot j goes to slot i as a value for all; slot j is left -/
def sMove (i j : Nat) : SvF := fun sl st => match sl[j]? with
  | some (.own l) => if i < sl.length ∧ i ≠ j then some (.nx ((sl.set j .un).set i (.pub (.lst l))) st) else none
  | _ => none
theorem Ok.drop {K : PySem.W.Frag} {w : Wd} {sl : Sls} {st : Amb} {σ : St} (ok : Ok K w sl st σ) (j : Nat) : Ok K w (sl.set j .un) st σ := by
  have hn : ∀ {m : Nat} {s : Sl}, (sl.set j .un)[m]? = some s → s ≠ .un → sl[m]? = some s := fun {m s} h hs => by
    by_cases q : j = m
    · subst q
      have hil : j < sl.length := by
        have := (List.getElem?_eq_some_iff.mp h).1
        simpa using this
      rw [List.getElem?_set_self hil] at h
      cases h
      exact absurd rfl hs
    · rw [List.getElem?_set_ne q] at h; exact h
  exact ⟨ok.amb, by rw [List.length_set]; exact ok.len, fun i d h => ok.pub i d (hn h (fun z => by cases z)), fun i ds h => ok.own i ds (hn h (fun z => by cases z)), fun i k ds es a h1 h2 h3 h4 => ok.dis i k ds es a (hn h1 (fun z => by cases z)) (hn h2 (fun z => by cases z)) h3 h4⟩
theorem foot_drop {sl : Sls} {σ : St} {al : List Addr} {j : Nat} {b : Addr} (h : Foot al (sl.set j .un) σ b) : Foot al sl σ b ∧ (b ∈ al ∨ σ[j]? ≠ some (some (.ref b)) ∨ ∃ i, i ≠ j ∧ σ[i]? = some (some (.ref b)) ∧ ∃ ds, sl[i]? = some (.own ds)) := by
  rcases h with h | ⟨i, ds, h1, h2⟩
  · exact ⟨.inl h, .inl h⟩
  · by_cases q : j = i
    · subst q
      have hil : j < sl.length := by
        have := (List.getElem?_eq_some_iff.mp h1).1
        simpa using this
      rw [List.getElem?_set_self hil] at h1
      cases h1
    · rw [List.getElem?_set_ne q] at h1
      exact ⟨.inr ⟨i, ds, h1, h2⟩, .inr (.inr ⟨i, fun z => q z.symm, h2, ds, h1⟩)⟩
theorem vs_move (i j : Nat) {x y : Str} {px py : Pos} (hN' : X.N.Nodup) (hi : X.N[i]? = some y := by rfl) (hy : Loc X.env.scope y := by first | exact Or.inl rfl | exact Or.inr rfl) (hf : X.fn y = true ∨ X.env.scope.names.lookup y = some .local := by first | exact .inl rfl | exact .inr rfl | assumption)
    (hN : X.N[j]? = some x := by rfl) (hv : Vis X.env.scope x := by first | exact Or.inl rfl | exact Or.inr (Or.inl rfl) | exact Or.inr (Or.inr rfl)) (hd : (x == ("__debug__" : Str)) = false := by decide) (hcd : (x == ("__classdict__" : Str)) = false := by decide)
    (hs : swapsWith (.Name x px) (some (.Name y py)) pos.line X.env = pure false := by rfl) : VS X (.Assign [.Name y py] (.Name x px) pos) (sMove i j) := PSimp (ps_set hN' hi hy (pe_var hN hv hd hcd) hs hf) fun D σ H h => by
  obtain ⟨al, S, sl, st, o, ok, e, k⟩ := h
  unfold sMove at e
  split at e
  · rename_i l hl
    split at e
    · rename_i hij
      cases e
      obtain ⟨a, vs, e1, e2, e3, s, m⟩ := ok.own j l hl
      have ok1 := ok.drop j
      have hprv : RdR X.K ⟨al, S, H⟩ (sl.set j .un) σ (.ref a) (.prv l) := ⟨a, vs, rfl, e2, e3, s, fun f => by
        obtain ⟨f1, f2⟩ := foot_drop f
        rcases f2 with f2 | f2 | ⟨i', hi', h1, ds, h2⟩
        · exact m f2
        · exact f2 e1
        · exact hi' (ok.dis i' j ds l a h2 hl h1 e1)⟩
      obtain ⟨S', _, ok2, r2, x2⟩ := prv_pub ok1 hprv
      refine ⟨.ref a, e1, ?_⟩
      have x3 : Ext ⟨al, S, H⟩ (Foot al (sl.set j .un) σ) ⟨al, S, H⟩ (Foot al (sl.set j .un) σ) := Ext.refl
      have hS' : ∀ c, S' c → S c ∨ c = a := fun c hc => by
        by_cases q : c = a
        · exact .inr q
        · refine .inl ?_
          have z := (x2 (w0 := ⟨al, fun c => S c, fun c => if c = a then none else H c⟩) ⟨fun c o h nf => ?_, fun _ h => h, fun _ h => .inl h, ⟨[], by simp⟩, fun c h => ?_, fun _ h => .inl h⟩ fun c ec => .inl ?_).sN c hc
          · rcases z with z | z | z
            · exact z
            · obtain ⟨us, hus⟩ := ok2.amb.sd c hc
              have z' : (if c = a then none else H c) = none := z
              rw [if_neg q] at z'
              have hus' : H c = some (.lst us) := hus
              rw [z'] at hus'; cases hus'
            · exact absurd hc (ok2.foot (a := c) z).1
          · have h' : (if c = a then none else H c) = some o := h
            split at h'
            · cases h'
            · exact h'
          · show (if c = a then none else H c) = none
            have h' : H c = none := h
            split
            · rfl
            · exact h'
          · cases ec
            show (if a = a then none else H a) = none
            rw [if_pos rfl]
      refine k _ ⟨al, S', H⟩ (ok2.setPub r2) ⟨fun c o h _ => h, fun c h => ?_, fun c h => ?_, ⟨[], by simp⟩, fun _ h => h, fun c hc => .inl (foot_drop (foot_set_pub hc)).1⟩
      · exact (x2 (w0 := ⟨al, S, fun c => if c = a then none else H c⟩) ⟨fun c o h nf => by
          have h' : (if c = a then none else H c) = some o := h
          split at h'
          · cases h'
          · exact h', fun _ h => h, fun _ h => .inl h, ⟨[], by simp⟩, fun c h => by
            show (if c = a then none else H c) = none
            have h' : H c = none := h
            split
            · rfl
            · exact h', fun _ h => .inl h⟩ fun c ec => .inl (by cases ec; show (if a = a then none else H a) = none; rw [if_pos rfl])).sS c h
      · rcases hS' c h with h | rfl
        · exact .inl h
        · exact .inr (.inr (.inr ⟨j, l, hl, e1⟩))
    · cases e
  · cases e
/-! ### methods of a slot's own list -/
theorem own_ty {K : PySem.W.Frag} {w : Wd} {sl : Sls} {st : Amb} {σ : St} {i : Nat} {l : List Vx.D} (ok : Ok K w sl st σ) (h : sl[i]? = some (.own l)) : ∃ a vs, σ[i]? = some (some (.ref a)) ∧ w.H a = some (.lst vs) ∧ RepL K w vs l ∧ tyV K "list" (.ref a) w.H := by
  obtain ⟨a, vs, e1, e2, e3, _⟩ := ok.own i l h
  exact ⟨a, vs, e1, e2, e3, .inl ⟨rfl, vs, SqL.of e2⟩⟩
/-- x.append(e) -/
def sApp (i : Nat) (f : EvF) : SvF := fun sl st => match sl[i]?, ePub f sl st with
  | some (.own l), some (.val d, st') => if l.length < line then some (.nx (sl.set i (.own (l ++ [d]))) st') else none
  | _, _ => none
theorem vs_append (i : Nat) {x : Str} {px apos cpos : Pos} (he : VE X e f) (hN : X.N[i]? = some x := by rfl) (hv : Vis X.env.scope x := by first | exact Or.inl rfl | exact Or.inr (Or.inl rfl) | exact Or.inr (Or.inr rfl)) (hd : (x == ("__debug__" : Str)) = false := by decide) (hcd : (x == ("__classdict__" : Str)) = false := by decide)
    (hbase : attributeBase (.Name x px) "append" X.env (eval (.Name x px) X.env) = eval (.Name x px) X.env := by rfl)
    (hfew : ((backTo cpos (starEach (e :: []) X.env)).all (fun x => !x.1) && (backToKw cpos (keywordEach [] X.env)).all (fun x => x.1.isSome) && decide ((e :: []).length + ([] : List Keyword).length + (if ([] : List Keyword).isEmpty then 0 else 1) < 30)) = true := by rfl)
    (hline : (apos.endLine == cpos.line) = true := by rfl) (hs : starEach (e :: []) X.env = (false, eval e X.env) :: starEach [] X.env := by rfl) (hplain : (backTo cpos (starEach [] X.env)).any (·.1) = false := by rfl)
    (hw : swapsWith (.Call (.Attribute (.Name x px) "append" apos) [e] [] cpos) none pos.line X.env = pure false := by rfl) : VS X (.Expr (.Call (.Attribute (.Name x px) "append" apos) [e] [] cpos) pos) (sApp i f) := by
  refine PSimp (ps_expr (pe_bm PySem.F.plainAttrs_list PySem.F.slot_list_append PySem.F.type_list_append (X := X) (r := rAppend) (by exact fun pins s σ H x xs v us Q I rx rxs h => mt_append pins s σ H x xs v us Q I rx rxs h) (pe_var hN hv hd hcd) (pa_cons he pa_nil hs) hbase hfew hline hs hplain) hw) fun D σ H h => ?_
  obtain ⟨al, S, sl, st, o, ok, e, k⟩ := h
  unfold sApp at e
  split at e
  · rename_i l d st1 hl h1
    split at e
    · rename_i hz
      cases e
      obtain ⟨a, vs, e1, e2, e3, ty⟩ := own_ty ok hl
      refine ⟨.ref a, e1, ty, ePub_read ⟨al, S, sl, st, .val d, _, ok, h1, fun v w1 ok1 x1 rd1 fr1 => ?_⟩⟩
      obtain ⟨a', us, g1, g2, g3, _⟩ := ok1.own i l hl
      rw [e1] at g1
      cases g1
      exact ⟨a, us, v, rfl, rfl, g2, by rw [g3.length, line_eq]; exact hz, k σ (w1.to (upd w1.H a (.lst (us ++ [v])))) (ok1.ownW hl e1 (g3.append (.cons rd1 .nil))) (x1.trans (Ext.ownW ok1 hl e1))⟩
    · cases e
  · cases e
/-- x.extend(e), e a list -/
def sExt (i : Nat) (f : EvF) : SvF := fun sl st => match sl[i]?, f sl st with
  | some (.own l), some (r, st') => (match r.d with | .lst m => if l.length + m.length ≤ line then some (.nx (sl.set i (.own (l ++ m))) st') else none | _ => none)
  | _, _ => none
theorem vs_extend (i : Nat) {x : Str} {px apos cpos : Pos} (he : VE X e f) (hN : X.N[i]? = some x := by rfl) (hv : Vis X.env.scope x := by first | exact Or.inl rfl | exact Or.inr (Or.inl rfl) | exact Or.inr (Or.inr rfl)) (hd : (x == ("__debug__" : Str)) = false := by decide) (hcd : (x == ("__classdict__" : Str)) = false := by decide)
    (hbase : attributeBase (.Name x px) "extend" X.env (eval (.Name x px) X.env) = eval (.Name x px) X.env := by rfl)
    (hfew : ((backTo cpos (starEach (e :: []) X.env)).all (fun x => !x.1) && (backToKw cpos (keywordEach [] X.env)).all (fun x => x.1.isSome) && decide ((e :: []).length + ([] : List Keyword).length + (if ([] : List Keyword).isEmpty then 0 else 1) < 30)) = true := by rfl)
    (hline : (apos.endLine == cpos.line) = true := by rfl) (hs : starEach (e :: []) X.env = (false, eval e X.env) :: starEach [] X.env := by rfl) (hplain : (backTo cpos (starEach [] X.env)).any (·.1) = false := by rfl)
    (hw : swapsWith (.Call (.Attribute (.Name x px) "extend" apos) [e] [] cpos) none pos.line X.env = pure false := by rfl) : VS X (.Expr (.Call (.Attribute (.Name x px) "extend" apos) [e] [] cpos) pos) (sExt i f) := by
  refine PSimp (ps_expr (pe_bm PySem.F.plainAttrs_list PySem.F.slot_list_extend PySem.F.type_list_extend (X := X) (r := rExtend) (by exact fun pins s σ H x xs v us Q I rx rxs h => mt_extend pins s σ H x xs v us Q I rx rxs h) (pe_var hN hv hd hcd) (pa_cons he pa_nil hs) hbase hfew hline hs hplain) hw) fun D σ H h => ?_
  obtain ⟨al, S, sl, st, o, ok, e, k⟩ := h
  unfold sExt at e
  split at e
  · rename_i l r st1 hl h1
    split at e
    · rename_i m hm
      split at e
      · rename_i hz
        cases e
        obtain ⟨a, vs, e1, e2, e3, ty⟩ := own_ty ok hl
        refine ⟨.ref a, e1, ty, ⟨al, S, sl, st, r, _, ok, h1, fun v w1 ok1 x1 rd1 fr1 => ?_⟩⟩
        obtain ⟨a', us, g1, g2, g3, _⟩ := ok1.own i l hl
        rw [e1] at g1
        cases g1
        obtain ⟨b, zs, ev, g4, g5⟩ := rd1.lst ok1 hm
        subst ev
        exact ⟨a, b, us, zs, rfl, rfl, g2, g4, by rw [g3.length, g5.length, line_eq]; exact hz, k σ (w1.to (upd w1.H a (.lst (us ++ zs)))) (ok1.ownW hl e1 (g3.append g5)) (x1.trans (Ext.ownW ok1 hl e1))⟩
      · cases e
    · cases e
  · cases e
/-- target = x.pop() -/
def sPopA (t : Tg) (i : Nat) : SvF := fun sl st => match sl[i]? with
  | some (.own l) => (match l[l.length - 1]? with | some d => (put t d (sl.set i (.own l.dropLast))).map fun sl' => .nx sl' st | none => none)
  | _ => none
theorem vs_popA (i : Nat) {tg : Expr} {t : Tg} {x : Str} {px apos cpos : Pos} (hg : VG X tg t) (hN : X.N[i]? = some x := by rfl) (hv : Vis X.env.scope x := by first | exact Or.inl rfl | exact Or.inr (Or.inl rfl) | exact Or.inr (Or.inr rfl)) (hd : (x == ("__debug__" : Str)) = false := by decide) (hcd : (x == ("__classdict__" : Str)) = false := by decide)
    (hbase : attributeBase (.Name x px) "pop" X.env (eval (.Name x px) X.env) = eval (.Name x px) X.env := by rfl) (hline : (apos.endLine == cpos.line) = true := by rfl)
    (hs : swapsWithSole [tg] (.Call (.Attribute (.Name x px) "pop" apos) [] [] cpos) pos.line X.env = pure false := by rfl) (hw : swappedStores [tg] (.Call (.Attribute (.Name x px) "pop" apos) [] [] cpos) X.env = pure none := by rfl)
    (h1 : (assignEach [tg] X.env).map (·.2) = [assign tg X.env] := by rfl) : VS X (.Assign [tg] (.Call (.Attribute (.Name x px) "pop" apos) [] [] cpos) pos) (sPopA t i) := by
  refine PSimp (ps_asg (pe_bm0 PySem.F.plainAttrs_list PySem.F.slot_list_pop PySem.F.type_list_pop (X := X) (r := rPop) (by exact fun pins s σ H x xs v us Q I rx rxs h => mt_pop pins s σ H x xs v us Q I rx rxs h) (pe_var hN hv hd hcd) hbase hline) hg hs hw h1) fun D σ H h => ?_
  obtain ⟨al, S, sl, st, o, ok, e, k⟩ := h
  unfold sPopA at e
  split at e
  · rename_i l hl
    split at e
    · rename_i d hd'
      cases h2 : put t d (sl.set i (.own l.dropLast)) with
      | none => rw [h2] at e; cases e
      | some sl1 =>
        rw [h2] at e
        cases e
        obtain ⟨a, vs, e1, e2, e3, ty⟩ := own_ty ok hl
        obtain ⟨u, e5, r5⟩ := e3.get hd'
        have x1 := Ext.ownW (us := vs.dropLast) (ds := l.dropLast) ok hl e1
        have ok1 := ok.ownW hl e1 e3.dropLast
        refine ⟨.ref a, e1, ty, a, vs, u, rfl, rfl, e2, by rw [e3.length]; exact e5, ?_⟩
        exact gT_read (w := (Wd.mk al S H).to (upd H a (.lst vs.dropLast))) ok1 (x1.rep (fun c hc => ok.foot hc) r5) h2 fun σ' ok' x' _ => k σ' _ ok' (x1.trans x')
    · cases e
  · cases e
end
end Vx


set_option Elab.async false
set_option linter.all false
set_option maxRecDepth 100000
/-! Vl: more stores, walks, loops, defs and their calls over trees. -/
namespace Vx
open PySem L2

section
variable {X : Cx} {e a b : Expr} {f g h : EvF} {pos : Pos} {FA : EvA}
/-! ### stores into shared lists -/
/-- e.append(b), e a shared list -/
def sLocApp (f g : EvF) : SvF := fun sl st => (f sl st).bind fun p => match ePub g sl p.2 with
  | some (.val d, st2) => (match p.1.d with
    | .loc n => (match st2[n]? with | some l => if l.length < line then some (.nx sl (st2.set n (l ++ [d]))) else none | none => none)
    | _ => none)
  | _ => none
theorem vs_locApp {apos cpos : Pos} (ha : VE X a f) (hb : VE X b g)
    (hbase : attributeBase a "append" X.env (eval a X.env) = eval a X.env := by rfl)
    (hfew : ((backTo cpos (starEach (b :: []) X.env)).all (fun x => !x.1) && (backToKw cpos (keywordEach [] X.env)).all (fun x => x.1.isSome) && decide ((b :: []).length + ([] : List Keyword).length + (if ([] : List Keyword).isEmpty then 0 else 1) < 30)) = true := by rfl)
    (hline : (apos.endLine == cpos.line) = true := by rfl) (hs : starEach (b :: []) X.env = (false, eval b X.env) :: starEach [] X.env := by rfl) (hplain : (backTo cpos (starEach [] X.env)).any (·.1) = false := by rfl)
    (hw : swapsWith (.Call (.Attribute a "append" apos) [b] [] cpos) none pos.line X.env = pure false := by rfl) : VS X (.Expr (.Call (.Attribute a "append" apos) [b] [] cpos) pos) (sLocApp f g) := by
  refine PSimp (ps_expr (pe_bm PySem.F.plainAttrs_list PySem.F.slot_list_append PySem.F.type_list_append (X := X) (r := rAppend) (by exact fun pins s σ H x xs v us Q I rx rxs h => mt_append pins s σ H x xs v us Q I rx rxs h) ha (pa_cons hb pa_nil hs) hbase hfew hline hs hplain) hw) fun D σ H h => ?_
  obtain ⟨al, S, sl, st, o, ok, e, k⟩ := h
  unfold sLocApp at e
  cases h1 : f sl st with
  | none => rw [h1] at e; cases e
  | some p =>
    obtain ⟨x, st1⟩ := p
    rw [h1] at e
    simp only [Option.bind_some] at e
    split at e
    · rename_i d st2 h2
      split at e
      · rename_i n hn
        split at e
        · rename_i l hl
          split at e
          · rename_i hz
            cases e
            refine ⟨al, S, sl, st, x, st1, ok, h1, fun v w1 ok1 x1 rd1 fr1 => ?_⟩
            obtain ⟨p, vs, ds, ev, e1, e2, e3, e4⟩ := loc_read ok1 rd1 hn
            subst ev
            refine ⟨.inl ⟨rfl, vs, SqL.of e2⟩, ePub_read ⟨w1.al, w1.S, sl, st1, .val d, st2, ok1, h2, fun u w2 ok2 x2 rd2 fr2 => ?_⟩⟩
            obtain ⟨q, us, es, ev, g1, g2, g3, g4⟩ := loc_read ok2 (rd1.ext ok1 x2) hn
            cases ev
            rw [hl] at g3
            cases g3
            have x3 : Ext w2 (FootW w2 sl σ) (w2.to (upd w2.H p (.lst (us ++ [u])))) (FootW (w2.to (upd w2.H p (.lst (us ++ [u])))) sl σ) := Ext.ambW ok2 g1
            exact ⟨p, us, u, rfl, rfl, g2, by rw [g4.length, line_eq]; exact hz, k σ (w2.to (upd w2.H p (.lst (us ++ [u])))) (ok2.ambW g1 (g4.append (.cons rd2 .nil))) (x1.trans (x2.trans x3))⟩
          · cases e
        · cases e
      · cases e
    · cases e
/-- a[b] = e, a a shared list -/
def sLocSet (f g h : EvF) : SvF := fun sl st => match ePub f sl st with
  | some (.val d, st1) => (g sl st1).bind fun p => (match h sl p.2 with
    | some (.val (.int i), st3) => (match p.1.d with
      | .loc n => (match st3[n]? with | some l => (match ixN l.length i with | some j => some (.nx sl (st3.set n (l.set j d))) | none => none) | none => none)
      | _ => none)
    | _ => none)
  | _ => none
theorem vs_locSet {ps : Pos} (he : VE X e f) (ha : VE X a g) (hb : VE X b h)
    (hA : ∀ v, assign (.Subscript a b ps) X.env v = (do
      let ov ← holding [v] (eval a X.env)
      let iv ← holding [v, ov] (eval b X.env)
      standAt ps
      holding [v, ov, iv] (setItem ov iv v)
      release [v, ov, iv] []) := by intro _; rfl) (hs : swapsWithSole [.Subscript a b ps] e pos.line X.env = pure false := by rfl) (hw : swappedStores [.Subscript a b ps] e X.env = pure none := by rfl)
    (h1 : (assignEach [.Subscript a b ps] X.env).map (·.2) = [assign (.Subscript a b ps) X.env] := by rfl) : VS X (.Assign [.Subscript a b ps] e pos) (sLocSet f g h) := by
  refine PSimp (ps_asg he (pg_sub ha hb set_list hA) hs hw h1) fun D σ H q => ?_
  obtain ⟨al, S, sl, st, o, ok, e, k⟩ := q
  unfold sLocSet at e
  split at e
  · rename_i d st1 h1
    cases h2 : g sl st1 with
    | none => rw [h2] at e; cases e
    | some p =>
      obtain ⟨x, st2⟩ := p
      rw [h2] at e
      simp only [Option.bind_some] at e
      split at e
      · rename_i i st3 h3
        split at e
        · rename_i n hn
          split at e
          · rename_i l hl
            split at e
            · rename_i j hj
              cases e
              refine ePub_read ⟨al, S, sl, st, .val d, st1, ok, h1, fun v w1 ok1 x1 rd1 fr1 => ⟨w1.al, w1.S, sl, st1, x, st2, ok1, h2, fun u w2 ok2 x2 rd2 fr2 => ⟨w2.al, w2.S, sl, st2, _, st3, ok2, h3, fun y w3 ok3 x3 rd3 fr3 => ?_⟩⟩⟩
              cases rd3
              obtain ⟨q, us, es, ev, g1, g2, g3, g4⟩ := loc_read ok3 (rd2.ext ok2 x3) hn
              subst ev
              rw [hl] at g3
              cases g3
              have rv : Rep X.K w3 v d := x3.rep (fun c hc => ok2.foot hc) (x2.rep (fun c hc => ok1.foot hc) rd1)
              have x4 : Ext w3 (FootW w3 sl σ) (w3.to (upd w3.H q (.lst (us.set j v)))) (FootW (w3.to (upd w3.H q (.lst (us.set j v)))) sl σ) := Ext.ambW ok3 g1
              exact ⟨q, us, i, j, rfl, rfl, g2, by rw [g4.length]; exact hj, k σ (w3.to (upd w3.H q (.lst (us.set j v)))) (ok3.ambW g1 (g4.set rv j)) (x1.trans (x2.trans (x3.trans x4)))⟩
            · cases e
          · cases e
        · cases e
      · cases e
  · cases e
/-! ### a, b = x, y -/
def putK (i : Nat) (own : Bool) (r : R) (sl : Sls) : Option Sls := match own, r with
  | false, .val d => if i < sl.length then some (sl.set i (.pub d)) else none
  | true, .prv l => if i < sl.length then some (sl.set i (.own l)) else none
  | _, _ => none
def sPar (i j : Nat) (o1 o2 : Bool) (FA : EvA) : SvF := fun sl st => match FA sl st with
  | some ([r1, r2], st') => (putK i o1 r1 sl).bind fun sl1 => (putK j o2 r2 sl1).map fun sl2 => .nx sl2 st'
  | _ => none
theorem putK_read {K : PySem.W.Frag} {w w0 : Wd} {F0 : Addr → Prop} {sl sl' : Sls} {st : Amb} {σ : St} {v : V} {r : R} {i : Nat} {o : Bool} (ok : Ok K w sl st σ) (x : Ext w0 F0 w (FootW w sl σ)) (rd : RdR K w sl σ v r) (fr : Frs w0 v r) (e : putK i o r sl = some sl') :
    Ok K w sl' st (σ.set i (some v)) ∧ Ext w0 F0 w (FootW w sl' (σ.set i (some v))) := by
  unfold putK at e
  split at e
  · split at e
    · cases e
      exact ⟨ok.setPub rd, x.trans (Ext.foot _ _ fun a ha => foot_set_pub ha)⟩
    · cases e
  · split at e
    · rename_i hi
      cases e
      refine ⟨ok.setOwn hi rd, ⟨x.keep, x.sS, x.sN, x.al, x.dom, fun a ha => ?_⟩⟩
      obtain ⟨p, vs, ev, _⟩ := rd
      subst ev
      rcases foot_set_own2 hi ok.len ha with ha | rfl
      · exact x.fo a ha
      · exact .inr (fr _ rfl)
    · cases e
  · cases e
theorem vs_par {i j : Nat} {x y : Str} {px py pt : Pos} {kt k2 pt2} (o1 o2 : Bool) (h12 : (o1 && o2) = false) (hc : X.calm = true) (hN : X.N.Nodup) (ha : VA X [a, b] FA) (hij : i ≠ j) (hi : X.N[i]? = some x := by rfl) (hj : X.N[j]? = some y := by rfl)
    (hx : X.env.scope.names.lookup x = some .local := by rfl) (hy : X.env.scope.names.lookup y = some .local := by rfl)
    (hw : swappedStores [.Tuple [.Name x px, .Name y py] kt pt] (.Tuple [a, b] k2 pt2) X.env = pure (some [x, y]) := by rfl)
    (hs : swapsWithSole [.Tuple [.Name x px, .Name y py] kt pt] (.Tuple [a, b] k2 pt2) pos.line X.env = pure false := by rfl) :
    VS X (.Assign [.Tuple [.Name x px, .Name y py] kt pt] (.Tuple [a, b] k2 pt2) pos) (sPar i j o1 o2 FA) := PSimp (ps_par hc hN hi hj hij hx hy ha hw hs) fun D σ H h => by
  obtain ⟨al, S, sl, st, o, ok, e, k⟩ := h
  unfold sPar at e
  split at e
  · rename_i r1 r2 st' h1
    cases h2 : putK i o1 r1 sl with
    | none => rw [h2] at e; cases e
    | some sl1 =>
      rw [h2] at e
      simp only [Option.bind_some] at e
      cases h3 : putK j o2 r2 sl1 with
      | none => rw [h3] at e; cases e
      | some sl2 =>
        rw [h3] at e
        cases e
        refine ⟨al, S, sl, st, _, _, ok, h1, fun vs w1 ok1 x1 rd1 fl1 => ?_⟩
        cases rd1 with
        | @cons v _ _ _ rdv rds =>
          cases rds with
          | @cons u _ _ _ rdu rds =>
            cases rds
            have frv := fl1 0 v r1 rfl rfl
            have fru := fl1 1 u r2 rfl rfl
            obtain ⟨ok2, x2⟩ := putK_read ok1 x1 rdv frv h2
            have rdu' : RdR X.K w1 sl1 (σ.set i (some v)) u r2 := by
              cases r2 with
              | val d => exact rdu
              | bor l => unfold putK at h3; split at h3 <;> first | cases h3 | (rename_i h4; cases h4)
              | prv l =>
                obtain ⟨p, us, g1, g2, g3, g4, g5⟩ := rdu
                refine ⟨p, us, g1, g2, g3, g4, fun f => g5 ?_⟩
                cases o1 with
                | true =>
                  cases o2 with
                  | true => cases h12
                  | false => unfold putK at h3; cases h3
                | false =>
                  cases r1 with
                  | prv m => unfold putK at h2; cases h2
                  | bor m => unfold putK at h2; cases h2
                  | val d =>
                    unfold putK at h2
                    simp only at h2
                    split at h2
                    · cases h2; exact foot_set_pub f
                    · cases h2
            obtain ⟨ok3, x3⟩ := putK_read ok2 x2 rdu' fru h3
            exact ⟨v, u, rfl, k _ w1 ok3 x3⟩
  · cases e
end

/-! ### what is walked -/
abbrev EvI := Sls → Amb → Option (List Vx.D × Amb)
/-- the walk J yields the items l, however the world goes on -/
def ItOk (K : PySem.W.Frag) (w : Wd) (F : Addr → Prop) (J : It) (l : List Vx.D) : Prop :=
  ∀ (w2 : Wd) (F2 : Addr → Prop), Ext w F w2 F2 → ∀ i : Nat, (∀ d, l[i]? = some d → J.go i w2.H ∧ ∀ x H', J.yld i w2.H x H' → (∀ a o, w2.H a = some o → H' a = some o) ∧ (∀ a, H' a = none → w2.H a = none) ∧ Rep K (w2.to H') x d) ∧ (l.length ≤ i → J.stop i w2.H)
def tVI (K : PySem.W.Frag) (f : EvI) : TI := fun σ H R => ∃ al S sl st l st', Ok K ⟨al, S, H⟩ sl st σ ∧ f sl st = some (l, st') ∧
  ∀ J w', Ok K w' sl st' σ → Ext ⟨al, S, H⟩ (Foot al sl σ) w' (FootW w' sl σ) → (∀ P : Addr → Prop, (∀ a, P a → (¬ w'.S a ∧ ∃ vs, w'.H a = some (.lst vs)) ∧ (FootW w' sl σ a ∨ H a ≠ none)) → ItOk K w' P J l) → R J w'.H
abbrev VI (X : Cx) (tg e : Expr) (f : EvI) : Prop := PI X tg e (tVI X.K f)
theorem PIimp {X : Cx} {tg e : Expr} {t t' : TI} (h : PI X tg e t) (i : ∀ σ H Q, t' σ H Q → t σ H Q) : PI X tg e t' := ⟨fun pins s σ H Q I q => h.run pins s σ H Q I (i σ H Q q)⟩
section
variable {K : PySem.W.Frag} {w : Wd} {F : Addr → Prop} {a : Addr} {vs : List V} {ds : List Vx.D}
theorem itOk_list (hf : ∀ a, F a → ¬ w.S a ∧ ∃ vs, w.H a = some (.lst vs)) (r : RepL K w vs ds) (h : ∀ (w2 : Wd) (F2 : Addr → Prop), Ext w F w2 F2 → SqL K w2.H a vs) : ItOk K w F (Itl K a) ds := by
  intro w2 F2 x i
  have hs := h w2 F2 x
  have r2 := x.repL hf r
  refine ⟨fun d hd => ?_, fun hi => ⟨vs, hs, by rw [r.length]; exact hi⟩⟩
  obtain ⟨v, e1, r1⟩ := r2.get hd
  refine ⟨⟨vs, v, hs, e1⟩, fun y H' ⟨eH, ey⟩ => ?_⟩
  subst eH
  have := ey vs hs
  rw [e1] at this
  cases this
  exact ⟨fun _ _ h => h, fun _ h => h, r1⟩
theorem itOk_tup (hf : ∀ a, F a → ¬ w.S a ∧ ∃ vs, w.H a = some (.lst vs)) (r : RepL K w vs ds) (h : SqT K w.H a vs) : ItOk K w F (Itt K a) ds := by
  intro w2 F2 x i
  have hs : SqT K w2.H a vs := (x.repG (K := K) hf).1 a vs h
  have r2 := x.repL hf r
  refine ⟨fun d hd => ?_, fun hi => ⟨vs, hs, by rw [r.length]; exact hi⟩⟩
  obtain ⟨v, e1, r1⟩ := r2.get hd
  refine ⟨⟨vs, v, hs, e1⟩, fun y H' ⟨eH, ey⟩ => ?_⟩
  subst eH
  have := ey vs hs
  rw [e1] at this
  cases this
  exact ⟨fun _ _ h => h, fun _ h => h, r1⟩
theorem rg_get {lo hi : Int} {i : Nat} {d : Vx.D} (h : (rg lo hi)[i]? = some d) : d = .int (lo + i) ∧ i < (hi - lo).toNat := by
  unfold rg at h
  rw [List.getElem?_map] at h
  cases q : (List.range (hi - lo).toNat)[i]? with
  | none => rw [q] at h; cases h
  | some j =>
    rw [q] at h
    obtain ⟨h1, h2⟩ := List.getElem?_eq_some_iff.mp q
    simp at h1 h2
    subst h2
    exact ⟨(Option.some.inj h).symm, by omega⟩
theorem rg_length {lo hi : Int} : (rg lo hi).length = (hi - lo).toNat := by simp [rg]
theorem itOk_rg {lo hi : Int} : ItOk K w F (Itr lo (hi - lo).toNat) (rg lo hi) := by
  intro w2 F2 x i
  refine ⟨fun d hd => ?_, fun h => by rw [rg_length] at h; exact h⟩
  obtain ⟨rfl, hi⟩ := rg_get hd
  exact ⟨hi, fun y H' ⟨eH, ey⟩ => by subst eH ey; exact ⟨fun _ _ h => h, fun _ h => h, .int _⟩⟩
end
/-- the items of a list that may be walked, of a tuple -/
def iSeq (f : EvF) : EvI := fun sl st => match f sl st with
  | some (.val (.lst l), st') => some (l, st')
  | some (.val (.frz l), st') => some (l, st')
  | some (.prv l, st') => some (l, st')
  | _ => none
def iTupD (f : EvF) : EvI := fun sl st => match f sl st with
  | some (.val (.tup l), st') => some (l, st')
  | _ => none
def iRg1 (FA : EvA) : EvI := fun sl st => match FA sl st with
  | some ([.val (.int n)], st') => if -4611686018427387904 ≤ n ∧ n < 4611686018427387904 then some (rg 0 n, st') else none
  | _ => none
def iRg2 (FA : EvA) : EvI := fun sl st => match FA sl st with
  | some ([.val (.int i), .val (.int j)], st') => if -4611686018427387904 ≤ i ∧ i < 4611686018427387904 ∧ -4611686018427387904 ≤ j ∧ j < 4611686018427387904 then some (rg i j, st') else none
  | _ => none
section
variable {X : Cx} {tg e a b : Expr} {f : EvF} {FA : EvA} {p pos : Pos}
theorem vi_list (he : VE X e f) : VI X tg e (iSeq f) := PIimp (pi_list he) fun σ H R h => by
  obtain ⟨al, S, sl, st, l, st', ok, e, k⟩ := h
  unfold iSeq at e
  split at e
  · rename_i m st1 h1
    cases e
    refine ⟨al, S, sl, st, _, _, ok, h1, fun v w1 ok1 x1 rd1 fr1 => ?_⟩
    cases rd1 with
    | lst h0 h2 h3 =>
      refine ⟨_, rfl, ⟨_, SqL.of h2⟩, k _ w1 ok1 x1 fun P hP => itOk_list (fun c hc => (hP c hc).1) h3 fun w2 F2 x => SqL.of (x.keep _ _ h2 fun f => (hP _ f).1.1 h0)⟩
  · rename_i m st1 h1
    cases e
    refine ⟨al, S, sl, st, _, _, ok, h1, fun v w1 ok1 x1 rd1 fr1 => ?_⟩
    cases rd1 with
    | frz h2 h3 =>
      refine ⟨_, rfl, ⟨_, .inl (.inr ⟨_, h2⟩)⟩, k _ w1 ok1 x1 fun P hP => itOk_list (fun c hc => (hP c hc).1) h3 fun w2 F2 x => .inl (.inr ⟨_, x.keep _ _ h2 fun f => ?_⟩)⟩
      obtain ⟨⟨_, vs, e⟩, _⟩ := hP _ f
      rw [h2] at e; cases e
    | frk a b c d e f h3 => exact ⟨_, rfl, ⟨_, .inr ⟨_, _, _, a, b, c, d, e, f⟩⟩, k _ w1 ok1 x1 fun P hP => itOk_list (fun c hc => (hP c hc).1) h3 fun w2 F2 x => .inr ⟨_, _, _, a, b, c, d, e, f⟩⟩
  · rename_i m st1 h1
    cases e
    refine ⟨al, S, sl, st, _, _, ok, h1, fun v w1 ok1 x1 rd1 fr1 => ?_⟩
    obtain ⟨c, vs, ev, h2, h3, h4, h5⟩ := rd1
    exact ⟨c, ev, ⟨_, SqL.of h2⟩, k _ w1 ok1 x1 fun P hP => itOk_list (fun c hc => (hP c hc).1) h3 fun w2 F2 x => SqL.of (x.keep _ _ h2 fun f => (hP _ f).2.elim h5 fun z => z (fr1 _ ev))⟩
  · cases e
theorem vi_tup (he : VE X e f) : VI X tg e (iTupD f) := PIimp (pi_tup he) fun σ H R h => by
  obtain ⟨al, S, sl, st, l, st', ok, e, k⟩ := h
  unfold iTupD at e
  split at e
  · rename_i m st1 h1
    cases e
    refine ⟨al, S, sl, st, _, _, ok, h1, fun v w1 ok1 x1 rd1 fr1 => ?_⟩
    cases rd1 with
    | tup h2 h3 => exact ⟨_, rfl, ⟨_, h2⟩, k _ w1 ok1 x1 fun P hP => itOk_tup (fun c hc => (hP c hc).1) h3 h2⟩
  · cases e
theorem vi_rg1 (hg : Gl X "range") (hm : X.mg "range" = none) (ha : VA X [a] FA) (hs : starEach [a] X.env = [(false, eval a X.env)] := by rfl) : VI X tg (.Call (.Name "range" p) [a] [] pos) (iRg1 FA) := PIimp (pi_range1 hg hm ha hs) fun σ H R h => by
  obtain ⟨al, S, sl, st, l, st', ok, e, k⟩ := h
  unfold iRg1 at e
  split at e
  · rename_i n st1 h1
    split at e
    · rename_i hz
      cases e
      refine ⟨al, S, sl, st, _, _, ok, h1, fun vs w1 ok1 x1 rd1 fl1 => ?_⟩
      cases rd1 with
      | cons r1 r2 =>
        cases r2
        cases r1
        refine ⟨n, rfl, by omega, by omega, ?_⟩
        have it : ∀ P, ItOk X.K w1 P (Itr 0 (n - 0).toNat) (rg 0 n) := fun P => itOk_rg
        rw [Int.sub_zero] at it
        exact k _ w1 ok1 x1 fun P _ => it P
    · cases e
  · cases e
theorem vi_rg2 (hg : Gl X "range") (hm : X.mg "range" = none) (ha : VA X [a, b] FA) (hs : starEach [a, b] X.env = [(false, eval a X.env), (false, eval b X.env)] := by rfl) (hs2 : starEach [b] X.env = [(false, eval b X.env)] := by rfl) : VI X tg (.Call (.Name "range" p) [a, b] [] pos) (iRg2 FA) := PIimp (pi_range2 hg hm ha hs hs2) fun σ H R h => by
  obtain ⟨al, S, sl, st, l, st', ok, e, k⟩ := h
  unfold iRg2 at e
  split at e
  · rename_i i j st1 h1
    split at e
    · rename_i hz
      cases e
      refine ⟨al, S, sl, st, _, _, ok, h1, fun vs w1 ok1 x1 rd1 fl1 => ?_⟩
      cases rd1 with
      | cons r1 r2 =>
        cases r2 with
        | cons r2 r3 =>
          cases r3
          cases r1
          cases r2
          exact ⟨i, j, rfl, ⟨by omega, by omega, by omega, by omega⟩, k _ w1 ok1 x1 fun P _ => itOk_rg⟩
    · cases e
  · cases e
end

/-! ### loops -/
def forL (t : Tg) (B : SvF) : List Vx.D → Sls → Amb → Option Out
  | [], sl, st => some (.nx sl st)
  | d :: l, sl, st => (put t d sl).bind fun sl1 => (B sl1 st).bind fun o => match o with
    | .nx sl' st' => forL t B l sl' st'
    | .ct sl' st' => forL t B l sl' st'
    | .bk sl' st' => some (.nx sl' st')
    | .rt r st' => some (.rt r st')
def sFor (fi : EvI) (t : Tg) (B : SvF) : SvF := fun sl st => (fi sl st).bind fun p => forL t B p.1 sl p.2
def whL (t : EvB) (B : SvF) : Nat → Sls → Amb → Option Out
  | 0, _, _ => none
  | n + 1, sl, st => (t sl st).bind fun p => if p.1 = true then (B sl p.2).bind fun o => match o with
      | .nx sl' st' => whL t B n sl' st'
      | .ct sl' st' => whL t B n sl' st'
      | .bk sl' st' => some (.nx sl' st')
      | .rt r st' => some (.rt r st')
    else some (.nx sl p.2)
def sWhile (n : Nat) (t : EvB) (B : SvF) : SvF := fun sl st => whL t B n sl st
section
variable {X : Cx} {tg iter c : Expr} {body : List Stmt} {fi : EvI} {t : Tg} {B : SvF} {tB : EvB} {pos : Pos}
theorem vs_for (hp : PassesOwn (model X.prog X.w) X.A X.env X.xe) (hc : X.calm = true) (hi : VI X tg iter fi) (hg : VG X tg t) (hb : VSs X body B)
    (hs : ∀ x, foldedSetIterable iter X.env x = pure x := by intro _; rfl) : VS X (.For tg iter body [] pos) (sFor fi t B) := PSimp (ps_for hp hc hi hg hb hs) fun D σ0 H0 h => by
  obtain ⟨al, S, sl, st, o, ok, e, k⟩ := h
  unfold sFor at e
  cases h1 : fi sl st with
  | none => rw [h1] at e; cases e
  | some p =>
    obtain ⟨l, st1⟩ := p
    rw [h1] at e
    simp only [Option.bind_some] at e
    refine ⟨al, S, sl, st, l, st1, ok, h1, fun J w1 ok1 x1 it => ?_⟩
    have it := it (FootW w1 sl σ0) fun a f => ⟨ok1.foot f, .inl f⟩
    have k1 : Fin X.K w1 (FootW w1 sl σ0) D o := k.back x1
    refine ⟨fun i m σ H => m = l.length - i ∧ i ≤ l.length ∧ ∃ w sl' st', w.H = H ∧ Ok X.K w sl' st' σ ∧ Ext w1 (FootW w1 sl σ0) w (FootW w sl' σ) ∧ forL t B (l.drop i) sl' st' = some o,
      ⟨l.length, by simp, Nat.zero_le _, w1, sl, st1, rfl, ok1, Ext.refl, by simpa using e⟩, ?_⟩
    rintro i m σ H ⟨rfl, hi, w, sl', st', rfl, ok', x', ef⟩
    obtain ⟨i1, i2⟩ := it w _ x' i
    by_cases hlt : i < l.length
    · obtain ⟨g1, g2⟩ := i1 l[i] (List.getElem?_eq_getElem hlt)
      have hd : l.drop i = l[i] :: l.drop (i + 1) := List.drop_eq_getElem_cons hlt
      rw [hd, forL] at ef
      refine .inr ⟨g1, fun σ' H' => ∃ m', m' < l.length - i ∧ (m' = l.length - (i + 1) ∧ i + 1 ≤ l.length ∧ ∃ w sl' st', w.H = H' ∧ Ok X.K w sl' st' σ' ∧ Ext w1 (FootW w1 sl σ0) w (FootW w sl' σ') ∧ forL t B (l.drop (i + 1)) sl' st' = some o), fun σ' H' z => z, fun y H' hy => ?_⟩
      obtain ⟨y1, y2, y3⟩ := g2 y H' hy
      have ok2 : Ok X.K (w.to H') sl' st' σ := ok'.grow y1 y2
      have x2 : Ext w (FootW w sl' σ) (w.to H') (FootW (w.to H') sl' σ) := Ext.grow y1 y2
      cases h2 : put t l[i] sl' with
      | none => rw [h2] at ef; cases ef
      | some sl1 =>
        rw [h2] at ef
        simp only [Option.bind_some] at ef
        cases h3 : B sl1 st' with
        | none => rw [h3] at ef; cases ef
        | some o1 =>
          rw [h3] at ef
          simp only [Option.bind_some] at ef
          refine gT_read (w := w.to H') ok2 y3 h2 fun σ2 ok3 x3 _ => ⟨w.al, w.S, sl1, st', o1, ok3, h3, ?_⟩
          have xx := x'.trans (x2.trans x3)
          cases o1 with
          | nx sl2 st2 => exact fun σ' w' ok4 x4 => ⟨_, (by omega), rfl, hlt, w', sl2, st2, rfl, ok4, xx.trans x4, ef⟩
          | ct sl2 st2 => exact fun σ' w' ok4 x4 => ⟨_, (by omega), rfl, hlt, w', sl2, st2, rfl, ok4, xx.trans x4, ef⟩
          | bk sl2 st2 => cases ef; exact fun σ' w' ok4 x4 => k1 σ' w' ok4 (xx.trans x4)
          | rt r st2 => cases ef; exact fun v w' am x4 rd fr => k1 v w' am (xx.trans x4) rd (fr.back xx)
    · have hn : i = l.length := by omega
      subst hn
      rw [List.drop_length, forL] at ef
      cases ef
      exact .inl ⟨i2 (Nat.le_refl _), k1 σ w ok' x'⟩
theorem vs_while (n : Nat) (hp : PassesOwn (model X.prog X.w) X.A X.env X.xe) (hc : VT X c tB) (hb : VSs X body B) : VS X (.While c body [] pos) (sWhile n tB B) := PSimp (ps_while hp hc hb) fun D σ0 H0 h => by
  obtain ⟨al, S, sl, st, o, ok, e, k⟩ := h
  refine ⟨fun m σ H => ∃ w sl' st', w.H = H ∧ Ok X.K w sl' st' σ ∧ Ext ⟨al, S, H0⟩ (Foot al sl σ0) w (FootW w sl' σ) ∧ whL tB B m sl' st' = some o, ⟨n, ⟨al, S, H0⟩, sl, st, rfl, ok, Ext.refl, e⟩, ?_⟩
  rintro m σ H ⟨w, sl', st', rfl, ok', x', ef⟩
  cases m with
  | zero => rw [whL] at ef; cases ef
  | succ m =>
    rw [whL] at ef
    cases h1 : tB sl' st' with
    | none => rw [h1] at ef; cases ef
    | some p =>
      obtain ⟨b, st1⟩ := p
      rw [h1] at ef
      simp only [Option.bind_some] at ef
      refine ⟨w.al, w.S, sl', st', b, st1, ok', h1, fun w1 ok1 x1 => ?_⟩
      cases b with
      | true =>
        simp only [if_true] at ef ⊢
        cases h3 : B sl' st1 with
        | none => rw [h3] at ef; cases ef
        | some o1 =>
          rw [h3] at ef
          simp only [Option.bind_some] at ef
          refine ⟨fun σ' H' => ∃ m', m' < m + 1 ∧ ∃ w sl' st', w.H = H' ∧ Ok X.K w sl' st' σ' ∧ Ext ⟨al, S, H0⟩ (Foot al sl σ0) w (FootW w sl' σ') ∧ whL tB B m' sl' st' = some o, fun σ' H' z => z, w1.al, w1.S, sl', st1, o1, ok1, h3, ?_⟩
          have xx := x'.trans x1
          cases o1 with
          | nx sl2 st2 => exact fun σ' w' ok4 x4 => ⟨m, Nat.lt_succ_self _, w', sl2, st2, rfl, ok4, xx.trans x4, ef⟩
          | ct sl2 st2 => exact fun σ' w' ok4 x4 => ⟨m, Nat.lt_succ_self _, w', sl2, st2, rfl, ok4, xx.trans x4, ef⟩
          | bk sl2 st2 => cases ef; exact fun σ' w' ok4 x4 => k σ' w' ok4 (xx.trans x4)
          | rt r st2 => cases ef; exact fun v w' am x4 rd fr => k v w' am (xx.trans x4) rd (fr.back xx)
      | false =>
        simp only [Bool.false_eq_true, if_false] at ef ⊢
        cases ef
        exact k σ w1 ok1 (x'.trans x1)
end
end Vx


set_option Elab.async false
set_option linter.all false
set_option maxRecDepth 100000
/-! Vf: defs and their calls over trees. -/
namespace Vx
open PySem PySem.Spec L2

/-- what a def makes of its arguments and of the shared lists -/
abbrev Mean := List Vx.D → Amb → Option (R × Amb)
def spV (K : PySem.W.Frag) (n : Nat) (m : Mean) : Sp := fun vs H Q _ => ∃ al S ds st r st', AmbOk K ⟨al, S, H⟩ st ∧ RepL K ⟨al, S, H⟩ vs ds ∧ ds.length = n ∧ m ds st = some (r, st') ∧
  ∀ v w', AmbOk K w' st' → Ext ⟨al, S, H⟩ (· ∈ al) w' (· ∈ w'.al) → RdF K w' v r → Frs ⟨al, S, H⟩ v r → Q v w'.H
/-- the meaning of a body -/
def meanOf (N n : Nat) (F : SvF) : Mean := fun ds st => match F (ds.map .pub ++ List.replicate (N - n) .un) st with
  | some (.rt r st') => some (r, st')
  | some (.nx _ st') => some (.val .non, st')
  | _ => none
abbrev VFn (P : Program) (w : World) (K : PySem.W.Frag) (mg : Str → Option Value) (base : Heap) (k : Nat) (f : Addr) (fd : FuncData) (ps : List Str) (m : Mean) : Prop := FnOk P w K mg base CX0 k f fd ps (spV K ps.length m)

theorem okV {P : Program} {w : World} {K : PySem.W.Frag} {mg : Str → Option Value} {base : Heap} {x qual : Str} {st : Stmt} {f : Addr} {fd : FuncData} {N ps : List Str} {k : Nat} {B : SvF} (Fn : Fun K x qual st f fd) (S : FnScope N ps (defScope st))
    (body : ∀ (cdv : Value) (A : Around) (outer : List Env) (s : Shared) (H : Hp) (E : XK), Room k (A.deeper (PyProof.Rows.envOfC qual (defScope st) s.heap.objs.size f cdv)) → VSs (cxOf CX0 P w K mg base N qual (defScope st) f cdv A outer s H E).nox (defBody st) B) :
    VFn P w K mg base (k + 1) f fd ps (meanOf N.length ps.length B) := by
  refine Fn.ok S (fun vs H Q E h => ?_) (fun cdv A outer s H vs Q E hr h => ⟨_, body cdv A outer s H E hr, ?_⟩)
  · obtain ⟨al, S, ds, st, r, st', am, rl, hl, _⟩ := h
    rw [rl.length, hl]
  · obtain ⟨al, SS, ds, stt, r, st', am, rl, hl, hm, kk⟩ := h
    unfold meanOf at hm
    have hvl : vs.length = ds.length := rl.length
    have own0 : ∀ (i : Nat) (l : List Vx.D), (ds.map Sl.pub ++ List.replicate (N.length - ps.length) Sl.un)[i]? ≠ some (.own l) := fun i l z => by
      rcases Nat.lt_or_ge i ds.length with q | q
      · rw [List.getElem?_append_left (by simpa using q), List.getElem?_map] at z
        cases hh : ds[i]? with
        | none => rw [hh] at z; cases z
        | some d => rw [hh] at z; cases z
      · rw [List.getElem?_append_right (by simpa using q)] at z
        have := List.mem_of_getElem? z
        rw [List.mem_replicate] at this
        cases this.2
    have ok0 : Ok K ⟨al, SS, H⟩ (ds.map Sl.pub ++ List.replicate (N.length - ps.length) Sl.un) stt (L2.start N vs) := by
      refine ⟨am, ?_, fun i d h => ?_, fun i l h => absurd h (own0 i l), fun i j l m a h1 => absurd h1 (own0 i l)⟩
      · unfold L2.start
        simp only [List.length_append, List.length_map, List.length_replicate]
        rw [hvl, hl]
      · rcases Nat.lt_or_ge i ds.length with q | q
        · rw [List.getElem?_append_left (by simpa using q), List.getElem?_map] at h
          cases hh : ds[i]? with
          | none => rw [hh] at h; cases h
          | some d' =>
            rw [hh] at h
            cases h
            obtain ⟨v, e, r⟩ := rl.get hh
            refine ⟨v, ?_, r⟩
            unfold L2.start
            rw [List.getElem?_append_left (by simpa [hvl] using q), List.getElem?_map, e]
            rfl
        · rw [List.getElem?_append_right (by simpa using q)] at h
          have := List.mem_of_getElem? h
          rw [List.mem_replicate] at this
          cases this.2
    have ft : ∀ a, Foot al (ds.map Sl.pub ++ List.replicate (N.length - ps.length) Sl.un) (L2.start N vs) a → a ∈ al := fun a h => by
      rcases h with h | ⟨i, l, h, _⟩
      · exact h
      · exact absurd h (own0 i l)
    have ex : ∀ {w' : Wd} {F' : Addr → Prop}, Ext ⟨al, SS, H⟩ (Foot al (ds.map Sl.pub ++ List.replicate (N.length - ps.length) Sl.un) (L2.start N vs)) w' F' → (∀ a, a ∈ w'.al → F' a) → Ext ⟨al, SS, H⟩ (· ∈ al) w' (· ∈ w'.al) := fun x h =>
      ⟨fun a o e n => x.keep a o e fun z => n (ft a z), x.sS, fun a s => (x.sN a s).imp id (Or.imp id (ft a)), x.al, x.dom, fun a m => (x.fo a (h a m)).imp (ft a) id⟩
    cases hB : B (ds.map Sl.pub ++ List.replicate (N.length - ps.length) Sl.un) stt with
    | none => rw [hB] at hm; cases hm
    | some o =>
      rw [hB] at hm
      refine ⟨al, SS, _, stt, o, ok0, hB, ?_⟩
      cases o with
      | bk sl st => cases hm
      | ct sl st => cases hm
      | nx sl st =>
        cases hm
        exact fun σ' w' ok' x' => kk .non w' ok'.amb (ex x' fun a m => .inl m) .non trivial
      | rt r st =>
        cases hm
        intro v w' am' x' rd fr
        refine kk v w' am' (ex x' fun a m => m) rd ?_
        cases r with
        | val d => trivial
        | bor d => trivial
        | prv l =>
          intro a ea
          rcases fr a ea with h | h
          · exact h
          · obtain ⟨b, us, eb, _, _, _, nb⟩ := rd
            rw [ea] at eb
            cases eb
            exact absurd (x'.mem (ft a h)) nb
/-- another meaning that is the same where it says anything -/
theorem VFn_imp {P : Program} {w : World} {K : PySem.W.Frag} {mg : Str → Option Value} {base : Heap} {k : Nat} {f : Addr} {fd : FuncData} {ps : List Str} {m m' : Mean} (F : VFn P w K mg base k f fd ps m) (h : ∀ ds st r, m' ds st = some r → m ds st = some r) : VFn P w K mg base k f fd ps m' :=
  F.imp fun vs H Q E ⟨al, S, ds, st, r, st', am, rl, hl, hm, kk⟩ => ⟨al, S, ds, st, r, st', am, rl, hl, h _ _ _ hm, kk⟩

def eCall (m : Mean) (FA : EvA) : EvF := fun sl st => (FA sl st).bind fun p => (vals p.1).bind fun ds => m ds p.2
section
variable {K : PySem.W.Frag} {w w' : Wd} {sl : Sls} {st st' : Amb} {σ : St} {v : V} {r : R}
/-- behind a call -/
theorem call_back (ok : Ok K w sl st σ) (am : AmbOk K w' st') (x : Ext w (· ∈ w.al) w' (· ∈ w'.al)) (rd : RdF K w' v r) (fr : Frs w v r) : Ok K w' sl st' σ ∧ Ext w (FootW w sl σ) w' (FootW w' sl σ) ∧ RdR K w' sl σ v r := by
  have hf : ∀ a, a ∈ w.al → ¬ w.S a ∧ ∃ vs, w.H a = some (.lst vs) := fun a m => ok.amb.mem m
  have own : ∀ (i : Nat) (ds : List Vx.D), sl[i]? = some (.own ds) → ∃ a vs, σ[i]? = some (some (.ref a)) ∧ w'.H a = some (.lst vs) ∧ RepL K w' vs ds ∧ ¬ w'.S a ∧ a ∉ w'.al := fun i ds h => by
    obtain ⟨a, vs, e1, e2, e3, s, m⟩ := ok.own i ds h
    refine ⟨a, vs, e1, x.keep _ _ e2 m, x.repL hf e3, fun q => ?_, fun q => ?_⟩
    · rcases x.sN a q with q | q | q
      · exact s q
      · rw [e2] at q; cases q
      · exact m q
    · rcases x.fo a q with q | q
      · exact m q
      · rw [e2] at q; cases q
  have ok' : Ok K w' sl st' σ := ⟨am, ok.len, fun i d h => by
    obtain ⟨u, e, ru⟩ := ok.pub i d h
    exact ⟨u, e, x.rep hf ru⟩, own, ok.dis⟩
  refine ⟨ok', ⟨fun a o e n => x.keep a o e fun m => n (.inl m), x.sS, fun a s => (x.sN a s).imp id (Or.imp id .inl), x.al, x.dom, fun a f => ?_⟩, ?_⟩
  · rcases f with f | ⟨i, ds, h1, h2⟩
    · exact (x.fo a f).imp .inl id
    · exact .inl (.inr ⟨i, ds, h1, h2⟩)
  · cases r with
    | val d => exact rd
    | bor d => exact rd.elim
    | prv l =>
      obtain ⟨a, vs, e, h1, h2, h3, h4⟩ := rd
      refine ⟨a, vs, e, h1, h2, h3, fun f => ?_⟩
      rcases f with f | ⟨i, ds, g1, g2⟩
      · exact h4 f
      · obtain ⟨b, us, k1, k2, _⟩ := ok.own i ds g1
        rw [g2] at k1
        cases k1
        have := fr a e
        rw [k2] at this
        cases this
end
section
variable {X : Cx} {k : Nat} {f : Addr} {fd : FuncData} {ps ks : List Str} {m : Mean} {x : Str} {p pos : Pos} {e : Expr} {es : List Expr} {FA : EvA} {kws : List Keyword}
theorem call_read {σ : St} {H : Hp} {Q : VK} {E : XK} (h : tV X.K (eCall m FA) σ H Q) {n : Nat} (hn : ∀ sl st rs ds st', FA sl st = some (rs, st') → vals rs = some ds → ds.length = n) : tVA X.K FA σ H fun vs H1 => spV X.K n m vs H1 Q E := by
  obtain ⟨al, S, sl, st, r, st', ok, e, kk⟩ := h
  unfold eCall at e
  cases h1 : FA sl st with
  | none => rw [h1] at e; cases e
  | some q =>
    obtain ⟨rs, st1⟩ := q
    rw [h1] at e
    simp only [Option.bind_some] at e
    cases h2 : vals rs with
    | none => rw [h2] at e; cases e
    | some ds =>
      rw [h2] at e
      simp only [Option.bind_some] at e
      refine ⟨al, S, sl, st, rs, st1, ok, h1, fun vs w1 ok1 x1 rd1 _ => ⟨w1.al, w1.S, ds, st1, r, st', ok1.amb, vals_rep rd1 h2, hn _ _ _ _ _ h1 h2, e, fun v w' am x' rd fr => ?_⟩⟩
      obtain ⟨ok', x2, rd2⟩ := call_back ok1 am x' rd fr
      exact kk v w' ok' (x1.trans x2) rd2 (fr.back x1)
/-- an argument list of so many -/
def LenA (FA : EvA) (n : Nat) : Prop := ∀ sl st rs st', FA sl st = some (rs, st') → rs.length = n
theorem lenA_nil : LenA eNil 0 := fun sl st rs st' h => by cases h; rfl
theorem lenA_cons {f : EvF} {n : Nat} (h : LenA FA n) : LenA (eCons f FA) (n + 1) := fun sl st rs st' e => by
  unfold eCons at e
  cases h1 : f sl st with
  | none => rw [h1] at e; cases e
  | some q =>
    rw [h1] at e
    simp only [Option.bind_some] at e
    cases h2 : FA sl q.2 with
    | none => rw [h2] at e; cases e
    | some q2 =>
      rw [h2] at e
      cases e
      simp [h sl q.2 q2.1 q2.2 h2]
theorem vals_length : ∀ {rs : List R} {ds : List Vx.D}, vals rs = some ds → ds.length = rs.length
  | [], _, e => by cases e; rfl
  | .val d :: rs, _, e => by
    cases h1 : vals rs with
    | none => simp [vals, h1] at e
    | some ds =>
      simp only [vals, h1, Option.map_some, Option.some.injEq] at e
      subst e
      simp [vals_length h1]
  | .prv _ :: _, _, e => by simp [vals] at e
  | .bor _ :: _, _, e => by simp [vals] at e
theorem ve_call (F : VFn X.prog X.w X.K X.mg X.base k f fd ps m) (hr : Room k X.A) (hg : Gl X x) (hm : X.mg x = some (.ref f)) (hk : PySem.W.keepIn X.K (.ref f) = true) (hb : Binds X.K fd ps []) (ha : VA X (e :: es) FA) (hn : LenA FA ps.length)
    (hdb : (x == ("__debug__" : Str)) = false := by decide) (he : starEach (e :: es) X.env = (false, eval e X.env) :: starEach es X.env := by rfl) (hpl : (backTo pos (starEach es X.env)).any (·.1) = false := by rfl) :
    VE X (.Call (.Name x p) (e :: es) [] pos) (eCall m FA) := by
  refine PEimp (pe_call (E := E0) F hr hg hm hk hb .nil pass0 ha hdb he hpl) fun σ H Q h => ?_
  have q := call_read (E := E0) h (n := ps.length) fun sl st rs ds st' h1 h2 => by rw [vals_length h2]; exact hn sl st rs st' h1
  obtain ⟨al, S, sl, st, r, st', ok, e, kk⟩ := q
  exact ⟨al, S, sl, st, r, st', ok, e, fun vs w' ok' x' rd fl => by
    show spV X.K ps.length m (vs ++ []) w'.H Q E0
    rw [List.append_nil]; exact kk vs w' ok' x' rd fl⟩
/-! ### keywords alone -/
abbrev VKw (X : Cx) (kws : List Keyword) (f : EvA) : Prop := PK X kws (tVA X.K f)
theorem PKimp {t t' : TA} (h : PK X kws t) (i : ∀ σ H Q, t' σ H Q → t σ H Q) : PK X kws t' := ⟨fun pos pins s σ H Q I q => h.run pos pins s σ H Q I (i σ H Q q)⟩
theorem vk_nil : VKw X [] eNil := by
  refine PKimp pk_nil fun σ H Q h => ?_
  obtain ⟨al, S, sl, st, r, st', ok, e, k⟩ := h
  cases e
  exact k [] ⟨al, S, H⟩ ok Ext.refl .nil fun i v r e => by simp at e
theorem vk_cons {g : EvF} {nm : Option Str} {kpos : Pos} (ha : VE X e g) (hr : VKw X kws FA) : VKw X (⟨nm, e, kpos⟩ :: kws) (eCons g FA) := by
  refine PKimp (pk_cons ha hr) fun σ H Q h => ?_
  obtain ⟨al, S, sl, st, r, st', ok, e, k⟩ := h
  unfold eCons at e
  cases h1 : g sl st with
  | none => rw [h1] at e; cases e
  | some p =>
    obtain ⟨x, st1⟩ := p
    rw [h1] at e
    simp only [Option.bind_some] at e
    cases h2 : FA sl st1 with
    | none => rw [h2] at e; cases e
    | some q =>
      obtain ⟨ys, st2⟩ := q
      rw [h2] at e
      cases e
      refine ⟨al, S, sl, st, x, st1, ok, h1, fun v w1 ok1 x1 rd1 fr1 => ⟨w1.al, w1.S, sl, st1, ys, _, ok1, h2, fun vs w2 ok2 x2 rd2 fl2 => ?_⟩⟩
      exact k (v :: vs) w2 ok2 (x1.trans x2) (.cons (rd1.ext ok1 x2) rd2) fun i u r e1 e2 => by
        cases i with
        | zero => simp at e1 e2; subst e1 e2; exact fr1
        | succ i => exact (fl2 i u r (by simpa using e1) (by simpa using e2)).back x1
/-- a list by places of another one -/
def pick {α : Type} (ix : List Nat) (l : List α) : List α := ix.flatMap fun i => (l[i]?).toList
theorem pick_vals {xs : List V} {us : List Value} (r : Vals xs us) : ∀ ix : List Nat, Vals (pick ix xs) (pick ix us)
  | [] => .nil
  | i :: ix => by
    unfold pick
    rw [List.flatMap_cons, List.flatMap_cons]
    refine Vals.append ?_ (pick_vals r ix)
    cases h : xs[i]? with
    | none => rw [r.none_of h]; exact .nil
    | some x =>
      obtain ⟨u, e, ru⟩ := r.get h
      rw [e]
      exact .cons ru .nil
theorem pick_rep {K : PySem.W.Frag} {w : Wd} {vs : List V} {ds : List Vx.D} (r : RepL K w vs ds) : ∀ ix : List Nat, RepL K w (pick ix vs) (pick ix ds)
  | [] => .nil
  | i :: ix => by
    unfold pick
    rw [List.flatMap_cons, List.flatMap_cons]
    refine RepL.append ?_ (pick_rep r ix)
    cases h : ds[i]? with
    | none =>
      have : vs[i]? = none := by
        rw [List.getElem?_eq_none_iff] at h ⊢
        rw [r.length]; exact h
      rw [this]; exact .nil
    | some d =>
      obtain ⟨v, e, ru⟩ := r.get h
      rw [e]
      exact .cons ru .nil
/-- f(k = v, ..): the parameters by places of the keywords -/
theorem kbn_pick {K : PySem.W.Frag} {nm qual : Str} {st : Stmt} (F : Fun K nm qual st f fd) (ix : List Nat)
    (h : ∀ (kV doc pm : Value) (an : Option Addr) (cdv ct : Value) (ws : List Value), ws.length = ks.length → bindArgs (PySem.W.fnOf nm qual (defArgs st) (defBody st) (defScope st) .none kV doc pm an cdv ct) ⟨[], ks.zip ws⟩ = pure (ps.zip (pick ix ws))) :
    KBn K fd ps 0 ks (fun _ ws => pick ix ws) (fun _ zs => pick ix zs) := by
  obtain ⟨oc, od, kV, doc, pm, an, cdv, ct, osl, rfl, lk, hcd⟩ := F.ex
  refine ⟨fun s us ws _ hu hw => ?_, fun _ r => pick_vals r ix⟩
  have : us = [] := List.eq_nil_of_length_eq_zero hu
  subst this
  exact .of_eq (h kV doc pm an cdv ct ws hw)
def eCallK (m : Mean) (ix : List Nat) (FA : EvA) : EvF := fun sl st => (FA sl st).bind fun p => (vals p.1).bind fun ds => m (pick ix ds) p.2
theorem ve_callK (ix : List Nat) (F : VFn X.prog X.w X.K X.mg X.base k f fd ps m) (hr : Room k X.A) (hg : Gl X x) (hm : X.mg x = some (.ref f)) (hk : PySem.W.keepIn X.K (.ref f) = true) (hb : KBn X.K fd ps 0 ks (fun _ ws => pick ix ws) (fun _ zs => pick ix zs)) (hkw : VKw X kws FA) (hn : LenA FA ks.length)
    (hp : ∀ l : List Vx.D, l.length = ks.length → (pick ix l).length = ps.length)
    (hall : (backToKw pos (keywordEach kws X.env)).all (·.1.isSome) = true := by rfl) (hks : (backToKw pos (keywordEach kws X.env)).filterMap (·.1) = ks := by rfl)
    (hdb : (x == ("__debug__" : Str)) = false := by decide) (hpl : ((backTo pos (starEach [] X.env)).any (·.1) || (backToKw pos (keywordEach kws X.env)).any (·.1.isNone)) = false := by rfl) :
    VE X (.Call (.Name x p) [] kws pos) (eCallK m ix FA) := by
  refine ⟨fun pins s σ H Q I h => ?_⟩
  refine wpAny_Call_Name_kw (ld_glob I hg hm ?_ hdb)
  refine PySem.W.callWith_KW0 (h₀ := X.base) I.ok.mod.kin hk hall (thn (hkw.run pos pins s σ H (fun zs H1 => zs.length = ks.length ∧ spV X.K ps.length m (pick ix zs) H1 Q E0) I ?_) fun ws s2 ⟨zs, H2, I2, rz, l2, q2⟩ => ⟨I2.kIn, ?_⟩) hpl
  · obtain ⟨al, S, sl, st, r, st', ok, e, kk⟩ := h
    unfold eCallK at e
    cases h1 : FA sl st with
    | none => rw [h1] at e; cases e
    | some q =>
      obtain ⟨rs, st1⟩ := q
      rw [h1] at e
      simp only [Option.bind_some] at e
      cases h2 : vals rs with
      | none => rw [h2] at e; cases e
      | some ds =>
        rw [h2] at e
        simp only [Option.bind_some] at e
        refine ⟨al, S, sl, st, rs, st1, ok, h1, fun vs w1 ok1 x1 rd1 _ => ⟨?_, w1.al, w1.S, pick ix ds, st1, r, st', ok1.amb, pick_rep (vals_rep rd1 h2) ix, hp ds (by rw [vals_length h2]; exact hn _ _ _ _ h1), e, fun v w' am x' rd fr => ?_⟩⟩
        · rw [(vals_rep rd1 h2).length, vals_length h2]; exact hn _ _ _ _ h1
        · obtain ⟨ok', x2, rd2⟩ := call_back ok1 am x' rd fr
          exact kk v w' ok' (x1.trans x2) rd2 (fr.back x1)
  · rw [hks]
    exact run_fnN (vs := []) F hr hb pass0 I2 .nil rz rfl l2 q2
end
end Vx


set_option Elab.async false
set_option linter.all false
set_option maxRecDepth 100000
/-! Vk: comprehensions over trees. -/
namespace Vx
open PySem PySem.Spec L2

def wipeS (sl : Sls) : List Nat → Sls
  | [] => sl
  | v :: vs => (wipeS sl vs).set v .un
def noOwn (sl : Sls) (vs : List Nat) : Bool := vs.all fun i => match sl[i]? with | some (.own _) => false | _ => true
section
variable {K : PySem.W.Frag} {w w' : Wd} {sl sl2 : Sls} {st st2 : Amb} {σ σ2 : L2.St}
theorem wipeS_length (sl : Sls) : ∀ vs : List Nat, (wipeS sl vs).length = sl.length
  | [] => rfl
  | v :: vs => by unfold wipeS; rw [List.length_set, wipeS_length sl vs]
theorem wipeS_out {i : Nat} : ∀ {vs : List Nat}, i ∉ vs → (wipeS sl vs)[i]? = sl[i]?
  | [], _ => rfl
  | v :: vs, h => by
    have h1 : v ≠ i := fun z => h (by rw [z]; exact List.mem_cons_self)
    have h2 : i ∉ vs := fun z => h (List.mem_cons_of_mem _ z)
    unfold wipeS
    rw [List.getElem?_set_ne h1, wipeS_out h2]
theorem wipe_in {i : Nat} : ∀ {vs : List Nat}, i ∈ vs → (wipe σ vs)[i]? = if i < σ.length then some none else none
  | [], h => by cases h
  | v :: vs, h => by
    unfold wipe
    by_cases e : v = i
    · subst e
      rw [List.getElem?_set]
      simp [wipe_length]
    · rw [List.getElem?_set_ne e]
      exact wipe_in ((List.mem_cons.mp h).resolve_left (Ne.symm e))
theorem noOwn_out (h : noOwn sl vs = true) {i : Nat} {ds : List Vx.D} (e : sl[i]? = some (.own ds)) : i ∉ vs := fun m => by
  unfold noOwn at h
  rw [List.all_eq_true] at h
  have := h i m
  rw [e] at this
  cases this
theorem Ok.setUn (ok : Ok K w sl st σ) (i : Nat) : Ok K w (sl.set i .un) st (σ.set i none) := by
  have key : ∀ {j : Nat} {x : Sl}, x ≠ .un → (sl.set i .un)[j]? = some x → i ≠ j ∧ sl[j]? = some x := fun {j x} hx h => by
    rw [List.getElem?_set] at h
    split at h
    · split at h
      · cases h; exact absurd rfl hx
      · cases h
    · rename_i z; exact ⟨z, h⟩
  refine ⟨ok.amb, by rw [List.length_set, List.length_set]; exact ok.len, fun j d h => ?_, fun j ds h => ?_, fun j k ds es a h1 h2 e1 e2 => ?_⟩
  · obtain ⟨n, h⟩ := key (by simp) h
    obtain ⟨v, e, r⟩ := ok.pub j d h
    exact ⟨v, by rw [List.getElem?_set_ne n]; exact e, r⟩
  · obtain ⟨n, h⟩ := key (by simp) h
    obtain ⟨a, vs, e1, e2⟩ := ok.own j ds h
    exact ⟨a, vs, by rw [List.getElem?_set_ne n]; exact e1, e2⟩
  · obtain ⟨n1, h1⟩ := key (by simp) h1
    obtain ⟨n2, h2⟩ := key (by simp) h2
    rw [List.getElem?_set_ne n1] at e1
    rw [List.getElem?_set_ne n2] at e2
    exact ok.dis j k ds es a h1 h2 e1 e2
theorem Ok.wipe (ok : Ok K w sl st σ) : ∀ vs : List Nat, Ok K w (wipeS sl vs) st (L2.wipe σ vs)
  | [] => ok
  | v :: vs => (Ok.wipe ok vs).setUn v
theorem foot_wipe {vs : List Nat} (hn : noOwn sl vs = true) {al : List Addr} {a : Addr} (h : Foot al (wipeS sl vs) (L2.wipe σ vs) a) : Foot al sl σ a := by
  rcases h with h | ⟨i, ds, h1, h2⟩
  · exact .inl h
  · by_cases m : i ∈ vs
    · rw [wipe_in m] at h2
      split at h2 <;> cases h2
    · rw [wipeS_out m] at h1
      rw [wipe_out m] at h2
      exact .inr ⟨i, ds, h1, h2⟩
theorem unwipe {F : Addr → Prop} (ok : Ok K w sl st σ) (hF : ∀ a, F a → FootW w sl σ a) (x : Ext w F w' (FootW w' sl2 σ2)) (ok2 : Ok K w' sl2 st2 σ2) (ho : ∀ (i : Nat) (ds : List Vx.D), sl[i]? = some (.own ds) → sl2[i]? = some (.own ds) ∧ σ2[i]? = σ[i]?) :
    Ok K w' sl st2 σ ∧ Ext w (FootW w sl σ) w' (FootW w' sl σ) := by
  refine ⟨⟨ok2.amb, ok.len, fun i d h => ?_, fun i ds h => ?_, ok.dis⟩, ⟨fun a o e n => x.keep a o e fun f => n (hF a f), x.sS, fun a s => (x.sN a s).imp id (Or.imp id (hF a)), x.al, x.dom, fun a f => ?_⟩⟩
  · obtain ⟨v, e, r⟩ := ok.pub i d h
    exact ⟨v, e, x.rep (fun a f => ok.foot (hF a f)) r⟩
  · obtain ⟨h1, h2⟩ := ho i ds h
    obtain ⟨a, vs, e1, e2⟩ := ok2.own i ds h1
    exact ⟨a, vs, by rw [← h2]; exact e1, e2⟩
  · rcases f with f | ⟨i, ds, h1, h2⟩
    · exact (x.fo a (.inl f)).imp (hF a) id
    · exact .inl (.inr ⟨i, ds, h1, h2⟩)
theorem putN_out : ∀ {is : List Nat} {ds : List Vx.D} {sl sl' : Sls}, putN is ds sl = some sl' → ∀ j, j ∉ is → sl'[j]? = sl[j]?
  | [], [], sl, sl', e, j, h => by simp only [putN, Option.some.injEq] at e; rw [e]
  | i :: is, d :: ds, sl, sl', e, j, h => by
    simp only [putN] at e
    split at e
    · rw [putN_out e j fun z => h (List.mem_cons_of_mem _ z), List.getElem?_set_ne fun z => h (by rw [z]; exact List.mem_cons_self)]
    · cases e
  | [], d :: ds, _, _, e, _, _ => by simp [putN] at e
  | i :: is, [], _, _, e, _, _ => by simp [putN] at e
theorem put_out {t : Tg} {d : Vx.D} {sl sl' : Sls} (e : put t d sl = some sl') : ∀ j, j ∉ t.ix → sl'[j]? = sl[j]? := fun j h => by
  cases t with
  | name i =>
    simp only [put] at e
    split at e
    · cases e
      rw [List.getElem?_set_ne fun z => h (by rw [z]; exact List.mem_cons_self)]
    · cases e
  | names is =>
    simp only [put] at e
    cases d <;> simp only at e <;> first | (cases e; done) | exact putN_out e j h
theorem kept_wipe {is vs : List Nat} (hs : ∀ i ∈ is, i ∈ vs) (k : Kept is (L2.wipe σ vs) σ2) : L2.wipe σ2 vs = L2.wipe σ vs := by
  have hl : σ2.length = σ.length := by rw [k.1, L2.wipe_length]
  apply List.ext_getElem?
  intro j
  by_cases m : j ∈ vs
  · rw [wipe_in m, wipe_in m, hl]
  · rw [wipe_out m, k.2 j fun z => m (hs j z)]
theorem Ext.updNew {F F' : Addr → Prop} {p : Addr} {o u : HO} (x : Ext w F w' F') (hp : w.H p = none) (hu : w'.H p = some u) : Ext w F (w'.to (upd w'.H p o)) F' :=
  ⟨fun a b e n => by
    show upd w'.H p o a = some b
    rw [upd_ne fun z => by rw [z, hp] at e; cases e]
    exact x.keep a b e n, x.sS, x.sN, x.al, fun a h => x.dom a (upd_dom hu a h), x.fo⟩
end

/-- a value that may be kept -/
def evD (f : EvF) (sl : Sls) (st : Amb) : Option (Vx.D × Amb) := match ePub f sl st with
  | some (.val d, st') => some (d, st')
  | _ => none
theorem evD_read {K : PySem.W.Frag} {f : EvF} {al : List Addr} {S : Addr → Prop} {H : Hp} {sl : Sls} {σ : L2.St} {st st' : Amb} {d : Vx.D} {Q : VK} (ok : Ok K ⟨al, S, H⟩ sl st σ) (e : evD f sl st = some (d, st'))
    (k : ∀ v w', Ok K w' sl st' σ → Ext ⟨al, S, H⟩ (Foot al sl σ) w' (FootW w' sl σ) → Rep K w' v d → Q v w'.H) : tV K f σ H Q := by
  unfold evD at e
  split at e
  · rename_i d2 st2 h
    cases e
    exact ePub_read ⟨al, S, sl, st, _, _, ok, h, fun v w' ok' x' rd _ => k v w' ok' x' rd⟩
  · cases e
def tYesB : EvB := fun _ st => some (true, st)
abbrev VTs (X : Cx) (ifs : List Expr) (f : EvB) : Prop := PTs X ifs (tVB X.K f)
theorem vts_nil {X : Cx} : VTs X [] tYesB := ⟨fun pins s σ H Q I h => pts_nil.run pins s σ H Q I (by
  obtain ⟨al, S, sl, st, r, st', ok, e, k⟩ := h
  cases e
  exact k ⟨al, S, H⟩ ok Ext.refl)⟩
theorem vts_one {X : Cx} {c : Expr} {f : EvB} (h : VT X c f) : VTs X [c] f := pts_one h
/-- the turns of [elt for t in .. if tb] -/
def lcL (t : Tg) (tb : EvB) (f : EvF) (sl : Sls) : List Vx.D → Amb → Option (List Vx.D × Amb)
  | [], st => some ([], st)
  | d :: l, st => (put t d sl).bind fun sl1 => (tb sl1 st).bind fun p => if p.1 = true then (evD f sl1 p.2).bind fun y => (lcL t tb f sl l y.2).map fun q => (y.1 :: q.1, q.2) else lcL t tb f sl l p.2
def eLc (fi : EvI) (t : Tg) (tb : EvB) (f : EvF) (vs : List Nat) : EvF := fun sl st => if noOwn sl vs = true then (fi sl st).bind fun p => (lcL t tb f (wipeS sl vs) p.1 p.2).bind fun q => if q.1.length ≤ line then some (.prv q.1, q.2) else none else none
section
variable {K : PySem.W.Frag} {fi : EvI} {t : Tg} {tb : EvB} {f : EvF} {vs : List Nat}
theorem lc_read (ht : ∀ i ∈ t.ix, i ∈ vs) {σ : L2.St} {H : Hp} {Q : VK} (h : tV K (eLc fi t tb f vs) σ H Q) : tLc (tVI K fi) (gT K t) (tVB K tb) (tV K f) vs σ H Q := by
  obtain ⟨al, S, sl, st, r, st', ok, e, k⟩ := h
  unfold eLc at e
  split at e
  case isFalse => cases e
  rename_i hno
  cases h1 : fi sl st with
  | none => rw [h1] at e; cases e
  | some p =>
    obtain ⟨l, st1⟩ := p
    rw [h1] at e
    simp only [Option.bind_some] at e
    cases h2 : lcL t tb f (wipeS sl vs) l st1 with
    | none => rw [h2] at e; cases e
    | some q =>
      obtain ⟨res, st2⟩ := q
      rw [h2] at e
      simp only [Option.bind_some] at e
      split at e
      case isFalse => cases e
      rename_i hlen
      cases e
      refine ⟨al, S, sl, st, l, st1, ok, h1, fun J w1 ok1 x1 it D hD => ?_⟩
      have it := it (FootW w1 sl σ) fun a f => ⟨ok1.foot f, .inl f⟩
      have k1 := fun v w' (o : Ok K w' sl st' σ) (x : Ext w1 (FootW w1 sl σ) w' (FootW w' sl σ)) rd fr => k v w' o (x1.trans x) rd (Frs.back fr x1)
      refine ⟨fun i m H => m = l.length - i ∧ i ≤ l.length ∧ ∃ w st acc rest, w.H = H ∧ Ok K w sl st σ ∧ Ext w1 (FootW w1 sl σ) w (FootW w sl σ) ∧ RdR K w sl σ (.ref D) (.prv acc) ∧ acc ++ rest = res ∧ lcL t tb f (wipeS sl vs) (l.drop i) st = some (rest, st'),
        ⟨l.length, by simp, Nat.zero_le _, ⟨w1.al, w1.S, upd w1.H D (.lst [])⟩, st1, [], res, rfl, ok1.new hD, ext_new hD, prv_new ok1 hD .nil, rfl, by simpa using h2⟩, ?_⟩
      rintro i m H ⟨rfl, hi, w, sta, acc, rest, rfl, oka, xa, rda, hr, ef⟩
      obtain ⟨i1, i2⟩ := it w _ xa i
      by_cases hlt : i < l.length
      · obtain ⟨g1, g2⟩ := i1 l[i] (List.getElem?_eq_getElem hlt)
        have hd : l.drop i = l[i] :: l.drop (i + 1) := List.drop_eq_getElem_cons hlt
        rw [hd, lcL] at ef
        refine .inr ⟨g1, fun H' => ∃ w st acc rest, w.H = H' ∧ Ok K w sl st σ ∧ Ext w1 (FootW w1 sl σ) w (FootW w sl σ) ∧ RdR K w sl σ (.ref D) (.prv acc) ∧ acc ++ rest = res ∧ lcL t tb f (wipeS sl vs) (l.drop (i + 1)) st = some (rest, st'),
          fun H' z => ⟨l.length - (i + 1), by omega, rfl, hlt, z⟩, fun y H' hy => ?_⟩
        obtain ⟨y1, y2, y3⟩ := g2 y H' hy
        have okb : Ok K (w.to H') sl sta σ := oka.grow y1 y2
        have xb : Ext w (FootW w sl σ) (w.to H') (FootW (w.to H') sl σ) := Ext.grow y1 y2
        have rdb : RdR K (w.to H') sl σ (.ref D) (.prv acc) := rda.ext oka xb
        cases h3 : put t l[i] (wipeS sl vs) with
        | none => rw [h3] at ef; cases ef
        | some sl1 =>
          rw [h3] at ef
          simp only [Option.bind_some] at ef
          cases h4 : tb sl1 sta with
          | none => rw [h4] at ef; cases ef
          | some p =>
            obtain ⟨b, stb⟩ := p
            rw [h4] at ef
            simp only [Option.bind_some] at ef
            refine gT_read (w := w.to H') (okb.wipe vs) y3 h3 fun σ2 ok3 x3 kp => ⟨kept_wipe ht kp, w.al, w.S, sl1, sta, b, stb, ok3, h4, fun w4 ok4 x4 => ?_⟩
            have ho : ∀ (i : Nat) (ds : List Vx.D), sl[i]? = some (.own ds) → sl1[i]? = some (.own ds) ∧ σ2[i]? = σ[i]? := fun i ds h => by
              have m := noOwn_out hno h
              have m2 : i ∉ t.ix := fun z => m (ht i z)
              exact ⟨by rw [put_out h3 i m2, wipeS_out m]; exact h, by rw [kp.2 i m2, wipe_out m]⟩
            have x34 := x3.trans x4
            obtain ⟨ok5, x5⟩ := unwipe okb (fun a f => foot_wipe hno f) x34 ok4 ho
            have rd5 : RdR K w4 sl σ (.ref D) (.prv acc) := rdb.ext okb x5
            cases b with
            | false =>
              simp only [Bool.false_eq_true, if_false] at ef ⊢
              exact ⟨w4, stb, acc, rest, rfl, ok5, xa.trans (xb.trans x5), rd5, hr, ef⟩
            | true =>
              simp only [if_true] at ef ⊢
              cases h5 : evD f sl1 stb with
              | none => rw [h5] at ef; cases ef
              | some yy =>
                obtain ⟨dy, stc⟩ := yy
                rw [h5] at ef
                simp only [Option.bind_some] at ef
                cases h6 : lcL t tb f (wipeS sl vs) (l.drop (i + 1)) stc with
                | none => rw [h6] at ef; cases ef
                | some qq =>
                  obtain ⟨rest2, st3⟩ := qq
                  rw [h6] at ef
                  cases ef
                  refine evD_read ok4 h5 fun u w6 ok6 x6 ru => ?_
                  obtain ⟨ok7, x7⟩ := unwipe okb (fun a f => foot_wipe hno f) (x34.trans x6) ok6 ho
                  obtain ⟨a, vs', ea, e1, e2, e3, e4⟩ := rdb.ext okb x7
                  cases ea
                  refine ⟨vs', e1, ?_, w6.to (upd w6.H D (.lst (vs' ++ [u]))), stc, acc ++ [dy], rest2, rfl, ok7.prvW e1 e3 e4, ?_, ?_, by simpa using hr, h6⟩
                  · rw [e2.length, line_eq]
                    have := congrArg List.length hr
                    simp only [List.length_append, List.length_cons] at this
                    omega
                  · exact (xa.trans (xb.trans x7)).updNew hD e1
                  · have wr := wr_at (us := vs' ++ [u]) e1 e3
                    exact ⟨D, _, rfl, upd_same, wr.repL (e2.append (.cons ru .nil)), e3, e4⟩
      · have hn : i = l.length := by omega
        subst hn
        rw [List.drop_length, lcL] at ef
        cases ef
        rw [List.append_nil] at hr
        subst hr
        exact .inl ⟨i2 (Nat.le_refl _), k1 _ w oka xa rda fun a ea => by cases ea; exact hD⟩
end
section
variable {X : Cx} {elt tg iter : Expr} {ifs : List Expr} {scope : Scope} {own : List (Str × Nat)} {pos spos : Pos} {fi : EvI} {t : Tg} {tb : EvB} {f : EvF}
abbrev Inner (X : Cx) (scope : Scope) (p : Cx → Prop) : Prop := ∀ (s : Shared) (H : Hp) (C : Addr) (cl : List (Str × Addr)) (fp : List Addr), p (X.blk s H scope (compEnvC scope cl C X.env) fp)
theorem ve_lc (hc : X.calm = true) (hN : X.N.Nodup) (hi : VI X tg iter fi) (ok : BlkOk X.N X.env.scope scope own) (hg : Inner X scope fun Y => VG Y tg t) (ht : Inner X scope fun Y => VTs Y ifs tb) (he : Inner X scope fun Y => VE Y elt f)
    (hts : ∀ i ∈ t.ix, i ∈ own.map (·.2) := by decide) (hs : ∀ x, foldedSetIterable iter X.env x = pure x := by intro _; rfl) :
    VE X (.ListComp elt [⟨tg, iter, ifs, 0⟩] scope pos) (eLc fi t tb f (own.map (·.2))) :=
  PEimp (pe_lc hc hN hi ok hg ht he hs) fun σ H Q h => lc_read hts h
theorem vs_ownLc {i : Nat} {y : Str} {py : Pos} (hc : X.calm = true) (hN : X.N.Nodup) (hi : VI X tg iter fi) (ok : BlkOk X.N X.env.scope scope own) (hg : Inner X scope fun Y => VG Y tg t) (ht : Inner X scope fun Y => VTs Y ifs tb) (he : Inner X scope fun Y => VE Y elt f)
    (hy : X.N[i]? = some y := by rfl) (hyl : X.env.scope.names.lookup y = some .local := by rfl) (hsw : swapsWith (.ListComp elt [⟨tg, iter, ifs, 0⟩] scope pos) (some (.Name y py)) spos.line X.env = pure true := by rfl)
    (hts : ∀ i ∈ t.ix, i ∈ own.map (·.2) := by decide) (hs : ∀ x, foldedSetIterable iter X.env x = pure x := by intro _; rfl) :
    VS X (.Assign [.Name y py] (.ListComp elt [⟨tg, iter, ifs, 0⟩] scope pos) spos) (sOwn i (eLc fi t tb f (own.map (·.2)))) :=
  PSimp (ps_setLc hc hN hy hyl hsw hi ok hg ht he hs) fun D σ H h => own_read (fun σ H Q q => lc_read hts q) h
theorem vs_asgLc {i : Nat} {y : Str} {py : Pos} (hc : X.calm = true) (hN : X.N.Nodup) (hi : VI X tg iter fi) (ok : BlkOk X.N X.env.scope scope own) (hg : Inner X scope fun Y => VG Y tg t) (ht : Inner X scope fun Y => VTs Y ifs tb) (he : Inner X scope fun Y => VE Y elt f)
    (hy : X.N[i]? = some y := by rfl) (hyl : X.env.scope.names.lookup y = some .local := by rfl) (hsw : swapsWith (.ListComp elt [⟨tg, iter, ifs, 0⟩] scope pos) (some (.Name y py)) spos.line X.env = pure true := by rfl)
    (hts : ∀ i ∈ t.ix, i ∈ own.map (·.2) := by decide) (hs : ∀ x, foldedSetIterable iter X.env x = pure x := by intro _; rfl) :
    VS X (.Assign [.Name y py] (.ListComp elt [⟨tg, iter, ifs, 0⟩] scope pos) spos) (sAsg (.name i) (eLc fi t tb f (own.map (·.2)))) :=
  PSimp (ps_setLc hc hN hy hyl hsw hi ok hg ht he hs) fun D σ H h => asg_read (t := .name i) (fun σ H Q q => lc_read hts q) h
end
end Vx


set_option Elab.async false
set_option linter.all false
set_option maxRecDepth 100000
/-! Vm: comprehensions of two clauses. -/
namespace Vx
open PySem PySem.Spec L2
section
variable {K : PySem.W.Frag} {w w1 w' : Wd} {sl sl1 sl2 : Sls} {st st2 stb : Amb} {σ σ2 : L2.St} {fi : EvI} {t : Tg} {tb : EvB} {f : EvF} {vs : List Nat}
theorem foot_up {al : List Addr} (ho : ∀ (i : Nat) (ds : List Vx.D), sl[i]? = some (.own ds) → sl2[i]? = some (.own ds) ∧ σ2[i]? = σ[i]?) {a : Addr} (h : Foot al sl σ a) : Foot al sl2 σ2 a := by
  rcases h with h | ⟨i, ds, h1, h2⟩
  · exact .inl h
  · obtain ⟨g1, g2⟩ := ho i ds h1
    exact .inr ⟨i, ds, g1, by rw [g2]; exact h2⟩
theorem put_ho {d : Vx.D} (hno : noOwn sl vs = true) (ht : ∀ i ∈ t.ix, i ∈ vs) (h3 : put t d (wipeS sl vs) = some sl1) (kp : Kept t.ix (L2.wipe σ vs) σ2) : ∀ (i : Nat) (ds : List Vx.D), sl[i]? = some (.own ds) → sl1[i]? = some (.own ds) ∧ σ2[i]? = σ[i]? := fun i ds h => by
  have m := noOwn_out hno h
  have m2 : i ∉ t.ix := fun z => m (ht i z)
  exact ⟨by rw [put_out h3 i m2, wipeS_out m]; exact h, by rw [kp.2 i m2, wipe_out m]⟩
theorem Ext.updF {F F' : Addr → Prop} {p : Addr} {o u : HO} (x : Ext w F w' F') (hp : w.H p = none ∨ F p) (hu : w'.H p = some u) : Ext w F (w'.to (upd w'.H p o)) F' :=
  ⟨fun a b e n => by
    show upd w'.H p o a = some b
    rw [upd_ne fun z => by
      rcases hp with h | h
      · rw [z, h] at e; cases e
      · exact n (z ▸ h)]
    exact x.keep a b e n, x.sS, x.sN, x.al, fun a h => x.dom a (upd_dom hu a h), x.fo⟩
theorem lc_turn (ht : ∀ i ∈ t.ix, i ∈ vs) (hno : noOwn sl vs = true) (ok : Ok K w sl st σ) {y : V} {d : Vx.D} (r : Rep K w y d) {D : Addr} {acc : List Vx.D} (rd : RdR K w sl σ (.ref D) (.prv acc))
    (h3 : put t d (wipeS sl vs) = some sl1) {b : Bool} (h4 : tb sl1 st = some (b, stb)) {Nx : Hp → Prop} (kf : b = false → ∀ w', Ok K w' sl stb σ → (∀ (w1 : Wd) (F1 : Addr → Prop), w1.H D = none ∨ F1 D → Ext w1 F1 w (FootW w sl σ) → Ext w1 F1 w' (FootW w' sl σ)) → RdR K w' sl σ (.ref D) (.prv acc) → Nx w'.H)
    (kt : b = true → ∃ dy stc, evD f sl1 stb = some (dy, stc) ∧ acc.length < line ∧ ∀ w', Ok K w' sl stc σ → (∀ (w1 : Wd) (F1 : Addr → Prop), w1.H D = none ∨ F1 D → Ext w1 F1 w (FootW w sl σ) → Ext w1 F1 w' (FootW w' sl σ)) → RdR K w' sl σ (.ref D) (.prv (acc ++ [dy])) → Nx w'.H) :
    gT K t y (L2.wipe σ vs) w.H fun σ2 H2 => L2.wipe σ2 vs = L2.wipe σ vs ∧ tVB K tb σ2 H2 fun b H3 => if b = true then tV K f σ2 H3 fun y H4 => ∃ acc, H4 D = some (.lst acc) ∧ acc.length < sizeLine ∧ Nx (upd H4 D (.lst (acc ++ [y]))) else Nx H3 := by
  refine gT_read (ok.wipe vs) r h3 fun σ2 ok3 x3 kp => ⟨kept_wipe ht kp, w.al, w.S, sl1, st, b, stb, ok3, h4, fun w4 ok4 x4 => ?_⟩
  have ho := put_ho (σ := σ) hno ht h3 kp
  have x34 := x3.trans x4
  obtain ⟨ok5, x5⟩ := unwipe ok (fun a f => foot_wipe hno f) x34 ok4 ho
  have rd5 : RdR K w4 sl σ (.ref D) (.prv acc) := rd.ext ok x5
  cases b with
  | false =>
    simp only [Bool.false_eq_true, if_false]
    exact kf rfl w4 ok5 (fun w1 F1 _ x1 => x1.trans x5) rd5
  | true =>
    simp only [if_true]
    obtain ⟨dy, stc, h5, hl, k⟩ := kt rfl
    refine evD_read ok4 h5 fun u w6 ok6 x6 ru => ?_
    obtain ⟨ok7, x7⟩ := unwipe ok (fun a f => foot_wipe hno f) (x34.trans x6) ok6 ho
    obtain ⟨a, vs', ea, e1, e2, e3, e4⟩ := rd.ext ok x7
    cases ea
    refine ⟨vs', e1, by rw [e2.length, line_eq]; exact hl, k (w6.to (upd w6.H D (.lst (vs' ++ [u])))) (ok7.prvW e1 e3 e4) (fun w1 F1 hD x1 => (x1.trans x7).updF hD e1) ?_⟩
    have wr := wr_at (us := vs' ++ [u]) e1 e3
    exact ⟨D, _, rfl, upd_same, wr.repL (e2.append (.cons ru .nil)), e3, e4⟩
end
def lcL2 (t : Tg) (tb : EvB) (fi1 : EvI) (t1 : Tg) (tb1 : EvB) (f : EvF) (vs1 : List Nat) (sl : Sls) : List Vx.D → Amb → Option (List Vx.D × Amb)
  | [], st => some ([], st)
  | d :: l, st => (put t d sl).bind fun sl1 => (tb sl1 st).bind fun p => if p.1 = true then (if noOwn sl1 vs1 = true then (fi1 sl1 p.2).bind fun a => (lcL t1 tb1 f (wipeS sl1 vs1) a.1 a.2).bind fun y => (lcL2 t tb fi1 t1 tb1 f vs1 sl l y.2).map fun q => (y.1 ++ q.1, q.2) else none)
    else lcL2 t tb fi1 t1 tb1 f vs1 sl l p.2
def eLc2 (fi : EvI) (t : Tg) (tb : EvB) (fi1 : EvI) (t1 : Tg) (tb1 : EvB) (f : EvF) (vs vs1 : List Nat) : EvF := fun sl st => if noOwn sl vs = true then (fi sl st).bind fun p => (lcL2 t tb fi1 t1 tb1 f vs1 (wipeS sl vs) p.1 p.2).bind fun q => if q.1.length ≤ line then some (.prv q.1, q.2) else none else none
section
variable {K : PySem.W.Frag} {fi fi1 : EvI} {t t1 : Tg} {tb tb1 : EvB} {f : EvF} {vs vs1 : List Nat}
theorem lc2_read (ht : ∀ i ∈ t.ix, i ∈ vs) (ht1 : ∀ i ∈ t1.ix, i ∈ vs1) {σ : L2.St} {H : Hp} {Q : L2.VK} (h : tV K (eLc2 fi t tb fi1 t1 tb1 f vs vs1) σ H Q) : tLc2 (tVI K fi) (gT K t) (tVB K tb) (tVI K fi1) (gT K t1) (tVB K tb1) (tV K f) vs vs1 σ H Q := by
  obtain ⟨al, S, sl, st, r, st', ok, e, k⟩ := h
  unfold eLc2 at e
  split at e
  case isFalse => cases e
  rename_i hno
  cases h1 : fi sl st with
  | none => rw [h1] at e; cases e
  | some p =>
    obtain ⟨l, st1⟩ := p
    rw [h1] at e
    simp only [Option.bind_some] at e
    cases h2 : lcL2 t tb fi1 t1 tb1 f vs1 (wipeS sl vs) l st1 with
    | none => rw [h2] at e; cases e
    | some q =>
      obtain ⟨res, st2⟩ := q
      rw [h2] at e
      simp only [Option.bind_some] at e
      split at e
      case isFalse => cases e
      rename_i hlen
      cases e
      refine ⟨al, S, sl, st, l, st1, ok, h1, fun J w1 ok1 x1 it D hD => ?_⟩
      have it := it (FootW w1 sl σ) fun a f => ⟨ok1.foot f, .inl f⟩
      have k1 := fun v w' (o : Ok K w' sl st' σ) (x : Ext w1 (FootW w1 sl σ) w' (FootW w' sl σ)) rd fr => k v w' o (x1.trans x) rd (Frs.back fr x1)
      refine ⟨fun i m H => m = l.length - i ∧ i ≤ l.length ∧ ∃ w st acc rest, w.H = H ∧ Ok K w sl st σ ∧ Ext w1 (FootW w1 sl σ) w (FootW w sl σ) ∧ RdR K w sl σ (.ref D) (.prv acc) ∧ acc ++ rest = res ∧ lcL2 t tb fi1 t1 tb1 f vs1 (wipeS sl vs) (l.drop i) st = some (rest, st'),
        ⟨l.length, by simp, Nat.zero_le _, ⟨w1.al, w1.S, upd w1.H D (.lst [])⟩, st1, [], res, rfl, ok1.new hD, ext_new hD, prv_new ok1 hD .nil, rfl, by simpa using h2⟩, ?_⟩
      rintro i m H ⟨rfl, hi, w, sta, acc, rest, rfl, oka, xa, rda, hr, ef⟩
      obtain ⟨i1, i2⟩ := it w _ xa i
      by_cases hlt : i < l.length
      · obtain ⟨g1, g2⟩ := i1 l[i] (List.getElem?_eq_getElem hlt)
        have hd : l.drop i = l[i] :: l.drop (i + 1) := List.drop_eq_getElem_cons hlt
        rw [hd, lcL2] at ef
        refine .inr ⟨g1, fun H' => ∃ w st acc rest, w.H = H' ∧ Ok K w sl st σ ∧ Ext w1 (FootW w1 sl σ) w (FootW w sl σ) ∧ RdR K w sl σ (.ref D) (.prv acc) ∧ acc ++ rest = res ∧ lcL2 t tb fi1 t1 tb1 f vs1 (wipeS sl vs) (l.drop (i + 1)) st = some (rest, st'),
          fun H' z => ⟨l.length - (i + 1), by omega, rfl, hlt, z⟩, fun y H' hy => ?_⟩
        obtain ⟨y1, y2, y3⟩ := g2 y H' hy
        have okb : Ok K (w.to H') sl sta σ := oka.grow y1 y2
        have xb : Ext w (FootW w sl σ) (w.to H') (FootW (w.to H') sl σ) := Ext.grow y1 y2
        have rdb : RdR K (w.to H') sl σ (.ref D) (.prv acc) := rda.ext oka xb
        cases h3 : put t l[i] (wipeS sl vs) with
        | none => rw [h3] at ef; cases ef
        | some sl1 =>
          rw [h3] at ef
          simp only [Option.bind_some] at ef
          cases h4 : tb sl1 sta with
          | none => rw [h4] at ef; cases ef
          | some p =>
            obtain ⟨b, stb⟩ := p
            rw [h4] at ef
            simp only [Option.bind_some] at ef
            refine gT_read (w := w.to H') (okb.wipe vs) y3 h3 fun σ2 ok3 x3 kp => ⟨kept_wipe ht kp, w.al, w.S, sl1, sta, b, stb, ok3, h4, fun w4 ok4 x4 => ?_⟩
            have ho := put_ho (σ := σ) hno ht h3 kp
            have x34 := x3.trans x4
            obtain ⟨ok5, x5⟩ := unwipe okb (fun a f => foot_wipe hno f) x34 ok4 ho
            have rd5 : RdR K w4 sl σ (.ref D) (.prv acc) := rdb.ext okb x5
            cases b with
            | false =>
              simp only [Bool.false_eq_true, if_false] at ef ⊢
              exact ⟨w4, stb, acc, rest, rfl, ok5, xa.trans (xb.trans x5), rd5, hr, ef⟩
            | true =>
              simp only [if_true] at ef ⊢
              split at ef
              case isFalse => cases ef
              rename_i hno1
              cases h5 : fi1 sl1 stb with
              | none => rw [h5] at ef; cases ef
              | some a =>
                obtain ⟨l1, stc⟩ := a
                rw [h5] at ef
                simp only [Option.bind_some] at ef
                cases h6 : lcL t1 tb1 f (wipeS sl1 vs1) l1 stc with
                | none => rw [h6] at ef; cases ef
                | some yy =>
                  obtain ⟨res1, std⟩ := yy
                  rw [h6] at ef
                  simp only [Option.bind_some] at ef
                  cases h7 : lcL2 t tb fi1 t1 tb1 f vs1 (wipeS sl vs) (l.drop (i + 1)) std with
                  | none => rw [h7] at ef; cases ef
                  | some qq =>
                    obtain ⟨rest2, st3⟩ := qq
                    rw [h7] at ef
                    cases ef
                    -- the second source
                    have xw4 : Ext w1 (FootW w1 sl σ) w4 (FootW w4 sl1 σ2) := (xa.trans xb).trans ((Ext.foot _ _ fun a f => foot_wipe hno f).trans x34)
                    have rdi : RdR K w4 sl1 σ2 (.ref D) (.prv acc) := by
                      obtain ⟨a, us, ea, e1, e2, e3, e4⟩ := rd5
                      refine ⟨a, us, ea, e1, e2, e3, fun q => ?_⟩
                      obtain ⟨c, us', ec, c1, c2, c3, c4⟩ := rdb
                      cases ea; cases ec
                      rcases x34.fo _ q with q | q
                      · exact c4 (foot_wipe hno q)
                      · have : (w.to H').H D = none := q
                        rw [c1] at this; cases this
                    refine ⟨w4.al, w4.S, sl1, stb, l1, stc, ok4, h5, fun J1 w8 ok8 x8 it1 => ?_⟩
                    have rd8 := rdi.ext ok4 x8
                    obtain ⟨cD, us8, ecD, hD8, _, hS8, hF8⟩ := rd8
                    cases ecD
                    have hD4 : w4.H D ≠ none := by
                      obtain ⟨c, us, ec, c1, _⟩ := rdi
                      cases ec
                      rw [c1]; simp
                    have it1 := it1 (fun a => FootW w8 sl1 σ2 a ∨ a = D) fun a f => by
                      rcases f with f | rfl
                      · exact ⟨ok8.foot f, .inl f⟩
                      · exact ⟨⟨hS8, us8, hD8⟩, .inr hD4⟩
                    have hl2 : (acc ++ res1).length ≤ line := by
                      have := congrArg List.length hr
                      simp only [List.length_append] at this ⊢
                      omega
                    refine ⟨fun j k H => k = l1.length - j ∧ j ≤ l1.length ∧ ∃ wi st acc1 rest1, wi.H = H ∧ Ok K wi sl1 st σ2 ∧ Ext w1 (FootW w1 sl σ) wi (FootW wi sl1 σ2) ∧ Ext w8 (fun a => FootW w8 sl1 σ2 a ∨ a = D) wi (FootW wi sl1 σ2) ∧ RdR K wi sl1 σ2 (.ref D) (.prv acc1) ∧ acc1 ++ rest1 = acc ++ res1 ∧ lcL t1 tb1 f (wipeS sl1 vs1) (l1.drop j) st = some (rest1, std),
                      ⟨l1.length, by simp, Nat.zero_le _, w8, stc, acc, res1, rfl, ok8, xw4.trans x8, Ext.foot _ _ fun a f => .inl f, rdi.ext ok4 x8, rfl, by simpa using h6⟩, ?_⟩
                    rintro j k H ⟨rfl, hj, wi, sti, acc1, rest1, rfl, oki, xi, x8i, rdj, hr1, ei⟩
                    obtain ⟨j1, j2⟩ := it1 wi _ x8i j
                    by_cases hlj : j < l1.length
                    · obtain ⟨f1, f2⟩ := j1 l1[j] (List.getElem?_eq_getElem hlj)
                      have hdj : l1.drop j = l1[j] :: l1.drop (j + 1) := List.drop_eq_getElem_cons hlj
                      rw [hdj, lcL] at ei
                      refine .inr ⟨f1, fun H' => ∃ wi st acc1 rest1, wi.H = H' ∧ Ok K wi sl1 st σ2 ∧ Ext w1 (FootW w1 sl σ) wi (FootW wi sl1 σ2) ∧ Ext w8 (fun a => FootW w8 sl1 σ2 a ∨ a = D) wi (FootW wi sl1 σ2) ∧ RdR K wi sl1 σ2 (.ref D) (.prv acc1) ∧ acc1 ++ rest1 = acc ++ res1 ∧ lcL t1 tb1 f (wipeS sl1 vs1) (l1.drop (j + 1)) st = some (rest1, std),
                        fun H' z => ⟨l1.length - (j + 1), by omega, rfl, hlj, z⟩, fun z H' hz => ?_⟩
                      obtain ⟨z1, z2, z3⟩ := f2 z H' hz
                      have okz : Ok K (wi.to H') sl1 sti σ2 := oki.grow z1 z2
                      have xz : Ext wi (FootW wi sl1 σ2) (wi.to H') (FootW (wi.to H') sl1 σ2) := Ext.grow z1 z2
                      have rdz : RdR K (wi.to H') sl1 σ2 (.ref D) (.prv acc1) := rdj.ext oki xz
                      cases g3 : put t1 l1[j] (wipeS sl1 vs1) with
                      | none => rw [g3] at ei; cases ei
                      | some sl2 =>
                        rw [g3] at ei
                        simp only [Option.bind_some] at ei
                        cases g4 : tb1 sl2 sti with
                        | none => rw [g4] at ei; cases ei
                        | some p =>
                          obtain ⟨b1, ste⟩ := p
                          rw [g4] at ei
                          simp only [Option.bind_some] at ei
                          refine lc_turn ht1 hno1 okz z3 rdz g3 g4 (fun eb w' ok' x' rd' => ?_) fun eb => ?_
                          · subst eb
                            simp only [Bool.false_eq_true, if_false] at ei
                            exact ⟨w', ste, acc1, rest1, rfl, ok', x' _ _ (.inl hD) (xi.trans xz), x' _ _ (.inr (.inr rfl)) (x8i.trans xz), rd', hr1, ei⟩
                          · subst eb
                            simp only [if_true] at ei
                            cases g5 : evD f sl2 ste with
                            | none => rw [g5] at ei; cases ei
                            | some dd =>
                              obtain ⟨dy, stf⟩ := dd
                              rw [g5] at ei
                              simp only [Option.bind_some] at ei
                              cases g6 : lcL t1 tb1 f (wipeS sl1 vs1) (l1.drop (j + 1)) stf with
                              | none => rw [g6] at ei; cases ei
                              | some qi =>
                                obtain ⟨rest3, st3⟩ := qi
                                rw [g6] at ei
                                cases ei
                                refine ⟨dy, stf, rfl, ?_, fun w' ok' x' rd' => ⟨w', stf, acc1 ++ [dy], rest3, rfl, ok', x' _ _ (.inl hD) (xi.trans xz), x' _ _ (.inr (.inr rfl)) (x8i.trans xz), rd', by simpa using hr1, g6⟩⟩
                                have := congrArg List.length hr1
                                simp only [List.length_append, List.length_cons] at this hl2
                                omega
                    · have hn : j = l1.length := by omega
                      subst hn
                      rw [List.drop_length, lcL] at ei
                      cases ei
                      rw [List.append_nil] at hr1
                      subst hr1
                      obtain ⟨okE, xE⟩ := unwipe ok1 (fun a f => f) xi oki ho
                      refine .inl ⟨j2 (Nat.le_refl _), wi, std, acc ++ res1, rest2, rfl, okE, xE, ?_, by rw [← hr, List.append_assoc], h7⟩
                      obtain ⟨a, us, ea, e1, e2, e3, e4⟩ := rdj
                      exact ⟨a, us, ea, e1, e2, e3, fun q => e4 (foot_up ho q)⟩
      · have hn : i = l.length := by omega
        subst hn
        rw [List.drop_length, lcL2] at ef
        cases ef
        rw [List.append_nil] at hr
        subst hr
        exact .inl ⟨i2 (Nat.le_refl _), k1 _ w oka xa rda fun a ea => by cases ea; exact hD⟩
end
section
variable {X : Cx} {elt tg iter tg1 iter1 : Expr} {ifs ifs1 : List Expr} {scope : Scope} {own : List (Str × Nat)} {vs1 : List Nat} {pos spos : Pos} {fi fi1 : EvI} {t t1 : Tg} {tb tb1 : EvB} {f : EvF}
theorem ve_lc2 (vs1 : List Nat) (hc : X.calm = true) (hN : X.N.Nodup) (hi : VI X tg iter fi) (ok : BlkOk X.N X.env.scope scope own) (hg : Inner X scope fun Y => VG Y tg t) (ht : Inner X scope fun Y => VTs Y ifs tb) (hi1 : Inner X scope fun Y => VI Y tg1 iter1 fi1) (hg1 : Inner X scope fun Y => VG Y tg1 t1) (ht1 : Inner X scope fun Y => VTs Y ifs1 tb1) (he : Inner X scope fun Y => VE Y elt f)
    (hv : ∀ i ∈ vs1, i ∈ own.map (·.2) := by decide) (hts : ∀ i ∈ t.ix, i ∈ own.map (·.2) := by decide) (hts1 : ∀ i ∈ t1.ix, i ∈ vs1 := by decide) (hs : ∀ x, foldedSetIterable iter X.env x = pure x := by intro _; rfl) (hs1 : ∀ env x, foldedSetIterable iter1 env x = pure x := by intro _ _; rfl) :
    VE X (.ListComp elt [⟨tg, iter, ifs, 0⟩, ⟨tg1, iter1, ifs1, 0⟩] scope pos) (eLc2 fi t tb fi1 t1 tb1 f (own.map (·.2)) vs1) :=
  PEimp (pe_lc2 hc hN hi ok hv hg ht hi1 hg1 ht1 he hs hs1) fun σ H Q h => lc2_read hts hts1 h
end
end Vx


set_option Elab.async false
set_option linter.all false
set_option maxRecDepth 100000
/-! Vn: a, b = x, y by a tuple; small helps for the defs. -/
namespace Vx
open PySem PySem.Spec L2
section
variable {X : Cx} {a b tx ty : Expr} {FA : EvA} {pos : Pos}
/-- a, b = x, y where a name is not a plain local: the pair is a tuple for a moment -/
theorem vs_par2 (i j : Nat) {kt k2 : Nat} {pt pt2 : Pos} (o1 o2 : Bool) (h12 : (o1 && o2) = false) (hc : X.calm = true) (ha : VA X [a, b] FA) (hx : VG X tx (.name i)) (hy : VG X ty (.name j))
    (hs1 : (assignEach [tx, ty] X.env).map (·.2) = assign tx X.env :: (assignEach [ty] X.env).map (·.2) := by rfl) (hs2 : (assignEach [ty] X.env).map (·.2) = assign ty X.env :: (assignEach [] X.env).map (·.2) := by rfl)
    (hn : (assignEach [tx, ty] X.env).length = 2 := by rfl) (hst : (assignEach [tx, ty] X.env).findIdx? (·.1) = none := by rfl)
    (hs : swapsWithSole [.Tuple [tx, ty] kt pt] (.Tuple [a, b] k2 pt2) pos.line X.env = pure false := by rfl) (hw : swappedStores [.Tuple [tx, ty] kt pt] (.Tuple [a, b] k2 pt2) X.env = pure none := by rfl)
    (h1 : (assignEach [.Tuple [tx, ty] kt pt] X.env).map (·.2) = [assign (.Tuple [tx, ty] kt pt) X.env] := by rfl) :
    VS X (.Assign [.Tuple [tx, ty] kt pt] (.Tuple [a, b] k2 pt2) pos) (sPar i j o1 o2 FA) := by
  refine PSimp (ps_asg (pe_tup ha) (pg_tup hc (pgs_cons hx (pgs_cons hy pgs_nil hs2) hs1) hn hst) hs hw h1) fun D σ H h => ?_
  obtain ⟨al, S, sl, st, o, ok, e, k⟩ := h
  unfold sPar at e
  split at e
  · rename_i r1 r2 st' h1
    cases h2 : putK i o1 r1 sl with
    | none => rw [h2] at e; cases e
    | some sl1 =>
      rw [h2] at e
      simp only [Option.bind_some] at e
      cases h3 : putK j o2 r2 sl1 with
      | none => rw [h3] at e; cases e
      | some sl2 =>
        rw [h3] at e
        cases e
        refine ⟨al, S, sl, st, _, _, ok, h1, fun vs w0 ok0 x0 rd0 fl0 => ?_⟩
        cases rd0 with
        | @cons v _ _ _ rdv0 rds =>
          cases rds with
          | @cons u _ _ _ rdu0 rds =>
            cases rds
            refine ⟨by rw [line_eq]; show 2 ≤ line; decide, fun p hp => ?_⟩
            have ok1 := ok0.new (o := .tup [v, u]) hp
            have xn : Ext w0 (FootW w0 sl σ) ⟨w0.al, w0.S, upd w0.H p (.tup [v, u])⟩ (FootW ⟨w0.al, w0.S, upd w0.H p (.tup [v, u])⟩ sl σ) := ext_new hp
            have x1 := x0.trans xn
            have rdv := rdv0.ext ok0 xn
            have rdu := rdu0.ext ok0 xn
            have frv := fl0 0 v r1 rfl rfl
            have fru := fl0 1 u r2 rfl rfl
            obtain ⟨ok2, x2⟩ := putK_read ok1 x1 rdv frv h2
            have rdu' : RdR X.K ⟨w0.al, w0.S, upd w0.H p (.tup [v, u])⟩ sl1 (σ.set i (some v)) u r2 := by
              cases r2 with
              | val d => exact rdu
              | bor l => unfold putK at h3; split at h3 <;> first | cases h3 | (rename_i h4; cases h4)
              | prv l =>
                obtain ⟨q, us, g1, g2, g3, g4, g5⟩ := rdu
                refine ⟨q, us, g1, g2, g3, g4, fun f => g5 ?_⟩
                cases o1 with
                | true =>
                  cases o2 with
                  | true => cases h12
                  | false => unfold putK at h3; cases h3
                | false =>
                  cases r1 with
                  | prv m => unfold putK at h2; cases h2
                  | bor m => unfold putK at h2; cases h2
                  | val d =>
                    unfold putK at h2
                    simp only at h2
                    split at h2
                    · cases h2; exact foot_set_pub f
                    · cases h2
            obtain ⟨ok3, x3⟩ := putK_read ok2 x2 rdu' fru h3
            exact ⟨p, [v, u], rfl, .inl (.inl upd_same), rfl, v, [u], rfl, u, [], rfl, rfl, k _ _ ok3 x3⟩
  · cases e
end
theorem hu64 {k : Nat} {A : Around} (r : Room k A) : A.units + 64 < cLine := by have := r.un; omega
theorem hu65 {k : Nat} {A : Around} (r : Room k A) : A.units + 65 < cLine := by have := r.un; omega
def cNeg : Amb → Vx.D → Option R := fun _ d => match d with | .int i => some (.val (.int (-i))) | _ => none
def eNeg (f : EvF) : EvF := e1 f cNeg
theorem ve_negN {X : Cx} {a : Expr} {f : EvF} {pos : Pos} (ha : VE X a f) : VE X (.UnaryOp .USub a pos) (eNeg f) := ve_neg ha
/-- turns of a while -/
def Fu : Nat := 1000000
/-- a def of the text: where it stands, what it means -/
structure Cal (P : Program) (w : World) (K : PySem.W.Frag) (mg : Str → Option Value) (base : Heap) (k : Nat) (x : Str) (stt : Stmt) (ps : List Str) (m : Mean) where
  f : Addr
  fd : FuncData
  F : Fun K x x stt f fd
  V : VFn P w K mg base k f fd ps m
  hm : mg x = some (.ref f)
  hk : PySem.W.keepIn K (.ref f) = true
  hb : Binds K fd ps []
section
variable {X : Cx} {k : Nat} {ps ks : List Str} {m : Mean} {x : Str} {stt : Stmt} {p pos : Pos} {e : Expr} {es : List Expr} {FA : EvA} {kws : List Keyword}
theorem ve_cal (C : Cal X.prog X.w X.K X.mg X.base k x stt ps m) (hr : Room k X.A) (hg : Gl X x) (ha : VA X (e :: es) FA) (hn : LenA FA ps.length)
    (hdb : (x == ("__debug__" : Str)) = false := by decide) (he : starEach (e :: es) X.env = (false, eval e X.env) :: starEach es X.env := by rfl) (hpl : (backTo pos (starEach es X.env)).any (·.1) = false := by rfl) :
    VE X (.Call (.Name x p) (e :: es) [] pos) (eCall m FA) := ve_call C.V hr hg C.hm C.hk C.hb ha hn hdb he hpl
theorem ve_calK (ix : List Nat) (C : Cal X.prog X.w X.K X.mg X.base k x stt ps m) (hr : Room k X.A) (hg : Gl X x) (hkw : VKw X kws FA) (hn : LenA FA ks.length) (hp : ∀ l : List Vx.D, l.length = ks.length → (pick ix l).length = ps.length)
    (h : ∀ (kV doc pm : Value) (an : Option Addr) (cdv ct : Value) (ws : List Value), ws.length = ks.length → bindArgs (PySem.W.fnOf x x (defArgs stt) (defBody stt) (defScope stt) .none kV doc pm an cdv ct) ⟨[], ks.zip ws⟩ = pure (ps.zip (pick ix ws)))
    (hall : (backToKw pos (keywordEach kws X.env)).all (·.1.isSome) = true := by rfl) (hks : (backToKw pos (keywordEach kws X.env)).filterMap (·.1) = ks := by rfl)
    (hdb : (x == ("__debug__" : Str)) = false := by decide) (hpl : ((backTo pos (starEach [] X.env)).any (·.1) || (backToKw pos (keywordEach kws X.env)).any (·.1.isNone)) = false := by rfl) :
    VE X (.Call (.Name x p) [] kws pos) (eCallK m ix FA) := ve_callK ix C.V hr hg C.hm C.hk (kbn_pick C.F ix h) hkw hn hp hall hks hdb hpl
end
/-- so many places -/
theorem pick_len {α : Type} {n : Nat} : ∀ (ix : List Nat) (l : List α), l.length = n → (∀ i ∈ ix, i < n) → (pick ix l).length = ix.length
  | [], _, _, _ => rfl
  | i :: ix, l, h, hi => by
    have h1 : i < l.length := by rw [h]; exact hi i List.mem_cons_self
    have ih := pick_len ix l h fun j hj => hi j (List.mem_cons_of_mem _ hj)
    unfold pick at ih ⊢
    rw [List.flatMap_cons, List.length_append, ih, List.getElem?_eq_getElem h1]
    simp [Nat.add_comm]
/-- the law's promise, from what its meaning says of the script -/
theorem repL_ints {K : PySem.W.Frag} {w : Wd} : ∀ ns : List Int, RepL K w (ns.map V.int) (ns.map Vx.D.int)
  | [] => .nil
  | n :: ns => .cons (.int n) (repL_ints ns)
theorem sp_end {K : PySem.W.Frag} {m : Mean} (h : ∀ ns : List Int, ns.length ≤ 63 → ∃ st', m [.frz (ns.map Vx.D.int)] [] = some (.val (.bl true), st')) {H : Hp} {a : Addr} {ns : List Int} {E : XK} (hl : ns.length ≤ 63) (hO : Only H) (hS : SqL K H a (ns.map V.int)) :
    spV K 1 m [.ref a] H (fun v _ => v = .bl true) E := by
  obtain ⟨st', e⟩ := h ns hl
  have r : Rep K ⟨[], fun _ => False, H⟩ (.ref a) (.frz (ns.map Vx.D.int)) := by
    rcases hS with (hS | ⟨o, hS⟩) | ⟨o, its, n, h1, h2, h3, h4, h5, h6⟩
    · rcases hO a with z | ⟨o, xs, z⟩
      · rw [hS] at z; cases z
      · rw [hS] at z; cases z
    · exact .frz hS (repL_ints ns)
    · exact .frk h1 h2 h3 h4 h5 h6 (repL_ints ns)
  refine ⟨[], fun _ => False, [.frz (ns.map Vx.D.int)], [], _, st', ⟨rfl, fun n a z => (by cases z), List.nodup_nil, fun a z => z.elim⟩, .cons r .nil, rfl, e, fun v w' _ _ rd _ => ?_⟩
  cases rd
  rfl
end Vx


set_option Elab.async false
set_option linter.all false
set_option maxRecDepth 100000
/-! Vp: the laws' shared defs (deal, any, is_kind, same, all) as plain functions. -/
namespace Vx
open PySem PySem.Spec L2
def b__law_deal : SvF := (sSeq (sAsg (.name 2) (e2 (e2 (e2 (e2 (e2 (e2 (eC (.int 10)) (eC (.int 64)) (cI fPow)) (e2 (eC (.int 10)) (eC (.int 64)) (cI fPow)) cMul) (e2 (eC (.int 10)) (eC (.int 64)) (cI fPow)) cMul) (e2 (eC (.int 10)) (eC (.int 64)) (cI fPow)) cMul) (e2 (eC (.int 10)) (eC (.int 64)) (cI fPow)) cMul) (e2 (eC (.int 10)) (eC (.int 64)) (cI fPow)) cMul)) (sSeq (sAsg (.name 3) (eLc (iSeq (eSl (eVar 0) oNone (oSome (eC (.int 63))))) (.name 5) tYesB (e2 (eA (eCons (eA (eCons (eA (eCons (eVar 5) eNil) cInt) eNil) cAbs) eNil) cInt) (eVar 2) (cI fMod)) [5])) (sSeq (sAsg (.name 4) (e2 (eC (.int 70001)) (e2 (eC (.int 7919)) (eVar 1) cMul) cAdd)) (sSeq (sFor (iSeq (eVar 3)) (.name 5) (sAsg (.name 4) (e2 (eA (eCons (e2 (e2 (e2 (eVar 4) (eC (.int 69621)) cMul) (e2 (eA (eCons (eVar 5) eNil) cInt) (eC (.int 2147483563)) (cI fMod)) cAdd) (eC (.int 23)) cAdd) eNil) cInt) (eC (.int 2147483647)) (cI fMod)))) (sRet (eAmb (eLst (eCons (eAmb (e1 (eLc (iSeq (eVar 3)) (.name 5) (eT (e2 (eVar 5) (e2 (eC (.int 10)) (eC (.int 18)) (cI fPow)) (cI fGe))) (eVar 5) [5]) cRev)) (eCons (eVar 4) eNil)))))))))
def m__law_deal : Mean := meanOf 6 2 b__law_deal
def b__law_any : SvF := (sSeq (sWhile Fu (tAndB (eT (e2 (eA (eCons (e2 (eVar 0) (eC (.int 0)) cIx) eNil) cLen) (eC (.int 0)) (cI fGt))) (eT (e2 (e2 (e2 (eVar 0) (eC (.int 0)) cIx) (eNeg (eC (.int 1))) cIx) (eC (.int 0)) cEq))) (sDrop (ePop (e2 (eVar 0) (eC (.int 0)) cIx)))) (sSeq (sIf (eT (e2 (eA (eCons (e2 (eVar 0) (eC (.int 0)) cIx) eNil) cLen) (eC (.int 0)) (cI fGt))) (sSeq (sAsg (.name 2) (eA (eCons (ePop (e2 (eVar 0) (eC (.int 0)) cIx)) eNil) cInt)) (sSeq (sLocApp (e2 (eVar 0) (eC (.int 0)) cIx) (e2 (eVar 2) (eVar 1) (cI fDiv))) (sRet (e2 (eVar 2) (eVar 1) (cI fMod))))) sNil) (sSeq (sLocSet (e2 (eA (eCons (e2 (e2 (e2 (eVar 0) (eC (.int 1)) cIx) (eC (.int 48271)) cMul) (eC (.int 31)) cAdd) eNil) cInt) (eC (.int 2147483647)) (cI fMod)) (eVar 0) (eC (.int 1))) (sRet (e2 (eA (eCons (e2 (e2 (eVar 0) (eC (.int 1)) cIx) (eC (.int 64)) (cI fDiv)) eNil) cInt) (eVar 1) (cI fMod))))))
def m__law_any : Mean := meanOf 3 2 b__law_any
def b__law_is_kind : SvF := (sSeq (sIf (eT (e2 (eVar 1) (eC .non) cIs)) (sRet (e2 (eVar 0) (eC .non) cIs)) sNil) (sSeq (sIf (tOrB (eT (e2 (eVar 1) (eC (.bl true)) cIs)) (eT (e2 (eVar 1) (eC (.bl false)) cIs))) (sRet (eIf (eT (eVar 1)) (e2 (eVar 0) (eC (.bl true)) cIs) (e2 (eVar 0) (eC (.bl false)) cIs))) sNil) (sSeq (sIf (eT (e1 (eVar 1) (cIsi .str))) (sRet (eAndV (e1 (eVar 0) (cIsi .str)) (e2 (eVar 0) (eVar 1) cEq))) sNil) (sRet (eAndV (e1 (eVar 0) (cIsi .int)) (eAndV (eNotV (e1 (eVar 0) (cIsi .bool))) (e2 (eVar 0) (eVar 1) cEq)))))))
def m__law_is_kind : Mean := meanOf 2 2 b__law_is_kind
def b__law_same : SvF := (sSeq (sOwn 2 (eLst (eCons (eTup (eCons (eVar 0) (eCons (eVar 1) eNil))) eNil))) (sSeq (sWhile Fu (eT (e2 (eA (eCons (eVar 2) eNil) cLen) (eC (.int 0)) (cI fGt))) (sSeq (sPopA (.names [3, 4]) 2) (sIf (eT (e1 (eVar 4) (cIsi .tuple))) (sSeq (sIf (tOrB (tNotB (eT (e1 (eVar 3) (cIsi .tuple)))) (eT (e2 (eA (eCons (eVar 3) eNil) cLen) (eA (eCons (eVar 4) eNil) cLen) cNe))) (sRet (eC (.bl false))) sNil) (sFor (iRg1 (eCons (eA (eCons (eVar 4) eNil) cLen) eNil)) (.name 5) (sApp 2 (eTup (eCons (e2 (eVar 3) (eVar 5) cIx) (eCons (e2 (eVar 4) (eVar 5) cIx) eNil)))))) (sIf (tOrB (eT (e1 (eVar 3) (cIsis [.tuple, .list, .dict]))) (tNotB (eT (eCall m__law_is_kind (eCons (eVar 3) (eCons (eVar 4) eNil)))))) (sRet (eC (.bl false))) sNil)))) (sRet (eC (.bl true)))))
def m__law_same : Mean := meanOf 6 2 b__law_same
def b__law_all : SvF := (sRet (e2 (eA (eCons (eLc (iSeq (eVar 0)) (.names [1, 2]) (tNotB (eT (eCall m__law_same (eCons (eVar 1) (eCons (eVar 2) eNil))))) (eVar 1) [1, 2]) eNil) cLen) (eC (.int 0)) cEq))
def m__law_all : Mean := meanOf 3 1 b__law_all
theorem log2_lt' {n k : Nat} (h : n < 2 ^ (k + 1)) : n.log2 < k + 1 := by
  rcases Nat.eq_zero_or_pos n with z | z
  · subst z
    have : (0 : Nat).log2 = 0 := by decide
    omega
  · exact (Nat.log2_lt (by omega)).mpr h
/-- the draws: the cells, the mix -/
def DealAt (st rest : Amb) : Prop := ∃ (cs : List Int) (mix : Int), cs.length ≤ 63 ∧ 0 ≤ mix ∧ mix < 2147483647 ∧ st = cs.map Vx.D.int :: [.loc 0, .int mix] :: rest
theorem fu_succ : Fu = 999999 + 1 := rfl
theorem whL_false {t : EvB} {B : SvF} {n : Nat} {sl : Sls} {st st' : Amb} (h : t sl st = some (false, st')) : whL t B (n + 1) sl st = some (.nx sl st') := by
  rw [whL, h]; rfl
theorem whL_true {t : EvB} {B : SvF} {n : Nat} {sl sl2 : Sls} {st st' st2 : Amb} (h : t sl st = some (true, st')) (h2 : B sl st' = some (.nx sl2 st2)) : whL t B (n + 1) sl st = whL t B n sl2 st2 := by
  rw [whL, h]
  simp [h2]
theorem flat64_int (i : Int) : flat64 (.int i) = true := by simp [flat64, Vx.D.dat, Vx.D.dep]
theorem mean_rt {N n : Nat} {F : SvF} {ds : List Vx.D} {st st' : Amb} {r : R} (sl : Sls) (hs : sl = ds.map Sl.pub ++ List.replicate (N - n) .un) (h : F sl st = some (.rt r st')) : meanOf N n F ds st = some (r, st') := by
  unfold meanOf; rw [← hs, h]
theorem seq_nx {F G : SvF} {sl sl1 : Sls} {st st1 : Amb} {r : Option Out} (h1 : F sl st = some (.nx sl1 st1)) (h2 : G sl1 st1 = r) : sSeq F G sl st = r := by
  unfold sSeq; rw [h1]; exact h2
theorem seq_rt {F G : SvF} {sl : Sls} {st st1 : Amb} {r : R} (h1 : F sl st = some (.rt r st1)) : sSeq F G sl st = some (.rt r st1) := by
  unfold sSeq; rw [h1]; rfl
section any
abbrev aT : EvB := (tAndB (eT (e2 (eA (eCons (e2 (eVar 0) (eC (.int 0)) cIx) eNil) cLen) (eC (.int 0)) (cI fGt))) (eT (e2 (e2 (e2 (eVar 0) (eC (.int 0)) cIx) (eNeg (eC (.int 1))) cIx) (eC (.int 0)) cEq)))
abbrev aB : SvF := (sDrop (ePop (e2 (eVar 0) (eC (.int 0)) cIx)))
theorem atI_neg {α : Type} (l : List α) (x : α) : atI (l ++ [x]) (-1) = some x := by
  have h : ixN (l ++ [x]).length (-1) = some l.length := by
    unfold ixN
    have : ¬ (0 : Int) ≤ -1 := by decide
    rw [if_neg this, if_pos (by simp; omega)]
    simp
    omega
  unfold atI
  rw [h]
  simp
theorem atI_0 {α : Type} (x : α) (l : List α) : atI (x :: l) 0 = some x := by
  have h : ixN (x :: l).length 0 = some 0 := by unfold ixN; simp
  unfold atI
  rw [h]
  simp
theorem atI_1 {α : Type} (x y : α) (l : List α) : atI (x :: y :: l) 1 = some y := by
  have h : ixN (x :: y :: l).length 1 = some 1 := by unfold ixN; simp; omega
  unfold atI
  rw [h]
  simp
theorem aT_nil (mix : Int) (rest : Amb) (x : Sl) : aT [.pub (.loc 1), x, .un] ([] :: [.loc 0, .int mix] :: rest) = some (false, [] :: [.loc 0, .int mix] :: rest) := by
  simp [tAndB, eT, e2, eA, eCons, eNil, eVar, eC, cIx, seqD, atI_0, R.d, cLen, cI, fGt]
theorem aT_snoc (cs : List Int) (c mix : Int) (rest : Amb) (x : Sl) : aT [.pub (.loc 1), x, .un] ((cs ++ [c]).map Vx.D.int :: [.loc 0, .int mix] :: rest) = some (c == 0, (cs ++ [c]).map Vx.D.int :: [.loc 0, .int mix] :: rest) := by
  simp [tAndB, eT, e2, eA, eCons, eNil, eVar, eC, cIx, seqD, atI_0, R.d, cLen, cI, fGt, eNeg, e1, cNeg, cEq, flat64_int, Vx.D.eqv, atI_neg]
theorem aB_snoc (cs : List Int) (c mix : Int) (rest : Amb) (x : Sl) : aB [.pub (.loc 1), x, .un] ((cs ++ [c]).map Vx.D.int :: [.loc 0, .int mix] :: rest) = some (.nx [.pub (.loc 1), x, .un] (cs.map Vx.D.int :: [.loc 0, .int mix] :: rest)) := by
  simp [sDrop, ePop, cPop, e2, eVar, eC, cIx, seqD, atI_0, R.d]
theorem snoc_cases {α : Type} (l : List α) : l = [] ∨ ∃ m x, l = m ++ [x] := by
  rcases List.eq_nil_or_concat l with h | ⟨m, x, h⟩
  · exact .inl h
  · exact .inr ⟨m, x, by rw [h, List.concat_eq_append]⟩
/-- the first loop: cells of 0 at the end go -/
theorem aW (x : Sl) (rest : Amb) (mix : Int) : ∀ (n : Nat) (cs : List Int), cs.length < n → ∃ cs' : List Int, cs'.length ≤ cs.length ∧ whL aT aB n [.pub (.loc 1), x, .un] (cs.map Vx.D.int :: [.loc 0, .int mix] :: rest) = some (.nx [.pub (.loc 1), x, .un] (cs'.map Vx.D.int :: [.loc 0, .int mix] :: rest))
  | 0, _, h => by omega
  | n + 1, cs, h => by
    rcases snoc_cases cs with rfl | ⟨m, c, rfl⟩
    · exact ⟨[], Nat.le_refl _, whL_false (aT_nil mix rest x)⟩
    · by_cases hc : c = 0
      · subst hc
        obtain ⟨cs', h1, h2⟩ := aW x rest mix n m (by simp at h; omega)
        refine ⟨cs', by simp; omega, ?_⟩
        rw [whL_true (aT_snoc m 0 mix rest x) (aB_snoc m 0 mix rest x), h2]
      · exact ⟨m ++ [c], Nat.le_refl _, whL_false (by rw [aT_snoc]; simp [hc])⟩
theorem mAny_eq : m__law_any = meanOf 3 2 (sSeq (sWhile Fu aT aB) (sSeq (sIf (eT (e2 (eA (eCons (e2 (eVar 0) (eC (.int 0)) cIx) eNil) cLen) (eC (.int 0)) (cI fGt))) (sSeq (sAsg (.name 2) (eA (eCons (ePop (e2 (eVar 0) (eC (.int 0)) cIx)) eNil) cInt)) (sSeq (sLocApp (e2 (eVar 0) (eC (.int 0)) cIx) (e2 (eVar 2) (eVar 1) (cI fDiv))) (sRet (e2 (eVar 2) (eVar 1) (cI fMod))))) sNil) (sSeq (sLocSet (e2 (eA (eCons (e2 (e2 (e2 (eVar 0) (eC (.int 1)) cIx) (eC (.int 48271)) cMul) (eC (.int 31)) cAdd) eNil) cInt) (eC (.int 2147483647)) (cI fMod)) (eVar 0) (eC (.int 1))) (sRet (e2 (eA (eCons (e2 (e2 (eVar 0) (eC (.int 1)) cIx) (eC (.int 64)) (cI fDiv)) eNil) cInt) (eVar 1) (cI fMod)))))) := rfl
theorem law_any {st rest : Amb} {b : Int} (h0 : 0 < b) (h1 : b < 1073741824) (D : DealAt st rest) : ∃ (r : Int) (st' : Amb), m__law_any [.loc 1, .int b] st = some (.val (.int r), st') ∧ 0 ≤ r ∧ r < b ∧ DealAt st' rest := by
  obtain ⟨cs, mix, hl, m0, m1, rfl⟩ := D
  obtain ⟨cs', hl', hw⟩ := aW (.pub (.int b)) rest mix Fu cs (by rw [fu_succ]; omega)
  have hb : Int.toNat b < 2 ^ 30 := by omega
  rcases snoc_cases cs' with rfl | ⟨m, c, rfl⟩
  · refine ⟨((mix * 48271 + 31) % 2147483647 / 64) % b, _, ?_, Int.emod_nonneg _ (by omega), Int.emod_lt_of_pos _ h0, [], (mix * 48271 + 31) % 2147483647, by simp, Int.emod_nonneg _ (by decide), Int.emod_lt_of_pos _ (by decide), rfl⟩
    have hg : mix.natAbs.log2 + Nat.log2 48271 < 1000000 := by
      have a1 : mix.natAbs.log2 < 30 + 1 := log2_lt' (by omega)
      have a2 : Nat.log2 48271 < 30 + 1 := log2_lt' (by decide)
      omega
    rw [mAny_eq]
    refine mean_rt [.pub (.loc 1), .pub (.int b), .un] rfl (seq_nx hw (seq_nx (sl1 := [.pub (.loc 1), .pub (.int b), .un]) (st1 := [] :: [.loc 0, .int mix] :: rest) ?_ (seq_nx (sl1 := [.pub (.loc 1), .pub (.int b), .un]) (st1 := [] :: [.loc 0, .int ((mix * 48271 + 31) % 2147483647)] :: rest) ?_ ?_)))
    · simp [sIf, eT, sNil, e2, eA, eCons, eNil, eVar, eC, cIx, seqD, atI_0, atI_1, R.d, cLen, cI, fGt]
    · simp [sLocSet, ePub, e2, eA, eCons, eNil, eVar, eC, cIx, seqD, atI_0, atI_1, R.d, cI, cMul, fMul, cAdd, cInt, fMod, hg, ixN]
    · simp [sRet, e2, eA, eCons, eNil, eVar, eC, cIx, seqD, atI_0, atI_1, R.d, cI, cInt, fMod, fDiv, h0]
  · refine ⟨c % b, _, ?_, Int.emod_nonneg _ (by omega), Int.emod_lt_of_pos _ h0, m ++ [c / b], mix, by simp at hl' ⊢; omega, m0, m1, rfl⟩
    simp at hl'
    have hz : m.length < line := by unfold line; omega
    rw [mAny_eq]
    refine mean_rt [.pub (.loc 1), .pub (.int b), .un] rfl (seq_nx hw (seq_rt ?_))
    simp [sIf, sSeq, eT, sRet, sLocApp, sAsg, ePub, put, e2, eA, eCons, eNil, eVar, eC, cIx, seqD, atI_0, atI_1, R.d, cLen, cI, fGt, cInt, fMod, fDiv, h0, h1, ePop, cPop, hz]
end any
section deal
theorem lcL_filter {t : Tg} {tb : EvB} {f : EvF} {sl : Sls} {st : Amb} (p : Vx.D → Bool) (g : Vx.D → Vx.D) : ∀ l : List Vx.D, (∀ d ∈ l, ∃ sl1, put t d sl = some sl1 ∧ tb sl1 st = some (p d, st) ∧ (p d = true → evD f sl1 st = some (g d, st))) → lcL t tb f sl l st = some ((l.filter p).map g, st)
  | [], _ => rfl
  | d :: l, h => by
    obtain ⟨sl1, h1, h2, h3⟩ := h d List.mem_cons_self
    have ih := lcL_filter p g l fun x hx => h x (List.mem_cons_of_mem _ hx)
    rw [lcL, h1]
    simp only [Option.bind_some, h2]
    cases hp : p d with
    | false => simp [hp, ih]
    | true => simp [hp, ih, h3 hp]
theorem lcL_map {t : Tg} {f : EvF} {sl : Sls} {st : Amb} (g : Vx.D → Vx.D) (l : List Vx.D) (h : ∀ d ∈ l, ∃ sl1, put t d sl = some sl1 ∧ evD f sl1 st = some (g d, st)) : lcL t tYesB f sl l st = some (l.map g, st) := by
  rw [lcL_filter (fun _ => true) g l fun d hd => by
    obtain ⟨sl1, h1, h2⟩ := h d hd
    exact ⟨sl1, h1, rfl, fun _ => h2⟩]
  rw [List.filter_eq_self.mpr fun _ _ => rfl]
theorem forL_step {t : Tg} {B : SvF} {d : Vx.D} {l : List Vx.D} {sl sl1 sl2 : Sls} {st st2 : Amb} (h1 : put t d sl = some sl1) (h2 : B sl1 st = some (.nx sl2 st2)) : forL t B (d :: l) sl st = forL t B l sl2 st2 := by
  rw [forL, h1]
  simp [h2]
def MO : Int := 10 ^ 384
abbrev dMost : EvF := (e2 (e2 (e2 (e2 (e2 (e2 (eC (.int 10)) (eC (.int 64)) (cI fPow)) (e2 (eC (.int 10)) (eC (.int 64)) (cI fPow)) cMul) (e2 (eC (.int 10)) (eC (.int 64)) (cI fPow)) cMul) (e2 (eC (.int 10)) (eC (.int 64)) (cI fPow)) cMul) (e2 (eC (.int 10)) (eC (.int 64)) (cI fPow)) cMul) (e2 (eC (.int 10)) (eC (.int 64)) (cI fPow)) cMul)
theorem dMost_eq (sl : Sls) (st : Amb) : dMost sl st = some (.val (.int MO), st) := by
  have e1 : fPow 10 64 = some (.int (10 ^ 64)) := by unfold fPow; rw [if_pos (by decide +kernel)]; rfl
  have m (i j k : Int) (h : i * j = k) (g : i.natAbs.log2 + j.natAbs.log2 < 1000000) : fMul i j = some (.int k) := by unfold fMul; rw [if_pos g, h]
  have e2 : fMul (10 ^ 64) (10 ^ 64) = some (.int (10 ^ 128)) := m _ _ _ (by decide +kernel) (by decide +kernel)
  have e3 : fMul (10 ^ 128) (10 ^ 64) = some (.int (10 ^ 192)) := m _ _ _ (by decide +kernel) (by decide +kernel)
  have e4 : fMul (10 ^ 192) (10 ^ 64) = some (.int (10 ^ 256)) := m _ _ _ (by decide +kernel) (by decide +kernel)
  have e5 : fMul (10 ^ 256) (10 ^ 64) = some (.int (10 ^ 320)) := m _ _ _ (by decide +kernel) (by decide +kernel)
  have e6 : fMul (10 ^ 320) (10 ^ 64) = some (.int MO) := m _ _ _ (by decide +kernel) (by decide +kernel)
  simp only [Vx.e2, eC, cI, cMul, R.d, Option.bind_some, Option.map_some, e1, e2, e3, e4, e5, e6]
theorem MO_pos : 0 < MO := by decide +kernel
def gC : Vx.D → Vx.D
  | .int i => .int ((if i < 0 then -i else i) % MO)
  | d => d
def cellI (i : Int) : Int := (if i < 0 then -i else i) % MO
theorem gC_map (ns : List Int) : (ns.map Vx.D.int).map gC = (ns.map cellI).map Vx.D.int := by
  rw [List.map_map, List.map_map]; rfl
theorem dCells (ns : List Int) (salt : Int) (st : Amb) : eLc (iSeq (eSl (eVar 0) oNone (oSome (eC (.int 63))))) (.name 5) tYesB (e2 (eA (eCons (eA (eCons (eA (eCons (eVar 5) eNil) cInt) eNil) cAbs) eNil) cInt) (eVar 2) (cI fMod)) [5] [.pub (.frz (ns.map .int)), .pub (.int salt), .pub (.int MO), .un, .un, .un] st
    = some (.prv (((ns.take 63).map cellI).map Vx.D.int), st) := by
  have hi : iSeq (eSl (eVar 0) oNone (oSome (eC (.int 63)))) [.pub (.frz (ns.map .int)), .pub (.int salt), .pub (.int MO), .un, .un, .un] st = some ((ns.take 63).map .int, st) := by
    have hc : cutD (ns.map Vx.D.int) none (some 63) = (ns.take 63).map .int := by
      unfold cutD
      simp [HT.sIx]
    simp [iSeq, eSl, eVar, oNone, oSome, eC, cSl, seqD, R.d, hc]
  have hl : lcL (.name 5) tYesB (e2 (eA (eCons (eA (eCons (eA (eCons (eVar 5) eNil) cInt) eNil) cAbs) eNil) cInt) (eVar 2) (cI fMod)) (wipeS [.pub (.frz (ns.map .int)), .pub (.int salt), .pub (.int MO), .un, .un, .un] [5]) ((ns.take 63).map .int) st = some (((ns.take 63).map .int).map gC, st) := by
    refine lcL_map gC _ fun d hd => ?_
    obtain ⟨i, _, rfl⟩ := List.mem_map.mp hd
    refine ⟨[.pub (.frz (ns.map .int)), .pub (.int salt), .pub (.int MO), .un, .un, .pub (.int i)], by simp [put, wipeS], ?_⟩
    simp [evD, ePub, e2, eA, eCons, eNil, eVar, R.d, cInt, cAbs, cI, fMod, MO_pos, gC]
  unfold eLc
  rw [if_pos (by simp [noOwn]), hi]
  simp only [Option.bind_some, hl, gC_map]
  rw [if_pos (by simp; unfold line; omega)]
abbrev dB : SvF := (sAsg (.name 4) (e2 (eA (eCons (e2 (e2 (e2 (eVar 4) (eC (.int 69621)) cMul) (e2 (eA (eCons (eVar 5) eNil) cInt) (eC (.int 2147483563)) (cI fMod)) cAdd) (eC (.int 23)) cAdd) eNil) cInt) (eC (.int 2147483647)) (cI fMod)))
theorem dMix (s0 s1 s2 s3 : Sl) (st : Amb) : ∀ (cs : List Int) (mix : Int) (x : Sl), 0 ≤ mix → mix < 2147483647 → ∃ (mix' : Int) (x' : Sl), 0 ≤ mix' ∧ mix' < 2147483647 ∧ (x = .un ∨ (∃ d, x = .pub d) → x' = .un ∨ ∃ d, x' = .pub d) ∧
    forL (.name 5) dB (cs.map Vx.D.int) [s0, s1, s2, s3, .pub (.int mix), x] st = some (.nx [s0, s1, s2, s3, .pub (.int mix'), x'] st)
  | [], mix, x, h0, h1 => ⟨mix, x, h0, h1, id, rfl⟩
  | c :: cs, mix, x, h0, h1 => by
    have hg : mix.natAbs.log2 + Nat.log2 69621 < 1000000 := by
      have a1 : mix.natAbs.log2 < 30 + 1 := log2_lt' (by omega)
      have a2 : Nat.log2 69621 < 30 + 1 := log2_lt' (by decide)
      omega
    obtain ⟨m', x', a, b, u, e⟩ := dMix s0 s1 s2 s3 st cs ((mix * 69621 + c % 2147483563 + 23) % 2147483647) (.pub (.int c)) (Int.emod_nonneg _ (by decide)) (Int.emod_lt_of_pos _ (by decide))
    refine ⟨m', x', a, b, fun _ => u (.inr ⟨_, rfl⟩), ?_⟩
    rw [List.map_cons, forL_step (sl1 := [s0, s1, s2, s3, .pub (.int mix), .pub (.int c)]) (sl2 := [s0, s1, s2, s3, .pub (.int ((mix * 69621 + c % 2147483563 + 23) % 2147483647)), .pub (.int c)]) (st2 := st) (by simp [put]) (by
      simp [sAsg, ePub, put, e2, eA, eCons, eNil, eVar, eC, R.d, cI, cMul, fMul, cAdd, cInt, fMod, hg]), e]
def gF : Vx.D → Bool
  | .int i => decide (10 ^ 18 ≤ i)
  | _ => false
theorem gF_map (cs : List Int) : ((cs.map Vx.D.int).filter gF).map id = (cs.filter fun i => decide (10 ^ 18 ≤ i)).map Vx.D.int := by
  rw [List.map_id, List.filter_map]; rfl
theorem law_deal (ns : List Int) (salt : Int) (h0 : 0 ≤ salt) (h1 : salt ≤ 100000) : ∃ st, m__law_deal [.frz (ns.map .int), .int salt] [] = some (.val (.loc 1), st) ∧ DealAt st [] := by
  have hcl : ((ns.take 63).map cellI).length ≤ 63 := by simp; omega
  have dc := dCells ns salt []
  generalize (ns.take 63).map cellI = cc at dc hcl
  have hm0 : (0 : Int) ≤ 70001 + 7919 * salt := by omega
  have hm1 : 70001 + 7919 * salt < 2147483647 := by omega
  have hg : Nat.log2 7919 + salt.natAbs.log2 < 1000000 := by
    have a1 : salt.natAbs.log2 < 30 + 1 := log2_lt' (by omega)
    have a2 : Nat.log2 7919 < 30 + 1 := log2_lt' (by decide)
    omega
  obtain ⟨mix, x, m0, m1, hx, hl⟩ := dMix (.pub (.frz (ns.map .int))) (.pub (.int salt)) (.pub (.int MO)) (.pub (.lst (cc.map Vx.D.int))) [] cc (70001 + 7919 * salt) .un hm0 hm1
  have hx := hx (.inl rfl)
  have hno : noOwn [.pub (.frz (ns.map .int)), .pub (.int salt), .pub (.int MO), .pub (.lst (cc.map Vx.D.int)), .pub (.int mix), x] [5] = true := by
    rcases hx with rfl | ⟨d, rfl⟩ <;> simp [noOwn]
  have h18 : fPow 10 18 = some (.int (10 ^ 18)) := by unfold fPow; rw [if_pos (by decide +kernel)]; rfl
  have hlc : lcL (.name 5) (eT (e2 (eVar 5) (e2 (eC (.int 10)) (eC (.int 18)) (cI fPow)) (cI fGe))) (eVar 5) (wipeS [.pub (.frz (ns.map .int)), .pub (.int salt), .pub (.int MO), .pub (.lst (cc.map Vx.D.int)), .pub (.int mix), x] [5]) (cc.map Vx.D.int) []
      = some (((cc.map Vx.D.int).filter gF).map id, []) := by
    refine lcL_filter gF id _ fun d hd => ?_
    obtain ⟨i, _, rfl⟩ := List.mem_map.mp hd
    refine ⟨[.pub (.frz (ns.map .int)), .pub (.int salt), .pub (.int MO), .pub (.lst (cc.map Vx.D.int)), .pub (.int mix), .pub (.int i)], by simp [put, wipeS], ?_, fun _ => ?_⟩
    · simp only [eT, e2, eVar, eC, R.d, cI, fGe, h18, gF, List.getElem?_cons_succ, List.getElem?_cons_zero, Option.bind_some, Option.map_some]
    · simp [evD, ePub, eVar]
  rw [gF_map] at hlc
  refine ⟨[((cc.filter fun i => decide (10 ^ 18 ≤ i)).reverse).map Vx.D.int, [.loc 0, .int mix]], ?_, ((cc.filter fun i => decide (10 ^ 18 ≤ i)).reverse), mix, ?_, m0, m1, rfl⟩
  · refine mean_rt [.pub (.frz (ns.map .int)), .pub (.int salt), .un, .un, .un, .un] rfl (seq_nx (st1 := []) (sl1 := [.pub (.frz (ns.map .int)), .pub (.int salt), .pub (.int MO), .un, .un, .un]) ?_
      (seq_nx (st1 := []) (sl1 := [.pub (.frz (ns.map .int)), .pub (.int salt), .pub (.int MO), .pub (.lst (cc.map Vx.D.int)), .un, .un]) ?_
      (seq_nx (st1 := []) (sl1 := [.pub (.frz (ns.map .int)), .pub (.int salt), .pub (.int MO), .pub (.lst (cc.map Vx.D.int)), .pub (.int (70001 + 7919 * salt)), .un]) ?_
      (seq_nx (st1 := []) (sl1 := [.pub (.frz (ns.map .int)), .pub (.int salt), .pub (.int MO), .pub (.lst (cc.map Vx.D.int)), .pub (.int mix), x]) ?_ ?_))))
    · simp only [sAsg, ePub, dMost_eq]; rfl
    · simp only [sAsg, ePub, dc]; rfl
    · simp [sAsg, ePub, put, e2, eVar, eC, R.d, cMul, cI, fMul, cAdd, hg]
    · simp only [sFor, iSeq, eVar, List.getElem?_cons_succ, List.getElem?_cons_zero, Option.bind_some]
      exact hl
    · have hlen : (List.filter (fun i => decide (10 ^ 18 ≤ i)) cc).length ≤ line := by
        refine Nat.le_trans (List.length_filter_le _ _) (Nat.le_trans hcl (by decide))
      have hlc2 : eLc (iSeq (eVar 3)) (.name 5) (eT (e2 (eVar 5) (e2 (eC (.int 10)) (eC (.int 18)) (cI fPow)) (cI fGe))) (eVar 5) [5] [.pub (.frz (ns.map .int)), .pub (.int salt), .pub (.int MO), .pub (.lst (cc.map Vx.D.int)), .pub (.int mix), x] []
          = some (.prv ((cc.filter fun i => decide (10 ^ 18 ≤ i)).map Vx.D.int), []) := by
        unfold eLc
        rw [if_pos hno]
        simp only [iSeq, eVar, List.getElem?_cons_succ, List.getElem?_cons_zero, Option.bind_some]
        rw [show lcL (.name 5) (eT (e2 (eVar 5) (e2 (eC (.int 10)) (eC (.int 18)) (cI fPow)) (cI fGe))) (fun sl st => eVar 5 sl st) _ _ _ = _ from hlc]
        simp only [Option.bind_some]
        rw [if_pos (by rw [List.length_map]; exact hlen)]
      simp [sRet, eAmb, eLst, eCons, eNil, e1, hlc2, cRev, seqD, R.d, eVar, vals, (by decide : 2 ≤ line)]
  · rw [List.length_reverse]
    exact Nat.le_trans (List.length_filter_le _ _) hcl
end deal
section same
mutual
/-- data that may be compared part by part -/
def D.pl : Vx.D → Bool
  | .non => true
  | .bl _ => true
  | .int _ => true
  | .str s => PyData.strOk s
  | .tup l => D.plL l
  | .lst _ => false
  | .frz _ => false
  | .loc _ => false
def D.plL : List Vx.D → Bool
  | [] => true
  | d :: l => D.pl d && D.plL l
end
mutual
def D.sz : Vx.D → Nat
  | .tup l => D.szL l + 1
  | .non => 1
  | .bl _ => 1
  | .int _ => 1
  | .str _ => 1
  | .lst _ => 1
  | .frz _ => 1
  | .loc _ => 1
def D.szL : List Vx.D → Nat
  | [] => 0
  | d :: l => D.sz d + D.szL l
end
theorem sz_pos (d : Vx.D) : 1 ≤ D.sz d := by cases d <;> simp [D.sz]
theorem szL_append : ∀ (l m : List Vx.D), D.szL (l ++ m) = D.szL l + D.szL m
  | [], m => by simp [D.szL]
  | d :: l, m => by simp [D.szL, szL_append l m]; omega
theorem szL_len : ∀ l : List Vx.D, l.length ≤ D.szL l
  | [] => Nat.le_refl _
  | d :: l => by
    have := szL_len l
    have := sz_pos d
    simp [D.szL]; omega
theorem plL_append : ∀ (l m : List Vx.D), D.plL (l ++ m) = (D.plL l && D.plL m)
  | [], m => by simp [D.plL]
  | d :: l, m => by simp [D.plL, plL_append l m, Bool.and_assoc]
theorem law_kind {d : Vx.D} (h : D.pl d = true) (n : ∀ l, d ≠ .tup l) (st : Amb) : m__law_is_kind [d, d] st = some (.val (.bl true), st) := by
  refine mean_rt [.pub d, .pub d] rfl ?_
  cases d with
  | non => simp [sSeq, b__law_is_kind, sIf, eT, e2, eVar, eC, R.d, cIs, isN, sRet]
  | bl b => cases b <;> simp [sSeq, b__law_is_kind, sIf, eT, e2, eVar, eC, R.d, cIs, isN, sRet, sNil, tOrB, eIf]
  | int i => simp [sSeq, b__law_is_kind, sIf, eT, e1, e2, eVar, eC, R.d, cIs, isN, sRet, sNil, tOrB, eIf, cIsi, isT, eAndV, eNotV, cEq, flat64_int, Vx.D.eqv]
  | str z =>
    have hf : flat64 (.str z) = true := by simpa [flat64, Vx.D.dat, Vx.D.dep, D.pl] using h
    simp [sSeq, b__law_is_kind, sIf, eT, e1, e2, eVar, eC, R.d, cIs, isN, sRet, sNil, tOrB, eIf, cIsi, isT, eAndV, eNotV, cEq, hf, Vx.D.eqv]
  | tup l => exact absurd rfl (n l)
  | _ => simp [D.pl] at h
abbrev pr (d : Vx.D) : Vx.D := .tup [d, d]
theorem atI_nat {α : Type} {l : List α} {j : Nat} (h : j < l.length) : atI l (j : Int) = some l[j] := by
  have e : ixN l.length (j : Int) = some j := by
    unfold ixN
    rw [if_pos (by omega), if_pos (by omega)]
    simp
  unfold atI
  rw [e]
  simp [h]
abbrev smB : SvF := (sApp 2 (eTup (eCons (e2 (eVar 3) (eVar 5) cIx) (eCons (e2 (eVar 4) (eVar 5) cIx) eNil))))
theorem same_for (s0 s1 : Sl) (xs : List Vx.D) (st : Amb) : ∀ (is : List Nat) (t : List Vx.D) (x : Sl), (∀ i ∈ is, i < xs.length) → t.length + is.length ≤ line → ∃ x', forL (.name 5) smB (is.map fun (j : Nat) => Vx.D.int (0 + (j : Int))) [s0, s1, .own t, .pub (.tup xs), .pub (.tup xs), x] st
    = some (.nx [s0, s1, .own (t ++ is.map fun j => pr (xs.getD j .non)), .pub (.tup xs), .pub (.tup xs), x'] st)
  | [], t, x, _, _ => ⟨x, by simp [forL]⟩
  | j :: is, t, x, h, hl => by
    have hj := h j List.mem_cons_self
    simp only [List.length_cons] at hl
    obtain ⟨x', e⟩ := same_for s0 s1 xs st is (t ++ [pr (xs.getD j .non)]) (.pub (.int (0 + (j : Int)))) (fun i hi => h i (List.mem_cons_of_mem _ hi)) (by simp; omega)
    refine ⟨x', ?_⟩
    rw [List.map_cons, forL_step (sl1 := [s0, s1, .own t, .pub (.tup xs), .pub (.tup xs), .pub (.int (0 + (j : Int)))]) (sl2 := [s0, s1, .own (t ++ [pr (xs.getD j .non)]), .pub (.tup xs), .pub (.tup xs), .pub (.int (0 + (j : Int)))]) (st2 := st) (by simp [put]) ?_, e]
    · simp
    · have h1 : atI xs (0 + (j : Int)) = some xs[j] := by rw [Int.zero_add]; exact atI_nat hj
      have h2 : t.length < line := by omega
      simp only [Int.zero_add] at h1 ⊢
      simp [sApp, ePub, eTup, eCons, eNil, e2, eVar, R.d, cIx, seqD, h1, vals, (by decide : 2 ≤ line), h2, hj]
theorem map_getD (xs : List Vx.D) : (List.range xs.length).map (fun j => pr (xs.getD j .non)) = xs.map pr := by
  apply List.ext_getElem
  · simp
  · intro i h1 h2
    simp at h1 h2 ⊢
    simp [h1]
abbrev smT : EvB := (eT (e2 (eA (eCons (eVar 2) eNil) cLen) (eC (.int 0)) (cI fGt)))
abbrev smW : SvF := (sSeq (sPopA (.names [3, 4]) 2) (sIf (eT (e1 (eVar 4) (cIsi .tuple))) (sSeq (sIf (tOrB (tNotB (eT (e1 (eVar 3) (cIsi .tuple)))) (eT (e2 (eA (eCons (eVar 3) eNil) cLen) (eA (eCons (eVar 4) eNil) cLen) cNe))) (sRet (eC (.bl false))) sNil) (sFor (iRg1 (eCons (eA (eCons (eVar 4) eNil) cLen) eNil)) (.name 5) smB)) (sIf (tOrB (eT (e1 (eVar 3) (cIsis [.tuple, .list, .dict]))) (tNotB (eT (eCall m__law_is_kind (eCons (eVar 3) (eCons (eVar 4) eNil)))))) (sRet (eC (.bl false))) sNil)))
theorem same_pop (s0 s1 a b c : Sl) (l : List Vx.D) (d : Vx.D) (st : Amb) : sPopA (.names [3, 4]) 2 [s0, s1, .own ((l ++ [d]).map pr), a, b, c] st = some (.nx [s0, s1, .own (l.map pr), .pub d, .pub d, c] st) := by
  simp [sPopA, put, putN]
theorem same_turn (s0 s1 a b c : Sl) (l : List Vx.D) (d : Vx.D) (st : Amb) (hd : D.pl d = true) (hl : D.szL (l ++ [d]) ≤ line) : ∃ (m : List Vx.D) (a' b' c' : Sl), D.plL m = true ∧ D.szL m < D.sz d ∧ smW [s0, s1, .own ((l ++ [d]).map pr), a, b, c] st = some (.nx [s0, s1, .own ((l ++ m).map pr), a', b', c'] st) := by
  rw [szL_append] at hl
  simp only [D.szL, Nat.add_zero] at hl
  have hll := szL_len l
  by_cases ht : ∃ xs, d = .tup xs
  · obtain ⟨xs, rfl⟩ := ht
    simp only [D.sz] at hl
    have hx := szL_len xs
    obtain ⟨x', e⟩ := same_for s0 s1 xs st (List.range xs.length) (l.map pr) c (fun i hi => List.mem_range.mp hi) (by simp; omega)
    rw [map_getD] at e
    refine ⟨xs, .pub (.tup xs), .pub (.tup xs), x', by simpa [D.pl] using hd, by simp [D.sz], seq_nx (same_pop s0 s1 a b c l _ st) ?_⟩
    have hne : cNe st (.int xs.length) (.int xs.length) = some (.val (.bl false)) := by simp [cNe, flat64_int, Vx.D.eqv]
    have hi : iRg1 (eCons (eA (eCons (eVar 4) eNil) cLen) eNil) [s0, s1, .own (l.map pr), .pub (.tup xs), .pub (.tup xs), c] st = some (rg 0 xs.length, st) := by
      have : (xs.length : Int) < 4611686018427387904 := by
        have : line < 4611686018427387904 := by decide
        omega
      simp [iRg1, eCons, eNil, eA, eVar, R.d, cLen, seqD, this]
    simp only [sIf, eT, e1, eVar, List.getElem?_cons_succ, List.getElem?_cons_zero, Option.bind_some, Option.map_some, R.d, cIsi, isT, if_true]
    refine seq_nx (sl1 := [s0, s1, .own (l.map pr), .pub (.tup xs), .pub (.tup xs), c]) (st1 := st) ?_ ?_
    · simp only [sIf, tOrB, tNotB, eT, e1, e2, eA, eCons, eNil, eVar, List.getElem?_cons_succ, List.getElem?_cons_zero, Option.bind_some, Option.map_some, R.d, cIsi, isT, cLen, seqD, List.map_cons, List.map_nil, hne, sNil]
      simp
    · simp only [sFor, hi, Option.bind_some]
      rw [List.map_append]
      have : rg 0 xs.length = (List.range xs.length).map fun (j : Nat) => Vx.D.int (0 + (j : Int)) := by simp [rg]
      rw [this]
      exact e
  · have hn : ∀ xs, d ≠ .tup xs := fun xs z => ht ⟨xs, z⟩
    refine ⟨[], .pub d, .pub d, c, rfl, sz_pos d, seq_nx (same_pop s0 s1 a b c l d st) ?_⟩
    have hk := law_kind hd hn st
    have i1 : isT d .tuple = false := by cases d <;> first | rfl | exact absurd rfl (hn _)
    have i2 : isT d .list = false := by cases d <;> first | rfl | simp [D.pl] at hd
    have i3 : isT d .dict = false := by cases d <;> rfl
    simp [sIf, tOrB, tNotB, eT, e1, eVar, R.d, cIsi, cIsis, i1, i2, i3, eCall, eCons, eNil, vals, hk, sNil]
theorem same_while (s0 s1 : Sl) (st : Amb) : ∀ (n : Nat) (l : List Vx.D) (a b c : Sl), D.plL l = true → D.szL l < n → n ≤ line → ∃ a' b' c' : Sl, whL smT smW n [s0, s1, .own (l.map pr), a, b, c] st = some (.nx [s0, s1, .own [], a', b', c'] st)
  | 0, _, _, _, _, _, h, _ => by omega
  | n + 1, l, a, b, c, hp, hs, hn => by
    rcases snoc_cases l with rfl | ⟨m, d, rfl⟩
    · exact ⟨a, b, c, whL_false (by simp [eT, e2, eA, eCons, eNil, eVar, eC, R.d, cLen, seqD, cI, fGt])⟩
    · rw [plL_append, Bool.and_eq_true] at hp
      have hd : D.pl d = true := by simpa [D.plL] using hp.2
      obtain ⟨m2, a', b', c', h1, h2, h3⟩ := same_turn s0 s1 a b c m d st hd (by omega)
      obtain ⟨a2, b2, c2, e⟩ := same_while s0 s1 st n (m ++ m2) a' b' c' (by rw [plL_append, hp.1, h1]; rfl) (by rw [szL_append] at hs ⊢; simp only [D.szL] at hs; omega) (by omega)
      refine ⟨a2, b2, c2, ?_⟩
      rw [whL_true (st' := st) ?_ h3, e]
      have : (0 : Int) < (m.length : Int) + 1 := by omega
      simp [eT, e2, eA, eCons, eNil, eVar, eC, R.d, cLen, seqD, cI, fGt, this]
theorem law_same {d : Vx.D} (hp : D.pl d = true) (hs : D.sz d < Fu) (st : Amb) : m__law_same [d, d] st = some (.val (.bl true), st) := by
  obtain ⟨a, b, c, e⟩ := same_while (.pub d) (.pub d) st Fu [d] .un .un .un (by simpa [D.plL] using hp) (by simpa [D.szL] using hs) (by decide)
  refine mean_rt [.pub d, .pub d, .un, .un, .un, .un] rfl (seq_nx (sl1 := [.pub d, .pub d, .own [pr d], .un, .un, .un]) (st1 := st) ?_ (seq_nx e ?_))
  · simp [sOwn, eLst, eTup, eCons, eNil, eVar, vals, (by decide : 1 ≤ line), (by decide : 2 ≤ line)]
  · simp [sRet, eC]
/-- pairs whose two parts are alike -/
def PairsOk (ps : List Vx.D) : Prop := ∀ p ∈ ps, ∃ d, p = pr d ∧ D.pl d = true ∧ D.sz d < Fu
theorem law_all {ps : List Vx.D} (h : PairsOk ps) (st : Amb) : m__law_all [.lst ps] st = some (.val (.bl true), st) := by
  have hl : lcL (.names [1, 2]) (tNotB (eT (eCall m__law_same (eCons (eVar 1) (eCons (eVar 2) eNil))))) (eVar 1) (wipeS [.pub (.lst ps), .un, .un] [1, 2]) ps st = some ((ps.filter fun _ => false).map id, st) := by
    refine lcL_filter (fun _ => false) id ps fun p hp => ?_
    obtain ⟨d, rfl, h1, h2⟩ := h p hp
    refine ⟨[.pub (.lst ps), .pub d, .pub d], by simp [put, putN, wipeS], ?_, fun z => by cases z⟩
    simp [tNotB, eT, eCall, eCons, eNil, eVar, vals, law_same h1 h2]
  rw [List.filter_eq_nil_iff.mpr (fun _ _ z => by cases z), List.map_nil] at hl
  refine mean_rt [.pub (.lst ps), .un, .un] rfl ?_
  have hlc : eLc (iSeq (eVar 0)) (.names [1, 2]) (tNotB (eT (eCall m__law_same (eCons (eVar 1) (eCons (eVar 2) eNil))))) (eVar 1) [1, 2] [.pub (.lst ps), .un, .un] st = some (.prv [], st) := by
    unfold eLc
    rw [if_pos (by simp [noOwn])]
    simp only [iSeq, eVar, List.getElem?_cons_zero, Option.bind_some]
    rw [show lcL (.names [1, 2]) _ (fun sl st => eVar 1 sl st) _ _ _ = _ from hl]
    rfl
  simp only [b__law_all, sRet, e2, eA, eCons, hlc, eNil, Option.bind_some, Option.map_some, List.map_cons, List.map_nil, R.d, cLen, seqD, eC]
  simp [cEq, flat64_int, Vx.D.eqv]
end same
end Vx


set_option Elab.async false
set_option linter.all false
set_option maxRecDepth 100000
/-! Vu: what is shown without shared lists stands beside any. -/
namespace Vx
open PySem PySem.Spec L2
def Out.am : Out → Amb
  | .nx _ st => st | .bk _ st => st | .ct _ st => st | .rt _ st => st
def Out.to : Out → Amb → Out
  | .nx sl _, st => .nx sl st | .bk sl _, st => .bk sl st | .ct sl _, st => .ct sl st | .rt r _, st => .rt r st
def LE (f : EvF) : Prop := ∀ sl r s, f sl [] = some (r, s) → s = [] ∧ ∀ st, f sl st = some (r, st)
def LB (f : EvB) : Prop := ∀ sl r s, f sl [] = some (r, s) → s = [] ∧ ∀ st, f sl st = some (r, st)
def LA (f : EvA) : Prop := ∀ sl r s, f sl [] = some (r, s) → s = [] ∧ ∀ st, f sl st = some (r, st)
def LI (f : EvI) : Prop := ∀ sl r s, f sl [] = some (r, s) → s = [] ∧ ∀ st, f sl st = some (r, st)
def LO (f : EvO) : Prop := ∀ sl r s, f sl [] = some (r, s) → s = [] ∧ ∀ st, f sl st = some (r, st)
def LM (m : Mean) : Prop := ∀ ds r s, m ds [] = some (r, s) → s = [] ∧ ∀ st, m ds st = some (r, st)
def LS (F : SvF) : Prop := ∀ sl o, F sl [] = some o → o.am = [] ∧ ∀ st, F sl st = some (o.to st)
def C1 (c : Amb → Vx.D → Option R) : Prop := ∀ x r, c [] x = some r → ∀ st, c st x = some r
def C2 (c : Amb → Vx.D → Vx.D → Option R) : Prop := ∀ x y r, c [] x y = some r → ∀ st, c st x y = some r
def CA (c : Amb → List Vx.D → Option R) : Prop := ∀ x r, c [] x = some r → ∀ st, c st x = some r
theorem seqD_up {x : Vx.D} {l : List Vx.D} (h : seqD [] x = some l) (st : Amb) : seqD st x = some l := by
  cases x <;> simp [seqD] at h ⊢ <;> exact h
section
variable {f g : EvF} {F : EvA} {t u : EvB}
theorem c2_add : C2 cAdd := fun _ _ _ h _ => h
theorem c2_mul : C2 cMul := fun _ _ _ h _ => h
theorem c2_I {k} : C2 (cI k) := fun _ _ _ h _ => h
theorem c2_eq : C2 cEq := fun _ _ _ h _ => h
theorem c2_ne : C2 cNe := fun _ _ _ h _ => h
theorem c2_in {n} : C2 (cIn n) := fun _ _ _ h _ => h
theorem c2_is : C2 cIs := fun _ _ _ h _ => h
theorem c2_isNot : C2 cIsNot := fun _ _ _ h _ => h
theorem c2_ix : C2 cIx := fun x y r h st => by
  unfold cIx at h ⊢
  split at h
  · cases hs : seqD [] x with
    | none => rw [hs] at h; cases h
    | some l => rw [hs] at h; rw [seqD_up hs]; exact h
  · cases h
theorem c1_neg : C1 cNeg := fun _ _ h _ => h
theorem c1_isi {k} : C1 (cIsi k) := fun _ _ h _ => h
theorem c1_isis {k} : C1 (cIsis k) := fun _ _ h _ => h
theorem c1_rg {k} : C1 (cRg1 k) := fun _ _ h _ => h
theorem c1_rev : C1 cRev := fun x r h st => by
  unfold cRev at h ⊢
  split at h
  · cases h
  · cases hs : seqD [] x with
    | none => rw [hs] at h; cases h
    | some l => rw [hs] at h; simp only [seqD_up hs]; exact h
theorem ca_min : CA cMin := fun _ _ h _ => h
theorem ca_max : CA cMax := fun _ _ h _ => h
theorem ca_int : CA cInt := fun _ _ h _ => h
theorem ca_abs : CA cAbs := fun _ _ h _ => h
theorem ca_sort : CA cSort := fun _ _ h _ => h
theorem ca_len : CA cLen := fun x r h st => by
  unfold cLen at h ⊢
  split at h
  · exact h
  · rename_i x _
    cases hs : seqD [] x with
    | none => rw [hs] at h; cases h
    | some l => rw [hs] at h; simp only [seqD_up hs]; exact h
  · cases h
theorem ca_tuple : CA cTuple := fun x r h st => by
  unfold cTuple at h ⊢
  split at h
  · rename_i x
    cases hs : seqD [] x with
    | none => rw [hs] at h; cases h
    | some l => rw [hs] at h; simp only [seqD_up hs]; exact h
  · cases h
theorem ca_list : CA cList := fun x r h st => by
  unfold cList at h ⊢
  split at h
  · rename_i x
    cases hs : seqD [] x with
    | none => rw [hs] at h; cases h
    | some l => rw [hs] at h; simp only [seqD_up hs]; exact h
  · cases h
theorem le_C {d} : LE (eC d) := fun sl r s h => by cases h; exact ⟨rfl, fun _ => rfl⟩
theorem le_var {i} : LE (eVar i) := fun sl r s h => by
  unfold eVar at h ⊢
  split at h <;> cases h <;> exact ⟨rfl, fun _ => by simp_all⟩
theorem le_pub (a : LE f) : LE (ePub f) := fun sl r s h => by
  unfold ePub at h ⊢
  cases h1 : f sl [] with
  | none => rw [h1] at h; cases h
  | some p =>
    obtain ⟨x, s1⟩ := p
    obtain ⟨rfl, e⟩ := a sl x s1 h1
    rw [h1] at h
    cases x <;> cases h <;> exact ⟨rfl, fun st => by rw [e st]⟩
theorem le_e1 {c} (a : LE f) (hc : C1 c) : LE (e1 f c) := fun sl r s h => by
  unfold e1 at h ⊢
  cases h1 : f sl [] with
  | none => rw [h1] at h; cases h
  | some p =>
    obtain ⟨x, s1⟩ := p
    obtain ⟨rfl, e⟩ := a sl x s1 h1
    rw [h1] at h
    simp only [Option.bind_some] at h
    cases h2 : c [] x.d with
    | none => rw [h2] at h; cases h
    | some y => rw [h2] at h; cases h; exact ⟨rfl, fun st => by rw [e st]; simp [hc _ _ h2 st]⟩
theorem le_e2 {c} (a : LE f) (b : LE g) (hc : C2 c) : LE (e2 f g c) := fun sl r s h => by
  unfold e2 at h ⊢
  cases h1 : f sl [] with
  | none => rw [h1] at h; cases h
  | some p =>
    obtain ⟨x, s1⟩ := p
    obtain ⟨rfl, e⟩ := a sl x s1 h1
    rw [h1] at h
    simp only [Option.bind_some] at h
    cases h2 : g sl [] with
    | none => rw [h2] at h; cases h
    | some q =>
      obtain ⟨y, s2⟩ := q
      obtain ⟨rfl, e'⟩ := b sl y s2 h2
      rw [h2] at h
      simp only [Option.bind_some] at h
      cases h3 : c [] x.d y.d with
      | none => rw [h3] at h; cases h
      | some z => rw [h3] at h; cases h; exact ⟨rfl, fun st => by rw [e st]; simp [e' st, hc _ _ _ h3 st]⟩
theorem la_nil : LA eNil := fun sl r s h => by cases h; exact ⟨rfl, fun _ => rfl⟩
theorem la_cons (a : LE f) (b : LA F) : LA (eCons f F) := fun sl r s h => by
  unfold eCons at h ⊢
  cases h1 : f sl [] with
  | none => rw [h1] at h; cases h
  | some p =>
    obtain ⟨x, s1⟩ := p
    obtain ⟨rfl, e⟩ := a sl x s1 h1
    rw [h1] at h
    simp only [Option.bind_some] at h
    cases h2 : F sl [] with
    | none => rw [h2] at h; cases h
    | some q =>
      obtain ⟨y, s2⟩ := q
      obtain ⟨rfl, e'⟩ := b sl y s2 h2
      rw [h2] at h
      cases h
      exact ⟨rfl, fun st => by rw [e st]; simp [e' st]⟩
theorem le_A {c} (a : LA F) (hc : CA c) : LE (eA F c) := fun sl r s h => by
  unfold eA at h ⊢
  cases h1 : F sl [] with
  | none => rw [h1] at h; cases h
  | some p =>
    obtain ⟨x, s1⟩ := p
    obtain ⟨rfl, e⟩ := a sl x s1 h1
    rw [h1] at h
    simp only [Option.bind_some] at h
    cases h2 : c [] (x.map R.d) with
    | none => rw [h2] at h; cases h
    | some y => rw [h2] at h; cases h; exact ⟨rfl, fun st => by rw [e st]; simp [hc _ _ h2 st]⟩
theorem le_disp {mk : List Vx.D → R} (a : LA F) : LE (fun sl st => (F sl st).bind fun p => (vals p.1).bind fun ds => if ds.length ≤ line then some (mk ds, p.2) else none) := fun sl r s h => by
  cases h1 : F sl [] with
  | none => simp only [h1] at h; cases h
  | some p =>
    obtain ⟨x, s1⟩ := p
    obtain ⟨rfl, e⟩ := a sl x s1 h1
    simp only [h1, Option.bind_some] at h
    cases h2 : vals x with
    | none => rw [h2] at h; cases h
    | some y =>
      rw [h2] at h
      simp only [Option.bind_some] at h
      split at h
      · rename_i hy; cases h; exact ⟨rfl, fun st => by simp only [e st, Option.bind_some, h2, if_pos hy]⟩
      · cases h
theorem le_tup (a : LA F) : LE (eTup F) := le_disp (mk := fun ds => .val (.tup ds)) a
theorem le_lst (a : LA F) : LE (eLst F) := le_disp (mk := .prv) a
theorem le_call {m : Mean} (hm : LM m) (a : LA F) : LE (eCall m F) := fun sl r s h => by
  unfold eCall at h ⊢
  cases h1 : F sl [] with
  | none => rw [h1] at h; cases h
  | some p =>
    obtain ⟨x, s1⟩ := p
    obtain ⟨rfl, e⟩ := a sl x s1 h1
    rw [h1] at h
    simp only [Option.bind_some] at h
    cases h2 : vals x with
    | none => rw [h2] at h; cases h
    | some y =>
      rw [h2] at h
      obtain ⟨rfl, e'⟩ := hm y r s h
      exact ⟨rfl, fun st => by rw [e st]; simp [h2, e' st]⟩
theorem le_callK {m : Mean} {ix} (hm : LM m) (a : LA F) : LE (eCallK m ix F) := fun sl r s h => by
  unfold eCallK at h ⊢
  cases h1 : F sl [] with
  | none => rw [h1] at h; cases h
  | some p =>
    obtain ⟨x, s1⟩ := p
    obtain ⟨rfl, e⟩ := a sl x s1 h1
    rw [h1] at h
    simp only [Option.bind_some] at h
    cases h2 : vals x with
    | none => rw [h2] at h; cases h
    | some y =>
      rw [h2] at h
      obtain ⟨rfl, e'⟩ := hm _ r s h
      exact ⟨rfl, fun st => by rw [e st]; simp [h2, e' st]⟩
theorem lb_T (a : LE f) : LB (eT f) := fun sl r s h => by
  unfold eT at h ⊢
  cases h1 : f sl [] with
  | none => rw [h1] at h; cases h
  | some p =>
    obtain ⟨x, s1⟩ := p
    obtain ⟨rfl, e⟩ := a sl x s1 h1
    rw [h1] at h
    split at h
    · rename_i b s2 h3; cases h3; cases h; exact ⟨rfl, fun st => by rw [e st]⟩
    · cases h
theorem lb_and (a : LB t) (b : LB u) : LB (tAndB t u) := fun sl r s h => by
  unfold tAndB at h ⊢
  cases h1 : t sl [] with
  | none => rw [h1] at h; cases h
  | some p =>
    obtain ⟨x, s1⟩ := p
    obtain ⟨rfl, e⟩ := a sl x s1 h1
    rw [h1] at h
    cases x with
    | false => cases h; exact ⟨rfl, fun st => by rw [e st]; rfl⟩
    | true => obtain ⟨rfl, e'⟩ := b sl r s h; exact ⟨rfl, fun st => by rw [e st]; exact e' st⟩
theorem lb_or (a : LB t) (b : LB u) : LB (tOrB t u) := fun sl r s h => by
  unfold tOrB at h ⊢
  cases h1 : t sl [] with
  | none => rw [h1] at h; cases h
  | some p =>
    obtain ⟨x, s1⟩ := p
    obtain ⟨rfl, e⟩ := a sl x s1 h1
    rw [h1] at h
    cases x with
    | true => cases h; exact ⟨rfl, fun st => by rw [e st]; rfl⟩
    | false => obtain ⟨rfl, e'⟩ := b sl r s h; exact ⟨rfl, fun st => by rw [e st]; exact e' st⟩
theorem lb_not (a : LB t) : LB (tNotB t) := fun sl r s h => by
  unfold tNotB at h ⊢
  cases h1 : t sl [] with
  | none => rw [h1] at h; cases h
  | some p =>
    obtain ⟨x, s1⟩ := p
    obtain ⟨rfl, e⟩ := a sl x s1 h1
    rw [h1] at h
    cases h
    exact ⟨rfl, fun st => by rw [e st]; rfl⟩
theorem lb_yes : LB tYesB := fun sl r s h => by cases h; exact ⟨rfl, fun _ => rfl⟩
theorem le_if (c : LB t) (a : LE f) (b : LE g) : LE (eIf t f g) := fun sl r s h => by
  unfold eIf at h ⊢
  cases h1 : t sl [] with
  | none => rw [h1] at h; cases h
  | some p =>
    obtain ⟨x, s1⟩ := p
    obtain ⟨rfl, e⟩ := c sl x s1 h1
    rw [h1] at h
    cases x with
    | true => obtain ⟨rfl, e'⟩ := a sl r s h; exact ⟨rfl, fun st => by rw [e st]; exact e' st⟩
    | false => obtain ⟨rfl, e'⟩ := b sl r s h; exact ⟨rfl, fun st => by rw [e st]; exact e' st⟩
theorem le_notV (a : LE f) : LE (eNotV f) := le_e1 a fun _ _ h _ => h
theorem le_andV (a : LE f) (b : LE g) : LE (eAndV f g) := fun sl r s h => by
  unfold eAndV at h ⊢
  cases h1 : f sl [] with
  | none => rw [h1] at h; cases h
  | some p =>
    obtain ⟨x, s1⟩ := p
    obtain ⟨rfl, e⟩ := a sl x s1 h1
    rw [h1] at h
    split at h
    · rename_i h3; cases h3; obtain ⟨rfl, e'⟩ := b sl r s h; exact ⟨rfl, fun st => by rw [e st]; exact e' st⟩
    · rename_i h3; cases h3; cases h; exact ⟨rfl, fun st => by rw [e st]⟩
    · cases h
theorem le_orV (a : LE f) (b : LE g) : LE (eOrV f g) := fun sl r s h => by
  unfold eOrV at h ⊢
  cases h1 : f sl [] with
  | none => rw [h1] at h; cases h
  | some p =>
    obtain ⟨x, s1⟩ := p
    obtain ⟨rfl, e⟩ := a sl x s1 h1
    rw [h1] at h
    split at h
    · rename_i h3; cases h3; obtain ⟨rfl, e'⟩ := b sl r s h; exact ⟨rfl, fun st => by rw [e st]; exact e' st⟩
    · rename_i h3; cases h3; cases h; exact ⟨rfl, fun st => by rw [e st]⟩
    · cases h
theorem le_neg (a : LE f) : LE (eNeg f) := le_e1 a c1_neg
theorem lo_none : LO oNone := fun sl r s h => by cases h; exact ⟨rfl, fun _ => rfl⟩
theorem lo_some (a : LE f) : LO (oSome f) := fun sl r s h => by
  unfold oSome at h ⊢
  cases h1 : f sl [] with
  | none => rw [h1] at h; cases h
  | some p =>
    obtain ⟨x, s1⟩ := p
    obtain ⟨rfl, e⟩ := a sl x s1 h1
    rw [h1] at h
    split at h
    · rename_i i s2 h3; cases h3; cases h; exact ⟨rfl, fun st => by rw [e st]⟩
    · cases h
theorem cSl_up {x : Vx.D} {lo hi r} (h : cSl [] x lo hi = some r) (st : Amb) : cSl st x lo hi = some r := by
  unfold cSl at h ⊢
  split at h
  · exact h
  · cases hs : seqD [] x with
    | none => rw [hs] at h; cases h
    | some l => rw [hs] at h; simp only [seqD_up hs]; exact h
theorem le_sl {l k : EvO} (a : LE f) (b : LO l) (c : LO k) : LE (eSl f l k) := fun sl r s h => by
  unfold eSl at h ⊢
  cases h1 : f sl [] with
  | none => rw [h1] at h; cases h
  | some p =>
    obtain ⟨x, s1⟩ := p
    obtain ⟨rfl, e⟩ := a sl x s1 h1
    rw [h1] at h
    simp only [Option.bind_some] at h
    cases h2 : l sl [] with
    | none => rw [h2] at h; cases h
    | some q =>
      obtain ⟨y, s2⟩ := q
      obtain ⟨rfl, e'⟩ := b sl y s2 h2
      rw [h2] at h
      simp only [Option.bind_some] at h
      cases h3 : k sl [] with
      | none => rw [h3] at h; cases h
      | some q =>
        obtain ⟨z, s3⟩ := q
        obtain ⟨rfl, e''⟩ := c sl z s3 h3
        rw [h3] at h
        simp only [Option.bind_some] at h
        cases h4 : cSl [] x.d y z with
        | none => rw [h4] at h; cases h
        | some w => rw [h4] at h; cases h; exact ⟨rfl, fun st => by rw [e st]; simp [e' st, e'' st, cSl_up h4 st]⟩
theorem li_seq (a : LE f) : LI (iSeq f) := fun sl r s h => by
  unfold iSeq at h ⊢
  cases h1 : f sl [] with
  | none => rw [h1] at h; cases h
  | some p =>
    obtain ⟨x, s1⟩ := p
    obtain ⟨rfl, e⟩ := a sl x s1 h1
    rw [h1] at h
    split at h
    · rename_i h3; cases h3; cases h; exact ⟨rfl, fun st => by rw [e st]⟩
    · rename_i h3; cases h3; cases h; exact ⟨rfl, fun st => by rw [e st]⟩
    · rename_i h3; cases h3; cases h; exact ⟨rfl, fun st => by rw [e st]⟩
    · cases h
theorem li_tup (a : LE f) : LI (iTupD f) := fun sl r s h => by
  unfold iTupD at h ⊢
  cases h1 : f sl [] with
  | none => rw [h1] at h; cases h
  | some p =>
    obtain ⟨x, s1⟩ := p
    obtain ⟨rfl, e⟩ := a sl x s1 h1
    rw [h1] at h
    split at h
    · rename_i h3; cases h3; cases h; exact ⟨rfl, fun st => by rw [e st]⟩
    · cases h
theorem li_rg1 (a : LA F) : LI (iRg1 F) := fun sl r s h => by
  unfold iRg1 at h ⊢
  cases h1 : F sl [] with
  | none => rw [h1] at h; cases h
  | some p =>
    obtain ⟨x, s1⟩ := p
    obtain ⟨rfl, e⟩ := a sl x s1 h1
    rw [h1] at h
    split at h
    · rename_i h3; cases h3
      split at h
      · rename_i h4; cases h; exact ⟨rfl, fun st => by rw [e st]; simp only [if_pos h4]⟩
      · cases h
    · cases h
theorem li_rg2 (a : LA F) : LI (iRg2 F) := fun sl r s h => by
  unfold iRg2 at h ⊢
  cases h1 : F sl [] with
  | none => rw [h1] at h; cases h
  | some p =>
    obtain ⟨x, s1⟩ := p
    obtain ⟨rfl, e⟩ := a sl x s1 h1
    rw [h1] at h
    split at h
    · rename_i h3; cases h3
      split at h
      · rename_i h4; cases h; exact ⟨rfl, fun st => by rw [e st]; simp only [if_pos h4]⟩
      · cases h
    · cases h
theorem evD_up (a : LE f) {sl d s} (h : evD f sl [] = some (d, s)) : s = [] ∧ ∀ st, evD f sl st = some (d, st) := by
  unfold evD at h ⊢
  cases h1 : ePub f sl [] with
  | none => rw [h1] at h; cases h
  | some p =>
    obtain ⟨x, s1⟩ := p
    obtain ⟨rfl, e⟩ := le_pub a sl x s1 h1
    rw [h1] at h
    split at h
    · rename_i h3; cases h3; cases h; exact ⟨rfl, fun st => by rw [e st]⟩
    · cases h
theorem lcL_up {tg : Tg} (a : LB t) (b : LE f) {sl : Sls} : ∀ {l r s}, lcL tg t f sl l [] = some (r, s) → s = [] ∧ ∀ st, lcL tg t f sl l st = some (r, st)
  | [], r, s, h => by cases h; exact ⟨rfl, fun _ => rfl⟩
  | d :: l, r, s, h => by
    rw [lcL] at h
    cases h1 : put tg d sl with
    | none => rw [h1] at h; cases h
    | some sl1 =>
      rw [h1] at h
      simp only [Option.bind_some] at h
      cases h2 : t sl1 [] with
      | none => rw [h2] at h; cases h
      | some p =>
        obtain ⟨x, s1⟩ := p
        obtain ⟨rfl, e⟩ := a sl1 x s1 h2
        rw [h2] at h
        simp only [Option.bind_some] at h
        cases x with
        | false =>
          simp only [Bool.false_eq_true, if_false] at h
          obtain ⟨rfl, e'⟩ := lcL_up a b h
          exact ⟨rfl, fun st => by rw [lcL, h1]; simp [e st, e' st]⟩
        | true =>
          simp only [if_true] at h
          cases h3 : evD f sl1 [] with
          | none => rw [h3] at h; cases h
          | some q =>
            obtain ⟨y, s2⟩ := q
            obtain ⟨rfl, e'⟩ := evD_up b h3
            rw [h3] at h
            simp only [Option.bind_some] at h
            cases h4 : lcL tg t f sl l [] with
            | none => rw [h4] at h; cases h
            | some q =>
              obtain ⟨z, s3⟩ := q
              obtain ⟨rfl, e''⟩ := lcL_up a b h4
              rw [h4] at h
              cases h
              exact ⟨rfl, fun st => by rw [lcL, h1]; simp [e st, e' st, e'' st]⟩
theorem le_lc {fi : EvI} {tg : Tg} {vs} (i : LI fi) (a : LB t) (b : LE f) : LE (eLc fi tg t f vs) := fun sl r s h => by
  unfold eLc at h ⊢
  split at h
  case isFalse => cases h
  rename_i hn
  cases h1 : fi sl [] with
  | none => rw [h1] at h; cases h
  | some p =>
    obtain ⟨l, s1⟩ := p
    obtain ⟨rfl, e⟩ := i sl l s1 h1
    rw [h1] at h
    simp only [Option.bind_some] at h
    cases h2 : lcL tg t f (wipeS sl vs) l [] with
    | none => rw [h2] at h; cases h
    | some q =>
      obtain ⟨m, s2⟩ := q
      obtain ⟨rfl, e'⟩ := lcL_up a b h2
      rw [h2] at h
      simp only [Option.bind_some] at h
      split at h
      · rename_i hl; cases h; exact ⟨rfl, fun st => by rw [if_pos hn, e st]; simp [e' st, hl]⟩
      · cases h
theorem lcL2_up {tg tg1 : Tg} {fi1 : EvI} {vs1} (a : LB t) (i1 : LI fi1) (a1 : LB u) (b : LE f) {sl : Sls} : ∀ {l r s}, lcL2 tg t fi1 tg1 u f vs1 sl l [] = some (r, s) → s = [] ∧ ∀ st, lcL2 tg t fi1 tg1 u f vs1 sl l st = some (r, st)
  | [], r, s, h => by cases h; exact ⟨rfl, fun _ => rfl⟩
  | d :: l, r, s, h => by
    rw [lcL2] at h
    cases h1 : put tg d sl with
    | none => rw [h1] at h; cases h
    | some sl1 =>
      rw [h1] at h
      simp only [Option.bind_some] at h
      cases h2 : t sl1 [] with
      | none => rw [h2] at h; cases h
      | some p =>
        obtain ⟨x, s1⟩ := p
        obtain ⟨rfl, e⟩ := a sl1 x s1 h2
        rw [h2] at h
        simp only [Option.bind_some] at h
        cases x with
        | false =>
          simp only [Bool.false_eq_true, if_false] at h
          obtain ⟨rfl, e'⟩ := lcL2_up a i1 a1 b h
          exact ⟨rfl, fun st => by rw [lcL2, h1]; simp [e st, e' st]⟩
        | true =>
          simp only [if_true] at h
          split at h
          case isFalse => cases h
          rename_i hn
          cases h3 : fi1 sl1 [] with
          | none => rw [h3] at h; cases h
          | some q =>
            obtain ⟨y, s2⟩ := q
            obtain ⟨rfl, e'⟩ := i1 _ _ _ h3
            rw [h3] at h
            simp only [Option.bind_some] at h
            cases h5 : lcL tg1 u f (wipeS sl1 vs1) y [] with
            | none => rw [h5] at h; cases h
            | some q =>
              obtain ⟨w, s4⟩ := q
              obtain ⟨rfl, e3⟩ := lcL_up a1 b h5
              rw [h5] at h
              simp only [Option.bind_some] at h
              cases h4 : lcL2 tg t fi1 tg1 u f vs1 sl l [] with
              | none => rw [h4] at h; cases h
              | some q =>
                obtain ⟨z, s3⟩ := q
                obtain ⟨rfl, e''⟩ := lcL2_up a i1 a1 b h4
                rw [h4] at h
                cases h
                exact ⟨rfl, fun st => by rw [lcL2, h1]; simp [e st, e' st, e'' st, e3 st, hn]⟩
theorem le_lc2 {fi fi1 : EvI} {tg tg1 : Tg} {vs vs1} (i : LI fi) (a : LB t) (i1 : LI fi1) (a1 : LB u) (b : LE f) : LE (eLc2 fi tg t fi1 tg1 u f vs vs1) := fun sl r s h => by
  unfold eLc2 at h ⊢
  split at h
  case isFalse => cases h
  rename_i hn
  cases h1 : fi sl [] with
  | none => rw [h1] at h; cases h
  | some p =>
    obtain ⟨l, s1⟩ := p
    obtain ⟨rfl, e⟩ := i sl l s1 h1
    rw [h1] at h
    simp only [Option.bind_some] at h
    cases h2 : lcL2 tg t fi1 tg1 u f vs1 (wipeS sl vs) l [] with
    | none => rw [h2] at h; cases h
    | some q =>
      obtain ⟨m, s2⟩ := q
      obtain ⟨rfl, e'⟩ := lcL2_up a i1 a1 b h2
      rw [h2] at h
      simp only [Option.bind_some] at h
      split at h
      · rename_i hl; cases h; exact ⟨rfl, fun st => by rw [if_pos hn, e st]; simp [e' st, hl]⟩
      · cases h
/-! statements -/
variable {A B : SvF}
theorem ls_seq (a : LS A) (b : LS B) : LS (sSeq A B) := fun sl o h => by
  unfold sSeq at h ⊢
  cases h1 : A sl [] with
  | none => rw [h1] at h; cases h
  | some p =>
    obtain ⟨e0, e⟩ := a sl p h1
    rw [h1] at h
    cases p with
    | nx sl' s1 =>
      cases (show s1 = [] from e0)
      obtain ⟨e1, e2⟩ := b sl' o h
      exact ⟨e1, fun st => by rw [e st]; exact e2 st⟩
    | bk sl' s1 => cases h; exact ⟨e0, fun st => by rw [e st]; rfl⟩
    | ct sl' s1 => cases h; exact ⟨e0, fun st => by rw [e st]; rfl⟩
    | rt r s1 => cases h; exact ⟨e0, fun st => by rw [e st]; rfl⟩
theorem ls_nil : LS sNil := fun sl o h => by cases h; exact ⟨rfl, fun _ => rfl⟩
theorem ls_pass : LS sPass := fun sl o h => by cases h; exact ⟨rfl, fun _ => rfl⟩
theorem ls_brk : LS sBreak := fun sl o h => by cases h; exact ⟨rfl, fun _ => rfl⟩
theorem ls_cont : LS sCont := fun sl o h => by cases h; exact ⟨rfl, fun _ => rfl⟩
theorem ls_retN : LS sRetN := fun sl o h => by cases h; exact ⟨rfl, fun _ => rfl⟩
theorem ls_if (c : LB t) (a : LS A) (b : LS B) : LS (sIf t A B) := fun sl o h => by
  unfold sIf at h ⊢
  cases h1 : t sl [] with
  | none => rw [h1] at h; cases h
  | some p =>
    obtain ⟨x, s1⟩ := p
    obtain ⟨rfl, e⟩ := c sl x s1 h1
    rw [h1] at h
    cases x with
    | true => obtain ⟨e1, e2⟩ := a sl o h; exact ⟨e1, fun st => by rw [e st]; exact e2 st⟩
    | false => obtain ⟨e1, e2⟩ := b sl o h; exact ⟨e1, fun st => by rw [e st]; exact e2 st⟩
theorem ls_ret (a : LE f) : LS (sRet f) := fun sl o h => by
  unfold sRet at h ⊢
  cases h1 : f sl [] with
  | none => rw [h1] at h; cases h
  | some p =>
    obtain ⟨x, s1⟩ := p
    obtain ⟨rfl, e⟩ := a sl x s1 h1
    rw [h1] at h
    cases x <;> cases h <;> exact ⟨rfl, fun st => by rw [e st]; rfl⟩
theorem ls_retO {i} : LS (sRetO i) := fun sl o h => by
  unfold sRetO at h ⊢
  split at h
  · cases h; exact ⟨rfl, fun st => rfl⟩
  · cases h
theorem ls_drop (a : LE f) : LS (sDrop f) := fun sl o h => by
  unfold sDrop at h ⊢
  cases h1 : f sl [] with
  | none => rw [h1] at h; cases h
  | some p =>
    obtain ⟨x, s1⟩ := p
    obtain ⟨rfl, e⟩ := a sl x s1 h1
    rw [h1] at h
    cases h; exact ⟨rfl, fun st => by rw [e st]; rfl⟩
theorem ls_asg {tg : Tg} (a : LE f) : LS (sAsg tg f) := fun sl o h => by
  unfold sAsg at h ⊢
  cases h1 : ePub f sl [] with
  | none => rw [h1] at h; cases h
  | some p =>
    obtain ⟨x, s1⟩ := p
    obtain ⟨rfl, e⟩ := le_pub a sl x s1 h1
    rw [h1] at h
    cases x with
    | val d =>
      simp only at h
      cases h2 : put tg d sl with
      | none => rw [h2] at h; cases h
      | some sl' => rw [h2] at h; cases h; exact ⟨rfl, fun st => by rw [e st]; simp [h2]; rfl⟩
    | prv d => cases h
    | bor d => cases h
theorem ls_own {i} (a : LE f) : LS (sOwn i f) := fun sl o h => by
  unfold sOwn at h ⊢
  cases h1 : f sl [] with
  | none => rw [h1] at h; cases h
  | some p =>
    obtain ⟨x, s1⟩ := p
    obtain ⟨rfl, e⟩ := a sl x s1 h1
    rw [h1] at h
    cases x with
    | prv d =>
      simp only at h
      split at h
      · rename_i hi; cases h; exact ⟨rfl, fun st => by rw [e st]; simp [hi]; rfl⟩
      · cases h
    | val d => cases h
    | bor d => cases h
theorem ls_move {i j} : LS (sMove i j) := fun sl o h => by
  unfold sMove at h ⊢
  split at h
  · rename_i hl
    split at h
    · rename_i hi; cases h; exact ⟨rfl, fun st => by rw [if_pos hi]; rfl⟩
    · cases h
  · cases h
theorem ls_app {i} (a : LE f) : LS (sApp i f) := fun sl o h => by
  unfold sApp at h ⊢
  cases h1 : ePub f sl [] with
  | none => rw [h1] at h; simp at h
  | some p =>
    obtain ⟨x, s1⟩ := p
    obtain ⟨rfl, e⟩ := le_pub a sl x s1 h1
    rw [h1] at h
    split at h
    · rename_i l d s2 hl h3
      cases h3
      split at h
      · rename_i hi; cases h; exact ⟨rfl, fun st => by rw [hl, e st]; simp [hi]; rfl⟩
      · cases h
    · cases h
theorem ls_ext {i} (a : LE f) : LS (sExt i f) := fun sl o h => by
  unfold sExt at h ⊢
  cases h1 : f sl [] with
  | none => rw [h1] at h; simp at h
  | some p =>
    obtain ⟨x, s1⟩ := p
    obtain ⟨rfl, e⟩ := a sl x s1 h1
    rw [h1] at h
    split at h
    · rename_i l r s2 hl h3
      cases h3
      split at h
      · rename_i m hm
        split at h
        · rename_i hi; cases h; exact ⟨rfl, fun st => by rw [hl, e st]; simp [hm, hi]; rfl⟩
        · cases h
      · cases h
    · cases h
theorem ls_popA {tg : Tg} {i} : LS (sPopA tg i) := fun sl o h => by
  unfold sPopA at h ⊢
  split at h
  · rename_i l hl
    split at h
    · rename_i d hd
      cases h2 : put tg d (sl.set i (.own l.dropLast)) with
      | none => rw [h2] at h; cases h
      | some sl' => rw [h2] at h; cases h; exact ⟨rfl, fun st => rfl⟩
    · cases h
  · cases h
theorem ls_par {i j o1 o2} (a : LA F) : LS (sPar i j o1 o2 F) := fun sl o h => by
  unfold sPar at h ⊢
  cases h1 : F sl [] with
  | none => rw [h1] at h; cases h
  | some p =>
    obtain ⟨x, s1⟩ := p
    obtain ⟨rfl, e⟩ := a sl x s1 h1
    rw [h1] at h
    split at h
    · rename_i r1 r2 s2 h3
      cases h3
      cases h2 : putK i o1 r1 sl with
      | none => rw [h2] at h; cases h
      | some sl1 =>
        rw [h2] at h
        simp only [Option.bind_some] at h
        cases h4 : putK j o2 r2 sl1 with
        | none => rw [h4] at h; cases h
        | some sl2 => rw [h4] at h; cases h; exact ⟨rfl, fun st => by rw [e st]; simp [h2, h4]; rfl⟩
    · cases h
theorem forL_up {tg : Tg} (b : LS B) : ∀ {l sl o}, forL tg B l sl [] = some o → o.am = [] ∧ ∀ st, forL tg B l sl st = some (o.to st)
  | [], sl, o, h => by cases h; exact ⟨rfl, fun _ => rfl⟩
  | d :: l, sl, o, h => by
    rw [forL] at h
    cases h1 : put tg d sl with
    | none => rw [h1] at h; cases h
    | some sl1 =>
      rw [h1] at h
      simp only [Option.bind_some] at h
      cases h2 : B sl1 [] with
      | none => rw [h2] at h; cases h
      | some p =>
        obtain ⟨e0, e⟩ := b sl1 p h2
        rw [h2] at h
        simp only [Option.bind_some] at h
        cases p with
        | nx sl2 s1 =>
          cases (show s1 = [] from e0)
          obtain ⟨e1, e2⟩ := forL_up b h
          exact ⟨e1, fun st => by rw [forL, h1]; simp only [Option.bind_some, e st, Out.to]; exact e2 st⟩
        | ct sl2 s1 =>
          cases (show s1 = [] from e0)
          obtain ⟨e1, e2⟩ := forL_up b h
          exact ⟨e1, fun st => by rw [forL, h1]; simp only [Option.bind_some, e st, Out.to]; exact e2 st⟩
        | bk sl2 s1 => cases h; exact ⟨e0, fun st => by rw [forL, h1]; simp only [Option.bind_some, e st, Out.to]⟩
        | rt r s1 => cases h; exact ⟨e0, fun st => by rw [forL, h1]; simp only [Option.bind_some, e st, Out.to]⟩
theorem ls_for {fi : EvI} {tg : Tg} (i : LI fi) (b : LS B) : LS (sFor fi tg B) := fun sl o h => by
  unfold sFor at h ⊢
  cases h1 : fi sl [] with
  | none => rw [h1] at h; cases h
  | some p =>
    obtain ⟨l, s1⟩ := p
    obtain ⟨rfl, e⟩ := i sl l s1 h1
    rw [h1] at h
    obtain ⟨e1, e2⟩ := forL_up b h
    exact ⟨e1, fun st => by rw [e st]; exact e2 st⟩
theorem whL_up (c : LB t) (b : LS B) : ∀ {n sl o}, whL t B n sl [] = some o → o.am = [] ∧ ∀ st, whL t B n sl st = some (o.to st)
  | 0, sl, o, h => by cases h
  | n + 1, sl, o, h => by
    rw [whL] at h
    cases h1 : t sl [] with
    | none => rw [h1] at h; cases h
    | some p =>
      obtain ⟨x, s1⟩ := p
      obtain ⟨rfl, e⟩ := c sl x s1 h1
      rw [h1] at h
      simp only [Option.bind_some] at h
      cases x with
      | false =>
        simp only [Bool.false_eq_true, if_false] at h
        cases h
        exact ⟨rfl, fun st => by rw [whL, e st]; rfl⟩
      | true =>
        simp only [if_true] at h
        cases h2 : B sl [] with
        | none => rw [h2] at h; cases h
        | some p =>
          obtain ⟨e0, e'⟩ := b sl p h2
          rw [h2] at h
          simp only [Option.bind_some] at h
          cases p with
          | nx sl2 s1 =>
            cases (show s1 = [] from e0)
            obtain ⟨e1, e2⟩ := whL_up c b h
            exact ⟨e1, fun st => by rw [whL, e st]; simp only [Option.bind_some, if_true, e' st, Out.to]; exact e2 st⟩
          | ct sl2 s1 =>
            cases (show s1 = [] from e0)
            obtain ⟨e1, e2⟩ := whL_up c b h
            exact ⟨e1, fun st => by rw [whL, e st]; simp only [Option.bind_some, if_true, e' st, Out.to]; exact e2 st⟩
          | bk sl2 s1 => cases h; exact ⟨e0, fun st => by rw [whL, e st]; simp only [Option.bind_some, if_true, e' st, Out.to]⟩
          | rt r s1 => cases h; exact ⟨e0, fun st => by rw [whL, e st]; simp only [Option.bind_some, if_true, e' st, Out.to]⟩
theorem ls_while {n} (c : LB t) (b : LS B) : LS (sWhile n t B) := fun sl o h => whL_up c b h
theorem lm_mean {N n} (b : LS B) : LM (meanOf N n B) := fun ds r s h => by
  unfold meanOf at h ⊢
  cases h1 : B (ds.map Sl.pub ++ List.replicate (N - n) .un) [] with
  | none => rw [h1] at h; cases h
  | some p =>
    obtain ⟨e0, e⟩ := b _ p h1
    rw [h1] at h
    cases p with
    | nx sl s1 => cases h; exact ⟨e0, fun st => by rw [e st]; rfl⟩
    | rt r s1 => cases h; exact ⟨e0, fun st => by rw [e st]; rfl⟩
    | bk sl s1 => cases h
    | ct sl s1 => cases h
end
end Vx


set_option Elab.async false
set_option linter.all false
set_option maxRecDepth 100000
namespace K06
open PySem PySem.Spec L2 Vx

def top (i : Nat) : Stmt := PySem.Challenge.pw_liarschange_k06_patterns_are_lots_of_two.main.body.getD i (.Pass ⟨0, 0, 0, 0⟩)
abbrev st_all_lots : Stmt := top 1
abbrev st_faulty_ones : Stmt := top 3
abbrev st_is_apart : Stmt := top 4
abbrev st_all_patterns : Stmt := top 5
abbrev st_all_goes : Stmt := top 6
abbrev st__law_deal : Stmt := top 8
abbrev st__law_any : Stmt := top 9
abbrev st__law_is_kind : Stmt := top 10
abbrev st__law_same : Stmt := top 11
abbrev st__law_all : Stmt := top 12
abbrev st__law_power : Stmt := top 13
abbrev st__law_machines_of : Stmt := top 14
abbrev st__law_pattern_lot : Stmt := top 15
abbrev st__law_all_goes : Stmt := top 16
abbrev st_law : Stmt := top 17
structure Txt (mg : Str → Option Value) : Prop where
  z_min : mg "min" = none
  z_range : mg "range" = none
  z_sorted : mg "sorted" = none
  z_tuple : mg "tuple" = none
  z_len : mg "len" = none
  z_list : mg "list" = none
  z_int : mg "int" = none
  z_abs : mg "abs" = none
  z_isinstance : mg "isinstance" = none
  z_str : mg "str" = none
  z_bool : mg "bool" = none
  z_dict : mg "dict" = none
/-! all_lots -/
theorem sc_all_lots : FnScope ["machines", "many", "found", "longest", "_", "longer", "lot", "first", "machine"] ["machines", "many"] (defScope st_all_lots) := ⟨rfl, rfl, rfl, by decide +kernel, rfl, by decide +kernel, by decide +kernel⟩
def b_all_lots : SvF := (sSeq (sOwn 2 (eLst (eCons (eTup eNil) eNil))) (sSeq (sAsg (.name 3) (eLst (eCons (eTup eNil) eNil))) (sSeq (sFor (iRg1 (eCons (eA (eCons (eVar 1) (eCons (e2 (eVar 0) (eC (.int 1)) (cI fSub)) eNil)) cMin) eNil)) (.name 4) (sSeq (sOwn 5 (eLst eNil)) (sSeq (sFor (iSeq (eVar 3)) (.name 6) (sSeq (sAsg (.name 7) (eIf (eT (e2 (eVar 6) (eTup eNil) cEq)) (eC (.int 0)) (e2 (e2 (eVar 6) (eNeg (eC (.int 1))) cIx) (eC (.int 1)) cAdd))) (sExt 5 (eLc (iRg2 (eCons (eVar 7) (eCons (eVar 0) eNil))) (.name 8) tYesB (e2 (eVar 6) (eTup (eCons (eVar 8) eNil)) cAdd) [8])))) (sSeq (sExt 2 (eVar 5)) (sMove 3 5))))) (sRet (eA (eCons (eA (eCons (eVar 2) eNil) cSort) eNil) cTuple)))))
def m_all_lots : Mean := meanOf 9 2 b_all_lots
theorem lm_all_lots : LM m_all_lots := lm_mean (ls_seq (ls_own (le_lst (la_cons (le_tup la_nil) la_nil))) (ls_seq (ls_asg (le_lst (la_cons (le_tup la_nil) la_nil))) (ls_seq (ls_for (li_rg1 (la_cons (le_A (la_cons le_var (la_cons (le_e2 le_var le_C c2_I) la_nil)) ca_min) la_nil)) (ls_seq (ls_own (le_lst la_nil)) (ls_seq (ls_for (li_seq le_var) (ls_seq (ls_asg (le_if (lb_T (le_e2 le_var (le_tup la_nil) c2_eq)) le_C (le_e2 (le_e2 le_var (le_neg le_C) c2_ix) le_C c2_add))) (ls_ext (le_lc (li_rg2 (la_cons le_var (la_cons le_var la_nil))) lb_yes (le_e2 le_var (le_tup (la_cons le_var la_nil)) c2_add))))) (ls_seq (ls_ext le_var) ls_move)))) (ls_ret (le_A (la_cons (le_A (la_cons le_var la_nil) ca_sort) la_nil) ca_tuple)))))
theorem ok_all_lots {P : Program} {w : World} {K : PySem.W.Frag} {mg : Str → Option Value} {base : Heap} {f : Addr} {fd : FuncData} (F : Fun K "all_lots" "all_lots" st_all_lots f fd) (T : Txt mg)  : VFn P w K mg base 1 f fd ["machines", "many"] m_all_lots :=
  okV F sc_all_lots fun cdv A outer s H E hr => (vss_cons (vs_own 2 (ve_lst (va_cons (ve_tup va_nil) va_nil)) sc_all_lots.nd) (vss_cons (vs_asg (ve_lst (va_cons (ve_tup va_nil) va_nil)) (vg_name 3 sc_all_lots.nd)) (vss_cons (vs_for PassesOwn.never rfl (vi_rg1 (by rfl) T.z_range (va_cons (ve_min2 rfl (by rfl) T.z_min (va_cons (ve_var 1) (va_cons (ve_sub (ve_var 0) ve_int) va_nil))) va_nil)) (vg_name 4 sc_all_lots.nd) (vss_cons (vs_own 5 (ve_lst va_nil) sc_all_lots.nd) (vss_cons (vs_for PassesOwn.never rfl (vi_list (ve_var 3)) (vg_name 6 sc_all_lots.nd) (vss_cons (vs_asg (ve_if (vt_eq (hu64 hr) (ve_var 6) (ve_tup va_nil)) ve_int (ve_add (ve_ix (ve_var 6) (ve_negN ve_int)) ve_int)) (vg_name 7 sc_all_lots.nd)) (vss_one (vs_extend 5 (ve_lc rfl sc_all_lots.nd (vi_rg2 (by rfl) T.z_range (va_cons (ve_var 7) (va_cons (ve_var 0) va_nil))) (blkOk_by (own := [("machine", 8)]) (by rfl)) (fun _ _ _ _ _ => (vg_name 8 sc_all_lots.nd)) (fun _ _ _ _ _ => vts_nil) (fun _ _ _ _ _ => (ve_add (ve_var 6) (ve_tup (va_cons (ve_var 8) va_nil))))))))) (vss_cons (vs_extend 2 (ve_var 5)) (vss_one (vs_move 3 5 sc_all_lots.nd)))))) (vss_one (vs_ret (ve_tuple (by rfl) T.z_tuple (va_cons (ve_sorted (hu64 hr) (by rfl) T.z_sorted (va_cons (ve_var 2) va_nil)) va_nil)))))))
/-! faulty_ones -/
theorem sc_faulty_ones : FnScope ["pattern"] ["pattern"] (defScope st_faulty_ones) := ⟨rfl, rfl, rfl, by decide +kernel, rfl, by decide +kernel, by decide +kernel⟩
def b_faulty_ones : SvF := (sRet (eA (eCons (eA (eCons (e2 (e2 (eVar 0) (eC (.int 0)) cIx) (e2 (eVar 0) (eC (.int 1)) cIx) cAdd) eNil) cSort) eNil) cTuple))
def m_faulty_ones : Mean := meanOf 1 1 b_faulty_ones
theorem lm_faulty_ones : LM m_faulty_ones := lm_mean (ls_ret (le_A (la_cons (le_A (la_cons (le_e2 (le_e2 le_var le_C c2_ix) (le_e2 le_var le_C c2_ix) c2_add) la_nil) ca_sort) la_nil) ca_tuple))
theorem ok_faulty_ones {P : Program} {w : World} {K : PySem.W.Frag} {mg : Str → Option Value} {base : Heap} {f : Addr} {fd : FuncData} (F : Fun K "faulty_ones" "faulty_ones" st_faulty_ones f fd) (T : Txt mg)  : VFn P w K mg base 1 f fd ["pattern"] m_faulty_ones :=
  okV F sc_faulty_ones fun cdv A outer s H E hr => (vss_one (vs_ret (ve_tuple (by rfl) T.z_tuple (va_cons (ve_sorted (hu64 hr) (by rfl) T.z_sorted (va_cons (ve_add (ve_ix (ve_var 0) ve_int) (ve_ix (ve_var 0) ve_int)) va_nil)) va_nil))))
/-! is_apart -/
theorem sc_is_apart : FnScope ["silent", "liars", "machine"] ["silent", "liars"] (defScope st_is_apart) := ⟨rfl, rfl, rfl, by decide +kernel, rfl, by decide +kernel, by decide +kernel⟩
def b_is_apart : SvF := (sRet (e2 (eLc (iTupD (eVar 0)) (.name 2) (eT (e2 (eVar 2) (eVar 1) (cIn false))) (eVar 2) [2]) (eLst eNil) cEq))
def m_is_apart : Mean := meanOf 3 2 b_is_apart
theorem lm_is_apart : LM m_is_apart := lm_mean (ls_ret (le_e2 (le_lc (li_tup le_var) (lb_T (le_e2 le_var le_var c2_in)) le_var) (le_lst la_nil) c2_eq))
theorem ok_is_apart {P : Program} {w : World} {K : PySem.W.Frag} {mg : Str → Option Value} {base : Heap} {f : Addr} {fd : FuncData} (F : Fun K "is_apart" "is_apart" st_is_apart f fd) (T : Txt mg)  : VFn P w K mg base 1 f fd ["silent", "liars"] m_is_apart :=
  okV F sc_is_apart fun cdv A outer s H E hr => (vss_one (vs_ret (ve_eq (hu64 hr) (ve_lc rfl sc_is_apart.nd (vi_tup (ve_var 0)) (blkOk_by (own := [("machine", 2)]) (by rfl)) (fun _ _ _ _ _ => (vg_name 2 sc_is_apart.nd)) (fun _ _ _ _ _ => (vts_one (vt_in (hu65 hr) (ve_var 2) (ve_var 1)))) (fun _ _ _ _ _ => (ve_var 2))) (ve_lst va_nil))))
/-! all_goes -/
theorem sc_all_goes : FnScope ["patterns", "numbers", "one", "other"] ["patterns"] (defScope st_all_goes) := ⟨rfl, rfl, rfl, by decide +kernel, rfl, by decide +kernel, by decide +kernel⟩
def b_all_goes : SvF := (sSeq (sAsg (.name 1) (e1 (eA (eCons (eVar 0) eNil) cLen) (cRg1 .prv))) (sRet (eA (eCons (eLc2 (iSeq (eVar 1)) (.name 2) tYesB (iSeq (eVar 1)) (.name 3) tYesB (eTup (eCons (eVar 2) (eCons (eVar 3) eNil))) [2, 3] [3]) eNil) cTuple)))
def m_all_goes : Mean := meanOf 4 1 b_all_goes
theorem lm_all_goes : LM m_all_goes := lm_mean (ls_seq (ls_asg (le_e1 (le_A (la_cons le_var la_nil) ca_len) c1_rg)) (ls_ret (le_A (la_cons (le_lc2 (li_seq le_var) lb_yes (li_seq le_var) lb_yes (le_tup (la_cons le_var (la_cons le_var la_nil)))) la_nil) ca_tuple)))
theorem ok_all_goes {P : Program} {w : World} {K : PySem.W.Frag} {mg : Str → Option Value} {base : Heap} {f : Addr} {fd : FuncData} (F : Fun K "all_goes" "all_goes" st_all_goes f fd) (T : Txt mg)  : VFn P w K mg base 1 f fd ["patterns"] m_all_goes :=
  okV F sc_all_goes fun cdv A outer s H E hr => (vss_cons (vs_asg (ve_listRg1 rfl (by rfl) T.z_list (by rfl) T.z_range (ve_len (by rfl) T.z_len (va_cons (ve_var 0) va_nil))) (vg_name 1 sc_all_goes.nd)) (vss_one (vs_ret (ve_tuple (by rfl) T.z_tuple (va_cons (ve_lc2 [3] rfl sc_all_goes.nd (vi_list (ve_var 1)) (blkOk_by (own := [("one", 2), ("other", 3)]) (by rfl)) (fun _ _ _ _ _ => (vg_name 2 sc_all_goes.nd)) (fun _ _ _ _ _ => vts_nil) (fun _ _ _ _ _ => (vi_list (ve_var 1))) (fun _ _ _ _ _ => (vg_name 3 sc_all_goes.nd)) (fun _ _ _ _ _ => vts_nil) (fun _ _ _ _ _ => (ve_tup (va_cons (ve_var 2) (va_cons (ve_var 3) va_nil))))) va_nil)))))
/-! _law_deal -/
theorem sc__law_deal : FnScope ["script", "salt", "most", "cells", "mix", "cell"] ["script", "salt"] (defScope st__law_deal) := ⟨rfl, rfl, rfl, by decide +kernel, rfl, by decide +kernel, by decide +kernel⟩
def b__law_deal : SvF := (sSeq (sAsg (.name 2) (e2 (e2 (e2 (e2 (e2 (e2 (eC (.int 10)) (eC (.int 64)) (cI fPow)) (e2 (eC (.int 10)) (eC (.int 64)) (cI fPow)) cMul) (e2 (eC (.int 10)) (eC (.int 64)) (cI fPow)) cMul) (e2 (eC (.int 10)) (eC (.int 64)) (cI fPow)) cMul) (e2 (eC (.int 10)) (eC (.int 64)) (cI fPow)) cMul) (e2 (eC (.int 10)) (eC (.int 64)) (cI fPow)) cMul)) (sSeq (sAsg (.name 3) (eLc (iSeq (eSl (eVar 0) oNone (oSome (eC (.int 63))))) (.name 5) tYesB (e2 (eA (eCons (eA (eCons (eA (eCons (eVar 5) eNil) cInt) eNil) cAbs) eNil) cInt) (eVar 2) (cI fMod)) [5])) (sSeq (sAsg (.name 4) (e2 (eC (.int 70001)) (e2 (eC (.int 7919)) (eVar 1) cMul) cAdd)) (sSeq (sFor (iSeq (eVar 3)) (.name 5) (sAsg (.name 4) (e2 (eA (eCons (e2 (e2 (e2 (eVar 4) (eC (.int 69621)) cMul) (e2 (eA (eCons (eVar 5) eNil) cInt) (eC (.int 2147483563)) (cI fMod)) cAdd) (eC (.int 23)) cAdd) eNil) cInt) (eC (.int 2147483647)) (cI fMod)))) (sRet (eAmb (eLst (eCons (eAmb (e1 (eLc (iSeq (eVar 3)) (.name 5) (eT (e2 (eVar 5) (e2 (eC (.int 10)) (eC (.int 18)) (cI fPow)) (cI fGe))) (eVar 5) [5]) cRev)) (eCons (eVar 4) eNil)))))))))
def m__law_deal : Mean := meanOf 6 2 b__law_deal
theorem ok__law_deal {P : Program} {w : World} {K : PySem.W.Frag} {mg : Str → Option Value} {base : Heap} {f : Addr} {fd : FuncData} (F : Fun K "_law_deal" "_law_deal" st__law_deal f fd) (T : Txt mg)  : VFn P w K mg base 1 f fd ["script", "salt"] m__law_deal :=
  okV F sc__law_deal fun cdv A outer s H E hr => (vss_cons (vs_asg (ve_mul (ve_mul (ve_mul (ve_mul (ve_mul (ve_pow ve_int ve_int) (ve_pow ve_int ve_int)) (ve_pow ve_int ve_int)) (ve_pow ve_int ve_int)) (ve_pow ve_int ve_int)) (ve_pow ve_int ve_int)) (vg_name 2 sc__law_deal.nd)) (vss_cons (vs_asgLc (i := 3) rfl sc__law_deal.nd (vi_list (ve_slice (ve_var 0) vo_none (vo_some ve_int))) (blkOk_by (own := [("cell", 5)]) (by rfl)) (fun _ _ _ _ _ => (vg_name 5 sc__law_deal.nd)) (fun _ _ _ _ _ => vts_nil) (fun _ _ _ _ _ => (ve_mod (ve_int1 (by rfl) T.z_int (va_cons (ve_abs (by rfl) T.z_abs (va_cons (ve_int1 (by rfl) T.z_int (va_cons (ve_var 5) va_nil)) va_nil)) va_nil)) (ve_var 2)))) (vss_cons (vs_asg (ve_add ve_int (ve_mul ve_int (ve_var 1))) (vg_name 4 sc__law_deal.nd)) (vss_cons (vs_for PassesOwn.never rfl (vi_list (ve_var 3)) (vg_name 5 sc__law_deal.nd) (vss_one (vs_asg (ve_mod (ve_int1 (by rfl) T.z_int (va_cons (ve_add (ve_add (ve_mul (ve_var 4) ve_int) (ve_mod (ve_int1 (by rfl) T.z_int (va_cons (ve_var 5) va_nil)) ve_int)) ve_int) va_nil)) ve_int) (vg_name 4 sc__law_deal.nd)))) (vss_one (vs_ret (ve_amb (ve_lst (va_cons (ve_amb (ve_rev (ve_lc rfl sc__law_deal.nd (vi_list (ve_var 3)) (blkOk_by (own := [("cell", 5)]) (by rfl)) (fun _ _ _ _ _ => (vg_name 5 sc__law_deal.nd)) (fun _ _ _ _ _ => (vts_one (vt_ge (ve_var 5) (ve_pow ve_int ve_int)))) (fun _ _ _ _ _ => (ve_var 5))))) (va_cons (ve_var 4) va_nil))))))))))
/-! _law_any -/
theorem sc__law_any : FnScope ["deal", "bound", "rest"] ["deal", "bound"] (defScope st__law_any) := ⟨rfl, rfl, rfl, by decide +kernel, rfl, by decide +kernel, by decide +kernel⟩
def b__law_any : SvF := (sSeq (sWhile Fu (tAndB (eT (e2 (eA (eCons (e2 (eVar 0) (eC (.int 0)) cIx) eNil) cLen) (eC (.int 0)) (cI fGt))) (eT (e2 (e2 (e2 (eVar 0) (eC (.int 0)) cIx) (eNeg (eC (.int 1))) cIx) (eC (.int 0)) cEq))) (sDrop (ePop (e2 (eVar 0) (eC (.int 0)) cIx)))) (sSeq (sIf (eT (e2 (eA (eCons (e2 (eVar 0) (eC (.int 0)) cIx) eNil) cLen) (eC (.int 0)) (cI fGt))) (sSeq (sAsg (.name 2) (eA (eCons (ePop (e2 (eVar 0) (eC (.int 0)) cIx)) eNil) cInt)) (sSeq (sLocApp (e2 (eVar 0) (eC (.int 0)) cIx) (e2 (eVar 2) (eVar 1) (cI fDiv))) (sRet (e2 (eVar 2) (eVar 1) (cI fMod))))) sNil) (sSeq (sLocSet (e2 (eA (eCons (e2 (e2 (e2 (eVar 0) (eC (.int 1)) cIx) (eC (.int 48271)) cMul) (eC (.int 31)) cAdd) eNil) cInt) (eC (.int 2147483647)) (cI fMod)) (eVar 0) (eC (.int 1))) (sRet (e2 (eA (eCons (e2 (e2 (eVar 0) (eC (.int 1)) cIx) (eC (.int 64)) (cI fDiv)) eNil) cInt) (eVar 1) (cI fMod))))))
def m__law_any : Mean := meanOf 3 2 b__law_any
theorem ok__law_any {P : Program} {w : World} {K : PySem.W.Frag} {mg : Str → Option Value} {base : Heap} {f : Addr} {fd : FuncData} (F : Fun K "_law_any" "_law_any" st__law_any f fd) (T : Txt mg)  : VFn P w K mg base 1 f fd ["deal", "bound"] m__law_any :=
  okV F sc__law_any fun cdv A outer s H E hr => (vss_cons (vs_while Fu PassesOwn.never (vt_bool (vw_and (vt_gt (ve_len (by rfl) T.z_len (va_cons (ve_ix (ve_var 0) ve_int) va_nil)) ve_int) (vw_and1 (vt_eq (hu64 hr) (ve_ix (ve_ix (ve_var 0) ve_int) (ve_negN ve_int)) ve_int)))) (vss_one (vs_expr (ve_pop (ve_ix (ve_var 0) ve_int))))) (vss_cons (vs_if (vt_gt (ve_len (by rfl) T.z_len (va_cons (ve_ix (ve_var 0) ve_int) va_nil)) ve_int) (vss_cons (vs_asg (ve_int1 (by rfl) T.z_int (va_cons (ve_pop (ve_ix (ve_var 0) ve_int)) va_nil)) (vg_name 2 sc__law_any.nd)) (vss_cons (vs_locApp (ve_ix (ve_var 0) ve_int) (ve_div (ve_var 2) (ve_var 1))) (vss_one (vs_ret (ve_mod (ve_var 2) (ve_var 1)))))) vss_nil) (vss_cons (vs_locSet (ve_mod (ve_int1 (by rfl) T.z_int (va_cons (ve_add (ve_mul (ve_ix (ve_var 0) ve_int) ve_int) ve_int) va_nil)) ve_int) (ve_var 0) ve_int) (vss_one (vs_ret (ve_mod (ve_int1 (by rfl) T.z_int (va_cons (ve_div (ve_ix (ve_var 0) ve_int) ve_int) va_nil)) (ve_var 1)))))))
/-! _law_is_kind -/
theorem sc__law_is_kind : FnScope ["told", "due"] ["told", "due"] (defScope st__law_is_kind) := ⟨rfl, rfl, rfl, by decide +kernel, rfl, by decide +kernel, by decide +kernel⟩
def b__law_is_kind : SvF := (sSeq (sIf (eT (e2 (eVar 1) (eC .non) cIs)) (sRet (e2 (eVar 0) (eC .non) cIs)) sNil) (sSeq (sIf (tOrB (eT (e2 (eVar 1) (eC (.bl true)) cIs)) (eT (e2 (eVar 1) (eC (.bl false)) cIs))) (sRet (eIf (eT (eVar 1)) (e2 (eVar 0) (eC (.bl true)) cIs) (e2 (eVar 0) (eC (.bl false)) cIs))) sNil) (sSeq (sIf (eT (e1 (eVar 1) (cIsi .str))) (sRet (eAndV (e1 (eVar 0) (cIsi .str)) (e2 (eVar 0) (eVar 1) cEq))) sNil) (sRet (eAndV (e1 (eVar 0) (cIsi .int)) (eAndV (eNotV (e1 (eVar 0) (cIsi .bool))) (e2 (eVar 0) (eVar 1) cEq)))))))
def m__law_is_kind : Mean := meanOf 2 2 b__law_is_kind
theorem lm__law_is_kind : LM m__law_is_kind := lm_mean (ls_seq (ls_if (lb_T (le_e2 le_var le_C c2_is)) (ls_ret (le_e2 le_var le_C c2_is)) ls_nil) (ls_seq (ls_if (lb_or (lb_T (le_e2 le_var le_C c2_is)) (lb_T (le_e2 le_var le_C c2_is))) (ls_ret (le_if (lb_T le_var) (le_e2 le_var le_C c2_is) (le_e2 le_var le_C c2_is))) ls_nil) (ls_seq (ls_if (lb_T (le_e1 le_var c1_isi)) (ls_ret (le_andV (le_e1 le_var c1_isi) (le_e2 le_var le_var c2_eq))) ls_nil) (ls_ret (le_andV (le_e1 le_var c1_isi) (le_andV (le_notV (le_e1 le_var c1_isi)) (le_e2 le_var le_var c2_eq)))))))
theorem ok__law_is_kind {P : Program} {w : World} {K : PySem.W.Frag} {mg : Str → Option Value} {base : Heap} {f : Addr} {fd : FuncData} (F : Fun K "_law_is_kind" "_law_is_kind" st__law_is_kind f fd) (T : Txt mg)  : VFn P w K mg base 1 f fd ["told", "due"] m__law_is_kind :=
  okV F sc__law_is_kind fun cdv A outer s H E hr => (vss_cons (vs_if (vt_is (ve_var 1) ve_non) (vss_one (vs_ret (ve_is (ve_var 0) ve_non))) vss_nil) (vss_cons (vs_if (vt_bool (vw_or (vt_is (ve_var 1) ve_bl) (vw_or1 (vt_is (ve_var 1) ve_bl)))) (vss_one (vs_ret (ve_if (vt_val (ve_var 1)) (ve_is (ve_var 0) ve_bl) (ve_is (ve_var 0) ve_bl)))) vss_nil) (vss_cons (vs_if (vt_val (ve_isi .str (by rfl) T.z_isinstance (by rfl) T.z_str (by decide +kernel) (ve_var 1))) (vss_one (vs_ret (ve_and (ve_isi .str (by rfl) T.z_isinstance (by rfl) T.z_str (by decide +kernel) (ve_var 0)) (ve_one (ve_eq (hu64 hr) (ve_var 0) (ve_var 1)))))) vss_nil) (vss_one (vs_ret (ve_and (ve_isi .int (by rfl) T.z_isinstance (by rfl) T.z_int (by decide +kernel) (ve_var 0)) (ve_and (ve_not (ve_isi .bool (by rfl) T.z_isinstance (by rfl) T.z_bool (by decide +kernel) (ve_var 0))) (ve_one (ve_eq (hu64 hr) (ve_var 0) (ve_var 1))))))))))
/-! _law_power -/
theorem sc__law_power : FnScope ["base", "times", "found", "turn"] ["base", "times"] (defScope st__law_power) := ⟨rfl, rfl, rfl, by decide +kernel, rfl, by decide +kernel, by decide +kernel⟩
def b__law_power : SvF := (sSeq (sAsg (.name 2) (eC (.int 1))) (sSeq (sFor (iRg1 (eCons (eVar 1) eNil)) (.name 3) (sAsg (.name 2) (e2 (eVar 2) (eVar 0) cMul))) (sRet (eVar 2))))
def m__law_power : Mean := meanOf 4 2 b__law_power
theorem lm__law_power : LM m__law_power := lm_mean (ls_seq (ls_asg le_C) (ls_seq (ls_for (li_rg1 (la_cons le_var la_nil)) (ls_asg (le_e2 le_var le_var c2_mul))) (ls_ret le_var)))
theorem ok__law_power {P : Program} {w : World} {K : PySem.W.Frag} {mg : Str → Option Value} {base : Heap} {f : Addr} {fd : FuncData} (F : Fun K "_law_power" "_law_power" st__law_power f fd) (T : Txt mg)  : VFn P w K mg base 1 f fd ["base", "times"] m__law_power :=
  okV F sc__law_power fun cdv A outer s H E hr => (vss_cons (vs_asg ve_int (vg_name 2 sc__law_power.nd)) (vss_cons (vs_for PassesOwn.never rfl (vi_rg1 (by rfl) T.z_range (va_cons (ve_var 1) va_nil)) (vg_name 3 sc__law_power.nd) (vss_one (vs_asg (ve_mul (ve_var 2) (ve_var 0)) (vg_name 2 sc__law_power.nd)))) (vss_one (vs_ret (ve_var 2)))))
/-! _law_machines_of -/
theorem sc__law_machines_of : FnScope ["pattern"] ["pattern"] (defScope st__law_machines_of) := ⟨rfl, rfl, rfl, by decide +kernel, rfl, by decide +kernel, by decide +kernel⟩
def b__law_machines_of : SvF := (sRet (eA (eCons (e2 (e2 (eVar 0) (eC (.int 0)) cIx) (e2 (eVar 0) (eC (.int 1)) cIx) cAdd) eNil) cSort))
def m__law_machines_of : Mean := meanOf 1 1 b__law_machines_of
theorem lm__law_machines_of : LM m__law_machines_of := lm_mean (ls_ret (le_A (la_cons (le_e2 (le_e2 le_var le_C c2_ix) (le_e2 le_var le_C c2_ix) c2_add) la_nil) ca_sort))
theorem ok__law_machines_of {P : Program} {w : World} {K : PySem.W.Frag} {mg : Str → Option Value} {base : Heap} {f : Addr} {fd : FuncData} (F : Fun K "_law_machines_of" "_law_machines_of" st__law_machines_of f fd) (T : Txt mg)  : VFn P w K mg base 1 f fd ["pattern"] m__law_machines_of :=
  okV F sc__law_machines_of fun cdv A outer s H E hr => (vss_one (vs_ret (ve_sorted (hu64 hr) (by rfl) T.z_sorted (va_cons (ve_add (ve_ix (ve_var 0) ve_int) (ve_ix (ve_var 0) ve_int)) va_nil))))
/-! _law_all_goes -/
theorem sc__law_all_goes : FnScope ["many", "found", "one", "other"] ["many"] (defScope st__law_all_goes) := ⟨rfl, rfl, rfl, by decide +kernel, rfl, by decide +kernel, by decide +kernel⟩
def b__law_all_goes : SvF := (sSeq (sAsg (.name 1) (eLst eNil)) (sSeq (sFor (iRg1 (eCons (eVar 0) eNil)) (.name 2) (sAsg (.name 1) (e2 (eVar 1) (eLc (iRg1 (eCons (eVar 0) eNil)) (.name 3) tYesB (eTup (eCons (eVar 2) (eCons (eVar 3) eNil))) [3]) cAdd))) (sRet (eVar 1))))
def m__law_all_goes : Mean := meanOf 4 1 b__law_all_goes
theorem lm__law_all_goes : LM m__law_all_goes := lm_mean (ls_seq (ls_asg (le_lst la_nil)) (ls_seq (ls_for (li_rg1 (la_cons le_var la_nil)) (ls_asg (le_e2 le_var (le_lc (li_rg1 (la_cons le_var la_nil)) lb_yes (le_tup (la_cons le_var (la_cons le_var la_nil)))) c2_add))) (ls_ret le_var)))
theorem ok__law_all_goes {P : Program} {w : World} {K : PySem.W.Frag} {mg : Str → Option Value} {base : Heap} {f : Addr} {fd : FuncData} (F : Fun K "_law_all_goes" "_law_all_goes" st__law_all_goes f fd) (T : Txt mg)  : VFn P w K mg base 1 f fd ["many"] m__law_all_goes :=
  okV F sc__law_all_goes fun cdv A outer s H E hr => (vss_cons (vs_asg (ve_lst va_nil) (vg_name 1 sc__law_all_goes.nd)) (vss_cons (vs_for PassesOwn.never rfl (vi_rg1 (by rfl) T.z_range (va_cons (ve_var 0) va_nil)) (vg_name 2 sc__law_all_goes.nd) (vss_one (vs_asg (ve_add (ve_var 1) (ve_lc rfl sc__law_all_goes.nd (vi_rg1 (by rfl) T.z_range (va_cons (ve_var 0) va_nil)) (blkOk_by (own := [("other", 3)]) (by rfl)) (fun _ _ _ _ _ => (vg_name 3 sc__law_all_goes.nd)) (fun _ _ _ _ _ => vts_nil) (fun _ _ _ _ _ => (ve_tup (va_cons (ve_var 2) (va_cons (ve_var 3) va_nil)))))) (vg_name 1 sc__law_all_goes.nd)))) (vss_one (vs_ret (ve_var 1)))))
/-! all_patterns -/
theorem sc_all_patterns : FnScope ["machines", "silent", "liars", "found", "quiet", "lot"] ["machines", "silent", "liars"] (defScope st_all_patterns) := ⟨rfl, rfl, rfl, by decide +kernel, rfl, by decide +kernel, by decide +kernel⟩
def b_all_patterns : SvF := (sSeq (sOwn 3 (eLst eNil)) (sSeq (sFor (iTupD (eCall m_all_lots (eCons (eVar 0) (eCons (eVar 1) eNil)))) (.name 4) (sFor (iTupD (eCall m_all_lots (eCons (eVar 0) (eCons (eVar 2) eNil)))) (.name 5) (sIf (tAndB (eT (eCall m_is_apart (eCons (eVar 4) (eCons (eVar 5) eNil)))) (eT (e2 (e2 (eA (eCons (eVar 4) eNil) cLen) (eA (eCons (eVar 5) eNil) cLen) cAdd) (eVar 0) (cI fLt)))) (sApp 3 (eTup (eCons (eVar 4) (eCons (eVar 5) eNil)))) sNil))) (sRet (eA (eCons (eA (eCons (eVar 3) eNil) cSort) eNil) cTuple))))
def m_all_patterns : Mean := meanOf 6 3 b_all_patterns
theorem lm_all_patterns : LM m_all_patterns := lm_mean (ls_seq (ls_own (le_lst la_nil)) (ls_seq (ls_for (li_tup (le_call lm_all_lots (la_cons le_var (la_cons le_var la_nil)))) (ls_for (li_tup (le_call lm_all_lots (la_cons le_var (la_cons le_var la_nil)))) (ls_if (lb_and (lb_T (le_call lm_is_apart (la_cons le_var (la_cons le_var la_nil)))) (lb_T (le_e2 (le_e2 (le_A (la_cons le_var la_nil) ca_len) (le_A (la_cons le_var la_nil) ca_len) c2_add) le_var c2_I))) (ls_app (le_tup (la_cons le_var (la_cons le_var la_nil)))) ls_nil))) (ls_ret (le_A (la_cons (le_A (la_cons le_var la_nil) ca_sort) la_nil) ca_tuple))))
theorem ok_all_patterns {P : Program} {w : World} {K : PySem.W.Frag} {mg : Str → Option Value} {base : Heap} {f : Addr} {fd : FuncData} (F : Fun K "all_patterns" "all_patterns" st_all_patterns f fd) (T : Txt mg) (C_all_lots : Cal P w K mg base 1 "all_lots" st_all_lots ["machines", "many"] m_all_lots) (C_is_apart : Cal P w K mg base 1 "is_apart" st_is_apart ["silent", "liars"] m_is_apart) : VFn P w K mg base 2 f fd ["machines", "silent", "liars"] m_all_patterns :=
  okV F sc_all_patterns fun cdv A outer s H E hr => (vss_cons (vs_own 3 (ve_lst va_nil) sc_all_patterns.nd) (vss_cons (vs_for PassesOwn.never rfl (vi_tup (ve_cal C_all_lots (hr.mono (by decide)) (by rfl) (va_cons (ve_var 0) (va_cons (ve_var 1) va_nil)) (lenA_cons (lenA_cons lenA_nil)))) (vg_name 4 sc_all_patterns.nd) (vss_one (vs_for PassesOwn.never rfl (vi_tup (ve_cal C_all_lots (hr.mono (by decide)) (by rfl) (va_cons (ve_var 0) (va_cons (ve_var 2) va_nil)) (lenA_cons (lenA_cons lenA_nil)))) (vg_name 5 sc_all_patterns.nd) (vss_one (vs_if (vt_bool (vw_and (vt_val (ve_cal C_is_apart (hr.mono (by decide)) (by rfl) (va_cons (ve_var 4) (va_cons (ve_var 5) va_nil)) (lenA_cons (lenA_cons lenA_nil)))) (vw_and1 (vt_lt (ve_add (ve_len (by rfl) T.z_len (va_cons (ve_var 4) va_nil)) (ve_len (by rfl) T.z_len (va_cons (ve_var 5) va_nil))) (ve_var 0))))) (vss_one (vs_append 3 (ve_tup (va_cons (ve_var 4) (va_cons (ve_var 5) va_nil))))) vss_nil))))) (vss_one (vs_ret (ve_tuple (by rfl) T.z_tuple (va_cons (ve_sorted (hu64 hr) (by rfl) T.z_sorted (va_cons (ve_var 3) va_nil)) va_nil))))))
/-! _law_same -/
theorem sc__law_same : FnScope ["told", "due", "todo", "one", "other", "at"] ["told", "due"] (defScope st__law_same) := ⟨rfl, rfl, rfl, by decide +kernel, rfl, by decide +kernel, by decide +kernel⟩
def b__law_same : SvF := (sSeq (sOwn 2 (eLst (eCons (eTup (eCons (eVar 0) (eCons (eVar 1) eNil))) eNil))) (sSeq (sWhile Fu (eT (e2 (eA (eCons (eVar 2) eNil) cLen) (eC (.int 0)) (cI fGt))) (sSeq (sPopA (.names [3, 4]) 2) (sIf (eT (e1 (eVar 4) (cIsi .tuple))) (sSeq (sIf (tOrB (tNotB (eT (e1 (eVar 3) (cIsi .tuple)))) (eT (e2 (eA (eCons (eVar 3) eNil) cLen) (eA (eCons (eVar 4) eNil) cLen) cNe))) (sRet (eC (.bl false))) sNil) (sFor (iRg1 (eCons (eA (eCons (eVar 4) eNil) cLen) eNil)) (.name 5) (sApp 2 (eTup (eCons (e2 (eVar 3) (eVar 5) cIx) (eCons (e2 (eVar 4) (eVar 5) cIx) eNil)))))) (sIf (tOrB (eT (e1 (eVar 3) (cIsis [.tuple, .list, .dict]))) (tNotB (eT (eCall m__law_is_kind (eCons (eVar 3) (eCons (eVar 4) eNil)))))) (sRet (eC (.bl false))) sNil)))) (sRet (eC (.bl true)))))
def m__law_same : Mean := meanOf 6 2 b__law_same
theorem lm__law_same : LM m__law_same := lm_mean (ls_seq (ls_own (le_lst (la_cons (le_tup (la_cons le_var (la_cons le_var la_nil))) la_nil))) (ls_seq (ls_while (lb_T (le_e2 (le_A (la_cons le_var la_nil) ca_len) le_C c2_I)) (ls_seq ls_popA (ls_if (lb_T (le_e1 le_var c1_isi)) (ls_seq (ls_if (lb_or (lb_not (lb_T (le_e1 le_var c1_isi))) (lb_T (le_e2 (le_A (la_cons le_var la_nil) ca_len) (le_A (la_cons le_var la_nil) ca_len) c2_ne))) (ls_ret le_C) ls_nil) (ls_for (li_rg1 (la_cons (le_A (la_cons le_var la_nil) ca_len) la_nil)) (ls_app (le_tup (la_cons (le_e2 le_var le_var c2_ix) (la_cons (le_e2 le_var le_var c2_ix) la_nil)))))) (ls_if (lb_or (lb_T (le_e1 le_var c1_isis)) (lb_not (lb_T (le_call lm__law_is_kind (la_cons le_var (la_cons le_var la_nil)))))) (ls_ret le_C) ls_nil)))) (ls_ret le_C)))
theorem ok__law_same {P : Program} {w : World} {K : PySem.W.Frag} {mg : Str → Option Value} {base : Heap} {f : Addr} {fd : FuncData} (F : Fun K "_law_same" "_law_same" st__law_same f fd) (T : Txt mg) (C__law_is_kind : Cal P w K mg base 1 "_law_is_kind" st__law_is_kind ["told", "due"] m__law_is_kind) : VFn P w K mg base 2 f fd ["told", "due"] m__law_same :=
  okV F sc__law_same fun cdv A outer s H E hr => (vss_cons (vs_own 2 (ve_lst (va_cons (ve_tup (va_cons (ve_var 0) (va_cons (ve_var 1) va_nil))) va_nil)) sc__law_same.nd) (vss_cons (vs_while Fu PassesOwn.never (vt_gt (ve_len (by rfl) T.z_len (va_cons (ve_var 2) va_nil)) ve_int) (vss_cons (vs_popA 2 (vg_tup rfl (vgs_cons (vg_name 3 sc__law_same.nd) (vgs_cons (vg_name 4 sc__law_same.nd) vgs_nil)))) (vss_one (vs_if (vt_val (ve_isi .tuple (by rfl) T.z_isinstance (by rfl) T.z_tuple (by decide +kernel) (ve_var 4))) (vss_cons (vs_if (vt_bool (vw_or (vt_not (vt_val (ve_isi .tuple (by rfl) T.z_isinstance (by rfl) T.z_tuple (by decide +kernel) (ve_var 3)))) (vw_or1 (vt_ne (hu64 hr) (ve_len (by rfl) T.z_len (va_cons (ve_var 3) va_nil)) (ve_len (by rfl) T.z_len (va_cons (ve_var 4) va_nil)))))) (vss_one (vs_ret ve_bl)) vss_nil) (vss_one (vs_for PassesOwn.never rfl (vi_rg1 (by rfl) T.z_range (va_cons (ve_len (by rfl) T.z_len (va_cons (ve_var 4) va_nil)) va_nil)) (vg_name 5 sc__law_same.nd) (vss_one (vs_append 2 (ve_tup (va_cons (ve_ix (ve_var 3) (ve_var 5)) (va_cons (ve_ix (ve_var 4) (ve_var 5)) va_nil)))))))) (vss_one (vs_if (vt_bool (vw_or (vt_val (ve_isiT (by rfl) T.z_isinstance (.cons (by rfl) T.z_tuple (by decide +kernel) (by decide) (by decide) (by rfl) (.cons (by rfl) T.z_list (by decide +kernel) (by decide) (by decide) (by rfl) (.cons (by rfl) T.z_dict (by decide +kernel) (by decide) (by decide) (by rfl) .nil))) (by decide) (ve_var 3))) (vw_or1 (vt_not (vt_val (ve_cal C__law_is_kind (hr.mono (by decide)) (by rfl) (va_cons (ve_var 3) (va_cons (ve_var 4) va_nil)) (lenA_cons (lenA_cons lenA_nil)))))))) (vss_one (vs_ret ve_bl)) vss_nil)))))) (vss_one (vs_ret ve_bl))))
/-! _law_pattern_lot -/
theorem sc__law_pattern_lot : FnScope ["machines", "silent", "liars", "found", "number", "parts", "rest", "machine", "quiet", "lot"] ["machines", "silent", "liars"] (defScope st__law_pattern_lot) := ⟨rfl, rfl, rfl, by decide +kernel, rfl, by decide +kernel, by decide +kernel⟩
def b__law_pattern_lot : SvF := (sSeq (sOwn 3 (eLst eNil)) (sSeq (sFor (iRg1 (eCons (eCall m__law_power (eCons (eC (.int 3)) (eCons (eVar 0) eNil))) eNil)) (.name 4) (sSeq (sPar 5 6 true false (eCons (eLst eNil) (eCons (eVar 4) eNil))) (sSeq (sFor (iRg1 (eCons (eVar 0) eNil)) (.name 7) (sSeq (sApp 5 (e2 (eA (eCons (eVar 6) eNil) cInt) (eC (.int 3)) (cI fMod))) (sAsg (.name 6) (e2 (eA (eCons (eVar 6) eNil) cInt) (eC (.int 3)) (cI fDiv))))) (sSeq (sAsg (.name 8) (eA (eCons (eLc (iRg1 (eCons (eVar 0) eNil)) (.name 7) (eT (e2 (e2 (eVar 5) (eVar 7) cIx) (eC (.int 1)) cEq)) (eVar 7) [7]) eNil) cTuple)) (sSeq (sAsg (.name 9) (eA (eCons (eLc (iRg1 (eCons (eVar 0) eNil)) (.name 7) (eT (e2 (e2 (eVar 5) (eVar 7) cIx) (eC (.int 2)) cEq)) (eVar 7) [7]) eNil) cTuple)) (sIf (tAndB (eT (e2 (eA (eCons (eVar 8) eNil) cLen) (eVar 1) (cI fLe))) (tAndB (eT (e2 (eA (eCons (eVar 9) eNil) cLen) (eVar 2) (cI fLe))) (eT (e2 (e2 (eA (eCons (eVar 8) eNil) cLen) (eA (eCons (eVar 9) eNil) cLen) cAdd) (eVar 0) (cI fLt))))) (sApp 3 (eTup (eCons (eVar 8) (eCons (eVar 9) eNil)))) sNil)))))) (sRet (eA (eCons (eVar 3) eNil) cSort))))
def m__law_pattern_lot : Mean := meanOf 10 3 b__law_pattern_lot
theorem lm__law_pattern_lot : LM m__law_pattern_lot := lm_mean (ls_seq (ls_own (le_lst la_nil)) (ls_seq (ls_for (li_rg1 (la_cons (le_call lm__law_power (la_cons le_C (la_cons le_var la_nil))) la_nil)) (ls_seq (ls_par (la_cons (le_lst la_nil) (la_cons le_var la_nil))) (ls_seq (ls_for (li_rg1 (la_cons le_var la_nil)) (ls_seq (ls_app (le_e2 (le_A (la_cons le_var la_nil) ca_int) le_C c2_I)) (ls_asg (le_e2 (le_A (la_cons le_var la_nil) ca_int) le_C c2_I)))) (ls_seq (ls_asg (le_A (la_cons (le_lc (li_rg1 (la_cons le_var la_nil)) (lb_T (le_e2 (le_e2 le_var le_var c2_ix) le_C c2_eq)) le_var) la_nil) ca_tuple)) (ls_seq (ls_asg (le_A (la_cons (le_lc (li_rg1 (la_cons le_var la_nil)) (lb_T (le_e2 (le_e2 le_var le_var c2_ix) le_C c2_eq)) le_var) la_nil) ca_tuple)) (ls_if (lb_and (lb_T (le_e2 (le_A (la_cons le_var la_nil) ca_len) le_var c2_I)) (lb_and (lb_T (le_e2 (le_A (la_cons le_var la_nil) ca_len) le_var c2_I)) (lb_T (le_e2 (le_e2 (le_A (la_cons le_var la_nil) ca_len) (le_A (la_cons le_var la_nil) ca_len) c2_add) le_var c2_I)))) (ls_app (le_tup (la_cons le_var (la_cons le_var la_nil)))) ls_nil)))))) (ls_ret (le_A (la_cons le_var la_nil) ca_sort))))
theorem ok__law_pattern_lot {P : Program} {w : World} {K : PySem.W.Frag} {mg : Str → Option Value} {base : Heap} {f : Addr} {fd : FuncData} (F : Fun K "_law_pattern_lot" "_law_pattern_lot" st__law_pattern_lot f fd) (T : Txt mg) (C__law_power : Cal P w K mg base 1 "_law_power" st__law_power ["base", "times"] m__law_power) : VFn P w K mg base 2 f fd ["machines", "silent", "liars"] m__law_pattern_lot :=
  okV F sc__law_pattern_lot fun cdv A outer s H E hr => (vss_cons (vs_own 3 (ve_lst va_nil) sc__law_pattern_lot.nd) (vss_cons (vs_for PassesOwn.never rfl (vi_rg1 (by rfl) T.z_range (va_cons (ve_cal C__law_power (hr.mono (by decide)) (by rfl) (va_cons ve_int (va_cons (ve_var 0) va_nil)) (lenA_cons (lenA_cons lenA_nil))) va_nil)) (vg_name 4 sc__law_pattern_lot.nd) (vss_cons (vs_par2 5 6 true false rfl rfl (va_cons (ve_lst va_nil) (va_cons (ve_var 4) va_nil)) (vg_name 5 sc__law_pattern_lot.nd) (vg_name 6 sc__law_pattern_lot.nd)) (vss_cons (vs_for PassesOwn.never rfl (vi_rg1 (by rfl) T.z_range (va_cons (ve_var 0) va_nil)) (vg_name 7 sc__law_pattern_lot.nd) (vss_cons (vs_append 5 (ve_mod (ve_int1 (by rfl) T.z_int (va_cons (ve_var 6) va_nil)) ve_int)) (vss_one (vs_asg (ve_div (ve_int1 (by rfl) T.z_int (va_cons (ve_var 6) va_nil)) ve_int) (vg_name 6 sc__law_pattern_lot.nd))))) (vss_cons (vs_asg (ve_tuple (by rfl) T.z_tuple (va_cons (ve_lc rfl sc__law_pattern_lot.nd (vi_rg1 (by rfl) T.z_range (va_cons (ve_var 0) va_nil)) (blkOk_by (own := [("machine", 7)]) (by rfl)) (fun _ _ _ _ _ => (vg_name 7 sc__law_pattern_lot.nd)) (fun _ _ _ _ _ => (vts_one (vt_eq (hu64 hr) (ve_ix (ve_var 5) (ve_var 7)) ve_int))) (fun _ _ _ _ _ => (ve_var 7))) va_nil)) (vg_name 8 sc__law_pattern_lot.nd)) (vss_cons (vs_asg (ve_tuple (by rfl) T.z_tuple (va_cons (ve_lc rfl sc__law_pattern_lot.nd (vi_rg1 (by rfl) T.z_range (va_cons (ve_var 0) va_nil)) (blkOk_by (own := [("machine", 7)]) (by rfl)) (fun _ _ _ _ _ => (vg_name 7 sc__law_pattern_lot.nd)) (fun _ _ _ _ _ => (vts_one (vt_eq (hu64 hr) (ve_ix (ve_var 5) (ve_var 7)) ve_int))) (fun _ _ _ _ _ => (ve_var 7))) va_nil)) (vg_name 9 sc__law_pattern_lot.nd)) (vss_one (vs_if (vt_bool (vw_and (vt_le (ve_len (by rfl) T.z_len (va_cons (ve_var 8) va_nil)) (ve_var 1)) (vw_and (vt_le (ve_len (by rfl) T.z_len (va_cons (ve_var 9) va_nil)) (ve_var 2)) (vw_and1 (vt_lt (ve_add (ve_len (by rfl) T.z_len (va_cons (ve_var 8) va_nil)) (ve_len (by rfl) T.z_len (va_cons (ve_var 9) va_nil))) (ve_var 0)))))) (vss_one (vs_append 3 (ve_tup (va_cons (ve_var 8) (va_cons (ve_var 9) va_nil))))) vss_nil))))))) (vss_one (vs_ret (ve_sorted (hu64 hr) (by rfl) T.z_sorted (va_cons (ve_var 3) va_nil))))))
/-! _law_all -/
theorem sc__law_all : FnScope ["pairs", "told", "due"] ["pairs"] (defScope st__law_all) := ⟨rfl, rfl, rfl, by decide +kernel, rfl, by decide +kernel, by decide +kernel⟩
def b__law_all : SvF := (sRet (e2 (eA (eCons (eLc (iSeq (eVar 0)) (.names [1, 2]) (tNotB (eT (eCall m__law_same (eCons (eVar 1) (eCons (eVar 2) eNil))))) (eVar 1) [1, 2]) eNil) cLen) (eC (.int 0)) cEq))
def m__law_all : Mean := meanOf 3 1 b__law_all
theorem lm__law_all : LM m__law_all := lm_mean (ls_ret (le_e2 (le_A (la_cons (le_lc (li_seq le_var) (lb_not (lb_T (le_call lm__law_same (la_cons le_var (la_cons le_var la_nil))))) le_var) la_nil) ca_len) le_C c2_eq))
theorem ok__law_all {P : Program} {w : World} {K : PySem.W.Frag} {mg : Str → Option Value} {base : Heap} {f : Addr} {fd : FuncData} (F : Fun K "_law_all" "_law_all" st__law_all f fd) (T : Txt mg) (C__law_same : Cal P w K mg base 2 "_law_same" st__law_same ["told", "due"] m__law_same) : VFn P w K mg base 3 f fd ["pairs"] m__law_all :=
  okV F sc__law_all fun cdv A outer s H E hr => (vss_one (vs_ret (ve_eq (hu64 hr) (ve_len (by rfl) T.z_len (va_cons (ve_lc rfl sc__law_all.nd (vi_list (ve_var 0)) (blkOk_by (own := [("told", 1), ("due", 2)]) (by rfl)) (fun _ _ _ _ _ => (vg_tup rfl (vgs_cons (vg_name 1 sc__law_all.nd) (vgs_cons (vg_name 2 sc__law_all.nd) vgs_nil)))) (fun _ _ _ _ _ => (vts_one (vt_not (vt_val (ve_cal C__law_same (hr.mono (by decide)) (by rfl) (va_cons (ve_var 1) (va_cons (ve_var 2) va_nil)) (lenA_cons (lenA_cons lenA_nil))))))) (fun _ _ _ _ _ => (ve_var 1))) va_nil)) ve_int)))
/-! law -/
theorem sc_law : FnScope ["script", "deal", "pairs", "turn", "machines", "silent", "liars", "due", "told", "few", "quiet", "lot", "many"] ["script"] (defScope st_law) := ⟨rfl, rfl, rfl, by decide +kernel, rfl, by decide +kernel, by decide +kernel⟩
def b_law : SvF := (sSeq (sAsg (.name 1) (eCall m__law_deal (eCons (eVar 0) (eCons (eC (.int 906)) eNil)))) (sSeq (sOwn 2 (eLst eNil)) (sSeq (sFor (iRg1 (eCons (eC (.int 4)) eNil)) (.name 3) (sSeq (sAsg (.name 4) (e2 (eC (.int 1)) (eCall m__law_any (eCons (eVar 1) (eCons (eC (.int 5)) eNil))) cAdd)) (sSeq (sPar 5 6 false false (eCons (eCall m__law_any (eCons (eVar 1) (eCons (ePub (eIf (eT (e2 (eVar 4) (eC (.int 4)) (cI fLt))) (eC (.int 4)) (eC (.int 2)))) eNil))) (eCons (eCall m__law_any (eCons (eVar 1) (eCons (ePub (eIf (eT (e2 (eVar 4) (eC (.int 4)) (cI fLt))) (eC (.int 4)) (eC (.int 2)))) eNil))) eNil))) (sSeq (sAsg (.name 7) (eA (eCons (eCall m__law_pattern_lot (eCons (eVar 4) (eCons (eVar 5) (eCons (eVar 6) eNil)))) eNil) cTuple)) (sSeq (sAsg (.name 8) (eIf (eT (e2 (eVar 3) (eC (.int 0)) (cI fGt))) (eCall m_all_patterns (eCons (eVar 4) (eCons (eVar 5) (eCons (eVar 6) eNil)))) (eCallK m_all_patterns [1, 2, 0] (eCons (eVar 6) (eCons (eVar 4) (eCons (eVar 5) eNil)))))) (sSeq (sAsg (.name 9) (eA (eCons (eVar 4) (eCons (eC (.int 3)) eNil)) cMin)) (sSeq (sOwn 2 (e2 (eVar 2) (eLst (eCons (eTup (eCons (eVar 8) (eCons (eVar 7) eNil))) (eCons (eTup (eCons (eCall m_all_patterns (eCons (eVar 9) (eCons (eVar 9) (eCons (eVar 9) eNil)))) (eCons (eA (eCons (eCall m__law_pattern_lot (eCons (eVar 9) (eCons (eVar 9) (eCons (eVar 9) eNil)))) eNil) cTuple) eNil))) eNil))) cAdd)) (sSeq (sFor (iTupD (eVar 7)) (.names [10, 11]) (sApp 2 (eTup (eCons (eCall m_faulty_ones (eCons (eTup (eCons (eVar 10) (eCons (eVar 11) eNil))) eNil)) (eCons (eA (eCons (eCall m__law_machines_of (eCons (eTup (eCons (eVar 10) (eCons (eVar 11) eNil))) eNil)) eNil) cTuple) eNil))))) (sSeq (sAsg (.name 12) (eA (eCons (eA (eCons (eVar 7) eNil) cLen) (eCons (eC (.int 20)) eNil)) cMin)) (sApp 2 (eTup (eCons (eCall m_all_goes (eCons (eSl (eVar 7) oNone (oSome (eVar 12))) eNil)) (eCons (eA (eCons (eCall m__law_all_goes (eCons (eVar 12) eNil)) eNil) cTuple) eNil))))))))))))) (sSeq (sAsg (.name 4) (e2 (eC (.int 3)) (eCall m__law_any (eCons (eVar 1) (eCons (eC (.int 4)) eNil))) cAdd)) (sSeq (sOwn 2 (e2 (eVar 2) (eLst (eCons (eTup (eCons (eA (eCons (eCall m_all_patterns (eCons (eVar 4) (eCons (eC (.int 1)) (eCons (eC (.int 0)) eNil)))) eNil) cLen) (eCons (e2 (eC (.int 1)) (eVar 4) cAdd) eNil))) (eCons (eTup (eCons (eA (eCons (eCall m_all_patterns (eCons (eVar 4) (eCons (eC (.int 0)) (eCons (eC (.int 1)) eNil)))) eNil) cLen) (eCons (e2 (eC (.int 1)) (eVar 4) cAdd) eNil))) eNil))) cAdd)) (sSeq (sOwn 2 (e2 (eVar 2) (eLst (eCons (eTup (eCons (eA (eCons (eCall m_all_patterns (eCons (eVar 4) (eCons (eC (.int 1)) (eCons (eC (.int 1)) eNil)))) eNil) cLen) (eCons (e2 (e2 (eC (.int 1)) (e2 (eC (.int 2)) (eVar 4) cMul) cAdd) (e2 (eVar 4) (e2 (eVar 4) (eC (.int 1)) (cI fSub)) cMul) cAdd) eNil))) eNil)) cAdd)) (sSeq (sOwn 2 (e2 (eVar 2) (eLst (eCons (eTup (eCons (eCall m_all_patterns (eCons (eVar 4) (eCons (eC (.int 0)) (eCons (eC (.int 0)) eNil)))) (eCons (eTup (eCons (eTup (eCons (eTup eNil) (eCons (eTup eNil) eNil))) eNil)) eNil))) (eCons (eTup (eCons (eCall m_all_patterns (eCons (eC (.int 1)) (eCons (eC (.int 3)) (eCons (eC (.int 3)) eNil)))) (eCons (eTup (eCons (eTup (eCons (eTup eNil) (eCons (eTup eNil) eNil))) eNil)) eNil))) eNil))) cAdd)) (sSeq (sOwn 2 (e2 (eVar 2) (eLst (eCons (eTup (eCons (eCall m_all_patterns (eCons (eC (.int 2)) (eCons (eC (.int 1)) (eCons (eC (.int 1)) eNil)))) (eCons (eTup (eCons (eTup (eCons (eTup eNil) (eCons (eTup eNil) eNil))) (eCons (eTup (eCons (eTup eNil) (eCons (eTup (eCons (eC (.int 0)) eNil)) eNil))) (eCons (eTup (eCons (eTup eNil) (eCons (eTup (eCons (eC (.int 1)) eNil)) eNil))) (eCons (eTup (eCons (eTup (eCons (eC (.int 0)) eNil)) (eCons (eTup eNil) eNil))) (eCons (eTup (eCons (eTup (eCons (eC (.int 1)) eNil)) (eCons (eTup eNil) eNil))) eNil)))))) eNil))) eNil)) cAdd)) (sSeq (sOwn 2 (e2 (eVar 2) (eLst (eCons (eTup (eCons (eCallK m_faulty_ones [0] (eCons (eTup (eCons (eTup (eCons (eC (.int 0)) (eCons (eC (.int 4)) eNil))) (eCons (eTup (eCons (eC (.int 2)) eNil)) eNil))) eNil)) (eCons (eTup (eCons (eC (.int 0)) (eCons (eC (.int 2)) (eCons (eC (.int 4)) eNil)))) eNil))) (eCons (eTup (eCons (eCallK m_all_goes [0] (eCons (eTup (eCons (eTup (eCons (eTup eNil) (eCons (eTup eNil) eNil))) eNil)) eNil)) (eCons (eTup (eCons (eTup (eCons (eC (.int 0)) (eCons (eC (.int 0)) eNil))) eNil)) eNil))) eNil))) cAdd)) (sRet (eCall m__law_all (eCons (ePub (e2 (eVar 2) (eLst (eCons (eTup (eCons (eCall m_all_goes (eCons (eTup (eCons (eTup (eCons (eTup eNil) (eCons (eTup eNil) eNil))) (eCons (eTup (eCons (eTup eNil) (eCons (eTup (eCons (eC (.int 1)) eNil)) eNil))) eNil))) eNil)) (eCons (eTup (eCons (eTup (eCons (eC (.int 0)) (eCons (eC (.int 0)) eNil))) (eCons (eTup (eCons (eC (.int 0)) (eCons (eC (.int 1)) eNil))) (eCons (eTup (eCons (eC (.int 1)) (eCons (eC (.int 0)) eNil))) (eCons (eTup (eCons (eC (.int 1)) (eCons (eC (.int 1)) eNil))) eNil))))) eNil))) eNil)) cAdd)) eNil))))))))))))
def m_law : Mean := meanOf 13 1 b_law
theorem ok_law {P : Program} {w : World} {K : PySem.W.Frag} {mg : Str → Option Value} {base : Heap} {f : Addr} {fd : FuncData} (F : Fun K "law" "law" st_law f fd) (T : Txt mg) (C__law_deal : Cal P w K mg base 1 "_law_deal" st__law_deal ["script", "salt"] m__law_deal) (C__law_any : Cal P w K mg base 1 "_law_any" st__law_any ["deal", "bound"] m__law_any) (C__law_pattern_lot : Cal P w K mg base 2 "_law_pattern_lot" st__law_pattern_lot ["machines", "silent", "liars"] m__law_pattern_lot) (C_all_patterns : Cal P w K mg base 2 "all_patterns" st_all_patterns ["machines", "silent", "liars"] m_all_patterns) (C__law_machines_of : Cal P w K mg base 1 "_law_machines_of" st__law_machines_of ["pattern"] m__law_machines_of) (C_faulty_ones : Cal P w K mg base 1 "faulty_ones" st_faulty_ones ["pattern"] m_faulty_ones) (C__law_all_goes : Cal P w K mg base 1 "_law_all_goes" st__law_all_goes ["many"] m__law_all_goes) (C_all_goes : Cal P w K mg base 1 "all_goes" st_all_goes ["patterns"] m_all_goes) (C__law_all : Cal P w K mg base 3 "_law_all" st__law_all ["pairs"] m__law_all) : VFn P w K mg base 4 f fd ["script"] m_law :=
  okV F sc_law fun cdv A outer s H E hr => (vss_cons (vs_asg (ve_cal C__law_deal (hr.mono (by decide)) (by rfl) (va_cons (ve_var 0) (va_cons ve_int va_nil)) (lenA_cons (lenA_cons lenA_nil))) (vg_name 1 sc_law.nd)) (vss_cons (vs_own 2 (ve_lst va_nil) sc_law.nd) (vss_cons (vs_for PassesOwn.never rfl (vi_rg1 (by rfl) T.z_range (va_cons ve_int va_nil)) (vg_name 3 sc_law.nd) (vss_cons (vs_asg (ve_add ve_int (ve_cal C__law_any (hr.mono (by decide)) (by rfl) (va_cons (ve_var 1) (va_cons ve_int va_nil)) (lenA_cons (lenA_cons lenA_nil)))) (vg_name 4 sc_law.nd)) (vss_cons (vs_par false false rfl rfl sc_law.nd (va_cons (ve_cal C__law_any (hr.mono (by decide)) (by rfl) (va_cons (ve_var 1) (va_cons (ve_pub (ve_if (vt_lt (ve_var 4) ve_int) ve_int ve_int)) va_nil)) (lenA_cons (lenA_cons lenA_nil))) (va_cons (ve_cal C__law_any (hr.mono (by decide)) (by rfl) (va_cons (ve_var 1) (va_cons (ve_pub (ve_if (vt_lt (ve_var 4) ve_int) ve_int ve_int)) va_nil)) (lenA_cons (lenA_cons lenA_nil))) va_nil)) (i := 5) (j := 6) (by decide)) (vss_cons (vs_asg (ve_tuple (by rfl) T.z_tuple (va_cons (ve_cal C__law_pattern_lot (hr.mono (by decide)) (by rfl) (va_cons (ve_var 4) (va_cons (ve_var 5) (va_cons (ve_var 6) va_nil))) (lenA_cons (lenA_cons (lenA_cons lenA_nil)))) va_nil)) (vg_name 7 sc_law.nd)) (vss_cons (vs_asg (ve_if (vt_gt (ve_var 3) ve_int) (ve_cal C_all_patterns (hr.mono (by decide)) (by rfl) (va_cons (ve_var 4) (va_cons (ve_var 5) (va_cons (ve_var 6) va_nil))) (lenA_cons (lenA_cons (lenA_cons lenA_nil)))) (ve_calK (ks := ["liars", "machines", "silent"]) [1, 2, 0] C_all_patterns (hr.mono (by decide)) (by rfl) (vk_cons (ve_var 6) (vk_cons (ve_var 4) (vk_cons (ve_var 5) vk_nil))) (lenA_cons (lenA_cons (lenA_cons lenA_nil))) (fun l h => pick_len _ l h (by decide)) (fun _ _ _ _ _ _ ws hl => match ws, hl with | [_, _, _], _ => rfl))) (vg_name 8 sc_law.nd)) (vss_cons (vs_asg (ve_min2 rfl (by rfl) T.z_min (va_cons (ve_var 4) (va_cons ve_int va_nil))) (vg_name 9 sc_law.nd)) (vss_cons (vs_own 2 (ve_add (ve_var 2) (ve_lst (va_cons (ve_tup (va_cons (ve_var 8) (va_cons (ve_var 7) va_nil))) (va_cons (ve_tup (va_cons (ve_cal C_all_patterns (hr.mono (by decide)) (by rfl) (va_cons (ve_var 9) (va_cons (ve_var 9) (va_cons (ve_var 9) va_nil))) (lenA_cons (lenA_cons (lenA_cons lenA_nil)))) (va_cons (ve_tuple (by rfl) T.z_tuple (va_cons (ve_cal C__law_pattern_lot (hr.mono (by decide)) (by rfl) (va_cons (ve_var 9) (va_cons (ve_var 9) (va_cons (ve_var 9) va_nil))) (lenA_cons (lenA_cons (lenA_cons lenA_nil)))) va_nil)) va_nil))) va_nil)))) sc_law.nd) (vss_cons (vs_for PassesOwn.never rfl (vi_tup (ve_var 7)) (vg_tup rfl (vgs_cons (vg_name 10 sc_law.nd) (vgs_cons (vg_name 11 sc_law.nd) vgs_nil))) (vss_one (vs_append 2 (ve_tup (va_cons (ve_cal C_faulty_ones (hr.mono (by decide)) (by rfl) (va_cons (ve_tup (va_cons (ve_var 10) (va_cons (ve_var 11) va_nil))) va_nil) (lenA_cons lenA_nil)) (va_cons (ve_tuple (by rfl) T.z_tuple (va_cons (ve_cal C__law_machines_of (hr.mono (by decide)) (by rfl) (va_cons (ve_tup (va_cons (ve_var 10) (va_cons (ve_var 11) va_nil))) va_nil) (lenA_cons lenA_nil)) va_nil)) va_nil)))))) (vss_cons (vs_asg (ve_min2 rfl (by rfl) T.z_min (va_cons (ve_len (by rfl) T.z_len (va_cons (ve_var 7) va_nil)) (va_cons ve_int va_nil))) (vg_name 12 sc_law.nd)) (vss_one (vs_append 2 (ve_tup (va_cons (ve_cal C_all_goes (hr.mono (by decide)) (by rfl) (va_cons (ve_slice (ve_var 7) vo_none (vo_some (ve_var 12))) va_nil) (lenA_cons lenA_nil)) (va_cons (ve_tuple (by rfl) T.z_tuple (va_cons (ve_cal C__law_all_goes (hr.mono (by decide)) (by rfl) (va_cons (ve_var 12) va_nil) (lenA_cons lenA_nil)) va_nil)) va_nil)))))))))))))) (vss_cons (vs_asg (ve_add ve_int (ve_cal C__law_any (hr.mono (by decide)) (by rfl) (va_cons (ve_var 1) (va_cons ve_int va_nil)) (lenA_cons (lenA_cons lenA_nil)))) (vg_name 4 sc_law.nd)) (vss_cons (vs_own 2 (ve_add (ve_var 2) (ve_lst (va_cons (ve_tup (va_cons (ve_len (by rfl) T.z_len (va_cons (ve_cal C_all_patterns (hr.mono (by decide)) (by rfl) (va_cons (ve_var 4) (va_cons ve_int (va_cons ve_int va_nil))) (lenA_cons (lenA_cons (lenA_cons lenA_nil)))) va_nil)) (va_cons (ve_add ve_int (ve_var 4)) va_nil))) (va_cons (ve_tup (va_cons (ve_len (by rfl) T.z_len (va_cons (ve_cal C_all_patterns (hr.mono (by decide)) (by rfl) (va_cons (ve_var 4) (va_cons ve_int (va_cons ve_int va_nil))) (lenA_cons (lenA_cons (lenA_cons lenA_nil)))) va_nil)) (va_cons (ve_add ve_int (ve_var 4)) va_nil))) va_nil)))) sc_law.nd) (vss_cons (vs_own 2 (ve_add (ve_var 2) (ve_lst (va_cons (ve_tup (va_cons (ve_len (by rfl) T.z_len (va_cons (ve_cal C_all_patterns (hr.mono (by decide)) (by rfl) (va_cons (ve_var 4) (va_cons ve_int (va_cons ve_int va_nil))) (lenA_cons (lenA_cons (lenA_cons lenA_nil)))) va_nil)) (va_cons (ve_add (ve_add ve_int (ve_mul ve_int (ve_var 4))) (ve_mul (ve_var 4) (ve_sub (ve_var 4) ve_int))) va_nil))) va_nil))) sc_law.nd) (vss_cons (vs_own 2 (ve_add (ve_var 2) (ve_lst (va_cons (ve_tup (va_cons (ve_cal C_all_patterns (hr.mono (by decide)) (by rfl) (va_cons (ve_var 4) (va_cons ve_int (va_cons ve_int va_nil))) (lenA_cons (lenA_cons (lenA_cons lenA_nil)))) (va_cons (ve_tup (va_cons (ve_tup (va_cons (ve_tup va_nil) (va_cons (ve_tup va_nil) va_nil))) va_nil)) va_nil))) (va_cons (ve_tup (va_cons (ve_cal C_all_patterns (hr.mono (by decide)) (by rfl) (va_cons ve_int (va_cons ve_int (va_cons ve_int va_nil))) (lenA_cons (lenA_cons (lenA_cons lenA_nil)))) (va_cons (ve_tup (va_cons (ve_tup (va_cons (ve_tup va_nil) (va_cons (ve_tup va_nil) va_nil))) va_nil)) va_nil))) va_nil)))) sc_law.nd) (vss_cons (vs_own 2 (ve_add (ve_var 2) (ve_lst (va_cons (ve_tup (va_cons (ve_cal C_all_patterns (hr.mono (by decide)) (by rfl) (va_cons ve_int (va_cons ve_int (va_cons ve_int va_nil))) (lenA_cons (lenA_cons (lenA_cons lenA_nil)))) (va_cons (ve_tup (va_cons (ve_tup (va_cons (ve_tup va_nil) (va_cons (ve_tup va_nil) va_nil))) (va_cons (ve_tup (va_cons (ve_tup va_nil) (va_cons (ve_tup (va_cons ve_int va_nil)) va_nil))) (va_cons (ve_tup (va_cons (ve_tup va_nil) (va_cons (ve_tup (va_cons ve_int va_nil)) va_nil))) (va_cons (ve_tup (va_cons (ve_tup (va_cons ve_int va_nil)) (va_cons (ve_tup va_nil) va_nil))) (va_cons (ve_tup (va_cons (ve_tup (va_cons ve_int va_nil)) (va_cons (ve_tup va_nil) va_nil))) va_nil)))))) va_nil))) va_nil))) sc_law.nd) (vss_cons (vs_own 2 (ve_add (ve_var 2) (ve_lst (va_cons (ve_tup (va_cons (ve_calK (ks := ["pattern"]) [0] C_faulty_ones (hr.mono (by decide)) (by rfl) (vk_cons (ve_tup (va_cons (ve_tup (va_cons ve_int (va_cons ve_int va_nil))) (va_cons (ve_tup (va_cons ve_int va_nil)) va_nil))) vk_nil) (lenA_cons lenA_nil) (fun l h => pick_len _ l h (by decide)) (fun _ _ _ _ _ _ ws hl => match ws, hl with | [_], _ => rfl)) (va_cons (ve_tup (va_cons ve_int (va_cons ve_int (va_cons ve_int va_nil)))) va_nil))) (va_cons (ve_tup (va_cons (ve_calK (ks := ["patterns"]) [0] C_all_goes (hr.mono (by decide)) (by rfl) (vk_cons (ve_tup (va_cons (ve_tup (va_cons (ve_tup va_nil) (va_cons (ve_tup va_nil) va_nil))) va_nil)) vk_nil) (lenA_cons lenA_nil) (fun l h => pick_len _ l h (by decide)) (fun _ _ _ _ _ _ ws hl => match ws, hl with | [_], _ => rfl)) (va_cons (ve_tup (va_cons (ve_tup (va_cons ve_int (va_cons ve_int va_nil))) va_nil)) va_nil))) va_nil)))) sc_law.nd) (vss_one (vs_ret (ve_cal C__law_all (hr.mono (by decide)) (by rfl) (va_cons (ve_pub (ve_add (ve_var 2) (ve_lst (va_cons (ve_tup (va_cons (ve_cal C_all_goes (hr.mono (by decide)) (by rfl) (va_cons (ve_tup (va_cons (ve_tup (va_cons (ve_tup va_nil) (va_cons (ve_tup va_nil) va_nil))) (va_cons (ve_tup (va_cons (ve_tup va_nil) (va_cons (ve_tup (va_cons ve_int va_nil)) va_nil))) va_nil))) va_nil) (lenA_cons lenA_nil)) (va_cons (ve_tup (va_cons (ve_tup (va_cons ve_int (va_cons ve_int va_nil))) (va_cons (ve_tup (va_cons ve_int (va_cons ve_int va_nil))) (va_cons (ve_tup (va_cons ve_int (va_cons ve_int va_nil))) (va_cons (ve_tup (va_cons ve_int (va_cons ve_int va_nil))) va_nil))))) va_nil))) va_nil)))) va_nil) (lenA_cons lenA_nil)))))))))))))
theorem all_mk {l : PySem.W.OpenLaw} {w : World} {K : PySem.W.Frag} {h : Heap} {mg : Str → Option Value} {fa : Addr} (X : K.In h) (G : h.Ns mainGlobals mg) (hfa : mg "law" = some (.ref fa))
    {f0 : Addr} {od0 an0 : Option Addr} {sl0 : Array (Option Value)} {oc0 kV0 dc0 pm0 cd0 ct0 : Value} {f1 : Addr} {od1 an1 : Option Addr} {sl1 : Array (Option Value)} {oc1 kV1 dc1 pm1 cd1 ct1 : Value} {f2 : Addr} {od2 an2 : Option Addr} {sl2 : Array (Option Value)} {oc2 kV2 dc2 pm2 cd2 ct2 : Value} {f3 : Addr} {od3 an3 : Option Addr} {sl3 : Array (Option Value)} {oc3 kV3 dc3 pm3 cd3 ct3 : Value} {f4 : Addr} {od4 an4 : Option Addr} {sl4 : Array (Option Value)} {oc4 kV4 dc4 pm4 cd4 ct4 : Value} {f5 : Addr} {od5 an5 : Option Addr} {sl5 : Array (Option Value)} {oc5 kV5 dc5 pm5 cd5 ct5 : Value} {f6 : Addr} {od6 an6 : Option Addr} {sl6 : Array (Option Value)} {oc6 kV6 dc6 pm6 cd6 ct6 : Value} {f7 : Addr} {od7 an7 : Option Addr} {sl7 : Array (Option Value)} {oc7 kV7 dc7 pm7 cd7 ct7 : Value} {f8 : Addr} {od8 an8 : Option Addr} {sl8 : Array (Option Value)} {oc8 kV8 dc8 pm8 cd8 ct8 : Value} {f9 : Addr} {od9 an9 : Option Addr} {sl9 : Array (Option Value)} {oc9 kV9 dc9 pm9 cd9 ct9 : Value} {f10 : Addr} {od10 an10 : Option Addr} {sl10 : Array (Option Value)} {oc10 kV10 dc10 pm10 cd10 ct10 : Value} {f11 : Addr} {od11 an11 : Option Addr} {sl11 : Array (Option Value)} {oc11 kV11 dc11 pm11 cd11 ct11 : Value} {f12 : Addr} {od12 an12 : Option Addr} {sl12 : Array (Option Value)} {oc12 kV12 dc12 pm12 cd12 ct12 : Value} {f13 : Addr} {od13 an13 : Option Addr} {sl13 : Array (Option Value)} {oc13 kV13 dc13 pm13 cd13 ct13 : Value} {f14 : Addr} {od14 an14 : Option Addr} {sl14 : Array (Option Value)} {oc14 kV14 dc14 pm14 cd14 ct14 : Value}
    (a0 : PySem.W.nsIn K mainGlobals "all_lots" = some (some (.ref f0))) (l0 : K.lookup f0 = some ⟨oc0, od0, .func (PySem.W.fnOf "all_lots" "all_lots" (defArgs st_all_lots) (defBody st_all_lots) (defScope st_all_lots) .none kV0 dc0 pm0 an0 cd0 ct0), sl0⟩)
    (c0 : PySem.W.codeIn K cd0 "all_lots" = true) (k0 : PySem.W.keepIn K (.ref f0) = true)
    (a1 : PySem.W.nsIn K mainGlobals "faulty_ones" = some (some (.ref f1))) (l1 : K.lookup f1 = some ⟨oc1, od1, .func (PySem.W.fnOf "faulty_ones" "faulty_ones" (defArgs st_faulty_ones) (defBody st_faulty_ones) (defScope st_faulty_ones) .none kV1 dc1 pm1 an1 cd1 ct1), sl1⟩)
    (c1 : PySem.W.codeIn K cd1 "faulty_ones" = true) (k1 : PySem.W.keepIn K (.ref f1) = true)
    (a2 : PySem.W.nsIn K mainGlobals "is_apart" = some (some (.ref f2))) (l2 : K.lookup f2 = some ⟨oc2, od2, .func (PySem.W.fnOf "is_apart" "is_apart" (defArgs st_is_apart) (defBody st_is_apart) (defScope st_is_apart) .none kV2 dc2 pm2 an2 cd2 ct2), sl2⟩)
    (c2 : PySem.W.codeIn K cd2 "is_apart" = true) (k2 : PySem.W.keepIn K (.ref f2) = true)
    (a3 : PySem.W.nsIn K mainGlobals "all_patterns" = some (some (.ref f3))) (l3 : K.lookup f3 = some ⟨oc3, od3, .func (PySem.W.fnOf "all_patterns" "all_patterns" (defArgs st_all_patterns) (defBody st_all_patterns) (defScope st_all_patterns) .none kV3 dc3 pm3 an3 cd3 ct3), sl3⟩)
    (c3 : PySem.W.codeIn K cd3 "all_patterns" = true) (k3 : PySem.W.keepIn K (.ref f3) = true)
    (a4 : PySem.W.nsIn K mainGlobals "all_goes" = some (some (.ref f4))) (l4 : K.lookup f4 = some ⟨oc4, od4, .func (PySem.W.fnOf "all_goes" "all_goes" (defArgs st_all_goes) (defBody st_all_goes) (defScope st_all_goes) .none kV4 dc4 pm4 an4 cd4 ct4), sl4⟩)
    (c4 : PySem.W.codeIn K cd4 "all_goes" = true) (k4 : PySem.W.keepIn K (.ref f4) = true)
    (a5 : PySem.W.nsIn K mainGlobals "_law_deal" = some (some (.ref f5))) (l5 : K.lookup f5 = some ⟨oc5, od5, .func (PySem.W.fnOf "_law_deal" "_law_deal" (defArgs st__law_deal) (defBody st__law_deal) (defScope st__law_deal) .none kV5 dc5 pm5 an5 cd5 ct5), sl5⟩)
    (c5 : PySem.W.codeIn K cd5 "_law_deal" = true) (k5 : PySem.W.keepIn K (.ref f5) = true)
    (a6 : PySem.W.nsIn K mainGlobals "_law_any" = some (some (.ref f6))) (l6 : K.lookup f6 = some ⟨oc6, od6, .func (PySem.W.fnOf "_law_any" "_law_any" (defArgs st__law_any) (defBody st__law_any) (defScope st__law_any) .none kV6 dc6 pm6 an6 cd6 ct6), sl6⟩)
    (c6 : PySem.W.codeIn K cd6 "_law_any" = true) (k6 : PySem.W.keepIn K (.ref f6) = true)
    (a7 : PySem.W.nsIn K mainGlobals "_law_is_kind" = some (some (.ref f7))) (l7 : K.lookup f7 = some ⟨oc7, od7, .func (PySem.W.fnOf "_law_is_kind" "_law_is_kind" (defArgs st__law_is_kind) (defBody st__law_is_kind) (defScope st__law_is_kind) .none kV7 dc7 pm7 an7 cd7 ct7), sl7⟩)
    (c7 : PySem.W.codeIn K cd7 "_law_is_kind" = true) (k7 : PySem.W.keepIn K (.ref f7) = true)
    (a8 : PySem.W.nsIn K mainGlobals "_law_same" = some (some (.ref f8))) (l8 : K.lookup f8 = some ⟨oc8, od8, .func (PySem.W.fnOf "_law_same" "_law_same" (defArgs st__law_same) (defBody st__law_same) (defScope st__law_same) .none kV8 dc8 pm8 an8 cd8 ct8), sl8⟩)
    (c8 : PySem.W.codeIn K cd8 "_law_same" = true) (k8 : PySem.W.keepIn K (.ref f8) = true)
    (a9 : PySem.W.nsIn K mainGlobals "_law_all" = some (some (.ref f9))) (l9 : K.lookup f9 = some ⟨oc9, od9, .func (PySem.W.fnOf "_law_all" "_law_all" (defArgs st__law_all) (defBody st__law_all) (defScope st__law_all) .none kV9 dc9 pm9 an9 cd9 ct9), sl9⟩)
    (c9 : PySem.W.codeIn K cd9 "_law_all" = true) (k9 : PySem.W.keepIn K (.ref f9) = true)
    (a10 : PySem.W.nsIn K mainGlobals "_law_power" = some (some (.ref f10))) (l10 : K.lookup f10 = some ⟨oc10, od10, .func (PySem.W.fnOf "_law_power" "_law_power" (defArgs st__law_power) (defBody st__law_power) (defScope st__law_power) .none kV10 dc10 pm10 an10 cd10 ct10), sl10⟩)
    (c10 : PySem.W.codeIn K cd10 "_law_power" = true) (k10 : PySem.W.keepIn K (.ref f10) = true)
    (a11 : PySem.W.nsIn K mainGlobals "_law_machines_of" = some (some (.ref f11))) (l11 : K.lookup f11 = some ⟨oc11, od11, .func (PySem.W.fnOf "_law_machines_of" "_law_machines_of" (defArgs st__law_machines_of) (defBody st__law_machines_of) (defScope st__law_machines_of) .none kV11 dc11 pm11 an11 cd11 ct11), sl11⟩)
    (c11 : PySem.W.codeIn K cd11 "_law_machines_of" = true) (k11 : PySem.W.keepIn K (.ref f11) = true)
    (a12 : PySem.W.nsIn K mainGlobals "_law_pattern_lot" = some (some (.ref f12))) (l12 : K.lookup f12 = some ⟨oc12, od12, .func (PySem.W.fnOf "_law_pattern_lot" "_law_pattern_lot" (defArgs st__law_pattern_lot) (defBody st__law_pattern_lot) (defScope st__law_pattern_lot) .none kV12 dc12 pm12 an12 cd12 ct12), sl12⟩)
    (c12 : PySem.W.codeIn K cd12 "_law_pattern_lot" = true) (k12 : PySem.W.keepIn K (.ref f12) = true)
    (a13 : PySem.W.nsIn K mainGlobals "_law_all_goes" = some (some (.ref f13))) (l13 : K.lookup f13 = some ⟨oc13, od13, .func (PySem.W.fnOf "_law_all_goes" "_law_all_goes" (defArgs st__law_all_goes) (defBody st__law_all_goes) (defScope st__law_all_goes) .none kV13 dc13 pm13 an13 cd13 ct13), sl13⟩)
    (c13 : PySem.W.codeIn K cd13 "_law_all_goes" = true) (k13 : PySem.W.keepIn K (.ref f13) = true)
    (a14 : PySem.W.nsIn K mainGlobals "law" = some (some (.ref f14))) (l14 : K.lookup f14 = some ⟨oc14, od14, .func (PySem.W.fnOf "law" "law" (defArgs st_law) (defBody st_law) (defScope st_law) .none kV14 dc14 pm14 an14 cd14 ct14), sl14⟩)
    (c14 : PySem.W.codeIn K cd14 "law" = true) (k14 : PySem.W.keepIn K (.ref f14) = true)
    (z_min : PySem.W.nsIn K mainGlobals "min" = some none)
    (z_range : PySem.W.nsIn K mainGlobals "range" = some none)
    (z_sorted : PySem.W.nsIn K mainGlobals "sorted" = some none)
    (z_tuple : PySem.W.nsIn K mainGlobals "tuple" = some none)
    (z_len : PySem.W.nsIn K mainGlobals "len" = some none)
    (z_list : PySem.W.nsIn K mainGlobals "list" = some none)
    (z_int : PySem.W.nsIn K mainGlobals "int" = some none)
    (z_abs : PySem.W.nsIn K mainGlobals "abs" = some none)
    (z_isinstance : PySem.W.nsIn K mainGlobals "isinstance" = some none)
    (z_str : PySem.W.nsIn K mainGlobals "str" = some none)
    (z_bool : PySem.W.nsIn K mainGlobals "bool" = some none)
    (z_dict : PySem.W.nsIn K mainGlobals "dict" = some none)
    : ∃ fd : FuncData, (∀ (s : Shared) (v : Value), BindsTo s fd ⟨[v], []⟩ [("script", v)]) ∧ ∀ base : Heap, K.In base → base.Ns mainGlobals mg → FnOk l.prog w K mg base CX0 4 fa fd ["script"] (spV K 1 m_law) := by
  have e := hfa.symm.trans (PySem.W.mg_of X G a14)
  cases e
  have T : Txt mg := ⟨PySem.W.mg_none_of X G z_min, PySem.W.mg_none_of X G z_range, PySem.W.mg_none_of X G z_sorted, PySem.W.mg_none_of X G z_tuple, PySem.W.mg_none_of X G z_len, PySem.W.mg_none_of X G z_list, PySem.W.mg_none_of X G z_int, PySem.W.mg_none_of X G z_abs, PySem.W.mg_none_of X G z_isinstance, PySem.W.mg_none_of X G z_str, PySem.W.mg_none_of X G z_bool, PySem.W.mg_none_of X G z_dict⟩
  refine ⟨PySem.W.fnOf "law" "law" (defArgs st_law) (defBody st_law) (defScope st_law) .none kV14 dc14 pm14 an14 cd14 ct14, fun s v => .of_eq rfl, fun base _ _ => ?_⟩
  have F0 := fun_mk (st := st_all_lots) l0 c0 k0
  have C_all_lots : Cal l.prog w K mg base 1 "all_lots" st_all_lots ["machines", "many"] m_all_lots := ⟨_, _, F0, ok_all_lots F0 T , PySem.W.mg_of X G a0, k0, F0.binds (ps := ["machines", "many"]) fun _ _ _ _ _ _ us hl => match us, hl with | [_, _], _ => rfl⟩
  have F1 := fun_mk (st := st_faulty_ones) l1 c1 k1
  have C_faulty_ones : Cal l.prog w K mg base 1 "faulty_ones" st_faulty_ones ["pattern"] m_faulty_ones := ⟨_, _, F1, ok_faulty_ones F1 T , PySem.W.mg_of X G a1, k1, F1.binds (ps := ["pattern"]) fun _ _ _ _ _ _ us hl => match us, hl with | [_], _ => rfl⟩
  have F2 := fun_mk (st := st_is_apart) l2 c2 k2
  have C_is_apart : Cal l.prog w K mg base 1 "is_apart" st_is_apart ["silent", "liars"] m_is_apart := ⟨_, _, F2, ok_is_apart F2 T , PySem.W.mg_of X G a2, k2, F2.binds (ps := ["silent", "liars"]) fun _ _ _ _ _ _ us hl => match us, hl with | [_, _], _ => rfl⟩
  have F4 := fun_mk (st := st_all_goes) l4 c4 k4
  have C_all_goes : Cal l.prog w K mg base 1 "all_goes" st_all_goes ["patterns"] m_all_goes := ⟨_, _, F4, ok_all_goes F4 T , PySem.W.mg_of X G a4, k4, F4.binds (ps := ["patterns"]) fun _ _ _ _ _ _ us hl => match us, hl with | [_], _ => rfl⟩
  have F5 := fun_mk (st := st__law_deal) l5 c5 k5
  have C__law_deal : Cal l.prog w K mg base 1 "_law_deal" st__law_deal ["script", "salt"] m__law_deal := ⟨_, _, F5, ok__law_deal F5 T , PySem.W.mg_of X G a5, k5, F5.binds (ps := ["script", "salt"]) fun _ _ _ _ _ _ us hl => match us, hl with | [_, _], _ => rfl⟩
  have F6 := fun_mk (st := st__law_any) l6 c6 k6
  have C__law_any : Cal l.prog w K mg base 1 "_law_any" st__law_any ["deal", "bound"] m__law_any := ⟨_, _, F6, ok__law_any F6 T , PySem.W.mg_of X G a6, k6, F6.binds (ps := ["deal", "bound"]) fun _ _ _ _ _ _ us hl => match us, hl with | [_, _], _ => rfl⟩
  have F7 := fun_mk (st := st__law_is_kind) l7 c7 k7
  have C__law_is_kind : Cal l.prog w K mg base 1 "_law_is_kind" st__law_is_kind ["told", "due"] m__law_is_kind := ⟨_, _, F7, ok__law_is_kind F7 T , PySem.W.mg_of X G a7, k7, F7.binds (ps := ["told", "due"]) fun _ _ _ _ _ _ us hl => match us, hl with | [_, _], _ => rfl⟩
  have F10 := fun_mk (st := st__law_power) l10 c10 k10
  have C__law_power : Cal l.prog w K mg base 1 "_law_power" st__law_power ["base", "times"] m__law_power := ⟨_, _, F10, ok__law_power F10 T , PySem.W.mg_of X G a10, k10, F10.binds (ps := ["base", "times"]) fun _ _ _ _ _ _ us hl => match us, hl with | [_, _], _ => rfl⟩
  have F11 := fun_mk (st := st__law_machines_of) l11 c11 k11
  have C__law_machines_of : Cal l.prog w K mg base 1 "_law_machines_of" st__law_machines_of ["pattern"] m__law_machines_of := ⟨_, _, F11, ok__law_machines_of F11 T , PySem.W.mg_of X G a11, k11, F11.binds (ps := ["pattern"]) fun _ _ _ _ _ _ us hl => match us, hl with | [_], _ => rfl⟩
  have F13 := fun_mk (st := st__law_all_goes) l13 c13 k13
  have C__law_all_goes : Cal l.prog w K mg base 1 "_law_all_goes" st__law_all_goes ["many"] m__law_all_goes := ⟨_, _, F13, ok__law_all_goes F13 T , PySem.W.mg_of X G a13, k13, F13.binds (ps := ["many"]) fun _ _ _ _ _ _ us hl => match us, hl with | [_], _ => rfl⟩
  have F3 := fun_mk (st := st_all_patterns) l3 c3 k3
  have C_all_patterns : Cal l.prog w K mg base 2 "all_patterns" st_all_patterns ["machines", "silent", "liars"] m_all_patterns := ⟨_, _, F3, ok_all_patterns F3 T C_all_lots C_is_apart, PySem.W.mg_of X G a3, k3, F3.binds (ps := ["machines", "silent", "liars"]) fun _ _ _ _ _ _ us hl => match us, hl with | [_, _, _], _ => rfl⟩
  have F8 := fun_mk (st := st__law_same) l8 c8 k8
  have C__law_same : Cal l.prog w K mg base 2 "_law_same" st__law_same ["told", "due"] m__law_same := ⟨_, _, F8, ok__law_same F8 T C__law_is_kind, PySem.W.mg_of X G a8, k8, F8.binds (ps := ["told", "due"]) fun _ _ _ _ _ _ us hl => match us, hl with | [_, _], _ => rfl⟩
  have F12 := fun_mk (st := st__law_pattern_lot) l12 c12 k12
  have C__law_pattern_lot : Cal l.prog w K mg base 2 "_law_pattern_lot" st__law_pattern_lot ["machines", "silent", "liars"] m__law_pattern_lot := ⟨_, _, F12, ok__law_pattern_lot F12 T C__law_power, PySem.W.mg_of X G a12, k12, F12.binds (ps := ["machines", "silent", "liars"]) fun _ _ _ _ _ _ us hl => match us, hl with | [_, _, _], _ => rfl⟩
  have F9 := fun_mk (st := st__law_all) l9 c9 k9
  have C__law_all : Cal l.prog w K mg base 3 "_law_all" st__law_all ["pairs"] m__law_all := ⟨_, _, F9, ok__law_all F9 T C__law_same, PySem.W.mg_of X G a9, k9, F9.binds (ps := ["pairs"]) fun _ _ _ _ _ _ us hl => match us, hl with | [_], _ => rfl⟩
  exact ok_law (fun_mk (st := st_law) l14 c14 k14) T C__law_deal C__law_any C__law_pattern_lot C_all_patterns C__law_machines_of C_faulty_ones C__law_all_goes C_all_goes C__law_all
theorem walk {l : PySem.W.OpenLaw} {q : Program} {loose : List Str} {XP : (Str → Option Value) → Heap → Prop} {YP : World → Heap → Prop} {d : DefRec} {K : Params → PySem.W.Frag} (hn : l.most = some 63) (hdf : d.params.defaults = [])
    (hY : ∀ (w : World) (h : Heap), YP w h → (K w.params).In h) (law : ∀ ns : List Int, ns.length ≤ 63 → ∃ st, m_law [.frz (ns.map Vx.D.int)] [] = some (.val (.bl true), st))
    (F : ∀ (w : World) (mg : Str → Option Value) (fa : Addr) (h : Heap), (K w.params).In h → h.Ns mainGlobals mg → mg d.name = some (.ref fa) →
      ∃ fd : FuncData, (∀ (s : Shared) (u : Value), BindsTo s fd ⟨[u], []⟩ [("script", u)]) ∧ ∀ base : Heap, (K w.params).In base → base.Ns mainGlobals mg → FnOk l.prog w (K w.params) mg base CX0 4 fa fd ["script"] (spV (K w.params) 1 m_law)) :
    PySem.W.WalkO q loose XP YP l.row.toRowW d [] (fun f vs => PySem.call f vs) :=
  L2.walk_of (n := 63) (k := 4) (x := "script") (CX := fun _ => CX0) (sp := fun w => spV (K w.params) 1 m_law) hn (by decide) hdf ⟨rfl, by decide, by decide⟩ hY F (fun _ _ a ns hl hO hS => sp_end law hl hO hS) fun _ _ _ _ _ z => z
end K06


set_option Elab.async false
set_option linter.all false
set_option maxRecDepth 100000
namespace K06
open PySem PySem.Spec L2 Vx
mutual
def same : Vx.D → Vx.D → Bool
  | .non, y => match y with | .non => true | _ => false
  | .bl a, y => match y with | .bl b => a == b | _ => false
  | .int a, y => match y with | .int b => decide (a = b) | _ => false
  | .str _, _ => false
  | .tup a, y => match y with | .tup b => sameL a b | _ => false
  | .lst _, _ => false
  | .frz _, _ => false
  | .loc _, _ => false
def sameL : List Vx.D → List Vx.D → Bool
  | [], y => match y with | [] => true | _ => false
  | a :: l, y => match y with | [] => false | b :: m => same a b && sameL l m
end
mutual
theorem same_eq : ∀ x y : Vx.D, same x y = true → x = y
  | .non, y, h => by cases y <;> first | rfl | (simp [same] at h; done)
  | .bl a, y, h => by cases y <;> first | (simp [same] at h; done) | (simp [same] at h; rw [h])
  | .int a, y, h => by cases y <;> first | (simp [same] at h; done) | (simp [same] at h; rw [h])
  | .str _, _, h => by simp [same] at h
  | .tup a, y, h => by
    cases y with
    | tup b => simp only [same] at h; rw [sameL_eq a b h]
    | _ => simp [same] at h
  | .lst _, _, h => by simp [same] at h
  | .frz _, _, h => by simp [same] at h
  | .loc _, _, h => by simp [same] at h
theorem sameL_eq : ∀ x y : List Vx.D, sameL x y = true → x = y
  | [], y, h => by cases y <;> first | rfl | (simp [sameL] at h; done)
  | a :: l, y, h => by
    cases y with
    | nil => simp [sameL] at h
    | cons b m =>
      simp only [sameL, Bool.and_eq_true] at h
      rw [same_eq a b h.1, sameL_eq l m h.2]
end
def small (l : List Vx.D) : Bool := D.plL l && decide (D.szL l < 100000)
/-- one pattern: its faulty ones told and due -/
def chkP (it : Vx.D) : Bool := match it with
  | .tup [q, t] => (match m_faulty_ones [.tup [q, t]] [], m__law_machines_of [.tup [q, t]] [] with
    | some (.val (.tup f), _), some (.prv g, _) => sameL f g && small f
    | _, _ => false)
  | _ => false
def chk (m s l : Int) : Bool := match m_all_patterns [.int m, .int s, .int l] [], m__law_pattern_lot [.int m, .int s, .int l] [] with
  | some (.val (.tup T), _), some (.prv L, _) => sameL T L && small T && decide (T.length ≤ 100) && T.all chkP &&
    (match m_all_goes [.tup (cutD T none (some (min T.length 20 : Nat)))] [], m__law_all_goes [.int (min T.length 20 : Nat)] [] with
    | some (.val (.tup f), _), some (.val (.lst g), _) => sameL f g && small f
    | _, _ => false)
  | _, _ => false
theorem k100 : chk 1 0 0 = true := by decide +kernel
theorem k101 : chk 1 0 1 = true := by decide +kernel
theorem k102 : chk 1 0 2 = true := by decide +kernel
theorem k103 : chk 1 0 3 = true := by decide +kernel
theorem k110 : chk 1 1 0 = true := by decide +kernel
theorem k111 : chk 1 1 1 = true := by decide +kernel
theorem k112 : chk 1 1 2 = true := by decide +kernel
theorem k113 : chk 1 1 3 = true := by decide +kernel
theorem k120 : chk 1 2 0 = true := by decide +kernel
theorem k121 : chk 1 2 1 = true := by decide +kernel
theorem k122 : chk 1 2 2 = true := by decide +kernel
theorem k123 : chk 1 2 3 = true := by decide +kernel
theorem k130 : chk 1 3 0 = true := by decide +kernel
theorem k131 : chk 1 3 1 = true := by decide +kernel
theorem k132 : chk 1 3 2 = true := by decide +kernel
theorem k133 : chk 1 3 3 = true := by decide +kernel
theorem k200 : chk 2 0 0 = true := by decide +kernel
theorem k201 : chk 2 0 1 = true := by decide +kernel
theorem k202 : chk 2 0 2 = true := by decide +kernel
theorem k203 : chk 2 0 3 = true := by decide +kernel
theorem k210 : chk 2 1 0 = true := by decide +kernel
theorem k211 : chk 2 1 1 = true := by decide +kernel
theorem k212 : chk 2 1 2 = true := by decide +kernel
theorem k213 : chk 2 1 3 = true := by decide +kernel
theorem k220 : chk 2 2 0 = true := by decide +kernel
theorem k221 : chk 2 2 1 = true := by decide +kernel
theorem k222 : chk 2 2 2 = true := by decide +kernel
theorem k223 : chk 2 2 3 = true := by decide +kernel
theorem k230 : chk 2 3 0 = true := by decide +kernel
theorem k231 : chk 2 3 1 = true := by decide +kernel
theorem k232 : chk 2 3 2 = true := by decide +kernel
theorem k233 : chk 2 3 3 = true := by decide +kernel
theorem k300 : chk 3 0 0 = true := by decide +kernel
theorem k301 : chk 3 0 1 = true := by decide +kernel
theorem k302 : chk 3 0 2 = true := by decide +kernel
theorem k303 : chk 3 0 3 = true := by decide +kernel
theorem k310 : chk 3 1 0 = true := by decide +kernel
theorem k311 : chk 3 1 1 = true := by decide +kernel
theorem k312 : chk 3 1 2 = true := by decide +kernel
theorem k313 : chk 3 1 3 = true := by decide +kernel
theorem k320 : chk 3 2 0 = true := by decide +kernel
theorem k321 : chk 3 2 1 = true := by decide +kernel
theorem k322 : chk 3 2 2 = true := by decide +kernel
theorem k323 : chk 3 2 3 = true := by decide +kernel
theorem k330 : chk 3 3 0 = true := by decide +kernel
theorem k331 : chk 3 3 1 = true := by decide +kernel
theorem k332 : chk 3 3 2 = true := by decide +kernel
theorem k333 : chk 3 3 3 = true := by decide +kernel
theorem k400 : chk 4 0 0 = true := by decide +kernel
theorem k401 : chk 4 0 1 = true := by decide +kernel
theorem k410 : chk 4 1 0 = true := by decide +kernel
theorem k411 : chk 4 1 1 = true := by decide +kernel
theorem k500 : chk 5 0 0 = true := by decide +kernel
theorem k501 : chk 5 0 1 = true := by decide +kernel
theorem k510 : chk 5 1 0 = true := by decide +kernel
theorem k511 : chk 5 1 1 = true := by decide +kernel
/-- how many by hand -/
def isLen (o : Option (R × Amb)) (k : Int) : Bool := match o with
  | some (.val (.tup T), _) => decide ((T.length : Int) = k)
  | _ => false
def chkE (m : Int) : Bool := isLen (m_all_patterns [.int m, .int 1, .int 0] []) (1 + m) && isLen (m_all_patterns [.int m, .int 0, .int 1] []) (1 + m) && isLen (m_all_patterns [.int m, .int 1, .int 1] []) (1 + 2 * m + m * (m - 1)) &&
  (match m_all_patterns [.int m, .int 0, .int 0] [] with | some (.val T, _) => same T (.tup [.tup [.tup [], .tup []]]) | _ => false)
theorem chkE_all : ([3, 4, 5, 6].all chkE) = true := by decide +kernel
def isVal (o : Option (R × Amb)) (d : Vx.D) : Bool := match o with
  | some (.val T, _) => same T d
  | _ => false
theorem v1 : isVal (m_all_patterns [.int 1, .int 3, .int 3] []) (.tup [.tup [.tup [], .tup []]]) = true := by decide +kernel
theorem v2 : isVal (m_all_patterns [.int 2, .int 1, .int 1] []) (.tup [.tup [.tup [], .tup []], .tup [.tup [], .tup [.int 0]], .tup [.tup [], .tup [.int 1]], .tup [.tup [.int 0], .tup []], .tup [.tup [.int 1], .tup []]]) = true := by decide +kernel
theorem v3 : isVal (m_faulty_ones [.tup [.tup [.int 0, .int 4], .tup [.int 2]]] []) (.tup [.int 0, .int 2, .int 4]) = true := by decide +kernel
theorem v4 : isVal (m_all_goes [.tup [.tup [.tup [], .tup []]]] []) (.tup [.tup [.int 0, .int 0]]) = true := by decide +kernel
theorem v5 : isVal (m_all_goes [.tup [.tup [.tup [], .tup []], .tup [.tup [], .tup [.int 1]]]] []) (.tup [.tup [.int 0, .int 0], .tup [.int 0, .int 1], .tup [.int 1, .int 0], .tup [.int 1, .int 1]]) = true := by decide +kernel
end K06


set_option Elab.async false
set_option linter.all false
set_option maxRecDepth 100000
namespace K06
open PySem PySem.Spec L2 Vx
abbrev A1 : SvF := (sAsg (.name 4) (e2 (eC (.int 1)) (eCall m__law_any (eCons (eVar 1) (eCons (eC (.int 5)) eNil))) cAdd))
abbrev A2 : SvF := (sPar 5 6 false false (eCons (eCall m__law_any (eCons (eVar 1) (eCons (ePub (eIf (eT (e2 (eVar 4) (eC (.int 4)) (cI fLt))) (eC (.int 4)) (eC (.int 2)))) eNil))) (eCons (eCall m__law_any (eCons (eVar 1) (eCons (ePub (eIf (eT (e2 (eVar 4) (eC (.int 4)) (cI fLt))) (eC (.int 4)) (eC (.int 2)))) eNil))) eNil)))
abbrev A3 : SvF := (sAsg (.name 7) (eA (eCons (eCall m__law_pattern_lot (eCons (eVar 4) (eCons (eVar 5) (eCons (eVar 6) eNil)))) eNil) cTuple))
abbrev A4 : SvF := (sAsg (.name 8) (eIf (eT (e2 (eVar 3) (eC (.int 0)) (cI fGt))) (eCall m_all_patterns (eCons (eVar 4) (eCons (eVar 5) (eCons (eVar 6) eNil)))) (eCallK m_all_patterns [1, 2, 0] (eCons (eVar 6) (eCons (eVar 4) (eCons (eVar 5) eNil))))))
abbrev A5 : SvF := (sAsg (.name 9) (eA (eCons (eVar 4) (eCons (eC (.int 3)) eNil)) cMin))
abbrev A6 : SvF := (sOwn 2 (e2 (eVar 2) (eLst (eCons (eTup (eCons (eVar 8) (eCons (eVar 7) eNil))) (eCons (eTup (eCons (eCall m_all_patterns (eCons (eVar 9) (eCons (eVar 9) (eCons (eVar 9) eNil)))) (eCons (eA (eCons (eCall m__law_pattern_lot (eCons (eVar 9) (eCons (eVar 9) (eCons (eVar 9) eNil)))) eNil) cTuple) eNil))) eNil))) cAdd))
abbrev A7 : SvF := (sFor (iTupD (eVar 7)) (.names [10, 11]) (sApp 2 (eTup (eCons (eCall m_faulty_ones (eCons (eTup (eCons (eVar 10) (eCons (eVar 11) eNil))) eNil)) (eCons (eA (eCons (eCall m__law_machines_of (eCons (eTup (eCons (eVar 10) (eCons (eVar 11) eNil))) eNil)) eNil) cTuple) eNil)))))
abbrev A8 : SvF := (sAsg (.name 12) (eA (eCons (eA (eCons (eVar 7) eNil) cLen) (eCons (eC (.int 20)) eNil)) cMin))
abbrev A9 : SvF := (sApp 2 (eTup (eCons (eCall m_all_goes (eCons (eSl (eVar 7) oNone (oSome (eVar 12))) eNil)) (eCons (eA (eCons (eCall m__law_all_goes (eCons (eVar 12) eNil)) eNil) cTuple) eNil))))
abbrev R1 : SvF := (sAsg (.name 4) (e2 (eC (.int 3)) (eCall m__law_any (eCons (eVar 1) (eCons (eC (.int 4)) eNil))) cAdd))
abbrev R2 : SvF := (sOwn 2 (e2 (eVar 2) (eLst (eCons (eTup (eCons (eA (eCons (eCall m_all_patterns (eCons (eVar 4) (eCons (eC (.int 1)) (eCons (eC (.int 0)) eNil)))) eNil) cLen) (eCons (e2 (eC (.int 1)) (eVar 4) cAdd) eNil))) (eCons (eTup (eCons (eA (eCons (eCall m_all_patterns (eCons (eVar 4) (eCons (eC (.int 0)) (eCons (eC (.int 1)) eNil)))) eNil) cLen) (eCons (e2 (eC (.int 1)) (eVar 4) cAdd) eNil))) eNil))) cAdd))
abbrev R3 : SvF := (sOwn 2 (e2 (eVar 2) (eLst (eCons (eTup (eCons (eA (eCons (eCall m_all_patterns (eCons (eVar 4) (eCons (eC (.int 1)) (eCons (eC (.int 1)) eNil)))) eNil) cLen) (eCons (e2 (e2 (eC (.int 1)) (e2 (eC (.int 2)) (eVar 4) cMul) cAdd) (e2 (eVar 4) (e2 (eVar 4) (eC (.int 1)) (cI fSub)) cMul) cAdd) eNil))) eNil)) cAdd))
abbrev R4 : SvF := (sOwn 2 (e2 (eVar 2) (eLst (eCons (eTup (eCons (eCall m_all_patterns (eCons (eVar 4) (eCons (eC (.int 0)) (eCons (eC (.int 0)) eNil)))) (eCons (eTup (eCons (eTup (eCons (eTup eNil) (eCons (eTup eNil) eNil))) eNil)) eNil))) (eCons (eTup (eCons (eCall m_all_patterns (eCons (eC (.int 1)) (eCons (eC (.int 3)) (eCons (eC (.int 3)) eNil)))) (eCons (eTup (eCons (eTup (eCons (eTup eNil) (eCons (eTup eNil) eNil))) eNil)) eNil))) eNil))) cAdd))
abbrev R5 : SvF := (sOwn 2 (e2 (eVar 2) (eLst (eCons (eTup (eCons (eCall m_all_patterns (eCons (eC (.int 2)) (eCons (eC (.int 1)) (eCons (eC (.int 1)) eNil)))) (eCons (eTup (eCons (eTup (eCons (eTup eNil) (eCons (eTup eNil) eNil))) (eCons (eTup (eCons (eTup eNil) (eCons (eTup (eCons (eC (.int 0)) eNil)) eNil))) (eCons (eTup (eCons (eTup eNil) (eCons (eTup (eCons (eC (.int 1)) eNil)) eNil))) (eCons (eTup (eCons (eTup (eCons (eC (.int 0)) eNil)) (eCons (eTup eNil) eNil))) (eCons (eTup (eCons (eTup (eCons (eC (.int 1)) eNil)) (eCons (eTup eNil) eNil))) eNil)))))) eNil))) eNil)) cAdd))
abbrev R6 : SvF := (sOwn 2 (e2 (eVar 2) (eLst (eCons (eTup (eCons (eCallK m_faulty_ones [0] (eCons (eTup (eCons (eTup (eCons (eC (.int 0)) (eCons (eC (.int 4)) eNil))) (eCons (eTup (eCons (eC (.int 2)) eNil)) eNil))) eNil)) (eCons (eTup (eCons (eC (.int 0)) (eCons (eC (.int 2)) (eCons (eC (.int 4)) eNil)))) eNil))) (eCons (eTup (eCons (eCallK m_all_goes [0] (eCons (eTup (eCons (eTup (eCons (eTup eNil) (eCons (eTup eNil) eNil))) eNil)) eNil)) (eCons (eTup (eCons (eTup (eCons (eC (.int 0)) (eCons (eC (.int 0)) eNil))) eNil)) eNil))) eNil))) cAdd))
abbrev R7 : SvF := (sRet (eCall m__law_all (eCons (ePub (e2 (eVar 2) (eLst (eCons (eTup (eCons (eCall m_all_goes (eCons (eTup (eCons (eTup (eCons (eTup eNil) (eCons (eTup eNil) eNil))) (eCons (eTup (eCons (eTup eNil) (eCons (eTup (eCons (eC (.int 1)) eNil)) eNil))) eNil))) eNil)) (eCons (eTup (eCons (eTup (eCons (eC (.int 0)) (eCons (eC (.int 0)) eNil))) (eCons (eTup (eCons (eC (.int 0)) (eCons (eC (.int 1)) eNil))) (eCons (eTup (eCons (eC (.int 1)) (eCons (eC (.int 0)) eNil))) (eCons (eTup (eCons (eC (.int 1)) (eCons (eC (.int 1)) eNil))) eNil))))) eNil))) eNil)) cAdd)) eNil)))
abbrev LB : SvF := (sSeq A1 (sSeq A2 (sSeq A3 (sSeq A4 (sSeq A5 (sSeq A6 (sSeq A7 (sSeq A8 A9))))))))
abbrev LR : SvF := (sSeq R1 (sSeq R2 (sSeq R3 (sSeq R4 (sSeq R5 (sSeq R6 R7))))))
theorem b_law_eq : b_law = sSeq (sAsg (.name 1) (eCall m__law_deal (eCons (eVar 0) (eCons (eC (.int 906)) eNil)))) (sSeq (sOwn 2 (eLst eNil)) (sSeq (sFor (iRg1 (eCons (eC (.int 4)) eNil)) (.name 3) LB) LR)) := rfl

theorem chk_get {m s l : Int} (m1 : 1 ≤ m) (m5 : m ≤ 5) (s0 : 0 ≤ s) (sb : s < if m < 4 then 4 else 2) (l0 : 0 ≤ l) (lb : l < if m < 4 then 4 else 2) : chk m s l = true := by
  have h : m = 1 ∨ m = 2 ∨ m = 3 ∨ m = 4 ∨ m = 5 := by omega
  rcases h with rfl | rfl | rfl | rfl | rfl <;> simp at sb lb
  · have hs : s = 0 ∨ s = 1 ∨ s = 2 ∨ s = 3 := by omega
    have hl : l = 0 ∨ l = 1 ∨ l = 2 ∨ l = 3 := by omega
    rcases hs with rfl | rfl | rfl | rfl <;> rcases hl with rfl | rfl | rfl | rfl
    · exact k100
    · exact k101
    · exact k102
    · exact k103
    · exact k110
    · exact k111
    · exact k112
    · exact k113
    · exact k120
    · exact k121
    · exact k122
    · exact k123
    · exact k130
    · exact k131
    · exact k132
    · exact k133
  · have hs : s = 0 ∨ s = 1 ∨ s = 2 ∨ s = 3 := by omega
    have hl : l = 0 ∨ l = 1 ∨ l = 2 ∨ l = 3 := by omega
    rcases hs with rfl | rfl | rfl | rfl <;> rcases hl with rfl | rfl | rfl | rfl
    · exact k200
    · exact k201
    · exact k202
    · exact k203
    · exact k210
    · exact k211
    · exact k212
    · exact k213
    · exact k220
    · exact k221
    · exact k222
    · exact k223
    · exact k230
    · exact k231
    · exact k232
    · exact k233
  · have hs : s = 0 ∨ s = 1 ∨ s = 2 ∨ s = 3 := by omega
    have hl : l = 0 ∨ l = 1 ∨ l = 2 ∨ l = 3 := by omega
    rcases hs with rfl | rfl | rfl | rfl <;> rcases hl with rfl | rfl | rfl | rfl
    · exact k300
    · exact k301
    · exact k302
    · exact k303
    · exact k310
    · exact k311
    · exact k312
    · exact k313
    · exact k320
    · exact k321
    · exact k322
    · exact k323
    · exact k330
    · exact k331
    · exact k332
    · exact k333
  · have hs : s = 0 ∨ s = 1 := by omega
    have hl : l = 0 ∨ l = 1 := by omega
    rcases hs with rfl | rfl <;> rcases hl with rfl | rfl
    · exact k400
    · exact k401
    · exact k410
    · exact k411
  · have hs : s = 0 ∨ s = 1 := by omega
    have hl : l = 0 ∨ l = 1 := by omega
    rcases hs with rfl | rfl <;> rcases hl with rfl | rfl
    · exact k500
    · exact k501
    · exact k510
    · exact k511
theorem small_pl {l : List Vx.D} (h : small l = true) : D.pl (.tup l) = true ∧ D.sz (.tup l) < Fu := by
  unfold small at h
  rw [Bool.and_eq_true, decide_eq_true_eq] at h
  refine ⟨h.1, ?_⟩
  rw [D.sz, fu_succ]; omega
theorem chkP_facts {it : Vx.D} (h : chkP it = true) : ∃ q t f, it = .tup [q, t] ∧ (∀ st, m_faulty_ones [.tup [q, t]] st = some (.val (.tup f), st)) ∧ (∀ st, m__law_machines_of [.tup [q, t]] st = some (.prv f, st)) ∧ small f = true := by
  unfold chkP at h
  split at h
  · rename_i q t
    split at h
    · rename_i f s1 g s2 h1 h2
      rw [Bool.and_eq_true] at h
      obtain ⟨_, e1⟩ := lm_faulty_ones _ _ _ h1
      obtain ⟨_, e2⟩ := lm__law_machines_of _ _ _ h2
      rw [← sameL_eq _ _ h.1] at e2
      exact ⟨q, t, f, rfl, e1, e2, h.2⟩
    · cases h
  · cases h
theorem chk_facts {m s l : Int} (h : chk m s l = true) : ∃ T : List Vx.D, (∀ st, m_all_patterns [.int m, .int s, .int l] st = some (.val (.tup T), st)) ∧ (∀ st, m__law_pattern_lot [.int m, .int s, .int l] st = some (.prv T, st)) ∧ small T = true ∧ T.length ≤ 100 ∧ (∀ it ∈ T, chkP it = true) ∧
    ∃ g, (∀ st, m_all_goes [.tup (cutD T none (some (min T.length 20 : Nat)))] st = some (.val (.tup g), st)) ∧ (∀ st, m__law_all_goes [.int (min T.length 20 : Nat)] st = some (.val (.lst g), st)) ∧ small g = true := by
  unfold chk at h
  split at h
  · rename_i T s1 L s2 h1 h2
    simp only [Bool.and_eq_true, decide_eq_true_eq] at h
    obtain ⟨⟨⟨⟨a1, a2⟩, a3⟩, a4⟩, a5⟩ := h
    obtain ⟨_, e1⟩ := lm_all_patterns _ _ _ h1
    obtain ⟨_, e2⟩ := lm__law_pattern_lot _ _ _ h2
    rw [← sameL_eq _ _ a1] at e2
    split at a5
    · rename_i f s3 g s4 h3 h4
      rw [Bool.and_eq_true] at a5
      obtain ⟨_, e3⟩ := lm_all_goes _ _ _ h3
      obtain ⟨_, e4⟩ := lm__law_all_goes _ _ _ h4
      rw [← sameL_eq _ _ a5.1] at e4
      exact ⟨T, e1, e2, a2, a3, List.all_eq_true.mp a4, f, e3, e4, a5.2⟩
    · cases a5
  · cases h
theorem ok_app {ps qs : List Vx.D} (h : PairsOk ps) (g : PairsOk qs) : PairsOk (ps ++ qs) := fun p hp => (List.mem_append.mp hp).elim (h p) (g p)
theorem ok_one {d : Vx.D} (h : D.pl d = true ∧ D.sz d < Fu) : PairsOk [pr d] := fun p hp => ⟨d, by simpa using hp, h⟩
theorem any_at {sl : Sls} {st : Amb} {b : Int} {f : EvF} (h1 : sl[1]? = some (.pub (.loc 1))) (hf : ∀ st, f sl st = some (.val (.int b), st)) (b0 : 0 < b) (b1 : b < 1073741824) (D : DealAt st []) :
    ∃ (r : Int) (st' : Amb), eCall m__law_any (eCons (eVar 1) (eCons f eNil)) sl st = some (.val (.int r), st') ∧ 0 ≤ r ∧ r < b ∧ DealAt st' [] := by
  obtain ⟨r, st', e, h⟩ := law_any b0 b1 D
  refine ⟨r, st', ?_, h⟩
  have e : m__law_any [.loc 1, .int b] st = some (.val (.int r), st') := e
  simp [eCall, eCons, eNil, eVar, h1, hf, vals, e]
section
variable (s0 : Sl) (ps : List Vx.D) (x3 x4 x5 x6 x7 x8 x9 x10 x11 x12 : Sl) (st : Amb)
theorem a1 (D : DealAt st []) : ∃ (r : Int) (st' : Amb), 0 ≤ r ∧ r < 5 ∧ DealAt st' [] ∧ A1 [s0, .pub (.loc 1), .own ps, x3, x4, x5, x6, x7, x8, x9, x10, x11, x12] st = some (.nx [s0, .pub (.loc 1), .own ps, x3, .pub (.int (1 + r)), x5, x6, x7, x8, x9, x10, x11, x12] st') := by
  obtain ⟨r, st', e, h0, h1, D'⟩ := any_at (sl := [s0, .pub (.loc 1), .own ps, x3, x4, x5, x6, x7, x8, x9, x10, x11, x12]) (f := eC (.int 5)) (b := 5) rfl (fun _ => rfl) (by decide) (by decide) D
  refine ⟨r, st', h0, h1, D', ?_⟩
  simp only [sAsg, ePub, Vx.e2, e, eC, Option.bind_some, Option.map_some, cAdd, R.d, put]
  rfl
theorem a2 (m : Int) (D : DealAt st []) : ∃ (s l : Int) (st' : Amb), 0 ≤ s ∧ (s < if m < 4 then 4 else 2) ∧ 0 ≤ l ∧ (l < if m < 4 then 4 else 2) ∧ DealAt st' [] ∧
    A2 [s0, .pub (.loc 1), .own ps, x3, .pub (.int m), x5, x6, x7, x8, x9, x10, x11, x12] st = some (.nx [s0, .pub (.loc 1), .own ps, x3, .pub (.int m), .pub (.int s), .pub (.int l), x7, x8, x9, x10, x11, x12] st') := by
  have hb : ∀ st, (ePub (eIf (eT (e2 (eVar 4) (eC (.int 4)) (cI fLt))) (eC (.int 4)) (eC (.int 2)))) [s0, .pub (.loc 1), .own ps, x3, .pub (.int m), x5, x6, x7, x8, x9, x10, x11, x12] st = some (.val (.int (if m < 4 then 4 else 2)), st) := fun st => by
    by_cases h : m < 4 <;> simp [ePub, eIf, eT, Vx.e2, eVar, eC, cI, fLt, R.d, h]
  have b0 : (0 : Int) < if m < 4 then 4 else 2 := by split <;> decide
  have b1 : (if m < 4 then (4 : Int) else 2) < 1073741824 := by split <;> decide
  obtain ⟨s, st1, e, h0, h1, D1⟩ := any_at (sl := [s0, .pub (.loc 1), .own ps, x3, .pub (.int m), x5, x6, x7, x8, x9, x10, x11, x12]) rfl hb b0 b1 D
  obtain ⟨l, st2, e2, h2, h3, D2⟩ := any_at (sl := [s0, .pub (.loc 1), .own ps, x3, .pub (.int m), x5, x6, x7, x8, x9, x10, x11, x12]) rfl hb b0 b1 D1
  refine ⟨s, l, st2, h0, h1, h2, h3, D2, ?_⟩
  unfold A2 sPar
  rw [eCons, e]
  simp only [Option.bind_some]
  rw [eCons, e2]
  rfl
theorem a3 {m s l : Int} {T : List Vx.D} (h : ∀ st, m__law_pattern_lot [.int m, .int s, .int l] st = some (.prv T, st)) : A3 [s0, .pub (.loc 1), .own ps, x3, .pub (.int m), .pub (.int s), .pub (.int l), x7, x8, x9, x10, x11, x12] st = some (.nx [s0, .pub (.loc 1), .own ps, x3, .pub (.int m), .pub (.int s), .pub (.int l), .pub (.tup T), x8, x9, x10, x11, x12] st) := by
  simp [sAsg, ePub, put, eA, eCons, eNil, eVar, eCall, vals, R.d, cTuple, seqD, h]
theorem pick3 (a b c : Vx.D) : pick [1, 2, 0] [a, b, c] = [b, c, a] := rfl
theorem a4 {m s l t : Int} {T : List Vx.D} (h : ∀ st, m_all_patterns [.int m, .int s, .int l] st = some (.val (.tup T), st)) : A4 [s0, .pub (.loc 1), .own ps, .pub (.int t), .pub (.int m), .pub (.int s), .pub (.int l), x7, x8, x9, x10, x11, x12] st = some (.nx [s0, .pub (.loc 1), .own ps, .pub (.int t), .pub (.int m), .pub (.int s), .pub (.int l), x7, .pub (.tup T), x9, x10, x11, x12] st) := by
  by_cases ht : 0 < t <;> simp [sAsg, ePub, put, eIf, eT, Vx.e2, eC, cI, fGt, eCons, eNil, eVar, eCall, eCallK, vals, pick3, R.d, h, ht]
theorem a5 {m : Int} : A5 [s0, .pub (.loc 1), .own ps, x3, .pub (.int m), x5, x6, x7, x8, x9, x10, x11, x12] st = some (.nx [s0, .pub (.loc 1), .own ps, x3, .pub (.int m), x5, x6, x7, x8, .pub (.int (if 3 < m then 3 else m)), x10, x11, x12] st) := by
  simp [sAsg, ePub, put, eA, eCons, eNil, eVar, eC, R.d, cMin]
theorem a6 {k : Int} {T U : List Vx.D} (h : ∀ st, m_all_patterns [.int k, .int k, .int k] st = some (.val (.tup U), st)) (h2 : ∀ st, m__law_pattern_lot [.int k, .int k, .int k] st = some (.prv U, st)) (hl : ps.length ≤ 100000) :
    A6 [s0, .pub (.loc 1), .own ps, x3, x4, x5, x6, .pub (.tup T), .pub (.tup T), .pub (.int k), x10, x11, x12] st = some (.nx [s0, .pub (.loc 1), .own (ps ++ [pr (.tup T), pr (.tup U)]), x3, x4, x5, x6, .pub (.tup T), .pub (.tup T), .pub (.int k), x10, x11, x12] st) := by
  have : ps.length + 2 ≤ line := by unfold line; omega
  simp [sOwn, Vx.e2, eLst, eTup, eA, eCons, eNil, eVar, eCall, vals, R.d, cTuple, seqD, h, h2, cAdd, (by decide : 2 ≤ line), this]
theorem a7_for (x7 : Sl) : ∀ (l ps : List Vx.D) (x10 x11 : Sl), (∀ it ∈ l, chkP it = true) → PairsOk ps → ps.length + l.length ≤ 100000 → ∃ (qs : List Vx.D) (y10 y11 : Sl), PairsOk qs ∧ qs.length = ps.length + l.length ∧
    forL (.names [10, 11]) (sApp 2 (eTup (eCons (eCall m_faulty_ones (eCons (eTup (eCons (eVar 10) (eCons (eVar 11) eNil))) eNil)) (eCons (eA (eCons (eCall m__law_machines_of (eCons (eTup (eCons (eVar 10) (eCons (eVar 11) eNil))) eNil)) eNil) cTuple) eNil)))) l [s0, .pub (.loc 1), .own ps, x3, x4, x5, x6, x7, x8, x9, x10, x11, x12] st
    = some (.nx [s0, .pub (.loc 1), .own qs, x3, x4, x5, x6, x7, x8, x9, y10, y11, x12] st)
  | [], ps, x10, x11, _, h, _ => ⟨ps, x10, x11, h, rfl, rfl⟩
  | it :: l, ps, x10, x11, hc, h, hl => by
    obtain ⟨q, t, f, rfl, h1, h2, h3⟩ := chkP_facts (hc it List.mem_cons_self)
    simp only [List.length_cons] at hl
    obtain ⟨qs, y10, y11, g1, g2, g3⟩ := a7_for x7 l (ps ++ [pr (.tup f)]) (.pub q) (.pub t) (fun i hi => hc i (List.mem_cons_of_mem _ hi)) (ok_app h (ok_one (small_pl h3))) (by simp; omega)
    refine ⟨qs, y10, y11, g1, by rw [g2]; simp; omega, ?_⟩
    have hz : ps.length < line := by unfold line; omega
    rw [forL_step (sl1 := [s0, .pub (.loc 1), .own ps, x3, x4, x5, x6, x7, x8, x9, .pub q, .pub t, x12]) (sl2 := [s0, .pub (.loc 1), .own (ps ++ [pr (.tup f)]), x3, x4, x5, x6, x7, x8, x9, .pub q, .pub t, x12]) (st2 := st) (by simp [put, putN]) (by
      simp [sApp, ePub, eTup, eA, eCons, eNil, eVar, eCall, vals, R.d, cTuple, seqD, h1, h2, (by decide : 2 ≤ line), hz]), g3]
theorem a8 {T : List Vx.D} : A8 [s0, .pub (.loc 1), .own ps, x3, x4, x5, x6, .pub (.tup T), x8, x9, x10, x11, x12] st = some (.nx [s0, .pub (.loc 1), .own ps, x3, x4, x5, x6, .pub (.tup T), x8, x9, x10, x11, .pub (.int (min T.length 20 : Nat))] st) := by
  have : (if (20 : Int) < (T.length : Int) then (20 : Int) else (T.length : Int)) = ((min T.length 20 : Nat) : Int) := by split <;> omega
  simp [sAsg, ePub, put, eA, eCons, eNil, eVar, eC, R.d, cMin, cLen, seqD, this]
theorem sApp_of {i : Nat} {f : EvF} {sl : Sls} {st st' : Amb} {l : List Vx.D} {d : Vx.D} (h1 : sl[i]? = some (.own l)) (h2 : ePub f sl st = some (.val d, st')) (hz : l.length < line) : sApp i f sl st = some (.nx (sl.set i (.own (l ++ [d]))) st') := by
  unfold sApp
  rw [h1, h2]
  exact if_pos hz
theorem a9g (M N : Mean) {k : Nat} {T g : List Vx.D} (h : ∀ st, M [.tup (cutD T none (some (k : Int)))] st = some (.val (.tup g), st)) (h2 : ∀ st, N [.int k] st = some (.val (.lst g), st)) (hl : ps.length ≤ 100000) :
    (sApp 2 (eTup (eCons (eCall M (eCons (eSl (eVar 7) oNone (oSome (eVar 12))) eNil)) (eCons (eA (eCons (eCall N (eCons (eVar 12) eNil)) eNil) cTuple) eNil)))) [s0, .pub (.loc 1), .own ps, x3, x4, x5, x6, .pub (.tup T), x8, x9, x10, x11, .pub (.int k)] st = some (.nx [s0, .pub (.loc 1), .own (ps ++ [pr (.tup g)]), x3, x4, x5, x6, .pub (.tup T), x8, x9, x10, x11, .pub (.int k)] st) := by
  have hz : ps.length < line := by unfold line; omega
  have e1 : ePub (eTup (eCons (eCall M (eCons (eSl (eVar 7) oNone (oSome (eVar 12))) eNil)) (eCons (eA (eCons (eCall N (eCons (eVar 12) eNil)) eNil) cTuple) eNil))) [s0, .pub (.loc 1), .own ps, x3, x4, x5, x6, .pub (.tup T), x8, x9, x10, x11, .pub (.int k)] st = some (.val (pr (.tup g)), st) := by
    have g1 : eSl (eVar 7) oNone (oSome (eVar 12)) [s0, .pub (.loc 1), .own ps, x3, x4, x5, x6, .pub (.tup T), x8, x9, x10, x11, .pub (.int k)] st = some (.val (.tup (cutD T none (some (k : Int)))), st) := rfl
    have g2 : eCall M (eCons (eSl (eVar 7) oNone (oSome (eVar 12))) eNil) [s0, .pub (.loc 1), .own ps, x3, x4, x5, x6, .pub (.tup T), x8, x9, x10, x11, .pub (.int k)] st = some (.val (.tup g), st) := by
      simp only [eCall, eCons, eNil, g1, Option.bind_some, Option.map_some, vals, h]
    have g3 : eA (eCons (eCall N (eCons (eVar 12) eNil)) eNil) cTuple [s0, .pub (.loc 1), .own ps, x3, x4, x5, x6, .pub (.tup T), x8, x9, x10, x11, .pub (.int k)] st = some (.val (.tup g), st) := by
      have q : eVar 12 [s0, .pub (.loc 1), .own ps, x3, x4, x5, x6, .pub (.tup T), x8, x9, x10, x11, .pub (.int k)] st = some (.val (.int k), st) := rfl
      simp only [eA, eCall, eCons, eNil, q, Option.bind_some, Option.map_some, vals, h2, List.map_cons, List.map_nil, R.d, cTuple, seqD]
    simp only [ePub, eTup]
    rw [eCons, g2]
    simp only [Option.bind_some]
    rw [eCons, g3]
    rfl
  exact sApp_of rfl e1 hz
theorem a9 {k : Nat} {T g : List Vx.D} (h : ∀ st, m_all_goes [.tup (cutD T none (some (k : Int)))] st = some (.val (.tup g), st)) (h2 : ∀ st, m__law_all_goes [.int k] st = some (.val (.lst g), st)) (hl : ps.length ≤ 100000) :
    A9 [s0, .pub (.loc 1), .own ps, x3, x4, x5, x6, .pub (.tup T), x8, x9, x10, x11, .pub (.int k)] st = some (.nx [s0, .pub (.loc 1), .own (ps ++ [pr (.tup g)]), x3, x4, x5, x6, .pub (.tup T), x8, x9, x10, x11, .pub (.int k)] st) :=
  a9g s0 ps x3 x4 x5 x6 x8 x9 x10 x11 st m_all_goes m__law_all_goes h h2 hl
end
/-- what stands behind each turn -/
def TInv (s0 : Sl) (k : Nat) (sl : Sls) (st : Amb) : Prop := ∃ (ps : List Vx.D) (x3 x4 x5 x6 x7 x8 x9 x10 x11 x12 : Sl), sl = [s0, .pub (.loc 1), .own ps, x3, x4, x5, x6, x7, x8, x9, x10, x11, x12] ∧ PairsOk ps ∧ ps.length ≤ 200 * k ∧ DealAt st []
theorem turn {s0 : Sl} {k : Nat} {sl : Sls} {st : Amb} (t : Int) (hk : k ≤ 100) (h : TInv s0 k sl st) : ∃ sl1 sl2 st2, put (.name 3) (.int t) sl = some sl1 ∧ LB sl1 st = some (.nx sl2 st2) ∧ TInv s0 (k + 1) sl2 st2 := by
  obtain ⟨ps, x3, x4, x5, x6, x7, x8, x9, x10, x11, x12, rfl, hp, hl, D⟩ := h
  obtain ⟨r, st1, r0, r1, D1, e1⟩ := a1 s0 ps (.pub (.int t)) x4 x5 x6 x7 x8 x9 x10 x11 x12 st D
  obtain ⟨s, l, st2, q0, q1, q2, q3, D2, e2⟩ := a2 s0 ps (.pub (.int t)) x5 x6 x7 x8 x9 x10 x11 x12 st1 (1 + r) D1
  obtain ⟨T, t1, t2, t3, t4, t5, g, t6, t7, t8⟩ := chk_facts (chk_get (m := 1 + r) (by omega) (by omega) q0 q1 q2 q3)
  have hf : ∃ f, (if 3 < 1 + r then 3 else 1 + r) = f ∧ 1 ≤ f ∧ f ≤ 3 := ⟨_, rfl, by split <;> omega, by split <;> omega⟩
  obtain ⟨f, ef, f1, f3⟩ := hf
  obtain ⟨U, u1, u2, u3, _⟩ := chk_facts (chk_get (m := f) (s := f) (l := f) f1 (by omega) (by omega) (by rw [if_pos (by omega)]; omega) (by omega) (by rw [if_pos (by omega)]; omega))
  have hp6 := ok_app hp (ok_app (ok_one (small_pl t3)) (ok_one (small_pl u3)))
  obtain ⟨qs, y10, y11, g1, g2, g3⟩ := a7_for s0 (.pub (.int t)) (.pub (.int (1 + r))) (.pub (.int s)) (.pub (.int l)) (.pub (.tup T)) (.pub (.int f)) x12 st2 (.pub (.tup T)) T (ps ++ ([pr (.tup T)] ++ [pr (.tup U)])) x10 x11 t5 hp6 (by simp; omega)
  refine ⟨[s0, .pub (.loc 1), .own ps, .pub (.int t), x4, x5, x6, x7, x8, x9, x10, x11, x12], _, st2, by simp [put], seq_nx e1 (seq_nx e2 (seq_nx (a3 _ _ _ _ _ _ _ _ _ _ t2) (seq_nx (a4 _ _ _ _ _ _ _ _ _ t1) (seq_nx (a5 _ _ _ _ _ _ _ _ _ _ _ _) (seq_nx (by rw [ef]; exact a6 _ _ _ _ _ _ _ _ _ _ u1 u2 (by omega)) (seq_nx (sl1 := [s0, .pub (.loc 1), .own qs, .pub (.int t), .pub (.int (1 + r)), .pub (.int s), .pub (.int l), .pub (.tup T), .pub (.tup T), .pub (.int f), y10, y11, x12]) (st1 := st2) ?_ (seq_nx (a8 _ _ _ _ _ _ _ _ _ _ _ _) (a9 _ _ _ _ _ _ _ _ _ _ _ t6 t7 ?_)))))))),
    qs ++ [pr (.tup g)], _, _, _, _, _, _, _, y10, y11, _, rfl, ok_app g1 (ok_one (small_pl t8)), ?_, D2⟩
  · simp only [sFor, iTupD, eVar, List.getElem?_cons_succ, List.getElem?_cons_zero, Option.bind_some]
    exact g3
  · rw [g2]; simp; omega
  · rw [List.length_append, g2]; simp; omega
/-! values that hang on no shared list -/
def EV (f : EvF) (sl : Sls) (d : Vx.D) : Prop := ∀ st, f sl st = some (.val d, st)
def PV (F : EvA) (sl : Sls) (ds : List Vx.D) : Prop := ∀ st, F sl st = some (ds.map .val, st)
theorem vals_map : ∀ ds : List Vx.D, vals (ds.map R.val) = some ds
  | [] => rfl
  | d :: ds => by simp [vals, vals_map ds]
section
variable {f g : EvF} {F : EvA} {sl : Sls} {d : Vx.D} {ds : List Vx.D} {i j : Int} {M : Mean}
theorem pv_nil : PV eNil sl [] := fun st => rfl
theorem pv_cons (a : EV f sl d) (b : PV F sl ds) : PV (eCons f F) sl (d :: ds) := fun st => by simp [eCons, a st, b st]
theorem ev_C : EV (eC d) sl d := fun st => rfl
theorem ev_var {k : Nat} (h : sl[k]? = some (.pub d)) : EV (eVar k) sl d := fun st => by simp [eVar, h]
theorem ev_tup (a : PV F sl ds) (h : ds.length ≤ line) : EV (eTup F) sl (.tup ds) := fun st => by simp [eTup, a st, vals_map, h]
theorem lst_of (a : PV F sl ds) (h : ds.length ≤ line) (st : Amb) : eLst F sl st = some (.prv ds, st) := by simp [eLst, a st, vals_map, h]
theorem ev_call (a : PV F sl ds) (h : ∀ st, M ds st = some (.val d, st)) : EV (eCall M F) sl d := fun st => by simp [eCall, a st, vals_map, h st]
theorem ev_callK {ix : List Nat} (a : PV F sl ds) (h : ∀ st, M (pick ix ds) st = some (.val d, st)) : EV (eCallK M ix F) sl d := fun st => by simp [eCallK, a st, vals_map, h st]
theorem ev_len {T : List Vx.D} (a : EV f sl (.tup T)) : EV (eA (eCons f eNil) cLen) sl (.int T.length) := fun st => by simp [eA, eCons, eNil, a st, R.d, cLen, seqD]
theorem ev_add (a : EV f sl (.int i)) (b : EV g sl (.int j)) : EV (Vx.e2 f g cAdd) sl (.int (i + j)) := fun st => by simp [Vx.e2, a st, b st, R.d, cAdd]
theorem ev_sub (a : EV f sl (.int i)) (b : EV g sl (.int j)) : EV (Vx.e2 f g (cI fSub)) sl (.int (i - j)) := fun st => by simp [Vx.e2, a st, b st, R.d, cI, fSub]
theorem ev_mul (a : EV f sl (.int i)) (b : EV g sl (.int j)) (h : i.natAbs < 2 ^ 31) (h2 : j.natAbs < 2 ^ 31) : EV (Vx.e2 f g cMul) sl (.int (i * j)) := fun st => by
  have a1 : i.natAbs.log2 < 30 + 1 := log2_lt' (by omega)
  have a2 : j.natAbs.log2 < 30 + 1 := log2_lt' (by omega)
  have : i.natAbs.log2 + j.natAbs.log2 < 1000000 := by omega
  simp [Vx.e2, a st, b st, R.d, cMul, cI, fMul, this]
theorem own_add {k : Nat} {l : List Vx.D} (hk : sl[k]? = some (.own l)) (a : PV F sl ds) (h : l.length + ds.length ≤ line) (st : Amb) : sOwn k (Vx.e2 (eVar k) (eLst F) cAdd) sl st = some (.nx (sl.set k (.own (l ++ ds))) st) := by
  have hi : k < sl.length := (List.getElem?_eq_some_iff.mp hk).1
  have hv : eVar k sl st = some (.bor l, st) := by unfold eVar; rw [hk]
  simp [sOwn, Vx.e2, hv, lst_of a (by omega : ds.length ≤ line), R.d, cAdd, h, hi]
theorem ret_all {k : Nat} {l : List Vx.D} (hk : sl[k]? = some (.own l)) (a : PV F sl ds) (h : l.length + ds.length ≤ line) (hM : ∀ ps, PairsOk ps → ∀ st, M [.lst ps] st = some (.val (.bl true), st)) (hp : PairsOk (l ++ ds)) (st : Amb) :
    sRet (eCall M (eCons (ePub (Vx.e2 (eVar k) (eLst F) cAdd)) eNil)) sl st = some (.rt (.val (.bl true)) st) := by
  have hv : eVar k sl st = some (.bor l, st) := by unfold eVar; rw [hk]
  simp [sRet, eCall, eCons, eNil, ePub, Vx.e2, hv, lst_of a (by omega : ds.length ≤ line), R.d, cAdd, h, vals, hM _ hp]
end
theorem isLen_get {m s l k : Int} (h : isLen (m_all_patterns [.int m, .int s, .int l] []) k = true) : ∃ T : List Vx.D, (∀ st, m_all_patterns [.int m, .int s, .int l] st = some (.val (.tup T), st)) ∧ (T.length : Int) = k := by
  cases hm : m_all_patterns [.int m, .int s, .int l] [] with
  | none => rw [hm] at h; cases h
  | some p =>
    obtain ⟨r, s1⟩ := p
    rw [hm] at h
    unfold isLen at h
    split at h
    · rename_i T s2 e
      cases e
      exact ⟨T, (lm_all_patterns _ _ _ hm).2, of_decide_eq_true h⟩
    · cases h
theorem isVal_get {m : Mean} {xs : List Vx.D} {d : Vx.D} (L : LM m) (h : isVal (m xs []) d = true) : ∀ st, m xs st = some (.val d, st) := by
  cases hm : m xs [] with
  | none => rw [hm] at h; cases h
  | some p =>
    obtain ⟨r, s1⟩ := p
    rw [hm] at h
    unfold isVal at h
    split at h
    · rename_i T s2 e
      cases e
      rw [← same_eq _ _ h]
      exact (L _ _ _ hm).2
    · cases h
theorem ok_int (i : Int) : D.pl (.int i) = true ∧ D.sz (.int i) < Fu := ⟨rfl, by rw [D.sz, fu_succ]; omega⟩
theorem ok_nil' : True := trivial
theorem ok_nil : PairsOk [] := fun p hp => by cases hp
theorem ok_cons {d : Vx.D} {ps : List Vx.D} (h : D.pl d = true ∧ D.sz d < Fu) (g : PairsOk ps) : PairsOk (pr d :: ps) := ok_app (ok_one h) g
theorem rest {s0 : Sl} {sl : Sls} {st : Amb} (h : TInv s0 4 sl st) : ∃ st', LR sl st = some (.rt (.val (.bl true)) st') := by
  obtain ⟨ps, x3, x4, x5, x6, x7, x8, x9, x10, x11, x12, rfl, hp, hl, D⟩ := h
  obtain ⟨r, st', e, h0, h1, D'⟩ := any_at (sl := [s0, .pub (.loc 1), .own ps, x3, x4, x5, x6, x7, x8, x9, x10, x11, x12]) (f := eC (.int 4)) (b := 4) rfl (fun _ => rfl) (by decide) (by decide) D
  have er1 : R1 [s0, .pub (.loc 1), .own ps, x3, x4, x5, x6, x7, x8, x9, x10, x11, x12] st = some (.nx [s0, .pub (.loc 1), .own ps, x3, .pub (.int (3 + r)), x5, x6, x7, x8, x9, x10, x11, x12] st') := by
    simp only [sAsg, ePub, Vx.e2, e, eC, Option.bind_some, Option.map_some, cAdd, R.d, put]
    rfl
  generalize hm : 3 + r = m at er1
  have hc : chkE m = true := List.all_eq_true.mp chkE_all m (by simp; omega)
  unfold chkE at hc
  simp only [Bool.and_eq_true] at hc
  obtain ⟨⟨⟨c1, c2⟩, c3⟩, c4⟩ := hc
  obtain ⟨T1, t1, k1⟩ := isLen_get c1
  obtain ⟨T2, t2, k2⟩ := isLen_get c2
  obtain ⟨T3, t3, k3⟩ := isLen_get c3
  have t4 := isVal_get (m := m_all_patterns) (xs := [.int m, .int 0, .int 0]) (d := .tup [.tup [.tup [], .tup []]]) lm_all_patterns c4
  have t5 := isVal_get lm_all_patterns v1
  have t6 := isVal_get lm_all_patterns v2
  have t7 := isVal_get lm_faulty_ones v3
  have t8 := isVal_get lm_all_goes v4
  have t9 := isVal_get lm_all_goes v5
  have hla : ∀ ps, PairsOk ps → ∀ st, m__law_all [.lst ps] st = some (.val (.bl true), st) := fun ps h st => Vx.law_all h st
  have hll : ps.length ≤ 800 := by omega
  have z : (16777216 : Nat) = line := rfl
  refine ⟨_, seq_nx er1 (seq_nx (own_add (k := 2) rfl (pv_cons (ev_tup (pv_cons (ev_len (ev_call (pv_cons (ev_var rfl) (pv_cons ev_C (pv_cons ev_C pv_nil))) t1)) (pv_cons (ev_add ev_C (ev_var rfl)) pv_nil)) (show 2 ≤ line by decide)) (pv_cons (ev_tup (pv_cons (ev_len (ev_call (pv_cons (ev_var rfl) (pv_cons ev_C (pv_cons ev_C pv_nil))) t2)) (pv_cons (ev_add ev_C (ev_var rfl)) pv_nil)) (show 2 ≤ line by decide)) pv_nil)) (by simp; unfold line; omega) _) (seq_nx (own_add (k := 2) rfl (pv_cons (ev_tup (pv_cons (ev_len (ev_call (pv_cons (ev_var rfl) (pv_cons ev_C (pv_cons ev_C pv_nil))) t3)) (pv_cons (ev_add (ev_add ev_C (ev_mul ev_C (ev_var rfl) (by omega) (by omega))) (ev_mul (ev_var rfl) (ev_sub (ev_var rfl) ev_C) (by omega) (by omega))) pv_nil)) (show 2 ≤ line by decide)) pv_nil) (by simp; unfold line; omega) _) (seq_nx (own_add (k := 2) rfl (pv_cons (ev_tup (pv_cons (ev_call (pv_cons (ev_var rfl) (pv_cons ev_C (pv_cons ev_C pv_nil))) t4) (pv_cons (ev_tup (pv_cons (ev_tup (pv_cons (ev_tup pv_nil (show 0 ≤ line by decide)) (pv_cons (ev_tup pv_nil (show 0 ≤ line by decide)) pv_nil)) (show 2 ≤ line by decide)) pv_nil) (show 1 ≤ line by decide)) pv_nil)) (show 2 ≤ line by decide)) (pv_cons (ev_tup (pv_cons (ev_call (pv_cons ev_C (pv_cons ev_C (pv_cons ev_C pv_nil))) t5) (pv_cons (ev_tup (pv_cons (ev_tup (pv_cons (ev_tup pv_nil (show 0 ≤ line by decide)) (pv_cons (ev_tup pv_nil (show 0 ≤ line by decide)) pv_nil)) (show 2 ≤ line by decide)) pv_nil) (show 1 ≤ line by decide)) pv_nil)) (show 2 ≤ line by decide)) pv_nil)) (by simp; unfold line; omega) _) (seq_nx (own_add (k := 2) rfl (pv_cons (ev_tup (pv_cons (ev_call (pv_cons ev_C (pv_cons ev_C (pv_cons ev_C pv_nil))) t6) (pv_cons (ev_tup (pv_cons (ev_tup (pv_cons (ev_tup pv_nil (show 0 ≤ line by decide)) (pv_cons (ev_tup pv_nil (show 0 ≤ line by decide)) pv_nil)) (show 2 ≤ line by decide)) (pv_cons (ev_tup (pv_cons (ev_tup pv_nil (show 0 ≤ line by decide)) (pv_cons (ev_tup (pv_cons ev_C pv_nil) (show 1 ≤ line by decide)) pv_nil)) (show 2 ≤ line by decide)) (pv_cons (ev_tup (pv_cons (ev_tup pv_nil (show 0 ≤ line by decide)) (pv_cons (ev_tup (pv_cons ev_C pv_nil) (show 1 ≤ line by decide)) pv_nil)) (show 2 ≤ line by decide)) (pv_cons (ev_tup (pv_cons (ev_tup (pv_cons ev_C pv_nil) (show 1 ≤ line by decide)) (pv_cons (ev_tup pv_nil (show 0 ≤ line by decide)) pv_nil)) (show 2 ≤ line by decide)) (pv_cons (ev_tup (pv_cons (ev_tup (pv_cons ev_C pv_nil) (show 1 ≤ line by decide)) (pv_cons (ev_tup pv_nil (show 0 ≤ line by decide)) pv_nil)) (show 2 ≤ line by decide)) pv_nil))))) (show 5 ≤ line by decide)) pv_nil)) (show 2 ≤ line by decide)) pv_nil) (by simp; unfold line; omega) _) (seq_nx (own_add (k := 2) rfl (pv_cons (ev_tup (pv_cons (ev_callK (pv_cons (ev_tup (pv_cons (ev_tup (pv_cons ev_C (pv_cons ev_C pv_nil)) (show 2 ≤ line by decide)) (pv_cons (ev_tup (pv_cons ev_C pv_nil) (show 1 ≤ line by decide)) pv_nil)) (show 2 ≤ line by decide)) pv_nil) t7) (pv_cons (ev_tup (pv_cons ev_C (pv_cons ev_C (pv_cons ev_C pv_nil))) (show 3 ≤ line by decide)) pv_nil)) (show 2 ≤ line by decide)) (pv_cons (ev_tup (pv_cons (ev_callK (pv_cons (ev_tup (pv_cons (ev_tup (pv_cons (ev_tup pv_nil (show 0 ≤ line by decide)) (pv_cons (ev_tup pv_nil (show 0 ≤ line by decide)) pv_nil)) (show 2 ≤ line by decide)) pv_nil) (show 1 ≤ line by decide)) pv_nil) t8) (pv_cons (ev_tup (pv_cons (ev_tup (pv_cons ev_C (pv_cons ev_C pv_nil)) (show 2 ≤ line by decide)) pv_nil) (show 1 ≤ line by decide)) pv_nil)) (show 2 ≤ line by decide)) pv_nil)) (by simp; unfold line; omega) _) (ret_all rfl (pv_cons (ev_tup (pv_cons (ev_call (pv_cons (ev_tup (pv_cons (ev_tup (pv_cons (ev_tup pv_nil (show 0 ≤ line by decide)) (pv_cons (ev_tup pv_nil (show 0 ≤ line by decide)) pv_nil)) (show 2 ≤ line by decide)) (pv_cons (ev_tup (pv_cons (ev_tup pv_nil (show 0 ≤ line by decide)) (pv_cons (ev_tup (pv_cons ev_C pv_nil) (show 1 ≤ line by decide)) pv_nil)) (show 2 ≤ line by decide)) pv_nil)) (show 2 ≤ line by decide)) pv_nil) t9) (pv_cons (ev_tup (pv_cons (ev_tup (pv_cons ev_C (pv_cons ev_C pv_nil)) (show 2 ≤ line by decide)) (pv_cons (ev_tup (pv_cons ev_C (pv_cons ev_C pv_nil)) (show 2 ≤ line by decide)) (pv_cons (ev_tup (pv_cons ev_C (pv_cons ev_C pv_nil)) (show 2 ≤ line by decide)) (pv_cons (ev_tup (pv_cons ev_C (pv_cons ev_C pv_nil)) (show 2 ≤ line by decide)) pv_nil)))) (show 4 ≤ line by decide)) pv_nil)) (show 2 ≤ line by decide)) pv_nil) (by simp; unfold line; omega) hla ?_ _))))))⟩
  simp only [List.append_assoc, List.cons_append, List.nil_append]
  refine ok_app hp ?_
  rw [k1, k2, k3]
  refine ok_cons (ok_int _) (ok_cons (ok_int _) (ok_cons (ok_int _) (ok_cons ⟨?_, ?_⟩ (ok_cons ⟨?_, ?_⟩ (ok_cons ⟨?_, ?_⟩ (ok_cons ⟨?_, ?_⟩ (ok_cons ⟨?_, ?_⟩ (ok_cons ⟨?_, ?_⟩ ok_nil))))))))
  all_goals decide +kernel
theorem the_law : ∀ ns : List Int, ns.length ≤ 63 → ∃ st, m_law [.frz (ns.map Vx.D.int)] [] = some (.val (.bl true), st) := by
  intro ns hl
  obtain ⟨st0, e0, D0⟩ := Vx.law_deal ns 906 (by decide) (by decide)
  have e0 : m__law_deal [.frz (ns.map .int), .int 906] [] = some (.val (.loc 1), st0) := e0
  have i0 : TInv (.pub (.frz (ns.map .int))) 0 [.pub (.frz (ns.map .int)), .pub (.loc 1), .own [], .un, .un, .un, .un, .un, .un, .un, .un, .un, .un] st0 := ⟨[], _, _, _, _, _, _, _, _, _, _, rfl, ok_nil, Nat.zero_le _, D0⟩
  obtain ⟨p1, q1, st1, a1, b1, i1⟩ := turn 0 (by decide) i0
  obtain ⟨p2, q2, st2, a2, b2, i2⟩ := turn 1 (by decide) i1
  obtain ⟨p3, q3, st3, a3, b3, i3⟩ := turn 2 (by decide) i2
  obtain ⟨p4, q4, st4, a4, b4, i4⟩ := turn 3 (by decide) i3
  obtain ⟨st5, e5⟩ := rest i4
  refine ⟨st5, ?_⟩
  refine mean_rt [.pub (.frz (ns.map .int)), .un, .un, .un, .un, .un, .un, .un, .un, .un, .un, .un, .un] rfl ?_
  rw [b_law_eq]
  refine seq_nx (sl1 := [.pub (.frz (ns.map .int)), .pub (.loc 1), .un, .un, .un, .un, .un, .un, .un, .un, .un, .un, .un]) (st1 := st0) ?_ (seq_nx (sl1 := [.pub (.frz (ns.map .int)), .pub (.loc 1), .own [], .un, .un, .un, .un, .un, .un, .un, .un, .un, .un]) (st1 := st0) ?_ (seq_nx (sl1 := q4) (st1 := st4) ?_ e5))
  · simp [sAsg, ePub, eCall, eCons, eNil, eVar, eC, vals, e0, put]
  · simp [sOwn, eLst, eNil, vals]
  · have hr : iRg1 (eCons (eC (.int 4)) eNil) [.pub (.frz (ns.map .int)), .pub (.loc 1), .own [], .un, .un, .un, .un, .un, .un, .un, .un, .un, .un] st0 = some ([.int 0, .int 1, .int 2, .int 3], st0) := by
      have : rg 0 4 = [.int 0, .int 1, .int 2, .int 3] := by rfl
      simp [iRg1, eCons, eNil, eC, this]
    simp only [sFor, hr, Option.bind_some]
    rw [forL_step a1 b1, forL_step a2 b2, forL_step a3 b3, forL_step a4 b4]
    rfl
end K06


open PySem PySem.W PyProof.Rows in
set_option maxRecDepth 100000 in
set_option maxHeartbeats 0 in
theorem PySem.Challenge.cw_liarschange_k06_patterns_are_lots_of_two_holds : PySem.Challenge.rw_liarschange_k06_patterns_are_lots_of_two.Holds := by
  w_on; o_law; k_head; (case hw => w_witness2)
  k_fill
  refine K06.walk (l := PySem.Challenge.rw_liarschange_k06_patterns_are_lots_of_two) rfl rfl (fun w h Y => PySem.W.kIn_of Y) K06.the_law ?F
  case F =>
    intro w mg fa h KX G hmg
    refine' K06.all_mk KX G hmg ?a0 ?l0 ?c0 ?k0 ?a1 ?l1 ?c1 ?k1 ?a2 ?l2 ?c2 ?k2 ?a3 ?l3 ?c3 ?k3 ?a4 ?l4 ?c4 ?k4 ?a5 ?l5 ?c5 ?k5 ?a6 ?l6 ?c6 ?k6 ?a7 ?l7 ?c7 ?k7 ?a8 ?l8 ?c8 ?k8 ?a9 ?l9 ?c9 ?k9 ?a10 ?l10 ?c10 ?k10 ?a11 ?l11 ?c11 ?k11 ?a12 ?l12 ?c12 ?k12 ?a13 ?l13 ?c13 ?k13 ?a14 ?l14 ?c14 ?k14 ?z_min ?z_range ?z_sorted ?z_tuple ?z_len ?z_list ?z_int ?z_abs ?z_isinstance ?z_str ?z_bool ?z_dict
    (case a0 => k_is)
    (case l0 => k_is)
    (case c0 => k_is)
    (case k0 => k_is)
    (case a1 => k_is)
    (case l1 => k_is)
    (case c1 => k_is)
    (case k1 => k_is)
    (case a2 => k_is)
    (case l2 => k_is)
    (case c2 => k_is)
    (case k2 => k_is)
    (case a3 => k_is)
    (case l3 => k_is)
    (case c3 => k_is)
    (case k3 => k_is)
    (case a4 => k_is)
    (case l4 => k_is)
    (case c4 => k_is)
    (case k4 => k_is)
    (case a5 => k_is)
    (case l5 => k_is)
    (case c5 => k_is)
    (case k5 => k_is)
    (case a6 => k_is)
    (case l6 => k_is)
    (case c6 => k_is)
    (case k6 => k_is)
    (case a7 => k_is)
    (case l7 => k_is)
    (case c7 => k_is)
    (case k7 => k_is)
    (case a8 => k_is)
    (case l8 => k_is)
    (case c8 => k_is)
    (case k8 => k_is)
    (case a9 => k_is)
    (case l9 => k_is)
    (case c9 => k_is)
    (case k9 => k_is)
    (case a10 => k_is)
    (case l10 => k_is)
    (case c10 => k_is)
    (case k10 => k_is)
    (case a11 => k_is)
    (case l11 => k_is)
    (case c11 => k_is)
    (case k11 => k_is)
    (case a12 => k_is)
    (case l12 => k_is)
    (case c12 => k_is)
    (case k12 => k_is)
    (case a13 => k_is)
    (case l13 => k_is)
    (case c13 => k_is)
    (case k13 => k_is)
    (case a14 => k_is)
    (case l14 => k_is)
    (case c14 => k_is)
    (case k14 => k_is)
    (case z_min => k_is)
    (case z_range => k_is)
    (case z_sorted => k_is)
    (case z_tuple => k_is)
    (case z_len => k_is)
    (case z_list => k_is)
    (case z_int => k_is)
    (case z_abs => k_is)
    (case z_isinstance => k_is)
    (case z_str => k_is)
    (case z_bool => k_is)
    (case z_dict => k_is)
#print axioms PySem.Challenge.cw_liarschange_k06_patterns_are_lots_of_two_holds

