import PyProof.Rows.All
import Wide.All
import OpenK.AllK
import Wide.FinOn
import HandS.ForMost
import HandS.Deep
import KE.SortData
import HandS.TupAny
import HandS.TupMul
import HandS.Style
import HandS.IsInst
import HandS.Conv
import HandS.Wide
import HandS.Defaults
import HandS.TupSets
import KE.KeyNested
import KE.GoesMore
import HandS.Strs
import PySem.Challenge.RW_liarschange_k09_faults_that_may_begin_st
set_option Elab.async false
set_option linter.all false
set_option maxRecDepth 100000
/-! Vx: a value layer over HandS: data as trees, expressions and statements as functions of trees. -/
namespace Vx
open PySem L2

/-- data as trees; frz: a list that is never written (the script); tpc: a tuple whose very object is known; loc n: the n-th shared list -/
inductive D where
  | non | bl (b : Bool) | int (i : Int) | str (s : Str) | tup (l : List D) | lst (l : List D) | frz (l : List D) | loc (n : Nat) | tpc (l : List D) | ins (c : Str) (ns : List Str) (l : List D) | mrk (n : Nat) | fn (x : Str)

/-- the shared lists' addresses, the lists that are never written any more, the heap -/
structure Wd where
  al : List Addr
  S : Addr → Prop
  H : Hp

mutual
inductive Rep (K : PySem.W.Frag) (w : Wd) : V → D → Prop
  | non : Rep K w .non .non
  | bl (b : Bool) : Rep K w (.bl b) (.bl b)
  | int (i : Int) : Rep K w (.int i) (.int i)
  | str (s : Str) : Rep K w (.str s) (.str s)
  | tup {a : Addr} {vs : List V} {ds : List D} : SqT K w.H a vs → RepL K w vs ds → Rep K w (.ref a) (.tup ds)
  | lst {a : Addr} {vs : List V} {ds : List D} : w.S a → w.H a = some (.lst vs) → RepL K w vs ds → Rep K w (.ref a) (.lst ds)
  | frz {a : Addr} {vs : List V} {ds : List D} {o : Obj} : w.H a = some (.frz o (.lst vs)) → RepL K w vs ds → Rep K w (.ref a) (.frz ds)
  | frk {a : Addr} {vs : List V} {ds : List D} {o : Obj} {its : Array Value} {n : Nat} : K.lookup a = some o → o.cls = .type "list" → o.dict = none → o.data = .seq its n → its.size ≤ sizeLine → Vals vs its.toList → RepL K w vs ds → Rep K w (.ref a) (.frz ds)
  | loc {n : Nat} {a : Addr} : w.al[n]? = some a → Rep K w (.ref a) (.loc n)
  | tpc {a : Addr} {vs : List V} {ds : List D} {o : Obj} : w.H a = some (.frz o (.tup vs)) → o.dict = none → RepL K w vs ds → Rep K w (.ref a) (.tpc ds)
  | ins {a C dx : Addr} {c : Str} {ns : List Str} {vs : List V} {ds : List D} : PySem.W.nsIn K mainGlobals c = some (some (.ref C)) → w.H a = some (.ins C dx (ns.zip vs)) → ns.length = vs.length → RepL K w vs ds → Rep K w (.ref a) (.ins c ns ds)
inductive RepL (K : PySem.W.Frag) (w : Wd) : List V → List D → Prop
  | nil : RepL K w [] []
  | cons {v : V} {vs : List V} {d : D} {ds : List D} : Rep K w v d → RepL K w vs ds → RepL K w (v :: vs) (d :: ds)
end

section
variable {K : PySem.W.Frag} {w w' : Wd}
mutual
theorem Rep.imp (hI : ∀ a C dx fs, w.H a = some (.ins C dx fs) → w'.H a = some (.ins C dx fs)) (hT : ∀ a xs, SqT K w.H a xs → SqT K w'.H a xs) (hL : ∀ a xs, w.S a → w.H a = some (.lst xs) → w'.S a ∧ w'.H a = some (.lst xs))
    (hF : ∀ a o xs, w.H a = some (.frz o xs) → w'.H a = some (.frz o xs)) (hA : ∀ (n : Nat) (a : Addr), w.al[n]? = some a → w'.al[n]? = some a) :
    ∀ (d : D) (v : V), Rep K w v d → Rep K w' v d
  | .non, _, h => by cases h; exact .non
  | .bl b, _, h => by cases h; exact .bl b
  | .int i, _, h => by cases h; exact .int i
  | .str s, _, h => by cases h; exact .str s
  | .tup ds, _, h => by cases h with | tup h1 h2 => exact .tup (hT _ _ h1) (RepL.imp hI hT hL hF hA ds _ h2)
  | .lst ds, _, h => by cases h with | lst h0 h1 h2 => exact .lst (hL _ _ h0 h1).1 (hL _ _ h0 h1).2 (RepL.imp hI hT hL hF hA ds _ h2)
  | .frz ds, _, h => by
    cases h with
    | frz h1 h2 => exact .frz (hF _ _ _ h1) (RepL.imp hI hT hL hF hA ds _ h2)
    | frk a b c d e f h2 => exact .frk a b c d e f (RepL.imp hI hT hL hF hA ds _ h2)
  | .loc n, _, h => by cases h with | loc h1 => exact .loc (hA _ _ h1)
  | .tpc ds, _, h => by cases h with | tpc h1 h2 h3 => exact .tpc (hF _ _ _ h1) h2 (RepL.imp hI hT hL hF hA ds _ h3)
  | .ins c ns ds, _, h => by cases h with | ins h1 h2 h3 h4 => exact .ins h1 (hI _ _ _ _ h2) h3 (RepL.imp hI hT hL hF hA ds _ h4)
  | .mrk _, _, h => by cases h
  | .fn _, _, h => by cases h
theorem RepL.imp (hI : ∀ a C dx fs, w.H a = some (.ins C dx fs) → w'.H a = some (.ins C dx fs)) (hT : ∀ a xs, SqT K w.H a xs → SqT K w'.H a xs) (hL : ∀ a xs, w.S a → w.H a = some (.lst xs) → w'.S a ∧ w'.H a = some (.lst xs))
    (hF : ∀ a o xs, w.H a = some (.frz o xs) → w'.H a = some (.frz o xs)) (hA : ∀ (n : Nat) (a : Addr), w.al[n]? = some a → w'.al[n]? = some a) :
    ∀ (ds : List D) (vs : List V), RepL K w vs ds → RepL K w' vs ds
  | [], _, h => by cases h; exact .nil
  | d :: ds, _, h => by cases h with | cons h1 h2 => exact .cons (Rep.imp hI hT hL hF hA d _ h1) (RepL.imp hI hT hL hF hA ds _ h2)
end
theorem RepL.length : ∀ {ds : List D} {vs : List V}, RepL K w vs ds → vs.length = ds.length
  | [], _, h => by cases h; rfl
  | _ :: _, _, h => by cases h with | cons h1 h2 => simp [RepL.length h2]
theorem RepL.get : ∀ {ds : List D} {vs : List V} {i : Nat} {d : D}, RepL K w vs ds → ds[i]? = some d → ∃ v, vs[i]? = some v ∧ Rep K w v d
  | [], _, _, _, _, e => by simp at e
  | _ :: _, _, 0, _, h, e => by
    cases h with
    | cons h1 h2 => simp at e; subst e; exact ⟨_, rfl, h1⟩
  | _ :: _, _, i + 1, _, h, e => by
    cases h with
    | cons h1 h2 =>
      obtain ⟨v, a, b⟩ := RepL.get (i := i) h2 (by simpa using e)
      exact ⟨v, by simpa using a, b⟩
theorem RepL.getV : ∀ {ds : List D} {vs : List V} {i : Nat} {v : V}, RepL K w vs ds → vs[i]? = some v → ∃ d, ds[i]? = some d ∧ Rep K w v d
  | _, [], _, _, _, e => by simp at e
  | _, _ :: _, 0, _, h, e => by
    cases h with
    | cons h1 h2 => simp at e; subst e; exact ⟨_, rfl, h1⟩
  | _, _ :: _, i + 1, _, h, e => by
    cases h with
    | cons h1 h2 =>
      obtain ⟨v, a, b⟩ := RepL.getV (i := i) h2 (by simpa using e)
      exact ⟨v, by simpa using a, b⟩
theorem RepL.append : ∀ {ds es : List D} {vs us : List V}, RepL K w vs ds → RepL K w us es → RepL K w (vs ++ us) (ds ++ es)
  | [], _, _, _, h, k => by cases h; exact k
  | _ :: _, _, _, _, h, k => by cases h with | cons h1 h2 => exact .cons h1 (RepL.append h2 k)
theorem RepL.take : ∀ {ds : List D} {vs : List V} (n : Nat), RepL K w vs ds → RepL K w (vs.take n) (ds.take n)
  | _, _, 0, _ => .nil
  | [], _, _ + 1, h => by cases h; exact .nil
  | _ :: _, _, n + 1, h => by cases h with | cons h1 h2 => exact .cons h1 (RepL.take n h2)
theorem RepL.drop : ∀ {ds : List D} {vs : List V} (n : Nat), RepL K w vs ds → RepL K w (vs.drop n) (ds.drop n)
  | _, _, 0, h => h
  | [], _, _ + 1, h => by cases h; exact .nil
  | _ :: _, _, n + 1, h => by cases h with | cons h1 h2 => exact RepL.drop n h2
theorem RepL.set {d : D} {v : V} (r : Rep K w v d) : ∀ {ds : List D} {vs : List V} (n : Nat), RepL K w vs ds → RepL K w (vs.set n v) (ds.set n d)
  | [], _, _, h => by cases h; exact .nil
  | _ :: _, _, 0, h => by cases h with | cons h1 h2 => exact .cons r h2
  | _ :: _, _, n + 1, h => by cases h with | cons h1 h2 => exact .cons h1 (RepL.set r n h2)
theorem RepL.dropLast {ds : List D} {vs : List V} (h : RepL K w vs ds) : RepL K w vs.dropLast ds.dropLast := by
  rw [List.dropLast_eq_take, List.dropLast_eq_take, h.length]; exact h.take _
theorem RepL.reverse {ds : List D} {vs : List V} : RepL K w vs ds → RepL K w vs.reverse ds.reverse := by
  intro h
  induction ds generalizing vs with
  | nil => cases h; exact .nil
  | cons d ds ih =>
    cases h with
    | cons h1 h2 => simp only [List.reverse_cons]; exact (ih h2).append (.cons h1 .nil)
end

/-! ### worlds that go on -/
/-- from w to w': what stands stands, but at F (what may be written); F' : what may be written behind -/
structure Ext (w : Wd) (F : Addr → Prop) (w' : Wd) (F' : Addr → Prop) : Prop where
  keep : ∀ a o, w.H a = some o → ¬ F a → w'.H a = some o
  sS : ∀ a, w.S a → w'.S a
  sN : ∀ a, w'.S a → w.S a ∨ w.H a = none ∨ F a
  al : ∃ more, w'.al = w.al ++ more
  dom : ∀ a, w'.H a = none → w.H a = none
  fo : ∀ a, F' a → F a ∨ w.H a = none
theorem Ext.refl {w : Wd} {F : Addr → Prop} : Ext w F w F := ⟨fun _ _ h _ => h, fun _ h => h, fun _ h => .inl h, ⟨[], by simp⟩, fun _ h => h, fun _ h => .inl h⟩
theorem Ext.trans {w w1 w2 : Wd} {F F1 F2 : Addr → Prop} (a : Ext w F w1 F1) (b : Ext w1 F1 w2 F2) : Ext w F w2 F2 where
  keep := fun c o h n => b.keep c o (a.keep c o h n) fun k => (a.fo c k).elim n fun z => by rw [h] at z; cases z
  sS := fun c h => b.sS c (a.sS c h)
  sN := fun c h => by
    rcases b.sN c h with h | h | h
    · exact a.sN c h
    · exact .inr (.inl (a.dom c h))
    · rcases a.fo c h with h | h
      · exact .inr (.inr h)
      · exact .inr (.inl h)
  al := by
    obtain ⟨m, e⟩ := a.al
    obtain ⟨n, f⟩ := b.al
    exact ⟨m ++ n, by rw [f, e, List.append_assoc]⟩
  dom := fun c h => a.dom c (b.dom c h)
  fo := fun c h => by
    rcases b.fo c h with h | h
    · exact a.fo c h
    · exact .inr (a.dom c h)
theorem Ext.mem {w w' : Wd} {F F' : Addr → Prop} (x : Ext w F w' F') {a : Addr} (h : a ∈ w.al) : a ∈ w'.al := by
  obtain ⟨m, e⟩ := x.al
  rw [e]
  exact List.mem_append_left _ h

/-! ### slots -/
inductive Sl where
  | un | pub (d : D) | own (l : List D)
abbrev Sls := List Sl
abbrev Amb := List (List D)
/-- what may be written: the shared lists, the slots' own lists -/
def Foot (al : List Addr) (sl : Sls) (σ : St) (a : Addr) : Prop := a ∈ al ∨ ∃ (i : Nat) (ds : List D), sl[i]? = some (.own ds) ∧ σ[i]? = some (some (.ref a))
structure AmbOk (K : PySem.W.Frag) (w : Wd) (st : Amb) : Prop where
  len : w.al.length = st.length
  at_ : ∀ (n : Nat) (a : Addr), w.al[n]? = some a → ¬ w.S a ∧ ∃ vs ds, w.H a = some (.lst vs) ∧ st[n]? = some ds ∧ RepL K w vs ds
  nod : w.al.Nodup
  sd : ∀ a, w.S a → ∃ vs, w.H a = some (.lst vs)
structure Ok (K : PySem.W.Frag) (w : Wd) (sl : Sls) (st : Amb) (σ : St) : Prop where
  amb : AmbOk K w st
  len : σ.length = sl.length
  pub : ∀ (i : Nat) (d : D), sl[i]? = some (.pub d) → ∃ v, σ[i]? = some (some v) ∧ Rep K w v d
  own : ∀ (i : Nat) (ds : List D), sl[i]? = some (.own ds) → ∃ a vs, σ[i]? = some (some (.ref a)) ∧ w.H a = some (.lst vs) ∧ RepL K w vs ds ∧ ¬ w.S a ∧ a ∉ w.al
  dis : ∀ (i j : Nat) (ds es : List D) (a : Addr), sl[i]? = some (.own ds) → sl[j]? = some (.own es) → σ[i]? = some (some (.ref a)) → σ[j]? = some (some (.ref a)) → i = j
section
variable {K : PySem.W.Frag} {w w' : Wd} {sl sl' : Sls} {st st' : Amb} {σ σ' : St} {F F' : Addr → Prop}
theorem AmbOk.mem (h : AmbOk K w st) {a : Addr} (m : a ∈ w.al) : ¬ w.S a ∧ ∃ vs, w.H a = some (.lst vs) := by
  obtain ⟨n, hn⟩ := List.getElem?_of_mem m
  obtain ⟨s, vs, _, e, _⟩ := h.at_ n a hn
  exact ⟨s, vs, e⟩
theorem Ok.foot (h : Ok K w sl st σ) {a : Addr} (f : Foot w.al sl σ a) : ¬ w.S a ∧ ∃ vs, w.H a = some (.lst vs) := by
  rcases f with f | ⟨i, ds, e1, e2⟩
  · exact h.amb.mem f
  · obtain ⟨b, vs, e3, e4, _, s, _⟩ := h.own i ds e1
    rw [e2] at e3
    cases e3
    exact ⟨s, vs, e4⟩
/-- where what may be written are lists that no value leans on, values stand -/
theorem Ext.repG (x : Ext w F w' F') (hf : ∀ a, F a → ¬ w.S a ∧ ∃ vs, w.H a = some (.lst vs)) :
    (∀ a xs, SqT K w.H a xs → SqT K w'.H a xs) ∧ (∀ a xs, w.S a → w.H a = some (.lst xs) → w'.S a ∧ w'.H a = some (.lst xs)) ∧
    (∀ a o xs, w.H a = some (.frz o xs) → w'.H a = some (.frz o xs)) ∧ (∀ (n : Nat) (a : Addr), w.al[n]? = some a → w'.al[n]? = some a) ∧ (∀ a C dx fs, w.H a = some (.ins C dx fs) → w'.H a = some (.ins C dx fs)) := by
  refine ⟨fun a xs h => ?_, fun a xs s h => ⟨x.sS a s, x.keep a _ h fun f => (hf a f).1 s⟩, fun a o xs h => x.keep a _ h fun f => ?_, fun n a h => ?_, fun a C dx fs h => x.keep a _ h fun f => ?_⟩
  · rcases h with (h | ⟨o, h⟩) | h
    · refine .inl (.inl (x.keep a _ h fun f => ?_))
      obtain ⟨vs, e⟩ := (hf a f).2
      rw [h] at e; cases e
    · refine .inl (.inr ⟨o, x.keep a _ h fun f => ?_⟩)
      obtain ⟨vs, e⟩ := (hf a f).2
      rw [h] at e; cases e
    · exact .inr h
  · obtain ⟨vs, e⟩ := (hf a f).2
    rw [h] at e; cases e
  · obtain ⟨m, e⟩ := x.al
    rw [e, List.getElem?_append_left (List.getElem?_eq_some_iff.mp h).1]
    exact h
  · obtain ⟨vs, e⟩ := (hf a f).2
    rw [h] at e; cases e
theorem Ext.rep (x : Ext w F w' F') (hf : ∀ a, F a → ¬ w.S a ∧ ∃ vs, w.H a = some (.lst vs)) {d : D} {v : V} (r : Rep K w v d) : Rep K w' v d := by
  obtain ⟨a, b, c, e, i⟩ := x.repG (K := K) hf
  exact Rep.imp i a b c e d v r
theorem Ext.repL (x : Ext w F w' F') (hf : ∀ a, F a → ¬ w.S a ∧ ∃ vs, w.H a = some (.lst vs)) {ds : List D} {vs : List V} (r : RepL K w vs ds) : RepL K w' vs ds := by
  obtain ⟨a, b, c, e, i⟩ := x.repG (K := K) hf
  exact RepL.imp i a b c e ds vs r
end

/-! ### results of expressions -/
/-- val: a value that may be kept; prv: a new list that nobody else knows; bor: a slot's own list, looked at -/
inductive R where
  | val (d : D) | prv (l : List D) | bor (l : List D)
def R.d : R → D
  | .val d => d
  | .prv l => .lst l
  | .bor l => .lst l
def RdR (K : PySem.W.Frag) (w : Wd) (sl : Sls) (σ : St) (v : V) : R → Prop
  | .val d => Rep K w v d
  | .prv ds => ∃ a vs, v = .ref a ∧ w.H a = some (.lst vs) ∧ RepL K w vs ds ∧ ¬ w.S a ∧ ¬ Foot w.al sl σ a
  | .bor ds => ∃ (i : Nat) (a : Addr), sl[i]? = some (.own ds) ∧ σ[i]? = some (some (.ref a)) ∧ v = .ref a
def Frs (w : Wd) (v : V) : R → Prop
  | .prv _ => ∀ a, v = .ref a → w.H a = none
  | _ => True
section
variable {K : PySem.W.Frag} {w w' : Wd} {sl sl' : Sls} {st st' : Amb} {σ σ' : St} {v : V} {r : R}
abbrev FootW (w : Wd) (sl : Sls) (σ : St) : Addr → Prop := Foot w.al sl σ
theorem RdR.ext (h : RdR K w sl σ v r) (ok : Ok K w sl st σ) (x : Ext w (FootW w sl σ) w' (FootW w' sl σ)) : RdR K w' sl σ v r := by
  cases r with
  | val d => exact x.rep (fun a f => ok.foot f) h
  | bor ds => exact h
  | prv ds =>
    obtain ⟨a, vs, e, h1, h2, h3, h4⟩ := h
    refine ⟨a, vs, e, x.keep _ _ h1 h4, x.repL (fun a f => ok.foot f) h2, fun s => ?_, fun f => ?_⟩
    · rcases x.sN _ s with s | s | s
      · exact h3 s
      · rw [h1] at s; cases s
      · exact h4 s
    · rcases x.fo _ f with f | f
      · exact h4 f
      · rw [h1] at f; cases f
theorem Frs.back {F F' : Addr → Prop} (h : Frs w' v r) (x : Ext w F w' F') : Frs w v r := by
  cases r with
  | prv ds => exact fun a e => x.dom _ (h a e)
  | val d => trivial
  | bor d => trivial
/-- a list that is read: its items -/
theorem RdR.lst (h : RdR K w sl σ v r) (ok : Ok K w sl st σ) {ds : List D} (e : r.d = .lst ds) : ∃ a vs, v = .ref a ∧ w.H a = some (.lst vs) ∧ RepL K w vs ds := by
  cases r with
  | val d =>
    have e' : d = .lst ds := e
    subst e'
    cases h with
    | lst h0 h1 h2 => exact ⟨_, _, rfl, h1, h2⟩
  | prv es =>
    have e' : D.lst es = .lst ds := e
    cases e'
    obtain ⟨a, vs, e, h1, h2, _⟩ := h
    exact ⟨a, vs, e, h1, h2⟩
  | bor es =>
    have e' : D.lst es = .lst ds := e
    cases e'
    obtain ⟨i, a, h1, h2, h3⟩ := h
    obtain ⟨b, vs, k1, k2, k3, _⟩ := ok.own i _ h1
    rw [h2] at k1
    cases k1
    exact ⟨a, vs, h3, k2, k3⟩
theorem RdR.rep (h : RdR K w sl σ v r) {d : D} (e : r.d = d) (n : ∀ l, d ≠ .lst l) : Rep K w v d := by
  cases r with
  | val d' => have e' : d' = d := e; subst e'; exact h
  | prv es => exact absurd e.symm (n es)
  | bor es => exact absurd e.symm (n es)
theorem RdR.int (h : RdR K w sl σ v r) {i : Int} (e : r.d = .int i) : v = .int i := by
  have q := h.rep e (fun l z => by cases z)
  cases q
  rfl
theorem RdR.bl (h : RdR K w sl σ v r) {i : Bool} (e : r.d = .bl i) : v = .bl i := by
  have q := h.rep e (fun l z => by cases z)
  cases q
  rfl
theorem RdR.str (h : RdR K w sl σ v r) {i : Str} (e : r.d = .str i) : v = .str i := by
  have q := h.rep e (fun l z => by cases z)
  cases q
  rfl
theorem RdR.tup (h : RdR K w sl σ v r) {ds : List D} (e : r.d = .tup ds) : ∃ a vs, v = .ref a ∧ SqT K w.H a vs ∧ RepL K w vs ds := by
  have q := h.rep e (fun l z => by cases z)
  cases q with
  | tup h1 h2 => exact ⟨_, _, rfl, h1, h2⟩
end

/-! ### the heap grows by an object, a slot's or a shared list is written -/
section
variable {K : PySem.W.Frag} {w w' : Wd} {sl sl' : Sls} {st st' : Amb} {σ σ' : St} {v : V} {r : R}
/-- the same slots behind, the world goes on, the shared lists as they were -/
theorem Ok.ext {F : Addr → Prop} (ok : Ok K w sl st σ) (x : Ext w F w' (FootW w' sl σ)) (hal : w'.al = w.al) (hF : ∀ a, F a → ¬ FootW w sl σ a) (hf : ∀ a, F a → ¬ w.S a ∧ ∃ vs, w.H a = some (.lst vs)) (hs : ∀ a, w'.S a → ∃ vs, w'.H a = some (.lst vs)) : Ok K w' sl st σ where
  amb := by
    refine ⟨by rw [hal]; exact ok.amb.len, fun n a h => ?_, by rw [hal]; exact ok.amb.nod, hs⟩
    rw [hal] at h
    obtain ⟨s, vs, ds, e1, e2, e3⟩ := ok.amb.at_ n a h
    have nf : ¬ F a := fun f => hF a f (.inl (List.mem_of_getElem? h))
    refine ⟨fun q => ?_, vs, ds, x.keep _ _ e1 nf, e2, x.repL hf e3⟩
    rcases x.sN _ q with q | q | q
    · exact s q
    · rw [e1] at q; cases q
    · exact nf q
  len := ok.len
  pub := fun i d h => by
    obtain ⟨v, e, r⟩ := ok.pub i d h
    exact ⟨v, e, x.rep hf r⟩
  own := fun i ds h => by
    obtain ⟨a, vs, e1, e2, e3, s, m⟩ := ok.own i ds h
    have nf : ¬ F a := fun f => hF a f (.inr ⟨i, ds, h, e1⟩)
    refine ⟨a, vs, e1, x.keep _ _ e2 nf, x.repL hf e3, fun q => ?_, by rw [hal]; exact m⟩
    rcases x.sN _ q with q | q | q
    · exact s q
    · rw [e2] at q; cases q
    · exact nf q
  dis := ok.dis
/-- a new object -/
theorem ext_new {p : Addr} {o : HO} (hp : w.H p = none) : Ext w (FootW w sl σ) ⟨w.al, w.S, upd w.H p o⟩ (FootW ⟨w.al, w.S, upd w.H p o⟩ sl σ) where
  keep := fun a o' h _ => by
    show upd w.H p o a = some o'
    rw [upd_ne (ne_of_none h hp)]; exact h
  sS := fun _ h => h
  sN := fun _ h => .inl h
  al := ⟨[], by simp⟩
  dom := fun a h => by
    by_cases e : a = p
    · rw [e]; exact hp
    · have h' : upd w.H p o a = none := h
      rw [upd_ne e] at h'; exact h'
  fo := fun _ h => .inl h
theorem Ok.new {p : Addr} {o : HO} (ok : Ok K w sl st σ) (hp : w.H p = none) : Ok K ⟨w.al, w.S, upd w.H p o⟩ sl st σ := by
  have keep : ∀ a o', w.H a = some o' → upd w.H p o a = some o' := fun a o' h => by rw [upd_ne (ne_of_none h hp)]; exact h
  have hT : ∀ a xs, SqT K w.H a xs → SqT K (upd w.H p o) a xs := fun a xs h => by
    rcases h with (h | ⟨o, h⟩) | h
    · exact .inl (.inl (keep _ _ h))
    · exact .inl (.inr ⟨o, keep _ _ h⟩)
    · exact .inr h
  have rl : ∀ {ds vs}, RepL K w vs ds → RepL K ⟨w.al, w.S, upd w.H p o⟩ vs ds := fun {ds vs} r =>
    RepL.imp (w := w) (w' := ⟨w.al, w.S, upd w.H p o⟩) (fun a C dx fs h => keep _ _ h) hT (fun a xs s h => ⟨s, keep _ _ h⟩) (fun a o xs h => keep _ _ h) (fun _ _ h => h) ds vs r
  have r1 : ∀ {d v}, Rep K w v d → Rep K ⟨w.al, w.S, upd w.H p o⟩ v d := fun {d v} r =>
    Rep.imp (w := w) (w' := ⟨w.al, w.S, upd w.H p o⟩) (fun a C dx fs h => keep _ _ h) hT (fun a xs s h => ⟨s, keep _ _ h⟩) (fun a o xs h => keep _ _ h) (fun _ _ h => h) d v r
  refine ⟨⟨ok.amb.len, fun n a h => ?_, ok.amb.nod, fun a h => ?_⟩, ok.len, fun i d h => ?_, fun i ds h => ?_, ok.dis⟩
  · obtain ⟨s, vs, ds, e1, e2, e3⟩ := ok.amb.at_ n a h
    exact ⟨s, vs, ds, keep _ _ e1, e2, rl e3⟩
  · obtain ⟨vs, e⟩ := ok.amb.sd a h
    exact ⟨vs, keep _ _ e⟩
  · obtain ⟨v, e, r⟩ := ok.pub i d h
    exact ⟨v, e, r1 r⟩
  · obtain ⟨a, vs, e1, e2, e3, s, m⟩ := ok.own i ds h
    exact ⟨a, vs, e1, keep _ _ e2, rl e3, s, m⟩
theorem rep_new {p : Addr} {o : HO} (hp : w.H p = none) {d : D} {v : V} (r : Rep K w v d) : Rep K ⟨w.al, w.S, upd w.H p o⟩ v d := by
  have keep : ∀ a o', w.H a = some o' → upd w.H p o a = some o' := fun a o' h => by rw [upd_ne (ne_of_none h hp)]; exact h
  refine Rep.imp (w := w) (w' := ⟨w.al, w.S, upd w.H p o⟩) (fun a C dx fs h => keep _ _ h) (fun a xs h => ?_) (fun a xs s h => ⟨s, keep _ _ h⟩) (fun a o xs h => keep _ _ h) (fun _ _ h => h) d v r
  rcases h with (h | ⟨o, h⟩) | h
  · exact .inl (.inl (keep _ _ h))
  · exact .inl (.inr ⟨o, keep _ _ h⟩)
  · exact .inr h
theorem repL_new {p : Addr} {o : HO} (hp : w.H p = none) {d : List D} {v : List V} (r : RepL K w v d) : RepL K ⟨w.al, w.S, upd w.H p o⟩ v d := by
  have keep : ∀ a o', w.H a = some o' → upd w.H p o a = some o' := fun a o' h => by rw [upd_ne (ne_of_none h hp)]; exact h
  refine RepL.imp (w := w) (w' := ⟨w.al, w.S, upd w.H p o⟩) (fun a C dx fs h => keep _ _ h) (fun a xs h => ?_) (fun a xs s h => ⟨s, keep _ _ h⟩) (fun a o xs h => keep _ _ h) (fun _ _ h => h) d v r
  rcases h with (h | ⟨o, h⟩) | h
  · exact .inl (.inl (keep _ _ h))
  · exact .inl (.inr ⟨o, keep _ _ h⟩)
  · exact .inr h
/-- a new list, nobody's yet -/
theorem prv_new {p : Addr} {vs : List V} {ds : List D} (ok : Ok K w sl st σ) (hp : w.H p = none) (r : RepL K w vs ds) : RdR K ⟨w.al, w.S, upd w.H p (.lst vs)⟩ sl σ (.ref p) (.prv ds) := by
  refine ⟨p, vs, rfl, upd_same, repL_new hp r, fun s => ?_, fun f => ?_⟩
  · obtain ⟨vs, e⟩ := ok.amb.sd p s
    rw [hp] at e; cases e
  · obtain ⟨_, vs, e⟩ := ok.foot f
    rw [hp] at e; cases e
/-- a new list is given to all -/
theorem prv_pub {ds : List D} (ok : Ok K w sl st σ) (h : RdR K w sl σ v (.prv ds)) : ∃ S', (∀ a, w.S a → S' a) ∧ Ok K ⟨w.al, S', w.H⟩ sl st σ ∧ Rep K ⟨w.al, S', w.H⟩ v (.lst ds) ∧
    ∀ {w0 : Wd}, Ext w0 (FootW w0 sl σ) w (FootW w sl σ) → (∀ a, v = .ref a → w0.H a = none ∨ FootW w0 sl σ a) → Ext w0 (FootW w0 sl σ) ⟨w.al, S', w.H⟩ (FootW ⟨w.al, S', w.H⟩ sl σ) := by
  obtain ⟨p, vs, rfl, hH, hr, hs, hf⟩ := h
  have r1 : ∀ {d v}, Rep K w v d → Rep K ⟨w.al, fun a => w.S a ∨ a = p, w.H⟩ v d := fun {d v} r =>
    Rep.imp (w := w) (w' := ⟨w.al, fun a => w.S a ∨ a = p, w.H⟩) (fun _ _ _ _ h => h) (fun _ _ h => h) (fun a xs s h => ⟨.inl s, h⟩) (fun _ _ _ h => h) (fun _ _ h => h) d v r
  have rl : ∀ {d v}, RepL K w v d → RepL K ⟨w.al, fun a => w.S a ∨ a = p, w.H⟩ v d := fun {d v} r =>
    RepL.imp (w := w) (w' := ⟨w.al, fun a => w.S a ∨ a = p, w.H⟩) (fun _ _ _ _ h => h) (fun _ _ h => h) (fun a xs s h => ⟨.inl s, h⟩) (fun _ _ _ h => h) (fun _ _ h => h) d v r
  refine ⟨fun a => w.S a ∨ a = p, fun a h => .inl h, ⟨⟨ok.amb.len, fun n a h => ?_, ok.amb.nod, fun a h => ?_⟩, ok.len, fun i d h => ?_, fun i ds h => ?_, ok.dis⟩, .lst (.inr rfl) hH (rl hr), fun {w0} x h0 => ?_⟩
  · obtain ⟨s, vs, ds, e1, e2, e3⟩ := ok.amb.at_ n a h
    exact ⟨fun q => q.elim s fun z => hf (.inl (z ▸ List.mem_of_getElem? h)), vs, ds, e1, e2, rl e3⟩
  · rcases h with h | rfl
    · exact ok.amb.sd a h
    · exact ⟨_, hH⟩
  · obtain ⟨v, e, r⟩ := ok.pub i d h
    exact ⟨v, e, r1 r⟩
  · obtain ⟨a, vs, e1, e2, e3, s, m⟩ := ok.own i ds h
    exact ⟨a, vs, e1, e2, rl e3, fun q => q.elim s fun z => hf (.inr ⟨i, ds, h, z ▸ e1⟩), m⟩
  · refine ⟨x.keep, fun a h => .inl (x.sS a h), fun a h => ?_, x.al, x.dom, x.fo⟩
    rcases h with h | rfl
    · exact x.sN a h
    · rcases h0 a rfl with h0 | h0
      · exact .inr (.inl h0)
      · exact .inr (.inr h0)
end

/-! ### expressions -/
abbrev EvF := Sls → Amb → Option (R × Amb)
def tV (K : PySem.W.Frag) (f : EvF) : TE := fun σ H Q => ∃ al S sl st r st', Ok K ⟨al, S, H⟩ sl st σ ∧ f sl st = some (r, st') ∧
  ∀ v w', Ok K w' sl st' σ → Ext ⟨al, S, H⟩ (Foot al sl σ) w' (FootW w' sl σ) → RdR K w' sl σ v r → Frs ⟨al, S, H⟩ v r → Q v w'.H
abbrev VE (X : Cx) (e : Expr) (f : EvF) : Prop := PE X e (tV X.K f)
abbrev EvB := Sls → Amb → Option (Bool × Amb)
def tVB (K : PySem.W.Frag) (f : EvB) : TT := fun σ H Q => ∃ al S sl st r st', Ok K ⟨al, S, H⟩ sl st σ ∧ f sl st = some (r, st') ∧
  ∀ w', Ok K w' sl st' σ → Ext ⟨al, S, H⟩ (Foot al sl σ) w' (FootW w' sl σ) → Q r w'.H
abbrev VT (X : Cx) (e : Expr) (f : EvB) : Prop := PT X e (tVB X.K f)
abbrev EvA := Sls → Amb → Option (List R × Amb)
/-- what is new among them was not there ahead -/
def FrsL (w : Wd) (vs : List V) (rs : List R) : Prop := ∀ (i : Nat) (v : V) (r : R), vs[i]? = some v → rs[i]? = some r → Frs w v r
inductive RdRs (K : PySem.W.Frag) (w : Wd) (sl : Sls) (σ : St) : List V → List R → Prop
  | nil : RdRs K w sl σ [] []
  | cons {v : V} {vs : List V} {r : R} {rs : List R} : RdR K w sl σ v r → RdRs K w sl σ vs rs → RdRs K w sl σ (v :: vs) (r :: rs)
def tVA (K : PySem.W.Frag) (f : EvA) : TA := fun σ H Q => ∃ al S sl st r st', Ok K ⟨al, S, H⟩ sl st σ ∧ f sl st = some (r, st') ∧
  ∀ v w', Ok K w' sl st' σ → Ext ⟨al, S, H⟩ (Foot al sl σ) w' (FootW w' sl σ) → RdRs K w' sl σ v r → FrsL ⟨al, S, H⟩ v r → Q v w'.H
abbrev VA (X : Cx) (e : List Expr) (f : EvA) : Prop := PA X e (tVA X.K f)

theorem PEimp {X : Cx} {e : Expr} {t t' : TE} (h : PE X e t) (i : ∀ σ H Q, t' σ H Q → t σ H Q) : PE X e t' := ⟨fun pins s σ H Q I q => h.run pins s σ H Q I (i σ H Q q)⟩
theorem PTimp {X : Cx} {e : Expr} {t t' : TT} (h : PT X e t) (i : ∀ σ H Q, t' σ H Q → t σ H Q) : PT X e t' := ⟨fun pins s σ H Q I q => h.run pins s σ H Q I (i σ H Q q)⟩
theorem PWimp {X : Cx} {e : Expr} {t t' : TT} (h : PW X e t) (i : ∀ σ H Q, t' σ H Q → t σ H Q) : PW X e t' := ⟨fun wh pins s σ H Q I q => h.run wh pins s σ H Q I (i σ H Q q)⟩
theorem PAimp {X : Cx} {e : List Expr} {t t' : TA} (h : PA X e t) (i : ∀ σ H Q, t' σ H Q → t σ H Q) : PA X e t' := ⟨fun pos pins s σ H Q I q => h.run pos pins s σ H Q I (i σ H Q q)⟩
theorem PSimp {X : Cx} {e : Stmt} {t t' : TS} (h : PS X e t) (i : ∀ D σ H, t' D σ H → t D σ H) : PS X e t' := ⟨fun pins s σ H D I q => h.run pins s σ H D I (i D σ H q)⟩
theorem PSsimp {X : Cx} {e : List Stmt} {t t' : TS} (h : PSs X e t) (i : ∀ D σ H, t' D σ H → t D σ H) : PSs X e t' := ⟨fun pins s σ H D I q => h.run pins s σ H D I (i D σ H q)⟩
theorem RdRs.ext {K : PySem.W.Frag} {w w' : Wd} {sl : Sls} {st : Amb} {σ : St} : ∀ {rs : List R} {vs : List V}, RdRs K w sl σ vs rs → Ok K w sl st σ → Ext w (FootW w sl σ) w' (FootW w' sl σ) → RdRs K w' sl σ vs rs
  | _, _, .nil, _, _ => .nil
  | _, _, .cons h t, ok, x => .cons (h.ext ok x) (t.ext ok x)

/-- a value made without a change -/
theorem tV_pure {K : PySem.W.Frag} {f : EvF} {σ : St} {H : Hp} {Q : VK} {v : V} (h : tV K f σ H Q) (hp : ∀ al S sl st r st', Ok K ⟨al, S, H⟩ sl st σ → f sl st = some (r, st') → st' = st ∧ RdR K ⟨al, S, H⟩ sl σ v r ∧ ∀ l, r ≠ .prv l) : Q v H := by
  obtain ⟨al, S, sl, st, r, st', ok, e, k⟩ := h
  obtain ⟨rfl, rd, np⟩ := hp al S sl st r st' ok e
  refine k v ⟨al, S, H⟩ ok Ext.refl rd ?_
  cases r with
  | prv l => exact absurd rfl (np l)
  | val d => trivial
  | bor d => trivial
end Vx


set_option Elab.async false
set_option linter.all false
set_option maxRecDepth 100000
/-! Vs: sorted(xs) of data, also where some of the tuples are empty; as an insertion sort. -/
namespace Vx
open PySem PySem.W PySem.SeqAt PySem.Calls PyProof.Rows

section
variable {prog : Program} {w : World} {A : Around} {E : Value → Shared → Prop} {s : Shared}
/-- one tuple against another, both of one type -/
theorem oneLt_tup {f : Bool} {xs ys : List PyData} {a b : Value} {as bs : List Addr} {Q : Bool → Shared → Prop} (ra : Reads s.heap a (.tuple xs) as) (rb : Reads s.heap b (.tuple ys) bs) (hal : alikeAll xs ys = true)
    (hu : A.units + min (PyData.depth (.tuple xs)) (PyData.depth (.tuple ys)) < cLine) (hq : Q (dataLt (.tuple xs) (.tuple ys)) s) : wpAny (model prog w) A (oneLt' f a b) Q E s := by
  have hd : A.units + 1 + min (PyData.depthAll xs) (PyData.depthAll ys) < cLine := by
    simp only [PyData.depth] at hu
    omega
  have hu0 : A.units < cLine := by omega
  have hin : A.in1.units + min (PyData.depthAll xs) (PyData.depthAll ys) < cLine := hd
  cases f with
  | false => exact oneLt_alike (fun z => absurd z Bool.false_ne_true) ra rb (by simpa [alike] using hal) (fun z => by cases z) hu hq
  | true =>
    cases ra with
    | @tuple l o vs n _ as₁ h1 h2 h3 h4 =>
      cases rb with
      | @tuple l' o' vs' n' _ bs₁ k1 k2 k3 k4 =>
        have n1 : vs.size = xs.length := by simpa using ReadsAll.length _ _ _ h4
        have n2 : vs'.size = ys.length := by simpa using ReadsAll.length _ _ _ k4
        rw [dataLt_tuple, ← firstLt_toks xs ys hal, ← n1, ← n2] at hq
        rw [oneLt'_eq]
        simp only [if_true]
        refine wpAny_bind (wpAny_cRoomFor hu0 ?_)
        obtain ⟨cls, dd, data, sl⟩ := o
        obtain ⟨cls2, dd2, data2, sl2⟩ := o'
        simp only at h2 h3 k2 k3
        subst h2 h3 k2 k3
        refine wpAny_bind (wpAny_callSpecialIfBound?_slot (T := "tuple") ⟨_, h1, rfl⟩ F.slot_tuple_lt (call_meets F.slot_tuple_lt ⟨_, h1, rfl⟩ F.entry_tuple_lt (F.args_tuple_lt_2 _ _)
          (tuple_ltAt l l' vs vs' n n' dd dd2 sl sl2 (pairEq xs ys) (fun j => dataLt (xs.getD j .none) (ys.getD j .none))) ⟨h1, k1, fun j j1 j2 => ?_, fun j j1 j2 hj => ?_, ?_⟩))
        · have := eqAt_alikeAll xs ys A.in1 s vs.toList vs'.toList _ _ h4 k4 hal hin j (by simpa using j1) (by simpa using j2)
          simpa using this
        · have := rcLt_alikeAll xs ys A.in1 s vs.toList vs'.toList _ _ h4 k4 hal hin j (by simpa using j1) (by simpa using j2) hj
          simpa using this
        · exact wpAny_truthy_bool hq

/-- the first items of tuples -/
theorem firsts_tups : ∀ (vs : List Value) (ds : List PyData) {Q : List (Option Value) → Shared → Prop}, EachIs (fun v d => ∃ as, Reads s.heap v d as) vs ds → (∀ d ∈ ds, ∃ xs, d = .tuple xs) →
    (∀ fs : List (Option Value), fs.length = vs.length → (∀ i : Nat, (fs[i]?.bind id).isSome = true → ∃ x r, ds[i]? = some (PyData.tuple (x :: r))) → (∀ (i : Nat) (x : PyData) (r : List PyData), ds[i]? = some (PyData.tuple (x :: r)) → (fs[i]?.bind id).isSome = true) → Q fs s) →
    wpAny (model prog w) A (vs.mapM firstOfTuple') Q E s
  | [], [], Q, .nil, _, h => by
    rw [List.mapM_nil]
    exact wpAny_pure (h [] rfl (fun i z => by simp at z) fun i x r z => by simp at z)
  | v :: vs, d :: ds, Q, .cons ⟨as, r⟩ t, ht, h => by
    obtain ⟨xs, rfl⟩ := ht d (List.mem_cons_self ..)
    rw [List.mapM_cons]
    refine wpAny_bind ?_
    rw [kas_first_eq]
    cases r with
    | @tuple a o its n _ _ ho hc hd hr =>
      refine wpAny_bind (Looks.here (show Looks _ s.heap (typeOf (.ref a)) o.cls from (Looks.ld ho).andThen .now) ?_)
      rw [hc, if_neg (by first | decide | simp)]
      refine wpAny_bind (listItems_at ho hd (wpAny_pure ?_))
      refine wpAny_bind (firsts_tups vs ds (Q := fun bs s' => wpAny (model prog w) A (pure (its[0]? :: bs)) Q E s') t (fun d hd => ht d (List.mem_cons_of_mem _ hd)) fun fs hl h1 h2 => wpAny_pure (h _ (by simp [hl]) (fun i z => ?_) fun i x r z => ?_))
      · cases i with
        | zero =>
          cases q : its.toList with
          | nil =>
            have e : its = #[] := by simpa using q
            simp [e] at z
          | cons f fr =>
            rw [q] at hr
            cases hr with
            | cons r1 r2 => exact ⟨_, _, rfl⟩
        | succ i => exact h1 i (by simpa using z)
      · cases i with
        | zero =>
          have z' : xs = x :: r := by simpa using z
          subst z'
          cases q : its.toList with
          | nil => rw [q] at hr; cases hr
          | cons f fr =>
            have e : its[0]? = some f := by rw [← Array.getElem?_toList, q]; rfl
            simp [e]
        | succ i => simpa using h2 i x r (by simpa using z)

/-- the kind of keys that tuples are, some of them empty -/
theorem kind_tups0 {vs : List Value} {ds : List PyData} {Q : SortKind → Shared → Prop} (e : EachIs (fun v d => ∃ as, Reads s.heap v d as) vs ds) (ht : ∀ d ∈ ds, ∃ xs, d = .tuple xs) (h0 : PyData.tuple [] ∈ ds)
    (h1 : (∃ x r, ds[0]? = some (PyData.tuple (x :: r))) → Q general' s) (h2 : (¬ ∃ x r, ds[0]? = some (PyData.tuple (x :: r))) → Q oneType' s) : wpAny (model prog w) A (keyKind' vs.toArray) Q E s := by
  rw [kat_kind_eq, List.mapM_toArray, map_eq_pure_bind]
  refine wpAny_bind (wpAny_bind (firsts_tups vs ds e ht fun fs hl k1 k2 => wpAny_pure ?_))
  have hlen : vs.length = ds.length := e.length
  have hn : ¬ (fs.toArray.all fun x => x.isSome) = true := fun z => by
    obtain ⟨i, hi⟩ := List.getElem?_of_mem h0
    have hi' : i < ds.length := (List.getElem?_eq_some_iff.mp hi).1
    have hif : i < fs.length := by omega
    simp only [List.all_toArray, List.all_eq_true] at z
    have q := z fs[i] (List.getElem_mem hif)
    obtain ⟨x, r, e2⟩ := k1 i (by rw [List.getElem?_eq_getElem hif]; exact q)
    rw [hi] at e2
    cases e2
  rw [if_neg hn]
  have e0 : (fs.toArray[0]?.bind id).isSome = (fs[0]?.bind id).isSome := by simp
  split
  · rename_i z
    rw [e0] at z
    exact wpAny_pure (h1 (k1 0 z))
  · have hT : ∀ v ∈ vs, Looks (model prog w) s.heap (typeOf v) (.type "tuple") := fun v hv => by
      obtain ⟨d, hd, as, r⟩ := e.left v hv
      obtain ⟨xs, rfl⟩ := ht d hd
      exact looks_reads r
    rw [oneTypeOnly'_eq, List.mapM_toArray, map_eq_pure_bind]
    refine wpAny_bind (wpAny_bind (wpAny_bind (kas_mapM (r := Value.type "tuple") _ (fun v hv Q' hq => (hT v hv).here hq) (wpAny_pure ?_))))
    have hall : ((List.map (fun _ => Value.type "tuple") vs).toArray.all fun x => x == Value.type "tuple") = true := by
      simp only [List.all_toArray, List.all_map, List.all_eq_true]
      intro _ _
      exact beq_self_eq_true _
    have hpos : 0 < vs.length := by
      rw [hlen]
      exact List.length_pos_of_mem h0
    have hx : (List.map (fun _ => Value.type "tuple") vs).toArray[0]? = some (Value.type "tuple") := by simp [hpos]
    rw [hx]
    simp only [hall, if_true]
    rename_i z
    rw [e0] at z
    exact wpAny_pure (wpAny_pure (h2 fun ⟨x, r, q⟩ => z (k2 0 x r q)))

/-- data that can be sorted: alike, and no None -/
structure Srtb (ds : List PyData) : Prop where
  al : AllAlike ds
  nn : ∀ d ∈ ds, d ≠ .none

/-- values that read as alike data can be sorted, empty tuples among them or not -/
theorem SortsAt_any {vs : List Value} {ds : List PyData} (e : EachIs (fun v d => ∃ as, Reads s.heap v d as) vs ds) (hs : Srtb ds) (hu : ∀ d, d ∈ ds → A.units + d.depth < cLine) : SortsAt prog w A s (dataKind s.heap ds) vs := by
  have room : ∀ {d d' : PyData}, d ∈ ds → A.units + min d.depth d'.depth < cLine := fun {d d'} hd => Nat.lt_of_le_of_lt (Nat.add_le_add_left (Nat.min_le_left _ _) _) (hu d hd)
  by_cases hT : ∃ d ∈ ds, ∃ xs, d = PyData.tuple xs
  · obtain ⟨d0, hd0, xs0, rfl⟩ := hT
    have ht : ∀ d ∈ ds, ∃ xs, d = .tuple xs := fun d hd => by
      have q := hs.al d hd _ hd0
      cases d with
      | tuple xs => exact ⟨xs, rfl⟩
      | _ => exact absurd q (by simp [alike])
    by_cases h0 : PyData.tuple [] ∈ ds
    · have lt : ∀ f : Bool, ∀ (E : Value → Shared → Prop) (x y : Value) (a b : List (Int ⊕ List Nat)) {Q : Bool → Shared → Prop}, (dataKind s.heap ds).keyOf x = some a → (dataKind s.heap ds).keyOf y = some b →
          Q (PyProof.Rows.lexLt itemOrd a b) s → wpAny (model prog w) A (oneLt' f x y) Q E s := fun f E x y a b Q ha hb hq => by
        obtain ⟨d, as, hd, ra, rfl⟩ := dataKind_inv ha
        obtain ⟨d', as', hd', rb, rfl⟩ := dataKind_inv hb
        obtain ⟨xs, rfl⟩ := ht d hd
        obtain ⟨ys, rfl⟩ := ht d' hd'
        exact oneLt_tup ra rb (by simpa [alike] using hs.al _ hd _ hd') (room hd) hq
      have hkeys : ∀ v, v ∈ vs → ∃ a, (dataKind s.heap ds).keyOf v = some a := fun v hv => by
        obtain ⟨d, hd, as, r⟩ := e.left v hv
        exact ⟨_, dataKind_some hs.al hd r⟩
      refine ⟨hkeys, ?_⟩
      by_cases hg : ∃ x r, ds[0]? = some (PyData.tuple (x :: r))
      · exact ⟨general', fun E x y a b Q ha hb hq => lt false E x y a b ha hb hq, fun _ E Q hq => kind_tups0 e ht h0 (fun _ => hq) fun z => absurd hg z⟩
      · exact ⟨oneType', fun E x y a b Q ha hb hq => by
          rw [keyLt'_oneType]
          exact lt true E x y a b ha hb hq, fun _ E Q hq => kind_tups0 e ht h0 (fun z => absurd z hg) fun _ => hq⟩
    · refine SortsAt.data e hs.al (.inl fun d hd => ?_) hu
      obtain ⟨xs, rfl⟩ := ht d hd
      cases xs with
      | nil => exact absurd hd h0
      | cons x r => exact ⟨x, r, rfl⟩
  · exact SortsAt.data e hs.al (.inr fun d hd => ⟨hs.nn d hd, fun xs z => hT ⟨d, hd, xs, z⟩⟩) hu
end
end Vx


set_option Elab.async false
set_option linter.all false
set_option maxRecDepth 100000
/-! Vd: trees as PyData; ==, <, sorted over trees. -/
namespace Vx
open PySem L2

mutual
def D.py : D → PyData
  | .non => .none
  | .bl b => .bool b
  | .int i => .int i
  | .str s => .str s
  | .tup l => .tuple (D.pyL l)
  | .lst l => .list (D.pyL l)
  | .frz _ => .dict []
  | .tpc _ => .dict []
  | .ins _ _ _ => .dict []
  | .mrk _ => .dict []
  | .fn _ => .dict []
  | .loc _ => .dict []
def D.pyL : List D → List PyData
  | [] => []
  | d :: ds => D.py d :: D.pyL ds
end
mutual
/-- plain data -/
def D.dat : D → Bool
  | .non => true
  | .bl _ => true
  | .int _ => true
  | .str s => PyData.strOk s
  | .tup l => D.datL l
  | .lst l => D.datL l
  | .frz _ => false
  | .tpc _ => false
  | .ins _ _ _ => false
  | .mrk _ => false
  | .fn _ => false
  | .loc _ => false
def D.datL : List D → Bool
  | [] => true
  | d :: ds => D.dat d && D.datL ds
end
mutual
def D.dep : D → Nat
  | .tup l => D.depL l + 1
  | .lst l => D.depL l + 1
  | .non => 0
  | .bl _ => 0
  | .int _ => 0
  | .str _ => 0
  | .frz _ => 0
  | .tpc _ => 0
  | .ins _ _ _ => 0
  | .mrk _ => 0
  | .fn _ => 0
  | .loc _ => 0
def D.depL : List D → Nat
  | [] => 0
  | d :: ds => max (D.dep d) (D.depL ds)
end
mutual
def D.eqv : D → D → Bool
  | .non, y => match y with | .non => true | _ => false
  | .bl a, y => match y with | .bl b => a == b | .int j => (if a then 1 else 0) == j | _ => false
  | .int i, y => match y with | .bl b => i == (if b then 1 else 0) | .int j => i == j | _ => false
  | .str a, y => match y with | .str b => a == b | _ => false
  | .tup xs, y => match y with | .tup ys => D.eqvL xs ys | _ => false
  | .lst xs, y => match y with | .lst ys => D.eqvL xs ys | _ => false
  | .frz _, _ => false
  | .tpc _, _ => false
  | .ins _ _ _, _ => false
  | .mrk _, _ => false
  | .fn _, _ => false
  | .loc _, _ => false
def D.eqvL : List D → List D → Bool
  | [], ys => match ys with | [] => true | _ :: _ => false
  | x :: xs, ys => match ys with | [] => false | y :: ys => D.eqv x y && D.eqvL xs ys
end
mutual
def D.alk : D → D → Bool
  | .non, y => match y with | .non => true | _ => false
  | .bl _, y => match y with | .bl _ => true | _ => false
  | .int _, y => match y with | .int _ => true | _ => false
  | .str _, y => match y with | .str _ => true | _ => false
  | .tup xs, y => match y with | .tup ys => D.alkL xs ys | _ => false
  | .lst xs, y => match y with | .lst ys => D.alkL xs ys | _ => false
  | .frz _, _ => false
  | .tpc _, _ => false
  | .ins _ _ _, _ => false
  | .mrk _, _ => false
  | .fn _, _ => false
  | .loc _, _ => false
def D.alkL : List D → List D → Bool
  | [], _ => true
  | x :: xs, ys => match ys with | [] => true | y :: ys => D.alk x y && D.alkL xs ys
end
mutual
def D.lt : D → D → Bool
  | .non, _ => false
  | .bl a, y => match y with | .bl b => !a && b | _ => false
  | .int i, y => match y with | .int j => decide (i < j) | _ => false
  | .str a, y => match y with | .str b => decide (a.cps.toList < b.cps.toList) | _ => false
  | .tup xs, y => match y with | .tup ys => D.ltL xs ys | _ => false
  | .lst xs, y => match y with | .lst ys => D.ltL xs ys | _ => false
  | .frz _, _ => false
  | .tpc _, _ => false
  | .ins _ _ _, _ => false
  | .mrk _, _ => false
  | .fn _, _ => false
  | .loc _, _ => false
def D.ltL : List D → List D → Bool
  | [], ys => match ys with | [] => false | _ :: _ => true
  | x :: xs, ys => match ys with | [] => false | y :: ys => if D.eqv x y = true then D.ltL xs ys else D.lt x y
end

theorem pyL_map : ∀ ds : List D, D.pyL ds = ds.map D.py
  | [] => rfl
  | d :: ds => by rw [D.pyL, pyL_map ds]; rfl
mutual
theorem eqv_py : ∀ x y : D, x.dat = true → y.dat = true → D.eqv x y = PyData.eqv x.py y.py
  | .non, y, _, h => by cases y <;> first | (simp [D.dat] at h; done) | simp [D.eqv, D.py, PyData.eqv]
  | .bl a, y, _, h => by cases y <;> first | (simp [D.dat] at h; done) | simp [D.eqv, D.py, PyData.eqv]
  | .int a, y, _, h => by cases y <;> first | (simp [D.dat] at h; done) | simp [D.eqv, D.py, PyData.eqv]
  | .str a, y, _, h => by cases y <;> first | (simp [D.dat] at h; done) | simp [D.eqv, D.py, PyData.eqv]
  | .tup xs, y, h0, h => by
    cases y with
    | tup ys => simp only [D.eqv, D.py, PyData.eqv]; exact eqvL_py xs ys (by simpa [D.dat] using h0) (by simpa [D.dat] using h)
    | _ => first | (simp [D.dat] at h; done) | simp [D.eqv, D.py, PyData.eqv]
  | .lst xs, y, h0, h => by
    cases y with
    | lst ys => simp only [D.eqv, D.py, PyData.eqv]; exact eqvL_py xs ys (by simpa [D.dat] using h0) (by simpa [D.dat] using h)
    | _ => first | (simp [D.dat] at h; done) | simp [D.eqv, D.py, PyData.eqv]
  | .frz _, _, h, _ => by simp [D.dat] at h
  | .tpc _, _, h, _ => by simp [D.dat] at h
  | .ins _ _ _, _, h, _ => by simp [D.dat] at h
  | .mrk _, _, h, _ => by simp [D.dat] at h
  | .fn _, _, h, _ => by simp [D.dat] at h
  | .loc _, _, h, _ => by simp [D.dat] at h
theorem eqvL_py : ∀ xs ys : List D, D.datL xs = true → D.datL ys = true → D.eqvL xs ys = PyData.eqvAll (D.pyL xs) (D.pyL ys)
  | [], ys, _, h => by cases ys <;> simp [D.eqvL, D.pyL, PyData.eqvAll]
  | x :: xs, ys, h0, h => by
    cases ys with
    | nil => simp [D.eqvL, D.pyL, PyData.eqvAll]
    | cons y ys =>
      rw [D.datL, Bool.and_eq_true] at h0 h
      simp only [D.eqvL, D.pyL, PyData.eqvAll]
      rw [eqv_py x y h0.1 h.1, eqvL_py xs ys h0.2 h.2]
end
mutual
theorem alk_py : ∀ x y : D, D.alk x y = true → PySem.W.alike x.py y.py = true
  | .non, y, h => by cases y <;> simp_all [D.alk, D.py, PySem.W.alike]
  | .bl a, y, h => by cases y <;> simp_all [D.alk, D.py, PySem.W.alike]
  | .int a, y, h => by cases y <;> simp_all [D.alk, D.py, PySem.W.alike]
  | .str a, y, h => by cases y <;> simp_all [D.alk, D.py, PySem.W.alike]
  | .tup xs, y, h => by
    cases y with
    | tup ys => simp only [D.alk] at h; simp only [D.py, PySem.W.alike]; exact alkL_py xs ys h
    | _ => simp [D.alk] at h
  | .lst xs, y, h => by
    cases y with
    | lst ys => simp only [D.alk] at h; simp only [D.py, PySem.W.alike]; exact alkL_py xs ys h
    | _ => simp [D.alk] at h
  | .frz _, _, h => by simp [D.alk] at h
  | .tpc _, _, h => by simp [D.alk] at h
  | .ins _ _ _, _, h => by simp [D.alk] at h
  | .mrk _, _, h => by simp [D.alk] at h
  | .fn _, _, h => by simp [D.alk] at h
  | .loc _, _, h => by simp [D.alk] at h
theorem alkL_py : ∀ xs ys : List D, D.alkL xs ys = true → PySem.W.alikeAll (D.pyL xs) (D.pyL ys) = true
  | [], ys, h => by cases ys <;> simp [D.pyL, PySem.W.alikeAll]
  | x :: xs, ys, h => by
    cases ys with
    | nil => simp [D.pyL, PySem.W.alikeAll]
    | cons y ys =>
      simp only [D.alkL, Bool.and_eq_true] at h
      simp only [D.pyL, PySem.W.alikeAll, Bool.and_eq_true]
      exact ⟨alk_py x y h.1, alkL_py xs ys h.2⟩
end
mutual
theorem lt_py : ∀ x y : D, x.dat = true → y.dat = true → D.alk x y = true → D.lt x y = PySem.W.dataLt x.py y.py
  | .non, y, _, _, h => by
    cases y with
    | non => simp only [D.lt, D.py]; unfold PySem.W.dataLt; exact (PyProof.Rows.lex_irrefl _).symm
    | _ => simp [D.alk] at h
  | .bl a, y, _, _, h => by
    cases y with
    | bl b => simp only [D.lt, D.py, PySem.W.dataLt_bool]; cases a <;> cases b <;> decide
    | _ => simp [D.alk] at h
  | .int a, y, _, _, h => by
    cases y with
    | int b => simp only [D.lt, D.py, PySem.W.dataLt_int]
    | _ => simp [D.alk] at h
  | .str a, y, _, _, h => by
    cases y with
    | str b => simp only [D.lt, D.py, PySem.W.dataLt_str]
    | _ => simp [D.alk] at h
  | .tup xs, y, h0, h1, h => by
    cases y with
    | tup ys => simp only [D.lt, D.py, PySem.W.dataLt_tuple]; exact ltL_py xs ys (by simpa [D.dat] using h0) (by simpa [D.dat] using h1) (by simpa [D.alk] using h)
    | _ => simp [D.alk] at h
  | .lst xs, y, h0, h1, h => by
    cases y with
    | lst ys => simp only [D.lt, D.py, PySem.W.dataLt_list]; exact ltL_py xs ys (by simpa [D.dat] using h0) (by simpa [D.dat] using h1) (by simpa [D.alk] using h)
    | _ => simp [D.alk] at h
  | .frz _, _, h, _, _ => by simp [D.dat] at h
  | .tpc _, _, h, _, _ => by simp [D.dat] at h
  | .ins _ _ _, _, h, _, _ => by simp [D.dat] at h
  | .mrk _, _, h, _, _ => by simp [D.dat] at h
  | .fn _, _, h, _, _ => by simp [D.dat] at h
  | .loc _, _, h, _, _ => by simp [D.dat] at h
theorem ltL_py : ∀ xs ys : List D, D.datL xs = true → D.datL ys = true → D.alkL xs ys = true → D.ltL xs ys = PyProof.Rows.lexLt PyProof.Rows.itemOrd (PySem.W.keyToksAll (D.pyL xs)) (PySem.W.keyToksAll (D.pyL ys))
  | [], ys, _, _, h => by
    cases ys with
    | nil => simp only [D.ltL, D.pyL]; exact (PyProof.Rows.lex_irrefl _).symm
    | cons y ys =>
      simp only [D.ltL, D.pyL]
      rw [PySem.W.toks_all_cons]
      simp only [PySem.W.keyToksAll]
      rw [PyProof.Rows.lex_diff (O := PyProof.Rows.itemOrd) (by simp)]
      simp [PyProof.Rows.itemLt]
  | x :: xs, ys, h0, h1, h => by
    cases ys with
    | nil =>
      simp only [D.ltL, D.pyL]
      rw [PySem.W.toks_all_cons]
      simp only [PySem.W.keyToksAll]
      rw [PyProof.Rows.lex_diff (O := PyProof.Rows.itemOrd) (by simp)]
      simp [PyProof.Rows.itemLt]
    | cons y ys =>
      rw [D.datL, Bool.and_eq_true] at h0 h1
      simp only [D.alkL, Bool.and_eq_true] at h
      simp only [D.ltL, D.pyL]
      rw [PySem.W.dataLt_cons (alk_py x y h.1), ← eqv_py x y h0.1 h1.1, ltL_py xs ys h0.2 h1.2 h.2, lt_py x y h0.1 h1.1 h.1]
end

/-! ### a stable insertion sort -/
section
variable {α : Type} (le : α → α → Bool)
def ins (x : α) : List α → List α
  | [] => [x]
  | y :: ys => if le x y = true then x :: y :: ys else y :: ins x ys
def isort : List α → List α
  | [] => []
  | x :: xs => ins le x (isort xs)
variable {le}
theorem ins_mem {x z : α} : ∀ {l : List α}, z ∈ ins le x l ↔ z = x ∨ z ∈ l
  | [] => by simp [ins]
  | y :: ys => by
    unfold ins
    split
    · simp
    · simp only [List.mem_cons, ins_mem (l := ys)]
      constructor
      · rintro (h | h | h)
        · exact .inr (.inl h)
        · exact .inl h
        · exact .inr (.inr h)
      · rintro (h | h | h)
        · exact .inr (.inl h)
        · exact .inl h
        · exact .inr (.inr h)
theorem isort_mem {z : α} : ∀ {l : List α}, z ∈ isort le l ↔ z ∈ l
  | [] => by simp [isort]
  | x :: xs => by unfold isort; rw [ins_mem, isort_mem (l := xs), List.mem_cons]
theorem ins_length {x : α} : ∀ {l : List α}, (ins le x l).length = l.length + 1
  | [] => rfl
  | y :: ys => by unfold ins; split <;> simp [ins_length (l := ys)]
theorem isort_length : ∀ {l : List α}, (isort le l).length = l.length
  | [] => rfl
  | x :: xs => by unfold isort; rw [ins_length, isort_length (l := xs)]; rfl
theorem ins_pw (h : PySem.W.TotalLe le) {x : α} : ∀ {l : List α}, l.Pairwise (fun a b => le a b = true) → (ins le x l).Pairwise (fun a b => le a b = true)
  | [], _ => by simp [ins]
  | y :: ys, p => by
    have p' := List.pairwise_cons.mp p
    unfold ins
    split
    · rename_i q
      refine List.pairwise_cons.mpr ⟨fun z hz => ?_, p⟩
      rcases List.mem_cons.mp hz with rfl | hz
      · exact q
      · exact h.trans _ _ _ q (p'.1 z hz)
    · rename_i q
      have hyx : le y x = true := (h.total x y).resolve_left q
      refine List.pairwise_cons.mpr ⟨fun z hz => ?_, ins_pw h p'.2⟩
      rcases ins_mem.mp hz with rfl | hz
      · exact hyx
      · exact p'.1 z hz
theorem isort_pw (h : PySem.W.TotalLe le) : ∀ l : List α, (isort le l).Pairwise (fun a b => le a b = true)
  | [] => by simp [isort]
  | x :: xs => ins_pw h (isort_pw h xs)
theorem ins_stable (h : PySem.W.TotalLe le) {x c : α} : ∀ {l : List α}, (ins le x l).filter (PySem.W.sameRank le c) = (x :: l).filter (PySem.W.sameRank le c)
  | [] => rfl
  | y :: ys => by
    unfold ins
    split
    · rfl
    · rename_i q
      have ih := ins_stable h (x := x) (c := c) (l := ys)
      rw [List.filter_cons, ih]
      rw [List.filter_cons, List.filter_cons, List.filter_cons]
      cases hx : PySem.W.sameRank le c x with
      | false => simp
      | true =>
        cases hy : PySem.W.sameRank le c y with
        | false => simp
        | true =>
          exfalso
          unfold PySem.W.sameRank at hx hy
          rw [Bool.and_eq_true] at hx hy
          exact q (h.trans _ _ _ hx.2 hy.1)
theorem isort_stable (h : PySem.W.TotalLe le) {c : α} : ∀ l : List α, (isort le l).filter (PySem.W.sameRank le c) = l.filter (PySem.W.sameRank le c)
  | [] => rfl
  | x :: xs => by
    unfold isort
    rw [ins_stable h, List.filter_cons, List.filter_cons, isort_stable h xs]
theorem isort_merge (h : PySem.W.TotalLe le) (l : List α) : isort le l = l.mergeSort le := PySem.W.sort_unique h (isort_pw h l) fun _ => isort_stable h l
theorem ins_congr {le' : α → α → Bool} {x : α} : ∀ {l : List α}, (∀ y ∈ l, le x y = le' x y) → ins le x l = ins le' x l
  | [], _ => rfl
  | y :: ys, h => by
    unfold ins
    rw [h y List.mem_cons_self, ins_congr fun z hz => h z (List.mem_cons_of_mem _ hz)]
theorem isort_congr {le' : α → α → Bool} : ∀ {l : List α}, (∀ x ∈ l, ∀ y ∈ l, le x y = le' x y) → isort le l = isort le' l
  | [], _ => rfl
  | x :: xs, h => by
    unfold isort
    rw [← isort_congr (l := xs) fun a ha b hb => h a (List.mem_cons_of_mem _ ha) b (List.mem_cons_of_mem _ hb)]
    exact ins_congr fun y hy => h x List.mem_cons_self y (List.mem_cons_of_mem _ (isort_mem.mp hy))
end
/-- Python's order -/
def D.le (x y : D) : Bool := !D.lt y x
def isN : D → Bool
  | .non => true
  | _ => false
/-- what sorted takes -/
def srt (ds : List D) : Bool := D.datL ds && decide (D.depL ds ≤ 60) && ds.all (fun x => !isN x && ds.all fun y => D.alk x y)
theorem datL_mem : ∀ {ds : List D}, D.datL ds = true → ∀ d ∈ ds, d.dat = true
  | d :: ds, h, x, hx => by
    rw [D.datL, Bool.and_eq_true] at h
    rcases List.mem_cons.mp hx with rfl | hx
    · exact h.1
    · exact datL_mem h.2 x hx
theorem depL_mem : ∀ {ds : List D} {n : Nat}, D.depL ds ≤ n → ∀ d ∈ ds, d.dep ≤ n
  | d :: ds, n, h, x, hx => by
    rw [D.depL] at h
    rcases List.mem_cons.mp hx with rfl | hx
    · omega
    · exact depL_mem (by omega) x hx
mutual
theorem dep_py : ∀ d : D, d.dat = true → d.py.depth = d.dep
  | .non, _ => rfl
  | .bl _, _ => rfl
  | .int _, _ => rfl
  | .str _, _ => rfl
  | .tup l, h => by simp only [D.py, D.dep, PyData.depth]; rw [depL_py l (by simpa [D.dat] using h)]
  | .lst l, h => by simp only [D.py, D.dep, PyData.depth]; rw [depL_py l (by simpa [D.dat] using h)]
  | .frz _, h => by simp [D.dat] at h
  | .tpc _, h => by simp [D.dat] at h
  | .ins _ _ _, h => by simp [D.dat] at h
  | .mrk _, h => by simp [D.dat] at h
  | .fn _, h => by simp [D.dat] at h
  | .loc _, h => by simp [D.dat] at h
theorem depL_py : ∀ l : List D, D.datL l = true → PyData.depthAll (D.pyL l) = D.depL l
  | [], _ => rfl
  | d :: ds, h => by
    rw [D.datL, Bool.and_eq_true] at h
    simp only [D.pyL, D.depL, PyData.depthAll]
    rw [dep_py d h.1, depL_py ds h.2]
end
mutual
theorem lay_py : ∀ d : D, d.dat = true → d.py.canLay0 = true
  | .non, _ => by simp [D.py, PyData.canLay0]
  | .bl _, _ => by simp [D.py, PyData.canLay0]
  | .int _, _ => by simp [D.py, PyData.canLay0]
  | .str _, h => by simpa [D.py, PyData.canLay0, D.dat] using h
  | .tup l, h => by simp only [D.py, PyData.canLay0]; exact layL_py l (by simpa [D.dat] using h)
  | .lst l, h => by simp only [D.py, PyData.canLay0]; exact layL_py l (by simpa [D.dat] using h)
  | .frz _, h => by simp [D.dat] at h
  | .tpc _, h => by simp [D.dat] at h
  | .ins _ _ _, h => by simp [D.dat] at h
  | .mrk _, h => by simp [D.dat] at h
  | .fn _, h => by simp [D.dat] at h
  | .loc _, h => by simp [D.dat] at h
theorem layL_py : ∀ l : List D, D.datL l = true → PyData.canLayAll0 (D.pyL l) = true
  | [], _ => by simp [D.pyL, PyData.canLayAll0]
  | d :: ds, h => by
    rw [D.datL, Bool.and_eq_true] at h
    simp only [D.pyL, PyData.canLayAll0, Bool.and_eq_true]
    exact ⟨lay_py d h.1, layL_py ds h.2⟩
end
theorem shaped_py {d : D} (h : d.dat = true) (h2 : d.dep ≤ 64) : SeqAt.shaped d.py = true := by
  unfold SeqAt.shaped
  rw [Bool.and_eq_true]
  exact ⟨lay_py d h, decide_eq_true (by rw [dep_py d h]; exact h2)⟩
mutual
theorem Rep.dp {K : PySem.W.Frag} {w : Wd} : ∀ {d : D} {v : V}, Rep K w v d → d.dat = true → Dp K w.H v d.py
  | .non, _, h, _ => by cases h; exact .non
  | .bl b, _, h, _ => by cases h; exact .bl b
  | .int i, _, h, _ => by cases h; exact .int i
  | .str s, _, h, _ => by cases h; exact .str s
  | .tup l, _, h, q => by cases h with | tup h1 h2 => exact .tup h1 (RepL.dp h2 (by simpa [D.dat] using q))
  | .lst l, _, h, q => by cases h with | lst h0 h1 h2 => exact .lst (SqL.of h1) (RepL.dp h2 (by simpa [D.dat] using q))
  | .frz _, _, _, q => by simp [D.dat] at q
  | .tpc _, _, _, q => by simp [D.dat] at q
  | .ins _ _ _, _, _, q => by simp [D.dat] at q
  | .mrk _, _, _, q => by simp [D.dat] at q
  | .fn _, _, _, q => by simp [D.dat] at q
  | .loc _, _, _, q => by simp [D.dat] at q
theorem RepL.dp {K : PySem.W.Frag} {w : Wd} : ∀ {ds : List D} {vs : List V}, RepL K w vs ds → D.datL ds = true → DpAll K w.H vs (D.pyL ds)
  | [], _, h, _ => by cases h; exact .nil
  | d :: ds, _, h, q => by
    rw [D.datL, Bool.and_eq_true] at q
    cases h with
    | cons h1 h2 => exact .cons (Rep.dp h1 q.1) (RepL.dp h2 q.2)
end
end Vx


set_option Elab.async false
set_option linter.all false
set_option maxRecDepth 100000
/-! Vq: sorted(xs) of a list or a tuple of data, as a rule on values. -/
namespace Vx
open PySem PySem.W PySem.Calls PyProof.Rows L2

section
variable {prog : Program} {w : World} {A : Around} {E : Value → Shared → Prop} {s : Shared}
/-- the items of a tuple, collected -/
theorem collect_tup {l : Addr} {vs : List Value} {Q : List Value → Shared → Prop} (hl : IsTup s.heap l vs.toArray)
    (h : Q vs { s with heap := (s.heap.push (seqObj "list" #[] 0)).update s.heap.objs.size (Obj.mapSeq (· ++ vs.toArray)) }) (hsz : vs.length ≤ sizeLine) :
    wpAny (model prog w) A (collect (.ref l)) Q E s := by
  obtain ⟨o, ho, hc, n, hd⟩ := id hl
  unfold collect
  refine wpAny_bind (wpAny_runValue (codeAny_builtin entry_proto_collect' ?_))
  show wpAny _ _ (do again (.builtin "list.__iadd__" ⟨[← newList [], .ref l], []⟩)) _ _ s
  refine wpAny_bind (wpAny_newList (wpAny_pure ⟨Code.quiet_builtin _ (by decide +kernel), codeAny_builtin entry_list_iadd' ?_⟩))
  show wpAny _ _ (Builtin.List.listExtendWith (.ref s.heap.objs.size) (.ref l) (.ref s.heap.objs.size)) _ _ { s with heap := s.heap.push (seqObj "list" #[] 0) }
  unfold Builtin.List.listExtendWith
  have ho' : (s.heap.push (seqObj "list" #[] 0)).get? l = some o := Heap.get?_push_of_some _ ho
  refine wpAny_bind (wpAny_typeOf (T := "tuple") ⟨o, ho', hc⟩ ?_)
  have ht : (Value.type "tuple" == Value.type "tuple") = true := by rfl
  rw [if_pos (by simp [ht])]
  refine wpAny_bind (listItems_at ho' hd ?_)
  refine wpAny_bind (listItems_at (xs := #[]) (n := 0) (Heap.get?_push_size _ rfl) rfl ?_)
  rw [if_neg (by simp)]
  refine wpAny_bind (listUpdate_at (xs := #[]) (n := 0) (Heap.get?_push_size _ rfl) rfl ?_ (Nat.zero_le _) (by show (#[] ++ vs.toArray).size ≤ sizeLine + 1; simp only [Array.size_append, List.size_toArray, List.length_nil]; omega))
  refine wpAny_pure ?_
  show wpAny (model prog w) A (do
      let o ← load s.heap.objs.size
      match o.data with
      | .seq xs _ => pure xs.toList
      | _ => unsupported "internal:collect") Q E { s with heap := (s.heap.push (seqObj "list" #[] 0)).update s.heap.objs.size (Obj.mapSeq (· ++ vs.toArray)) }
  refine wpAny_bind (wpAny_load (get?_update_seq (Heap.get?_push_size _ rfl) _) ?_)
  show wpAny _ _ (pure ((#[] : Array Value) ++ vs.toArray).toList) Q E _
  rw [show ((#[] : Array Value) ++ vs.toArray).toList = vs by simp]
  exact wpAny_pure h

/-- sorted(t), t a tuple -/
theorem sorted_tupV {κ : PyProof.Rows.KeyKind} {l : Addr} {vs : List Value} {Q : Value → Shared → Prop} (hl : IsTup s.heap l vs.toArray) (S : SortsAt prog w A.in1.in1 { s with heap := sortingHeap (copyHeap s.heap vs) (s.heap.objs.size + 1) vs } κ vs) (hL : vs.length ≤ sizeLine)
    (h : Q (.ref (s.heap.objs.size + 1)) { s with heap := sortedAll s.heap vs (sortVals κ false vs vs).toArray }) : wpAny (model prog w) A (call (.builtin "sorted") [.ref l]) Q E s := by
  refine call_function_entry_kw kind_sorted plain_sorted entry_sorted (args_sorted1 _) ?_
  unfold Builtin.«sorted»
  refine wpAny_bind (m := checkCount "sorted" 1 1 _) (wpAny_pure ?_)
  refine wpAny_bind (collect_tup hl ?_ hL)
  refine wpAny_bind (wpAny_newList ?_ hL)
  have hsz : ((s.heap.push (seqObj "list" #[] 0)).update s.heap.objs.size (Obj.mapSeq (· ++ vs.toArray))).objs.size = s.heap.objs.size + 1 := by
    rw [Heap.size_update, size_push']
  show wpAny _ _ _ _ _ { s with heap := copyHeap s.heap vs }
  rw [hsz]
  refine wpAny_bind (wpAny_holding (wpAny_call_entry_kw slot_list_sort ⟨_, copyHeap_at s.heap vs, rfl⟩ entry_list_sort ?body (args_list_sort _)))
  case body =>
    show wpAny (model prog w) A.in1.in1 (Builtin.«list.sort» ⟨[.ref (s.heap.objs.size + 1)], []⟩) _ _ _
    exact list_sort_vals (s := { s with heap := copyHeap s.heap vs }) (copyHeap_at s.heap vs) S hL ⟨_, rfl, wpAny_pure ⟨_, rfl, h⟩⟩
end

theorem ins_map {α β : Type} {le : α → α → Bool} {le' : β → β → Bool} (f : α → β) (h : ∀ a b, le a b = le' (f a) (f b)) {x : α} : ∀ l : List α, (ins le x l).map f = ins le' (f x) (l.map f)
  | [] => rfl
  | y :: ys => by
    simp only [ins, List.map_cons, h]
    split
    · rfl
    · rw [List.map_cons, ins_map f h ys]
theorem isort_map {α β : Type} {le : α → α → Bool} {le' : β → β → Bool} (f : α → β) (h : ∀ a b, le a b = le' (f a) (f b)) : ∀ l : List α, (isort le l).map f = isort le' (l.map f)
  | [] => rfl
  | x :: xs => by simp only [isort, List.map_cons]; rw [ins_map f h, isort_map f h xs]

theorem srt_srtb {ds : List D} (h : srt ds = true) : Srtb (ds.map D.py) ∧ (∀ x ∈ ds, ∀ y ∈ ds, D.le x y = PySem.W.dataLe false D.py x y) ∧ D.datL ds = true ∧ D.depL ds ≤ 60 := by
  unfold srt at h
  simp only [Bool.and_eq_true, List.all_eq_true, decide_eq_true_eq] at h
  obtain ⟨⟨h1, h2⟩, h3⟩ := h
  refine ⟨⟨fun d hd d' hd' => ?_, fun d hd => ?_⟩, fun x hx y hy => ?_, h1, h2⟩
  · obtain ⟨x, hx, rfl⟩ := List.mem_map.mp hd
    obtain ⟨y, hy, rfl⟩ := List.mem_map.mp hd'
    exact alk_py x y ((h3 x hx).2 y hy)
  · obtain ⟨x, hx, rfl⟩ := List.mem_map.mp hd
    have q := (h3 x hx).1
    cases x <;> first | (simp [isN] at q; done) | simp [D.py]
  · show (!D.lt y x) = _
    rw [lt_py y x (datL_mem h1 y hy) (datL_mem h1 x hx) ((h3 y hy).2 x hx)]
    rfl

/-- sorted(xs) -/
def rSortD (K : PySem.W.Frag) : List V → Hp → VK → Prop := fun vs H Q => ∃ (a : Addr) (ps : List (D × V)), vs = [.ref a] ∧ (SqL K H a (ps.map (·.2)) ∨ SqT K H a (ps.map (·.2))) ∧ (∀ p ∈ ps, Dp K H p.2 p.1.py) ∧ srt (ps.map (·.1)) = true ∧
  ∀ p, H p = none → Q (.ref p) (upd H p (.lst ((isort (fun a b : D × V => D.le a.1 b.1) ps).map (·.2))))
theorem eachV {ps : List (D × V)} : ∀ {us : List Value}, Vals (ps.map (·.2)) us → EachIs (fun u (p : D × V) => RelV p.2 u) us ps := by
  induction ps with
  | nil => intro us h; cases h; exact .nil
  | cons p ps ih =>
    intro us h
    cases h with
    | cons h1 h2 => exact .cons h1 (ih h2)
theorem valsE {ps : List (D × V)} : ∀ {us : List Value}, EachIs (fun u (p : D × V) => RelV p.2 u) us ps → Vals (ps.map (·.2)) us := by
  induction ps with
  | nil => intro us h; cases h; exact .nil
  | cons p ps ih =>
    intro us h
    cases h with
    | cons h1 h2 => exact .cons h1 (ih h2)
theorem cr_sortD {X : Cx} (hu : X.A.units + 64 < cLine) : CallR X (.builtin "sorted") (rSortD X.K) := by
  intro pins s σ H xs us Q I r h
  obtain ⟨a, ps, rfl, hs, hd, hsr, q⟩ := h
  obtain ⟨u, rfl, ru⟩ := vals1 r
  obtain rfl : u = Value.ref a := ru
  obtain ⟨sb, hle, hdat, hdep⟩ := srt_srtb hsr
  have hpy : ps.map (fun p => p.1.py) = (ps.map (·.1)).map D.py := by rw [List.map_map]; rfl
  -- the sort of the items, in any heap that keeps what stands
  have main : ∀ (its : List Value) (h' : Heap), Vals (ps.map (·.2)) its → (∀ b o, s.heap.get? b = some o → h'.get? b = some o) → ∃ κ : PyProof.Rows.KeyKind, SortsAt X.prog X.w X.A.in1.in1 { s with heap := h' } κ its ∧
      EachIs (fun u (p : D × V) => RelV p.2 u) (sortVals κ false its its) (isort (fun a b : D × V => D.le a.1 b.1) ps) := by
    intro its h' rv kp
    have e := eachV rv
    have er : EachIs (fun u (p : D × V) => ∃ as, Reads h' u p.1.py as) its ps := by
      have e2 := each_mem e
      refine e2.mono fun u p ⟨r1, hp⟩ => ?_
      obtain ⟨as, rd⟩ := Dp.reads I p.1.py p.2 u (hd p hp) r1
      exact ⟨as, PyProof.Rows.Reads.keeps (fun _ _ z => kp _ _ z) rd⟩
    have hal : AllAlike (ps.map (fun p => p.1.py)) := by rw [hpy]; exact sb.al
    refine ⟨dataKind h' (ps.map (fun p => p.1.py)), SortsAt_any (s := { s with heap := h' }) (each_map (R := fun v d => ∃ as, Reads h' v d as) (fun p : D × V => p.1.py) er) (by rw [hpy]; exact sb) (fun d hd' => ?_), ?_⟩
    · obtain ⟨p, hp, rfl⟩ := List.mem_map.mp hd'
      have h1 : p.1 ∈ ps.map (·.1) := List.mem_map.mpr ⟨p, hp, rfl⟩
      rw [dep_py p.1 (datL_mem hdat _ h1)]
      have h2 := depL_mem hdep _ h1
      show X.A.units + 1 + 1 + _ < cLine
      omega
    · have t := sortVals_data (h' := h') (R := fun u (p : D × V) => RelV p.2 u) (enc := fun p : D × V => p.1.py) false e er hal
      have e3 : isort (fun a b : D × V => D.le a.1 b.1) ps = ps.mergeSort (dataLe false fun p : D × V => p.1.py) := by
        have tl : TotalLe (dataLe false fun p : D × V => p.1.py) := sortLe_total (listOrd itemOrd) false fun p : D × V => keyToks p.1.py
        rw [← isort_merge tl ps]
        refine isort_congr fun x hx y hy => ?_
        rw [hle x.1 (List.mem_map.mpr ⟨x, hx, rfl⟩) y.1 (List.mem_map.mpr ⟨y, hy, rfl⟩)]
        rfl
      rw [e3]
      exact t
  have hlen : ∀ {its : List Value}, Vals (ps.map (·.2)) its → ps.length = its.length := fun rv => by have := rv.length; simpa using this
  have fin : ∀ (its : List Value) (κ : PyProof.Rows.KeyKind), Vals (ps.map (·.2)) its → its.length ≤ sizeLine → EachIs (fun u (p : D × V) => RelV p.2 u) (sortVals κ false its its) (isort (fun a b : D × V => D.le a.1 b.1) ps) →
      EP X pins σ Q (.ref (s.heap.objs.size + 1)) { s with heap := sortedAll s.heap its (sortVals κ false its its).toArray } := fun its κ rv hz eo => by
    have hp : s.heap.objs.size ≤ s.heap.objs.size + 1 := Nat.le_succ _
    obtain ⟨n, hn⟩ := sortedAll_at s.heap its (sortVals κ false its its).toArray
    refine ⟨.ref (s.heap.objs.size + 1), _, I.laid (t' := s.toks) (fun b o e => sortedAll_old e) hp (o := .lst ((isort (fun a b : D × V => D.le a.1 b.1) ps).map (·.2))) ⟨?_, _, n, valsE eo, hn⟩, rfl, q _ (I.hok.fresh hp)⟩
    rw [List.length_map, isort_length, hlen rv]
    exact hz
  rcases hs with hs | hs
  · obtain ⟨its, rv, pl, hz⟩ := I.list hs
    have hz' : its.length ≤ sizeLine := by rw [← rv.length]; exact hz
    obtain ⟨κ, S, eo⟩ := main its (sortingHeap (copyHeap s.heap its) (s.heap.objs.size + 1) its) rv fun b o e => sorting_copy_old e
    exact sorted_vals pl.isList S hz' (fin its κ rv hz' eo)
  · obtain ⟨its, rv, pl, hz⟩ := I.tuple hs
    have hz' : its.length ≤ sizeLine := by rw [← rv.length]; exact hz
    obtain ⟨κ, S, eo⟩ := main its (sortingHeap (copyHeap s.heap its) (s.heap.objs.size + 1) its) rv fun b o e => sorting_copy_old e
    exact sorted_tupV pl S hz' (fin its κ rv hz' eo)
end Vx


set_option Elab.async false
set_option linter.all false
set_option maxRecDepth 100000
/-! Vr: the rules of expressions over trees. -/
namespace Vx
open PySem L2

/-- the longest list -/
def line : Nat := 16777216
theorem line_eq : sizeLine = line := sizeLine_eq

def eC (d : D) : EvF := fun _ st => some (.val d, st)
def eVar (i : Nat) : EvF := fun sl st => match sl[i]? with
  | some (.pub d) => some (.val d, st)
  | some (.own l) => some (.bor l, st)
  | _ => none
/-- what is new is given to all -/
def ePub (f : EvF) : EvF := fun sl st => match f sl st with
  | some (.val d, st') => some (.val d, st')
  | some (.prv l, st') => some (.val (.lst l), st')
  | _ => none
def e1 (f : EvF) (c : Amb → D → Option R) : EvF := fun sl st => (f sl st).bind fun p => (c p.2 p.1.d).map fun r => (r, p.2)
def e2 (f g : EvF) (c : Amb → D → D → Option R) : EvF := fun sl st => (f sl st).bind fun p => (g sl p.2).bind fun q => (c q.2 p.1.d q.1.d).map fun r => (r, q.2)
def eNil : EvA := fun _ st => some ([], st)
def eCons (f : EvF) (g : EvA) : EvA := fun sl st => (f sl st).bind fun p => (g sl p.2).map fun q => (p.1 :: q.1, q.2)
def eA (F : EvA) (c : Amb → List D → Option R) : EvF := fun sl st => (F sl st).bind fun p => (c p.2 (p.1.map R.d)).map fun r => (r, p.2)
/-- what one goes on with -/
abbrev Kon (K : PySem.W.Frag) (w : Wd) (sl : Sls) (st : Amb) (σ : St) (res : R) (Q : VK) : Prop :=
  ∀ v' w', Ok K w' sl st σ → Ext w (FootW w sl σ) w' (FootW w' sl σ) → RdR K w' sl σ v' res → Frs w v' res → Q v' w'.H
def Con1 (K : PySem.W.Frag) (rd : V → Hp → VK → Prop) (c : Amb → D → Option R) : Prop :=
  ∀ (w : Wd) (sl : Sls) (st : Amb) (σ : St) (v : V) (x res : R) (Q : VK), Ok K w sl st σ → RdR K w sl σ v x → c st x.d = some res → Kon K w sl st σ res Q → rd v w.H Q
def Con2 (K : PySem.W.Frag) (rd : R2) (c : Amb → D → D → Option R) : Prop :=
  ∀ (w : Wd) (sl : Sls) (st : Amb) (σ : St) (v u : V) (x y res : R) (Q : VK), Ok K w sl st σ → RdR K w sl σ v x → RdR K w sl σ u y → c st x.d y.d = some res → Kon K w sl st σ res Q → rd v u w.H Q
def ConA (K : PySem.W.Frag) (rd : List V → Hp → VK → Prop) (c : Amb → List D → Option R) : Prop :=
  ∀ (w : Wd) (sl : Sls) (st : Amb) (σ : St) (vs : List V) (rs : List R) (res : R) (Q : VK), Ok K w sl st σ → RdRs K w sl σ vs rs → c st (rs.map R.d) = some res → Kon K w sl st σ res Q → rd vs w.H Q

section
variable {K : PySem.W.Frag} {w : Wd} {sl : Sls} {st : Amb} {σ : St} {Q : VK}
theorem Kon.val {d : D} {v : V} (k : Kon K w sl st σ (.val d) Q) (ok : Ok K w sl st σ) (r : Rep K w v d) : Q v w.H := k v w ok Ext.refl r trivial
theorem Kon.prv {ds : List D} {vs : List V} {p : Addr} (k : Kon K w sl st σ (.prv ds) Q) (ok : Ok K w sl st σ) (hp : w.H p = none) (r : RepL K w vs ds) : Q (.ref p) (upd w.H p (.lst vs)) :=
  k (.ref p) ⟨w.al, w.S, upd w.H p (.lst vs)⟩ (ok.new hp) (ext_new hp) (prv_new ok hp r) fun a e => by cases e; exact hp
theorem Kon.tup {ds : List D} {vs : List V} {p : Addr} (k : Kon K w sl st σ (.val (.tup ds)) Q) (ok : Ok K w sl st σ) (hp : w.H p = none) (r : RepL K w vs ds) : Q (.ref p) (upd w.H p (.tup vs)) :=
  k (.ref p) ⟨w.al, w.S, upd w.H p (.tup vs)⟩ (ok.new hp) (ext_new hp) (Rep.tup (SqT.of upd_same) (repL_new hp r)) trivial
theorem e1_read {f : EvF} {rd : V → Hp → VK → Prop} {c : Amb → D → Option R} (hc : Con1 K rd c) {H : Hp} (h : tV K (e1 f c) σ H Q) : tV K f σ H fun v H1 => rd v H1 Q := by
  obtain ⟨al, S, sl, st, r, st', ok, e, k⟩ := h
  unfold e1 at e
  cases h1 : f sl st with
  | none => rw [h1] at e; cases e
  | some p =>
    obtain ⟨x, st1⟩ := p
    rw [h1] at e
    simp only [Option.bind_some] at e
    cases h2 : c st1 x.d with
    | none => rw [h2] at e; cases e
    | some res =>
      rw [h2] at e
      cases e
      refine ⟨al, S, sl, st, x, _, ok, h1, fun v w1 ok1 x1 rd1 fr1 => hc w1 sl _ σ v x _ Q ok1 rd1 h2 fun v' w' ok' x' rd' fr' => k v' w' ok' (x1.trans x') rd' (fr'.back x1)⟩
theorem e2_read {f g : EvF} {rd : R2} {c : Amb → D → D → Option R} (hc : Con2 K rd c) {H : Hp} (h : tV K (e2 f g c) σ H Q) : tV K f σ H fun v H1 => tV K g σ H1 fun u H2 => rd v u H2 Q := by
  obtain ⟨al, S, sl, st, r, st', ok, e, k⟩ := h
  unfold e2 at e
  cases h1 : f sl st with
  | none => rw [h1] at e; cases e
  | some p =>
    obtain ⟨x, st1⟩ := p
    rw [h1] at e
    simp only [Option.bind_some] at e
    cases h2 : g sl st1 with
    | none => rw [h2] at e; cases e
    | some q =>
      obtain ⟨y, st2⟩ := q
      rw [h2] at e
      simp only [Option.bind_some] at e
      cases h3 : c st2 x.d y.d with
      | none => rw [h3] at e; cases e
      | some res =>
        rw [h3] at e
        cases e
        refine ⟨al, S, sl, st, x, st1, ok, h1, fun v w1 ok1 x1 rd1 fr1 => ⟨w1.al, w1.S, sl, st1, y, _, ok1, h2, fun u w2 ok2 x2 rd2 fr2 => ?_⟩⟩
        exact hc w2 sl _ σ v u x y _ Q ok2 (rd1.ext ok1 x2) rd2 h3 fun v' w' ok' x' rd' fr' => k v' w' ok' (x1.trans (x2.trans x')) rd' (fr'.back (x1.trans x2))
theorem eA_read {F : EvA} {rd : List V → Hp → VK → Prop} {c : Amb → List D → Option R} (hc : ConA K rd c) {H : Hp} (h : tV K (eA F c) σ H Q) : tVA K F σ H fun vs H1 => rd vs H1 Q := by
  obtain ⟨al, S, sl, st, r, st', ok, e, k⟩ := h
  unfold eA at e
  cases h1 : F sl st with
  | none => rw [h1] at e; cases e
  | some p =>
    obtain ⟨x, st1⟩ := p
    rw [h1] at e
    simp only [Option.bind_some] at e
    cases h2 : c st1 (x.map R.d) with
    | none => rw [h2] at e; cases e
    | some res =>
      rw [h2] at e
      cases e
      refine ⟨al, S, sl, st, x, _, ok, h1, fun v w1 ok1 x1 rd1 _ => hc w1 sl _ σ v x _ Q ok1 rd1 h2 fun v' w' ok' x' rd' fr' => k v' w' ok' (x1.trans x') rd' (fr'.back x1)⟩
end

section
variable {X : Cx} {a b : Expr} {f g : EvF} {pos : Pos}
/-! ### names and constants -/
theorem ve_var (i : Nat) {x : Str} (hN : X.N[i]? = some x := by rfl) (hv : Vis X.env.scope x := by first | exact Or.inl rfl | exact Or.inr (Or.inl rfl) | exact Or.inr (Or.inr rfl)) (hd : (x == ("__debug__" : Str)) = false := by decide)
    (hcd : (x == ("__classdict__" : Str)) = false := by decide) : VE X (.Name x pos) (eVar i) := by
  refine PEimp (pe_var hN hv hd hcd) fun σ H Q h => ?_
  obtain ⟨al, S, sl, st, r, st', ok, e, k⟩ := h
  unfold eVar at e
  cases h1 : sl[i]? with
  | none => rw [h1] at e; cases e
  | some s =>
    rw [h1] at e
    cases s with
    | un => cases e
    | pub d =>
      cases e
      obtain ⟨v, e1, r1⟩ := ok.pub i d h1
      exact ⟨v, e1, k v ⟨al, S, H⟩ ok Ext.refl r1 trivial⟩
    | own l =>
      cases e
      obtain ⟨p, vs, e1, e2, e3, s, m⟩ := ok.own i l h1
      exact ⟨.ref p, e1, k (.ref p) ⟨al, S, H⟩ ok Ext.refl ⟨i, p, h1, e1, rfl⟩ trivial⟩
theorem ve_const {v : V} {d : D} (h : PE X a (tC v)) (r : ∀ w, Rep X.K w v d) : VE X a (eC d) := by
  refine PEimp h fun σ H Q h => ?_
  obtain ⟨al, S, sl, st, r', st', ok, e, k⟩ := h
  cases e
  exact k v ⟨al, S, H⟩ ok Ext.refl (r _) trivial
theorem ve_int {i : Int} {j} : VE X (.Constant (.int i) j pos) (eC (.int i)) := ve_const pe_int fun _ => .int i
theorem ve_bl {b : Bool} {j} : VE X (.Constant (.bool b) j pos) (eC (.bl b)) := ve_const pe_bl fun _ => .bl b
theorem ve_non {j} : VE X (.Constant .none j pos) (eC .non) := ve_const pe_non fun _ => .non
theorem ve_str {s : Str} {j} : VE X (.Constant (.str s) j pos) (eC (.str s)) := ve_const pe_str fun _ => .str s
theorem ve_glob {x : Str} {v : V} {u : Value} {d : D} (hg : Gl X x) (hm : X.mg x = some u) (r : RelV v u) (rd : ∀ w, Rep X.K w v d) (hd : (x == ("__debug__" : Str)) = false := by decide) : VE X (.Name x pos) (eC d) := ve_const (pe_glob hg hm r hd) rd
theorem ve_pub (ha : VE X a f) : VE X a (ePub f) := by
  refine PEimp ha fun σ H Q h => ?_
  obtain ⟨al, S, sl, st, r, st', ok, e, k⟩ := h
  unfold ePub at e
  cases h1 : f sl st with
  | none => rw [h1] at e; cases e
  | some p =>
    obtain ⟨x, st1⟩ := p
    rw [h1] at e
    cases x with
    | val d => cases e; exact ⟨al, S, sl, st, .val d, _, ok, h1, k⟩
    | bor d => cases e
    | prv l =>
      cases e
      refine ⟨al, S, sl, st, .prv l, _, ok, h1, fun v w1 ok1 x1 rd1 fr1 => ?_⟩
      obtain ⟨S', _, ok2, r2, x2⟩ := prv_pub ok1 rd1
      exact k v ⟨w1.al, S', w1.H⟩ ok2 (x2 (w0 := ⟨al, S, H⟩) x1 fun a e => .inl (fr1 a e)) r2 trivial
/-! ### operators -/
theorem ve_bin {op : Operator} {rd : R2} {c : Amb → D → D → Option R} (ho : OpR X (binaryOp op) rd) (hc : Con2 X.K rd c) (ha : VE X a f) (hb : VE X b g) : VE X (.BinOp a op b pos) (e2 f g c) :=
  PEimp (pe_op ho ha hb) fun σ H Q h => e2_read hc h
theorem ve_cmp {op : CmpOp} {rd : R2} {c : Amb → D → D → Option R} (ho : OpR X (compareOp op) rd) (hc : Con2 X.K rd c) (ha : VE X a f) (hb : VE X b g) (hm : behindInMarks op b = false) : VE X (.Compare a [op] [b] pos) (e2 f g c) :=
  PEimp (pe_cmpR ho ha hb hm) fun σ H Q h => e2_read hc h
def bV (c : Amb → D → D → Option Bool) : Amb → D → D → Option R := fun st x y => (c st x y).map fun b => .val (.bl b)
/-- a truth value as a test -/
def eT (f : EvF) : EvB := fun sl st => match f sl st with
  | some (.val (.bl b), st') => some (b, st')
  | _ => none
theorem eT_read {K : PySem.W.Frag} {σ : St} {H : Hp} {Q : Bool → Hp → Prop} (h : tVB K (eT f) σ H Q) : tV K f σ H fun x H1 => ∃ c, x = .bl c ∧ Q c H1 := by
  obtain ⟨al, S, sl, st, r, st', ok, e, k⟩ := h
  unfold eT at e
  cases h1 : f sl st with
  | none => rw [h1] at e; cases e
  | some p =>
    obtain ⟨x, st1⟩ := p
    rw [h1] at e
    cases x with
    | prv l => cases e
    | bor l => cases e
    | val d =>
      cases d <;> cases e
      refine ⟨al, S, sl, st, _, _, ok, h1, fun v w1 ok1 x1 rd1 fr1 => ?_⟩
      cases rd1
      exact ⟨_, rfl, k w1 ok1 x1⟩
theorem vt_cmp {op : CmpOp} {rd : R2} {c : Amb → D → D → Option R} (ho : OpR X (compareOp op) rd) (hc : Con2 X.K rd c) (ha : VE X a f) (hb : VE X b g) (hm : behindInMarks op b = false) : VT X (.Compare a [op] [b] pos) (eT (e2 f g c)) := by
  refine PTimp (pt_cmpR ho ha hb hm) fun σ H Q h => ?_
  exact e2_read hc (eT_read h)
theorem vt_val (ha : VE X a f) (he : ∀ whole, isTrue a X.env whole = (do let v ← whole; standAt a.pos; holding [v] (truthy v)) := by intro _; rfl) : VT X a (eT f) :=
  PTimp (pt_val ha he) fun σ H Q h => eT_read h
/-! ### tests -/
def tAndB (f g : EvB) : EvB := fun sl st => (f sl st).bind fun p => if p.1 = true then g sl p.2 else some (false, p.2)
def tOrB (f g : EvB) : EvB := fun sl st => (f sl st).bind fun p => if p.1 = true then some (true, p.2) else g sl p.2
def tNotB (f : EvB) : EvB := fun sl st => (f sl st).map fun p => (!p.1, p.2)
abbrev VW (X : Cx) (e : Expr) (f : EvB) : Prop := PW X e (tVB X.K f)
variable {F G : EvB} {rest : List Expr}
theorem vw_and1 (ha : VT X a F) : VW X (.BoolOp .And [a] pos) F := pw_and1 ha
theorem vw_or1 (ha : VT X a F) : VW X (.BoolOp .Or [a] pos) F := pw_or1 ha
theorem vw_and (ha : VT X a F) (hb : VW X (.BoolOp .And (b :: rest) pos) G) : VW X (.BoolOp .And (a :: b :: rest) pos) (tAndB F G) := by
  refine PWimp (pw_and ha hb) fun σ H Q h => ?_
  obtain ⟨al, S, sl, st, r, st', ok, e, k⟩ := h
  unfold tAndB at e
  cases h1 : F sl st with
  | none => rw [h1] at e; cases e
  | some p =>
    obtain ⟨c, st1⟩ := p
    rw [h1] at e
    simp only [Option.bind_some] at e
    refine ⟨al, S, sl, st, c, st1, ok, h1, fun w1 ok1 x1 => ?_⟩
    cases c with
    | true => exact ⟨w1.al, w1.S, sl, st1, r, st', ok1, by simpa using e, fun w2 ok2 x2 => k w2 ok2 (x1.trans x2)⟩
    | false =>
      simp only [Bool.false_eq_true, if_false] at e
      cases e
      exact k w1 ok1 x1
theorem vw_or (ha : VT X a F) (hb : VW X (.BoolOp .Or (b :: rest) pos) G) : VW X (.BoolOp .Or (a :: b :: rest) pos) (tOrB F G) := by
  refine PWimp (pw_or ha hb) fun σ H Q h => ?_
  obtain ⟨al, S, sl, st, r, st', ok, e, k⟩ := h
  unfold tOrB at e
  cases h1 : F sl st with
  | none => rw [h1] at e; cases e
  | some p =>
    obtain ⟨c, st1⟩ := p
    rw [h1] at e
    simp only [Option.bind_some] at e
    refine ⟨al, S, sl, st, c, st1, ok, h1, fun w1 ok1 x1 => ?_⟩
    cases c with
    | false => exact ⟨w1.al, w1.S, sl, st1, r, st', ok1, by simpa using e, fun w2 ok2 x2 => k w2 ok2 (x1.trans x2)⟩
    | true =>
      simp only [if_true] at e
      cases e
      exact k w1 ok1 x1
theorem vt_bool (h : VW X a F) : VT X a F := h.pt
theorem vt_not (ha : VT X a F) : VT X (.UnaryOp .Not a pos) (tNotB F) := by
  refine PTimp (pt_not ha) fun σ H Q h => ?_
  obtain ⟨al, S, sl, st, r, st', ok, e, k⟩ := h
  unfold tNotB at e
  cases h1 : F sl st with
  | none => rw [h1] at e; cases e
  | some p =>
    obtain ⟨c, st1⟩ := p
    rw [h1] at e
    cases e
    exact ⟨al, S, sl, st, c, _, ok, h1, fun w1 ok1 x1 => k w1 ok1 x1⟩
/-- and, or, not as values -/
def eAndV (f g : EvF) : EvF := fun sl st => match f sl st with
  | some (.val (.bl true), st') => g sl st'
  | some (.val (.bl false), st') => some (.val (.bl false), st')
  | _ => none
def eOrV (f g : EvF) : EvF := fun sl st => match f sl st with
  | some (.val (.bl false), st') => g sl st'
  | some (.val (.bl true), st') => some (.val (.bl true), st')
  | _ => none
def eNotV (f : EvF) : EvF := e1 f fun _ d => match d with
  | .bl b => some (.val (.bl !b))
  | _ => none
theorem ve_one {op} (h : VE X a f) : VE X (.BoolOp op [a] pos) f := pe_one h
theorem ve_and (ha : VE X a f) (hb : VE X (.BoolOp .And (b :: rest) pos) g) : VE X (.BoolOp .And (a :: b :: rest) pos) (eAndV f g) := by
  refine PEimp (pe_and ha hb) fun σ H Q h => ?_
  obtain ⟨al, S, sl, st, r, st', ok, e, k⟩ := h
  unfold eAndV at e
  cases h1 : f sl st with
  | none => rw [h1] at e; cases e
  | some p =>
    obtain ⟨x, st1⟩ := p
    rw [h1] at e
    cases x with
    | prv l => cases e
    | bor l => cases e
    | val d =>
      cases d with
      | bl c =>
        refine ⟨al, S, sl, st, _, st1, ok, h1, fun v w1 ok1 x1 rd1 fr1 => ?_⟩
        cases rd1
        refine ⟨c, rfl, ?_⟩
        cases c with
        | true => exact ⟨w1.al, w1.S, sl, st1, r, st', ok1, e, fun u w2 ok2 x2 rd2 fr2 => k u w2 ok2 (x1.trans x2) rd2 (fr2.back x1)⟩
        | false =>
          simp only at e
          cases e
          exact k _ w1 ok1 x1 (Rep.bl false) trivial
      | _ => cases e
theorem ve_or (ha : VE X a f) (hb : VE X (.BoolOp .Or (b :: rest) pos) g) : VE X (.BoolOp .Or (a :: b :: rest) pos) (eOrV f g) := by
  refine PEimp (pe_or ha hb) fun σ H Q h => ?_
  obtain ⟨al, S, sl, st, r, st', ok, e, k⟩ := h
  unfold eOrV at e
  cases h1 : f sl st with
  | none => rw [h1] at e; cases e
  | some p =>
    obtain ⟨x, st1⟩ := p
    rw [h1] at e
    cases x with
    | prv l => cases e
    | bor l => cases e
    | val d =>
      cases d with
      | bl c =>
        refine ⟨al, S, sl, st, _, st1, ok, h1, fun v w1 ok1 x1 rd1 fr1 => ?_⟩
        cases rd1
        refine ⟨c, rfl, ?_⟩
        cases c with
        | false => exact ⟨w1.al, w1.S, sl, st1, r, st', ok1, e, fun u w2 ok2 x2 rd2 fr2 => k u w2 ok2 (x1.trans x2) rd2 (fr2.back x1)⟩
        | true =>
          simp only at e
          cases e
          exact k _ w1 ok1 x1 (Rep.bl true) trivial
      | _ => cases e
theorem ve_not (ha : VE X a f) : VE X (.UnaryOp .Not a pos) (eNotV f) := by
  refine PEimp (pe_not ha) fun σ H Q h => ?_
  refine e1_read (rd := fun v H Q => ∃ c, v = .bl c ∧ Q (.bl !c) H) (fun w sl st σ v x res Q ok rd e k => ?_) h
  cases hx : x.d <;> rw [hx] at e <;> cases e
  refine ⟨_, rd.bl hx, Kon.val k ok (.bl _)⟩
/-- a if t else b -/
def eIf (t : EvB) (f g : EvF) : EvF := fun sl st => (t sl st).bind fun p => if p.1 = true then f sl p.2 else g sl p.2
theorem ve_if {t : Expr} (ht : VT X t F) (ha : VE X a f) (hb : VE X b g) : VE X (.IfExp t a b pos) (eIf F f g) := by
  refine PEimp (pe_ifExp ht ha hb) fun σ H Q h => ?_
  obtain ⟨al, S, sl, st, r, st', ok, e, k⟩ := h
  unfold eIf at e
  cases h1 : F sl st with
  | none => rw [h1] at e; cases e
  | some p =>
    obtain ⟨c, st1⟩ := p
    rw [h1] at e
    simp only [Option.bind_some] at e
    refine ⟨al, S, sl, st, c, st1, ok, h1, fun w1 ok1 x1 => ?_⟩
    cases c with
    | true => exact ⟨w1.al, w1.S, sl, st1, r, st', ok1, by simpa using e, fun u w2 ok2 x2 rd2 fr2 => k u w2 ok2 (x1.trans x2) rd2 (fr2.back x1)⟩
    | false => exact ⟨w1.al, w1.S, sl, st1, r, st', ok1, by simpa using e, fun u w2 ok2 x2 rd2 fr2 => k u w2 ok2 (x1.trans x2) rd2 (fr2.back x1)⟩
/-! ### lists of expressions -/
theorem va_nil : VA X [] eNil := by
  refine PAimp pa_nil fun σ H Q h => ?_
  obtain ⟨al, S, sl, st, r, st', ok, e, k⟩ := h
  cases e
  exact k [] ⟨al, S, H⟩ ok Ext.refl .nil fun i v r e => by simp at e
theorem va_cons {es : List Expr} {FA : EvA} (ha : VE X a f) (hr : VA X es FA) (hs : starEach (a :: es) X.env = (false, eval a X.env) :: starEach es X.env := by rfl) : VA X (a :: es) (eCons f FA) := by
  refine PAimp (pa_cons ha hr hs) fun σ H Q h => ?_
  obtain ⟨al, S, sl, st, r, st', ok, e, k⟩ := h
  unfold eCons at e
  cases h1 : f sl st with
  | none => rw [h1] at e; cases e
  | some p =>
    obtain ⟨x, st1⟩ := p
    rw [h1] at e
    simp only [Option.bind_some] at e
    cases h2 : FA sl st1 with
    | none => rw [h2] at e; cases e
    | some q =>
      obtain ⟨ys, st2⟩ := q
      rw [h2] at e
      cases e
      refine ⟨al, S, sl, st, x, st1, ok, h1, fun v w1 ok1 x1 rd1 fr1 => ⟨w1.al, w1.S, sl, st1, ys, _, ok1, h2, fun vs w2 ok2 x2 rd2 fl2 => ?_⟩⟩
      exact k (v :: vs) w2 ok2 (x1.trans x2) (.cons (rd1.ext ok1 x2) rd2) fun i u r e1 e2 => by
        cases i with
        | zero => simp at e1 e2; subst e1 e2; exact fr1
        | succ i => exact (fl2 i u r (by simpa using e1) (by simpa using e2)).back x1
/-- all of them may be kept -/
def vals : List R → Option (List D)
  | [] => some []
  | .val d :: rs => (vals rs).map (d :: ·)
  | _ :: _ => none
theorem vals_rep {K : PySem.W.Frag} {w : Wd} {sl : Sls} {σ : St} : ∀ {rs : List R} {vs : List V} {ds : List D}, RdRs K w sl σ vs rs → vals rs = some ds → RepL K w vs ds
  | _, _, _, .nil, e => by cases e; exact .nil
  | .val d :: rs, _, _, .cons h t, e => by
    cases h1 : vals rs with
    | none => simp [vals, h1] at e
    | some ds =>
      simp only [vals, h1, Option.map_some, Option.some.injEq] at e
      subst e
      exact .cons h (vals_rep t h1)
  | .prv _ :: _, _, _, .cons _ _, e => by simp [vals] at e
  | .bor _ :: _, _, _, .cons _ _, e => by simp [vals] at e
def eTup (F : EvA) : EvF := fun sl st => (F sl st).bind fun p => (vals p.1).bind fun ds => if ds.length ≤ line then some (.val (.tup ds), p.2) else none
def eLst (F : EvA) : EvF := fun sl st => (F sl st).bind fun p => (vals p.1).bind fun ds => if ds.length ≤ line then some (.prv ds, p.2) else none
theorem disp_read {K : PySem.W.Frag} {FA : EvA} {σ : St} {H : Hp} {Q : VK} {mk : List D → R} (h : tV K (fun sl st => (FA sl st).bind fun p => (vals p.1).bind fun ds => if ds.length ≤ line then some (mk ds, p.2) else none) σ H Q)
    {o : List V → HO} (hk : ∀ (w : Wd) (sl : Sls) (st : Amb) (ds : List D) (vs : List V) (p : Addr), Ok K w sl st σ → RepL K w vs ds → w.H p = none → Kon K w sl st σ (mk ds) Q → Q (.ref p) (upd w.H p (o vs))) :
    tVA K FA σ H fun xs H1 => xs.length ≤ sizeLine ∧ ∀ p, H1 p = none → Q (.ref p) (upd H1 p (o xs)) := by
  obtain ⟨al, S, sl, st, r, st', ok, e, k⟩ := h
  simp only at e
  cases h1 : FA sl st with
  | none => rw [h1] at e; cases e
  | some q =>
    obtain ⟨rs, st1⟩ := q
    rw [h1] at e
    simp only [Option.bind_some] at e
    cases h2 : vals rs with
    | none => rw [h2] at e; cases e
    | some ds =>
      rw [h2] at e
      simp only [Option.bind_some] at e
      by_cases hz : ds.length ≤ line
      · rw [if_pos hz] at e
        cases e
        refine ⟨al, S, sl, st, rs, _, ok, h1, fun vs w1 ok1 x1 rd1 _ => ?_⟩
        have rl := vals_rep rd1 h2
        refine ⟨by rw [rl.length, line_eq]; exact hz, fun p hp => hk w1 sl _ ds vs p ok1 rl hp fun v' w' ok' x' rd' fr' => k v' w' ok' (x1.trans x') rd' (fr'.back x1)⟩
      · rw [if_neg hz] at e; cases e
theorem ve_tup {es : List Expr} {FA : EvA} {x1} (h : VA X es FA) : VE X (.Tuple es x1 pos) (eTup FA) :=
  PEimp (pe_tup h) fun σ H Q hq => disp_read (mk := fun ds => .val (.tup ds)) (o := .tup) hq fun w sl st ds vs p ok r hp k => Kon.tup k ok hp r
theorem ve_lst {es : List Expr} {FA : EvA} (h : VA X es FA) : VE X (.List es pos) (eLst FA) :=
  PEimp (pe_lst h) fun σ H Q hq => disp_read (mk := fun ds => .prv ds) (o := .lst) hq fun w sl st ds vs p ok r hp k => Kon.prv k ok hp r
/-! ### calls of built-ins -/
theorem ve_callB {id : String} {x : Str} {p : Pos} {es : List Expr} {FA : EvA} {rd : List V → Hp → VK → Prop} {c : Amb → List D → Option R} (hc : CallR X (.builtin id) rd) (hcon : ConA X.K rd c) (hg : Gl X x) (hm : X.mg x = none) (hv : bootBuiltins x = some (.builtin id)) (ha : VA X (a :: es) FA) (hn : x ≠ "__name__" := by decide) (hdb : (x == ("__debug__" : Str)) = false := by decide)
    (he : starEach (a :: es) X.env = (false, eval a X.env) :: starEach es X.env := by rfl) (hpl : (backTo pos (starEach es X.env)).any (·.1) = false := by rfl) : VE X (.Call (.Name x p) (a :: es) [] pos) (eA FA c) :=
  PEimp (pe_callB hc hg hm hv ha hn hdb he hpl) fun σ H Q h => eA_read hcon h
theorem ve_callTy {T : String} {x : Str} {p : Pos} {es : List Expr} {FA : EvA} {rd : List V → Hp → VK → Prop} {c : Amb → List D → Option R} (hc : CallR X (.type T) rd) (hcon : ConA X.K rd c) (hg : Gl X x) (hm : X.mg x = none) (hv : bootBuiltins x = some (.type T)) (ha : VA X (a :: es) FA) (hn : x ≠ "__name__" := by decide) (hdb : (x == ("__debug__" : Str)) = false := by decide)
    (he : starEach (a :: es) X.env = (false, eval a X.env) :: starEach es X.env := by rfl) (hpl : (backTo pos (starEach es X.env)).any (·.1) = false := by rfl) : VE X (.Call (.Name x p) (a :: es) [] pos) (eA FA c) :=
  PEimp (pe_callTy hc hg hm hv ha hn hdb he hpl) fun σ H Q h => eA_read hcon h
end
end Vx


set_option Elab.async false
set_option linter.all false
set_option maxRecDepth 100000
/-! Vo: operators, built-ins, subscripts over trees. -/
namespace Vx
open PySem L2

section
variable {K : PySem.W.Frag} {w : Wd} {sl : Sls} {st : Amb} {σ : St} {v : V} {r : R}
theorem RdR.dp (h : RdR K w sl σ v r) (ok : Ok K w sl st σ) (q : r.d.dat = true) : Dp K w.H v r.d.py := by
  cases r with
  | val d => exact Rep.dp h q
  | prv l =>
    obtain ⟨a, vs, e, h1, h2⟩ := h.lst ok (ds := l) rfl
    subst e
    exact .lst (SqL.of h1) (RepL.dp h2 (by simpa [D.dat, R.d] using q))
  | bor l =>
    obtain ⟨a, vs, e, h1, h2⟩ := h.lst ok (ds := l) rfl
    subst e
    exact .lst (SqL.of h1) (RepL.dp h2 (by simpa [D.dat, R.d] using q))
/-- a sequence that is read -/
def seqD (st : Amb) : D → Option (List D)
  | .tup l => some l
  | .lst l => some l
  | .frz l => some l
  | .loc n => st[n]?
  | _ => none
theorem RdR.seq (h : RdR K w sl σ v r) (ok : Ok K w sl st σ) {ds : List D} (e : seqD st r.d = some ds) : ∃ a vs, v = .ref a ∧ RepL K w vs ds ∧ (SqL K w.H a vs ∨ SqT K w.H a vs) ∧ ((∃ l, r.d = .tup l) ∨ SqL K w.H a vs) := by
  cases hd : r.d with
  | tup l =>
    rw [hd] at e
    cases e
    obtain ⟨a, vs, e1, h1, h2⟩ := h.tup hd
    exact ⟨a, vs, e1, h2, .inr h1, .inl ⟨_, rfl⟩⟩
  | lst l =>
    rw [hd] at e
    cases e
    obtain ⟨a, vs, e1, h1, h2⟩ := h.lst ok hd
    exact ⟨a, vs, e1, h2, .inl (SqL.of h1), .inr (SqL.of h1)⟩
  | frz l =>
    rw [hd] at e
    cases e
    have q := h.rep hd (fun l z => by cases z)
    cases q with
    | frz h1 h2 => exact ⟨_, _, rfl, h2, .inl (.inl (.inr ⟨_, h1⟩)), .inr (.inl (.inr ⟨_, h1⟩))⟩
    | frk a b c d e f g => exact ⟨_, _, rfl, g, .inl (.inr ⟨_, _, _, a, b, c, d, e, f⟩), .inr (.inr ⟨_, _, _, a, b, c, d, e, f⟩)⟩
  | loc n =>
    rw [hd] at e
    have q := h.rep hd (fun l z => by cases z)
    cases q with
    | loc h1 =>
      obtain ⟨_, vs, es, e1, e2, e3⟩ := ok.amb.at_ n _ h1
      have e' : st[n]? = some ds := e
      rw [e2] at e'
      cases e'
      exact ⟨_, vs, rfl, e3, .inl (SqL.of e1), .inr (SqL.of e1)⟩
  | _ => rw [hd] at e; cases e
end

/-! ### arithmetic -/
def cAdd : Amb → D → D → Option R := fun _ x y => match x with
  | .int i => (match y with | .int j => some (.val (.int (i + j))) | _ => none)
  | .tup xs => (match y with | .tup ys => if xs.length + ys.length ≤ line then some (.val (.tup (xs ++ ys))) else none | _ => none)
  | .lst xs => (match y with | .lst ys => if xs.length + ys.length ≤ line then some (.prv (xs ++ ys)) else none | _ => none)
  | .str a => (match y with | .str b => if a.length + b.length ≤ line then some (.val (.str (a ++ b))) else none | _ => none)
  | _ => none
def cI (f : Int → Int → Option D) : Amb → D → D → Option R := fun _ x y => match x with
  | .int i => (match y with | .int j => (f i j).map .val | _ => none)
  | _ => none
def fSub (i j : Int) : Option D := some (.int (i - j))
def fMul (i j : Int) : Option D := if i.natAbs.log2 + j.natAbs.log2 < 1000000 then some (.int (i * j)) else none
def fDiv (i j : Int) : Option D := if 0 < j ∧ j < 1073741824 then some (.int (i / j)) else none
def fMod (i j : Int) : Option D := if 0 < j then some (.int (i % j)) else none
def fPow (i j : Int) : Option D := if 0 ≤ j ∧ j ≤ 1000000 ∧ i.natAbs < 2 ^ 64 then some (.int (i ^ j.toNat)) else none
def fLt (i j : Int) : Option D := some (.bl (decide (i < j)))
def fLe (i j : Int) : Option D := some (.bl (decide (i ≤ j)))
def fGt (i j : Int) : Option D := some (.bl (decide (j < i)))
def fGe (i j : Int) : Option D := some (.bl (decide (j ≤ i)))
def cMul : Amb → D → D → Option R := fun st x y => match x with
  | .tup xs => (match y with | .int k => if xs ≠ [] ∧ 2 ≤ k ∧ k ≤ 1000 ∧ xs.length ≤ 1000 then some (.val (.tup (List.replicate k.toNat xs).flatten)) else none | _ => none)
  | _ => cI fMul st x y
section
variable {K : PySem.W.Frag}
theorem con_I {rd : R2} {f : Int → Int → Option D} (h : ∀ (i j : Int) (d : D) (H : Hp) (Q : VK), f i j = some d → (∀ v, (∀ w, Rep K w v d) → Q v H) → rd (.int i) (.int j) H Q) : Con2 K rd (cI f) := by
  intro w sl st σ v u x y res Q ok rx ry e k
  unfold cI at e
  cases hx : x.d <;> rw [hx] at e <;> try (cases e; done)
  rename_i i
  cases hy : y.d <;> rw [hy] at e <;> try (cases e; done)
  rename_i j
  simp only at e
  cases hf : f i j with
  | none => rw [hf] at e; cases e
  | some d =>
    rw [hf] at e
    cases e
    rw [rx.int hx, ry.int hy]
    exact h i j d w.H Q hf fun v hv => Kon.val k ok (hv w)
theorem RepL.rep_n {w : Wd} {vs : List V} {ds : List D} (r : RepL K w vs ds) : ∀ n : Nat, RepL K w (List.replicate n vs).flatten (List.replicate n ds).flatten
  | 0 => .nil
  | n + 1 => by
    rw [List.replicate_succ, List.replicate_succ, List.flatten_cons, List.flatten_cons]
    exact r.append (RepL.rep_n r n)
theorem RepL.ne_nil {w : Wd} {vs : List V} {ds : List D} (r : RepL K w vs ds) (h : ds ≠ []) : vs ≠ [] := fun e => by
  subst e
  have := r.length
  simp at this
  exact h (List.eq_nil_of_length_eq_zero this.symm)
end
section
variable {X : Cx} {a b : Expr} {f g : EvF} {pos : Pos}
theorem ve_add (ha : VE X a f) (hb : VE X b g) : VE X (.BinOp a .Add b pos) (e2 f g cAdd) := by
  refine ve_bin (op_add.or (op_catA.or (op_cat.or op_add_str))) ?_ ha hb
  intro w sl st σ v u x y res Q ok rx ry e k
  unfold cAdd at e
  cases hx : x.d <;> rw [hx] at e <;> try (cases e; done)
  · cases hy : y.d <;> rw [hy] at e <;> try (cases e; done)
    cases e
    exact .inl ⟨_, _, rx.int hx, ry.int hy, Kon.val k ok (.int _)⟩
  · cases hy : y.d <;> rw [hy] at e <;> try (cases e; done)
    rename_i s t
    simp only at e
    split at e
    · rename_i hz
      cases e
      exact .inr (.inr (.inr ⟨_, _, rx.str hx, ry.str hy, by rw [line_eq]; exact hz, Kon.val k ok (.str _)⟩))
    · cases e
  · cases hy : y.d <;> rw [hy] at e <;> try (cases e; done)
    rename_i xs ys
    simp only at e
    split at e
    · rename_i hz
      cases e
      obtain ⟨p, vs, e1, h1, r1⟩ := rx.tup hx
      obtain ⟨q, us, e2, h2, r2⟩ := ry.tup hy
      refine .inr (.inl ⟨p, q, vs, us, e1, e2, h1, h2, by rw [line_eq, r1.length, r2.length]; exact hz, fun z => ?_, fun z1 z2 => ?_, fun _ _ n hn => Kon.tup k ok hn (r1.append r2)⟩)
      · subst z
        cases r1 with
        | nil => exact Kon.val k ok (.tup h2 r2)
      · subst z2
        cases r2 with
        | nil => refine Kon.val k ok (.tup h1 ?_); rw [List.append_nil]; exact r1
    · cases e
  · cases hy : y.d <;> rw [hy] at e <;> try (cases e; done)
    rename_i xs ys
    simp only at e
    split at e
    · rename_i hz
      cases e
      obtain ⟨p, vs, e1, h1, r1⟩ := rx.lst ok hx
      obtain ⟨q, us, e2, h2, r2⟩ := ry.lst ok hy
      exact .inr (.inr (.inl ⟨p, q, vs, us, e1, e2, h1, h2, by rw [line_eq, r1.length, r2.length]; exact hz, fun n hn => Kon.prv k ok hn (r1.append r2)⟩))
    · cases e
theorem ve_sub (ha : VE X a f) (hb : VE X b g) : VE X (.BinOp a .Sub b pos) (e2 f g (cI fSub)) :=
  ve_bin op_sub (con_I fun i j d H Q e k => by cases e; exact ⟨i, j, rfl, rfl, k _ fun w => .int _⟩) ha hb
theorem ve_div (ha : VE X a f) (hb : VE X b g) : VE X (.BinOp a .FloorDiv b pos) (e2 f g (cI fDiv)) :=
  ve_bin op_fdiv (con_I fun i j d H Q e k => by
    unfold fDiv at e
    split at e
    · rename_i h; cases e; exact ⟨i, j, rfl, rfl, h, k _ fun w => .int _⟩
    · cases e) ha hb
theorem ve_mod (ha : VE X a f) (hb : VE X b g) : VE X (.BinOp a .Mod b pos) (e2 f g (cI fMod)) :=
  ve_bin op_mod (con_I fun i j d H Q e k => by
    unfold fMod at e
    split at e
    · rename_i h; cases e; exact ⟨i, j, rfl, rfl, h, k _ fun w => .int _⟩
    · cases e) ha hb
theorem ve_pow (ha : VE X a f) (hb : VE X b g) : VE X (.BinOp a .Pow b pos) (e2 f g (cI fPow)) :=
  ve_bin op_pow (con_I fun i j d H Q e k => by
    unfold fPow at e
    split at e
    · rename_i h; cases e; exact ⟨i, j, rfl, rfl, h, k _ fun w => .int _⟩
    · cases e) ha hb
theorem ve_mul (ha : VE X a f) (hb : VE X b g) : VE X (.BinOp a .Mult b pos) (e2 f g cMul) := by
  refine ve_bin (op_mulW.or op_repT) ?_ ha hb
  intro w sl st σ v u x y res Q ok rx ry e k
  unfold cMul at e
  cases hx : x.d with
  | tup xs =>
    rw [hx] at e
    simp only at e
    cases hy : y.d <;> rw [hy] at e <;> try (cases e; done)
    simp only at e
    split at e
    · rename_i hz
      cases e
      obtain ⟨p, vs, e1, h1, r1⟩ := rx.tup hx
      exact .inr ⟨p, _, vs, e1, ry.int hy, h1, r1.ne_nil hz.1, hz.2.1, hz.2.2.1, by rw [r1.length]; exact hz.2.2.2, fun n hn => Kon.tup k ok hn (r1.rep_n _)⟩
    · cases e
  | _ =>
    rw [hx] at e
    simp only at e
    refine .inl (con_I (K := X.K) (rd := rI CMulW fun i j => .int (i * j)) (f := fMul) (fun i j d H Q e k => ?_) w sl st σ v u x y res Q ok rx ry (by rw [hx]; exact e) k)
    unfold fMul at e
    split at e
    · rename_i h; cases e; exact ⟨i, j, rfl, rfl, h, k _ fun w => .int _⟩
    · cases e
/-! ### comparisons -/
theorem ci_lt : Con2 X.K (rI0 fun i j => .bl (decide (i < j))) (cI fLt) := con_I fun i j d H Q e k => by cases e; exact ⟨i, j, rfl, rfl, k _ fun w => .bl _⟩
theorem ci_le : Con2 X.K (rI0 fun i j => .bl (decide (i ≤ j))) (cI fLe) := con_I fun i j d H Q e k => by cases e; exact ⟨i, j, rfl, rfl, k _ fun w => .bl _⟩
theorem ci_gt : Con2 X.K (rI0 fun i j => .bl (decide (j < i))) (cI fGt) := con_I fun i j d H Q e k => by cases e; exact ⟨i, j, rfl, rfl, k _ fun w => .bl _⟩
theorem ci_ge : Con2 X.K (rI0 fun i j => .bl (decide (j ≤ i))) (cI fGe) := con_I fun i j d H Q e k => by cases e; exact ⟨i, j, rfl, rfl, k _ fun w => .bl _⟩
theorem vt_lt (ha : VE X a f) (hb : VE X b g) : VT X (.Compare a [.Lt] [b] pos) (eT (e2 f g (cI fLt))) := vt_cmp op_lt ci_lt ha hb (nomark _)
theorem vt_le (ha : VE X a f) (hb : VE X b g) : VT X (.Compare a [.LtE] [b] pos) (eT (e2 f g (cI fLe))) := vt_cmp op_le ci_le ha hb (nomark _)
theorem vt_gt (ha : VE X a f) (hb : VE X b g) : VT X (.Compare a [.Gt] [b] pos) (eT (e2 f g (cI fGt))) := vt_cmp op_gt ci_gt ha hb (nomark _)
theorem vt_ge (ha : VE X a f) (hb : VE X b g) : VT X (.Compare a [.GtE] [b] pos) (eT (e2 f g (cI fGe))) := vt_cmp op_ge ci_ge ha hb (nomark _)
theorem ve_lt (ha : VE X a f) (hb : VE X b g) : VE X (.Compare a [.Lt] [b] pos) (e2 f g (cI fLt)) := ve_cmp op_lt ci_lt ha hb (nomark _)
theorem ve_le (ha : VE X a f) (hb : VE X b g) : VE X (.Compare a [.LtE] [b] pos) (e2 f g (cI fLe)) := ve_cmp op_le ci_le ha hb (nomark _)
theorem ve_gt (ha : VE X a f) (hb : VE X b g) : VE X (.Compare a [.Gt] [b] pos) (e2 f g (cI fGt)) := ve_cmp op_gt ci_gt ha hb (nomark _)
theorem ve_ge (ha : VE X a f) (hb : VE X b g) : VE X (.Compare a [.GtE] [b] pos) (e2 f g (cI fGe)) := ve_cmp op_ge ci_ge ha hb (nomark _)
def flat64 (x : D) : Bool := x.dat && decide (x.dep ≤ 63)
theorem flat64_iff {x : D} : flat64 x = true ↔ x.dat = true ∧ x.dep ≤ 63 := by unfold flat64; rw [Bool.and_eq_true, decide_eq_true_eq]
def cEq : Amb → D → D → Option R := fun _ x y => if flat64 x = true ∧ flat64 y = true then some (.val (.bl (D.eqv x y))) else none
def cNe : Amb → D → D → Option R := fun _ x y => if flat64 x = true ∧ flat64 y = true then some (.val (.bl (!D.eqv x y))) else none
theorem con_eq : Con2 X.K (rEqD X.K) cEq := by
  intro w sl st σ v u x y res Q ok rx ry e k
  unfold cEq at e
  split at e
  · rename_i h
    cases e
    obtain ⟨h1, h2⟩ := flat64_iff.mp h.1
    obtain ⟨h3, h4⟩ := flat64_iff.mp h.2
    refine ⟨_, _, rx.dp ok h1, ry.dp ok h3, shaped_py h1 (by omega), shaped_py h3 (by omega), ?_⟩
    rw [← eqv_py _ _ h1 h3]
    exact Kon.val k ok (.bl _)
  · cases e
theorem con_ne : Con2 X.K (rNeD X.K) cNe := by
  intro w sl st σ v u x y res Q ok rx ry e k
  unfold cNe at e
  split at e
  · rename_i h
    cases e
    obtain ⟨h1, h2⟩ := flat64_iff.mp h.1
    obtain ⟨h3, h4⟩ := flat64_iff.mp h.2
    refine ⟨_, _, rx.dp ok h1, ry.dp ok h3, shaped_py h1 (by omega), shaped_py h3 (by omega), ?_⟩
    rw [← eqv_py _ _ h1 h3]
    exact Kon.val k ok (.bl _)
  · cases e
theorem vt_eq (hu : X.A.units + 64 < cLine) (ha : VE X a f) (hb : VE X b g) : VT X (.Compare a [.Eq] [b] pos) (eT (e2 f g cEq)) := vt_cmp (op_eqD hu) con_eq ha hb (nomark _)
theorem vt_ne (hu : X.A.units + 64 < cLine) (ha : VE X a f) (hb : VE X b g) : VT X (.Compare a [.NotEq] [b] pos) (eT (e2 f g cNe)) := vt_cmp (op_neD hu) con_ne ha hb (nomark _)
theorem ve_eq (hu : X.A.units + 64 < cLine) (ha : VE X a f) (hb : VE X b g) : VE X (.Compare a [.Eq] [b] pos) (e2 f g cEq) := ve_cmp (op_eqD hu) con_eq ha hb (nomark _)
theorem ve_ne (hu : X.A.units + 64 < cLine) (ha : VE X a f) (hb : VE X b g) : VE X (.Compare a [.NotEq] [b] pos) (e2 f g cNe) := ve_cmp (op_neD hu) con_ne ha hb (nomark _)
/-! ### in -/
def rInS (K : PySem.W.Frag) (neg : Bool) : R2 := fun x y H Q => ∃ d ds, Dp K H x d ∧ (Dp K H y (.list ds) ∨ Dp K H y (.tuple ds)) ∧ SeqAt.shaped d = true ∧ SeqAt.shaped (.list ds) = true ∧ Q (.bl (if neg then !ds.any fun z => PyData.eqv z d else ds.any fun z => PyData.eqv z d)) H
theorem op_inS (hu : X.A.units + 65 < cLine) : OpR X (compareOp .In) (rInS X.K false) := by
  intro pins s σ H x y v u Q I rx ry h
  obtain ⟨d, ds, hd, he, sd, se, q⟩ := h
  rcases he with he | he
  · exact op_inD hu pins s σ H x y v u Q I rx ry ⟨d, ds, hd, he, sd, se, q⟩
  · obtain ⟨as, r1⟩ := Dp.reads I d x v hd rx
    obtain ⟨bs, r2⟩ := Dp.reads I (.tuple ds) y u he ry
    exact SeqAt.in_tuple_reads r2 r1 (SeqAt.canLay_of_shaped se) (SeqAt.canLay_of_shaped sd) (PyProof.Rows.room_in_shaped sd hu) ⟨.bl _, H, I, rfl, q⟩
theorem op_notInS (hu : X.A.units + 65 < cLine) : OpR X (compareOp .NotIn) (rInS X.K true) := by
  intro pins s σ H x y v u Q I rx ry h
  obtain ⟨d, ds, hd, he, sd, se, q⟩ := h
  rcases he with he | he
  · exact op_notInD hu pins s σ H x y v u Q I rx ry ⟨d, ds, hd, he, sd, se, q⟩
  · obtain ⟨as, r1⟩ := Dp.reads I d x v hd rx
    obtain ⟨bs, r2⟩ := Dp.reads I (.tuple ds) y u he ry
    exact SeqAt.notIn_tuple_reads r2 r1 (SeqAt.canLay_of_shaped se) (SeqAt.canLay_of_shaped sd) (PyProof.Rows.room_in_shaped sd hu) ⟨.bl _, H, I, rfl, q⟩
def inL (x : D) (l : List D) : Bool := l.any fun z => D.eqv z x
def cIn (neg : Bool) : Amb → D → D → Option R := fun _ x y => match y with
  | .tup l => if flat64 x = true ∧ flat64 (.lst l) = true then some (.val (.bl (if neg then !inL x l else inL x l))) else none
  | .lst l => if flat64 x = true ∧ flat64 (.lst l) = true then some (.val (.bl (if neg then !inL x l else inL x l))) else none
  | _ => none
theorem inL_py {x : D} (hx : x.dat = true) : ∀ {l : List D}, D.datL l = true → inL x l = (D.pyL l).any fun z => PyData.eqv z x.py
  | [], _ => rfl
  | d :: l, h => by
    rw [D.datL, Bool.and_eq_true] at h
    unfold inL
    rw [List.any_cons, D.pyL, List.any_cons, eqv_py d x h.1 hx]
    have := inL_py hx (l := l) h.2
    unfold inL at this
    rw [this]
theorem con_in {neg : Bool} : Con2 X.K (rInS X.K neg) (cIn neg) := by
  intro w sl st σ v u x y res Q ok rx ry e k
  have go : ∀ l, (y.d = .tup l ∨ y.d = .lst l) → flat64 x.d = true ∧ flat64 (.lst l) = true → Kon X.K w sl st σ (.val (.bl (if neg then !inL x.d l else inL x.d l))) Q → rInS X.K neg v u w.H Q := fun l hy h k => by
    obtain ⟨h1, h2⟩ := flat64_iff.mp h.1
    obtain ⟨h3, h4⟩ := flat64_iff.mp h.2
    have h3' : D.datL l = true := by simpa [D.dat] using h3
    have sh : SeqAt.shaped (.list (D.pyL l)) = true := shaped_py (d := .lst l) h3 (by omega)
    have q : Q (.bl (if neg then !inL x.d l else inL x.d l)) w.H := Kon.val k ok (.bl _)
    rw [inL_py h1 h3'] at q
    refine ⟨_, D.pyL l, rx.dp ok h1, ?_, shaped_py h1 (by omega), sh, q⟩
    rcases hy with hy | hy
    · have := ry.dp ok (by rw [hy]; exact h3)
      rw [hy] at this
      exact .inr this
    · have := ry.dp ok (by rw [hy]; exact h3)
      rw [hy] at this
      exact .inl this
  unfold cIn at e
  cases hy : y.d <;> rw [hy] at e <;> simp only at e <;> try (cases e; done)
  · split at e
    · rename_i l h
      cases e
      exact go l (.inl hy) h k
    · cases e
  · split at e
    · rename_i l h
      cases e
      exact go l (.inr hy) h k
    · cases e
theorem vt_in (hu : X.A.units + 65 < cLine) (ha : VE X a f) (hb : VE X b g) (hm : behindInMarks .In b = false := by rfl) : VT X (.Compare a [.In] [b] pos) (eT (e2 f g (cIn false))) := vt_cmp (op_inS hu) con_in ha hb hm
theorem vt_notIn (hu : X.A.units + 65 < cLine) (ha : VE X a f) (hb : VE X b g) (hm : behindInMarks .NotIn b = false := by rfl) : VT X (.Compare a [.NotIn] [b] pos) (eT (e2 f g (cIn true))) := vt_cmp (op_notInS hu) con_in ha hb hm
theorem ve_in (hu : X.A.units + 65 < cLine) (ha : VE X a f) (hb : VE X b g) (hm : behindInMarks .In b = false := by rfl) : VE X (.Compare a [.In] [b] pos) (e2 f g (cIn false)) := ve_cmp (op_inS hu) con_in ha hb hm
theorem ve_notIn (hu : X.A.units + 65 < cLine) (ha : VE X a f) (hb : VE X b g) (hm : behindInMarks .NotIn b = false := by rfl) : VE X (.Compare a [.NotIn] [b] pos) (e2 f g (cIn true)) := ve_cmp (op_notInS hu) con_in ha hb hm
/-! ### is -/
theorem op_isC : OpR X (compareOp .Is) (fun x y H Q => (y = .non ∧ Q (.bl (decide (x = .non))) H) ∨ ∃ b, y = .bl b ∧ (∀ p, x ≠ .ref p) ∧ Q (.bl (decide (x = .bl b))) H ∨ ∃ b p, y = .bl b ∧ x = .ref p ∧ Q (.bl false) H) := by
  intro pins s σ H x y v u Q I rx ry h
  rcases h with h | ⟨b, ⟨e, nr, q⟩ | ⟨b, p, e, ex, q⟩⟩
  · exact op_isN pins s σ H x y v u Q I rx ry h
  · subst e
    cases (show u = Value.bool b from ry)
    by_cases e : x = .bl b
    · subst e
      cases (show v = Value.bool b from rx)
      exact wpAny_is_self rfl ⟨.bl true, H, I, rfl, by simpa using q⟩
    · have q' : Q (.bl false) H := by rw [decide_eq_false e] at q; exact q
      have hne : v ≠ Value.bool b := fun z => by
        subst z
        exact e (RelV.inj rx (show RelV (.bl b) (Value.bool b) from rfl))
      refine wpAny_is_other ?_ hne ⟨.bl false, H, I, rfl, q'⟩
      cases x with
      | ref p => exact absurd rfl (nr p)
      | non => cases (show v = Value.none from rx); rfl
      | bl c => cases (show v = Value.bool c from rx); rfl
      | int i => obtain ⟨t, rfl⟩ := rx; rfl
      | str i => obtain ⟨t, rfl⟩ := rx; rfl
      | byt i => obtain ⟨t, rfl⟩ := rx; rfl
      | flt i => obtain ⟨t, rfl⟩ := rx; rfl
      | ty i => cases (show v = Value.type i from rx); rfl
  · subst e ex
    cases (show u = Value.bool b from ry)
    cases (show v = Value.ref p from rx)
    exact wpAny_is_other rfl (fun z => by cases z) ⟨.bl false, H, I, rfl, q⟩
/-- x is None, True, False -/
def cIs : Amb → D → D → Option R := fun _ x y => match y with
  | .non => some (.val (.bl (isN x)))
  | .bl b => some (.val (.bl (match x with | .bl c => c == b | _ => false)))
  | _ => none
theorem rep_isN {K : PySem.W.Frag} {w : Wd} {sl : Sls} {σ : St} {st : Amb} {v : V} {x : R} (h : RdR K w sl σ v x) (ok : Ok K w sl st σ) : decide (v = .non) = isN x.d := by
  cases hx : x.d with
  | lst l =>
    obtain ⟨a, vs, e, _⟩ := h.lst ok hx
    rw [e]
    rfl
  | _ =>
    have q := h.rep hx (fun l z => by cases z)
    cases q <;> rfl
theorem con_is : Con2 X.K (fun x y H Q => (y = .non ∧ Q (.bl (decide (x = .non))) H) ∨ ∃ b, y = .bl b ∧ (∀ p, x ≠ .ref p) ∧ Q (.bl (decide (x = .bl b))) H ∨ ∃ b p, y = .bl b ∧ x = .ref p ∧ Q (.bl false) H) cIs := by
  intro w sl st σ v u x y res Q ok rx ry e k
  unfold cIs at e
  cases hy : y.d <;> rw [hy] at e <;> simp only at e <;> try (cases e; done)
  · cases e
    have q := ry.rep hy (fun l z => by cases z)
    cases q
    refine .inl ⟨rfl, ?_⟩
    rw [rep_isN rx ok]
    exact Kon.val k ok (.bl _)
  · rename_i b
    cases e
    have hb := ry.bl hy
    subst hb
    have kv : Q (.bl (match x.d with | .bl c => c == b | _ => false)) w.H := Kon.val k ok (.bl _)
    cases hx : x.d with
    | lst l =>
      obtain ⟨a, vs, e, _⟩ := rx.lst ok hx
      rw [hx] at kv
      exact .inr ⟨b, .inr ⟨b, a, rfl, e, kv⟩⟩
    | _ =>
      rw [hx] at kv
      have q := rx.rep hx (fun l z => by cases z)
      cases q <;> first
        | exact .inr ⟨b, .inr ⟨b, _, rfl, rfl, kv⟩⟩
        | (refine .inr ⟨b, .inl ⟨rfl, fun p z => (by cases z), ?_⟩⟩
           first
             | exact kv
             | (rename_i c; have e : decide (V.bl c = V.bl b) = (c == b) := dec_bl; rw [e]; exact kv))
theorem vt_is (ha : VE X a f) (hb : VE X b g) : VT X (.Compare a [.Is] [b] pos) (eT (e2 f g cIs)) := vt_cmp op_isC con_is ha hb (nomark _)
theorem ve_is (ha : VE X a f) (hb : VE X b g) : VE X (.Compare a [.Is] [b] pos) (e2 f g cIs) := ve_cmp op_isC con_is ha hb (nomark _)
/-- x is not None -/
def cIsNot : Amb → D → D → Option R := fun _ x y => match y with
  | .non => some (.val (.bl (!isN x)))
  | _ => none
theorem con_isNot : Con2 X.K (fun x y H Q => y = .non ∧ Q (.bl (!decide (x = .non))) H) cIsNot := by
  intro w sl st σ v u x y res Q ok rx ry e k
  unfold cIsNot at e
  cases hy : y.d <;> rw [hy] at e <;> simp only at e <;> try (cases e; done)
  cases e
  have q := ry.rep hy (fun l z => by cases z)
  cases q
  refine ⟨rfl, ?_⟩
  rw [rep_isN rx ok]
  exact Kon.val k ok (.bl _)
theorem vt_isNot (ha : VE X a f) (hb : VE X b g) : VT X (.Compare a [.IsNot] [b] pos) (eT (e2 f g cIsNot)) := vt_cmp op_notN con_isNot ha hb (nomark _)
theorem ve_isNot (ha : VE X a f) (hb : VE X b g) : VE X (.Compare a [.IsNot] [b] pos) (e2 f g cIsNot) := ve_cmp op_notN con_isNot ha hb (nomark _)
theorem ve_neg (ha : VE X a f) : VE X (.UnaryOp .USub a pos) (e1 f fun _ d => match d with | .int i => some (.val (.int (-i))) | _ => none) := by
  refine PEimp (pe_un un_neg ha) fun σ H Q h => ?_
  refine e1_read (rd := fun v H Q => ∃ i, v = .int i ∧ Q (.int (-i)) H) (fun w sl st σ v x res Q ok rd e k => ?_) h
  cases hx : x.d <;> rw [hx] at e <;> cases e
  exact ⟨_, rd.int hx, Kon.val k ok (.int _)⟩
/-! ### subscripts -/
theorem atI_rep {K : PySem.W.Frag} {w : Wd} {vs : List V} {ds : List D} (r : RepL K w vs ds) {i : Int} {d : D} (h : atI ds i = some d) : ∃ v, atI vs i = some v ∧ Rep K w v d := by
  unfold atI at h ⊢
  rw [r.length]
  cases hj : ixN ds.length i with
  | none => rw [hj] at h; cases h
  | some j =>
    rw [hj] at h
    exact r.get h
def cIx : Amb → D → D → Option R := fun st x y => match y with
  | .int i => (seqD st x).bind fun l => (atI l i).map .val
  | _ => none
theorem ve_ix (ha : VE X a f) (hb : VE X b g) (hs : PlainIx b := by exact fun _ _ => rfl) : VE X (.Subscript a b pos) (e2 f g cIx) := by
  refine PEimp (pe_ix (ix_list.or ix_tup) ha hb hs) fun σ H Q h => e2_read (rd := fun x y H Q => rIxL X.K x y H Q ∨ rIxT X.K x y H Q) ?_ h
  intro w sl st σ v u x y res Q ok rx ry e k
  unfold cIx at e
  cases hy : y.d <;> rw [hy] at e <;> simp only at e <;> try (cases e; done)
  rename_i i
  cases hs : seqD st x.d with
  | none => rw [hs] at e; cases e
  | some l =>
    rw [hs] at e
    simp only [Option.bind_some] at e
    cases hi : atI l i with
    | none => rw [hi] at e; cases e
    | some d =>
      rw [hi] at e
      cases e
      obtain ⟨p, vs, e1, r1, h1, _⟩ := rx.seq ok hs
      obtain ⟨z, e2, r2⟩ := atI_rep r1 hi
      have q : Q z w.H := Kon.val k ok r2
      rcases h1 with h1 | h1
      · exact .inl ⟨p, vs, i, z, e1, ry.int hy, h1, e2, q⟩
      · exact .inr ⟨p, vs, i, z, e1, ry.int hy, h1, e2, q⟩
abbrev EvO := Sls → Amb → Option (Option Int × Amb)
def oNone : EvO := fun _ st => some (none, st)
def oSome (f : EvF) : EvO := fun sl st => match f sl st with
  | some (.val (.int i), st') => some (some i, st')
  | _ => none
def tVO (K : PySem.W.Frag) (f : EvO) : TO := fun σ H Q => ∃ al S sl st r st', Ok K ⟨al, S, H⟩ sl st σ ∧ f sl st = some (r, st') ∧
  ∀ w', Ok K w' sl st' σ → Ext ⟨al, S, H⟩ (Foot al sl σ) w' (FootW w' sl σ) → Q r w'.H
abbrev VO (X : Cx) (e : Option Expr) (f : EvO) : Prop := PO X e (tVO X.K f)
theorem POimp {e : Option Expr} {t t' : TO} (h : PO X e t) (i : ∀ σ H Q, t' σ H Q → t σ H Q) : PO X e t' := ⟨fun pins s σ H Q I q => h.run pins s σ H Q I (i σ H Q q)⟩
theorem vo_none : VO X none oNone := POimp po_none fun σ H Q h => by
  obtain ⟨al, S, sl, st, r, st', ok, e, k⟩ := h
  cases e
  exact k ⟨al, S, H⟩ ok Ext.refl
theorem vo_some (ha : VE X a f) : VO X (some a) (oSome f) := POimp (po_some ha) fun σ H Q h => by
  obtain ⟨al, S, sl, st, r, st', ok, e, k⟩ := h
  unfold oSome at e
  cases h1 : f sl st with
  | none => rw [h1] at e; cases e
  | some p =>
    obtain ⟨x, st1⟩ := p
    rw [h1] at e
    cases x with
    | prv l => cases e
    | bor l => cases e
    | val d =>
      cases d <;> cases e
      refine ⟨al, S, sl, st, _, _, ok, h1, fun v w1 ok1 x1 rd1 fr1 => ?_⟩
      cases rd1
      exact ⟨_, rfl, k w1 ok1 x1⟩
def cutD (xs : List D) (lo hi : Option Int) : List D := (xs.drop (HT.sIx xs.length 0 lo)).take (HT.sIx xs.length xs.length hi - HT.sIx xs.length 0 lo)
def cSl : Amb → D → Option Int → Option Int → Option R := fun st x lo hi => match x with
  | .tup l => some (.val (.tup (cutD l lo hi)))
  | x => (seqD st x).map fun l => .prv (cutD l lo hi)
def eSl (f : EvF) (l h : EvO) : EvF := fun sl st => (f sl st).bind fun p => (l sl p.2).bind fun q => (h sl q.2).bind fun r => (cSl r.2 p.1.d q.1 r.1).map fun s => (s, r.2)
theorem cut_rep {K : PySem.W.Frag} {w : Wd} {vs : List V} {ds : List D} (r : RepL K w vs ds) (lo hi : Option Int) : RepL K w (cutV vs lo hi) (cutD ds lo hi) := by
  unfold cutV cutD
  rw [r.length]
  exact (r.drop _).take _
theorem ve_slice {lo hi : Option Expr} {l h : EvO} {p2 : Pos} (ha : VE X a f) (hl : VO X lo l) (hh : VO X hi h) : VE X (.Subscript a (.Slice lo hi none p2) pos) (eSl f l h) := by
  refine PEimp (pe_slice (sl_list.or sl_tupA) ha hl hh) fun σ H Q q => ?_
  obtain ⟨al, S, sl, st, r, st', ok, e, k⟩ := q
  unfold eSl at e
  cases h1 : f sl st with
  | none => rw [h1] at e; cases e
  | some p =>
    obtain ⟨x, st1⟩ := p
    rw [h1] at e
    simp only [Option.bind_some] at e
    cases h2 : l sl st1 with
    | none => rw [h2] at e; cases e
    | some q =>
      obtain ⟨o1, st2⟩ := q
      rw [h2] at e
      simp only [Option.bind_some] at e
      cases h3 : h sl st2 with
      | none => rw [h3] at e; cases e
      | some q =>
        obtain ⟨o2, st3⟩ := q
        rw [h3] at e
        simp only [Option.bind_some] at e
        refine ⟨al, S, sl, st, x, st1, ok, h1, fun v w1 ok1 x1 rd1 fr1 => ⟨w1.al, w1.S, sl, st1, o1, st2, ok1, h2, fun w2 ok2 x2 => ⟨w2.al, w2.S, sl, st2, o2, st3, ok2, h3, fun w3 ok3 x3 => ?_⟩⟩⟩
        have rd3 := (rd1.ext ok1 x2).ext ok2 x3
        have xx := x1.trans (x2.trans x3)
        unfold cSl at e
        split at e
        · rename_i l hd
          cases e
          obtain ⟨p, vs, e1, h4, r4⟩ := rd3.tup hd
          refine .inr ⟨p, vs, e1, h4, fun hw => ?_, fun _ n hn => ?_⟩
          · refine k (.ref p) w3 ok3 xx ?_ trivial
            have ec : cutD l o1 o2 = l := by
              unfold cutD
              rw [r4.length] at hw
              rw [hw.1, hw.2, List.drop_zero, Nat.sub_zero, List.take_length]
            subst e1
            exact Rep.tup h4 (by rw [ec]; exact r4)
          · exact k (.ref n) ⟨w3.al, w3.S, upd w3.H n (.tup (cutV vs o1 o2))⟩ (ok3.new hn) (xx.trans (ext_new hn)) (Rep.tup (SqT.of upd_same) (repL_new hn (cut_rep r4 o1 o2))) trivial
        · rename_i hd
          cases hs : seqD st3 x.d with
          | none => rw [hs] at e; cases e
          | some l =>
            rw [hs] at e
            cases e
            obtain ⟨p, vs, e1, r4, _, h5⟩ := rd3.seq ok3 hs
            rcases h5 with ⟨l', h5⟩ | h5
            · exact absurd h5 (hd l')
            · exact .inl ⟨p, vs, e1, h5, fun n hn => k (.ref n) ⟨w3.al, w3.S, upd w3.H n (.lst (cutV vs o1 o2))⟩ (ok3.new hn) (xx.trans (ext_new hn)) (prv_new ok3 hn (cut_rep r4 o1 o2)) fun a ea => by
                cases ea
                exact xx.dom _ hn⟩
/-- xs[::-1] of a list -/
def cRev : Amb → D → Option R := fun st x => match x with
  | .tup _ => none
  | x => (seqD st x).map fun l => .prv l.reverse
theorem ve_rev {k : Nat} {p1 p2 p3 : Pos} (ha : VE X a f) : VE X (.Subscript a (.Slice none none (some (.UnaryOp .USub (.Constant (.int 1) k p1) p2)) p3) pos) (e1 f cRev) := by
  refine PEimp (pe_revL ha) fun σ H Q q => e1_read (rd := fun x H1 Q => ∃ a xs, x = .ref a ∧ SqL X.K H1 a xs ∧ ∀ p, H1 p = none → Q (.ref p) (upd H1 p (.lst xs.reverse))) ?_ q
  intro w sl st σ v x res Q ok rx e k
  unfold cRev at e
  split at e
  · cases e
  · rename_i hd
    cases hs : seqD st x.d with
    | none => rw [hs] at e; cases e
    | some l =>
      rw [hs] at e
      cases e
      obtain ⟨p, vs, e1, r4, _, h5⟩ := rx.seq ok hs
      rcases h5 with ⟨l', h5⟩ | h5
      · exact absurd h5 (hd l')
      · exact ⟨p, vs, e1, h5, fun n hn => Kon.prv k ok hn r4.reverse⟩
end
end Vx


set_option Elab.async false
set_option linter.all false
set_option maxRecDepth 100000
/-! Vb: built-in functions over trees; isinstance. -/
namespace Vx
open PySem L2

section
variable {X : Cx} {a b : Expr} {f g : EvF} {pos p : Pos} {FA : EvA} {es : List Expr}
theorem RdRs.one {K : PySem.W.Frag} {w : Wd} {sl : Sls} {σ : St} {vs : List V} {rs : List R} {d : D} (h : RdRs K w sl σ vs rs) (e : rs.map R.d = [d]) : ∃ v r, vs = [v] ∧ rs = [r] ∧ r.d = d ∧ RdR K w sl σ v r := by
  cases h with
  | nil => simp at e
  | cons h1 h2 =>
    cases h2 with
    | nil =>
      simp only [List.map_cons, List.map_nil, List.cons.injEq, and_true] at e
      exact ⟨_, _, rfl, rfl, e, h1⟩
    | cons h3 h4 => simp at e
theorem RdRs.two {K : PySem.W.Frag} {w : Wd} {sl : Sls} {σ : St} {vs : List V} {rs : List R} {d d' : D} (h : RdRs K w sl σ vs rs) (e : rs.map R.d = [d, d']) : ∃ v r v' r', vs = [v, v'] ∧ rs = [r, r'] ∧ r.d = d ∧ r'.d = d' ∧ RdR K w sl σ v r ∧ RdR K w sl σ v' r' := by
  cases h with
  | nil => simp at e
  | cons h1 h2 =>
    simp only [List.map_cons, List.cons.injEq] at e
    obtain ⟨v', r', e1, e2, e3, h3⟩ := h2.one e.2
    subst e1 e2
    exact ⟨_, _, v', r', rfl, rfl, e.1, e3, h1, h3⟩
/-! ### len -/
def cLen : Amb → List D → Option R := fun st xs => match xs with
  | [.str z] => if z.length ≤ line then some (.val (.int z.length)) else none
  | [x] => (seqD st x).map fun l => .val (.int l.length)
  | _ => none
theorem con_len : ConA X.K (fun xs H Q => ∃ x n, xs = [x] ∧ LenV X.K x H n ∧ Q (.int n) H) cLen := by
  intro w sl st σ vs rs res Q ok rd e k
  unfold cLen at e
  split at e
  · rename_i z hz
    split at e
    · rename_i hl
      cases e
      obtain ⟨v, r, rfl, rfl, e1, h1⟩ := rd.one hz
      rw [h1.str e1]
      exact ⟨_, z.length, rfl, ⟨by rw [line_eq]; exact hl, rfl⟩, Kon.val k ok (.int _)⟩
    · cases e
  · rename_i x hx hz
    cases hs : seqD st x with
    | none => rw [hs] at e; cases e
    | some l =>
      rw [hs] at e
      cases e
      obtain ⟨v, r, rfl, rfl, e1, h1⟩ := rd.one hz
      subst e1
      obtain ⟨q, vs, e2, r2, h2, _⟩ := h1.seq ok hs
      subst e2
      refine ⟨_, vs.length, rfl, ?_, ?_⟩
      · rcases h2 with h2 | h2
        · exact .inl ⟨vs, h2, rfl⟩
        · exact .inr ⟨vs, h2, rfl⟩
      · rw [r2.length]
        exact Kon.val k ok (.int _)
  · cases e
theorem ve_len (hg : Gl X "len") (hm : X.mg "len" = none) (ha : VA X (a :: es) FA) (he : starEach (a :: es) X.env = (false, eval a X.env) :: starEach es X.env := by rfl) (hpl : (backTo pos (starEach es X.env)).any (·.1) = false := by rfl) : VE X (.Call (.Name "len" p) (a :: es) [] pos) (eA FA cLen) :=
  ve_callB call_len con_len hg hm PySem.boot_len ha (he := he) (hpl := hpl)
/-! ### min, max of two, abs, int -/
def cMin : Amb → List D → Option R := fun _ xs => match xs with
  | [.int i, .int j] => some (.val (.int (if j < i then j else i)))
  | _ => none
def cMax : Amb → List D → Option R := fun _ xs => match xs with
  | [.int i, .int j] => some (.val (.int (if j > i then j else i)))
  | _ => none
theorem con_min : ConA X.K (fun xs H Q => ∃ i j, xs = [.int i, .int j] ∧ Q (.int (if j < i then j else i)) H) cMin := by
  intro w sl st σ vs rs res Q ok rd e k
  unfold cMin at e
  split at e
  · rename_i i j hz
    cases e
    obtain ⟨v, r, v', r', rfl, rfl, e1, e2, h1, h2⟩ := rd.two hz
    rw [h1.int e1, h2.int e2]
    exact ⟨i, j, rfl, Kon.val k ok (.int _)⟩
  · cases e
theorem con_max : ConA X.K (fun xs H Q => ∃ i j, xs = [.int i, .int j] ∧ Q (.int (if j > i then j else i)) H) cMax := by
  intro w sl st σ vs rs res Q ok rd e k
  unfold cMax at e
  split at e
  · rename_i i j hz
    cases e
    obtain ⟨v, r, v', r', rfl, rfl, e1, e2, h1, h2⟩ := rd.two hz
    rw [h1.int e1, h2.int e2]
    exact ⟨i, j, rfl, Kon.val k ok (.int _)⟩
  · cases e
theorem ve_min2 (hc : X.calm = true) (hg : Gl X "min") (hm : X.mg "min" = none) (ha : VA X (a :: es) FA) (he : starEach (a :: es) X.env = (false, eval a X.env) :: starEach es X.env := by rfl) (hpl : (backTo pos (starEach es X.env)).any (·.1) = false := by rfl) : VE X (.Call (.Name "min" p) (a :: es) [] pos) (eA FA cMin) :=
  ve_callB (call_min2 hc) con_min hg hm (by decide +kernel) ha (he := he) (hpl := hpl)
theorem ve_max2 (hc : X.calm = true) (hg : Gl X "max") (hm : X.mg "max" = none) (ha : VA X (a :: es) FA) (he : starEach (a :: es) X.env = (false, eval a X.env) :: starEach es X.env := by rfl) (hpl : (backTo pos (starEach es X.env)).any (·.1) = false := by rfl) : VE X (.Call (.Name "max" p) (a :: es) [] pos) (eA FA cMax) :=
  ve_callB (call_max2 hc) con_max hg hm (by decide +kernel) ha (he := he) (hpl := hpl)
def cInt : Amb → List D → Option R := fun _ xs => match xs with
  | [.int i] => some (.val (.int i))
  | [.bl b] => some (.val (.int (if b then 1 else 0)))
  | _ => none
theorem con_int : ConA X.K (fun xs H Q => (∃ i, xs = [.int i] ∧ Q (.int i) H) ∨ ∃ k, xs = [.bl k] ∧ Q (.int (if k then 1 else 0)) H) cInt := by
  intro w sl st σ vs rs res Q ok rd e k
  unfold cInt at e
  split at e
  · rename_i i hz
    cases e
    obtain ⟨v, r, rfl, rfl, e1, h1⟩ := rd.one hz
    rw [h1.int e1]
    exact .inl ⟨i, rfl, Kon.val k ok (.int _)⟩
  · rename_i i hz
    cases e
    obtain ⟨v, r, rfl, rfl, e1, h1⟩ := rd.one hz
    rw [h1.bl e1]
    exact .inr ⟨i, rfl, Kon.val k ok (.int _)⟩
  · cases e
theorem ve_int1 (hg : Gl X "int") (hm : X.mg "int" = none) (ha : VA X (a :: es) FA) (he : starEach (a :: es) X.env = (false, eval a X.env) :: starEach es X.env := by rfl) (hpl : (backTo pos (starEach es X.env)).any (·.1) = false := by rfl) : VE X (.Call (.Name "int" p) (a :: es) [] pos) (eA FA cInt) :=
  ve_callTy call_int1 con_int hg hm (by decide +kernel) ha (he := he) (hpl := hpl)
def cAbs : Amb → List D → Option R := fun _ xs => match xs with
  | [.int i] => some (.val (.int (if i < 0 then -i else i)))
  | _ => none
theorem con_abs : ConA X.K (fun xs H Q => ∃ i, xs = [.int i] ∧ Q (.int (if i < 0 then -i else i)) H) cAbs := by
  intro w sl st σ vs rs res Q ok rd e k
  unfold cAbs at e
  split at e
  · rename_i i hz
    cases e
    obtain ⟨v, r, rfl, rfl, e1, h1⟩ := rd.one hz
    rw [h1.int e1]
    exact ⟨i, rfl, Kon.val k ok (.int _)⟩
  · cases e
theorem ve_abs (hg : Gl X "abs") (hm : X.mg "abs" = none) (ha : VA X (a :: es) FA) (he : starEach (a :: es) X.env = (false, eval a X.env) :: starEach es X.env := by rfl) (hpl : (backTo pos (starEach es X.env)).any (·.1) = false := by rfl) : VE X (.Call (.Name "abs" p) (a :: es) [] pos) (eA FA cAbs) :=
  ve_callB call_abs con_abs hg hm (by decide +kernel) ha (he := he) (hpl := hpl)
/-! ### tuple, list, sorted -/
def cTuple : Amb → List D → Option R := fun st xs => match xs with
  | [x] => (seqD st x).map fun l => .val (.tup l)
  | _ => none
theorem con_tuple : ConA X.K (fun xs H Q => ∃ p ys, xs = [.ref p] ∧ ((SqL X.K H p ys ∧ ∀ l, H l = none → Q (.ref l) (upd H l (.tup ys))) ∨ (SqT X.K H p ys ∧ Q (.ref p) H))) cTuple := by
  intro w sl st σ vs rs res Q ok rd e k
  unfold cTuple at e
  split at e
  · rename_i x hz
    cases hs : seqD st x with
    | none => rw [hs] at e; cases e
    | some l =>
      rw [hs] at e
      cases e
      obtain ⟨v, r, rfl, rfl, e1, h1⟩ := rd.one hz
      subst e1
      obtain ⟨q, vs, e2, r2, h2, h3⟩ := h1.seq ok hs
      subst e2
      refine ⟨q, vs, rfl, ?_⟩
      rcases h2 with h2 | h2
      · exact .inl ⟨h2, fun n hn => Kon.tup k ok hn r2⟩
      · exact .inr ⟨h2, Kon.val k ok (.tup h2 r2)⟩
  · cases e
theorem ve_tuple (hg : Gl X "tuple") (hm : X.mg "tuple" = none) (ha : VA X (a :: es) FA) (he : starEach (a :: es) X.env = (false, eval a X.env) :: starEach es X.env := by rfl) (hpl : (backTo pos (starEach es X.env)).any (·.1) = false := by rfl) : VE X (.Call (.Name "tuple" p) (a :: es) [] pos) (eA FA cTuple) :=
  ve_callTy call_tuple_of con_tuple hg hm (by decide +kernel) ha (he := he) (hpl := hpl)
def cList : Amb → List D → Option R := fun st xs => match xs with
  | [x] => (seqD st x).map fun l => .prv l
  | _ => none
theorem con_list : ConA X.K (fun xs H Q => ∃ p ys, xs = [.ref p] ∧ (SqL X.K H p ys ∨ SqT X.K H p ys) ∧ ∀ l, H l = none → Q (.ref l) (upd H l (.lst ys))) cList := by
  intro w sl st σ vs rs res Q ok rd e k
  unfold cList at e
  split at e
  · rename_i x hz
    cases hs : seqD st x with
    | none => rw [hs] at e; cases e
    | some l =>
      rw [hs] at e
      cases e
      obtain ⟨v, r, rfl, rfl, e1, h1⟩ := rd.one hz
      subst e1
      obtain ⟨q, vs, e2, r2, h2, h3⟩ := h1.seq ok hs
      subst e2
      exact ⟨q, vs, rfl, h2, fun n hn => Kon.prv k ok hn r2⟩
  · cases e
theorem ve_list (hg : Gl X "list") (hm : X.mg "list" = none) (ha : VA X (a :: es) FA) (he : starEach (a :: es) X.env = (false, eval a X.env) :: starEach es X.env := by rfl) (hpl : (backTo pos (starEach es X.env)).any (·.1) = false := by rfl) : VE X (.Call (.Name "list" p) (a :: es) [] pos) (eA FA cList) :=
  ve_callTy call_list_of con_list hg hm (by decide +kernel) ha (he := he) (hpl := hpl)
def cSort : Amb → List D → Option R := fun _ xs => match xs with
  | [.lst l] => if srt l = true then some (.prv (isort D.le l)) else none
  | [.tup l] => if srt l = true then some (.prv (isort D.le l)) else none
  | _ => none
theorem zip_fst {K : PySem.W.Frag} {w : Wd} : ∀ {ds : List D} {vs : List V}, RepL K w vs ds → (ds.zip vs).map (·.1) = ds ∧ (ds.zip vs).map (·.2) = vs ∧ ∀ q ∈ ds.zip vs, Rep K w q.2 q.1
  | [], _, h => by cases h; exact ⟨rfl, rfl, fun q hq => by simp at hq⟩
  | d :: ds, _, h => by
    cases h with
    | cons h1 h2 =>
      obtain ⟨e1, e2, e3⟩ := zip_fst h2
      refine ⟨by simp [e1], by simp [e2], fun q hq => ?_⟩
      rw [List.zip_cons_cons] at hq
      rcases List.mem_cons.mp hq with rfl | hq
      · exact h1
      · exact e3 q hq
theorem repL_of {K : PySem.W.Frag} {w : Wd} : ∀ {ps : List (D × V)}, (∀ q ∈ ps, Rep K w q.2 q.1) → RepL K w (ps.map (·.2)) (ps.map (·.1))
  | [], _ => .nil
  | q :: ps, h => .cons (h q List.mem_cons_self) (repL_of fun z hz => h z (List.mem_cons_of_mem _ hz))
theorem con_sort : ConA X.K (rSortD X.K) cSort := by
  intro w sl st σ vs rs res Q ok rd e k
  have go : ∀ (a : Addr) (us : List V) (l : List D), RepL X.K w us l → (SqL X.K w.H a us ∨ SqT X.K w.H a us) → srt l = true → Kon X.K w sl st σ (.prv (isort D.le l)) Q → rSortD X.K [.ref a] w.H Q := fun a us l r hs hl k => by
    obtain ⟨z1, z2, z3⟩ := zip_fst r
    refine ⟨a, l.zip us, rfl, by rw [z2]; exact hs, fun q hq => ?_, by rw [z1]; exact hl, fun n hn => ?_⟩
    · have hm : q.1 ∈ l := by rw [← z1]; exact List.mem_map.mpr ⟨q, hq, rfl⟩
      exact Rep.dp (z3 q hq) (datL_mem (srt_srtb hl).2.2.1 _ hm)
    · refine Kon.prv k ok hn ?_
      have e : isort D.le l = (isort (fun a b : D × V => D.le a.1 b.1) (l.zip us)).map (·.1) := by
        rw [isort_map (le' := D.le) (fun q : D × V => q.1) (fun a b => rfl), z1]
      rw [e]
      exact repL_of fun q hq => z3 q (isort_mem.mp hq)
  unfold cSort at e
  split at e
  · rename_i l hz
    split at e
    · rename_i hl
      cases e
      obtain ⟨v, r, rfl, rfl, e1, h1⟩ := rd.one hz
      obtain ⟨q, us, e2, h2, r2⟩ := h1.lst ok e1
      subst e2
      exact go q us l r2 (.inl (SqL.of h2)) hl k
    · cases e
  · rename_i l hz
    split at e
    · rename_i hl
      cases e
      obtain ⟨v, r, rfl, rfl, e1, h1⟩ := rd.one hz
      obtain ⟨q, us, e2, h2, r2⟩ := h1.tup e1
      subst e2
      exact go q us l r2 (.inr h2) hl k
    · cases e
  · cases e
theorem ve_sorted (hu : X.A.units + 64 < cLine) (hg : Gl X "sorted") (hm : X.mg "sorted" = none) (ha : VA X (a :: es) FA) (he : starEach (a :: es) X.env = (false, eval a X.env) :: starEach es X.env := by rfl) (hpl : (backTo pos (starEach es X.env)).any (·.1) = false := by rfl) : VE X (.Call (.Name "sorted" p) (a :: es) [] pos) (eA FA cSort) :=
  ve_callB (cr_sortD hu) con_sort hg hm (by decide +kernel) ha (he := he) (hpl := hpl)
/-! ### list(range(..)), tuple(range(..)) -/
def rg (lo hi : Int) : List D := (List.range (hi - lo).toNat).map fun i => .int (lo + (i : Nat))
theorem rg_rep {K : PySem.W.Frag} {w : Wd} (lo hi : Int) : RepL K w (rgV lo hi) (rg lo hi) := by
  unfold rgV rg
  generalize List.range (hi - lo).toNat = l
  induction l with
  | nil => exact .nil
  | cons i l ih => exact .cons (.int _) ih
def rgOk (lo hi : Int) : Bool := decide (-4611686018427387904 ≤ lo ∧ lo < 4611686018427387904 ∧ -4611686018427387904 ≤ hi ∧ hi < 4611686018427387904 ∧ (hi - lo).toNat ≤ 16777216)
theorem rgOk_iff {lo hi : Int} (h : rgOk lo hi = true) : RgOk lo hi := by
  have q := of_decide_eq_true h
  exact ⟨by omega, by omega, by omega, by omega, by omega⟩
def cRg1 (mk : List D → R) : Amb → D → Option R := fun _ x => match x with
  | .int n => if rgOk 0 n = true then some (mk (rg 0 n)) else none
  | _ => none
def cRg2 (mk : List D → R) : Amb → D → D → Option R := fun _ x y => match x with
  | .int i => (match y with | .int j => if rgOk i j = true then some (mk (rg i j)) else none | _ => none)
  | _ => none
def mTup (l : List D) : R := .val (.tup l)
theorem con_rg1 {K : PySem.W.Frag} : Con1 K (fun x H Q => ∃ n, x = .int n ∧ RgOk 0 n ∧ ∀ q, H q = none → Q (.ref q) (upd H q (.lst (rgV 0 n)))) (cRg1 .prv) ∧
    Con1 K (fun x H Q => ∃ n, x = .int n ∧ RgOk 0 n ∧ ∀ q, H q = none → Q (.ref q) (upd H q (.tup (rgV 0 n)))) (cRg1 mTup) := by
  constructor <;>
  · intro w sl st σ v x res Q ok rx e k
    unfold cRg1 at e
    cases hx : x.d <;> rw [hx] at e <;> simp only at e <;> try (cases e; done)
    split at e
    · rename_i h
      cases e
      first
        | exact ⟨_, rx.int hx, rgOk_iff h, fun n hn => Kon.prv k ok hn (rg_rep _ _)⟩
        | exact ⟨_, rx.int hx, rgOk_iff h, fun n hn => Kon.tup k ok hn (rg_rep _ _)⟩
    · cases e
theorem con_rg2 {K : PySem.W.Frag} : Con2 K (fun x y H Q => ∃ i j, x = .int i ∧ y = .int j ∧ RgOk i j ∧ ∀ q, H q = none → Q (.ref q) (upd H q (.lst (rgV i j)))) (cRg2 .prv) ∧
    Con2 K (fun x y H Q => ∃ i j, x = .int i ∧ y = .int j ∧ RgOk i j ∧ ∀ q, H q = none → Q (.ref q) (upd H q (.tup (rgV i j)))) (cRg2 mTup) := by
  constructor <;>
  · intro w sl st σ v u x y res Q ok rx ry e k
    unfold cRg2 at e
    cases hx : x.d <;> rw [hx] at e <;> simp only at e <;> try (cases e; done)
    cases hy : y.d <;> rw [hy] at e <;> simp only at e <;> try (cases e; done)
    split at e
    · rename_i h
      cases e
      first
        | exact ⟨_, _, rx.int hx, ry.int hy, rgOk_iff h, fun n hn => Kon.prv k ok hn (rg_rep _ _)⟩
        | exact ⟨_, _, rx.int hx, ry.int hy, rgOk_iff h, fun n hn => Kon.tup k ok hn (rg_rep _ _)⟩
    · cases e
variable {p2 pos2 : Pos}
theorem ve_listRg1 (hc : X.calm = true) (hg : Gl X "list") (hm : X.mg "list" = none) (hg2 : Gl X "range") (hm2 : X.mg "range" = none) (ha : VE X a f) (na : starEach [a] X.env = (false, eval a X.env) :: starEach [] X.env := by rfl)
    (na2 : starEach [Expr.Call (.Name "range" p2) [a] [] pos2] X.env = (false, eval (Expr.Call (.Name "range" p2) [a] [] pos2) X.env) :: starEach [] X.env := by rfl) : VE X (.Call (.Name "list" p) [.Call (.Name "range" p2) [a] [] pos2] [] pos) (e1 f (cRg1 .prv)) :=
  PEimp (pe_listRg hc hg hm (prg_1 hg2 hm2 ha na) na2) fun σ H Q h => e1_read con_rg1.1 h
theorem ve_tupRg1 (hc : X.calm = true) (hg : Gl X "tuple") (hm : X.mg "tuple" = none) (hg2 : Gl X "range") (hm2 : X.mg "range" = none) (ha : VE X a f) (na : starEach [a] X.env = (false, eval a X.env) :: starEach [] X.env := by rfl)
    (na2 : starEach [Expr.Call (.Name "range" p2) [a] [] pos2] X.env = (false, eval (Expr.Call (.Name "range" p2) [a] [] pos2) X.env) :: starEach [] X.env := by rfl) : VE X (.Call (.Name "tuple" p) [.Call (.Name "range" p2) [a] [] pos2] [] pos) (e1 f (cRg1 mTup)) :=
  PEimp (pe_tupRg hc hg hm (prg_1 hg2 hm2 ha na) na2) fun σ H Q h => e1_read con_rg1.2 h
/-! ### isinstance -/
def tyD : D → String
  | .non => "NoneType"
  | .bl _ => "bool"
  | .int _ => "int"
  | .str _ => "str"
  | .tup _ => "tuple"
  | .lst _ => "list"
  | .frz _ => "list"
  | .tpc _ => "tuple"
  | .loc _ => "list"
  | _ => "NoneType"
def okT : D → Bool
  | .ins _ _ _ => false
  | .mrk _ => false
  | .fn _ => false
  | _ => true
theorem rd_ty {K : PySem.W.Frag} {w : Wd} {sl : Sls} {σ : St} {st : Amb} {v : V} {x : R} (h : RdR K w sl σ v x) (ok : Ok K w sl st σ) (hz : okT x.d = true) : TyX K w.H v (.type (tyD x.d)) := by
  cases hx : x.d with
  | ins c ns l => rw [hx] at hz; cases hz
  | mrk n => rw [hx] at hz; cases hz
  | fn n => rw [hx] at hz; cases hz
  | lst l =>
    obtain ⟨a, vs, e, h1, _⟩ := h.lst ok hx
    rw [e]
    exact .base (.lst h1)
  | tup l =>
    obtain ⟨a, vs, e, h1, _⟩ := h.tup hx
    rw [e]
    rcases h1 with (h1 | ⟨o, h1⟩) | ⟨o, its, n, h1, h2, _⟩
    · exact .base (.tup h1)
    · exact .fTuple h1
    · exact .kTuple h1 h2
  | loc n =>
    have q := h.rep hx (fun l z => by cases z)
    cases q with
    | loc h1 =>
      obtain ⟨_, vs, es, e1, _⟩ := ok.amb.at_ n _ h1
      exact .base (.lst e1)
  | frz l =>
    have q := h.rep hx (fun l z => by cases z)
    cases q with
    | frz h1 h2 => exact .base (.frz h1)
    | frk a b c d e f g => exact .kList a b
  | tpc l =>
    have q := h.rep hx (fun l z => by cases z)
    cases q with
    | tpc h1 h2 h3 => exact .fTuple h1
  | non =>
    have q := h.rep hx (fun l z => by cases z)
    cases q
    exact .base .non
  | bl b =>
    have q := h.rep hx (fun l z => by cases z)
    cases q
    exact .base (.bl b)
  | int i =>
    have q := h.rep hx (fun l z => by cases z)
    cases q
    exact .base (.int i)
  | str s =>
    have q := h.rep hx (fun l z => by cases z)
    cases q
    exact .base (.str s)
/-- the classes that are asked for -/
inductive Ty | int | bool | str | tuple | list | dict
  deriving DecidableEq
def Ty.nm : Ty → String
  | .int => "int" | .bool => "bool" | .str => "str" | .tuple => "tuple" | .list => "list" | .dict => "dict"
def isT (d : D) : Ty → Bool
  | .int => match d with | .int _ => true | .bl _ => true | _ => false
  | .bool => match d with | .bl _ => true | _ => false
  | .str => match d with | .str _ => true | _ => false
  | .tuple => match d with | .tup _ => true | .tpc _ => true | _ => false
  | .list => match d with | .lst _ => true | .frz _ => true | .loc _ => true | _ => false
  | .dict => false
theorem kit_all {K : PySem.W.Frag} (d : D) (t : Ty) : PySem.W.kitOne K (.type (tyD d)) (.type t.nm) = some (isT d t) := by
  cases d <;> cases t <;> exact kit_ty (by dsimp only [tyD, isT, Ty.nm]; decide +kernel)
theorem kit_any {K : PySem.W.Frag} (d : D) : ∀ ts : List Ty, PySem.W.kitAny K (.type (tyD d)) (ts.map fun t => Value.type t.nm) = some (ts.any (isT d))
  | [] => kitAny_nil
  | t :: ts => by
    refine kitAny_cons (kit_all d t) (fun e => ?_) (fun e => ?_)
    · rw [List.any_cons, e, Bool.false_or]
      exact kit_any d ts
    · rw [List.any_cons, e, Bool.true_or]
def cIsi (t : Ty) : Amb → D → Option R := fun _ x => if okT x = true then some (.val (.bl (isT x t))) else none
def cIsis (ts : List Ty) : Amb → D → Option R := fun _ x => if okT x = true then some (.val (.bl (ts.any (isT x)))) else none
theorem ve_isi (t : Ty) {pt : Pos} {nm : Str} (hg : Gl X "isinstance") (hm : X.mg "isinstance" = none) (hgT : Gl X nm) (hmT : X.mg nm = none) (hvT : bootBuiltins nm = some (.type t.nm)) (ha : VE X a f) (hn : nm ≠ "__name__" := by decide) (hdb : (nm == ("__debug__" : Str)) = false := by decide)
    (he : starEach [a, Expr.Name nm pt] X.env = (false, eval a X.env) :: starEach [Expr.Name nm pt] X.env := by rfl) (he2 : starEach [Expr.Name nm pt] X.env = (false, eval (Expr.Name nm pt) X.env) :: starEach [] X.env := by rfl) (hpl : (backTo pos (starEach [Expr.Name nm pt] X.env)).any (·.1) = false := by rfl) :
    VE X (.Call (.Name "isinstance" p) [a, .Name nm pt] [] pos) (e1 f (cIsi t)) := by
  refine PEimp (pe_callB call_isi hg hm (by decide +kernel) (pa_cons ha (pa_cons (pe_bltn (v := .ty t.nm) hgT hmT hvT rfl hn hdb) pa_nil he2) he) (he := he) (hpl := hpl)) fun σ H Q h => ?_
  refine e1_read (rd := fun x H1 Q => rIsi X.K [x, .ty t.nm] H1 Q) (fun w sl st σ v x res Q ok rx e k => ?_) h
  unfold cIsi at e
  split at e
  case isFalse => cases e
  rename_i hz
  cases e
  exact ⟨v, .ty t.nm, _, _, _, rfl, .ty _, rd_ty rx ok hz, kit_all x.d t, Kon.val k ok (.bl _)⟩
/-- names of classes -/
inductive TyNames (X : Cx) : List Expr → List Ty → Prop
  | nil : TyNames X [] []
  | cons {t : Ty} {nm : Str} {pt : Pos} {es : List Expr} {ts : List Ty} (hg : Gl X nm) (hm : X.mg nm = none) (hv : bootBuiltins nm = some (.type t.nm)) (hn : nm ≠ "__name__") (hdb : (nm == ("__debug__" : Str)) = false)
    (he : starEach (Expr.Name nm pt :: es) X.env = (false, eval (Expr.Name nm pt) X.env) :: starEach es X.env) (r : TyNames X es ts) : TyNames X (.Name nm pt :: es) (t :: ts)
theorem tyNames_pa : ∀ {es : List Expr} {ts : List Ty}, TyNames X es ts → PA X es (fun _ H Q => Q (ts.map fun t => V.ty t.nm) H)
  | _, _, .nil => pa_nil
  | _, _, .cons hg hm hv hn hdb he r => PAimp (pa_cons (pe_bltn (v := .ty _) hg hm hv rfl hn hdb) (tyNames_pa r) he) fun σ H Q h => h
theorem ve_isiT {ts : List Ty} {es : List Expr} {k2 : Nat} {pt : Pos} (hg : Gl X "isinstance") (hm : X.mg "isinstance" = none) (ht : TyNames X es ts) (hz : ts.length ≤ line) (ha : VE X a f)
    (he : starEach [a, Expr.Tuple es k2 pt] X.env = (false, eval a X.env) :: starEach [Expr.Tuple es k2 pt] X.env := by rfl) (he2 : starEach [Expr.Tuple es k2 pt] X.env = (false, eval (Expr.Tuple es k2 pt) X.env) :: starEach [] X.env := by rfl) (hpl : (backTo pos (starEach [Expr.Tuple es k2 pt] X.env)).any (·.1) = false := by rfl) :
    VE X (.Call (.Name "isinstance" p) [a, .Tuple es k2 pt] [] pos) (e1 f (cIsis ts)) := by
  refine PEimp (pe_callB call_isiT hg hm (by decide +kernel) (pa_cons ha (pa_cons (pe_tup (tyNames_pa ht)) pa_nil he2) he) (he := he) (hpl := hpl)) fun σ H Q h => ?_
  refine e1_read (rd := fun x H1 Q => (ts.map fun t => V.ty t.nm).length ≤ sizeLine ∧ ∀ p, H1 p = none → rIsiT X.K [x, .ref p] (upd H1 p (.tup (ts.map fun t => V.ty t.nm))) Q) (fun w sl st σ v x res Q ok rx e k => ?_) h
  unfold cIsis at e
  split at e
  case isFalse => cases e
  rename_i hzz
  cases e
  refine ⟨by rw [List.length_map, line_eq]; exact hz, fun n hn => ⟨v, n, _, _, ts.map fun t => Value.type t.nm, _, rfl, upd_same, ?_, rd_ty (rx.ext ok (ext_new hn)) (ok.new hn) hzz, kit_any x.d ts, ?_⟩⟩
  · clear hz k ht h
    induction ts with
    | nil => exact .nil
    | cons t ts ih => exact .cons (.ty _) ih
  · exact k _ ⟨w.al, w.S, upd w.H n _⟩ (ok.new hn) (ext_new hn) (Rep.bl _) trivial
end
end Vx


set_option Elab.async false
set_option linter.all false
set_option maxRecDepth 100000
/-! Vc: writes, shared lists, targets, statements, loops over trees. -/
namespace Vx
open PySem L2

/-! ### writes -/
structure Wr (w : Wd) (P : Addr → Prop) (H' : Hp) : Prop where
  keep : ∀ a o, w.H a = some o → ¬ P a → H' a = some o
  lst : ∀ a, P a → ¬ w.S a ∧ ∃ vs, w.H a = some (.lst vs)
  dom : ∀ a, H' a = none → w.H a = none
abbrev Wd.to (w : Wd) (H' : Hp) : Wd := ⟨w.al, w.S, H'⟩
section
variable {K : PySem.W.Frag} {w w' : Wd} {sl sl' : Sls} {st st' : Amb} {σ σ' : St} {v : V} {r : R} {P : Addr → Prop} {H' : Hp}
theorem Wr.repG (x : Wr w P H') :
    (∀ a xs, SqT K w.H a xs → SqT K H' a xs) ∧ (∀ a xs, w.S a → w.H a = some (.lst xs) → w.S a ∧ H' a = some (.lst xs)) ∧ (∀ a o xs, w.H a = some (.frz o xs) → H' a = some (.frz o xs)) ∧ (∀ a C dx fs, w.H a = some (.ins C dx fs) → H' a = some (.ins C dx fs)) := by
  refine ⟨fun a xs h => ?_, fun a xs s h => ⟨s, x.keep a _ h fun f => (x.lst a f).1 s⟩, fun a o xs h => x.keep a _ h fun f => ?_, fun a C dx fs h => x.keep a _ h fun f => ?_⟩
  · rcases h with (h | ⟨o, h⟩) | h
    · refine .inl (.inl (x.keep a _ h fun f => ?_))
      obtain ⟨vs, e⟩ := (x.lst a f).2
      rw [h] at e; cases e
    · refine .inl (.inr ⟨o, x.keep a _ h fun f => ?_⟩)
      obtain ⟨vs, e⟩ := (x.lst a f).2
      rw [h] at e; cases e
    · exact .inr h
  · obtain ⟨vs, e⟩ := (x.lst a f).2
    rw [h] at e; cases e
  · obtain ⟨vs, e⟩ := (x.lst a f).2
    rw [h] at e; cases e
theorem Wr.rep (x : Wr w P H') {d : D} (h : Rep K w v d) : Rep K (w.to H') v d := by
  obtain ⟨a, b, c, i⟩ := x.repG (K := K)
  exact Rep.imp (w := w) (w' := w.to H') i a b c (fun _ _ h => h) d v h
theorem Wr.repL (x : Wr w P H') {ds : List D} {vs : List V} (h : RepL K w vs ds) : RepL K (w.to H') vs ds := by
  obtain ⟨a, b, c, i⟩ := x.repG (K := K)
  exact RepL.imp (w := w) (w' := w.to H') i a b c (fun _ _ h => h) ds vs h
theorem Ok.wr (ok : Ok K w sl st σ) (x : Wr w P H') (hst : ∀ (n : Nat) (a : Addr), w.al[n]? = some a → (¬ P a ∧ st'[n]? = st[n]?) ∨ ∃ vs ds, H' a = some (.lst vs) ∧ st'[n]? = some ds ∧ RepL K (w.to H') vs ds) (hsl : st'.length = st.length)
    (hpub : ∀ (j : Nat) (d : D), sl'[j]? = some (.pub d) → sl[j]? = some (.pub d)) (hown : ∀ (j : Nat) (ds : List D), sl'[j]? = some (.own ds) → ∃ es, sl[j]? = some (.own es) ∧ ∀ a, σ[j]? = some (some (.ref a)) → (¬ P a ∧ es = ds) ∨ ∃ vs, H' a = some (.lst vs) ∧ RepL K (w.to H') vs ds)
    (hlen : sl'.length = sl.length) (hs : ∀ a, w.S a → ∃ vs, H' a = some (.lst vs)) : Ok K (w.to H') sl' st' σ where
  amb := by
    refine ⟨by rw [hsl]; exact ok.amb.len, fun n a h => ?_, ok.amb.nod, hs⟩
    obtain ⟨s, vs, ds, e1, e2, e3⟩ := ok.amb.at_ n a h
    rcases hst n a h with ⟨np, e⟩ | h'
    · exact ⟨s, vs, ds, x.keep _ _ e1 np, by rw [e]; exact e2, x.repL e3⟩
    · exact ⟨s, h'⟩
  len := by rw [hlen]; exact ok.len
  pub := fun i d h => by
    obtain ⟨v, e, r⟩ := ok.pub i d (hpub i d h)
    exact ⟨v, e, x.rep r⟩
  own := fun i ds h => by
    obtain ⟨es, e0, k⟩ := hown i ds h
    obtain ⟨a, vs, e1, e2, e3, s, m⟩ := ok.own i es e0
    rcases k a e1 with ⟨np, rfl⟩ | ⟨us, e4, e5⟩
    · exact ⟨a, vs, e1, x.keep _ _ e2 np, x.repL e3, s, m⟩
    · exact ⟨a, us, e1, e4, e5, s, m⟩
  dis := fun i j ds es a h1 h2 h3 h4 => by
    obtain ⟨ds', e1, _⟩ := hown i ds h1
    obtain ⟨es', e2, _⟩ := hown j es h2
    exact ok.dis i j ds' es' a e1 e2 h3 h4
theorem Wr.s_keep (ok : Ok K w sl st σ) (x : Wr w P H') : ∀ a, w.S a → ∃ vs, H' a = some (.lst vs) := fun a s => by
  obtain ⟨vs, e⟩ := ok.amb.sd a s
  exact ⟨vs, x.keep _ _ e fun p => (x.lst a p).1 s⟩
/-- the heap grows -/
theorem Ok.grow (ok : Ok K w sl st σ) (k : ∀ a o, w.H a = some o → H' a = some o) (d : ∀ a, H' a = none → w.H a = none) : Ok K (w.to H') sl st σ :=
  have x : Wr w (fun _ => False) H' := ⟨fun a o h _ => k a o h, fun _ h => h.elim, d⟩
  ok.wr x (fun n a h => .inl ⟨fun z => z, rfl⟩) rfl (fun _ _ h => h) (fun j ds h => ⟨ds, h, fun a _ => .inl ⟨fun z => z, rfl⟩⟩) rfl (x.s_keep ok)
theorem Ext.grow (k : ∀ a o, w.H a = some o → H' a = some o) (d : ∀ a, H' a = none → w.H a = none) : Ext w (FootW w sl σ) (w.to H') (FootW (w.to H') sl σ) :=
  ⟨fun a o h _ => k a o h, fun _ h => h, fun _ h => .inl h, ⟨[], by simp⟩, d, fun _ h => .inl h⟩
theorem upd_dom {H : Hp} {a : Addr} {o u : HO} (h : H a = some u) : ∀ b, upd H a o b = none → H b = none := fun b hb => by
  by_cases e : b = a
  · subst e; rw [upd_same] at hb; cases hb
  · rw [upd_ne e] at hb; exact hb
theorem wr_at {a : Addr} {vs us : List V} (ha : w.H a = some (.lst vs)) (hs : ¬ w.S a) : Wr w (· = a) (upd w.H a (.lst us)) :=
  ⟨fun b o h n => by rw [upd_ne n]; exact h, fun b e => by subst e; exact ⟨hs, vs, ha⟩, upd_dom ha⟩
/-- a private list is written -/
theorem Ok.prvW {a : Addr} {vs us : List V} (ok : Ok K w sl st σ) (ha : w.H a = some (.lst vs)) (hs : ¬ w.S a) (hf : ¬ FootW w sl σ a) : Ok K (w.to (upd w.H a (.lst us))) sl st σ :=
  have x := wr_at (us := us) ha hs
  ok.wr x (fun n b h => .inl ⟨fun z => hf (.inl (z ▸ List.mem_of_getElem? h)), rfl⟩) rfl (fun _ _ h => h) (fun j ds h => ⟨ds, h, fun b hb => .inl ⟨fun z => hf (.inr ⟨j, ds, h, z ▸ hb⟩), rfl⟩⟩) rfl (x.s_keep ok)
/-- a shared list is written -/
theorem Ok.ambW {n : Nat} {a : Addr} {us : List V} {ds : List D} (ok : Ok K w sl st σ) (hn : w.al[n]? = some a) (r : RepL K w us ds) : Ok K (w.to (upd w.H a (.lst us))) sl (st.set n ds) σ := by
  obtain ⟨s, vs, es, e1, e2, e3⟩ := ok.amb.at_ n a hn
  have x := wr_at (us := us) e1 s
  refine ok.wr x (fun m b h => ?_) (by simp) (fun _ _ h => h) (fun j ds h => ⟨ds, h, fun b hb => .inl ⟨fun z => ?_, rfl⟩⟩) rfl (x.s_keep ok)
  · by_cases e : b = a
    · subst e
      have hm : m = n := by
        obtain ⟨h1, g1⟩ := List.getElem?_eq_some_iff.mp h
        obtain ⟨h2, g2⟩ := List.getElem?_eq_some_iff.mp hn
        exact (List.getElem_inj ok.amb.nod).mp (g1.trans g2.symm)
      subst hm
      refine .inr ⟨us, ds, upd_same, ?_, x.repL r⟩
      rw [List.getElem?_set_self]
      exact (List.getElem?_eq_some_iff.mp e2).1
    · refine .inl ⟨e, ?_⟩
      have hm : n ≠ m := fun z => e (by subst z; rw [hn] at h; exact (Option.some.inj h).symm)
      rw [List.getElem?_set_ne hm]
  · obtain ⟨c, vs', g1, _, _, _, m⟩ := ok.own j ds h
    rw [hb] at g1
    cases g1
    exact m (z ▸ List.mem_of_getElem? hn)
theorem Ext.ambW {n : Nat} {a : Addr} {us : List V} (ok : Ok K w sl st σ) (hn : w.al[n]? = some a) : Ext w (FootW w sl σ) (w.to (upd w.H a (.lst us))) (FootW (w.to (upd w.H a (.lst us))) sl σ) := by
  obtain ⟨s, vs, es, e1, e2, e3⟩ := ok.amb.at_ n a hn
  exact ⟨fun b o h nf => by
    have hb : b ≠ a := fun z => nf (.inl (by rw [z]; exact List.mem_of_getElem? hn))
    show upd w.H a (.lst us) b = some o
    rw [upd_ne hb]; exact h, fun _ h => h, fun _ h => .inl h, ⟨[], by simp⟩, upd_dom e1, fun _ h => .inl h⟩
/-- a slot's own list is written -/
theorem Ok.ownW {i : Nat} {a : Addr} {us : List V} {ds es : List D} (ok : Ok K w sl st σ) (hi : sl[i]? = some (.own es)) (ha : σ[i]? = some (some (.ref a))) (r : RepL K w us ds) : Ok K (w.to (upd w.H a (.lst us))) (sl.set i (.own ds)) st σ := by
  obtain ⟨b, vs, e1, e2, e3, s, m⟩ := ok.own i es hi
  rw [ha] at e1
  cases e1
  have x := wr_at (us := us) e2 s
  have hil : i < sl.length := (List.getElem?_eq_some_iff.mp hi).1
  refine ok.wr x (fun n c h => .inl ⟨fun z => m (z ▸ List.mem_of_getElem? h), rfl⟩) rfl (fun j d h => ?_) (fun j fs h => ?_) (by simp) (x.s_keep ok)
  · by_cases e : i = j
    · subst e; rw [List.getElem?_set_self hil] at h; cases h
    · rw [List.getElem?_set_ne e] at h; exact h
  · by_cases e : i = j
    · subst e
      rw [List.getElem?_set_self hil] at h
      cases h
      refine ⟨es, hi, fun c hc => ?_⟩
      rw [ha] at hc
      cases hc
      exact .inr ⟨us, upd_same, x.repL r⟩
    · rw [List.getElem?_set_ne e] at h
      exact ⟨fs, h, fun c hc => .inl ⟨fun z => e (ok.dis i j es fs a hi h ha (z ▸ hc)), rfl⟩⟩
theorem foot_set_own {i : Nat} {al : List Addr} {ds es : List D} (hi : sl[i]? = some (.own es)) {b : Addr} (h : Foot al (sl.set i (.own ds)) σ b) : Foot al sl σ b := by
  rcases h with h | ⟨j, fs, h1, h2⟩
  · exact .inl h
  · by_cases e : i = j
    · subst e; exact .inr ⟨i, es, hi, h2⟩
    · rw [List.getElem?_set_ne e] at h1; exact .inr ⟨j, fs, h1, h2⟩
theorem Ext.ownW {i : Nat} {a : Addr} {us : List V} {ds es : List D} (ok : Ok K w sl st σ) (hi : sl[i]? = some (.own es)) (ha : σ[i]? = some (some (.ref a))) : Ext w (FootW w sl σ) (w.to (upd w.H a (.lst us))) (FootW (w.to (upd w.H a (.lst us))) (sl.set i (.own ds)) σ) := by
  obtain ⟨b, vs, e1, e2, e3, s, m⟩ := ok.own i es hi
  rw [ha] at e1
  cases e1
  exact ⟨fun b o h nf => by
    have hb : b ≠ a := fun z => nf (.inr ⟨i, es, hi, by rw [z]; exact ha⟩)
    show upd w.H a (.lst us) b = some o
    rw [upd_ne hb]; exact h, fun _ h => h, fun _ h => .inl h, ⟨[], by simp⟩, upd_dom e2, fun _ h => .inl (foot_set_own hi h)⟩
/-- a slot is set: a value -/
theorem Ok.setPub {i : Nat} {d : D} (ok : Ok K w sl st σ) (r : Rep K w v d) : Ok K w (sl.set i (.pub d)) st (σ.set i (some v)) where
  amb := ok.amb
  len := by rw [List.length_set, List.length_set]; exact ok.len
  pub := fun j e h => by
    by_cases q : i = j
    · subst q
      have hil : i < sl.length := by
        have := (List.getElem?_eq_some_iff.mp h).1
        simpa using this
      rw [List.getElem?_set_self hil] at h
      cases h
      exact ⟨v, by rw [List.getElem?_set_self (by rw [ok.len]; exact hil)], r⟩
    · rw [List.getElem?_set_ne q] at h
      obtain ⟨u, e1, r1⟩ := ok.pub j e h
      exact ⟨u, by rw [List.getElem?_set_ne q]; exact e1, r1⟩
  own := fun j ds h => by
    by_cases q : i = j
    · subst q
      have hil : i < sl.length := by
        have := (List.getElem?_eq_some_iff.mp h).1
        simpa using this
      rw [List.getElem?_set_self hil] at h
      cases h
    · rw [List.getElem?_set_ne q] at h
      obtain ⟨a, vs, e1, e2⟩ := ok.own j ds h
      exact ⟨a, vs, by rw [List.getElem?_set_ne q]; exact e1, e2⟩
  dis := fun j k ds es a h1 h2 h3 h4 => by
    have hn : ∀ {m : Nat} {fs : List D}, (sl.set i (.pub d))[m]? = some (.own fs) → i ≠ m := fun {m fs} h q => by
      subst q
      have hil : i < sl.length := by
        have := (List.getElem?_eq_some_iff.mp h).1
        simpa using this
      rw [List.getElem?_set_self hil] at h
      cases h
    have q1 := hn h1
    have q2 := hn h2
    rw [List.getElem?_set_ne q1] at h1 h3
    rw [List.getElem?_set_ne q2] at h2 h4
    exact ok.dis j k ds es a h1 h2 h3 h4
theorem foot_set_pub {i : Nat} {al : List Addr} {d : D} {b : Addr} {o : Option V} (h : Foot al (sl.set i (.pub d)) (σ.set i o) b) : Foot al sl σ b := by
  rcases h with h | ⟨j, fs, h1, h2⟩
  · exact .inl h
  · by_cases e : i = j
    · subst e
      have hil : i < sl.length := by
        have := (List.getElem?_eq_some_iff.mp h1).1
        simpa using this
      rw [List.getElem?_set_self hil] at h1
      cases h1
    · rw [List.getElem?_set_ne e] at h1 h2; exact .inr ⟨j, fs, h1, h2⟩
theorem Ext.foot (F F' : Addr → Prop) (h : ∀ a, F' a → F a) : Ext w F w F' := ⟨fun _ _ h _ => h, fun _ h => h, fun _ h => .inl h, ⟨[], by simp⟩, fun _ h => h, fun a q => .inl (h a q)⟩
/-- a slot is set: a new list of its own -/
theorem Ok.setOwn {i : Nat} {ds : List D} (ok : Ok K w sl st σ) (hi : i < sl.length) (r : RdR K w sl σ v (.prv ds)) : Ok K w (sl.set i (.own ds)) st (σ.set i (some v)) := by
  obtain ⟨p, vs, rfl, hH, hr, hs, hf⟩ := r
  refine ⟨ok.amb, by rw [List.length_set, List.length_set]; exact ok.len, fun j e h => ?_, fun j es h => ?_, fun j k es fs a h1 h2 h3 h4 => ?_⟩
  · by_cases q : i = j
    · subst q; rw [List.getElem?_set_self hi] at h; cases h
    · rw [List.getElem?_set_ne q] at h
      obtain ⟨u, e1, r1⟩ := ok.pub j e h
      exact ⟨u, by rw [List.getElem?_set_ne q]; exact e1, r1⟩
  · by_cases q : i = j
    · subst q
      rw [List.getElem?_set_self hi] at h
      cases h
      exact ⟨p, vs, by rw [List.getElem?_set_self (by rw [ok.len]; exact hi)], hH, hr, hs, fun m => hf (.inl m)⟩
    · rw [List.getElem?_set_ne q] at h
      obtain ⟨a, us, e1, e2⟩ := ok.own j es h
      exact ⟨a, us, by rw [List.getElem?_set_ne q]; exact e1, e2⟩
  · by_cases q : i = j
    · by_cases q2 : i = k
      · omega
      · subst q
        rw [List.getElem?_set_self (by rw [ok.len]; exact hi)] at h3
        cases h3
        rw [List.getElem?_set_ne q2] at h2 h4
        exact absurd (.inr ⟨k, fs, h2, h4⟩) hf
    · by_cases q2 : i = k
      · subst q2
        rw [List.getElem?_set_self (by rw [ok.len]; exact hi)] at h4
        cases h4
        rw [List.getElem?_set_ne q] at h1 h3
        exact absurd (.inr ⟨j, es, h1, h3⟩) hf
      · rw [List.getElem?_set_ne q] at h1 h3
        rw [List.getElem?_set_ne q2] at h2 h4
        exact ok.dis j k es fs a h1 h2 h3 h4
theorem foot_set_own2 {i : Nat} {al : List Addr} {ds : List D} {p b : Addr} (hi : i < sl.length) (hl : σ.length = sl.length) (h : Foot al (sl.set i (.own ds)) (σ.set i (some (.ref p))) b) : Foot al sl σ b ∨ b = p := by
  rcases h with h | ⟨j, fs, h1, h2⟩
  · exact .inl (.inl h)
  · by_cases e : i = j
    · subst e
      rw [List.getElem?_set_self (by rw [hl]; exact hi)] at h2
      cases h2
      exact .inr rfl
    · rw [List.getElem?_set_ne e] at h1 h2; exact .inl (.inr ⟨j, fs, h1, h2⟩)
/-- a new list becomes a shared one -/
theorem Ok.share {ds : List D} (ok : Ok K w sl st σ) (r : RdR K w sl σ v (.prv ds)) : ∃ p, v = .ref p ∧ Ok K ⟨w.al ++ [p], w.S, w.H⟩ sl (st ++ [ds]) σ ∧ Rep K ⟨w.al ++ [p], w.S, w.H⟩ v (.loc st.length) := by
  obtain ⟨p, vs, rfl, hH, hr, hs, hf⟩ := r
  have hA : ∀ (n : Nat) (a : Addr), w.al[n]? = some a → (w.al ++ [p])[n]? = some a := fun n a h => by
    rw [List.getElem?_append_left (List.getElem?_eq_some_iff.mp h).1]; exact h
  have r1 : ∀ {d v}, Rep K w v d → Rep K ⟨w.al ++ [p], w.S, w.H⟩ v d := fun {d v} h => Rep.imp (w := w) (w' := ⟨w.al ++ [p], w.S, w.H⟩) (fun _ _ _ _ h => h) (fun _ _ h => h) (fun _ _ s h => ⟨s, h⟩) (fun _ _ _ h => h) hA d v h
  have rl : ∀ {d v}, RepL K w v d → RepL K ⟨w.al ++ [p], w.S, w.H⟩ v d := fun {d v} h => RepL.imp (w := w) (w' := ⟨w.al ++ [p], w.S, w.H⟩) (fun _ _ _ _ h => h) (fun _ _ h => h) (fun _ _ s h => ⟨s, h⟩) (fun _ _ _ h => h) hA d v h
  have hl := ok.amb.len
  refine ⟨p, rfl, ⟨⟨by simp [hl], fun n a h => ?_, ?_, ok.amb.sd⟩, ok.len, fun i d h => ?_, fun i es h => ?_, ok.dis⟩, .loc ?_⟩
  · by_cases hn : n < w.al.length
    · have h' : w.al[n]? = some a := by
        have q : (w.al ++ [p])[n]? = some a := h
        rw [List.getElem?_append_left hn] at q; exact q
      obtain ⟨s, us, es, e1, e2, e3⟩ := ok.amb.at_ n a h'
      exact ⟨s, us, es, e1, by rw [List.getElem?_append_left (by omega)]; exact e2, rl e3⟩
    · have q : (w.al ++ [p])[n]? = some a := h
      have hn' : n = w.al.length := by
        have := (List.getElem?_eq_some_iff.mp q).1
        simp at this
        omega
      subst hn'
      simp at q
      subst q
      exact ⟨hs, vs, ds, hH, by rw [hl]; simp, rl hr⟩
  · rw [List.nodup_append]
    exact ⟨ok.amb.nod, by simp, fun a ha b hb => by
      have : b = p := by simpa using hb
      subst this
      intro z
      subst z
      exact hf (.inl ha)⟩
  · obtain ⟨u, e, r⟩ := ok.pub i d h
    exact ⟨u, e, r1 r⟩
  · obtain ⟨a, us, e1, e2, e3, s, m⟩ := ok.own i es h
    refine ⟨a, us, e1, e2, rl e3, s, fun q => ?_⟩
    rcases List.mem_append.mp q with q | q
    · exact m q
    · have : a = p := by simpa using q
      subst this
      exact hf (.inr ⟨i, es, h, e1⟩)
  · rw [← hl]; simp
end

/-! ### shared lists in expressions -/
def eAmb (f : EvF) : EvF := fun sl st => match f sl st with
  | some (.prv l, st') => some (.val (.loc st'.length), st' ++ [l])
  | _ => none
/-- e.pop(), e a shared list -/
def cPop (st : Amb) (d : D) : Option (R × Amb) := match d with
  | .loc n => (match st[n]? with
    | some l => (match l[l.length - 1]? with | some x => some (.val x, st.set n l.dropLast) | none => none)
    | none => none)
  | _ => none
def ePop (f : EvF) : EvF := fun sl st => (f sl st).bind fun p => cPop p.2 p.1.d
section
variable {X : Cx} {a b : Expr} {f g : EvF} {pos apos : Pos}
theorem ve_amb (ha : VE X a f) : VE X a (eAmb f) := by
  refine PEimp ha fun σ H Q h => ?_
  obtain ⟨al, S, sl, st, r, st', ok, e, k⟩ := h
  unfold eAmb at e
  cases h1 : f sl st with
  | none => rw [h1] at e; cases e
  | some p =>
    obtain ⟨x, st1⟩ := p
    rw [h1] at e
    cases x with
    | val d => cases e
    | bor d => cases e
    | prv l =>
      cases e
      refine ⟨al, S, sl, st, .prv l, _, ok, h1, fun v w1 ok1 x1 rd1 fr1 => ?_⟩
      obtain ⟨p, e, ok2, r2⟩ := ok1.share rd1
      refine k v ⟨w1.al ++ [p], w1.S, w1.H⟩ ok2 ⟨x1.keep, x1.sS, x1.sN, ?_, x1.dom, fun c hc => ?_⟩ r2 trivial
      · obtain ⟨m, hm⟩ := x1.al
        exact ⟨m ++ [p], by rw [hm, List.append_assoc]⟩
      · rcases hc with hc | hc
        · rcases List.mem_append.mp hc with hc | hc
          · exact x1.fo c (.inl hc)
          · have : c = p := by simpa using hc
            subst this
            exact .inr (fr1 c e)
        · exact x1.fo c (.inr hc)
theorem loc_read {K : PySem.W.Frag} {w : Wd} {sl : Sls} {st : Amb} {σ : St} {v : V} {r : R} {n : Nat} (ok : Ok K w sl st σ) (h : RdR K w sl σ v r) (e : r.d = .loc n) :
    ∃ p vs ds, v = .ref p ∧ w.al[n]? = some p ∧ w.H p = some (.lst vs) ∧ st[n]? = some ds ∧ RepL K w vs ds := by
  have q := h.rep e (fun l z => by cases z)
  cases q with
  | loc h1 =>
    obtain ⟨s, vs, ds, e1, e2, e3⟩ := ok.amb.at_ n _ h1
    exact ⟨_, vs, ds, rfl, h1, e1, e2, e3⟩
theorem ve_pop (ha : VE X a f) (hbase : attributeBase a "pop" X.env (eval a X.env) = eval a X.env := by rfl) (hline : (apos.endLine == pos.line) = true := by rfl) : VE X (.Call (.Attribute a "pop" apos) [] [] pos) (ePop f) := by
  refine PEimp (pe_bm0 PySem.F.plainAttrs_list PySem.F.slot_list_pop PySem.F.type_list_pop (X := X) (r := rPop) (by exact fun pins s σ H x xs v us Q I rx rxs h => mt_pop pins s σ H x xs v us Q I rx rxs h) ha hbase hline) fun σ H Q h => ?_
  obtain ⟨al, S, sl, st, r, st', ok, e, k⟩ := h
  unfold ePop at e
  cases h1 : f sl st with
  | none => rw [h1] at e; cases e
  | some p =>
    obtain ⟨x, st1⟩ := p
    rw [h1] at e
    simp only [Option.bind_some, cPop] at e
    refine ⟨al, S, sl, st, x, st1, ok, h1, fun v w1 ok1 x1 rd1 fr1 => ?_⟩
    cases hx : x.d <;> rw [hx] at e <;> simp only at e <;> try (cases e; done)
    rename_i n
    obtain ⟨p, vs, ds, ev, e1, e2, e3, e4⟩ := loc_read ok1 rd1 hx
    rw [e3] at e
    simp only at e
    cases hl : ds[ds.length - 1]? with
    | none => rw [hl] at e; cases e
    | some y =>
      rw [hl] at e
      cases e
      obtain ⟨u, e5, r5⟩ := e4.get hl
      subst ev
      refine ⟨.inl ⟨rfl, vs, SqL.of e2⟩, p, vs, u, rfl, rfl, e2, by rw [e4.length]; exact e5, ?_⟩
      have ok2 := ok1.ambW e1 e4.dropLast
      have x2 : Ext w1 (FootW w1 sl σ) (w1.to (upd w1.H p (.lst vs.dropLast))) (FootW (w1.to (upd w1.H p (.lst vs.dropLast))) sl σ) := Ext.ambW ok1 e1
      exact k u (w1.to (upd w1.H p (.lst vs.dropLast))) ok2 (x1.trans x2) (x2.rep (fun c hc => ok1.foot hc) r5) trivial
end
end Vx


set_option Elab.async false
set_option linter.all false
set_option maxRecDepth 100000
/-! Vt: targets, statements, loops over trees. -/
namespace Vx
open PySem L2

/-! ### targets -/
inductive Tg where
  | name (i : Nat) | names (is : List Nat)
def Tg.ix : Tg → List Nat
  | .name i => [i]
  | .names is => is
def gNames : List Nat → TGs
  | [] => gNil
  | i :: is => gCons (gName i) (gNames is)
def gT (K : PySem.W.Frag) : Tg → TG
  | .name i => gName i
  | .names is => gTup K is.length (gNames is)
abbrev VG (X : Cx) (e : Expr) (t : Tg) : Prop := PG X e (gT X.K t)
abbrev VGs (X : Cx) (es : List Expr) (is : List Nat) : Prop := PGs X es (gNames is)
def putN : List Nat → List D → Sls → Option Sls
  | [], [], sl => some sl
  | i :: is, d :: ds, sl => if i < sl.length then putN is ds (sl.set i (.pub d)) else none
  | _, _, _ => none
def put (t : Tg) (d : D) (sl : Sls) : Option Sls := match t with
  | .name i => if i < sl.length then some (sl.set i (.pub d)) else none
  | .names is => (match d with | .tup ds => putN is ds sl | _ => none)
section
variable {X : Cx} {pos : Pos} {x : Str} {e : Expr} {es : List Expr} {is : List Nat} {t : Tg}
theorem vg_name (i : Nat) (hN : X.N.Nodup) (hi : X.N[i]? = some x := by rfl) (hx : Loc X.env.scope x := by first | exact Or.inl rfl | exact Or.inr rfl) (hf : X.fn x = true ∨ X.env.scope.names.lookup x = some .local := by first | exact .inl rfl | exact .inr rfl | assumption) : VG X (.Name x pos) (.name i) :=
  pg_name hN hi hx hf
theorem vgs_nil : VGs X [] [] := pgs_nil
theorem vgs_cons {i : Nat} (h1 : VG X e (.name i)) (h2 : VGs X es is) (hs : (assignEach (e :: es) X.env).map (·.2) = assign e X.env :: (assignEach es X.env).map (·.2) := by rfl) : VGs X (e :: es) (i :: is) := pgs_cons h1 h2 hs
theorem vg_tup {k : Nat} (hc : X.calm = true) (h : VGs X es is) (hn : (assignEach es X.env).length = is.length := by rfl) (hst : (assignEach es X.env).findIdx? (·.1) = none := by rfl) : VG X (.Tuple es k pos) (.names is) := pg_tup hc h hn hst
end
section
variable {K : PySem.W.Frag} {w : Wd} {sl sl' : Sls} {st : Amb} {σ : St}
/-- what the target's stores leave -/
def Kept (is : List Nat) (σ σ' : St) : Prop := σ'.length = σ.length ∧ ∀ j, j ∉ is → σ'[j]? = σ[j]?
theorem gNames_read : ∀ {is : List Nat} {ds : List D} {vs : List V} {sl : Sls} {σ : St} {Q : St → Hp → Prop}, Ok K w sl st σ → RepL K w vs ds → putN is ds sl = some sl' →
    (∀ σ', Ok K w sl' st σ' → Ext w (FootW w sl σ) w (FootW w sl' σ') → Kept is σ σ' → Q σ' w.H) → gNames is vs σ w.H Q
  | [], [], _, sl, σ, Q, ok, r, e, k => by
    cases r
    simp only [putN, Option.some.injEq] at e
    subst e
    exact ⟨rfl, k σ ok Ext.refl ⟨rfl, fun _ _ => rfl⟩⟩
  | i :: is, d :: ds, _, sl, σ, Q, ok, r, e, k => by
    cases r with
    | @cons u us _ _ h1 h2 =>
      simp only [putN] at e
      split at e
      · rename_i hi
        have ok1 := ok.setPub (i := i) h1
        refine ⟨_, _, rfl, ?_⟩
        have x1 : Ext w (FootW w sl σ) w (FootW w (sl.set i (.pub d)) (σ.set i (some u))) := Ext.foot _ _ fun a ha => foot_set_pub ha
        refine gNames_read ok1 h2 e fun σ' ok' x' kp => k σ' ok' (x1.trans x') ⟨by rw [kp.1, List.length_set], fun j hj => ?_⟩
        have hj1 : j ∉ is := fun z => hj (List.mem_cons_of_mem _ z)
        have hj2 : i ≠ j := fun z => hj (by rw [z]; exact List.mem_cons_self)
        rw [kp.2 j hj1, List.getElem?_set_ne hj2]
      · cases e
  | [], d :: ds, _, _, _, _, _, _, e, _ => by simp [putN] at e
  | i :: is, [], _, _, _, _, _, _, e, _ => by simp [putN] at e
theorem putN_len : ∀ {is : List Nat} {ds : List D} {sl : Sls}, putN is ds sl = some sl' → is.length = ds.length
  | [], [], _, _ => rfl
  | i :: is, d :: ds, sl, e => by
    simp only [putN] at e
    split at e
    · rw [List.length_cons, List.length_cons, putN_len e]
    · cases e
  | [], d :: ds, _, e => by simp [putN] at e
  | i :: is, [], _, e => by simp [putN] at e
theorem gT_read {t : Tg} {d : D} {v : V} {Q : St → Hp → Prop} (ok : Ok K w sl st σ) (r : Rep K w v d) (e : put t d sl = some sl') (k : ∀ σ', Ok K w sl' st σ' → Ext w (FootW w sl σ) w (FootW w sl' σ') → Kept t.ix σ σ' → Q σ' w.H) : gT K t v σ w.H Q := by
  cases t with
  | name i =>
    simp only [put] at e
    split at e
    · cases e
      refine k _ (ok.setPub r) (Ext.foot _ _ fun a ha => foot_set_pub ha) ⟨List.length_set .., fun j hj => ?_⟩
      have hj2 : i ≠ j := fun z => hj (by rw [z]; exact List.mem_cons_self)
      rw [List.getElem?_set_ne hj2]
    · cases e
  | names is =>
    simp only [put] at e
    cases d <;> simp only at e <;> try (cases e; done)
    cases r with
    | tup h1 h2 => exact ⟨_, _, rfl, h1, by rw [h2.length, putN_len e], gNames_read ok h2 e k⟩
end

/-! ### statements -/
inductive Out where
  | nx (sl : Sls) (st : Amb) | bk (sl : Sls) (st : Amb) | ct (sl : Sls) (st : Amb) | rt (r : R) (st : Amb)
abbrev SvF := Sls → Amb → Option Out
def RdF (K : PySem.W.Frag) (w : Wd) (v : V) : R → Prop
  | .val d => Rep K w v d
  | .prv ds => ∃ a vs, v = .ref a ∧ w.H a = some (.lst vs) ∧ RepL K w vs ds ∧ ¬ w.S a ∧ a ∉ w.al
  | .bor _ => False
def FrsR (w : Wd) (F : Addr → Prop) (v : V) : R → Prop
  | .prv _ => ∀ a, v = .ref a → w.H a = none ∨ F a
  | _ => True
def Fin (K : PySem.W.Frag) (w : Wd) (F : Addr → Prop) (D : Ends) : Out → Prop
  | .nx sl' st' => ∀ σ' w', Ok K w' sl' st' σ' → Ext w F w' (FootW w' sl' σ') → D.nx σ' w'.H
  | .bk sl' st' => ∀ σ' w', Ok K w' sl' st' σ' → Ext w F w' (FootW w' sl' σ') → D.bk σ' w'.H
  | .ct sl' st' => ∀ σ' w', Ok K w' sl' st' σ' → Ext w F w' (FootW w' sl' σ') → D.ct σ' w'.H
  | .rt r st' => ∀ v w', AmbOk K w' st' → Ext w F w' (· ∈ w'.al) → RdF K w' v r → FrsR w F v r → D.rt v w'.H
def tS (K : PySem.W.Frag) (F : SvF) : TS := fun D σ H => ∃ al S sl st o, Ok K ⟨al, S, H⟩ sl st σ ∧ F sl st = some o ∧ Fin K ⟨al, S, H⟩ (Foot al sl σ) D o
abbrev VS (X : Cx) (s : Stmt) (F : SvF) : Prop := PS X s (tS X.K F)
abbrev VSs (X : Cx) (s : List Stmt) (F : SvF) : Prop := PSs X s (tS X.K F)
theorem FrsR.back {w w' : Wd} {F F' : Addr → Prop} {v : V} {r : R} (h : FrsR w' F' v r) (x : Ext w F w' F') : FrsR w F v r := by
  cases r with
  | prv ds =>
    intro a e
    rcases h a e with h | h
    · exact .inl (x.dom _ h)
    · exact (x.fo a h).symm
  | val d => trivial
  | bor d => trivial
theorem Fin.back {K : PySem.W.Frag} {w w' : Wd} {F F' : Addr → Prop} {D : Ends} {o : Out} (h : Fin K w F D o) (x : Ext w F w' F') : Fin K w' F' D o := by
  cases o with
  | nx sl st => exact fun σ' w2 ok x2 => h σ' w2 ok (x.trans x2)
  | bk sl st => exact fun σ' w2 ok x2 => h σ' w2 ok (x.trans x2)
  | ct sl st => exact fun σ' w2 ok x2 => h σ' w2 ok (x.trans x2)
  | rt r st => exact fun v w2 ok x2 rd fr => h v w2 ok (x.trans x2) rd (fr.back x)

def sSeq (F G : SvF) : SvF := fun sl st => (F sl st).bind fun o => match o with
  | .nx sl' st' => G sl' st'
  | o => some o
def sNil : SvF := fun sl st => some (.nx sl st)
section
variable {X : Cx} {s : Stmt} {rest : List Stmt} {F G : SvF} {e : Expr} {f g : EvF} {pos : Pos} {B : EvB}
theorem vss_nil : VSs X [] sNil := PSsimp pss_nil fun D σ H h => by
  obtain ⟨al, S, sl, st, o, ok, e, k⟩ := h
  cases e
  exact k σ ⟨al, S, H⟩ ok Ext.refl
theorem vss_cons (h1 : VS X s F) (h2 : VSs X rest G) : VSs X (s :: rest) (sSeq F G) := PSsimp (pss_cons h1 h2) fun D σ H h => by
  obtain ⟨al, S, sl, st, o, ok, e, k⟩ := h
  unfold sSeq at e
  cases h1 : F sl st with
  | none => rw [h1] at e; cases e
  | some o1 =>
    rw [h1] at e
    simp only [Option.bind_some] at e
    refine ⟨al, S, sl, st, o1, ok, h1, ?_⟩
    cases o1 with
    | nx sl1 st1 => exact fun σ1 w1 ok1 x1 => ⟨w1.al, w1.S, sl1, st1, o, ok1, e, k.back x1⟩
    | bk sl1 st1 => cases e; exact k
    | ct sl1 st1 => cases e; exact k
    | rt r st1 => cases e; exact k
theorem vss_one (h1 : VS X s F) : VSs X [s] F := pss_one h1
def sPass : SvF := fun sl st => some (.nx sl st)
theorem vs_pass : VS X (.Pass pos) sPass := PSimp ps_pass fun D σ H h => by
  obtain ⟨al, S, sl, st, o, ok, e, k⟩ := h
  cases e
  exact k σ ⟨al, S, H⟩ ok Ext.refl
def sBreak : SvF := fun sl st => some (.bk sl st)
def sCont : SvF := fun sl st => some (.ct sl st)
theorem vs_break : VS X (.Break pos) sBreak := PSimp ps_break fun D σ H h => by
  obtain ⟨al, S, sl, st, o, ok, e, k⟩ := h
  cases e
  exact k σ ⟨al, S, H⟩ ok Ext.refl
theorem vs_continue : VS X (.Continue pos) sCont := PSimp ps_continue fun D σ H h => by
  obtain ⟨al, S, sl, st, o, ok, e, k⟩ := h
  cases e
  exact k σ ⟨al, S, H⟩ ok Ext.refl
def sIf (t : EvB) (F G : SvF) : SvF := fun sl st => (t sl st).bind fun p => if p.1 = true then F sl p.2 else G sl p.2
theorem vs_if {c : Expr} {a b : List Stmt} (hc : VT X c B) (ha : VSs X a F) (hb : VSs X b G) : VS X (.If c a b pos) (sIf B F G) := PSimp (ps_if hc ha hb) fun D σ H h => by
  obtain ⟨al, S, sl, st, o, ok, e, k⟩ := h
  unfold sIf at e
  cases h1 : B sl st with
  | none => rw [h1] at e; cases e
  | some p =>
    obtain ⟨c, st1⟩ := p
    rw [h1] at e
    simp only [Option.bind_some] at e
    refine ⟨al, S, sl, st, c, st1, ok, h1, fun w1 ok1 x1 => ?_⟩
    cases c with
    | true => exact ⟨w1.al, w1.S, sl, st1, o, ok1, by simpa using e, k.back x1⟩
    | false => exact ⟨w1.al, w1.S, sl, st1, o, ok1, by simpa using e, k.back x1⟩
/-- return e -/
def sRet (f : EvF) : SvF := fun sl st => match f sl st with
  | some (.val d, st') => some (.rt (.val d) st')
  | some (.prv l, st') => some (.rt (.prv l) st')
  | _ => none
theorem ext_rt {w w' : Wd} {F F' : Addr → Prop} (x : Ext w F w' F') (h : ∀ a, a ∈ w'.al → F' a) : Ext w F w' (· ∈ w'.al) := ⟨x.keep, x.sS, x.sN, x.al, x.dom, fun a m => x.fo a (h a m)⟩
theorem vs_ret (he : VE X e f) : VS X (.Return (some e) pos) (sRet f) := PSimp (ps_ret he) fun D σ H h => by
  obtain ⟨al, S, sl, st, o, ok, e, k⟩ := h
  unfold sRet at e
  cases h1 : f sl st with
  | none => rw [h1] at e; cases e
  | some p =>
    obtain ⟨x, st1⟩ := p
    rw [h1] at e
    cases x with
    | bor l => cases e
    | val d =>
      cases e
      exact ⟨al, S, sl, st, .val d, _, ok, h1, fun v w1 ok1 x1 rd1 fr1 => k v w1 ok1.amb (ext_rt x1 fun a m => .inl m) rd1 trivial⟩
    | prv l =>
      cases e
      refine ⟨al, S, sl, st, .prv l, _, ok, h1, fun v w1 ok1 x1 rd1 fr1 => k v w1 ok1.amb (ext_rt x1 fun a m => .inl m) ?_ fun a ea => .inl (fr1 a ea)⟩
      obtain ⟨a, vs, ea, h2, h3, h4, h5⟩ := rd1
      exact ⟨a, vs, ea, h2, h3, h4, fun m => h5 (.inl m)⟩
def sRetN : SvF := fun _ st => some (.rt (.val .non) st)
theorem vs_retN : VS X (.Return none pos) sRetN := PSimp ps_retN fun D σ H h => by
  obtain ⟨al, S, sl, st, o, ok, e, k⟩ := h
  cases e
  exact k .non ⟨al, S, H⟩ ok.amb (ext_rt (F' := Foot al sl σ) Ext.refl fun a m => .inl m) .non trivial
/-- return x, x a slot with a list of its own -/
def sRetO (i : Nat) : SvF := fun sl st => match sl[i]? with
  | some (.own l) => some (.rt (.prv l) st)
  | _ => none
theorem vs_retO (i : Nat) {x : Str} {p : Pos} (hN : X.N[i]? = some x := by rfl) (hv : Vis X.env.scope x := by first | exact Or.inl rfl | exact Or.inr (Or.inl rfl) | exact Or.inr (Or.inr rfl)) (hd : (x == ("__debug__" : Str)) = false := by decide)
    (hcd : (x == ("__classdict__" : Str)) = false := by decide) : VS X (.Return (some (.Name x p)) pos) (sRetO i) := PSimp (ps_ret (pe_var hN hv hd hcd)) fun D σ H h => by
  obtain ⟨al, S, sl, st, o, ok, e, k⟩ := h
  unfold sRetO at e
  split at e
  · rename_i l hl
    cases e
    obtain ⟨a, vs, e1, e2, e3, s, m⟩ := ok.own i l hl
    exact ⟨.ref a, e1, k (.ref a) ⟨al, S, H⟩ ok.amb (ext_rt (F' := Foot al sl σ) Ext.refl fun a m => .inl m) ⟨a, vs, rfl, e2, e3, s, m⟩ fun c ec => by
      cases ec
      exact .inr (.inr ⟨i, l, hl, e1⟩)⟩
  · cases e
/-- an expression alone -/
def sDrop (f : EvF) : SvF := fun sl st => (f sl st).map fun p => .nx sl p.2
theorem vs_expr (he : VE X e f) (hs : swapsWith e none pos.line X.env = pure false := by rfl) : VS X (.Expr e pos) (sDrop f) := PSimp (ps_expr he hs) fun D σ H h => by
  obtain ⟨al, S, sl, st, o, ok, e, k⟩ := h
  unfold sDrop at e
  cases h1 : f sl st with
  | none => rw [h1] at e; cases e
  | some p =>
    obtain ⟨x, st1⟩ := p
    rw [h1] at e
    cases e
    exact ⟨al, S, sl, st, x, _, ok, h1, fun v w1 ok1 x1 rd1 fr1 => k σ w1 ok1 x1⟩
/-! ### assignments -/
def sAsg (t : Tg) (f : EvF) : SvF := fun sl st => match ePub f sl st with
  | some (.val d, st') => (put t d sl).map fun sl' => .nx sl' st'
  | _ => none
theorem ePub_read {K : PySem.W.Frag} {f : EvF} {σ : St} {H : Hp} {Q : VK} (h : tV K (ePub f) σ H Q) : tV K f σ H Q := by
  obtain ⟨al, S, sl, st, r, st', ok, e, k⟩ := h
  unfold ePub at e
  cases h1 : f sl st with
  | none => rw [h1] at e; cases e
  | some p =>
    obtain ⟨x, st1⟩ := p
    rw [h1] at e
    cases x with
    | val d => cases e; exact ⟨al, S, sl, st, .val d, _, ok, h1, k⟩
    | bor d => cases e
    | prv l =>
      cases e
      refine ⟨al, S, sl, st, .prv l, _, ok, h1, fun v w1 ok1 x1 rd1 fr1 => ?_⟩
      obtain ⟨S', _, ok2, r2, x2⟩ := prv_pub ok1 rd1
      exact k v ⟨w1.al, S', w1.H⟩ ok2 (x2 (w0 := ⟨al, S, H⟩) x1 fun a e => .inl (fr1 a e)) r2 trivial
theorem asg_read {K : PySem.W.Frag} {f : EvF} {t : Tg} {te : TE} (hte : ∀ σ H Q, tV K f σ H Q → te σ H Q) {D : Ends} {σ : St} {H : Hp} (h : tS K (sAsg t f) D σ H) : tAsg te (gT K t) D σ H := by
  obtain ⟨al, S, sl, st, o, ok, e, k⟩ := h
  refine hte _ _ _ (ePub_read ?_)
  unfold sAsg at e
  cases h1 : ePub f sl st with
  | none => rw [h1] at e; cases e
  | some p =>
    obtain ⟨x, st1⟩ := p
    rw [h1] at e
    cases x with
    | prv l => cases e
    | bor l => cases e
    | val d =>
      simp only at e
      cases h2 : put t d sl with
      | none => rw [h2] at e; cases e
      | some sl1 =>
        rw [h2] at e
        cases e
        exact ⟨al, S, sl, st, .val d, _, ok, h1, fun v w1 ok1 x1 rd1 fr1 => gT_read ok1 rd1 h2 fun σ' ok' x' _ => k σ' w1 ok' (x1.trans x')⟩
theorem vs_asg {tg : Expr} {t : Tg} (he : VE X e f) (hg : VG X tg t) (hs : swapsWithSole [tg] e pos.line X.env = pure false := by rfl) (hw : swappedStores [tg] e X.env = pure none := by rfl)
    (h1 : (assignEach [tg] X.env).map (·.2) = [assign tg X.env] := by rfl) : VS X (.Assign [tg] e pos) (sAsg t f) := PSimp (ps_asg he hg hs hw h1) fun D σ H h => asg_read (fun _ _ _ h => h) h
/-- x = e, x a slot with a list of its own -/
def sOwn (i : Nat) (f : EvF) : SvF := fun sl st => match f sl st with
  | some (.prv l, st') => if i < sl.length then some (.nx (sl.set i (.own l)) st') else none
  | _ => none
theorem own_read {K : PySem.W.Frag} {f : EvF} {i : Nat} {te : TE} (hte : ∀ σ H Q, tV K f σ H Q → te σ H Q) {D : Ends} {σ : St} {H : Hp} (h : tS K (sOwn i f) D σ H) : tAsg te (gName i) D σ H := by
  obtain ⟨al, S, sl, st, o, ok, e, k⟩ := h
  refine hte _ _ _ ?_
  unfold sOwn at e
  cases h1 : f sl st with
  | none => rw [h1] at e; cases e
  | some p =>
    obtain ⟨x, st1⟩ := p
    rw [h1] at e
    cases x with
    | val l => cases e
    | bor l => cases e
    | prv l =>
      simp only at e
      split at e
      · rename_i hi
        cases e
        refine ⟨al, S, sl, st, .prv l, _, ok, h1, fun v w1 ok1 x1 rd1 fr1 => ?_⟩
        have ok2 := ok1.setOwn hi rd1
        obtain ⟨p, vs, ev, h2, h3, h4, h5⟩ := rd1
        refine k _ w1 ok2 ⟨x1.keep, x1.sS, x1.sN, x1.al, x1.dom, fun a ha => ?_⟩
        subst ev
        rcases foot_set_own2 hi ok1.len ha with ha | rfl
        · exact x1.fo a ha
        · exact .inr (fr1 _ rfl)
      · cases e
theorem vs_own (i : Nat) {x : Str} {px : Pos} (he : VE X e f) (hN : X.N.Nodup) (hi : X.N[i]? = some x := by rfl) (hx : Loc X.env.scope x := by first | exact Or.inl rfl | exact Or.inr rfl) (hf : X.fn x = true ∨ X.env.scope.names.lookup x = some .local := by first | exact .inl rfl | exact .inr rfl | assumption)
    (hs : swapsWith e (some (.Name x px)) pos.line X.env = pure false := by rfl) : VS X (.Assign [.Name x px] e pos) (sOwn i f) := PSimp (ps_set hN hi hx he hs hf) fun D σ H h => own_read (fun _ _ _ h => h) h
/-- y = x: the list of slot j goes to slot i as a value for all; slot j is left -/
def sMove (i j : Nat) : SvF := fun sl st => match sl[j]? with
  | some (.own l) => if i < sl.length ∧ i ≠ j then some (.nx ((sl.set j .un).set i (.pub (.lst l))) st) else none
  | _ => none
theorem Ok.drop {K : PySem.W.Frag} {w : Wd} {sl : Sls} {st : Amb} {σ : St} (ok : Ok K w sl st σ) (j : Nat) : Ok K w (sl.set j .un) st σ := by
  have hn : ∀ {m : Nat} {s : Sl}, (sl.set j .un)[m]? = some s → s ≠ .un → sl[m]? = some s := fun {m s} h hs => by
    by_cases q : j = m
    · subst q
      have hil : j < sl.length := by
        have := (List.getElem?_eq_some_iff.mp h).1
        simpa using this
      rw [List.getElem?_set_self hil] at h
      cases h
      exact absurd rfl hs
    · rw [List.getElem?_set_ne q] at h; exact h
  exact ⟨ok.amb, by rw [List.length_set]; exact ok.len, fun i d h => ok.pub i d (hn h (fun z => by cases z)), fun i ds h => ok.own i ds (hn h (fun z => by cases z)), fun i k ds es a h1 h2 h3 h4 => ok.dis i k ds es a (hn h1 (fun z => by cases z)) (hn h2 (fun z => by cases z)) h3 h4⟩
theorem foot_drop {sl : Sls} {σ : St} {al : List Addr} {j : Nat} {b : Addr} (h : Foot al (sl.set j .un) σ b) : Foot al sl σ b ∧ (b ∈ al ∨ σ[j]? ≠ some (some (.ref b)) ∨ ∃ i, i ≠ j ∧ σ[i]? = some (some (.ref b)) ∧ ∃ ds, sl[i]? = some (.own ds)) := by
  rcases h with h | ⟨i, ds, h1, h2⟩
  · exact ⟨.inl h, .inl h⟩
  · by_cases q : j = i
    · subst q
      have hil : j < sl.length := by
        have := (List.getElem?_eq_some_iff.mp h1).1
        simpa using this
      rw [List.getElem?_set_self hil] at h1
      cases h1
    · rw [List.getElem?_set_ne q] at h1
      exact ⟨.inr ⟨i, ds, h1, h2⟩, .inr (.inr ⟨i, fun z => q z.symm, h2, ds, h1⟩)⟩
theorem vs_move (i j : Nat) {x y : Str} {px py : Pos} (hN' : X.N.Nodup) (hi : X.N[i]? = some y := by rfl) (hy : Loc X.env.scope y := by first | exact Or.inl rfl | exact Or.inr rfl) (hf : X.fn y = true ∨ X.env.scope.names.lookup y = some .local := by first | exact .inl rfl | exact .inr rfl | assumption)
    (hN : X.N[j]? = some x := by rfl) (hv : Vis X.env.scope x := by first | exact Or.inl rfl | exact Or.inr (Or.inl rfl) | exact Or.inr (Or.inr rfl)) (hd : (x == ("__debug__" : Str)) = false := by decide) (hcd : (x == ("__classdict__" : Str)) = false := by decide)
    (hs : swapsWith (.Name x px) (some (.Name y py)) pos.line X.env = pure false := by rfl) : VS X (.Assign [.Name y py] (.Name x px) pos) (sMove i j) := PSimp (ps_set hN' hi hy (pe_var hN hv hd hcd) hs hf) fun D σ H h => by
  obtain ⟨al, S, sl, st, o, ok, e, k⟩ := h
  unfold sMove at e
  split at e
  · rename_i l hl
    split at e
    · rename_i hij
      cases e
      obtain ⟨a, vs, e1, e2, e3, s, m⟩ := ok.own j l hl
      have ok1 := ok.drop j
      have hprv : RdR X.K ⟨al, S, H⟩ (sl.set j .un) σ (.ref a) (.prv l) := ⟨a, vs, rfl, e2, e3, s, fun f => by
        obtain ⟨f1, f2⟩ := foot_drop f
        rcases f2 with f2 | f2 | ⟨i', hi', h1, ds, h2⟩
        · exact m f2
        · exact f2 e1
        · exact hi' (ok.dis i' j ds l a h2 hl h1 e1)⟩
      obtain ⟨S', _, ok2, r2, x2⟩ := prv_pub ok1 hprv
      refine ⟨.ref a, e1, ?_⟩
      have x3 : Ext ⟨al, S, H⟩ (Foot al (sl.set j .un) σ) ⟨al, S, H⟩ (Foot al (sl.set j .un) σ) := Ext.refl
      have hS' : ∀ c, S' c → S c ∨ c = a := fun c hc => by
        by_cases q : c = a
        · exact .inr q
        · refine .inl ?_
          have z := (x2 (w0 := ⟨al, fun c => S c, fun c => if c = a then none else H c⟩) ⟨fun c o h nf => ?_, fun _ h => h, fun _ h => .inl h, ⟨[], by simp⟩, fun c h => ?_, fun _ h => .inl h⟩ fun c ec => .inl ?_).sN c hc
          · rcases z with z | z | z
            · exact z
            · obtain ⟨us, hus⟩ := ok2.amb.sd c hc
              have z' : (if c = a then none else H c) = none := z
              rw [if_neg q] at z'
              have hus' : H c = some (.lst us) := hus
              rw [z'] at hus'; cases hus'
            · exact absurd hc (ok2.foot (a := c) z).1
          · have h' : (if c = a then none else H c) = some o := h
            split at h'
            · cases h'
            · exact h'
          · show (if c = a then none else H c) = none
            have h' : H c = none := h
            split
            · rfl
            · exact h'
          · cases ec
            show (if a = a then none else H a) = none
            rw [if_pos rfl]
      refine k _ ⟨al, S', H⟩ (ok2.setPub r2) ⟨fun c o h _ => h, fun c h => ?_, fun c h => ?_, ⟨[], by simp⟩, fun _ h => h, fun c hc => .inl (foot_drop (foot_set_pub hc)).1⟩
      · exact (x2 (w0 := ⟨al, S, fun c => if c = a then none else H c⟩) ⟨fun c o h nf => by
          have h' : (if c = a then none else H c) = some o := h
          split at h'
          · cases h'
          · exact h', fun _ h => h, fun _ h => .inl h, ⟨[], by simp⟩, fun c h => by
            show (if c = a then none else H c) = none
            have h' : H c = none := h
            split
            · rfl
            · exact h', fun _ h => .inl h⟩ fun c ec => .inl (by cases ec; show (if a = a then none else H a) = none; rw [if_pos rfl])).sS c h
      · rcases hS' c h with h | rfl
        · exact .inl h
        · exact .inr (.inr (.inr ⟨j, l, hl, e1⟩))
    · cases e
  · cases e
/-! ### methods of a slot's own list -/
theorem own_ty {K : PySem.W.Frag} {w : Wd} {sl : Sls} {st : Amb} {σ : St} {i : Nat} {l : List Vx.D} (ok : Ok K w sl st σ) (h : sl[i]? = some (.own l)) : ∃ a vs, σ[i]? = some (some (.ref a)) ∧ w.H a = some (.lst vs) ∧ RepL K w vs l ∧ tyV K "list" (.ref a) w.H := by
  obtain ⟨a, vs, e1, e2, e3, _⟩ := ok.own i l h
  exact ⟨a, vs, e1, e2, e3, .inl ⟨rfl, vs, SqL.of e2⟩⟩
/-- x.append(e) -/
def sApp (i : Nat) (f : EvF) : SvF := fun sl st => match sl[i]?, ePub f sl st with
  | some (.own l), some (.val d, st') => if l.length < line then some (.nx (sl.set i (.own (l ++ [d]))) st') else none
  | _, _ => none
theorem vs_append (i : Nat) {x : Str} {px apos cpos : Pos} (he : VE X e f) (hN : X.N[i]? = some x := by rfl) (hv : Vis X.env.scope x := by first | exact Or.inl rfl | exact Or.inr (Or.inl rfl) | exact Or.inr (Or.inr rfl)) (hd : (x == ("__debug__" : Str)) = false := by decide) (hcd : (x == ("__classdict__" : Str)) = false := by decide)
    (hbase : attributeBase (.Name x px) "append" X.env (eval (.Name x px) X.env) = eval (.Name x px) X.env := by rfl)
    (hfew : ((backTo cpos (starEach (e :: []) X.env)).all (fun x => !x.1) && (backToKw cpos (keywordEach [] X.env)).all (fun x => x.1.isSome) && decide ((e :: []).length + ([] : List Keyword).length + (if ([] : List Keyword).isEmpty then 0 else 1) < 30)) = true := by rfl)
    (hline : (apos.endLine == cpos.line) = true := by rfl) (hs : starEach (e :: []) X.env = (false, eval e X.env) :: starEach [] X.env := by rfl) (hplain : (backTo cpos (starEach [] X.env)).any (·.1) = false := by rfl)
    (hw : swapsWith (.Call (.Attribute (.Name x px) "append" apos) [e] [] cpos) none pos.line X.env = pure false := by rfl) : VS X (.Expr (.Call (.Attribute (.Name x px) "append" apos) [e] [] cpos) pos) (sApp i f) := by
  refine PSimp (ps_expr (pe_bm PySem.F.plainAttrs_list PySem.F.slot_list_append PySem.F.type_list_append (X := X) (r := rAppend) (by exact fun pins s σ H x xs v us Q I rx rxs h => mt_append pins s σ H x xs v us Q I rx rxs h) (pe_var hN hv hd hcd) (pa_cons he pa_nil hs) hbase hfew hline hs hplain) hw) fun D σ H h => ?_
  obtain ⟨al, S, sl, st, o, ok, e, k⟩ := h
  unfold sApp at e
  split at e
  · rename_i l d st1 hl h1
    split at e
    · rename_i hz
      cases e
      obtain ⟨a, vs, e1, e2, e3, ty⟩ := own_ty ok hl
      refine ⟨.ref a, e1, ty, ePub_read ⟨al, S, sl, st, .val d, _, ok, h1, fun v w1 ok1 x1 rd1 fr1 => ?_⟩⟩
      obtain ⟨a', us, g1, g2, g3, _⟩ := ok1.own i l hl
      rw [e1] at g1
      cases g1
      exact ⟨a, us, v, rfl, rfl, g2, by rw [g3.length, line_eq]; exact hz, k σ (w1.to (upd w1.H a (.lst (us ++ [v])))) (ok1.ownW hl e1 (g3.append (.cons rd1 .nil))) (x1.trans (Ext.ownW ok1 hl e1))⟩
    · cases e
  · cases e
/-- x.extend(e), e a list -/
def sExt (i : Nat) (f : EvF) : SvF := fun sl st => match sl[i]?, f sl st with
  | some (.own l), some (r, st') => (match r.d with | .lst m => if l.length + m.length ≤ line then some (.nx (sl.set i (.own (l ++ m))) st') else none | _ => none)
  | _, _ => none
theorem vs_extend (i : Nat) {x : Str} {px apos cpos : Pos} (he : VE X e f) (hN : X.N[i]? = some x := by rfl) (hv : Vis X.env.scope x := by first | exact Or.inl rfl | exact Or.inr (Or.inl rfl) | exact Or.inr (Or.inr rfl)) (hd : (x == ("__debug__" : Str)) = false := by decide) (hcd : (x == ("__classdict__" : Str)) = false := by decide)
    (hbase : attributeBase (.Name x px) "extend" X.env (eval (.Name x px) X.env) = eval (.Name x px) X.env := by rfl)
    (hfew : ((backTo cpos (starEach (e :: []) X.env)).all (fun x => !x.1) && (backToKw cpos (keywordEach [] X.env)).all (fun x => x.1.isSome) && decide ((e :: []).length + ([] : List Keyword).length + (if ([] : List Keyword).isEmpty then 0 else 1) < 30)) = true := by rfl)
    (hline : (apos.endLine == cpos.line) = true := by rfl) (hs : starEach (e :: []) X.env = (false, eval e X.env) :: starEach [] X.env := by rfl) (hplain : (backTo cpos (starEach [] X.env)).any (·.1) = false := by rfl)
    (hw : swapsWith (.Call (.Attribute (.Name x px) "extend" apos) [e] [] cpos) none pos.line X.env = pure false := by rfl) : VS X (.Expr (.Call (.Attribute (.Name x px) "extend" apos) [e] [] cpos) pos) (sExt i f) := by
  refine PSimp (ps_expr (pe_bm PySem.F.plainAttrs_list PySem.F.slot_list_extend PySem.F.type_list_extend (X := X) (r := rExtend) (by exact fun pins s σ H x xs v us Q I rx rxs h => mt_extend pins s σ H x xs v us Q I rx rxs h) (pe_var hN hv hd hcd) (pa_cons he pa_nil hs) hbase hfew hline hs hplain) hw) fun D σ H h => ?_
  obtain ⟨al, S, sl, st, o, ok, e, k⟩ := h
  unfold sExt at e
  split at e
  · rename_i l r st1 hl h1
    split at e
    · rename_i m hm
      split at e
      · rename_i hz
        cases e
        obtain ⟨a, vs, e1, e2, e3, ty⟩ := own_ty ok hl
        refine ⟨.ref a, e1, ty, ⟨al, S, sl, st, r, _, ok, h1, fun v w1 ok1 x1 rd1 fr1 => ?_⟩⟩
        obtain ⟨a', us, g1, g2, g3, _⟩ := ok1.own i l hl
        rw [e1] at g1
        cases g1
        obtain ⟨b, zs, ev, g4, g5⟩ := rd1.lst ok1 hm
        subst ev
        exact ⟨a, b, us, zs, rfl, rfl, g2, g4, by rw [g3.length, g5.length, line_eq]; exact hz, k σ (w1.to (upd w1.H a (.lst (us ++ zs)))) (ok1.ownW hl e1 (g3.append g5)) (x1.trans (Ext.ownW ok1 hl e1))⟩
      · cases e
    · cases e
  · cases e
/-- target = x.pop() -/
def sPopA (t : Tg) (i : Nat) : SvF := fun sl st => match sl[i]? with
  | some (.own l) => (match l[l.length - 1]? with | some d => (put t d (sl.set i (.own l.dropLast))).map fun sl' => .nx sl' st | none => none)
  | _ => none
theorem vs_popA (i : Nat) {tg : Expr} {t : Tg} {x : Str} {px apos cpos : Pos} (hg : VG X tg t) (hN : X.N[i]? = some x := by rfl) (hv : Vis X.env.scope x := by first | exact Or.inl rfl | exact Or.inr (Or.inl rfl) | exact Or.inr (Or.inr rfl)) (hd : (x == ("__debug__" : Str)) = false := by decide) (hcd : (x == ("__classdict__" : Str)) = false := by decide)
    (hbase : attributeBase (.Name x px) "pop" X.env (eval (.Name x px) X.env) = eval (.Name x px) X.env := by rfl) (hline : (apos.endLine == cpos.line) = true := by rfl)
    (hs : swapsWithSole [tg] (.Call (.Attribute (.Name x px) "pop" apos) [] [] cpos) pos.line X.env = pure false := by rfl) (hw : swappedStores [tg] (.Call (.Attribute (.Name x px) "pop" apos) [] [] cpos) X.env = pure none := by rfl)
    (h1 : (assignEach [tg] X.env).map (·.2) = [assign tg X.env] := by rfl) : VS X (.Assign [tg] (.Call (.Attribute (.Name x px) "pop" apos) [] [] cpos) pos) (sPopA t i) := by
  refine PSimp (ps_asg (pe_bm0 PySem.F.plainAttrs_list PySem.F.slot_list_pop PySem.F.type_list_pop (X := X) (r := rPop) (by exact fun pins s σ H x xs v us Q I rx rxs h => mt_pop pins s σ H x xs v us Q I rx rxs h) (pe_var hN hv hd hcd) hbase hline) hg hs hw h1) fun D σ H h => ?_
  obtain ⟨al, S, sl, st, o, ok, e, k⟩ := h
  unfold sPopA at e
  split at e
  · rename_i l hl
    split at e
    · rename_i d hd'
      cases h2 : put t d (sl.set i (.own l.dropLast)) with
      | none => rw [h2] at e; cases e
      | some sl1 =>
        rw [h2] at e
        cases e
        obtain ⟨a, vs, e1, e2, e3, ty⟩ := own_ty ok hl
        obtain ⟨u, e5, r5⟩ := e3.get hd'
        have x1 := Ext.ownW (us := vs.dropLast) (ds := l.dropLast) ok hl e1
        have ok1 := ok.ownW hl e1 e3.dropLast
        refine ⟨.ref a, e1, ty, a, vs, u, rfl, rfl, e2, by rw [e3.length]; exact e5, ?_⟩
        exact gT_read (w := (Wd.mk al S H).to (upd H a (.lst vs.dropLast))) ok1 (x1.rep (fun c hc => ok.foot hc) r5) h2 fun σ' ok' x' _ => k σ' _ ok' (x1.trans x')
    · cases e
  · cases e
end
end Vx


set_option Elab.async false
set_option linter.all false
set_option maxRecDepth 100000
/-! Vl: more stores, walks, loops, defs and their calls over trees. -/
namespace Vx
open PySem L2

section
variable {X : Cx} {e a b : Expr} {f g h : EvF} {pos : Pos} {FA : EvA}
/-! ### stores into shared lists -/
/-- e.append(b), e a shared list -/
def sLocApp (f g : EvF) : SvF := fun sl st => (f sl st).bind fun p => match ePub g sl p.2 with
  | some (.val d, st2) => (match p.1.d with
    | .loc n => (match st2[n]? with | some l => if l.length < line then some (.nx sl (st2.set n (l ++ [d]))) else none | none => none)
    | _ => none)
  | _ => none
theorem vs_locApp {apos cpos : Pos} (ha : VE X a f) (hb : VE X b g)
    (hbase : attributeBase a "append" X.env (eval a X.env) = eval a X.env := by rfl)
    (hfew : ((backTo cpos (starEach (b :: []) X.env)).all (fun x => !x.1) && (backToKw cpos (keywordEach [] X.env)).all (fun x => x.1.isSome) && decide ((b :: []).length + ([] : List Keyword).length + (if ([] : List Keyword).isEmpty then 0 else 1) < 30)) = true := by rfl)
    (hline : (apos.endLine == cpos.line) = true := by rfl) (hs : starEach (b :: []) X.env = (false, eval b X.env) :: starEach [] X.env := by rfl) (hplain : (backTo cpos (starEach [] X.env)).any (·.1) = false := by rfl)
    (hw : swapsWith (.Call (.Attribute a "append" apos) [b] [] cpos) none pos.line X.env = pure false := by rfl) : VS X (.Expr (.Call (.Attribute a "append" apos) [b] [] cpos) pos) (sLocApp f g) := by
  refine PSimp (ps_expr (pe_bm PySem.F.plainAttrs_list PySem.F.slot_list_append PySem.F.type_list_append (X := X) (r := rAppend) (by exact fun pins s σ H x xs v us Q I rx rxs h => mt_append pins s σ H x xs v us Q I rx rxs h) ha (pa_cons hb pa_nil hs) hbase hfew hline hs hplain) hw) fun D σ H h => ?_
  obtain ⟨al, S, sl, st, o, ok, e, k⟩ := h
  unfold sLocApp at e
  cases h1 : f sl st with
  | none => rw [h1] at e; cases e
  | some p =>
    obtain ⟨x, st1⟩ := p
    rw [h1] at e
    simp only [Option.bind_some] at e
    split at e
    · rename_i d st2 h2
      split at e
      · rename_i n hn
        split at e
        · rename_i l hl
          split at e
          · rename_i hz
            cases e
            refine ⟨al, S, sl, st, x, st1, ok, h1, fun v w1 ok1 x1 rd1 fr1 => ?_⟩
            obtain ⟨p, vs, ds, ev, e1, e2, e3, e4⟩ := loc_read ok1 rd1 hn
            subst ev
            refine ⟨.inl ⟨rfl, vs, SqL.of e2⟩, ePub_read ⟨w1.al, w1.S, sl, st1, .val d, st2, ok1, h2, fun u w2 ok2 x2 rd2 fr2 => ?_⟩⟩
            obtain ⟨q, us, es, ev, g1, g2, g3, g4⟩ := loc_read ok2 (rd1.ext ok1 x2) hn
            cases ev
            rw [hl] at g3
            cases g3
            have x3 : Ext w2 (FootW w2 sl σ) (w2.to (upd w2.H p (.lst (us ++ [u])))) (FootW (w2.to (upd w2.H p (.lst (us ++ [u])))) sl σ) := Ext.ambW ok2 g1
            exact ⟨p, us, u, rfl, rfl, g2, by rw [g4.length, line_eq]; exact hz, k σ (w2.to (upd w2.H p (.lst (us ++ [u])))) (ok2.ambW g1 (g4.append (.cons rd2 .nil))) (x1.trans (x2.trans x3))⟩
          · cases e
        · cases e
      · cases e
    · cases e
/-- a[b] = e, a a shared list -/
def sLocSet (f g h : EvF) : SvF := fun sl st => match ePub f sl st with
  | some (.val d, st1) => (g sl st1).bind fun p => (match h sl p.2 with
    | some (.val (.int i), st3) => (match p.1.d with
      | .loc n => (match st3[n]? with | some l => (match ixN l.length i with | some j => some (.nx sl (st3.set n (l.set j d))) | none => none) | none => none)
      | _ => none)
    | _ => none)
  | _ => none
theorem vs_locSet {ps : Pos} (he : VE X e f) (ha : VE X a g) (hb : VE X b h)
    (hA : ∀ v, assign (.Subscript a b ps) X.env v = (do
      let ov ← holding [v] (eval a X.env)
      let iv ← holding [v, ov] (eval b X.env)
      standAt ps
      holding [v, ov, iv] (setItem ov iv v)
      release [v, ov, iv] []) := by intro _; rfl) (hs : swapsWithSole [.Subscript a b ps] e pos.line X.env = pure false := by rfl) (hw : swappedStores [.Subscript a b ps] e X.env = pure none := by rfl)
    (h1 : (assignEach [.Subscript a b ps] X.env).map (·.2) = [assign (.Subscript a b ps) X.env] := by rfl) : VS X (.Assign [.Subscript a b ps] e pos) (sLocSet f g h) := by
  refine PSimp (ps_asg he (pg_sub ha hb set_list hA) hs hw h1) fun D σ H q => ?_
  obtain ⟨al, S, sl, st, o, ok, e, k⟩ := q
  unfold sLocSet at e
  split at e
  · rename_i d st1 h1
    cases h2 : g sl st1 with
    | none => rw [h2] at e; cases e
    | some p =>
      obtain ⟨x, st2⟩ := p
      rw [h2] at e
      simp only [Option.bind_some] at e
      split at e
      · rename_i i st3 h3
        split at e
        · rename_i n hn
          split at e
          · rename_i l hl
            split at e
            · rename_i j hj
              cases e
              refine ePub_read ⟨al, S, sl, st, .val d, st1, ok, h1, fun v w1 ok1 x1 rd1 fr1 => ⟨w1.al, w1.S, sl, st1, x, st2, ok1, h2, fun u w2 ok2 x2 rd2 fr2 => ⟨w2.al, w2.S, sl, st2, _, st3, ok2, h3, fun y w3 ok3 x3 rd3 fr3 => ?_⟩⟩⟩
              cases rd3
              obtain ⟨q, us, es, ev, g1, g2, g3, g4⟩ := loc_read ok3 (rd2.ext ok2 x3) hn
              subst ev
              rw [hl] at g3
              cases g3
              have rv : Rep X.K w3 v d := x3.rep (fun c hc => ok2.foot hc) (x2.rep (fun c hc => ok1.foot hc) rd1)
              have x4 : Ext w3 (FootW w3 sl σ) (w3.to (upd w3.H q (.lst (us.set j v)))) (FootW (w3.to (upd w3.H q (.lst (us.set j v)))) sl σ) := Ext.ambW ok3 g1
              exact ⟨q, us, i, j, rfl, rfl, g2, by rw [g4.length]; exact hj, k σ (w3.to (upd w3.H q (.lst (us.set j v)))) (ok3.ambW g1 (g4.set rv j)) (x1.trans (x2.trans (x3.trans x4)))⟩
            · cases e
          · cases e
        · cases e
      · cases e
  · cases e
/-! ### a, b = x, y -/
def putK (i : Nat) (own : Bool) (r : R) (sl : Sls) : Option Sls := match own, r with
  | false, .val d => if i < sl.length then some (sl.set i (.pub d)) else none
  | true, .prv l => if i < sl.length then some (sl.set i (.own l)) else none
  | _, _ => none
def sPar (i j : Nat) (o1 o2 : Bool) (FA : EvA) : SvF := fun sl st => match FA sl st with
  | some ([r1, r2], st') => (putK i o1 r1 sl).bind fun sl1 => (putK j o2 r2 sl1).map fun sl2 => .nx sl2 st'
  | _ => none
theorem putK_read {K : PySem.W.Frag} {w w0 : Wd} {F0 : Addr → Prop} {sl sl' : Sls} {st : Amb} {σ : St} {v : V} {r : R} {i : Nat} {o : Bool} (ok : Ok K w sl st σ) (x : Ext w0 F0 w (FootW w sl σ)) (rd : RdR K w sl σ v r) (fr : Frs w0 v r) (e : putK i o r sl = some sl') :
    Ok K w sl' st (σ.set i (some v)) ∧ Ext w0 F0 w (FootW w sl' (σ.set i (some v))) := by
  unfold putK at e
  split at e
  · split at e
    · cases e
      exact ⟨ok.setPub rd, x.trans (Ext.foot _ _ fun a ha => foot_set_pub ha)⟩
    · cases e
  · split at e
    · rename_i hi
      cases e
      refine ⟨ok.setOwn hi rd, ⟨x.keep, x.sS, x.sN, x.al, x.dom, fun a ha => ?_⟩⟩
      obtain ⟨p, vs, ev, _⟩ := rd
      subst ev
      rcases foot_set_own2 hi ok.len ha with ha | rfl
      · exact x.fo a ha
      · exact .inr (fr _ rfl)
    · cases e
  · cases e
theorem vs_par {i j : Nat} {x y : Str} {px py pt : Pos} {kt k2 pt2} (o1 o2 : Bool) (h12 : (o1 && o2) = false) (hc : X.calm = true) (hN : X.N.Nodup) (ha : VA X [a, b] FA) (hij : i ≠ j) (hi : X.N[i]? = some x := by rfl) (hj : X.N[j]? = some y := by rfl)
    (hx : X.env.scope.names.lookup x = some .local := by rfl) (hy : X.env.scope.names.lookup y = some .local := by rfl)
    (hw : swappedStores [.Tuple [.Name x px, .Name y py] kt pt] (.Tuple [a, b] k2 pt2) X.env = pure (some [x, y]) := by rfl)
    (hs : swapsWithSole [.Tuple [.Name x px, .Name y py] kt pt] (.Tuple [a, b] k2 pt2) pos.line X.env = pure false := by rfl) :
    VS X (.Assign [.Tuple [.Name x px, .Name y py] kt pt] (.Tuple [a, b] k2 pt2) pos) (sPar i j o1 o2 FA) := PSimp (ps_par hc hN hi hj hij hx hy ha hw hs) fun D σ H h => by
  obtain ⟨al, S, sl, st, o, ok, e, k⟩ := h
  unfold sPar at e
  split at e
  · rename_i r1 r2 st' h1
    cases h2 : putK i o1 r1 sl with
    | none => rw [h2] at e; cases e
    | some sl1 =>
      rw [h2] at e
      simp only [Option.bind_some] at e
      cases h3 : putK j o2 r2 sl1 with
      | none => rw [h3] at e; cases e
      | some sl2 =>
        rw [h3] at e
        cases e
        refine ⟨al, S, sl, st, _, _, ok, h1, fun vs w1 ok1 x1 rd1 fl1 => ?_⟩
        cases rd1 with
        | @cons v _ _ _ rdv rds =>
          cases rds with
          | @cons u _ _ _ rdu rds =>
            cases rds
            have frv := fl1 0 v r1 rfl rfl
            have fru := fl1 1 u r2 rfl rfl
            obtain ⟨ok2, x2⟩ := putK_read ok1 x1 rdv frv h2
            have rdu' : RdR X.K w1 sl1 (σ.set i (some v)) u r2 := by
              cases r2 with
              | val d => exact rdu
              | bor l => unfold putK at h3; split at h3 <;> first | cases h3 | (rename_i h4; cases h4)
              | prv l =>
                obtain ⟨p, us, g1, g2, g3, g4, g5⟩ := rdu
                refine ⟨p, us, g1, g2, g3, g4, fun f => g5 ?_⟩
                cases o1 with
                | true =>
                  cases o2 with
                  | true => cases h12
                  | false => unfold putK at h3; cases h3
                | false =>
                  cases r1 with
                  | prv m => unfold putK at h2; cases h2
                  | bor m => unfold putK at h2; cases h2
                  | val d =>
                    unfold putK at h2
                    simp only at h2
                    split at h2
                    · cases h2; exact foot_set_pub f
                    · cases h2
            obtain ⟨ok3, x3⟩ := putK_read ok2 x2 rdu' fru h3
            exact ⟨v, u, rfl, k _ w1 ok3 x3⟩
  · cases e
end

/-! ### what is walked -/
abbrev EvI := Sls → Amb → Option (List Vx.D × Amb)
/-- the walk J yields the items l, however the world goes on -/
def ItOk (K : PySem.W.Frag) (w : Wd) (F : Addr → Prop) (J : It) (l : List Vx.D) : Prop :=
  ∀ (w2 : Wd) (F2 : Addr → Prop), Ext w F w2 F2 → ∀ i : Nat, (∀ d, l[i]? = some d → J.go i w2.H ∧ ∀ x H', J.yld i w2.H x H' → (∀ a o, w2.H a = some o → H' a = some o) ∧ (∀ a, H' a = none → w2.H a = none) ∧ Rep K (w2.to H') x d) ∧ (l.length ≤ i → J.stop i w2.H)
def tVI (K : PySem.W.Frag) (f : EvI) : TI := fun σ H R => ∃ al S sl st l st', Ok K ⟨al, S, H⟩ sl st σ ∧ f sl st = some (l, st') ∧
  ∀ J w', Ok K w' sl st' σ → Ext ⟨al, S, H⟩ (Foot al sl σ) w' (FootW w' sl σ) → (∀ P : Addr → Prop, (∀ a, P a → (¬ w'.S a ∧ ∃ vs, w'.H a = some (.lst vs)) ∧ (FootW w' sl σ a ∨ H a ≠ none)) → ItOk K w' P J l) → R J w'.H
abbrev VI (X : Cx) (tg e : Expr) (f : EvI) : Prop := PI X tg e (tVI X.K f)
theorem PIimp {X : Cx} {tg e : Expr} {t t' : TI} (h : PI X tg e t) (i : ∀ σ H Q, t' σ H Q → t σ H Q) : PI X tg e t' := ⟨fun pins s σ H Q I q => h.run pins s σ H Q I (i σ H Q q)⟩
section
variable {K : PySem.W.Frag} {w : Wd} {F : Addr → Prop} {a : Addr} {vs : List V} {ds : List Vx.D}
theorem itOk_list (hf : ∀ a, F a → ¬ w.S a ∧ ∃ vs, w.H a = some (.lst vs)) (r : RepL K w vs ds) (h : ∀ (w2 : Wd) (F2 : Addr → Prop), Ext w F w2 F2 → SqL K w2.H a vs) : ItOk K w F (Itl K a) ds := by
  intro w2 F2 x i
  have hs := h w2 F2 x
  have r2 := x.repL hf r
  refine ⟨fun d hd => ?_, fun hi => ⟨vs, hs, by rw [r.length]; exact hi⟩⟩
  obtain ⟨v, e1, r1⟩ := r2.get hd
  refine ⟨⟨vs, v, hs, e1⟩, fun y H' ⟨eH, ey⟩ => ?_⟩
  subst eH
  have := ey vs hs
  rw [e1] at this
  cases this
  exact ⟨fun _ _ h => h, fun _ h => h, r1⟩
theorem itOk_tup (hf : ∀ a, F a → ¬ w.S a ∧ ∃ vs, w.H a = some (.lst vs)) (r : RepL K w vs ds) (h : SqT K w.H a vs) : ItOk K w F (Itt K a) ds := by
  intro w2 F2 x i
  have hs : SqT K w2.H a vs := (x.repG (K := K) hf).1 a vs h
  have r2 := x.repL hf r
  refine ⟨fun d hd => ?_, fun hi => ⟨vs, hs, by rw [r.length]; exact hi⟩⟩
  obtain ⟨v, e1, r1⟩ := r2.get hd
  refine ⟨⟨vs, v, hs, e1⟩, fun y H' ⟨eH, ey⟩ => ?_⟩
  subst eH
  have := ey vs hs
  rw [e1] at this
  cases this
  exact ⟨fun _ _ h => h, fun _ h => h, r1⟩
theorem rg_get {lo hi : Int} {i : Nat} {d : Vx.D} (h : (rg lo hi)[i]? = some d) : d = .int (lo + i) ∧ i < (hi - lo).toNat := by
  unfold rg at h
  rw [List.getElem?_map] at h
  cases q : (List.range (hi - lo).toNat)[i]? with
  | none => rw [q] at h; cases h
  | some j =>
    rw [q] at h
    obtain ⟨h1, h2⟩ := List.getElem?_eq_some_iff.mp q
    simp at h1 h2
    subst h2
    exact ⟨(Option.some.inj h).symm, by omega⟩
theorem rg_length {lo hi : Int} : (rg lo hi).length = (hi - lo).toNat := by simp [rg]
theorem itOk_rg {lo hi : Int} : ItOk K w F (Itr lo (hi - lo).toNat) (rg lo hi) := by
  intro w2 F2 x i
  refine ⟨fun d hd => ?_, fun h => by rw [rg_length] at h; exact h⟩
  obtain ⟨rfl, hi⟩ := rg_get hd
  exact ⟨hi, fun y H' ⟨eH, ey⟩ => by subst eH ey; exact ⟨fun _ _ h => h, fun _ h => h, .int _⟩⟩
end
/-- the items of a list that may be walked, of a tuple -/
def iSeq (f : EvF) : EvI := fun sl st => match f sl st with
  | some (.val (.lst l), st') => some (l, st')
  | some (.val (.frz l), st') => some (l, st')
  | some (.prv l, st') => some (l, st')
  | _ => none
def iTupD (f : EvF) : EvI := fun sl st => match f sl st with
  | some (.val (.tup l), st') => some (l, st')
  | some (.val (.tpc l), st') => some (l, st')
  | _ => none
def iRg1 (FA : EvA) : EvI := fun sl st => match FA sl st with
  | some ([.val (.int n)], st') => if -4611686018427387904 ≤ n ∧ n < 4611686018427387904 then some (rg 0 n, st') else none
  | _ => none
def iRg2 (FA : EvA) : EvI := fun sl st => match FA sl st with
  | some ([.val (.int i), .val (.int j)], st') => if -4611686018427387904 ≤ i ∧ i < 4611686018427387904 ∧ -4611686018427387904 ≤ j ∧ j < 4611686018427387904 then some (rg i j, st') else none
  | _ => none
section
variable {X : Cx} {tg e a b : Expr} {f : EvF} {FA : EvA} {p pos : Pos}
theorem vi_list (he : VE X e f) : VI X tg e (iSeq f) := PIimp (pi_list he) fun σ H R h => by
  obtain ⟨al, S, sl, st, l, st', ok, e, k⟩ := h
  unfold iSeq at e
  split at e
  · rename_i m st1 h1
    cases e
    refine ⟨al, S, sl, st, _, _, ok, h1, fun v w1 ok1 x1 rd1 fr1 => ?_⟩
    cases rd1 with
    | lst h0 h2 h3 =>
      refine ⟨_, rfl, ⟨_, SqL.of h2⟩, k _ w1 ok1 x1 fun P hP => itOk_list (fun c hc => (hP c hc).1) h3 fun w2 F2 x => SqL.of (x.keep _ _ h2 fun f => (hP _ f).1.1 h0)⟩
  · rename_i m st1 h1
    cases e
    refine ⟨al, S, sl, st, _, _, ok, h1, fun v w1 ok1 x1 rd1 fr1 => ?_⟩
    cases rd1 with
    | frz h2 h3 =>
      refine ⟨_, rfl, ⟨_, .inl (.inr ⟨_, h2⟩)⟩, k _ w1 ok1 x1 fun P hP => itOk_list (fun c hc => (hP c hc).1) h3 fun w2 F2 x => .inl (.inr ⟨_, x.keep _ _ h2 fun f => ?_⟩)⟩
      obtain ⟨⟨_, vs, e⟩, _⟩ := hP _ f
      rw [h2] at e; cases e
    | frk a b c d e f h3 => exact ⟨_, rfl, ⟨_, .inr ⟨_, _, _, a, b, c, d, e, f⟩⟩, k _ w1 ok1 x1 fun P hP => itOk_list (fun c hc => (hP c hc).1) h3 fun w2 F2 x => .inr ⟨_, _, _, a, b, c, d, e, f⟩⟩
  · rename_i m st1 h1
    cases e
    refine ⟨al, S, sl, st, _, _, ok, h1, fun v w1 ok1 x1 rd1 fr1 => ?_⟩
    obtain ⟨c, vs, ev, h2, h3, h4, h5⟩ := rd1
    exact ⟨c, ev, ⟨_, SqL.of h2⟩, k _ w1 ok1 x1 fun P hP => itOk_list (fun c hc => (hP c hc).1) h3 fun w2 F2 x => SqL.of (x.keep _ _ h2 fun f => (hP _ f).2.elim h5 fun z => z (fr1 _ ev))⟩
  · cases e
theorem vi_tup (he : VE X e f) : VI X tg e (iTupD f) := PIimp (pi_tup he) fun σ H R h => by
  obtain ⟨al, S, sl, st, l, st', ok, e, k⟩ := h
  unfold iTupD at e
  split at e
  · rename_i m st1 h1
    cases e
    refine ⟨al, S, sl, st, _, _, ok, h1, fun v w1 ok1 x1 rd1 fr1 => ?_⟩
    cases rd1 with
    | tup h2 h3 => exact ⟨_, rfl, ⟨_, h2⟩, k _ w1 ok1 x1 fun P hP => itOk_tup (fun c hc => (hP c hc).1) h3 h2⟩
  · rename_i m st1 h1
    cases e
    refine ⟨al, S, sl, st, _, _, ok, h1, fun v w1 ok1 x1 rd1 fr1 => ?_⟩
    cases rd1 with
    | tpc h2 hn h3 => exact ⟨_, rfl, ⟨_, .inl (.inr ⟨_, h2⟩)⟩, k _ w1 ok1 x1 fun P hP => itOk_tup (fun c hc => (hP c hc).1) h3 (.inl (.inr ⟨_, h2⟩))⟩
  · cases e
theorem vi_rg1 (hg : Gl X "range") (hm : X.mg "range" = none) (ha : VA X [a] FA) (hs : starEach [a] X.env = [(false, eval a X.env)] := by rfl) : VI X tg (.Call (.Name "range" p) [a] [] pos) (iRg1 FA) := PIimp (pi_range1 hg hm ha hs) fun σ H R h => by
  obtain ⟨al, S, sl, st, l, st', ok, e, k⟩ := h
  unfold iRg1 at e
  split at e
  · rename_i n st1 h1
    split at e
    · rename_i hz
      cases e
      refine ⟨al, S, sl, st, _, _, ok, h1, fun vs w1 ok1 x1 rd1 fl1 => ?_⟩
      cases rd1 with
      | cons r1 r2 =>
        cases r2
        cases r1
        refine ⟨n, rfl, by omega, by omega, ?_⟩
        have it : ∀ P, ItOk X.K w1 P (Itr 0 (n - 0).toNat) (rg 0 n) := fun P => itOk_rg
        rw [Int.sub_zero] at it
        exact k _ w1 ok1 x1 fun P _ => it P
    · cases e
  · cases e
theorem vi_rg2 (hg : Gl X "range") (hm : X.mg "range" = none) (ha : VA X [a, b] FA) (hs : starEach [a, b] X.env = [(false, eval a X.env), (false, eval b X.env)] := by rfl) (hs2 : starEach [b] X.env = [(false, eval b X.env)] := by rfl) : VI X tg (.Call (.Name "range" p) [a, b] [] pos) (iRg2 FA) := PIimp (pi_range2 hg hm ha hs hs2) fun σ H R h => by
  obtain ⟨al, S, sl, st, l, st', ok, e, k⟩ := h
  unfold iRg2 at e
  split at e
  · rename_i i j st1 h1
    split at e
    · rename_i hz
      cases e
      refine ⟨al, S, sl, st, _, _, ok, h1, fun vs w1 ok1 x1 rd1 fl1 => ?_⟩
      cases rd1 with
      | cons r1 r2 =>
        cases r2 with
        | cons r2 r3 =>
          cases r3
          cases r1
          cases r2
          exact ⟨i, j, rfl, ⟨by omega, by omega, by omega, by omega⟩, k _ w1 ok1 x1 fun P _ => itOk_rg⟩
    · cases e
  · cases e
end

/-! ### loops -/
def forL (t : Tg) (B : SvF) : List Vx.D → Sls → Amb → Option Out
  | [], sl, st => some (.nx sl st)
  | d :: l, sl, st => (put t d sl).bind fun sl1 => (B sl1 st).bind fun o => match o with
    | .nx sl' st' => forL t B l sl' st'
    | .ct sl' st' => forL t B l sl' st'
    | .bk sl' st' => some (.nx sl' st')
    | .rt r st' => some (.rt r st')
def sFor (fi : EvI) (t : Tg) (B : SvF) : SvF := fun sl st => (fi sl st).bind fun p => forL t B p.1 sl p.2
def whL (t : EvB) (B : SvF) : Nat → Sls → Amb → Option Out
  | 0, _, _ => none
  | n + 1, sl, st => (t sl st).bind fun p => if p.1 = true then (B sl p.2).bind fun o => match o with
      | .nx sl' st' => whL t B n sl' st'
      | .ct sl' st' => whL t B n sl' st'
      | .bk sl' st' => some (.nx sl' st')
      | .rt r st' => some (.rt r st')
    else some (.nx sl p.2)
def sWhile (n : Nat) (t : EvB) (B : SvF) : SvF := fun sl st => whL t B n sl st
section
variable {X : Cx} {tg iter c : Expr} {body : List Stmt} {fi : EvI} {t : Tg} {B : SvF} {tB : EvB} {pos : Pos}
theorem vs_for (hp : PassesOwn (model X.prog X.w) X.A X.env X.xe) (hc : X.calm = true) (hi : VI X tg iter fi) (hg : VG X tg t) (hb : VSs X body B)
    (hs : ∀ x, foldedSetIterable iter X.env x = pure x := by intro _; rfl) : VS X (.For tg iter body [] pos) (sFor fi t B) := PSimp (ps_for hp hc hi hg hb hs) fun D σ0 H0 h => by
  obtain ⟨al, S, sl, st, o, ok, e, k⟩ := h
  unfold sFor at e
  cases h1 : fi sl st with
  | none => rw [h1] at e; cases e
  | some p =>
    obtain ⟨l, st1⟩ := p
    rw [h1] at e
    simp only [Option.bind_some] at e
    refine ⟨al, S, sl, st, l, st1, ok, h1, fun J w1 ok1 x1 it => ?_⟩
    have it := it (FootW w1 sl σ0) fun a f => ⟨ok1.foot f, .inl f⟩
    have k1 : Fin X.K w1 (FootW w1 sl σ0) D o := k.back x1
    refine ⟨fun i m σ H => m = l.length - i ∧ i ≤ l.length ∧ ∃ w sl' st', w.H = H ∧ Ok X.K w sl' st' σ ∧ Ext w1 (FootW w1 sl σ0) w (FootW w sl' σ) ∧ forL t B (l.drop i) sl' st' = some o,
      ⟨l.length, by simp, Nat.zero_le _, w1, sl, st1, rfl, ok1, Ext.refl, by simpa using e⟩, ?_⟩
    rintro i m σ H ⟨rfl, hi, w, sl', st', rfl, ok', x', ef⟩
    obtain ⟨i1, i2⟩ := it w _ x' i
    by_cases hlt : i < l.length
    · obtain ⟨g1, g2⟩ := i1 l[i] (List.getElem?_eq_getElem hlt)
      have hd : l.drop i = l[i] :: l.drop (i + 1) := List.drop_eq_getElem_cons hlt
      rw [hd, forL] at ef
      refine .inr ⟨g1, fun σ' H' => ∃ m', m' < l.length - i ∧ (m' = l.length - (i + 1) ∧ i + 1 ≤ l.length ∧ ∃ w sl' st', w.H = H' ∧ Ok X.K w sl' st' σ' ∧ Ext w1 (FootW w1 sl σ0) w (FootW w sl' σ') ∧ forL t B (l.drop (i + 1)) sl' st' = some o), fun σ' H' z => z, fun y H' hy => ?_⟩
      obtain ⟨y1, y2, y3⟩ := g2 y H' hy
      have ok2 : Ok X.K (w.to H') sl' st' σ := ok'.grow y1 y2
      have x2 : Ext w (FootW w sl' σ) (w.to H') (FootW (w.to H') sl' σ) := Ext.grow y1 y2
      cases h2 : put t l[i] sl' with
      | none => rw [h2] at ef; cases ef
      | some sl1 =>
        rw [h2] at ef
        simp only [Option.bind_some] at ef
        cases h3 : B sl1 st' with
        | none => rw [h3] at ef; cases ef
        | some o1 =>
          rw [h3] at ef
          simp only [Option.bind_some] at ef
          refine gT_read (w := w.to H') ok2 y3 h2 fun σ2 ok3 x3 _ => ⟨w.al, w.S, sl1, st', o1, ok3, h3, ?_⟩
          have xx := x'.trans (x2.trans x3)
          cases o1 with
          | nx sl2 st2 => exact fun σ' w' ok4 x4 => ⟨_, (by omega), rfl, hlt, w', sl2, st2, rfl, ok4, xx.trans x4, ef⟩
          | ct sl2 st2 => exact fun σ' w' ok4 x4 => ⟨_, (by omega), rfl, hlt, w', sl2, st2, rfl, ok4, xx.trans x4, ef⟩
          | bk sl2 st2 => cases ef; exact fun σ' w' ok4 x4 => k1 σ' w' ok4 (xx.trans x4)
          | rt r st2 => cases ef; exact fun v w' am x4 rd fr => k1 v w' am (xx.trans x4) rd (fr.back xx)
    · have hn : i = l.length := by omega
      subst hn
      rw [List.drop_length, forL] at ef
      cases ef
      exact .inl ⟨i2 (Nat.le_refl _), k1 σ w ok' x'⟩
theorem vs_while (n : Nat) (hp : PassesOwn (model X.prog X.w) X.A X.env X.xe) (hc : VT X c tB) (hb : VSs X body B) : VS X (.While c body [] pos) (sWhile n tB B) := PSimp (ps_while hp hc hb) fun D σ0 H0 h => by
  obtain ⟨al, S, sl, st, o, ok, e, k⟩ := h
  refine ⟨fun m σ H => ∃ w sl' st', w.H = H ∧ Ok X.K w sl' st' σ ∧ Ext ⟨al, S, H0⟩ (Foot al sl σ0) w (FootW w sl' σ) ∧ whL tB B m sl' st' = some o, ⟨n, ⟨al, S, H0⟩, sl, st, rfl, ok, Ext.refl, e⟩, ?_⟩
  rintro m σ H ⟨w, sl', st', rfl, ok', x', ef⟩
  cases m with
  | zero => rw [whL] at ef; cases ef
  | succ m =>
    rw [whL] at ef
    cases h1 : tB sl' st' with
    | none => rw [h1] at ef; cases ef
    | some p =>
      obtain ⟨b, st1⟩ := p
      rw [h1] at ef
      simp only [Option.bind_some] at ef
      refine ⟨w.al, w.S, sl', st', b, st1, ok', h1, fun w1 ok1 x1 => ?_⟩
      cases b with
      | true =>
        simp only [if_true] at ef ⊢
        cases h3 : B sl' st1 with
        | none => rw [h3] at ef; cases ef
        | some o1 =>
          rw [h3] at ef
          simp only [Option.bind_some] at ef
          refine ⟨fun σ' H' => ∃ m', m' < m + 1 ∧ ∃ w sl' st', w.H = H' ∧ Ok X.K w sl' st' σ' ∧ Ext ⟨al, S, H0⟩ (Foot al sl σ0) w (FootW w sl' σ') ∧ whL tB B m' sl' st' = some o, fun σ' H' z => z, w1.al, w1.S, sl', st1, o1, ok1, h3, ?_⟩
          have xx := x'.trans x1
          cases o1 with
          | nx sl2 st2 => exact fun σ' w' ok4 x4 => ⟨m, Nat.lt_succ_self _, w', sl2, st2, rfl, ok4, xx.trans x4, ef⟩
          | ct sl2 st2 => exact fun σ' w' ok4 x4 => ⟨m, Nat.lt_succ_self _, w', sl2, st2, rfl, ok4, xx.trans x4, ef⟩
          | bk sl2 st2 => cases ef; exact fun σ' w' ok4 x4 => k σ' w' ok4 (xx.trans x4)
          | rt r st2 => cases ef; exact fun v w' am x4 rd fr => k v w' am (xx.trans x4) rd (fr.back xx)
      | false =>
        simp only [Bool.false_eq_true, if_false] at ef ⊢
        cases ef
        exact k σ w1 ok1 (x'.trans x1)
end
end Vx


set_option Elab.async false
set_option linter.all false
set_option maxRecDepth 100000
/-! Vf: defs and their calls over trees. -/
namespace Vx
open PySem PySem.Spec L2

/-- what a def makes of its arguments and of the shared lists -/
abbrev Mean := List Vx.D → Amb → Option (R × Amb)
def spV (K : PySem.W.Frag) (n : Nat) (m : Mean) : Sp := fun vs H Q _ => ∃ al S ds st r st', AmbOk K ⟨al, S, H⟩ st ∧ RepL K ⟨al, S, H⟩ vs ds ∧ ds.length = n ∧ m ds st = some (r, st') ∧
  ∀ v w', AmbOk K w' st' → Ext ⟨al, S, H⟩ (· ∈ al) w' (· ∈ w'.al) → RdF K w' v r → Frs ⟨al, S, H⟩ v r → Q v w'.H
/-- the meaning of a body -/
def meanOf (N n : Nat) (F : SvF) : Mean := fun ds st => match F (ds.map .pub ++ List.replicate (N - n) .un) st with
  | some (.rt r st') => some (r, st')
  | some (.nx _ st') => some (.val .non, st')
  | _ => none
abbrev VFn (P : Program) (w : World) (K : PySem.W.Frag) (mg : Str → Option Value) (base : Heap) (k : Nat) (f : Addr) (fd : FuncData) (ps : List Str) (m : Mean) : Prop := FnOk P w K mg base CX0 k f fd ps (spV K ps.length m)

theorem okV {P : Program} {w : World} {K : PySem.W.Frag} {mg : Str → Option Value} {base : Heap} {x qual : Str} {st : Stmt} {f : Addr} {fd : FuncData} {N ps : List Str} {k : Nat} {B : SvF} (Fn : Fun K x qual st f fd) (S : FnScope N ps (defScope st))
    (body : ∀ (cdv : Value) (A : Around) (outer : List Env) (s : Shared) (H : Hp) (E : XK), Room k (A.deeper (PyProof.Rows.envOfC qual (defScope st) s.heap.objs.size f cdv)) → VSs (cxOf CX0 P w K mg base N qual (defScope st) f cdv A outer s H E).nox (defBody st) B) :
    VFn P w K mg base (k + 1) f fd ps (meanOf N.length ps.length B) := by
  refine Fn.ok S (fun vs H Q E h => ?_) (fun cdv A outer s H vs Q E hr h => ⟨_, body cdv A outer s H E hr, ?_⟩)
  · obtain ⟨al, S, ds, st, r, st', am, rl, hl, _⟩ := h
    rw [rl.length, hl]
  · obtain ⟨al, SS, ds, stt, r, st', am, rl, hl, hm, kk⟩ := h
    unfold meanOf at hm
    have hvl : vs.length = ds.length := rl.length
    have own0 : ∀ (i : Nat) (l : List Vx.D), (ds.map Sl.pub ++ List.replicate (N.length - ps.length) Sl.un)[i]? ≠ some (.own l) := fun i l z => by
      rcases Nat.lt_or_ge i ds.length with q | q
      · rw [List.getElem?_append_left (by simpa using q), List.getElem?_map] at z
        cases hh : ds[i]? with
        | none => rw [hh] at z; cases z
        | some d => rw [hh] at z; cases z
      · rw [List.getElem?_append_right (by simpa using q)] at z
        have := List.mem_of_getElem? z
        rw [List.mem_replicate] at this
        cases this.2
    have ok0 : Ok K ⟨al, SS, H⟩ (ds.map Sl.pub ++ List.replicate (N.length - ps.length) Sl.un) stt (L2.start N vs) := by
      refine ⟨am, ?_, fun i d h => ?_, fun i l h => absurd h (own0 i l), fun i j l m a h1 => absurd h1 (own0 i l)⟩
      · unfold L2.start
        simp only [List.length_append, List.length_map, List.length_replicate]
        rw [hvl, hl]
      · rcases Nat.lt_or_ge i ds.length with q | q
        · rw [List.getElem?_append_left (by simpa using q), List.getElem?_map] at h
          cases hh : ds[i]? with
          | none => rw [hh] at h; cases h
          | some d' =>
            rw [hh] at h
            cases h
            obtain ⟨v, e, r⟩ := rl.get hh
            refine ⟨v, ?_, r⟩
            unfold L2.start
            rw [List.getElem?_append_left (by simpa [hvl] using q), List.getElem?_map, e]
            rfl
        · rw [List.getElem?_append_right (by simpa using q)] at h
          have := List.mem_of_getElem? h
          rw [List.mem_replicate] at this
          cases this.2
    have ft : ∀ a, Foot al (ds.map Sl.pub ++ List.replicate (N.length - ps.length) Sl.un) (L2.start N vs) a → a ∈ al := fun a h => by
      rcases h with h | ⟨i, l, h, _⟩
      · exact h
      · exact absurd h (own0 i l)
    have ex : ∀ {w' : Wd} {F' : Addr → Prop}, Ext ⟨al, SS, H⟩ (Foot al (ds.map Sl.pub ++ List.replicate (N.length - ps.length) Sl.un) (L2.start N vs)) w' F' → (∀ a, a ∈ w'.al → F' a) → Ext ⟨al, SS, H⟩ (· ∈ al) w' (· ∈ w'.al) := fun x h =>
      ⟨fun a o e n => x.keep a o e fun z => n (ft a z), x.sS, fun a s => (x.sN a s).imp id (Or.imp id (ft a)), x.al, x.dom, fun a m => (x.fo a (h a m)).imp (ft a) id⟩
    cases hB : B (ds.map Sl.pub ++ List.replicate (N.length - ps.length) Sl.un) stt with
    | none => rw [hB] at hm; cases hm
    | some o =>
      rw [hB] at hm
      refine ⟨al, SS, _, stt, o, ok0, hB, ?_⟩
      cases o with
      | bk sl st => cases hm
      | ct sl st => cases hm
      | nx sl st =>
        cases hm
        exact fun σ' w' ok' x' => kk .non w' ok'.amb (ex x' fun a m => .inl m) .non trivial
      | rt r st =>
        cases hm
        intro v w' am' x' rd fr
        refine kk v w' am' (ex x' fun a m => m) rd ?_
        cases r with
        | val d => trivial
        | bor d => trivial
        | prv l =>
          intro a ea
          rcases fr a ea with h | h
          · exact h
          · obtain ⟨b, us, eb, _, _, _, nb⟩ := rd
            rw [ea] at eb
            cases eb
            exact absurd (x'.mem (ft a h)) nb
/-- another meaning that is the same where it says anything -/
theorem VFn_imp {P : Program} {w : World} {K : PySem.W.Frag} {mg : Str → Option Value} {base : Heap} {k : Nat} {f : Addr} {fd : FuncData} {ps : List Str} {m m' : Mean} (F : VFn P w K mg base k f fd ps m) (h : ∀ ds st r, m' ds st = some r → m ds st = some r) : VFn P w K mg base k f fd ps m' :=
  F.imp fun vs H Q E ⟨al, S, ds, st, r, st', am, rl, hl, hm, kk⟩ => ⟨al, S, ds, st, r, st', am, rl, hl, h _ _ _ hm, kk⟩

def eCall (m : Mean) (FA : EvA) : EvF := fun sl st => (FA sl st).bind fun p => (vals p.1).bind fun ds => m ds p.2
section
variable {K : PySem.W.Frag} {w w' : Wd} {sl : Sls} {st st' : Amb} {σ : St} {v : V} {r : R}
/-- behind a call -/
theorem call_back (ok : Ok K w sl st σ) (am : AmbOk K w' st') (x : Ext w (· ∈ w.al) w' (· ∈ w'.al)) (rd : RdF K w' v r) (fr : Frs w v r) : Ok K w' sl st' σ ∧ Ext w (FootW w sl σ) w' (FootW w' sl σ) ∧ RdR K w' sl σ v r := by
  have hf : ∀ a, a ∈ w.al → ¬ w.S a ∧ ∃ vs, w.H a = some (.lst vs) := fun a m => ok.amb.mem m
  have own : ∀ (i : Nat) (ds : List Vx.D), sl[i]? = some (.own ds) → ∃ a vs, σ[i]? = some (some (.ref a)) ∧ w'.H a = some (.lst vs) ∧ RepL K w' vs ds ∧ ¬ w'.S a ∧ a ∉ w'.al := fun i ds h => by
    obtain ⟨a, vs, e1, e2, e3, s, m⟩ := ok.own i ds h
    refine ⟨a, vs, e1, x.keep _ _ e2 m, x.repL hf e3, fun q => ?_, fun q => ?_⟩
    · rcases x.sN a q with q | q | q
      · exact s q
      · rw [e2] at q; cases q
      · exact m q
    · rcases x.fo a q with q | q
      · exact m q
      · rw [e2] at q; cases q
  have ok' : Ok K w' sl st' σ := ⟨am, ok.len, fun i d h => by
    obtain ⟨u, e, ru⟩ := ok.pub i d h
    exact ⟨u, e, x.rep hf ru⟩, own, ok.dis⟩
  refine ⟨ok', ⟨fun a o e n => x.keep a o e fun m => n (.inl m), x.sS, fun a s => (x.sN a s).imp id (Or.imp id .inl), x.al, x.dom, fun a f => ?_⟩, ?_⟩
  · rcases f with f | ⟨i, ds, h1, h2⟩
    · exact (x.fo a f).imp .inl id
    · exact .inl (.inr ⟨i, ds, h1, h2⟩)
  · cases r with
    | val d => exact rd
    | bor d => exact rd.elim
    | prv l =>
      obtain ⟨a, vs, e, h1, h2, h3, h4⟩ := rd
      refine ⟨a, vs, e, h1, h2, h3, fun f => ?_⟩
      rcases f with f | ⟨i, ds, g1, g2⟩
      · exact h4 f
      · obtain ⟨b, us, k1, k2, _⟩ := ok.own i ds g1
        rw [g2] at k1
        cases k1
        have := fr a e
        rw [k2] at this
        cases this
end
section
variable {X : Cx} {k : Nat} {f : Addr} {fd : FuncData} {ps ks : List Str} {m : Mean} {x : Str} {p pos : Pos} {e : Expr} {es : List Expr} {FA : EvA} {kws : List Keyword}
theorem call_read {σ : St} {H : Hp} {Q : VK} {E : XK} (h : tV X.K (eCall m FA) σ H Q) {n : Nat} (hn : ∀ sl st rs ds st', FA sl st = some (rs, st') → vals rs = some ds → ds.length = n) : tVA X.K FA σ H fun vs H1 => spV X.K n m vs H1 Q E := by
  obtain ⟨al, S, sl, st, r, st', ok, e, kk⟩ := h
  unfold eCall at e
  cases h1 : FA sl st with
  | none => rw [h1] at e; cases e
  | some q =>
    obtain ⟨rs, st1⟩ := q
    rw [h1] at e
    simp only [Option.bind_some] at e
    cases h2 : vals rs with
    | none => rw [h2] at e; cases e
    | some ds =>
      rw [h2] at e
      simp only [Option.bind_some] at e
      refine ⟨al, S, sl, st, rs, st1, ok, h1, fun vs w1 ok1 x1 rd1 _ => ⟨w1.al, w1.S, ds, st1, r, st', ok1.amb, vals_rep rd1 h2, hn _ _ _ _ _ h1 h2, e, fun v w' am x' rd fr => ?_⟩⟩
      obtain ⟨ok', x2, rd2⟩ := call_back ok1 am x' rd fr
      exact kk v w' ok' (x1.trans x2) rd2 (fr.back x1)
/-- an argument list of so many -/
def LenA (FA : EvA) (n : Nat) : Prop := ∀ sl st rs st', FA sl st = some (rs, st') → rs.length = n
theorem lenA_nil : LenA eNil 0 := fun sl st rs st' h => by cases h; rfl
theorem lenA_cons {f : EvF} {n : Nat} (h : LenA FA n) : LenA (eCons f FA) (n + 1) := fun sl st rs st' e => by
  unfold eCons at e
  cases h1 : f sl st with
  | none => rw [h1] at e; cases e
  | some q =>
    rw [h1] at e
    simp only [Option.bind_some] at e
    cases h2 : FA sl q.2 with
    | none => rw [h2] at e; cases e
    | some q2 =>
      rw [h2] at e
      cases e
      simp [h sl q.2 q2.1 q2.2 h2]
theorem vals_length : ∀ {rs : List R} {ds : List Vx.D}, vals rs = some ds → ds.length = rs.length
  | [], _, e => by cases e; rfl
  | .val d :: rs, _, e => by
    cases h1 : vals rs with
    | none => simp [vals, h1] at e
    | some ds =>
      simp only [vals, h1, Option.map_some, Option.some.injEq] at e
      subst e
      simp [vals_length h1]
  | .prv _ :: _, _, e => by simp [vals] at e
  | .bor _ :: _, _, e => by simp [vals] at e
theorem ve_call (F : VFn X.prog X.w X.K X.mg X.base k f fd ps m) (hr : Room k X.A) (hg : Gl X x) (hm : X.mg x = some (.ref f)) (hk : PySem.W.keepIn X.K (.ref f) = true) (hb : Binds X.K fd ps []) (ha : VA X (e :: es) FA) (hn : LenA FA ps.length)
    (hdb : (x == ("__debug__" : Str)) = false := by decide) (he : starEach (e :: es) X.env = (false, eval e X.env) :: starEach es X.env := by rfl) (hpl : (backTo pos (starEach es X.env)).any (·.1) = false := by rfl) :
    VE X (.Call (.Name x p) (e :: es) [] pos) (eCall m FA) := by
  refine PEimp (pe_call (E := E0) F hr hg hm hk hb .nil pass0 ha hdb he hpl) fun σ H Q h => ?_
  have q := call_read (E := E0) h (n := ps.length) fun sl st rs ds st' h1 h2 => by rw [vals_length h2]; exact hn sl st rs st' h1
  obtain ⟨al, S, sl, st, r, st', ok, e, kk⟩ := q
  exact ⟨al, S, sl, st, r, st', ok, e, fun vs w' ok' x' rd fl => by
    show spV X.K ps.length m (vs ++ []) w'.H Q E0
    rw [List.append_nil]; exact kk vs w' ok' x' rd fl⟩
/-! ### keywords alone -/
abbrev VKw (X : Cx) (kws : List Keyword) (f : EvA) : Prop := PK X kws (tVA X.K f)
theorem PKimp {t t' : TA} (h : PK X kws t) (i : ∀ σ H Q, t' σ H Q → t σ H Q) : PK X kws t' := ⟨fun pos pins s σ H Q I q => h.run pos pins s σ H Q I (i σ H Q q)⟩
theorem vk_nil : VKw X [] eNil := by
  refine PKimp pk_nil fun σ H Q h => ?_
  obtain ⟨al, S, sl, st, r, st', ok, e, k⟩ := h
  cases e
  exact k [] ⟨al, S, H⟩ ok Ext.refl .nil fun i v r e => by simp at e
theorem vk_cons {g : EvF} {nm : Option Str} {kpos : Pos} (ha : VE X e g) (hr : VKw X kws FA) : VKw X (⟨nm, e, kpos⟩ :: kws) (eCons g FA) := by
  refine PKimp (pk_cons ha hr) fun σ H Q h => ?_
  obtain ⟨al, S, sl, st, r, st', ok, e, k⟩ := h
  unfold eCons at e
  cases h1 : g sl st with
  | none => rw [h1] at e; cases e
  | some p =>
    obtain ⟨x, st1⟩ := p
    rw [h1] at e
    simp only [Option.bind_some] at e
    cases h2 : FA sl st1 with
    | none => rw [h2] at e; cases e
    | some q =>
      obtain ⟨ys, st2⟩ := q
      rw [h2] at e
      cases e
      refine ⟨al, S, sl, st, x, st1, ok, h1, fun v w1 ok1 x1 rd1 fr1 => ⟨w1.al, w1.S, sl, st1, ys, _, ok1, h2, fun vs w2 ok2 x2 rd2 fl2 => ?_⟩⟩
      exact k (v :: vs) w2 ok2 (x1.trans x2) (.cons (rd1.ext ok1 x2) rd2) fun i u r e1 e2 => by
        cases i with
        | zero => simp at e1 e2; subst e1 e2; exact fr1
        | succ i => exact (fl2 i u r (by simpa using e1) (by simpa using e2)).back x1
/-- a list by places of another one -/
def pick {α : Type} (ix : List Nat) (l : List α) : List α := ix.flatMap fun i => (l[i]?).toList
theorem pick_vals {xs : List V} {us : List Value} (r : Vals xs us) : ∀ ix : List Nat, Vals (pick ix xs) (pick ix us)
  | [] => .nil
  | i :: ix => by
    unfold pick
    rw [List.flatMap_cons, List.flatMap_cons]
    refine Vals.append ?_ (pick_vals r ix)
    cases h : xs[i]? with
    | none => rw [r.none_of h]; exact .nil
    | some x =>
      obtain ⟨u, e, ru⟩ := r.get h
      rw [e]
      exact .cons ru .nil
theorem pick_rep {K : PySem.W.Frag} {w : Wd} {vs : List V} {ds : List Vx.D} (r : RepL K w vs ds) : ∀ ix : List Nat, RepL K w (pick ix vs) (pick ix ds)
  | [] => .nil
  | i :: ix => by
    unfold pick
    rw [List.flatMap_cons, List.flatMap_cons]
    refine RepL.append ?_ (pick_rep r ix)
    cases h : ds[i]? with
    | none =>
      have : vs[i]? = none := by
        rw [List.getElem?_eq_none_iff] at h ⊢
        rw [r.length]; exact h
      rw [this]; exact .nil
    | some d =>
      obtain ⟨v, e, ru⟩ := r.get h
      rw [e]
      exact .cons ru .nil
/-- f(k = v, ..): the parameters by places of the keywords -/
theorem kbn_pick {K : PySem.W.Frag} {nm qual : Str} {st : Stmt} (F : Fun K nm qual st f fd) (ix : List Nat)
    (h : ∀ (kV doc pm : Value) (an : Option Addr) (cdv ct : Value) (ws : List Value), ws.length = ks.length → bindArgs (PySem.W.fnOf nm qual (defArgs st) (defBody st) (defScope st) .none kV doc pm an cdv ct) ⟨[], ks.zip ws⟩ = pure (ps.zip (pick ix ws))) :
    KBn K fd ps 0 ks (fun _ ws => pick ix ws) (fun _ zs => pick ix zs) := by
  obtain ⟨oc, od, kV, doc, pm, an, cdv, ct, osl, rfl, lk, hcd⟩ := F.ex
  refine ⟨fun s us ws _ hu hw => ?_, fun _ r => pick_vals r ix⟩
  have : us = [] := List.eq_nil_of_length_eq_zero hu
  subst this
  exact .of_eq (h kV doc pm an cdv ct ws hw)
def eCallK (m : Mean) (ix : List Nat) (FA : EvA) : EvF := fun sl st => (FA sl st).bind fun p => (vals p.1).bind fun ds => m (pick ix ds) p.2
theorem ve_callK (ix : List Nat) (F : VFn X.prog X.w X.K X.mg X.base k f fd ps m) (hr : Room k X.A) (hg : Gl X x) (hm : X.mg x = some (.ref f)) (hk : PySem.W.keepIn X.K (.ref f) = true) (hb : KBn X.K fd ps 0 ks (fun _ ws => pick ix ws) (fun _ zs => pick ix zs)) (hkw : VKw X kws FA) (hn : LenA FA ks.length)
    (hp : ∀ l : List Vx.D, l.length = ks.length → (pick ix l).length = ps.length)
    (hall : (backToKw pos (keywordEach kws X.env)).all (·.1.isSome) = true := by rfl) (hks : (backToKw pos (keywordEach kws X.env)).filterMap (·.1) = ks := by rfl)
    (hdb : (x == ("__debug__" : Str)) = false := by decide) (hpl : ((backTo pos (starEach [] X.env)).any (·.1) || (backToKw pos (keywordEach kws X.env)).any (·.1.isNone)) = false := by rfl) :
    VE X (.Call (.Name x p) [] kws pos) (eCallK m ix FA) := by
  refine ⟨fun pins s σ H Q I h => ?_⟩
  refine wpAny_Call_Name_kw (ld_glob I hg hm ?_ hdb)
  refine PySem.W.callWith_KW0 (h₀ := X.base) I.ok.mod.kin hk hall (thn (hkw.run pos pins s σ H (fun zs H1 => zs.length = ks.length ∧ spV X.K ps.length m (pick ix zs) H1 Q E0) I ?_) fun ws s2 ⟨zs, H2, I2, rz, l2, q2⟩ => ⟨I2.kIn, ?_⟩) hpl
  · obtain ⟨al, S, sl, st, r, st', ok, e, kk⟩ := h
    unfold eCallK at e
    cases h1 : FA sl st with
    | none => rw [h1] at e; cases e
    | some q =>
      obtain ⟨rs, st1⟩ := q
      rw [h1] at e
      simp only [Option.bind_some] at e
      cases h2 : vals rs with
      | none => rw [h2] at e; cases e
      | some ds =>
        rw [h2] at e
        simp only [Option.bind_some] at e
        refine ⟨al, S, sl, st, rs, st1, ok, h1, fun vs w1 ok1 x1 rd1 _ => ⟨?_, w1.al, w1.S, pick ix ds, st1, r, st', ok1.amb, pick_rep (vals_rep rd1 h2) ix, hp ds (by rw [vals_length h2]; exact hn _ _ _ _ h1), e, fun v w' am x' rd fr => ?_⟩⟩
        · rw [(vals_rep rd1 h2).length, vals_length h2]; exact hn _ _ _ _ h1
        · obtain ⟨ok', x2, rd2⟩ := call_back ok1 am x' rd fr
          exact kk v w' ok' (x1.trans x2) rd2 (fr.back x1)
  · rw [hks]
    exact run_fnN (vs := []) F hr hb pass0 I2 .nil rz rfl l2 q2
end
end Vx


set_option Elab.async false
set_option linter.all false
set_option maxRecDepth 100000
/-! Vk: comprehensions over trees. -/
namespace Vx
open PySem PySem.Spec L2

def wipeS (sl : Sls) : List Nat → Sls
  | [] => sl
  | v :: vs => (wipeS sl vs).set v .un
def noOwn (sl : Sls) (vs : List Nat) : Bool := vs.all fun i => match sl[i]? with | some (.own _) => false | _ => true
section
variable {K : PySem.W.Frag} {w w' : Wd} {sl sl2 : Sls} {st st2 : Amb} {σ σ2 : L2.St}
theorem wipeS_length (sl : Sls) : ∀ vs : List Nat, (wipeS sl vs).length = sl.length
  | [] => rfl
  | v :: vs => by unfold wipeS; rw [List.length_set, wipeS_length sl vs]
theorem wipeS_out {i : Nat} : ∀ {vs : List Nat}, i ∉ vs → (wipeS sl vs)[i]? = sl[i]?
  | [], _ => rfl
  | v :: vs, h => by
    have h1 : v ≠ i := fun z => h (by rw [z]; exact List.mem_cons_self)
    have h2 : i ∉ vs := fun z => h (List.mem_cons_of_mem _ z)
    unfold wipeS
    rw [List.getElem?_set_ne h1, wipeS_out h2]
theorem wipe_in {i : Nat} : ∀ {vs : List Nat}, i ∈ vs → (wipe σ vs)[i]? = if i < σ.length then some none else none
  | [], h => by cases h
  | v :: vs, h => by
    unfold wipe
    by_cases e : v = i
    · subst e
      rw [List.getElem?_set]
      simp [wipe_length]
    · rw [List.getElem?_set_ne e]
      exact wipe_in ((List.mem_cons.mp h).resolve_left (Ne.symm e))
theorem noOwn_out (h : noOwn sl vs = true) {i : Nat} {ds : List Vx.D} (e : sl[i]? = some (.own ds)) : i ∉ vs := fun m => by
  unfold noOwn at h
  rw [List.all_eq_true] at h
  have := h i m
  rw [e] at this
  cases this
theorem Ok.setUn (ok : Ok K w sl st σ) (i : Nat) : Ok K w (sl.set i .un) st (σ.set i none) := by
  have key : ∀ {j : Nat} {x : Sl}, x ≠ .un → (sl.set i .un)[j]? = some x → i ≠ j ∧ sl[j]? = some x := fun {j x} hx h => by
    rw [List.getElem?_set] at h
    split at h
    · split at h
      · cases h; exact absurd rfl hx
      · cases h
    · rename_i z; exact ⟨z, h⟩
  refine ⟨ok.amb, by rw [List.length_set, List.length_set]; exact ok.len, fun j d h => ?_, fun j ds h => ?_, fun j k ds es a h1 h2 e1 e2 => ?_⟩
  · obtain ⟨n, h⟩ := key (by simp) h
    obtain ⟨v, e, r⟩ := ok.pub j d h
    exact ⟨v, by rw [List.getElem?_set_ne n]; exact e, r⟩
  · obtain ⟨n, h⟩ := key (by simp) h
    obtain ⟨a, vs, e1, e2⟩ := ok.own j ds h
    exact ⟨a, vs, by rw [List.getElem?_set_ne n]; exact e1, e2⟩
  · obtain ⟨n1, h1⟩ := key (by simp) h1
    obtain ⟨n2, h2⟩ := key (by simp) h2
    rw [List.getElem?_set_ne n1] at e1
    rw [List.getElem?_set_ne n2] at e2
    exact ok.dis j k ds es a h1 h2 e1 e2
theorem Ok.wipe (ok : Ok K w sl st σ) : ∀ vs : List Nat, Ok K w (wipeS sl vs) st (L2.wipe σ vs)
  | [] => ok
  | v :: vs => (Ok.wipe ok vs).setUn v
theorem foot_wipe {vs : List Nat} (hn : noOwn sl vs = true) {al : List Addr} {a : Addr} (h : Foot al (wipeS sl vs) (L2.wipe σ vs) a) : Foot al sl σ a := by
  rcases h with h | ⟨i, ds, h1, h2⟩
  · exact .inl h
  · by_cases m : i ∈ vs
    · rw [wipe_in m] at h2
      split at h2 <;> cases h2
    · rw [wipeS_out m] at h1
      rw [wipe_out m] at h2
      exact .inr ⟨i, ds, h1, h2⟩
theorem unwipe {F : Addr → Prop} (ok : Ok K w sl st σ) (hF : ∀ a, F a → FootW w sl σ a) (x : Ext w F w' (FootW w' sl2 σ2)) (ok2 : Ok K w' sl2 st2 σ2) (ho : ∀ (i : Nat) (ds : List Vx.D), sl[i]? = some (.own ds) → sl2[i]? = some (.own ds) ∧ σ2[i]? = σ[i]?) :
    Ok K w' sl st2 σ ∧ Ext w (FootW w sl σ) w' (FootW w' sl σ) := by
  refine ⟨⟨ok2.amb, ok.len, fun i d h => ?_, fun i ds h => ?_, ok.dis⟩, ⟨fun a o e n => x.keep a o e fun f => n (hF a f), x.sS, fun a s => (x.sN a s).imp id (Or.imp id (hF a)), x.al, x.dom, fun a f => ?_⟩⟩
  · obtain ⟨v, e, r⟩ := ok.pub i d h
    exact ⟨v, e, x.rep (fun a f => ok.foot (hF a f)) r⟩
  · obtain ⟨h1, h2⟩ := ho i ds h
    obtain ⟨a, vs, e1, e2⟩ := ok2.own i ds h1
    exact ⟨a, vs, by rw [← h2]; exact e1, e2⟩
  · rcases f with f | ⟨i, ds, h1, h2⟩
    · exact (x.fo a (.inl f)).imp (hF a) id
    · exact .inl (.inr ⟨i, ds, h1, h2⟩)
theorem putN_out : ∀ {is : List Nat} {ds : List Vx.D} {sl sl' : Sls}, putN is ds sl = some sl' → ∀ j, j ∉ is → sl'[j]? = sl[j]?
  | [], [], sl, sl', e, j, h => by simp only [putN, Option.some.injEq] at e; rw [e]
  | i :: is, d :: ds, sl, sl', e, j, h => by
    simp only [putN] at e
    split at e
    · rw [putN_out e j fun z => h (List.mem_cons_of_mem _ z), List.getElem?_set_ne fun z => h (by rw [z]; exact List.mem_cons_self)]
    · cases e
  | [], d :: ds, _, _, e, _, _ => by simp [putN] at e
  | i :: is, [], _, _, e, _, _ => by simp [putN] at e
theorem put_out {t : Tg} {d : Vx.D} {sl sl' : Sls} (e : put t d sl = some sl') : ∀ j, j ∉ t.ix → sl'[j]? = sl[j]? := fun j h => by
  cases t with
  | name i =>
    simp only [put] at e
    split at e
    · cases e
      rw [List.getElem?_set_ne fun z => h (by rw [z]; exact List.mem_cons_self)]
    · cases e
  | names is =>
    simp only [put] at e
    cases d <;> simp only at e <;> first | (cases e; done) | exact putN_out e j h
theorem kept_wipe {is vs : List Nat} (hs : ∀ i ∈ is, i ∈ vs) (k : Kept is (L2.wipe σ vs) σ2) : L2.wipe σ2 vs = L2.wipe σ vs := by
  have hl : σ2.length = σ.length := by rw [k.1, L2.wipe_length]
  apply List.ext_getElem?
  intro j
  by_cases m : j ∈ vs
  · rw [wipe_in m, wipe_in m, hl]
  · rw [wipe_out m, k.2 j fun z => m (hs j z)]
theorem Ext.updNew {F F' : Addr → Prop} {p : Addr} {o u : HO} (x : Ext w F w' F') (hp : w.H p = none) (hu : w'.H p = some u) : Ext w F (w'.to (upd w'.H p o)) F' :=
  ⟨fun a b e n => by
    show upd w'.H p o a = some b
    rw [upd_ne fun z => by rw [z, hp] at e; cases e]
    exact x.keep a b e n, x.sS, x.sN, x.al, fun a h => x.dom a (upd_dom hu a h), x.fo⟩
end

/-- a value that may be kept -/
def evD (f : EvF) (sl : Sls) (st : Amb) : Option (Vx.D × Amb) := match ePub f sl st with
  | some (.val d, st') => some (d, st')
  | _ => none
theorem evD_read {K : PySem.W.Frag} {f : EvF} {al : List Addr} {S : Addr → Prop} {H : Hp} {sl : Sls} {σ : L2.St} {st st' : Amb} {d : Vx.D} {Q : VK} (ok : Ok K ⟨al, S, H⟩ sl st σ) (e : evD f sl st = some (d, st'))
    (k : ∀ v w', Ok K w' sl st' σ → Ext ⟨al, S, H⟩ (Foot al sl σ) w' (FootW w' sl σ) → Rep K w' v d → Q v w'.H) : tV K f σ H Q := by
  unfold evD at e
  split at e
  · rename_i d2 st2 h
    cases e
    exact ePub_read ⟨al, S, sl, st, _, _, ok, h, fun v w' ok' x' rd _ => k v w' ok' x' rd⟩
  · cases e
def tYesB : EvB := fun _ st => some (true, st)
abbrev VTs (X : Cx) (ifs : List Expr) (f : EvB) : Prop := PTs X ifs (tVB X.K f)
theorem vts_nil {X : Cx} : VTs X [] tYesB := ⟨fun pins s σ H Q I h => pts_nil.run pins s σ H Q I (by
  obtain ⟨al, S, sl, st, r, st', ok, e, k⟩ := h
  cases e
  exact k ⟨al, S, H⟩ ok Ext.refl)⟩
theorem vts_one {X : Cx} {c : Expr} {f : EvB} (h : VT X c f) : VTs X [c] f := pts_one h
/-- the turns of [elt for t in .. if tb] -/
def lcL (t : Tg) (tb : EvB) (f : EvF) (sl : Sls) : List Vx.D → Amb → Option (List Vx.D × Amb)
  | [], st => some ([], st)
  | d :: l, st => (put t d sl).bind fun sl1 => (tb sl1 st).bind fun p => if p.1 = true then (evD f sl1 p.2).bind fun y => (lcL t tb f sl l y.2).map fun q => (y.1 :: q.1, q.2) else lcL t tb f sl l p.2
def eLc (fi : EvI) (t : Tg) (tb : EvB) (f : EvF) (vs : List Nat) : EvF := fun sl st => if noOwn sl vs = true then (fi sl st).bind fun p => (lcL t tb f (wipeS sl vs) p.1 p.2).bind fun q => if q.1.length ≤ line then some (.prv q.1, q.2) else none else none
section
variable {K : PySem.W.Frag} {fi : EvI} {t : Tg} {tb : EvB} {f : EvF} {vs : List Nat}
theorem lc_read (ht : ∀ i ∈ t.ix, i ∈ vs) {σ : L2.St} {H : Hp} {Q : VK} (h : tV K (eLc fi t tb f vs) σ H Q) : tLc (tVI K fi) (gT K t) (tVB K tb) (tV K f) vs σ H Q := by
  obtain ⟨al, S, sl, st, r, st', ok, e, k⟩ := h
  unfold eLc at e
  split at e
  case isFalse => cases e
  rename_i hno
  cases h1 : fi sl st with
  | none => rw [h1] at e; cases e
  | some p =>
    obtain ⟨l, st1⟩ := p
    rw [h1] at e
    simp only [Option.bind_some] at e
    cases h2 : lcL t tb f (wipeS sl vs) l st1 with
    | none => rw [h2] at e; cases e
    | some q =>
      obtain ⟨res, st2⟩ := q
      rw [h2] at e
      simp only [Option.bind_some] at e
      split at e
      case isFalse => cases e
      rename_i hlen
      cases e
      refine ⟨al, S, sl, st, l, st1, ok, h1, fun J w1 ok1 x1 it D hD => ?_⟩
      have it := it (FootW w1 sl σ) fun a f => ⟨ok1.foot f, .inl f⟩
      have k1 := fun v w' (o : Ok K w' sl st' σ) (x : Ext w1 (FootW w1 sl σ) w' (FootW w' sl σ)) rd fr => k v w' o (x1.trans x) rd (Frs.back fr x1)
      refine ⟨fun i m H => m = l.length - i ∧ i ≤ l.length ∧ ∃ w st acc rest, w.H = H ∧ Ok K w sl st σ ∧ Ext w1 (FootW w1 sl σ) w (FootW w sl σ) ∧ RdR K w sl σ (.ref D) (.prv acc) ∧ acc ++ rest = res ∧ lcL t tb f (wipeS sl vs) (l.drop i) st = some (rest, st'),
        ⟨l.length, by simp, Nat.zero_le _, ⟨w1.al, w1.S, upd w1.H D (.lst [])⟩, st1, [], res, rfl, ok1.new hD, ext_new hD, prv_new ok1 hD .nil, rfl, by simpa using h2⟩, ?_⟩
      rintro i m H ⟨rfl, hi, w, sta, acc, rest, rfl, oka, xa, rda, hr, ef⟩
      obtain ⟨i1, i2⟩ := it w _ xa i
      by_cases hlt : i < l.length
      · obtain ⟨g1, g2⟩ := i1 l[i] (List.getElem?_eq_getElem hlt)
        have hd : l.drop i = l[i] :: l.drop (i + 1) := List.drop_eq_getElem_cons hlt
        rw [hd, lcL] at ef
        refine .inr ⟨g1, fun H' => ∃ w st acc rest, w.H = H' ∧ Ok K w sl st σ ∧ Ext w1 (FootW w1 sl σ) w (FootW w sl σ) ∧ RdR K w sl σ (.ref D) (.prv acc) ∧ acc ++ rest = res ∧ lcL t tb f (wipeS sl vs) (l.drop (i + 1)) st = some (rest, st'),
          fun H' z => ⟨l.length - (i + 1), by omega, rfl, hlt, z⟩, fun y H' hy => ?_⟩
        obtain ⟨y1, y2, y3⟩ := g2 y H' hy
        have okb : Ok K (w.to H') sl sta σ := oka.grow y1 y2
        have xb : Ext w (FootW w sl σ) (w.to H') (FootW (w.to H') sl σ) := Ext.grow y1 y2
        have rdb : RdR K (w.to H') sl σ (.ref D) (.prv acc) := rda.ext oka xb
        cases h3 : put t l[i] (wipeS sl vs) with
        | none => rw [h3] at ef; cases ef
        | some sl1 =>
          rw [h3] at ef
          simp only [Option.bind_some] at ef
          cases h4 : tb sl1 sta with
          | none => rw [h4] at ef; cases ef
          | some p =>
            obtain ⟨b, stb⟩ := p
            rw [h4] at ef
            simp only [Option.bind_some] at ef
            refine gT_read (w := w.to H') (okb.wipe vs) y3 h3 fun σ2 ok3 x3 kp => ⟨kept_wipe ht kp, w.al, w.S, sl1, sta, b, stb, ok3, h4, fun w4 ok4 x4 => ?_⟩
            have ho : ∀ (i : Nat) (ds : List Vx.D), sl[i]? = some (.own ds) → sl1[i]? = some (.own ds) ∧ σ2[i]? = σ[i]? := fun i ds h => by
              have m := noOwn_out hno h
              have m2 : i ∉ t.ix := fun z => m (ht i z)
              exact ⟨by rw [put_out h3 i m2, wipeS_out m]; exact h, by rw [kp.2 i m2, wipe_out m]⟩
            have x34 := x3.trans x4
            obtain ⟨ok5, x5⟩ := unwipe okb (fun a f => foot_wipe hno f) x34 ok4 ho
            have rd5 : RdR K w4 sl σ (.ref D) (.prv acc) := rdb.ext okb x5
            cases b with
            | false =>
              simp only [Bool.false_eq_true, if_false] at ef ⊢
              exact ⟨w4, stb, acc, rest, rfl, ok5, xa.trans (xb.trans x5), rd5, hr, ef⟩
            | true =>
              simp only [if_true] at ef ⊢
              cases h5 : evD f sl1 stb with
              | none => rw [h5] at ef; cases ef
              | some yy =>
                obtain ⟨dy, stc⟩ := yy
                rw [h5] at ef
                simp only [Option.bind_some] at ef
                cases h6 : lcL t tb f (wipeS sl vs) (l.drop (i + 1)) stc with
                | none => rw [h6] at ef; cases ef
                | some qq =>
                  obtain ⟨rest2, st3⟩ := qq
                  rw [h6] at ef
                  cases ef
                  refine evD_read ok4 h5 fun u w6 ok6 x6 ru => ?_
                  obtain ⟨ok7, x7⟩ := unwipe okb (fun a f => foot_wipe hno f) (x34.trans x6) ok6 ho
                  obtain ⟨a, vs', ea, e1, e2, e3, e4⟩ := rdb.ext okb x7
                  cases ea
                  refine ⟨vs', e1, ?_, w6.to (upd w6.H D (.lst (vs' ++ [u]))), stc, acc ++ [dy], rest2, rfl, ok7.prvW e1 e3 e4, ?_, ?_, by simpa using hr, h6⟩
                  · rw [e2.length, line_eq]
                    have := congrArg List.length hr
                    simp only [List.length_append, List.length_cons] at this
                    omega
                  · exact (xa.trans (xb.trans x7)).updNew hD e1
                  · have wr := wr_at (us := vs' ++ [u]) e1 e3
                    exact ⟨D, _, rfl, upd_same, wr.repL (e2.append (.cons ru .nil)), e3, e4⟩
      · have hn : i = l.length := by omega
        subst hn
        rw [List.drop_length, lcL] at ef
        cases ef
        rw [List.append_nil] at hr
        subst hr
        exact .inl ⟨i2 (Nat.le_refl _), k1 _ w oka xa rda fun a ea => by cases ea; exact hD⟩
end
section
variable {X : Cx} {elt tg iter : Expr} {ifs : List Expr} {scope : Scope} {own : List (Str × Nat)} {pos spos : Pos} {fi : EvI} {t : Tg} {tb : EvB} {f : EvF}
abbrev Inner (X : Cx) (scope : Scope) (p : Cx → Prop) : Prop := ∀ (s : Shared) (H : Hp) (C : Addr) (cl : List (Str × Addr)) (fp : List Addr), p (X.blk s H scope (compEnvC scope cl C X.env) fp)
theorem ve_lc (hc : X.calm = true) (hN : X.N.Nodup) (hi : VI X tg iter fi) (ok : BlkOk X.N X.env.scope scope own) (hg : Inner X scope fun Y => VG Y tg t) (ht : Inner X scope fun Y => VTs Y ifs tb) (he : Inner X scope fun Y => VE Y elt f)
    (hts : ∀ i ∈ t.ix, i ∈ own.map (·.2) := by decide) (hs : ∀ x, foldedSetIterable iter X.env x = pure x := by intro _; rfl) :
    VE X (.ListComp elt [⟨tg, iter, ifs, 0⟩] scope pos) (eLc fi t tb f (own.map (·.2))) :=
  PEimp (pe_lc hc hN hi ok hg ht he hs) fun σ H Q h => lc_read hts h
theorem vs_ownLc {i : Nat} {y : Str} {py : Pos} (hc : X.calm = true) (hN : X.N.Nodup) (hi : VI X tg iter fi) (ok : BlkOk X.N X.env.scope scope own) (hg : Inner X scope fun Y => VG Y tg t) (ht : Inner X scope fun Y => VTs Y ifs tb) (he : Inner X scope fun Y => VE Y elt f)
    (hy : X.N[i]? = some y := by rfl) (hyl : X.env.scope.names.lookup y = some .local := by rfl) (hsw : swapsWith (.ListComp elt [⟨tg, iter, ifs, 0⟩] scope pos) (some (.Name y py)) spos.line X.env = pure true := by rfl)
    (hts : ∀ i ∈ t.ix, i ∈ own.map (·.2) := by decide) (hs : ∀ x, foldedSetIterable iter X.env x = pure x := by intro _; rfl) :
    VS X (.Assign [.Name y py] (.ListComp elt [⟨tg, iter, ifs, 0⟩] scope pos) spos) (sOwn i (eLc fi t tb f (own.map (·.2)))) :=
  PSimp (ps_setLc hc hN hy hyl hsw hi ok hg ht he hs) fun D σ H h => own_read (fun σ H Q q => lc_read hts q) h
theorem vs_asgLc {i : Nat} {y : Str} {py : Pos} (hc : X.calm = true) (hN : X.N.Nodup) (hi : VI X tg iter fi) (ok : BlkOk X.N X.env.scope scope own) (hg : Inner X scope fun Y => VG Y tg t) (ht : Inner X scope fun Y => VTs Y ifs tb) (he : Inner X scope fun Y => VE Y elt f)
    (hy : X.N[i]? = some y := by rfl) (hyl : X.env.scope.names.lookup y = some .local := by rfl) (hsw : swapsWith (.ListComp elt [⟨tg, iter, ifs, 0⟩] scope pos) (some (.Name y py)) spos.line X.env = pure true := by rfl)
    (hts : ∀ i ∈ t.ix, i ∈ own.map (·.2) := by decide) (hs : ∀ x, foldedSetIterable iter X.env x = pure x := by intro _; rfl) :
    VS X (.Assign [.Name y py] (.ListComp elt [⟨tg, iter, ifs, 0⟩] scope pos) spos) (sAsg (.name i) (eLc fi t tb f (own.map (·.2)))) :=
  PSimp (ps_setLc hc hN hy hyl hsw hi ok hg ht he hs) fun D σ H h => asg_read (t := .name i) (fun σ H Q q => lc_read hts q) h
end
end Vx


set_option Elab.async false
set_option linter.all false
set_option maxRecDepth 100000
/-! Vm: comprehensions of two clauses. -/
namespace Vx
open PySem PySem.Spec L2
section
variable {K : PySem.W.Frag} {w w1 w' : Wd} {sl sl1 sl2 : Sls} {st st2 stb : Amb} {σ σ2 : L2.St} {fi : EvI} {t : Tg} {tb : EvB} {f : EvF} {vs : List Nat}
theorem foot_up {al : List Addr} (ho : ∀ (i : Nat) (ds : List Vx.D), sl[i]? = some (.own ds) → sl2[i]? = some (.own ds) ∧ σ2[i]? = σ[i]?) {a : Addr} (h : Foot al sl σ a) : Foot al sl2 σ2 a := by
  rcases h with h | ⟨i, ds, h1, h2⟩
  · exact .inl h
  · obtain ⟨g1, g2⟩ := ho i ds h1
    exact .inr ⟨i, ds, g1, by rw [g2]; exact h2⟩
theorem put_ho {d : Vx.D} (hno : noOwn sl vs = true) (ht : ∀ i ∈ t.ix, i ∈ vs) (h3 : put t d (wipeS sl vs) = some sl1) (kp : Kept t.ix (L2.wipe σ vs) σ2) : ∀ (i : Nat) (ds : List Vx.D), sl[i]? = some (.own ds) → sl1[i]? = some (.own ds) ∧ σ2[i]? = σ[i]? := fun i ds h => by
  have m := noOwn_out hno h
  have m2 : i ∉ t.ix := fun z => m (ht i z)
  exact ⟨by rw [put_out h3 i m2, wipeS_out m]; exact h, by rw [kp.2 i m2, wipe_out m]⟩
theorem Ext.updF {F F' : Addr → Prop} {p : Addr} {o u : HO} (x : Ext w F w' F') (hp : w.H p = none ∨ F p) (hu : w'.H p = some u) : Ext w F (w'.to (upd w'.H p o)) F' :=
  ⟨fun a b e n => by
    show upd w'.H p o a = some b
    rw [upd_ne fun z => by
      rcases hp with h | h
      · rw [z, h] at e; cases e
      · exact n (z ▸ h)]
    exact x.keep a b e n, x.sS, x.sN, x.al, fun a h => x.dom a (upd_dom hu a h), x.fo⟩
theorem lc_turn (ht : ∀ i ∈ t.ix, i ∈ vs) (hno : noOwn sl vs = true) (ok : Ok K w sl st σ) {y : V} {d : Vx.D} (r : Rep K w y d) {D : Addr} {acc : List Vx.D} (rd : RdR K w sl σ (.ref D) (.prv acc))
    (h3 : put t d (wipeS sl vs) = some sl1) {b : Bool} (h4 : tb sl1 st = some (b, stb)) {Nx : Hp → Prop} (kf : b = false → ∀ w', Ok K w' sl stb σ → (∀ (w1 : Wd) (F1 : Addr → Prop), w1.H D = none ∨ F1 D → Ext w1 F1 w (FootW w sl σ) → Ext w1 F1 w' (FootW w' sl σ)) → RdR K w' sl σ (.ref D) (.prv acc) → Nx w'.H)
    (kt : b = true → ∃ dy stc, evD f sl1 stb = some (dy, stc) ∧ acc.length < line ∧ ∀ w', Ok K w' sl stc σ → (∀ (w1 : Wd) (F1 : Addr → Prop), w1.H D = none ∨ F1 D → Ext w1 F1 w (FootW w sl σ) → Ext w1 F1 w' (FootW w' sl σ)) → RdR K w' sl σ (.ref D) (.prv (acc ++ [dy])) → Nx w'.H) :
    gT K t y (L2.wipe σ vs) w.H fun σ2 H2 => L2.wipe σ2 vs = L2.wipe σ vs ∧ tVB K tb σ2 H2 fun b H3 => if b = true then tV K f σ2 H3 fun y H4 => ∃ acc, H4 D = some (.lst acc) ∧ acc.length < sizeLine ∧ Nx (upd H4 D (.lst (acc ++ [y]))) else Nx H3 := by
  refine gT_read (ok.wipe vs) r h3 fun σ2 ok3 x3 kp => ⟨kept_wipe ht kp, w.al, w.S, sl1, st, b, stb, ok3, h4, fun w4 ok4 x4 => ?_⟩
  have ho := put_ho (σ := σ) hno ht h3 kp
  have x34 := x3.trans x4
  obtain ⟨ok5, x5⟩ := unwipe ok (fun a f => foot_wipe hno f) x34 ok4 ho
  have rd5 : RdR K w4 sl σ (.ref D) (.prv acc) := rd.ext ok x5
  cases b with
  | false =>
    simp only [Bool.false_eq_true, if_false]
    exact kf rfl w4 ok5 (fun w1 F1 _ x1 => x1.trans x5) rd5
  | true =>
    simp only [if_true]
    obtain ⟨dy, stc, h5, hl, k⟩ := kt rfl
    refine evD_read ok4 h5 fun u w6 ok6 x6 ru => ?_
    obtain ⟨ok7, x7⟩ := unwipe ok (fun a f => foot_wipe hno f) (x34.trans x6) ok6 ho
    obtain ⟨a, vs', ea, e1, e2, e3, e4⟩ := rd.ext ok x7
    cases ea
    refine ⟨vs', e1, by rw [e2.length, line_eq]; exact hl, k (w6.to (upd w6.H D (.lst (vs' ++ [u])))) (ok7.prvW e1 e3 e4) (fun w1 F1 hD x1 => (x1.trans x7).updF hD e1) ?_⟩
    have wr := wr_at (us := vs' ++ [u]) e1 e3
    exact ⟨D, _, rfl, upd_same, wr.repL (e2.append (.cons ru .nil)), e3, e4⟩
end
def lcL2 (t : Tg) (tb : EvB) (fi1 : EvI) (t1 : Tg) (tb1 : EvB) (f : EvF) (vs1 : List Nat) (sl : Sls) : List Vx.D → Amb → Option (List Vx.D × Amb)
  | [], st => some ([], st)
  | d :: l, st => (put t d sl).bind fun sl1 => (tb sl1 st).bind fun p => if p.1 = true then (if noOwn sl1 vs1 = true then (fi1 sl1 p.2).bind fun a => (lcL t1 tb1 f (wipeS sl1 vs1) a.1 a.2).bind fun y => (lcL2 t tb fi1 t1 tb1 f vs1 sl l y.2).map fun q => (y.1 ++ q.1, q.2) else none)
    else lcL2 t tb fi1 t1 tb1 f vs1 sl l p.2
def eLc2 (fi : EvI) (t : Tg) (tb : EvB) (fi1 : EvI) (t1 : Tg) (tb1 : EvB) (f : EvF) (vs vs1 : List Nat) : EvF := fun sl st => if noOwn sl vs = true then (fi sl st).bind fun p => (lcL2 t tb fi1 t1 tb1 f vs1 (wipeS sl vs) p.1 p.2).bind fun q => if q.1.length ≤ line then some (.prv q.1, q.2) else none else none
section
variable {K : PySem.W.Frag} {fi fi1 : EvI} {t t1 : Tg} {tb tb1 : EvB} {f : EvF} {vs vs1 : List Nat}
theorem lc2_read (ht : ∀ i ∈ t.ix, i ∈ vs) (ht1 : ∀ i ∈ t1.ix, i ∈ vs1) {σ : L2.St} {H : Hp} {Q : L2.VK} (h : tV K (eLc2 fi t tb fi1 t1 tb1 f vs vs1) σ H Q) : tLc2 (tVI K fi) (gT K t) (tVB K tb) (tVI K fi1) (gT K t1) (tVB K tb1) (tV K f) vs vs1 σ H Q := by
  obtain ⟨al, S, sl, st, r, st', ok, e, k⟩ := h
  unfold eLc2 at e
  split at e
  case isFalse => cases e
  rename_i hno
  cases h1 : fi sl st with
  | none => rw [h1] at e; cases e
  | some p =>
    obtain ⟨l, st1⟩ := p
    rw [h1] at e
    simp only [Option.bind_some] at e
    cases h2 : lcL2 t tb fi1 t1 tb1 f vs1 (wipeS sl vs) l st1 with
    | none => rw [h2] at e; cases e
    | some q =>
      obtain ⟨res, st2⟩ := q
      rw [h2] at e
      simp only [Option.bind_some] at e
      split at e
      case isFalse => cases e
      rename_i hlen
      cases e
      refine ⟨al, S, sl, st, l, st1, ok, h1, fun J w1 ok1 x1 it D hD => ?_⟩
      have it := it (FootW w1 sl σ) fun a f => ⟨ok1.foot f, .inl f⟩
      have k1 := fun v w' (o : Ok K w' sl st' σ) (x : Ext w1 (FootW w1 sl σ) w' (FootW w' sl σ)) rd fr => k v w' o (x1.trans x) rd (Frs.back fr x1)
      refine ⟨fun i m H => m = l.length - i ∧ i ≤ l.length ∧ ∃ w st acc rest, w.H = H ∧ Ok K w sl st σ ∧ Ext w1 (FootW w1 sl σ) w (FootW w sl σ) ∧ RdR K w sl σ (.ref D) (.prv acc) ∧ acc ++ rest = res ∧ lcL2 t tb fi1 t1 tb1 f vs1 (wipeS sl vs) (l.drop i) st = some (rest, st'),
        ⟨l.length, by simp, Nat.zero_le _, ⟨w1.al, w1.S, upd w1.H D (.lst [])⟩, st1, [], res, rfl, ok1.new hD, ext_new hD, prv_new ok1 hD .nil, rfl, by simpa using h2⟩, ?_⟩
      rintro i m H ⟨rfl, hi, w, sta, acc, rest, rfl, oka, xa, rda, hr, ef⟩
      obtain ⟨i1, i2⟩ := it w _ xa i
      by_cases hlt : i < l.length
      · obtain ⟨g1, g2⟩ := i1 l[i] (List.getElem?_eq_getElem hlt)
        have hd : l.drop i = l[i] :: l.drop (i + 1) := List.drop_eq_getElem_cons hlt
        rw [hd, lcL2] at ef
        refine .inr ⟨g1, fun H' => ∃ w st acc rest, w.H = H' ∧ Ok K w sl st σ ∧ Ext w1 (FootW w1 sl σ) w (FootW w sl σ) ∧ RdR K w sl σ (.ref D) (.prv acc) ∧ acc ++ rest = res ∧ lcL2 t tb fi1 t1 tb1 f vs1 (wipeS sl vs) (l.drop (i + 1)) st = some (rest, st'),
          fun H' z => ⟨l.length - (i + 1), by omega, rfl, hlt, z⟩, fun y H' hy => ?_⟩
        obtain ⟨y1, y2, y3⟩ := g2 y H' hy
        have okb : Ok K (w.to H') sl sta σ := oka.grow y1 y2
        have xb : Ext w (FootW w sl σ) (w.to H') (FootW (w.to H') sl σ) := Ext.grow y1 y2
        have rdb : RdR K (w.to H') sl σ (.ref D) (.prv acc) := rda.ext oka xb
        cases h3 : put t l[i] (wipeS sl vs) with
        | none => rw [h3] at ef; cases ef
        | some sl1 =>
          rw [h3] at ef
          simp only [Option.bind_some] at ef
          cases h4 : tb sl1 sta with
          | none => rw [h4] at ef; cases ef
          | some p =>
            obtain ⟨b, stb⟩ := p
            rw [h4] at ef
            simp only [Option.bind_some] at ef
            refine gT_read (w := w.to H') (okb.wipe vs) y3 h3 fun σ2 ok3 x3 kp => ⟨kept_wipe ht kp, w.al, w.S, sl1, sta, b, stb, ok3, h4, fun w4 ok4 x4 => ?_⟩
            have ho := put_ho (σ := σ) hno ht h3 kp
            have x34 := x3.trans x4
            obtain ⟨ok5, x5⟩ := unwipe okb (fun a f => foot_wipe hno f) x34 ok4 ho
            have rd5 : RdR K w4 sl σ (.ref D) (.prv acc) := rdb.ext okb x5
            cases b with
            | false =>
              simp only [Bool.false_eq_true, if_false] at ef ⊢
              exact ⟨w4, stb, acc, rest, rfl, ok5, xa.trans (xb.trans x5), rd5, hr, ef⟩
            | true =>
              simp only [if_true] at ef ⊢
              split at ef
              case isFalse => cases ef
              rename_i hno1
              cases h5 : fi1 sl1 stb with
              | none => rw [h5] at ef; cases ef
              | some a =>
                obtain ⟨l1, stc⟩ := a
                rw [h5] at ef
                simp only [Option.bind_some] at ef
                cases h6 : lcL t1 tb1 f (wipeS sl1 vs1) l1 stc with
                | none => rw [h6] at ef; cases ef
                | some yy =>
                  obtain ⟨res1, std⟩ := yy
                  rw [h6] at ef
                  simp only [Option.bind_some] at ef
                  cases h7 : lcL2 t tb fi1 t1 tb1 f vs1 (wipeS sl vs) (l.drop (i + 1)) std with
                  | none => rw [h7] at ef; cases ef
                  | some qq =>
                    obtain ⟨rest2, st3⟩ := qq
                    rw [h7] at ef
                    cases ef
                    -- the second source
                    have xw4 : Ext w1 (FootW w1 sl σ) w4 (FootW w4 sl1 σ2) := (xa.trans xb).trans ((Ext.foot _ _ fun a f => foot_wipe hno f).trans x34)
                    have rdi : RdR K w4 sl1 σ2 (.ref D) (.prv acc) := by
                      obtain ⟨a, us, ea, e1, e2, e3, e4⟩ := rd5
                      refine ⟨a, us, ea, e1, e2, e3, fun q => ?_⟩
                      obtain ⟨c, us', ec, c1, c2, c3, c4⟩ := rdb
                      cases ea; cases ec
                      rcases x34.fo _ q with q | q
                      · exact c4 (foot_wipe hno q)
                      · have : (w.to H').H D = none := q
                        rw [c1] at this; cases this
                    refine ⟨w4.al, w4.S, sl1, stb, l1, stc, ok4, h5, fun J1 w8 ok8 x8 it1 => ?_⟩
                    have rd8 := rdi.ext ok4 x8
                    obtain ⟨cD, us8, ecD, hD8, _, hS8, hF8⟩ := rd8
                    cases ecD
                    have hD4 : w4.H D ≠ none := by
                      obtain ⟨c, us, ec, c1, _⟩ := rdi
                      cases ec
                      rw [c1]; simp
                    have it1 := it1 (fun a => FootW w8 sl1 σ2 a ∨ a = D) fun a f => by
                      rcases f with f | rfl
                      · exact ⟨ok8.foot f, .inl f⟩
                      · exact ⟨⟨hS8, us8, hD8⟩, .inr hD4⟩
                    have hl2 : (acc ++ res1).length ≤ line := by
                      have := congrArg List.length hr
                      simp only [List.length_append] at this ⊢
                      omega
                    refine ⟨fun j k H => k = l1.length - j ∧ j ≤ l1.length ∧ ∃ wi st acc1 rest1, wi.H = H ∧ Ok K wi sl1 st σ2 ∧ Ext w1 (FootW w1 sl σ) wi (FootW wi sl1 σ2) ∧ Ext w8 (fun a => FootW w8 sl1 σ2 a ∨ a = D) wi (FootW wi sl1 σ2) ∧ RdR K wi sl1 σ2 (.ref D) (.prv acc1) ∧ acc1 ++ rest1 = acc ++ res1 ∧ lcL t1 tb1 f (wipeS sl1 vs1) (l1.drop j) st = some (rest1, std),
                      ⟨l1.length, by simp, Nat.zero_le _, w8, stc, acc, res1, rfl, ok8, xw4.trans x8, Ext.foot _ _ fun a f => .inl f, rdi.ext ok4 x8, rfl, by simpa using h6⟩, ?_⟩
                    rintro j k H ⟨rfl, hj, wi, sti, acc1, rest1, rfl, oki, xi, x8i, rdj, hr1, ei⟩
                    obtain ⟨j1, j2⟩ := it1 wi _ x8i j
                    by_cases hlj : j < l1.length
                    · obtain ⟨f1, f2⟩ := j1 l1[j] (List.getElem?_eq_getElem hlj)
                      have hdj : l1.drop j = l1[j] :: l1.drop (j + 1) := List.drop_eq_getElem_cons hlj
                      rw [hdj, lcL] at ei
                      refine .inr ⟨f1, fun H' => ∃ wi st acc1 rest1, wi.H = H' ∧ Ok K wi sl1 st σ2 ∧ Ext w1 (FootW w1 sl σ) wi (FootW wi sl1 σ2) ∧ Ext w8 (fun a => FootW w8 sl1 σ2 a ∨ a = D) wi (FootW wi sl1 σ2) ∧ RdR K wi sl1 σ2 (.ref D) (.prv acc1) ∧ acc1 ++ rest1 = acc ++ res1 ∧ lcL t1 tb1 f (wipeS sl1 vs1) (l1.drop (j + 1)) st = some (rest1, std),
                        fun H' z => ⟨l1.length - (j + 1), by omega, rfl, hlj, z⟩, fun z H' hz => ?_⟩
                      obtain ⟨z1, z2, z3⟩ := f2 z H' hz
                      have okz : Ok K (wi.to H') sl1 sti σ2 := oki.grow z1 z2
                      have xz : Ext wi (FootW wi sl1 σ2) (wi.to H') (FootW (wi.to H') sl1 σ2) := Ext.grow z1 z2
                      have rdz : RdR K (wi.to H') sl1 σ2 (.ref D) (.prv acc1) := rdj.ext oki xz
                      cases g3 : put t1 l1[j] (wipeS sl1 vs1) with
                      | none => rw [g3] at ei; cases ei
                      | some sl2 =>
                        rw [g3] at ei
                        simp only [Option.bind_some] at ei
                        cases g4 : tb1 sl2 sti with
                        | none => rw [g4] at ei; cases ei
                        | some p =>
                          obtain ⟨b1, ste⟩ := p
                          rw [g4] at ei
                          simp only [Option.bind_some] at ei
                          refine lc_turn ht1 hno1 okz z3 rdz g3 g4 (fun eb w' ok' x' rd' => ?_) fun eb => ?_
                          · subst eb
                            simp only [Bool.false_eq_true, if_false] at ei
                            exact ⟨w', ste, acc1, rest1, rfl, ok', x' _ _ (.inl hD) (xi.trans xz), x' _ _ (.inr (.inr rfl)) (x8i.trans xz), rd', hr1, ei⟩
                          · subst eb
                            simp only [if_true] at ei
                            cases g5 : evD f sl2 ste with
                            | none => rw [g5] at ei; cases ei
                            | some dd =>
                              obtain ⟨dy, stf⟩ := dd
                              rw [g5] at ei
                              simp only [Option.bind_some] at ei
                              cases g6 : lcL t1 tb1 f (wipeS sl1 vs1) (l1.drop (j + 1)) stf with
                              | none => rw [g6] at ei; cases ei
                              | some qi =>
                                obtain ⟨rest3, st3⟩ := qi
                                rw [g6] at ei
                                cases ei
                                refine ⟨dy, stf, rfl, ?_, fun w' ok' x' rd' => ⟨w', stf, acc1 ++ [dy], rest3, rfl, ok', x' _ _ (.inl hD) (xi.trans xz), x' _ _ (.inr (.inr rfl)) (x8i.trans xz), rd', by simpa using hr1, g6⟩⟩
                                have := congrArg List.length hr1
                                simp only [List.length_append, List.length_cons] at this hl2
                                omega
                    · have hn : j = l1.length := by omega
                      subst hn
                      rw [List.drop_length, lcL] at ei
                      cases ei
                      rw [List.append_nil] at hr1
                      subst hr1
                      obtain ⟨okE, xE⟩ := unwipe ok1 (fun a f => f) xi oki ho
                      refine .inl ⟨j2 (Nat.le_refl _), wi, std, acc ++ res1, rest2, rfl, okE, xE, ?_, by rw [← hr, List.append_assoc], h7⟩
                      obtain ⟨a, us, ea, e1, e2, e3, e4⟩ := rdj
                      exact ⟨a, us, ea, e1, e2, e3, fun q => e4 (foot_up ho q)⟩
      · have hn : i = l.length := by omega
        subst hn
        rw [List.drop_length, lcL2] at ef
        cases ef
        rw [List.append_nil] at hr
        subst hr
        exact .inl ⟨i2 (Nat.le_refl _), k1 _ w oka xa rda fun a ea => by cases ea; exact hD⟩
end
section
variable {X : Cx} {elt tg iter tg1 iter1 : Expr} {ifs ifs1 : List Expr} {scope : Scope} {own : List (Str × Nat)} {vs1 : List Nat} {pos spos : Pos} {fi fi1 : EvI} {t t1 : Tg} {tb tb1 : EvB} {f : EvF}
theorem ve_lc2 (vs1 : List Nat) (hc : X.calm = true) (hN : X.N.Nodup) (hi : VI X tg iter fi) (ok : BlkOk X.N X.env.scope scope own) (hg : Inner X scope fun Y => VG Y tg t) (ht : Inner X scope fun Y => VTs Y ifs tb) (hi1 : Inner X scope fun Y => VI Y tg1 iter1 fi1) (hg1 : Inner X scope fun Y => VG Y tg1 t1) (ht1 : Inner X scope fun Y => VTs Y ifs1 tb1) (he : Inner X scope fun Y => VE Y elt f)
    (hv : ∀ i ∈ vs1, i ∈ own.map (·.2) := by decide) (hts : ∀ i ∈ t.ix, i ∈ own.map (·.2) := by decide) (hts1 : ∀ i ∈ t1.ix, i ∈ vs1 := by decide) (hs : ∀ x, foldedSetIterable iter X.env x = pure x := by intro _; rfl) (hs1 : ∀ env x, foldedSetIterable iter1 env x = pure x := by intro _ _; rfl) :
    VE X (.ListComp elt [⟨tg, iter, ifs, 0⟩, ⟨tg1, iter1, ifs1, 0⟩] scope pos) (eLc2 fi t tb fi1 t1 tb1 f (own.map (·.2)) vs1) :=
  PEimp (pe_lc2 hc hN hi ok hv hg ht hi1 hg1 ht1 he hs hs1) fun σ H Q h => lc2_read hts hts1 h
end
end Vx


set_option Elab.async false
set_option linter.all false
set_option maxRecDepth 100000
/-! Vn: a, b = x, y by a tuple; small helps for the defs. -/
namespace Vx
open PySem PySem.Spec L2
section
variable {X : Cx} {a b tx ty : Expr} {FA : EvA} {pos : Pos}
/-- a, b = x, y where a name is not a plain local: the pair is a tuple for a moment -/
theorem vs_par2 (i j : Nat) {kt k2 : Nat} {pt pt2 : Pos} (o1 o2 : Bool) (h12 : (o1 && o2) = false) (hc : X.calm = true) (ha : VA X [a, b] FA) (hx : VG X tx (.name i)) (hy : VG X ty (.name j))
    (hs1 : (assignEach [tx, ty] X.env).map (·.2) = assign tx X.env :: (assignEach [ty] X.env).map (·.2) := by rfl) (hs2 : (assignEach [ty] X.env).map (·.2) = assign ty X.env :: (assignEach [] X.env).map (·.2) := by rfl)
    (hn : (assignEach [tx, ty] X.env).length = 2 := by rfl) (hst : (assignEach [tx, ty] X.env).findIdx? (·.1) = none := by rfl)
    (hs : swapsWithSole [.Tuple [tx, ty] kt pt] (.Tuple [a, b] k2 pt2) pos.line X.env = pure false := by rfl) (hw : swappedStores [.Tuple [tx, ty] kt pt] (.Tuple [a, b] k2 pt2) X.env = pure none := by rfl)
    (h1 : (assignEach [.Tuple [tx, ty] kt pt] X.env).map (·.2) = [assign (.Tuple [tx, ty] kt pt) X.env] := by rfl) :
    VS X (.Assign [.Tuple [tx, ty] kt pt] (.Tuple [a, b] k2 pt2) pos) (sPar i j o1 o2 FA) := by
  refine PSimp (ps_asg (pe_tup ha) (pg_tup hc (pgs_cons hx (pgs_cons hy pgs_nil hs2) hs1) hn hst) hs hw h1) fun D σ H h => ?_
  obtain ⟨al, S, sl, st, o, ok, e, k⟩ := h
  unfold sPar at e
  split at e
  · rename_i r1 r2 st' h1
    cases h2 : putK i o1 r1 sl with
    | none => rw [h2] at e; cases e
    | some sl1 =>
      rw [h2] at e
      simp only [Option.bind_some] at e
      cases h3 : putK j o2 r2 sl1 with
      | none => rw [h3] at e; cases e
      | some sl2 =>
        rw [h3] at e
        cases e
        refine ⟨al, S, sl, st, _, _, ok, h1, fun vs w0 ok0 x0 rd0 fl0 => ?_⟩
        cases rd0 with
        | @cons v _ _ _ rdv0 rds =>
          cases rds with
          | @cons u _ _ _ rdu0 rds =>
            cases rds
            refine ⟨by rw [line_eq]; show 2 ≤ line; decide, fun p hp => ?_⟩
            have ok1 := ok0.new (o := .tup [v, u]) hp
            have xn : Ext w0 (FootW w0 sl σ) ⟨w0.al, w0.S, upd w0.H p (.tup [v, u])⟩ (FootW ⟨w0.al, w0.S, upd w0.H p (.tup [v, u])⟩ sl σ) := ext_new hp
            have x1 := x0.trans xn
            have rdv := rdv0.ext ok0 xn
            have rdu := rdu0.ext ok0 xn
            have frv := fl0 0 v r1 rfl rfl
            have fru := fl0 1 u r2 rfl rfl
            obtain ⟨ok2, x2⟩ := putK_read ok1 x1 rdv frv h2
            have rdu' : RdR X.K ⟨w0.al, w0.S, upd w0.H p (.tup [v, u])⟩ sl1 (σ.set i (some v)) u r2 := by
              cases r2 with
              | val d => exact rdu
              | bor l => unfold putK at h3; split at h3 <;> first | cases h3 | (rename_i h4; cases h4)
              | prv l =>
                obtain ⟨q, us, g1, g2, g3, g4, g5⟩ := rdu
                refine ⟨q, us, g1, g2, g3, g4, fun f => g5 ?_⟩
                cases o1 with
                | true =>
                  cases o2 with
                  | true => cases h12
                  | false => unfold putK at h3; cases h3
                | false =>
                  cases r1 with
                  | prv m => unfold putK at h2; cases h2
                  | bor m => unfold putK at h2; cases h2
                  | val d =>
                    unfold putK at h2
                    simp only at h2
                    split at h2
                    · cases h2; exact foot_set_pub f
                    · cases h2
            obtain ⟨ok3, x3⟩ := putK_read ok2 x2 rdu' fru h3
            exact ⟨p, [v, u], rfl, .inl (.inl upd_same), rfl, v, [u], rfl, u, [], rfl, rfl, k _ _ ok3 x3⟩
  · cases e
end
theorem hu64 {k : Nat} {A : Around} (r : Room k A) : A.units + 64 < cLine := by have := r.un; omega
theorem hu65 {k : Nat} {A : Around} (r : Room k A) : A.units + 65 < cLine := by have := r.un; omega
def cNeg : Amb → Vx.D → Option R := fun _ d => match d with | .int i => some (.val (.int (-i))) | _ => none
def eNeg (f : EvF) : EvF := e1 f cNeg
theorem ve_negN {X : Cx} {a : Expr} {f : EvF} {pos : Pos} (ha : VE X a f) : VE X (.UnaryOp .USub a pos) (eNeg f) := ve_neg ha
/-- turns of a while -/
def Fu : Nat := 1000000
/-- a def of the text: where it stands, what it means -/
structure Cal (P : Program) (w : World) (K : PySem.W.Frag) (mg : Str → Option Value) (base : Heap) (k : Nat) (x : Str) (stt : Stmt) (ps : List Str) (m : Mean) where
  f : Addr
  fd : FuncData
  F : Fun K x x stt f fd
  V : VFn P w K mg base k f fd ps m
  hm : mg x = some (.ref f)
  hk : PySem.W.keepIn K (.ref f) = true
  hb : Binds K fd ps []
section
variable {X : Cx} {k : Nat} {ps ks : List Str} {m : Mean} {x : Str} {stt : Stmt} {p pos : Pos} {e : Expr} {es : List Expr} {FA : EvA} {kws : List Keyword}
theorem ve_cal (C : Cal X.prog X.w X.K X.mg X.base k x stt ps m) (hr : Room k X.A) (hg : Gl X x) (ha : VA X (e :: es) FA) (hn : LenA FA ps.length)
    (hdb : (x == ("__debug__" : Str)) = false := by decide) (he : starEach (e :: es) X.env = (false, eval e X.env) :: starEach es X.env := by rfl) (hpl : (backTo pos (starEach es X.env)).any (·.1) = false := by rfl) :
    VE X (.Call (.Name x p) (e :: es) [] pos) (eCall m FA) := ve_call C.V hr hg C.hm C.hk C.hb ha hn hdb he hpl
theorem ve_calK (ix : List Nat) (C : Cal X.prog X.w X.K X.mg X.base k x stt ps m) (hr : Room k X.A) (hg : Gl X x) (hkw : VKw X kws FA) (hn : LenA FA ks.length) (hp : ∀ l : List Vx.D, l.length = ks.length → (pick ix l).length = ps.length)
    (h : ∀ (kV doc pm : Value) (an : Option Addr) (cdv ct : Value) (ws : List Value), ws.length = ks.length → bindArgs (PySem.W.fnOf x x (defArgs stt) (defBody stt) (defScope stt) .none kV doc pm an cdv ct) ⟨[], ks.zip ws⟩ = pure (ps.zip (pick ix ws)))
    (hall : (backToKw pos (keywordEach kws X.env)).all (·.1.isSome) = true := by rfl) (hks : (backToKw pos (keywordEach kws X.env)).filterMap (·.1) = ks := by rfl)
    (hdb : (x == ("__debug__" : Str)) = false := by decide) (hpl : ((backTo pos (starEach [] X.env)).any (·.1) || (backToKw pos (keywordEach kws X.env)).any (·.1.isNone)) = false := by rfl) :
    VE X (.Call (.Name x p) [] kws pos) (eCallK m ix FA) := ve_callK ix C.V hr hg C.hm C.hk (kbn_pick C.F ix h) hkw hn hp hall hks hdb hpl
end
/-- so many places -/
theorem pick_len {α : Type} {n : Nat} : ∀ (ix : List Nat) (l : List α), l.length = n → (∀ i ∈ ix, i < n) → (pick ix l).length = ix.length
  | [], _, _, _ => rfl
  | i :: ix, l, h, hi => by
    have h1 : i < l.length := by rw [h]; exact hi i List.mem_cons_self
    have ih := pick_len ix l h fun j hj => hi j (List.mem_cons_of_mem _ hj)
    unfold pick at ih ⊢
    rw [List.flatMap_cons, List.length_append, ih, List.getElem?_eq_getElem h1]
    simp [Nat.add_comm]
/-- the law's promise, from what its meaning says of the script -/
theorem repL_ints {K : PySem.W.Frag} {w : Wd} : ∀ ns : List Int, RepL K w (ns.map V.int) (ns.map Vx.D.int)
  | [] => .nil
  | n :: ns => .cons (.int n) (repL_ints ns)
theorem sp_end {K : PySem.W.Frag} {m : Mean} (h : ∀ ns : List Int, ns.length ≤ 63 → ∃ st', m [.frz (ns.map Vx.D.int)] [] = some (.val (.bl true), st')) {H : Hp} {a : Addr} {ns : List Int} {E : XK} (hl : ns.length ≤ 63) (hO : Only H) (hS : SqL K H a (ns.map V.int)) :
    spV K 1 m [.ref a] H (fun v _ => v = .bl true) E := by
  obtain ⟨st', e⟩ := h ns hl
  have r : Rep K ⟨[], fun _ => False, H⟩ (.ref a) (.frz (ns.map Vx.D.int)) := by
    rcases hS with (hS | ⟨o, hS⟩) | ⟨o, its, n, h1, h2, h3, h4, h5, h6⟩
    · rcases hO a with z | ⟨o, xs, z⟩
      · rw [hS] at z; cases z
      · rw [hS] at z; cases z
    · exact .frz hS (repL_ints ns)
    · exact .frk h1 h2 h3 h4 h5 h6 (repL_ints ns)
  refine ⟨[], fun _ => False, [.frz (ns.map Vx.D.int)], [], _, st', ⟨rfl, fun n a z => (by cases z), List.nodup_nil, fun a z => z.elim⟩, .cons r .nil, rfl, e, fun v w' _ _ rd _ => ?_⟩
  cases rd
  rfl
end Vx


set_option Elab.async false
set_option linter.all false
set_option maxRecDepth 100000
/-! Vp: the laws' shared defs (deal, any, is_kind, same, all) as plain functions. -/
namespace Vx
open PySem PySem.Spec L2
def b__law_deal : SvF := (sSeq (sAsg (.name 2) (e2 (e2 (e2 (e2 (e2 (e2 (eC (.int 10)) (eC (.int 64)) (cI fPow)) (e2 (eC (.int 10)) (eC (.int 64)) (cI fPow)) cMul) (e2 (eC (.int 10)) (eC (.int 64)) (cI fPow)) cMul) (e2 (eC (.int 10)) (eC (.int 64)) (cI fPow)) cMul) (e2 (eC (.int 10)) (eC (.int 64)) (cI fPow)) cMul) (e2 (eC (.int 10)) (eC (.int 64)) (cI fPow)) cMul)) (sSeq (sAsg (.name 3) (eLc (iSeq (eSl (eVar 0) oNone (oSome (eC (.int 63))))) (.name 5) tYesB (e2 (eA (eCons (eA (eCons (eA (eCons (eVar 5) eNil) cInt) eNil) cAbs) eNil) cInt) (eVar 2) (cI fMod)) [5])) (sSeq (sAsg (.name 4) (e2 (eC (.int 70001)) (e2 (eC (.int 7919)) (eVar 1) cMul) cAdd)) (sSeq (sFor (iSeq (eVar 3)) (.name 5) (sAsg (.name 4) (e2 (eA (eCons (e2 (e2 (e2 (eVar 4) (eC (.int 69621)) cMul) (e2 (eA (eCons (eVar 5) eNil) cInt) (eC (.int 2147483563)) (cI fMod)) cAdd) (eC (.int 23)) cAdd) eNil) cInt) (eC (.int 2147483647)) (cI fMod)))) (sRet (eAmb (eLst (eCons (eAmb (e1 (eLc (iSeq (eVar 3)) (.name 5) (eT (e2 (eVar 5) (e2 (eC (.int 10)) (eC (.int 18)) (cI fPow)) (cI fGe))) (eVar 5) [5]) cRev)) (eCons (eVar 4) eNil)))))))))
def m__law_deal : Mean := meanOf 6 2 b__law_deal
def b__law_any : SvF := (sSeq (sWhile Fu (tAndB (eT (e2 (eA (eCons (e2 (eVar 0) (eC (.int 0)) cIx) eNil) cLen) (eC (.int 0)) (cI fGt))) (eT (e2 (e2 (e2 (eVar 0) (eC (.int 0)) cIx) (eNeg (eC (.int 1))) cIx) (eC (.int 0)) cEq))) (sDrop (ePop (e2 (eVar 0) (eC (.int 0)) cIx)))) (sSeq (sIf (eT (e2 (eA (eCons (e2 (eVar 0) (eC (.int 0)) cIx) eNil) cLen) (eC (.int 0)) (cI fGt))) (sSeq (sAsg (.name 2) (eA (eCons (ePop (e2 (eVar 0) (eC (.int 0)) cIx)) eNil) cInt)) (sSeq (sLocApp (e2 (eVar 0) (eC (.int 0)) cIx) (e2 (eVar 2) (eVar 1) (cI fDiv))) (sRet (e2 (eVar 2) (eVar 1) (cI fMod))))) sNil) (sSeq (sLocSet (e2 (eA (eCons (e2 (e2 (e2 (eVar 0) (eC (.int 1)) cIx) (eC (.int 48271)) cMul) (eC (.int 31)) cAdd) eNil) cInt) (eC (.int 2147483647)) (cI fMod)) (eVar 0) (eC (.int 1))) (sRet (e2 (eA (eCons (e2 (e2 (eVar 0) (eC (.int 1)) cIx) (eC (.int 64)) (cI fDiv)) eNil) cInt) (eVar 1) (cI fMod))))))
def m__law_any : Mean := meanOf 3 2 b__law_any
def b__law_is_kind : SvF := (sSeq (sIf (eT (e2 (eVar 1) (eC .non) cIs)) (sRet (e2 (eVar 0) (eC .non) cIs)) sNil) (sSeq (sIf (tOrB (eT (e2 (eVar 1) (eC (.bl true)) cIs)) (eT (e2 (eVar 1) (eC (.bl false)) cIs))) (sRet (eIf (eT (eVar 1)) (e2 (eVar 0) (eC (.bl true)) cIs) (e2 (eVar 0) (eC (.bl false)) cIs))) sNil) (sSeq (sIf (eT (e1 (eVar 1) (cIsi .str))) (sRet (eAndV (e1 (eVar 0) (cIsi .str)) (e2 (eVar 0) (eVar 1) cEq))) sNil) (sRet (eAndV (e1 (eVar 0) (cIsi .int)) (eAndV (eNotV (e1 (eVar 0) (cIsi .bool))) (e2 (eVar 0) (eVar 1) cEq)))))))
def m__law_is_kind : Mean := meanOf 2 2 b__law_is_kind
def b__law_same : SvF := (sSeq (sOwn 2 (eLst (eCons (eTup (eCons (eVar 0) (eCons (eVar 1) eNil))) eNil))) (sSeq (sWhile Fu (eT (e2 (eA (eCons (eVar 2) eNil) cLen) (eC (.int 0)) (cI fGt))) (sSeq (sPopA (.names [3, 4]) 2) (sIf (eT (e1 (eVar 4) (cIsi .tuple))) (sSeq (sIf (tOrB (tNotB (eT (e1 (eVar 3) (cIsi .tuple)))) (eT (e2 (eA (eCons (eVar 3) eNil) cLen) (eA (eCons (eVar 4) eNil) cLen) cNe))) (sRet (eC (.bl false))) sNil) (sFor (iRg1 (eCons (eA (eCons (eVar 4) eNil) cLen) eNil)) (.name 5) (sApp 2 (eTup (eCons (e2 (eVar 3) (eVar 5) cIx) (eCons (e2 (eVar 4) (eVar 5) cIx) eNil)))))) (sIf (tOrB (eT (e1 (eVar 3) (cIsis [.tuple, .list, .dict]))) (tNotB (eT (eCall m__law_is_kind (eCons (eVar 3) (eCons (eVar 4) eNil)))))) (sRet (eC (.bl false))) sNil)))) (sRet (eC (.bl true)))))
def m__law_same : Mean := meanOf 6 2 b__law_same
def b__law_all : SvF := (sRet (e2 (eA (eCons (eLc (iSeq (eVar 0)) (.names [1, 2]) (tNotB (eT (eCall m__law_same (eCons (eVar 1) (eCons (eVar 2) eNil))))) (eVar 1) [1, 2]) eNil) cLen) (eC (.int 0)) cEq))
def m__law_all : Mean := meanOf 3 1 b__law_all
theorem log2_lt' {n k : Nat} (h : n < 2 ^ (k + 1)) : n.log2 < k + 1 := by
  rcases Nat.eq_zero_or_pos n with z | z
  · subst z
    have : (0 : Nat).log2 = 0 := by decide
    omega
  · exact (Nat.log2_lt (by omega)).mpr h
/-- the draws: the cells, the mix -/
def DealAt (st rest : Amb) : Prop := ∃ (cs : List Int) (mix : Int), cs.length ≤ 63 ∧ 0 ≤ mix ∧ mix < 2147483647 ∧ st = cs.map Vx.D.int :: [.loc 0, .int mix] :: rest
theorem fu_succ : Fu = 999999 + 1 := rfl
theorem whL_false {t : EvB} {B : SvF} {n : Nat} {sl : Sls} {st st' : Amb} (h : t sl st = some (false, st')) : whL t B (n + 1) sl st = some (.nx sl st') := by
  rw [whL, h]; rfl
theorem whL_true {t : EvB} {B : SvF} {n : Nat} {sl sl2 : Sls} {st st' st2 : Amb} (h : t sl st = some (true, st')) (h2 : B sl st' = some (.nx sl2 st2)) : whL t B (n + 1) sl st = whL t B n sl2 st2 := by
  rw [whL, h]
  simp [h2]
theorem flat64_int (i : Int) : flat64 (.int i) = true := by simp [flat64, Vx.D.dat, Vx.D.dep]
theorem mean_rt {N n : Nat} {F : SvF} {ds : List Vx.D} {st st' : Amb} {r : R} (sl : Sls) (hs : sl = ds.map Sl.pub ++ List.replicate (N - n) .un) (h : F sl st = some (.rt r st')) : meanOf N n F ds st = some (r, st') := by
  unfold meanOf; rw [← hs, h]
theorem seq_nx {F G : SvF} {sl sl1 : Sls} {st st1 : Amb} {r : Option Out} (h1 : F sl st = some (.nx sl1 st1)) (h2 : G sl1 st1 = r) : sSeq F G sl st = r := by
  unfold sSeq; rw [h1]; exact h2
theorem seq_rt {F G : SvF} {sl : Sls} {st st1 : Amb} {r : R} (h1 : F sl st = some (.rt r st1)) : sSeq F G sl st = some (.rt r st1) := by
  unfold sSeq; rw [h1]; rfl
section any
abbrev aT : EvB := (tAndB (eT (e2 (eA (eCons (e2 (eVar 0) (eC (.int 0)) cIx) eNil) cLen) (eC (.int 0)) (cI fGt))) (eT (e2 (e2 (e2 (eVar 0) (eC (.int 0)) cIx) (eNeg (eC (.int 1))) cIx) (eC (.int 0)) cEq)))
abbrev aB : SvF := (sDrop (ePop (e2 (eVar 0) (eC (.int 0)) cIx)))
theorem atI_neg {α : Type} (l : List α) (x : α) : atI (l ++ [x]) (-1) = some x := by
  have h : ixN (l ++ [x]).length (-1) = some l.length := by
    unfold ixN
    have : ¬ (0 : Int) ≤ -1 := by decide
    rw [if_neg this, if_pos (by simp; omega)]
    simp
    omega
  unfold atI
  rw [h]
  simp
theorem atI_0 {α : Type} (x : α) (l : List α) : atI (x :: l) 0 = some x := by
  have h : ixN (x :: l).length 0 = some 0 := by unfold ixN; simp
  unfold atI
  rw [h]
  simp
theorem atI_1 {α : Type} (x y : α) (l : List α) : atI (x :: y :: l) 1 = some y := by
  have h : ixN (x :: y :: l).length 1 = some 1 := by unfold ixN; simp; omega
  unfold atI
  rw [h]
  simp
theorem aT_nil (mix : Int) (rest : Amb) (x : Sl) : aT [.pub (.loc 1), x, .un] ([] :: [.loc 0, .int mix] :: rest) = some (false, [] :: [.loc 0, .int mix] :: rest) := by
  simp [tAndB, eT, e2, eA, eCons, eNil, eVar, eC, cIx, seqD, atI_0, R.d, cLen, cI, fGt]
theorem aT_snoc (cs : List Int) (c mix : Int) (rest : Amb) (x : Sl) : aT [.pub (.loc 1), x, .un] ((cs ++ [c]).map Vx.D.int :: [.loc 0, .int mix] :: rest) = some (c == 0, (cs ++ [c]).map Vx.D.int :: [.loc 0, .int mix] :: rest) := by
  simp [tAndB, eT, e2, eA, eCons, eNil, eVar, eC, cIx, seqD, atI_0, R.d, cLen, cI, fGt, eNeg, e1, cNeg, cEq, flat64_int, Vx.D.eqv, atI_neg]
theorem aB_snoc (cs : List Int) (c mix : Int) (rest : Amb) (x : Sl) : aB [.pub (.loc 1), x, .un] ((cs ++ [c]).map Vx.D.int :: [.loc 0, .int mix] :: rest) = some (.nx [.pub (.loc 1), x, .un] (cs.map Vx.D.int :: [.loc 0, .int mix] :: rest)) := by
  simp [sDrop, ePop, cPop, e2, eVar, eC, cIx, seqD, atI_0, R.d]
theorem snoc_cases {α : Type} (l : List α) : l = [] ∨ ∃ m x, l = m ++ [x] := by
  rcases List.eq_nil_or_concat l with h | ⟨m, x, h⟩
  · exact .inl h
  · exact .inr ⟨m, x, by rw [h, List.concat_eq_append]⟩
/-- the first loop: cells of 0 at the end go -/
theorem aW (x : Sl) (rest : Amb) (mix : Int) : ∀ (n : Nat) (cs : List Int), cs.length < n → ∃ cs' : List Int, cs'.length ≤ cs.length ∧ whL aT aB n [.pub (.loc 1), x, .un] (cs.map Vx.D.int :: [.loc 0, .int mix] :: rest) = some (.nx [.pub (.loc 1), x, .un] (cs'.map Vx.D.int :: [.loc 0, .int mix] :: rest))
  | 0, _, h => by omega
  | n + 1, cs, h => by
    rcases snoc_cases cs with rfl | ⟨m, c, rfl⟩
    · exact ⟨[], Nat.le_refl _, whL_false (aT_nil mix rest x)⟩
    · by_cases hc : c = 0
      · subst hc
        obtain ⟨cs', h1, h2⟩ := aW x rest mix n m (by simp at h; omega)
        refine ⟨cs', by simp; omega, ?_⟩
        rw [whL_true (aT_snoc m 0 mix rest x) (aB_snoc m 0 mix rest x), h2]
      · exact ⟨m ++ [c], Nat.le_refl _, whL_false (by rw [aT_snoc]; simp [hc])⟩
theorem mAny_eq : m__law_any = meanOf 3 2 (sSeq (sWhile Fu aT aB) (sSeq (sIf (eT (e2 (eA (eCons (e2 (eVar 0) (eC (.int 0)) cIx) eNil) cLen) (eC (.int 0)) (cI fGt))) (sSeq (sAsg (.name 2) (eA (eCons (ePop (e2 (eVar 0) (eC (.int 0)) cIx)) eNil) cInt)) (sSeq (sLocApp (e2 (eVar 0) (eC (.int 0)) cIx) (e2 (eVar 2) (eVar 1) (cI fDiv))) (sRet (e2 (eVar 2) (eVar 1) (cI fMod))))) sNil) (sSeq (sLocSet (e2 (eA (eCons (e2 (e2 (e2 (eVar 0) (eC (.int 1)) cIx) (eC (.int 48271)) cMul) (eC (.int 31)) cAdd) eNil) cInt) (eC (.int 2147483647)) (cI fMod)) (eVar 0) (eC (.int 1))) (sRet (e2 (eA (eCons (e2 (e2 (eVar 0) (eC (.int 1)) cIx) (eC (.int 64)) (cI fDiv)) eNil) cInt) (eVar 1) (cI fMod)))))) := rfl
theorem law_any {st rest : Amb} {b : Int} (h0 : 0 < b) (h1 : b < 1073741824) (D : DealAt st rest) : ∃ (r : Int) (st' : Amb), m__law_any [.loc 1, .int b] st = some (.val (.int r), st') ∧ 0 ≤ r ∧ r < b ∧ DealAt st' rest := by
  obtain ⟨cs, mix, hl, m0, m1, rfl⟩ := D
  obtain ⟨cs', hl', hw⟩ := aW (.pub (.int b)) rest mix Fu cs (by rw [fu_succ]; omega)
  have hb : Int.toNat b < 2 ^ 30 := by omega
  rcases snoc_cases cs' with rfl | ⟨m, c, rfl⟩
  · refine ⟨((mix * 48271 + 31) % 2147483647 / 64) % b, _, ?_, Int.emod_nonneg _ (by omega), Int.emod_lt_of_pos _ h0, [], (mix * 48271 + 31) % 2147483647, by simp, Int.emod_nonneg _ (by decide), Int.emod_lt_of_pos _ (by decide), rfl⟩
    have hg : mix.natAbs.log2 + Nat.log2 48271 < 1000000 := by
      have a1 : mix.natAbs.log2 < 30 + 1 := log2_lt' (by omega)
      have a2 : Nat.log2 48271 < 30 + 1 := log2_lt' (by decide)
      omega
    rw [mAny_eq]
    refine mean_rt [.pub (.loc 1), .pub (.int b), .un] rfl (seq_nx hw (seq_nx (sl1 := [.pub (.loc 1), .pub (.int b), .un]) (st1 := [] :: [.loc 0, .int mix] :: rest) ?_ (seq_nx (sl1 := [.pub (.loc 1), .pub (.int b), .un]) (st1 := [] :: [.loc 0, .int ((mix * 48271 + 31) % 2147483647)] :: rest) ?_ ?_)))
    · simp [sIf, eT, sNil, e2, eA, eCons, eNil, eVar, eC, cIx, seqD, atI_0, atI_1, R.d, cLen, cI, fGt]
    · simp [sLocSet, ePub, e2, eA, eCons, eNil, eVar, eC, cIx, seqD, atI_0, atI_1, R.d, cI, cMul, fMul, cAdd, cInt, fMod, hg, ixN]
    · simp [sRet, e2, eA, eCons, eNil, eVar, eC, cIx, seqD, atI_0, atI_1, R.d, cI, cInt, fMod, fDiv, h0]
  · refine ⟨c % b, _, ?_, Int.emod_nonneg _ (by omega), Int.emod_lt_of_pos _ h0, m ++ [c / b], mix, by simp at hl' ⊢; omega, m0, m1, rfl⟩
    simp at hl'
    have hz : m.length < line := by unfold line; omega
    rw [mAny_eq]
    refine mean_rt [.pub (.loc 1), .pub (.int b), .un] rfl (seq_nx hw (seq_rt ?_))
    simp [sIf, sSeq, eT, sRet, sLocApp, sAsg, ePub, put, e2, eA, eCons, eNil, eVar, eC, cIx, seqD, atI_0, atI_1, R.d, cLen, cI, fGt, cInt, fMod, fDiv, h0, h1, ePop, cPop, hz]
end any
section deal
theorem lcL_filter {t : Tg} {tb : EvB} {f : EvF} {sl : Sls} {st : Amb} (p : Vx.D → Bool) (g : Vx.D → Vx.D) : ∀ l : List Vx.D, (∀ d ∈ l, ∃ sl1, put t d sl = some sl1 ∧ tb sl1 st = some (p d, st) ∧ (p d = true → evD f sl1 st = some (g d, st))) → lcL t tb f sl l st = some ((l.filter p).map g, st)
  | [], _ => rfl
  | d :: l, h => by
    obtain ⟨sl1, h1, h2, h3⟩ := h d List.mem_cons_self
    have ih := lcL_filter p g l fun x hx => h x (List.mem_cons_of_mem _ hx)
    rw [lcL, h1]
    simp only [Option.bind_some, h2]
    cases hp : p d with
    | false => simp [hp, ih]
    | true => simp [hp, ih, h3 hp]
theorem lcL_map {t : Tg} {f : EvF} {sl : Sls} {st : Amb} (g : Vx.D → Vx.D) (l : List Vx.D) (h : ∀ d ∈ l, ∃ sl1, put t d sl = some sl1 ∧ evD f sl1 st = some (g d, st)) : lcL t tYesB f sl l st = some (l.map g, st) := by
  rw [lcL_filter (fun _ => true) g l fun d hd => by
    obtain ⟨sl1, h1, h2⟩ := h d hd
    exact ⟨sl1, h1, rfl, fun _ => h2⟩]
  rw [List.filter_eq_self.mpr fun _ _ => rfl]
theorem forL_step {t : Tg} {B : SvF} {d : Vx.D} {l : List Vx.D} {sl sl1 sl2 : Sls} {st st2 : Amb} (h1 : put t d sl = some sl1) (h2 : B sl1 st = some (.nx sl2 st2)) : forL t B (d :: l) sl st = forL t B l sl2 st2 := by
  rw [forL, h1]
  simp [h2]
def MO : Int := 10 ^ 384
abbrev dMost : EvF := (e2 (e2 (e2 (e2 (e2 (e2 (eC (.int 10)) (eC (.int 64)) (cI fPow)) (e2 (eC (.int 10)) (eC (.int 64)) (cI fPow)) cMul) (e2 (eC (.int 10)) (eC (.int 64)) (cI fPow)) cMul) (e2 (eC (.int 10)) (eC (.int 64)) (cI fPow)) cMul) (e2 (eC (.int 10)) (eC (.int 64)) (cI fPow)) cMul) (e2 (eC (.int 10)) (eC (.int 64)) (cI fPow)) cMul)
theorem dMost_eq (sl : Sls) (st : Amb) : dMost sl st = some (.val (.int MO), st) := by
  have e1 : fPow 10 64 = some (.int (10 ^ 64)) := by unfold fPow; rw [if_pos (by decide +kernel)]; rfl
  have m (i j k : Int) (h : i * j = k) (g : i.natAbs.log2 + j.natAbs.log2 < 1000000) : fMul i j = some (.int k) := by unfold fMul; rw [if_pos g, h]
  have e2 : fMul (10 ^ 64) (10 ^ 64) = some (.int (10 ^ 128)) := m _ _ _ (by decide +kernel) (by decide +kernel)
  have e3 : fMul (10 ^ 128) (10 ^ 64) = some (.int (10 ^ 192)) := m _ _ _ (by decide +kernel) (by decide +kernel)
  have e4 : fMul (10 ^ 192) (10 ^ 64) = some (.int (10 ^ 256)) := m _ _ _ (by decide +kernel) (by decide +kernel)
  have e5 : fMul (10 ^ 256) (10 ^ 64) = some (.int (10 ^ 320)) := m _ _ _ (by decide +kernel) (by decide +kernel)
  have e6 : fMul (10 ^ 320) (10 ^ 64) = some (.int MO) := m _ _ _ (by decide +kernel) (by decide +kernel)
  simp only [Vx.e2, eC, cI, cMul, R.d, Option.bind_some, Option.map_some, e1, e2, e3, e4, e5, e6]
theorem MO_pos : 0 < MO := by decide +kernel
def gC : Vx.D → Vx.D
  | .int i => .int ((if i < 0 then -i else i) % MO)
  | d => d
def cellI (i : Int) : Int := (if i < 0 then -i else i) % MO
theorem gC_map (ns : List Int) : (ns.map Vx.D.int).map gC = (ns.map cellI).map Vx.D.int := by
  rw [List.map_map, List.map_map]; rfl
theorem dCells (ns : List Int) (salt : Int) (st : Amb) : eLc (iSeq (eSl (eVar 0) oNone (oSome (eC (.int 63))))) (.name 5) tYesB (e2 (eA (eCons (eA (eCons (eA (eCons (eVar 5) eNil) cInt) eNil) cAbs) eNil) cInt) (eVar 2) (cI fMod)) [5] [.pub (.frz (ns.map .int)), .pub (.int salt), .pub (.int MO), .un, .un, .un] st
    = some (.prv (((ns.take 63).map cellI).map Vx.D.int), st) := by
  have hi : iSeq (eSl (eVar 0) oNone (oSome (eC (.int 63)))) [.pub (.frz (ns.map .int)), .pub (.int salt), .pub (.int MO), .un, .un, .un] st = some ((ns.take 63).map .int, st) := by
    have hc : cutD (ns.map Vx.D.int) none (some 63) = (ns.take 63).map .int := by
      unfold cutD
      simp [HT.sIx]
    simp [iSeq, eSl, eVar, oNone, oSome, eC, cSl, seqD, R.d, hc]
  have hl : lcL (.name 5) tYesB (e2 (eA (eCons (eA (eCons (eA (eCons (eVar 5) eNil) cInt) eNil) cAbs) eNil) cInt) (eVar 2) (cI fMod)) (wipeS [.pub (.frz (ns.map .int)), .pub (.int salt), .pub (.int MO), .un, .un, .un] [5]) ((ns.take 63).map .int) st = some (((ns.take 63).map .int).map gC, st) := by
    refine lcL_map gC _ fun d hd => ?_
    obtain ⟨i, _, rfl⟩ := List.mem_map.mp hd
    refine ⟨[.pub (.frz (ns.map .int)), .pub (.int salt), .pub (.int MO), .un, .un, .pub (.int i)], by simp [put, wipeS], ?_⟩
    simp [evD, ePub, e2, eA, eCons, eNil, eVar, R.d, cInt, cAbs, cI, fMod, MO_pos, gC]
  unfold eLc
  rw [if_pos (by simp [noOwn]), hi]
  simp only [Option.bind_some, hl, gC_map]
  rw [if_pos (by simp; unfold line; omega)]
abbrev dB : SvF := (sAsg (.name 4) (e2 (eA (eCons (e2 (e2 (e2 (eVar 4) (eC (.int 69621)) cMul) (e2 (eA (eCons (eVar 5) eNil) cInt) (eC (.int 2147483563)) (cI fMod)) cAdd) (eC (.int 23)) cAdd) eNil) cInt) (eC (.int 2147483647)) (cI fMod)))
theorem dMix (s0 s1 s2 s3 : Sl) (st : Amb) : ∀ (cs : List Int) (mix : Int) (x : Sl), 0 ≤ mix → mix < 2147483647 → ∃ (mix' : Int) (x' : Sl), 0 ≤ mix' ∧ mix' < 2147483647 ∧ (x = .un ∨ (∃ d, x = .pub d) → x' = .un ∨ ∃ d, x' = .pub d) ∧
    forL (.name 5) dB (cs.map Vx.D.int) [s0, s1, s2, s3, .pub (.int mix), x] st = some (.nx [s0, s1, s2, s3, .pub (.int mix'), x'] st)
  | [], mix, x, h0, h1 => ⟨mix, x, h0, h1, id, rfl⟩
  | c :: cs, mix, x, h0, h1 => by
    have hg : mix.natAbs.log2 + Nat.log2 69621 < 1000000 := by
      have a1 : mix.natAbs.log2 < 30 + 1 := log2_lt' (by omega)
      have a2 : Nat.log2 69621 < 30 + 1 := log2_lt' (by decide)
      omega
    obtain ⟨m', x', a, b, u, e⟩ := dMix s0 s1 s2 s3 st cs ((mix * 69621 + c % 2147483563 + 23) % 2147483647) (.pub (.int c)) (Int.emod_nonneg _ (by decide)) (Int.emod_lt_of_pos _ (by decide))
    refine ⟨m', x', a, b, fun _ => u (.inr ⟨_, rfl⟩), ?_⟩
    rw [List.map_cons, forL_step (sl1 := [s0, s1, s2, s3, .pub (.int mix), .pub (.int c)]) (sl2 := [s0, s1, s2, s3, .pub (.int ((mix * 69621 + c % 2147483563 + 23) % 2147483647)), .pub (.int c)]) (st2 := st) (by simp [put]) (by
      simp [sAsg, ePub, put, e2, eA, eCons, eNil, eVar, eC, R.d, cI, cMul, fMul, cAdd, cInt, fMod, hg]), e]
def gF : Vx.D → Bool
  | .int i => decide (10 ^ 18 ≤ i)
  | _ => false
theorem gF_map (cs : List Int) : ((cs.map Vx.D.int).filter gF).map id = (cs.filter fun i => decide (10 ^ 18 ≤ i)).map Vx.D.int := by
  rw [List.map_id, List.filter_map]; rfl
theorem law_deal (ns : List Int) (salt : Int) (h0 : 0 ≤ salt) (h1 : salt ≤ 100000) : ∃ st, m__law_deal [.frz (ns.map .int), .int salt] [] = some (.val (.loc 1), st) ∧ DealAt st [] := by
  have hcl : ((ns.take 63).map cellI).length ≤ 63 := by simp; omega
  have dc := dCells ns salt []
  generalize (ns.take 63).map cellI = cc at dc hcl
  have hm0 : (0 : Int) ≤ 70001 + 7919 * salt := by omega
  have hm1 : 70001 + 7919 * salt < 2147483647 := by omega
  have hg : Nat.log2 7919 + salt.natAbs.log2 < 1000000 := by
    have a1 : salt.natAbs.log2 < 30 + 1 := log2_lt' (by omega)
    have a2 : Nat.log2 7919 < 30 + 1 := log2_lt' (by decide)
    omega
  obtain ⟨mix, x, m0, m1, hx, hl⟩ := dMix (.pub (.frz (ns.map .int))) (.pub (.int salt)) (.pub (.int MO)) (.pub (.lst (cc.map Vx.D.int))) [] cc (70001 + 7919 * salt) .un hm0 hm1
  have hx := hx (.inl rfl)
  have hno : noOwn [.pub (.frz (ns.map .int)), .pub (.int salt), .pub (.int MO), .pub (.lst (cc.map Vx.D.int)), .pub (.int mix), x] [5] = true := by
    rcases hx with rfl | ⟨d, rfl⟩ <;> simp [noOwn]
  have h18 : fPow 10 18 = some (.int (10 ^ 18)) := by unfold fPow; rw [if_pos (by decide +kernel)]; rfl
  have hlc : lcL (.name 5) (eT (e2 (eVar 5) (e2 (eC (.int 10)) (eC (.int 18)) (cI fPow)) (cI fGe))) (eVar 5) (wipeS [.pub (.frz (ns.map .int)), .pub (.int salt), .pub (.int MO), .pub (.lst (cc.map Vx.D.int)), .pub (.int mix), x] [5]) (cc.map Vx.D.int) []
      = some (((cc.map Vx.D.int).filter gF).map id, []) := by
    refine lcL_filter gF id _ fun d hd => ?_
    obtain ⟨i, _, rfl⟩ := List.mem_map.mp hd
    refine ⟨[.pub (.frz (ns.map .int)), .pub (.int salt), .pub (.int MO), .pub (.lst (cc.map Vx.D.int)), .pub (.int mix), .pub (.int i)], by simp [put, wipeS], ?_, fun _ => ?_⟩
    · simp only [eT, e2, eVar, eC, R.d, cI, fGe, h18, gF, List.getElem?_cons_succ, List.getElem?_cons_zero, Option.bind_some, Option.map_some]
    · simp [evD, ePub, eVar]
  rw [gF_map] at hlc
  refine ⟨[((cc.filter fun i => decide (10 ^ 18 ≤ i)).reverse).map Vx.D.int, [.loc 0, .int mix]], ?_, ((cc.filter fun i => decide (10 ^ 18 ≤ i)).reverse), mix, ?_, m0, m1, rfl⟩
  · refine mean_rt [.pub (.frz (ns.map .int)), .pub (.int salt), .un, .un, .un, .un] rfl (seq_nx (st1 := []) (sl1 := [.pub (.frz (ns.map .int)), .pub (.int salt), .pub (.int MO), .un, .un, .un]) ?_
      (seq_nx (st1 := []) (sl1 := [.pub (.frz (ns.map .int)), .pub (.int salt), .pub (.int MO), .pub (.lst (cc.map Vx.D.int)), .un, .un]) ?_
      (seq_nx (st1 := []) (sl1 := [.pub (.frz (ns.map .int)), .pub (.int salt), .pub (.int MO), .pub (.lst (cc.map Vx.D.int)), .pub (.int (70001 + 7919 * salt)), .un]) ?_
      (seq_nx (st1 := []) (sl1 := [.pub (.frz (ns.map .int)), .pub (.int salt), .pub (.int MO), .pub (.lst (cc.map Vx.D.int)), .pub (.int mix), x]) ?_ ?_))))
    · simp only [sAsg, ePub, dMost_eq]; rfl
    · simp only [sAsg, ePub, dc]; rfl
    · simp [sAsg, ePub, put, e2, eVar, eC, R.d, cMul, cI, fMul, cAdd, hg]
    · simp only [sFor, iSeq, eVar, List.getElem?_cons_succ, List.getElem?_cons_zero, Option.bind_some]
      exact hl
    · have hlen : (List.filter (fun i => decide (10 ^ 18 ≤ i)) cc).length ≤ line := by
        refine Nat.le_trans (List.length_filter_le _ _) (Nat.le_trans hcl (by decide))
      have hlc2 : eLc (iSeq (eVar 3)) (.name 5) (eT (e2 (eVar 5) (e2 (eC (.int 10)) (eC (.int 18)) (cI fPow)) (cI fGe))) (eVar 5) [5] [.pub (.frz (ns.map .int)), .pub (.int salt), .pub (.int MO), .pub (.lst (cc.map Vx.D.int)), .pub (.int mix), x] []
          = some (.prv ((cc.filter fun i => decide (10 ^ 18 ≤ i)).map Vx.D.int), []) := by
        unfold eLc
        rw [if_pos hno]
        simp only [iSeq, eVar, List.getElem?_cons_succ, List.getElem?_cons_zero, Option.bind_some]
        rw [show lcL (.name 5) (eT (e2 (eVar 5) (e2 (eC (.int 10)) (eC (.int 18)) (cI fPow)) (cI fGe))) (fun sl st => eVar 5 sl st) _ _ _ = _ from hlc]
        simp only [Option.bind_some]
        rw [if_pos (by rw [List.length_map]; exact hlen)]
      simp [sRet, eAmb, eLst, eCons, eNil, e1, hlc2, cRev, seqD, R.d, eVar, vals, (by decide : 2 ≤ line)]
  · rw [List.length_reverse]
    exact Nat.le_trans (List.length_filter_le _ _) hcl
end deal
section same
mutual
/-- data that may be compared part by part -/
def D.pl : Vx.D → Bool
  | .non => true
  | .bl _ => true
  | .int _ => true
  | .str s => PyData.strOk s
  | .tup l => D.plL l
  | .lst _ => false
  | .frz _ => false
  | .tpc _ => false
  | .ins _ _ _ => false
  | .mrk _ => false
  | .fn _ => false
  | .loc _ => false
def D.plL : List Vx.D → Bool
  | [] => true
  | d :: l => D.pl d && D.plL l
end
mutual
def D.sz : Vx.D → Nat
  | .tup l => D.szL l + 1
  | .non => 1
  | .bl _ => 1
  | .int _ => 1
  | .str _ => 1
  | .lst _ => 1
  | .frz _ => 1
  | .tpc _ => 1
  | .ins _ _ _ => 1
  | .mrk _ => 1
  | .fn _ => 1
  | .loc _ => 1
def D.szL : List Vx.D → Nat
  | [] => 0
  | d :: l => D.sz d + D.szL l
end
theorem sz_pos (d : Vx.D) : 1 ≤ D.sz d := by cases d <;> simp [D.sz]
theorem szL_append : ∀ (l m : List Vx.D), D.szL (l ++ m) = D.szL l + D.szL m
  | [], m => by simp [D.szL]
  | d :: l, m => by simp [D.szL, szL_append l m]; omega
theorem szL_len : ∀ l : List Vx.D, l.length ≤ D.szL l
  | [] => Nat.le_refl _
  | d :: l => by
    have := szL_len l
    have := sz_pos d
    simp [D.szL]; omega
theorem plL_append : ∀ (l m : List Vx.D), D.plL (l ++ m) = (D.plL l && D.plL m)
  | [], m => by simp [D.plL]
  | d :: l, m => by simp [D.plL, plL_append l m, Bool.and_assoc]
theorem law_kind {d : Vx.D} (h : D.pl d = true) (n : ∀ l, d ≠ .tup l) (st : Amb) : m__law_is_kind [d, d] st = some (.val (.bl true), st) := by
  refine mean_rt [.pub d, .pub d] rfl ?_
  cases d with
  | non => simp [sSeq, b__law_is_kind, sIf, eT, e2, eVar, eC, R.d, cIs, isN, sRet]
  | bl b => cases b <;> simp [sSeq, b__law_is_kind, sIf, eT, e2, eVar, eC, R.d, cIs, isN, sRet, sNil, tOrB, eIf]
  | int i => simp [sSeq, b__law_is_kind, sIf, eT, e1, e2, eVar, eC, R.d, cIs, isN, sRet, sNil, tOrB, eIf, cIsi, isT, okT, eAndV, eNotV, cEq, flat64_int, Vx.D.eqv]
  | str z =>
    have hf : flat64 (.str z) = true := by simpa [flat64, Vx.D.dat, Vx.D.dep, D.pl] using h
    simp [sSeq, b__law_is_kind, sIf, eT, e1, e2, eVar, eC, R.d, cIs, isN, sRet, sNil, tOrB, eIf, cIsi, isT, okT, eAndV, eNotV, cEq, hf, Vx.D.eqv]
  | tup l => exact absurd rfl (n l)
  | _ => simp [D.pl] at h
abbrev pr (d : Vx.D) : Vx.D := .tup [d, d]
theorem atI_nat {α : Type} {l : List α} {j : Nat} (h : j < l.length) : atI l (j : Int) = some l[j] := by
  have e : ixN l.length (j : Int) = some j := by
    unfold ixN
    rw [if_pos (by omega), if_pos (by omega)]
    simp
  unfold atI
  rw [e]
  simp [h]
abbrev smB : SvF := (sApp 2 (eTup (eCons (e2 (eVar 3) (eVar 5) cIx) (eCons (e2 (eVar 4) (eVar 5) cIx) eNil))))
theorem same_for (s0 s1 : Sl) (xs : List Vx.D) (st : Amb) : ∀ (is : List Nat) (t : List Vx.D) (x : Sl), (∀ i ∈ is, i < xs.length) → t.length + is.length ≤ line → ∃ x', forL (.name 5) smB (is.map fun (j : Nat) => Vx.D.int (0 + (j : Int))) [s0, s1, .own t, .pub (.tup xs), .pub (.tup xs), x] st
    = some (.nx [s0, s1, .own (t ++ is.map fun j => pr (xs.getD j .non)), .pub (.tup xs), .pub (.tup xs), x'] st)
  | [], t, x, _, _ => ⟨x, by simp [forL]⟩
  | j :: is, t, x, h, hl => by
    have hj := h j List.mem_cons_self
    simp only [List.length_cons] at hl
    obtain ⟨x', e⟩ := same_for s0 s1 xs st is (t ++ [pr (xs.getD j .non)]) (.pub (.int (0 + (j : Int)))) (fun i hi => h i (List.mem_cons_of_mem _ hi)) (by simp; omega)
    refine ⟨x', ?_⟩
    rw [List.map_cons, forL_step (sl1 := [s0, s1, .own t, .pub (.tup xs), .pub (.tup xs), .pub (.int (0 + (j : Int)))]) (sl2 := [s0, s1, .own (t ++ [pr (xs.getD j .non)]), .pub (.tup xs), .pub (.tup xs), .pub (.int (0 + (j : Int)))]) (st2 := st) (by simp [put]) ?_, e]
    · simp
    · have h1 : atI xs (0 + (j : Int)) = some xs[j] := by rw [Int.zero_add]; exact atI_nat hj
      have h2 : t.length < line := by omega
      simp only [Int.zero_add] at h1 ⊢
      simp [sApp, ePub, eTup, eCons, eNil, e2, eVar, R.d, cIx, seqD, h1, vals, (by decide : 2 ≤ line), h2, hj]
theorem map_getD (xs : List Vx.D) : (List.range xs.length).map (fun j => pr (xs.getD j .non)) = xs.map pr := by
  apply List.ext_getElem
  · simp
  · intro i h1 h2
    simp at h1 h2 ⊢
    simp [h1]
abbrev smT : EvB := (eT (e2 (eA (eCons (eVar 2) eNil) cLen) (eC (.int 0)) (cI fGt)))
abbrev smW : SvF := (sSeq (sPopA (.names [3, 4]) 2) (sIf (eT (e1 (eVar 4) (cIsi .tuple))) (sSeq (sIf (tOrB (tNotB (eT (e1 (eVar 3) (cIsi .tuple)))) (eT (e2 (eA (eCons (eVar 3) eNil) cLen) (eA (eCons (eVar 4) eNil) cLen) cNe))) (sRet (eC (.bl false))) sNil) (sFor (iRg1 (eCons (eA (eCons (eVar 4) eNil) cLen) eNil)) (.name 5) smB)) (sIf (tOrB (eT (e1 (eVar 3) (cIsis [.tuple, .list, .dict]))) (tNotB (eT (eCall m__law_is_kind (eCons (eVar 3) (eCons (eVar 4) eNil)))))) (sRet (eC (.bl false))) sNil)))
theorem same_pop (s0 s1 a b c : Sl) (l : List Vx.D) (d : Vx.D) (st : Amb) : sPopA (.names [3, 4]) 2 [s0, s1, .own ((l ++ [d]).map pr), a, b, c] st = some (.nx [s0, s1, .own (l.map pr), .pub d, .pub d, c] st) := by
  simp [sPopA, put, putN]
theorem same_turn (s0 s1 a b c : Sl) (l : List Vx.D) (d : Vx.D) (st : Amb) (hd : D.pl d = true) (hl : D.szL (l ++ [d]) ≤ line) : ∃ (m : List Vx.D) (a' b' c' : Sl), D.plL m = true ∧ D.szL m < D.sz d ∧ smW [s0, s1, .own ((l ++ [d]).map pr), a, b, c] st = some (.nx [s0, s1, .own ((l ++ m).map pr), a', b', c'] st) := by
  rw [szL_append] at hl
  simp only [D.szL, Nat.add_zero] at hl
  have hll := szL_len l
  by_cases ht : ∃ xs, d = .tup xs
  · obtain ⟨xs, rfl⟩ := ht
    simp only [D.sz] at hl
    have hx := szL_len xs
    obtain ⟨x', e⟩ := same_for s0 s1 xs st (List.range xs.length) (l.map pr) c (fun i hi => List.mem_range.mp hi) (by simp; omega)
    rw [map_getD] at e
    refine ⟨xs, .pub (.tup xs), .pub (.tup xs), x', by simpa [D.pl] using hd, by simp [D.sz], seq_nx (same_pop s0 s1 a b c l _ st) ?_⟩
    have hne : cNe st (.int xs.length) (.int xs.length) = some (.val (.bl false)) := by simp [cNe, flat64_int, Vx.D.eqv]
    have hi : iRg1 (eCons (eA (eCons (eVar 4) eNil) cLen) eNil) [s0, s1, .own (l.map pr), .pub (.tup xs), .pub (.tup xs), c] st = some (rg 0 xs.length, st) := by
      have : (xs.length : Int) < 4611686018427387904 := by
        have : line < 4611686018427387904 := by decide
        omega
      simp [iRg1, eCons, eNil, eA, eVar, R.d, cLen, seqD, this]
    simp only [sIf, eT, e1, eVar, List.getElem?_cons_succ, List.getElem?_cons_zero, Option.bind_some, Option.map_some, R.d, cIsi, isT, okT, if_true, if_pos]
    refine seq_nx (sl1 := [s0, s1, .own (l.map pr), .pub (.tup xs), .pub (.tup xs), c]) (st1 := st) ?_ ?_
    · simp only [sIf, tOrB, tNotB, eT, e1, e2, eA, eCons, eNil, eVar, List.getElem?_cons_succ, List.getElem?_cons_zero, Option.bind_some, Option.map_some, R.d, cIsi, isT, okT, if_true, cLen, seqD, List.map_cons, List.map_nil, hne, sNil]
      simp [hne]
    · simp only [sFor, hi, Option.bind_some]
      rw [List.map_append]
      have : rg 0 xs.length = (List.range xs.length).map fun (j : Nat) => Vx.D.int (0 + (j : Int)) := by simp [rg]
      rw [this]
      exact e
  · have hn : ∀ xs, d ≠ .tup xs := fun xs z => ht ⟨xs, z⟩
    refine ⟨[], .pub d, .pub d, c, rfl, sz_pos d, seq_nx (same_pop s0 s1 a b c l d st) ?_⟩
    have hk := law_kind hd hn st
    have i1 : isT d .tuple = false := by cases d <;> first | rfl | (simp [D.pl] at hd; done) | exact absurd rfl (hn _)
    have i2 : isT d .list = false := by cases d <;> first | rfl | simp [D.pl] at hd
    have i3 : isT d .dict = false := by cases d <;> rfl
    have i4 : okT d = true := by cases d <;> first | rfl | (simp [D.pl] at hd; done)
    simp [sIf, tOrB, tNotB, eT, e1, eVar, R.d, cIsi, cIsis, i4, i1, i2, i3, eCall, eCons, eNil, vals, hk, sNil]
theorem same_while (s0 s1 : Sl) (st : Amb) : ∀ (n : Nat) (l : List Vx.D) (a b c : Sl), D.plL l = true → D.szL l < n → n ≤ line → ∃ a' b' c' : Sl, whL smT smW n [s0, s1, .own (l.map pr), a, b, c] st = some (.nx [s0, s1, .own [], a', b', c'] st)
  | 0, _, _, _, _, _, h, _ => by omega
  | n + 1, l, a, b, c, hp, hs, hn => by
    rcases snoc_cases l with rfl | ⟨m, d, rfl⟩
    · exact ⟨a, b, c, whL_false (by simp [eT, e2, eA, eCons, eNil, eVar, eC, R.d, cLen, seqD, cI, fGt])⟩
    · rw [plL_append, Bool.and_eq_true] at hp
      have hd : D.pl d = true := by simpa [D.plL] using hp.2
      obtain ⟨m2, a', b', c', h1, h2, h3⟩ := same_turn s0 s1 a b c m d st hd (by omega)
      obtain ⟨a2, b2, c2, e⟩ := same_while s0 s1 st n (m ++ m2) a' b' c' (by rw [plL_append, hp.1, h1]; rfl) (by rw [szL_append] at hs ⊢; simp only [D.szL] at hs; omega) (by omega)
      refine ⟨a2, b2, c2, ?_⟩
      rw [whL_true (st' := st) ?_ h3, e]
      have : (0 : Int) < (m.length : Int) + 1 := by omega
      simp [eT, e2, eA, eCons, eNil, eVar, eC, R.d, cLen, seqD, cI, fGt, this]
theorem law_same {d : Vx.D} (hp : D.pl d = true) (hs : D.sz d < Fu) (st : Amb) : m__law_same [d, d] st = some (.val (.bl true), st) := by
  obtain ⟨a, b, c, e⟩ := same_while (.pub d) (.pub d) st Fu [d] .un .un .un (by simpa [D.plL] using hp) (by simpa [D.szL] using hs) (by decide)
  refine mean_rt [.pub d, .pub d, .un, .un, .un, .un] rfl (seq_nx (sl1 := [.pub d, .pub d, .own [pr d], .un, .un, .un]) (st1 := st) ?_ (seq_nx e ?_))
  · simp [sOwn, eLst, eTup, eCons, eNil, eVar, vals, (by decide : 1 ≤ line), (by decide : 2 ≤ line)]
  · simp [sRet, eC]
/-- pairs whose two parts are alike -/
def PairsOk (ps : List Vx.D) : Prop := ∀ p ∈ ps, ∃ d, p = pr d ∧ D.pl d = true ∧ D.sz d < Fu
theorem law_all {ps : List Vx.D} (h : PairsOk ps) (st : Amb) : m__law_all [.lst ps] st = some (.val (.bl true), st) := by
  have hl : lcL (.names [1, 2]) (tNotB (eT (eCall m__law_same (eCons (eVar 1) (eCons (eVar 2) eNil))))) (eVar 1) (wipeS [.pub (.lst ps), .un, .un] [1, 2]) ps st = some ((ps.filter fun _ => false).map id, st) := by
    refine lcL_filter (fun _ => false) id ps fun p hp => ?_
    obtain ⟨d, rfl, h1, h2⟩ := h p hp
    refine ⟨[.pub (.lst ps), .pub d, .pub d], by simp [put, putN, wipeS], ?_, fun z => by cases z⟩
    simp [tNotB, eT, eCall, eCons, eNil, eVar, vals, law_same h1 h2]
  rw [List.filter_eq_nil_iff.mpr (fun _ _ z => by cases z), List.map_nil] at hl
  refine mean_rt [.pub (.lst ps), .un, .un] rfl ?_
  have hlc : eLc (iSeq (eVar 0)) (.names [1, 2]) (tNotB (eT (eCall m__law_same (eCons (eVar 1) (eCons (eVar 2) eNil))))) (eVar 1) [1, 2] [.pub (.lst ps), .un, .un] st = some (.prv [], st) := by
    unfold eLc
    rw [if_pos (by simp [noOwn])]
    simp only [iSeq, eVar, List.getElem?_cons_zero, Option.bind_some]
    rw [show lcL (.names [1, 2]) _ (fun sl st => eVar 1 sl st) _ _ _ = _ from hl]
    rfl
  simp only [b__law_all, sRet, e2, eA, eCons, hlc, eNil, Option.bind_some, Option.map_some, List.map_cons, List.map_nil, R.d, cLen, seqD, eC]
  simp [cEq, flat64_int, Vx.D.eqv]
end same
end Vx


set_option Elab.async false
set_option linter.all false
set_option maxRecDepth 100000
/-! Vu: what is shown without shared lists stands beside any. -/
namespace Vx
open PySem PySem.Spec L2
def Out.am : Out → Amb
  | .nx _ st => st | .bk _ st => st | .ct _ st => st | .rt _ st => st
def Out.to : Out → Amb → Out
  | .nx sl _, st => .nx sl st | .bk sl _, st => .bk sl st | .ct sl _, st => .ct sl st | .rt r _, st => .rt r st
def LE (f : EvF) : Prop := ∀ sl r s, f sl [] = some (r, s) → s = [] ∧ ∀ st, f sl st = some (r, st)
def LB (f : EvB) : Prop := ∀ sl r s, f sl [] = some (r, s) → s = [] ∧ ∀ st, f sl st = some (r, st)
def LA (f : EvA) : Prop := ∀ sl r s, f sl [] = some (r, s) → s = [] ∧ ∀ st, f sl st = some (r, st)
def LI (f : EvI) : Prop := ∀ sl r s, f sl [] = some (r, s) → s = [] ∧ ∀ st, f sl st = some (r, st)
def LO (f : EvO) : Prop := ∀ sl r s, f sl [] = some (r, s) → s = [] ∧ ∀ st, f sl st = some (r, st)
def LM (m : Mean) : Prop := ∀ ds r s, m ds [] = some (r, s) → s = [] ∧ ∀ st, m ds st = some (r, st)
def LS (F : SvF) : Prop := ∀ sl o, F sl [] = some o → o.am = [] ∧ ∀ st, F sl st = some (o.to st)
def C1 (c : Amb → Vx.D → Option R) : Prop := ∀ x r, c [] x = some r → ∀ st, c st x = some r
def C2 (c : Amb → Vx.D → Vx.D → Option R) : Prop := ∀ x y r, c [] x y = some r → ∀ st, c st x y = some r
def CA (c : Amb → List Vx.D → Option R) : Prop := ∀ x r, c [] x = some r → ∀ st, c st x = some r
theorem seqD_up {x : Vx.D} {l : List Vx.D} (h : seqD [] x = some l) (st : Amb) : seqD st x = some l := by
  cases x <;> simp [seqD] at h ⊢ <;> exact h
section
variable {f g : EvF} {F : EvA} {t u : EvB}
theorem c2_add : C2 cAdd := fun _ _ _ h _ => h
theorem c2_mul : C2 cMul := fun _ _ _ h _ => h
theorem c2_I {k} : C2 (cI k) := fun _ _ _ h _ => h
theorem c2_eq : C2 cEq := fun _ _ _ h _ => h
theorem c2_ne : C2 cNe := fun _ _ _ h _ => h
theorem c2_in {n} : C2 (cIn n) := fun _ _ _ h _ => h
theorem c2_is : C2 cIs := fun _ _ _ h _ => h
theorem c2_isNot : C2 cIsNot := fun _ _ _ h _ => h
theorem c2_ix : C2 cIx := fun x y r h st => by
  unfold cIx at h ⊢
  split at h
  · cases hs : seqD [] x with
    | none => rw [hs] at h; cases h
    | some l => rw [hs] at h; rw [seqD_up hs]; exact h
  · cases h
theorem c1_neg : C1 cNeg := fun _ _ h _ => h
theorem c1_isi {k} : C1 (cIsi k) := fun _ _ h _ => h
theorem c1_isis {k} : C1 (cIsis k) := fun _ _ h _ => h
theorem c1_rg {k} : C1 (cRg1 k) := fun _ _ h _ => h
theorem c1_rev : C1 cRev := fun x r h st => by
  unfold cRev at h ⊢
  split at h
  · cases h
  · cases hs : seqD [] x with
    | none => rw [hs] at h; cases h
    | some l => rw [hs] at h; simp only [seqD_up hs]; exact h
theorem ca_min : CA cMin := fun _ _ h _ => h
theorem ca_max : CA cMax := fun _ _ h _ => h
theorem ca_int : CA cInt := fun _ _ h _ => h
theorem ca_abs : CA cAbs := fun _ _ h _ => h
theorem ca_sort : CA cSort := fun _ _ h _ => h
theorem ca_len : CA cLen := fun x r h st => by
  unfold cLen at h ⊢
  split at h
  · exact h
  · rename_i x _
    cases hs : seqD [] x with
    | none => rw [hs] at h; cases h
    | some l => rw [hs] at h; simp only [seqD_up hs]; exact h
  · cases h
theorem ca_tuple : CA cTuple := fun x r h st => by
  unfold cTuple at h ⊢
  split at h
  · rename_i x
    cases hs : seqD [] x with
    | none => rw [hs] at h; cases h
    | some l => rw [hs] at h; simp only [seqD_up hs]; exact h
  · cases h
theorem ca_list : CA cList := fun x r h st => by
  unfold cList at h ⊢
  split at h
  · rename_i x
    cases hs : seqD [] x with
    | none => rw [hs] at h; cases h
    | some l => rw [hs] at h; simp only [seqD_up hs]; exact h
  · cases h
theorem le_C {d} : LE (eC d) := fun sl r s h => by cases h; exact ⟨rfl, fun _ => rfl⟩
theorem le_var {i} : LE (eVar i) := fun sl r s h => by
  unfold eVar at h ⊢
  split at h <;> cases h <;> exact ⟨rfl, fun _ => by simp_all⟩
theorem le_pub (a : LE f) : LE (ePub f) := fun sl r s h => by
  unfold ePub at h ⊢
  cases h1 : f sl [] with
  | none => rw [h1] at h; cases h
  | some p =>
    obtain ⟨x, s1⟩ := p
    obtain ⟨rfl, e⟩ := a sl x s1 h1
    rw [h1] at h
    cases x <;> cases h <;> exact ⟨rfl, fun st => by rw [e st]⟩
theorem le_e1 {c} (a : LE f) (hc : C1 c) : LE (e1 f c) := fun sl r s h => by
  unfold e1 at h ⊢
  cases h1 : f sl [] with
  | none => rw [h1] at h; cases h
  | some p =>
    obtain ⟨x, s1⟩ := p
    obtain ⟨rfl, e⟩ := a sl x s1 h1
    rw [h1] at h
    simp only [Option.bind_some] at h
    cases h2 : c [] x.d with
    | none => rw [h2] at h; cases h
    | some y => rw [h2] at h; cases h; exact ⟨rfl, fun st => by rw [e st]; simp [hc _ _ h2 st]⟩
theorem le_e2 {c} (a : LE f) (b : LE g) (hc : C2 c) : LE (e2 f g c) := fun sl r s h => by
  unfold e2 at h ⊢
  cases h1 : f sl [] with
  | none => rw [h1] at h; cases h
  | some p =>
    obtain ⟨x, s1⟩ := p
    obtain ⟨rfl, e⟩ := a sl x s1 h1
    rw [h1] at h
    simp only [Option.bind_some] at h
    cases h2 : g sl [] with
    | none => rw [h2] at h; cases h
    | some q =>
      obtain ⟨y, s2⟩ := q
      obtain ⟨rfl, e'⟩ := b sl y s2 h2
      rw [h2] at h
      simp only [Option.bind_some] at h
      cases h3 : c [] x.d y.d with
      | none => rw [h3] at h; cases h
      | some z => rw [h3] at h; cases h; exact ⟨rfl, fun st => by rw [e st]; simp [e' st, hc _ _ _ h3 st]⟩
theorem la_nil : LA eNil := fun sl r s h => by cases h; exact ⟨rfl, fun _ => rfl⟩
theorem la_cons (a : LE f) (b : LA F) : LA (eCons f F) := fun sl r s h => by
  unfold eCons at h ⊢
  cases h1 : f sl [] with
  | none => rw [h1] at h; cases h
  | some p =>
    obtain ⟨x, s1⟩ := p
    obtain ⟨rfl, e⟩ := a sl x s1 h1
    rw [h1] at h
    simp only [Option.bind_some] at h
    cases h2 : F sl [] with
    | none => rw [h2] at h; cases h
    | some q =>
      obtain ⟨y, s2⟩ := q
      obtain ⟨rfl, e'⟩ := b sl y s2 h2
      rw [h2] at h
      cases h
      exact ⟨rfl, fun st => by rw [e st]; simp [e' st]⟩
theorem le_A {c} (a : LA F) (hc : CA c) : LE (eA F c) := fun sl r s h => by
  unfold eA at h ⊢
  cases h1 : F sl [] with
  | none => rw [h1] at h; cases h
  | some p =>
    obtain ⟨x, s1⟩ := p
    obtain ⟨rfl, e⟩ := a sl x s1 h1
    rw [h1] at h
    simp only [Option.bind_some] at h
    cases h2 : c [] (x.map R.d) with
    | none => rw [h2] at h; cases h
    | some y => rw [h2] at h; cases h; exact ⟨rfl, fun st => by rw [e st]; simp [hc _ _ h2 st]⟩
theorem le_disp {mk : List Vx.D → R} (a : LA F) : LE (fun sl st => (F sl st).bind fun p => (vals p.1).bind fun ds => if ds.length ≤ line then some (mk ds, p.2) else none) := fun sl r s h => by
  cases h1 : F sl [] with
  | none => simp only [h1] at h; cases h
  | some p =>
    obtain ⟨x, s1⟩ := p
    obtain ⟨rfl, e⟩ := a sl x s1 h1
    simp only [h1, Option.bind_some] at h
    cases h2 : vals x with
    | none => rw [h2] at h; cases h
    | some y =>
      rw [h2] at h
      simp only [Option.bind_some] at h
      split at h
      · rename_i hy; cases h; exact ⟨rfl, fun st => by simp only [e st, Option.bind_some, h2, if_pos hy]⟩
      · cases h
theorem le_tup (a : LA F) : LE (eTup F) := le_disp (mk := fun ds => .val (.tup ds)) a
theorem le_lst (a : LA F) : LE (eLst F) := le_disp (mk := .prv) a
theorem le_call {m : Mean} (hm : LM m) (a : LA F) : LE (eCall m F) := fun sl r s h => by
  unfold eCall at h ⊢
  cases h1 : F sl [] with
  | none => rw [h1] at h; cases h
  | some p =>
    obtain ⟨x, s1⟩ := p
    obtain ⟨rfl, e⟩ := a sl x s1 h1
    rw [h1] at h
    simp only [Option.bind_some] at h
    cases h2 : vals x with
    | none => rw [h2] at h; cases h
    | some y =>
      rw [h2] at h
      obtain ⟨rfl, e'⟩ := hm y r s h
      exact ⟨rfl, fun st => by rw [e st]; simp [h2, e' st]⟩
theorem le_callK {m : Mean} {ix} (hm : LM m) (a : LA F) : LE (eCallK m ix F) := fun sl r s h => by
  unfold eCallK at h ⊢
  cases h1 : F sl [] with
  | none => rw [h1] at h; cases h
  | some p =>
    obtain ⟨x, s1⟩ := p
    obtain ⟨rfl, e⟩ := a sl x s1 h1
    rw [h1] at h
    simp only [Option.bind_some] at h
    cases h2 : vals x with
    | none => rw [h2] at h; cases h
    | some y =>
      rw [h2] at h
      obtain ⟨rfl, e'⟩ := hm _ r s h
      exact ⟨rfl, fun st => by rw [e st]; simp [h2, e' st]⟩
theorem lb_T (a : LE f) : LB (eT f) := fun sl r s h => by
  unfold eT at h ⊢
  cases h1 : f sl [] with
  | none => rw [h1] at h; cases h
  | some p =>
    obtain ⟨x, s1⟩ := p
    obtain ⟨rfl, e⟩ := a sl x s1 h1
    rw [h1] at h
    split at h
    · rename_i b s2 h3; cases h3; cases h; exact ⟨rfl, fun st => by rw [e st]⟩
    · cases h
theorem lb_and (a : LB t) (b : LB u) : LB (tAndB t u) := fun sl r s h => by
  unfold tAndB at h ⊢
  cases h1 : t sl [] with
  | none => rw [h1] at h; cases h
  | some p =>
    obtain ⟨x, s1⟩ := p
    obtain ⟨rfl, e⟩ := a sl x s1 h1
    rw [h1] at h
    cases x with
    | false => cases h; exact ⟨rfl, fun st => by rw [e st]; rfl⟩
    | true => obtain ⟨rfl, e'⟩ := b sl r s h; exact ⟨rfl, fun st => by rw [e st]; exact e' st⟩
theorem lb_or (a : LB t) (b : LB u) : LB (tOrB t u) := fun sl r s h => by
  unfold tOrB at h ⊢
  cases h1 : t sl [] with
  | none => rw [h1] at h; cases h
  | some p =>
    obtain ⟨x, s1⟩ := p
    obtain ⟨rfl, e⟩ := a sl x s1 h1
    rw [h1] at h
    cases x with
    | true => cases h; exact ⟨rfl, fun st => by rw [e st]; rfl⟩
    | false => obtain ⟨rfl, e'⟩ := b sl r s h; exact ⟨rfl, fun st => by rw [e st]; exact e' st⟩
theorem lb_not (a : LB t) : LB (tNotB t) := fun sl r s h => by
  unfold tNotB at h ⊢
  cases h1 : t sl [] with
  | none => rw [h1] at h; cases h
  | some p =>
    obtain ⟨x, s1⟩ := p
    obtain ⟨rfl, e⟩ := a sl x s1 h1
    rw [h1] at h
    cases h
    exact ⟨rfl, fun st => by rw [e st]; rfl⟩
theorem lb_yes : LB tYesB := fun sl r s h => by cases h; exact ⟨rfl, fun _ => rfl⟩
theorem le_if (c : LB t) (a : LE f) (b : LE g) : LE (eIf t f g) := fun sl r s h => by
  unfold eIf at h ⊢
  cases h1 : t sl [] with
  | none => rw [h1] at h; cases h
  | some p =>
    obtain ⟨x, s1⟩ := p
    obtain ⟨rfl, e⟩ := c sl x s1 h1
    rw [h1] at h
    cases x with
    | true => obtain ⟨rfl, e'⟩ := a sl r s h; exact ⟨rfl, fun st => by rw [e st]; exact e' st⟩
    | false => obtain ⟨rfl, e'⟩ := b sl r s h; exact ⟨rfl, fun st => by rw [e st]; exact e' st⟩
theorem le_notV (a : LE f) : LE (eNotV f) := le_e1 a fun _ _ h _ => h
theorem le_andV (a : LE f) (b : LE g) : LE (eAndV f g) := fun sl r s h => by
  unfold eAndV at h ⊢
  cases h1 : f sl [] with
  | none => rw [h1] at h; cases h
  | some p =>
    obtain ⟨x, s1⟩ := p
    obtain ⟨rfl, e⟩ := a sl x s1 h1
    rw [h1] at h
    split at h
    · rename_i h3; cases h3; obtain ⟨rfl, e'⟩ := b sl r s h; exact ⟨rfl, fun st => by rw [e st]; exact e' st⟩
    · rename_i h3; cases h3; cases h; exact ⟨rfl, fun st => by rw [e st]⟩
    · cases h
theorem le_orV (a : LE f) (b : LE g) : LE (eOrV f g) := fun sl r s h => by
  unfold eOrV at h ⊢
  cases h1 : f sl [] with
  | none => rw [h1] at h; cases h
  | some p =>
    obtain ⟨x, s1⟩ := p
    obtain ⟨rfl, e⟩ := a sl x s1 h1
    rw [h1] at h
    split at h
    · rename_i h3; cases h3; obtain ⟨rfl, e'⟩ := b sl r s h; exact ⟨rfl, fun st => by rw [e st]; exact e' st⟩
    · rename_i h3; cases h3; cases h; exact ⟨rfl, fun st => by rw [e st]⟩
    · cases h
theorem le_neg (a : LE f) : LE (eNeg f) := le_e1 a c1_neg
theorem lo_none : LO oNone := fun sl r s h => by cases h; exact ⟨rfl, fun _ => rfl⟩
theorem lo_some (a : LE f) : LO (oSome f) := fun sl r s h => by
  unfold oSome at h ⊢
  cases h1 : f sl [] with
  | none => rw [h1] at h; cases h
  | some p =>
    obtain ⟨x, s1⟩ := p
    obtain ⟨rfl, e⟩ := a sl x s1 h1
    rw [h1] at h
    split at h
    · rename_i i s2 h3; cases h3; cases h; exact ⟨rfl, fun st => by rw [e st]⟩
    · cases h
theorem cSl_up {x : Vx.D} {lo hi r} (h : cSl [] x lo hi = some r) (st : Amb) : cSl st x lo hi = some r := by
  unfold cSl at h ⊢
  split at h
  · exact h
  · cases hs : seqD [] x with
    | none => rw [hs] at h; cases h
    | some l => rw [hs] at h; simp only [seqD_up hs]; exact h
theorem le_sl {l k : EvO} (a : LE f) (b : LO l) (c : LO k) : LE (eSl f l k) := fun sl r s h => by
  unfold eSl at h ⊢
  cases h1 : f sl [] with
  | none => rw [h1] at h; cases h
  | some p =>
    obtain ⟨x, s1⟩ := p
    obtain ⟨rfl, e⟩ := a sl x s1 h1
    rw [h1] at h
    simp only [Option.bind_some] at h
    cases h2 : l sl [] with
    | none => rw [h2] at h; cases h
    | some q =>
      obtain ⟨y, s2⟩ := q
      obtain ⟨rfl, e'⟩ := b sl y s2 h2
      rw [h2] at h
      simp only [Option.bind_some] at h
      cases h3 : k sl [] with
      | none => rw [h3] at h; cases h
      | some q =>
        obtain ⟨z, s3⟩ := q
        obtain ⟨rfl, e''⟩ := c sl z s3 h3
        rw [h3] at h
        simp only [Option.bind_some] at h
        cases h4 : cSl [] x.d y z with
        | none => rw [h4] at h; cases h
        | some w => rw [h4] at h; cases h; exact ⟨rfl, fun st => by rw [e st]; simp [e' st, e'' st, cSl_up h4 st]⟩
theorem li_seq (a : LE f) : LI (iSeq f) := fun sl r s h => by
  unfold iSeq at h ⊢
  cases h1 : f sl [] with
  | none => rw [h1] at h; cases h
  | some p =>
    obtain ⟨x, s1⟩ := p
    obtain ⟨rfl, e⟩ := a sl x s1 h1
    rw [h1] at h
    split at h
    · rename_i h3; cases h3; cases h; exact ⟨rfl, fun st => by rw [e st]⟩
    · rename_i h3; cases h3; cases h; exact ⟨rfl, fun st => by rw [e st]⟩
    · rename_i h3; cases h3; cases h; exact ⟨rfl, fun st => by rw [e st]⟩
    · cases h
theorem li_tup (a : LE f) : LI (iTupD f) := fun sl r s h => by
  unfold iTupD at h ⊢
  cases h1 : f sl [] with
  | none => rw [h1] at h; cases h
  | some p =>
    obtain ⟨x, s1⟩ := p
    obtain ⟨rfl, e⟩ := a sl x s1 h1
    rw [h1] at h
    split at h
    · rename_i h3; cases h3; cases h; exact ⟨rfl, fun st => by rw [e st]⟩
    · rename_i h3; cases h3; cases h; exact ⟨rfl, fun st => by rw [e st]⟩
    · cases h
theorem li_rg1 (a : LA F) : LI (iRg1 F) := fun sl r s h => by
  unfold iRg1 at h ⊢
  cases h1 : F sl [] with
  | none => rw [h1] at h; cases h
  | some p =>
    obtain ⟨x, s1⟩ := p
    obtain ⟨rfl, e⟩ := a sl x s1 h1
    rw [h1] at h
    split at h
    · rename_i h3; cases h3
      split at h
      · rename_i h4; cases h; exact ⟨rfl, fun st => by rw [e st]; simp only [if_pos h4]⟩
      · cases h
    · cases h
theorem li_rg2 (a : LA F) : LI (iRg2 F) := fun sl r s h => by
  unfold iRg2 at h ⊢
  cases h1 : F sl [] with
  | none => rw [h1] at h; cases h
  | some p =>
    obtain ⟨x, s1⟩ := p
    obtain ⟨rfl, e⟩ := a sl x s1 h1
    rw [h1] at h
    split at h
    · rename_i h3; cases h3
      split at h
      · rename_i h4; cases h; exact ⟨rfl, fun st => by rw [e st]; simp only [if_pos h4]⟩
      · cases h
    · cases h
theorem evD_up (a : LE f) {sl d s} (h : evD f sl [] = some (d, s)) : s = [] ∧ ∀ st, evD f sl st = some (d, st) := by
  unfold evD at h ⊢
  cases h1 : ePub f sl [] with
  | none => rw [h1] at h; cases h
  | some p =>
    obtain ⟨x, s1⟩ := p
    obtain ⟨rfl, e⟩ := le_pub a sl x s1 h1
    rw [h1] at h
    split at h
    · rename_i h3; cases h3; cases h; exact ⟨rfl, fun st => by rw [e st]⟩
    · cases h
theorem lcL_up {tg : Tg} (a : LB t) (b : LE f) {sl : Sls} : ∀ {l r s}, lcL tg t f sl l [] = some (r, s) → s = [] ∧ ∀ st, lcL tg t f sl l st = some (r, st)
  | [], r, s, h => by cases h; exact ⟨rfl, fun _ => rfl⟩
  | d :: l, r, s, h => by
    rw [lcL] at h
    cases h1 : put tg d sl with
    | none => rw [h1] at h; cases h
    | some sl1 =>
      rw [h1] at h
      simp only [Option.bind_some] at h
      cases h2 : t sl1 [] with
      | none => rw [h2] at h; cases h
      | some p =>
        obtain ⟨x, s1⟩ := p
        obtain ⟨rfl, e⟩ := a sl1 x s1 h2
        rw [h2] at h
        simp only [Option.bind_some] at h
        cases x with
        | false =>
          simp only [Bool.false_eq_true, if_false] at h
          obtain ⟨rfl, e'⟩ := lcL_up a b h
          exact ⟨rfl, fun st => by rw [lcL, h1]; simp [e st, e' st]⟩
        | true =>
          simp only [if_true] at h
          cases h3 : evD f sl1 [] with
          | none => rw [h3] at h; cases h
          | some q =>
            obtain ⟨y, s2⟩ := q
            obtain ⟨rfl, e'⟩ := evD_up b h3
            rw [h3] at h
            simp only [Option.bind_some] at h
            cases h4 : lcL tg t f sl l [] with
            | none => rw [h4] at h; cases h
            | some q =>
              obtain ⟨z, s3⟩ := q
              obtain ⟨rfl, e''⟩ := lcL_up a b h4
              rw [h4] at h
              cases h
              exact ⟨rfl, fun st => by rw [lcL, h1]; simp [e st, e' st, e'' st]⟩
theorem le_lc {fi : EvI} {tg : Tg} {vs} (i : LI fi) (a : LB t) (b : LE f) : LE (eLc fi tg t f vs) := fun sl r s h => by
  unfold eLc at h ⊢
  split at h
  case isFalse => cases h
  rename_i hn
  cases h1 : fi sl [] with
  | none => rw [h1] at h; cases h
  | some p =>
    obtain ⟨l, s1⟩ := p
    obtain ⟨rfl, e⟩ := i sl l s1 h1
    rw [h1] at h
    simp only [Option.bind_some] at h
    cases h2 : lcL tg t f (wipeS sl vs) l [] with
    | none => rw [h2] at h; cases h
    | some q =>
      obtain ⟨m, s2⟩ := q
      obtain ⟨rfl, e'⟩ := lcL_up a b h2
      rw [h2] at h
      simp only [Option.bind_some] at h
      split at h
      · rename_i hl; cases h; exact ⟨rfl, fun st => by rw [if_pos hn, e st]; simp [e' st, hl]⟩
      · cases h
theorem lcL2_up {tg tg1 : Tg} {fi1 : EvI} {vs1} (a : LB t) (i1 : LI fi1) (a1 : LB u) (b : LE f) {sl : Sls} : ∀ {l r s}, lcL2 tg t fi1 tg1 u f vs1 sl l [] = some (r, s) → s = [] ∧ ∀ st, lcL2 tg t fi1 tg1 u f vs1 sl l st = some (r, st)
  | [], r, s, h => by cases h; exact ⟨rfl, fun _ => rfl⟩
  | d :: l, r, s, h => by
    rw [lcL2] at h
    cases h1 : put tg d sl with
    | none => rw [h1] at h; cases h
    | some sl1 =>
      rw [h1] at h
      simp only [Option.bind_some] at h
      cases h2 : t sl1 [] with
      | none => rw [h2] at h; cases h
      | some p =>
        obtain ⟨x, s1⟩ := p
        obtain ⟨rfl, e⟩ := a sl1 x s1 h2
        rw [h2] at h
        simp only [Option.bind_some] at h
        cases x with
        | false =>
          simp only [Bool.false_eq_true, if_false] at h
          obtain ⟨rfl, e'⟩ := lcL2_up a i1 a1 b h
          exact ⟨rfl, fun st => by rw [lcL2, h1]; simp [e st, e' st]⟩
        | true =>
          simp only [if_true] at h
          split at h
          case isFalse => cases h
          rename_i hn
          cases h3 : fi1 sl1 [] with
          | none => rw [h3] at h; cases h
          | some q =>
            obtain ⟨y, s2⟩ := q
            obtain ⟨rfl, e'⟩ := i1 _ _ _ h3
            rw [h3] at h
            simp only [Option.bind_some] at h
            cases h5 : lcL tg1 u f (wipeS sl1 vs1) y [] with
            | none => rw [h5] at h; cases h
            | some q =>
              obtain ⟨w, s4⟩ := q
              obtain ⟨rfl, e3⟩ := lcL_up a1 b h5
              rw [h5] at h
              simp only [Option.bind_some] at h
              cases h4 : lcL2 tg t fi1 tg1 u f vs1 sl l [] with
              | none => rw [h4] at h; cases h
              | some q =>
                obtain ⟨z, s3⟩ := q
                obtain ⟨rfl, e''⟩ := lcL2_up a i1 a1 b h4
                rw [h4] at h
                cases h
                exact ⟨rfl, fun st => by rw [lcL2, h1]; simp [e st, e' st, e'' st, e3 st, hn]⟩
theorem le_lc2 {fi fi1 : EvI} {tg tg1 : Tg} {vs vs1} (i : LI fi) (a : LB t) (i1 : LI fi1) (a1 : LB u) (b : LE f) : LE (eLc2 fi tg t fi1 tg1 u f vs vs1) := fun sl r s h => by
  unfold eLc2 at h ⊢
  split at h
  case isFalse => cases h
  rename_i hn
  cases h1 : fi sl [] with
  | none => rw [h1] at h; cases h
  | some p =>
    obtain ⟨l, s1⟩ := p
    obtain ⟨rfl, e⟩ := i sl l s1 h1
    rw [h1] at h
    simp only [Option.bind_some] at h
    cases h2 : lcL2 tg t fi1 tg1 u f vs1 (wipeS sl vs) l [] with
    | none => rw [h2] at h; cases h
    | some q =>
      obtain ⟨m, s2⟩ := q
      obtain ⟨rfl, e'⟩ := lcL2_up a i1 a1 b h2
      rw [h2] at h
      simp only [Option.bind_some] at h
      split at h
      · rename_i hl; cases h; exact ⟨rfl, fun st => by rw [if_pos hn, e st]; simp [e' st, hl]⟩
      · cases h
/-! statements -/
variable {A B : SvF}
theorem ls_seq (a : LS A) (b : LS B) : LS (sSeq A B) := fun sl o h => by
  unfold sSeq at h ⊢
  cases h1 : A sl [] with
  | none => rw [h1] at h; cases h
  | some p =>
    obtain ⟨e0, e⟩ := a sl p h1
    rw [h1] at h
    cases p with
    | nx sl' s1 =>
      cases (show s1 = [] from e0)
      obtain ⟨e1, e2⟩ := b sl' o h
      exact ⟨e1, fun st => by rw [e st]; exact e2 st⟩
    | bk sl' s1 => cases h; exact ⟨e0, fun st => by rw [e st]; rfl⟩
    | ct sl' s1 => cases h; exact ⟨e0, fun st => by rw [e st]; rfl⟩
    | rt r s1 => cases h; exact ⟨e0, fun st => by rw [e st]; rfl⟩
theorem ls_nil : LS sNil := fun sl o h => by cases h; exact ⟨rfl, fun _ => rfl⟩
theorem ls_pass : LS sPass := fun sl o h => by cases h; exact ⟨rfl, fun _ => rfl⟩
theorem ls_brk : LS sBreak := fun sl o h => by cases h; exact ⟨rfl, fun _ => rfl⟩
theorem ls_cont : LS sCont := fun sl o h => by cases h; exact ⟨rfl, fun _ => rfl⟩
theorem ls_retN : LS sRetN := fun sl o h => by cases h; exact ⟨rfl, fun _ => rfl⟩
theorem ls_if (c : LB t) (a : LS A) (b : LS B) : LS (sIf t A B) := fun sl o h => by
  unfold sIf at h ⊢
  cases h1 : t sl [] with
  | none => rw [h1] at h; cases h
  | some p =>
    obtain ⟨x, s1⟩ := p
    obtain ⟨rfl, e⟩ := c sl x s1 h1
    rw [h1] at h
    cases x with
    | true => obtain ⟨e1, e2⟩ := a sl o h; exact ⟨e1, fun st => by rw [e st]; exact e2 st⟩
    | false => obtain ⟨e1, e2⟩ := b sl o h; exact ⟨e1, fun st => by rw [e st]; exact e2 st⟩
theorem ls_ret (a : LE f) : LS (sRet f) := fun sl o h => by
  unfold sRet at h ⊢
  cases h1 : f sl [] with
  | none => rw [h1] at h; cases h
  | some p =>
    obtain ⟨x, s1⟩ := p
    obtain ⟨rfl, e⟩ := a sl x s1 h1
    rw [h1] at h
    cases x <;> cases h <;> exact ⟨rfl, fun st => by rw [e st]; rfl⟩
theorem ls_retO {i} : LS (sRetO i) := fun sl o h => by
  unfold sRetO at h ⊢
  split at h
  · cases h; exact ⟨rfl, fun st => rfl⟩
  · cases h
theorem ls_drop (a : LE f) : LS (sDrop f) := fun sl o h => by
  unfold sDrop at h ⊢
  cases h1 : f sl [] with
  | none => rw [h1] at h; cases h
  | some p =>
    obtain ⟨x, s1⟩ := p
    obtain ⟨rfl, e⟩ := a sl x s1 h1
    rw [h1] at h
    cases h; exact ⟨rfl, fun st => by rw [e st]; rfl⟩
theorem ls_asg {tg : Tg} (a : LE f) : LS (sAsg tg f) := fun sl o h => by
  unfold sAsg at h ⊢
  cases h1 : ePub f sl [] with
  | none => rw [h1] at h; cases h
  | some p =>
    obtain ⟨x, s1⟩ := p
    obtain ⟨rfl, e⟩ := le_pub a sl x s1 h1
    rw [h1] at h
    cases x with
    | val d =>
      simp only at h
      cases h2 : put tg d sl with
      | none => rw [h2] at h; cases h
      | some sl' => rw [h2] at h; cases h; exact ⟨rfl, fun st => by rw [e st]; simp [h2]; rfl⟩
    | prv d => cases h
    | bor d => cases h
theorem ls_own {i} (a : LE f) : LS (sOwn i f) := fun sl o h => by
  unfold sOwn at h ⊢
  cases h1 : f sl [] with
  | none => rw [h1] at h; cases h
  | some p =>
    obtain ⟨x, s1⟩ := p
    obtain ⟨rfl, e⟩ := a sl x s1 h1
    rw [h1] at h
    cases x with
    | prv d =>
      simp only at h
      split at h
      · rename_i hi; cases h; exact ⟨rfl, fun st => by rw [e st]; simp [hi]; rfl⟩
      · cases h
    | val d => cases h
    | bor d => cases h
theorem ls_move {i j} : LS (sMove i j) := fun sl o h => by
  unfold sMove at h ⊢
  split at h
  · rename_i hl
    split at h
    · rename_i hi; cases h; exact ⟨rfl, fun st => by rw [if_pos hi]; rfl⟩
    · cases h
  · cases h
theorem ls_app {i} (a : LE f) : LS (sApp i f) := fun sl o h => by
  unfold sApp at h ⊢
  cases h1 : ePub f sl [] with
  | none => rw [h1] at h; simp at h
  | some p =>
    obtain ⟨x, s1⟩ := p
    obtain ⟨rfl, e⟩ := le_pub a sl x s1 h1
    rw [h1] at h
    split at h
    · rename_i l d s2 hl h3
      cases h3
      split at h
      · rename_i hi; cases h; exact ⟨rfl, fun st => by rw [hl, e st]; simp [hi]; rfl⟩
      · cases h
    · cases h
theorem ls_ext {i} (a : LE f) : LS (sExt i f) := fun sl o h => by
  unfold sExt at h ⊢
  cases h1 : f sl [] with
  | none => rw [h1] at h; simp at h
  | some p =>
    obtain ⟨x, s1⟩ := p
    obtain ⟨rfl, e⟩ := a sl x s1 h1
    rw [h1] at h
    split at h
    · rename_i l r s2 hl h3
      cases h3
      split at h
      · rename_i m hm
        split at h
        · rename_i hi; cases h; exact ⟨rfl, fun st => by rw [hl, e st]; simp [hm, hi]; rfl⟩
        · cases h
      · cases h
    · cases h
theorem ls_popA {tg : Tg} {i} : LS (sPopA tg i) := fun sl o h => by
  unfold sPopA at h ⊢
  split at h
  · rename_i l hl
    split at h
    · rename_i d hd
      cases h2 : put tg d (sl.set i (.own l.dropLast)) with
      | none => rw [h2] at h; cases h
      | some sl' => rw [h2] at h; cases h; exact ⟨rfl, fun st => rfl⟩
    · cases h
  · cases h
theorem ls_par {i j o1 o2} (a : LA F) : LS (sPar i j o1 o2 F) := fun sl o h => by
  unfold sPar at h ⊢
  cases h1 : F sl [] with
  | none => rw [h1] at h; cases h
  | some p =>
    obtain ⟨x, s1⟩ := p
    obtain ⟨rfl, e⟩ := a sl x s1 h1
    rw [h1] at h
    split at h
    · rename_i r1 r2 s2 h3
      cases h3
      cases h2 : putK i o1 r1 sl with
      | none => rw [h2] at h; cases h
      | some sl1 =>
        rw [h2] at h
        simp only [Option.bind_some] at h
        cases h4 : putK j o2 r2 sl1 with
        | none => rw [h4] at h; cases h
        | some sl2 => rw [h4] at h; cases h; exact ⟨rfl, fun st => by rw [e st]; simp [h2, h4]; rfl⟩
    · cases h
theorem forL_up {tg : Tg} (b : LS B) : ∀ {l sl o}, forL tg B l sl [] = some o → o.am = [] ∧ ∀ st, forL tg B l sl st = some (o.to st)
  | [], sl, o, h => by cases h; exact ⟨rfl, fun _ => rfl⟩
  | d :: l, sl, o, h => by
    rw [forL] at h
    cases h1 : put tg d sl with
    | none => rw [h1] at h; cases h
    | some sl1 =>
      rw [h1] at h
      simp only [Option.bind_some] at h
      cases h2 : B sl1 [] with
      | none => rw [h2] at h; cases h
      | some p =>
        obtain ⟨e0, e⟩ := b sl1 p h2
        rw [h2] at h
        simp only [Option.bind_some] at h
        cases p with
        | nx sl2 s1 =>
          cases (show s1 = [] from e0)
          obtain ⟨e1, e2⟩ := forL_up b h
          exact ⟨e1, fun st => by rw [forL, h1]; simp only [Option.bind_some, e st, Out.to]; exact e2 st⟩
        | ct sl2 s1 =>
          cases (show s1 = [] from e0)
          obtain ⟨e1, e2⟩ := forL_up b h
          exact ⟨e1, fun st => by rw [forL, h1]; simp only [Option.bind_some, e st, Out.to]; exact e2 st⟩
        | bk sl2 s1 => cases h; exact ⟨e0, fun st => by rw [forL, h1]; simp only [Option.bind_some, e st, Out.to]⟩
        | rt r s1 => cases h; exact ⟨e0, fun st => by rw [forL, h1]; simp only [Option.bind_some, e st, Out.to]⟩
theorem ls_for {fi : EvI} {tg : Tg} (i : LI fi) (b : LS B) : LS (sFor fi tg B) := fun sl o h => by
  unfold sFor at h ⊢
  cases h1 : fi sl [] with
  | none => rw [h1] at h; cases h
  | some p =>
    obtain ⟨l, s1⟩ := p
    obtain ⟨rfl, e⟩ := i sl l s1 h1
    rw [h1] at h
    obtain ⟨e1, e2⟩ := forL_up b h
    exact ⟨e1, fun st => by rw [e st]; exact e2 st⟩
theorem whL_up (c : LB t) (b : LS B) : ∀ {n sl o}, whL t B n sl [] = some o → o.am = [] ∧ ∀ st, whL t B n sl st = some (o.to st)
  | 0, sl, o, h => by cases h
  | n + 1, sl, o, h => by
    rw [whL] at h
    cases h1 : t sl [] with
    | none => rw [h1] at h; cases h
    | some p =>
      obtain ⟨x, s1⟩ := p
      obtain ⟨rfl, e⟩ := c sl x s1 h1
      rw [h1] at h
      simp only [Option.bind_some] at h
      cases x with
      | false =>
        simp only [Bool.false_eq_true, if_false] at h
        cases h
        exact ⟨rfl, fun st => by rw [whL, e st]; rfl⟩
      | true =>
        simp only [if_true] at h
        cases h2 : B sl [] with
        | none => rw [h2] at h; cases h
        | some p =>
          obtain ⟨e0, e'⟩ := b sl p h2
          rw [h2] at h
          simp only [Option.bind_some] at h
          cases p with
          | nx sl2 s1 =>
            cases (show s1 = [] from e0)
            obtain ⟨e1, e2⟩ := whL_up c b h
            exact ⟨e1, fun st => by rw [whL, e st]; simp only [Option.bind_some, if_true, e' st, Out.to]; exact e2 st⟩
          | ct sl2 s1 =>
            cases (show s1 = [] from e0)
            obtain ⟨e1, e2⟩ := whL_up c b h
            exact ⟨e1, fun st => by rw [whL, e st]; simp only [Option.bind_some, if_true, e' st, Out.to]; exact e2 st⟩
          | bk sl2 s1 => cases h; exact ⟨e0, fun st => by rw [whL, e st]; simp only [Option.bind_some, if_true, e' st, Out.to]⟩
          | rt r s1 => cases h; exact ⟨e0, fun st => by rw [whL, e st]; simp only [Option.bind_some, if_true, e' st, Out.to]⟩
theorem ls_while {n} (c : LB t) (b : LS B) : LS (sWhile n t B) := fun sl o h => whL_up c b h
theorem lm_mean {N n} (b : LS B) : LM (meanOf N n B) := fun ds r s h => by
  unfold meanOf at h ⊢
  cases h1 : B (ds.map Sl.pub ++ List.replicate (N - n) .un) [] with
  | none => rw [h1] at h; cases h
  | some p =>
    obtain ⟨e0, e⟩ := b _ p h1
    rw [h1] at h
    cases p with
    | nx sl s1 => cases h; exact ⟨e0, fun st => by rw [e st]; rfl⟩
    | rt r s1 => cases h; exact ⟨e0, fun st => by rw [e st]; rfl⟩
    | bk sl s1 => cases h
    | ct sl s1 => cases h
end
end Vx


set_option Elab.async false
set_option linter.all false
set_option maxRecDepth 100000
/-! Vz: sets of tuples of any kind of key. -/
namespace Vz
open PySem PySem.Spec PyProof.Rows L2

/-- a kind of key that stands at an address -/
structure Kd (P : Program) (w : World) (κ : Type) [DecidableEq κ] where
  is : Heap → κ → Addr → Prop
  hs : κ → Int
  dr : κ → Nat
  at_ : ∀ {h h' : Heap} {k : κ} {b : Addr}, is h k b → (∀ c u vs n, h.get? c = some u → u.data = .seq vs n → h'.get? c = some u) → is h' k b
  inj : ∀ {h : Heap} {k k' : κ} {b : Addr}, is h k b → is h k' b → k = k'
  hash : ∀ {A : Around} {E : Value → Shared → Prop} {s : Shared} {k : κ} {b : Addr} {Q : Int → Shared → Prop}, A.units + 8 < cLine → is s.heap k b → Q (hs k) { s with toks := s.toks + dr k } → wpAny (model P w) A (pyHash (.ref b)) Q E s
  eq : ∀ {A : Around} {E : Value → Shared → Prop} {s : Shared} {x y : κ} {b c : Addr} {Q : Bool → Shared → Prop}, A.units + 8 < cLine → is s.heap x b → is s.heap y c → Q (decide (x = y)) s → wpAny (model P w) A (eqBool (.ref b) (.ref c)) Q E s
  quiet : ∀ {A : Around} {E : Value → Shared → Prop} {s : Shared} {k : κ} {b : Addr} {Q : Bool → Shared → Prop}, is s.heap k b → Q true s → wpAny (model P w) A (eqIsQuiet 8 (.ref b)) Q E s
  cls : ∀ {A : Around} {E : Value → Shared → Prop} {s : Shared} {k : κ} {b : Addr} {Q : Bool → Shared → Prop}, is s.heap k b → Q false s → wpAny (model P w) A (ofAClassStatement 8 (.ref b)) Q E s
  byv : ∀ {A : Around} {E : Value → Shared → Prop} {s : Shared} {k : κ} {b : Addr} {Q : Bool → Shared → Prop}, is s.heap k b → Q true s → wpAny (model P w) A (hashByValue 8 (.ref b)) Q E s


/-! ### nested tuples of ints as such a kind -/
mutual
def plainK : NestedKey → Bool
  | .none => true
  | .num _ => true
  | .text _ => false
  | .tup ks => plainKs ks
def plainKs : List NestedKey → Bool
  | [] => true
  | k :: ks => plainK k && plainKs ks
end
section
variable {P : Program} {w : World} {s : Shared}
/-- f answers c of every value of the list, and nothing happens -/
def Ans (P : Program) (w : World) (s : Shared) (f : Value → Sem Bool) (c : Bool) (v : Value) : Prop := ∀ (A : Around) (E : Value → Shared → Prop) (Q : Bool → Shared → Prop), Q c s → wpAny (model P w) A (f v) Q E s
theorem cls_tup {n : Nat} {b : Addr} {o : Obj} {vs : Array Value} {m : Nat} (ho : s.heap.get? b = some o) (hc : o.cls = .type "tuple") (hd : o.data = .seq vs m) (hv : ∀ v ∈ vs.toList, Ans P w s (ofAClassStatement n) false v) : Ans P w s (ofAClassStatement (n + 1)) false (.ref b) := fun A E Q q => by
  have ty : s.TypeIs (.ref b) "tuple" := ⟨o, ho, hc⟩
  unfold ofAClassStatement
  refine wpAny_bind (wpAny_typeOf ty ?_)
  dsimp only
  have yes : (("tuple" : String) == "tuple") = true := by decide
  simp only [yes, if_true, Bool.not_true, Bool.false_eq_true, if_false]
  try refine wpAny_bind (wpAny_pure ?_)
  try simp only [Bool.not_true, Bool.false_eq_true, if_false]
  show wpAny (model P w) A (seqItems? (.ref b) >>= _) _ E s
  refine wpAny_bind (wpAny_seqItems ho hd ?_)
  dsimp only
  refine wpAny_bind ?_
  show wpAny (model P w) A (forIn vs _ _) _ E s
  rw [← Array.forIn_toList]
  refine wpAny_forIn_list _ (fun rest r t => t = s ∧ r.1 = none ∧ ∀ u ∈ rest, u ∈ vs.toList) _ ?_ ?_ _ _ ⟨rfl, rfl, fun _ z => z⟩
  · rintro u rest r t ⟨rfl, hr, sub⟩
    refine wpAny_bind (hv u (sub u List.mem_cons_self) A _ _ ?_)
    simp only [Bool.false_eq_true, if_false]
    exact wpAny_pure ⟨rfl, rfl, fun z hz => sub z (List.mem_cons_of_mem _ hz)⟩
  · rintro ⟨r, _⟩ t ⟨rfl, hr, _⟩
    simp only at hr
    subst hr
    exact wpAny_pure q
theorem byv_tup {n : Nat} {b : Addr} {o : Obj} {vs : Array Value} {m : Nat} (ho : s.heap.get? b = some o) (hc : o.cls = .type "tuple") (hd : o.data = .seq vs m) (hv : ∀ v ∈ vs.toList, Ans P w s (hashByValue n) true v) : Ans P w s (hashByValue (n + 1)) true (.ref b) := fun A E Q q => by
  have ty : s.TypeIs (.ref b) "tuple" := ⟨o, ho, hc⟩
  unfold hashByValue
  refine wpAny_bind (wpAny_specialOf ty F.slot_tuple_hash.lookup ?_)
  show wpAny (model P w) A (seqItems? (.ref b) >>= _) _ E s
  refine wpAny_bind (wpAny_seqItems ho hd ?_)
  refine wpAny_bind ?_
  show wpAny (model P w) A (forIn vs _ _) _ E s
  rw [← Array.forIn_toList]
  refine wpAny_forIn_list _ (fun rest r t => t = s ∧ r.1 = none ∧ ∀ u ∈ rest, u ∈ vs.toList) _ ?_ ?_ _ _ ⟨rfl, rfl, fun _ z => z⟩
  · rintro u rest r t ⟨rfl, hr, sub⟩
    refine wpAny_bind (hv u (sub u List.mem_cons_self) A _ _ ?_)
    simp only [Bool.not_true, Bool.false_eq_true, if_false]
    exact wpAny_pure ⟨rfl, rfl, fun z hz => sub z (List.mem_cons_of_mem _ hz)⟩
  · rintro ⟨r, _⟩ t ⟨rfl, hr, _⟩
    simp only at hr
    subst hr
    exact wpAny_pure q
mutual
theorem cls_key : ∀ (k : NestedKey) (v : Value) (n : Nat), NestedIs s.heap k v → k.depth ≤ n → Ans P w s (ofAClassStatement n) false v
  | .none, _, n, x, _ => by cases x; intro A E Q q; cases n <;> exact wpAny_pure q
  | .num _, _, n, x, _ => by cases x <;> (intro A E Q q; cases n <;> exact wpAny_pure q)
  | .text _, _, n, x, _ => by cases x; intro A E Q q; cases n <;> exact wpAny_pure q
  | .tup ks, _, n, x, h => by
    cases x with
    | tup hg hc hd hk =>
      simp only [NestedKey.depth] at h
      cases n with
      | zero => omega
      | succ n => exact cls_tup hg hc hd (cls_keys ks _ n hk (by omega))
theorem cls_keys : ∀ (ks : List NestedKey) (vs : List Value) (n : Nat), NestedAll s.heap ks vs → NestedKey.depthAll ks ≤ n → ∀ v ∈ vs, Ans P w s (ofAClassStatement n) false v
  | [], _, n, x, _, v, hv => by cases x; cases hv
  | k :: ks, _, n, x, h, v, hv => by
    cases x with
    | cons a b =>
      simp only [NestedKey.depthAll] at h
      rcases List.mem_cons.mp hv with e | hv
      · subst e; exact cls_key k _ n a (by omega)
      · exact cls_keys ks _ n b (by omega) v hv
end
mutual
theorem byv_key : ∀ (k : NestedKey) (v : Value) (n : Nat), NestedIs s.heap k v → k.depth ≤ n → plainK k = true → Ans P w s (hashByValue n) true v
  | .none, _, n, x, _, _ => by cases x; intro A E Q q; cases n <;> exact wpAny_pure q
  | .num _, _, n, x, _, _ => by cases x <;> (intro A E Q q; cases n <;> exact wpAny_pure q)
  | .text _, _, n, x, _, h => by simp [plainK] at h
  | .tup ks, _, n, x, h, h2 => by
    cases x with
    | tup hg hc hd hk =>
      simp only [NestedKey.depth] at h
      cases n with
      | zero => omega
      | succ n => exact byv_tup hg hc hd (byv_keys ks _ n hk (by omega) (by simpa [plainK] using h2))
theorem byv_keys : ∀ (ks : List NestedKey) (vs : List Value) (n : Nat), NestedAll s.heap ks vs → NestedKey.depthAll ks ≤ n → plainKs ks = true → ∀ v ∈ vs, Ans P w s (hashByValue n) true v
  | [], _, n, x, _, _, v, hv => by cases x; cases hv
  | k :: ks, _, n, x, h, h2, v, hv => by
    cases x with
    | cons a b =>
      simp only [NestedKey.depthAll] at h
      simp only [plainKs, Bool.and_eq_true] at h2
      rcases List.mem_cons.mp hv with e | hv
      · subst e; exact byv_key k _ n a (by omega) h2.1
      · exact byv_keys ks _ n b (by omega) h2.2 v hv
end
end
def nest (P : Program) (w : World) : Kd P w NestedKey where
  is := fun h k b => NestedIs h k (.ref b) ∧ k.depth ≤ 8 ∧ plainK k = true
  hs := fun k => k.hash w
  dr := fun k => k.draws
  at_ := fun x h => ⟨NestedIs.at h _ _ x.1, x.2⟩
  inj := fun x y => NestedIs.inj _ _ _ x.1 y.1
  hash := fun hu x q => (nestedKind P w).pyHash hu ⟨x.1, x.2.1⟩ q
  eq := fun hu x y q => (nestedKind P w).eqBool hu ⟨x.1, x.2.1⟩ ⟨y.1, y.2.1⟩ q
  quiet := fun x q => (nestedKind P w).quiet ⟨x.1, x.2.1⟩ q
  cls := fun x q => cls_key _ _ 8 x.1 x.2.1 _ _ _ q
  byv := fun x q => byv_key _ _ 8 x.1 x.2.1 x.2.2 _ _ _ q
end Vz


set_option Elab.async false
set_option linter.all false
set_option maxRecDepth 100000
/-! Vy: the set of such tuples: search, adding. -/
namespace Vz
open PySem PySem.Spec PyProof.Rows L2

section
variable {P : Program} {w : World} {A : Around} {E : Value → Shared → Prop} {s : Shared} {κ : Type} [DecidableEq κ] {D : Kd P w κ}
def rws (D : Kd P w κ) (L : List (Addr × κ)) : List (Int × Value) := L.map fun e => (D.hs e.2, .ref e.1)
theorem rws_len {D : Kd P w κ} (L : List (Addr × κ)) : (rws D L).length = L.length := List.length_map ..
/-- at a stands a set with just the tuples of L, its table in order -/
structure At (D : Kd P w κ) (h : Heap) (a : Addr) (L : List (Addr × κ)) (es : Array (Int × Value)) (ep : Nat) (t : SetTable) : Prop where
  obj : ∃ u, h.get? a = some u ∧ u.ExactSet ∧ u.data = .set es ep t
  row : es.toList = rws D L
  tab : TabOk t (L.map fun e => D.hs e.2)
  dif : (L.map fun e => e.2).Nodup
  els : ∀ e ∈ L, D.is h e.2 e.1
  pln : t.plain = true
  led : w.params.followText "set-order" = true ∨ t.led = true
  gap : 5 * L.length < 3 * t.mask
  few : L.length < 64
variable {a : Addr} {L : List (Addr × κ)} {es : Array (Int × Value)} {ep : Nat} {t : SetTable}
theorem size_of (h : es.toList = rws D L) : es.size = L.length := by
  rw [← rws_len (D := D) L, ← h, Array.length_toList]
theorem fits_of (h : es.toList = rws D L) (h1 : t.place.size = L.length) (h2 : t.dummies = #[]) (h3 : L.length ≤ t.mask) : t.fits es.size = true := by
  have z := size_of h
  unfold SetTable.fits SetTable.fill
  rw [h2, Bool.and_eq_true, beq_iff_eq, decide_eq_true_eq]
  show t.place.size = es.size ∧ t.place.size + 0 ≤ t.mask
  omega
theorem At.place (R : At D s.heap a L es ep t) : t.place.size = L.length := by
  have := R.tab.sz
  rwa [List.length_map] at this
theorem At.fit (R : At D s.heap a L es ep t) : t.fits es.size = true := fits_of R.row R.place R.tab.dm (by have := R.gap; omega)
theorem row_at (h : es.toList = rws D L) {i : Nat} {e : Addr × κ} (hi : L[i]? = some e) : es[i]? = some (D.hs e.2, Value.ref e.1) := by
  have q : es.toList[i]? = some (D.hs e.2, Value.ref e.1) := by
    rw [h]
    show (L.map _)[i]? = _
    rw [List.getElem?_map, hi]
    rfl
  rwa [Array.getElem?_toList] at q
/-- a search among such tuples shows nothing -/
theorem unseen {k : κ} {b : Addr} (hb : D.is s.heap k b) {ys : List Value} (hy : ∀ y ∈ ys, ∃ k' c, y = Value.ref c ∧ D.is s.heap k' c) {Q : Bool → Shared → Prop} (q : Q false s) : wpAny (model P w) A (searchCouldBeSeen (.ref b) ys) Q E s := by
  unfold searchCouldBeSeen
  refine wpAny_bind ?_
  refine wpAny_forIn_list _ (fun rest r u => u = s ∧ r.1 = none ∧ ∀ y ∈ rest, ∃ k' c, y = Value.ref c ∧ D.is s.heap k' c) _ ?_ ?_ _ _ ⟨rfl, rfl, hy⟩
  · rintro y rest r u ⟨rfl, hr, all⟩
    obtain ⟨k', c, rfl, hc⟩ := all y List.mem_cons_self
    have tail := fun z hz => all z (List.mem_cons_of_mem _ hz)
    dsimp only
    by_cases same : (b == c || (carriedByValue (.ref b) && carriedByValue (.ref c))) = true
    · exact wp_if_pos same (wpAny_pure ⟨rfl, rfl, tail⟩)
    · refine wp_if_neg same (wpAny_bind (D.quiet hb ?_))
      simp only [Bool.not_true, Bool.false_eq_true, if_false]
      refine wpAny_bind (D.quiet hc ?_)
      simp only [Bool.not_true, Bool.false_eq_true, if_false]
      refine wpAny_bind (D.cls hb ?_)
      simp only [Bool.false_eq_true, if_false]
      refine wpAny_bind (D.cls hc ?_)
      simp only [Bool.false_eq_true, if_false]
      exact wpAny_pure ⟨rfl, rfl, tail⟩
  · rintro ⟨r, _⟩ u ⟨rfl, hr, _⟩
    simp only at hr
    subst hr
    exact wpAny_pure q
/-- the c-th step of the way of a hash -/
def stp (m : Nat) (x : Int) (c : Nat) : SetTable.Probe := nth m (runAt m (SetTable.bits x % (m + 1)) (SetTable.bits x)) c
theorem stp_j (m : Nat) (x : Int) (c : Nat) : (stp m x c).j = way m x c := rfl
theorem stp_nth (m : Nat) (x : Int) (c q : Nat) : nth m (stp m x c) q = stp m x (c + q) := (nth_add m c _ q).symm
theorem nth_dummy (m : Nat) : ∀ (n : Nat) (p : SetTable.Probe), p.dummy = none → (nth m p n).dummy = none
  | 0, _, h => h
  | n + 1, p, h => nth_dummy m n (adv m p) (by unfold adv; split <;> exact h)
theorem gave_not (h : MaskOk t.mask) : ¬ t.gaveWay = true := by
  unfold SetTable.gaveWay
  rw [mask_odd h]
  decide
theorem same_self (t : SetTable) : t.sameMemory t.moves t.mask = some true := by
  unfold SetTable.sameMemory
  rw [if_pos (beq_self_eq_true _)]
/-- the search for k from its c-th step on; K: the first empty slot of its way; no place of k before the c-th step -/
theorem seek (R : At D s.heap a L es ep t) {x : Addr} {k : κ} (hx : D.is s.heap k x) (hu : A.units + 8 < cLine) {K : Nat} (small : K < 10 * SetTable.turns t.mask)
    (empty : way t.mask (D.hs k) K ∉ t.place.toList) (full : ∀ c, c < K → way t.mask (D.hs k) c ∈ t.place.toList) {Q : SetFound → Shared → Prop}
    (yes : k ∈ L.map (·.2) → Q (.there none) s) (no : k ∉ L.map (·.2) → Q (.free (way t.mask (D.hs k) K) false) s) :
    ∀ (f c : Nat) (st : Option SetTable.Probe), st.getD (t.probeStart (D.hs k)) = stp t.mask (D.hs k) c → c ≤ K → K - c < f →
      (∀ (i : Nat) (e : Addr × κ), L[i]? = some e → e.2 = k → ∃ d, c ≤ d ∧ d < K ∧ t.place.toList[i]? = some (way t.mask (D.hs k) d)) →
      wpAny (model P w) A (setSearchFrom a (.ref x) (D.hs k) true f st) Q E s
  | 0, c, st, _, _, z, _ => absurd z (Nat.not_lt_zero _)
  | f + 1, c, st, hst, hc, hf, ahead => by
    obtain ⟨u, hg, hex, hd⟩ := R.obj
    rw [setSearchFrom_succ]
    refine wpAny_bind (wpAny_setState_of hg hd R.fit ?_)
    dsimp only
    refine wp_if_neg (gave_not R.tab.mok) ?_
    try refine wpAny_bind (wpAny_pure ?_)
    have hj : ∀ q, (nth t.mask (stp t.mask (D.hs k) c) q).j = way t.mask (D.hs k) (c + q) := fun q => by rw [stp_nth]; rfl
    have hsum : c + (K - c) = K := by omega
    have G := go_spec t R.tab.ris R.tab.dm (fun i => (es[i]?.map (·.1)).getD 0) (D.hs k) (10 * SetTable.turns t.mask) (K - c) (stp t.mask (D.hs k) c) (nth_dummy t.mask c _ rfl) (by omega)
      (fun q hq => by rw [hj]; exact full _ (by omega)) (by rw [hj, hsum]; exact empty)
    have hashes : ∀ (i : Nat) (e : Addr × κ), L[i]? = some e → (fun i => (es[i]?.map (·.1)).getD 0) i = D.hs e.2 := fun i e hi => by
      show (es[i]?.map (·.1)).getD 0 = _
      rw [row_at R.row hi]
      rfl
    rcases G with ⟨q, i, hq, hi, hh, before, ans⟩ | ⟨before, ans⟩
    · have ans' : t.probe (fun i => (es[i]?.map (·.1)).getD 0) (D.hs k) (st.getD (t.probeStart (D.hs k))) = some (.candidate (way t.mask (D.hs k) (c + q)) i (stp t.mask (D.hs k) (c + (q + 1)))) := by
        rw [hst, ← hj, ← stp_nth]
        exact ans
      rw [ans']
      dsimp only
      rw [hj] at hi
      have hil : i < L.length := by
        have l1 := (List.getElem?_eq_some_iff.mp hi).1
        rw [Array.length_toList, R.place] at l1
        exact l1
      obtain ⟨e, he⟩ : ∃ e, L[i]? = some e := ⟨_, List.getElem?_eq_getElem hil⟩
      have me : e ∈ L := List.mem_of_getElem? he
      have live : t.slot (way t.mask (D.hs k) (c + q)) = .live i := slot_live R.tab.ris hi
      have rest : wpAny (model P w) A (searchRest a (.ref x) (D.hs k) true f es t (way t.mask (D.hs k) (c + q)) i (stp t.mask (D.hs k) (c + (q + 1)))) Q E s := by
        unfold searchRest
        rw [row_at R.row he]
        dsimp only
        refine wpAny_bind (wpAny_holding (D.eq hu (R.els e me) hx ?_))
        refine wpAny_bind (wpAny_setState_of hg hd R.fit ?_)
        dsimp only
        by_cases hk : e.2 = k
        · refine wp_if_pos (by simp [hk]) (wpAny_pure (yes (List.mem_map.mpr ⟨e, me, hk⟩)))
        · refine wp_if_neg (by simp [hk]) ?_
          try refine wpAny_bind (wpAny_pure ?_)
          rw [same_self]
          dsimp only
          simp only [if_true, live, row_at R.row he]
          refine wpAny_bind (wpAny_isSame_ref_self (wpAny_bind (wpAny_pure ?_)))
          simp only [if_true]
          refine wp_if_neg (by simp [hk]) (seek R hx hu small empty full yes no f (c + (q + 1)) _ rfl (by omega) (by omega) fun i0 e0 h0 k0 => ?_)
          obtain ⟨d, d1, d2, d3⟩ := ahead i0 e0 h0 k0
          refine ⟨d, ?_, d2, d3⟩
          have h1 : ¬ d < c + q := fun lt => before (d - c) i0 (by omega) (by rw [hj, show c + (d - c) = d by omega]; exact d3) ((hashes i0 e0 h0).trans (by rw [k0]))
          have h2 : d ≠ c + q := fun eq => by
            rw [eq] at d3
            have l2 := slot_live R.tab.ris d3
            rw [live] at l2
            cases l2
            rw [he] at h0
            cases h0
            exact hk k0
          omega
      by_cases hl : t.led = true
      · refine wp_if_neg (by simp [hl]) ?_
        try refine wpAny_bind (wpAny_pure ?_)
        exact rest
      · refine wp_if_pos (by simp [hl]) (wpAny_bind (unseen hx (fun y hy => ?_) ?_))
        · obtain ⟨r, hr, rfl⟩ := List.mem_map.mp hy
          have m1 : r ∈ es ∧ r.1 = D.hs k := by simpa using hr
          have m2 : r ∈ es.toList := by simpa using m1.1
          rw [R.row] at m2
          obtain ⟨e2, me2, rfl⟩ := List.mem_map.mp m2
          exact ⟨e2.2, e2.1, rfl, R.els e2 me2⟩
        · refine wp_if_neg (by decide) ?_
          try refine wpAny_bind (wpAny_pure ?_)
          exact rest
    · have ans' : t.probe (fun i => (es[i]?.map (·.1)).getD 0) (D.hs k) (st.getD (t.probeStart (D.hs k))) = some (.empty (way t.mask (D.hs k) K) none) := by
        rw [hst]
        have : way t.mask (D.hs k) K = (nth t.mask (stp t.mask (D.hs k) c) (K - c)).j := by rw [hj, hsum]
        rw [this]
        exact ans
      rw [ans']
      dsimp only
      refine wpAny_pure (no fun m => ?_)
      obtain ⟨e0, me0, k0⟩ := List.mem_map.mp m
      obtain ⟨i0, hi0, e1⟩ := List.getElem_of_mem me0
      have h0 : L[i0]? = some e0 := by rw [List.getElem?_eq_getElem hi0, e1]
      obtain ⟨d, d1, d2, d3⟩ := ahead i0 e0 h0 k0
      exact before (d - c) i0 (by omega) (by rw [hj, show c + (d - c) = d by omega]; exact d3) ((hashes i0 e0 h0).trans (by rw [k0]))
theorem seek0 (R : At D s.heap a L es ep t) {x : Addr} {k : κ} (hx : D.is s.heap k x) (hu : A.units + 8 < cLine) {Q : SetFound → Shared → Prop}
    (yes : k ∈ L.map (·.2) → Q (.there none) s)
    (no : ∀ K, k ∉ L.map (·.2) → way t.mask (D.hs k) K ∉ t.place.toList → (∀ c, c < K → way t.mask (D.hs k) c ∈ t.place.toList) → Q (.free (way t.mask (D.hs k) K) false) s) :
    wpAny (model P w) A (setSearch a (.ref x) (D.hs k) true) Q E s := by
  have gp := R.gap
  obtain ⟨K, small, empty, full⟩ := R.tab.first (by rw [List.length_map]; omega) (D.hs k)
  have lim : 10 * SetTable.turns t.mask ≤ 1420 := by
    unfold SetTable.turns
    rcases R.tab.mok with e | e | e <;> omega
  unfold setSearch
  refine seek R hx hu small empty full yes (fun n => no K n empty full) 100000 0 none rfl (Nat.zero_le _) (by omega) fun i e hi hk => ?_
  have hh : (L.map fun e => D.hs e.2)[i]? = some (D.hs k) := by rw [List.getElem?_map, hi, ← hk]; rfl
  have hil : i < t.place.toList.length := by
    rw [Array.length_toList, R.place]
    exact (List.getElem?_eq_some_iff.mp hi).1
  obtain ⟨d, d1, d2⟩ := R.tab.before empty hh (List.getElem?_eq_getElem hil)
  exact ⟨d, Nat.zero_le _, d1, by rw [List.getElem?_eq_getElem hil, d2]⟩
end
end Vz


set_option Elab.async false
set_option linter.all false
set_option maxRecDepth 100000
/-! Vw: adding to the set, its table laid anew. -/
namespace Vz
open PySem PySem.Spec PyProof.Rows L2

section
variable {P : Program} {w : World} {A : Around} {E : Value → Shared → Prop} {s : Shared} {κ : Type} [DecidableEq κ] {D : Kd P w κ}
variable {a : Addr} {L : List (Addr × κ)} {es : Array (Int × Value)} {ep : Nat} {t : SetTable}
/-- a tuple stays while the set alone is written -/
theorem is_but {h h' : Heap} {k : κ} {b : Addr} {u : Obj} (x : D.is h k b) (hg : h.get? a = some u) (hd : u.data = .set es ep t) (hs : Heap.SameBut a h h') : D.is h' k b := D.at_ x fun c v vs n hc hv => by
  refine (hs.2 c fun z => ?_).trans hc
  subst z
  rw [hg] at hc
  cases hc
  rw [hd] at hv
  cases hv
theorem insert_perm {α : Type} (l : List α) (p : Nat) (x : α) : (l.take p ++ x :: l.drop p).Perm (x :: l) := by
  have q : (l.take p ++ x :: l.drop p).Perm (x :: (l.take p ++ l.drop p)) := List.perm_middle
  rwa [List.take_append_drop] at q
theorem pick_all {α : Type} (l : List α) : (List.range l.length).filterMap (fun i => l[i]?) = l := by
  have h : ∀ n, n ≤ l.length → (List.range n).filterMap (fun i => l[i]?) = l.take n := fun n => by
    induction n with
    | zero => intro _; rfl
    | succ n ih =>
      intro hn
      rw [List.range_succ, List.filterMap_append, ih (by omega), List.take_succ]
      have : l[n]? = some l[n] := List.getElem?_eq_getElem hn
      simp [this]
  have := h l.length (Nat.le_refl _)
  rwa [List.take_length] at this
/-- the rows in another order are the rows of the elements in another order -/
theorem rows_order (ord : Array Nat) (hr : es.toList = rws D L) (hp : ord.toList.Perm (List.range L.length)) :
    ∃ M, (ord.filterMap (es[·]?)).toList = rws D M ∧ M.Perm L ∧ (M.map fun e => D.hs e.2) = ord.toList.map fun i => (es.map (·.1)).getD i 0 := by
  have hz := size_of hr
  have step : ∀ l : List Nat, (∀ i ∈ l, i < L.length) → l.filterMap (fun i => es[i]?) = rws D (l.filterMap fun i => L[i]?) ∧ ((l.filterMap fun i => L[i]?).map fun e => D.hs e.2) = l.map fun i => (es.map (·.1)).getD i 0 := fun l => by
    induction l with
    | nil => intro _; exact ⟨rfl, rfl⟩
    | cons i l ih =>
      intro hl
      have hi : i < L.length := hl i List.mem_cons_self
      obtain ⟨e1, e2⟩ := ih fun j hj => hl j (List.mem_cons_of_mem _ hj)
      have g1 : L[i]? = some L[i] := List.getElem?_eq_getElem hi
      have g2 := row_at hr g1
      have g3 : (es.map (·.1)).getD i 0 = D.hs L[i].2 := by
        have g4 : (es.map (·.1))[i]? = some (D.hs L[i].2) := by rw [Array.getElem?_map, g2]; rfl
        simp [Array.getD_eq_getD_getElem?, g4]
      rw [List.filterMap_cons_some g2, List.filterMap_cons_some g1, e1, List.map_cons, List.map_cons, e2, g3]
      exact ⟨rfl, rfl⟩
  obtain ⟨e1, e2⟩ := step ord.toList fun i hi => List.mem_range.mp (hp.mem_iff.mp hi)
  refine ⟨ord.toList.filterMap fun i => L[i]?, by simpa using e1, ?_, e2⟩
  have q := hp.filterMap (fun i => L[i]?)
  rwa [pick_all] at q
/-- the table laid anew -/
theorem relay {u : Obj} (hg : s.heap.get? a = some u) (hex : u.ExactSet) (hd : u.data = .set es ep t) (row : es.toList = rws D L) (pl : t.place.size = L.length) (dm : t.dummies = #[]) (fl : L.length ≤ t.mask)
    (dif : (L.map fun e => e.2).Nodup) (els : ∀ e ∈ L, D.is s.heap e.2 e.1) (pln : t.plain = true) (led : w.params.followText "set-order" = true ∨ t.led = true) (few : L.length < 64) {n M : Nat}
    (h1 : SetTable.sizeAbove n - 1 = M) (h2 : MaskOk M) (h3 : SetTable.sizeAbove n ≤ 128) (h4 : 5 * L.length < 3 * M) {Q : Unit → Shared → Prop}
    (q : ∀ h' L' es' ep' t', Heap.SameBut a s.heap h' → At D h' a L' es' ep' t' → L'.Perm L → Q () { s with heap := h' }) : wpAny (model P w) A (setRelay a n) Q E s := by
  have hz := size_of row
  obtain ⟨t2, ord, e, hp, T, m2, l2, p2, d2⟩ := relaid_ok t (hs := es.map (·.1)) (wanted := n) h1 h2 (by rw [Array.size_map]; omega)
  rw [Array.size_map, hz] at hp
  obtain ⟨L2, r1, r2, r3⟩ := rows_order ord row hp
  rw [← r3] at T
  have hz2 : (ord.filterMap (es[·]?)).size = es.size := by rw [size_of r1, r2.length_eq, hz]
  rw [setRelay_eq]
  refine wpAny_bind (wpAny_setState_of hg hd (fits_of row pl dm fl) ?_)
  dsimp only
  refine wp_if_neg (by rw [sizeLine_eq]; omega) ?_
  try refine wpAny_bind (wpAny_pure ?_)
  rw [e]
  dsimp only
  refine wpAny_bind ?_
  refine wp_if_neg (by rw [hz2]; simp) ?_
  try refine wpAny_bind (wpAny_pure ?_)
  refine wpAny_pure ?_
  dsimp only
  refine wpAny_storeSet_of hg hd ?_ (by rw [hz2, sizeLine_eq]; omega)
  have but : Heap.SameBut a s.heap (s.heap.update a (Obj.putSet (ord.filterMap (es[·]?)) t2)) := Heap.SameBut.update ..
  exact q _ L2 _ (ep + 1) t2 but ⟨⟨_, store_at hg hd, ⟨hex.1, hex.2.1, hex.2.2⟩, rfl⟩, r1, T, (r2.map fun e => e.2).nodup_iff.mpr dif, fun e he => is_but (els e (r2.mem_iff.mp he)) hg hd but, by rw [p2]; exact pln, by rw [l2]; exact led, by rw [r2.length_eq, m2]; exact h4, by rw [r2.length_eq]; exact few⟩ r2
/-- adding one -/
theorem put_in (R : At D s.heap a L es ep t) {x : Addr} {k : κ} (hx : D.is s.heap k x) (hu : A.units + 8 < cLine) (few : L.length + 1 < 64) {Q : Bool → Shared → Prop}
    (q : ∀ b h' L' es' ep' t', Heap.SameBut a s.heap h' → At D h' a L' es' ep' t' → (k ∈ L.map (·.2) → L' = L) → (k ∉ L.map (·.2) → L'.Perm ((x, k) :: L)) → Q b { s with heap := h' }) :
    wpAny (model P w) A (setAddHashed a (.ref x) (D.hs k)) Q E s := by
  obtain ⟨u, hg, hex, hd⟩ := R.obj
  have gp := R.gap
  have hz := size_of R.row
  unfold setAddHashed
  refine wpAny_holding ?_
  rw [show (100000 : Nat) = 99999 + 1 from rfl, setAddHashedIn_succ]
  refine wpAny_bind (wpAny_setState_of hg hd R.fit ?_)
  dsimp only
  refine wp_if_neg (by simp [byScan, Value.scannable]) ?_
  try refine wpAny_bind (wpAny_pure ?_)
  refine wpAny_bind (seek0 R hx hu (fun m => ?_) fun K m empty full => ?_)
  · dsimp only
    exact wpAny_pure (q false s.heap L es ep t (Heap.SameBut.refl a s.heap) R (fun _ => rfl) fun z => absurd m z)
  · dsimp only
    refine wpAny_bind (wpAny_setState_of hg hd R.fit ?_)
    dsimp only
    obtain ⟨z1, z2, z3, z4, z5, z6, z7, z8, z9⟩ := R.tab.put empty full
    have pl1 : (t.put (way t.mask (D.hs k) K)).1.plain = true := by rw [z6]; exact R.pln
    generalize ht1 : t.put (way t.mask (D.hs k) K) = tp at z1 z3 z4 z5 z6 z7 z8 z9 pl1 ⊢
    obtain ⟨t1, p⟩ := tp
    dsimp only at z1 z3 z4 z5 z6 z7 z8 z9 pl1 ⊢
    subst z1
    first
      | (refine wpAny_bind ?_; refine wp_if_pos pl1 ?_; refine D.byv hx ?_)
      | refine wp_if_pos pl1 (wpAny_bind (D.byv hx ?_))
    simp only [if_true]
    generalize SetTable.below t.place (way t.mask (D.hs k) K) = p at z2 z3 ⊢
    have pm := insert_perm L p (x, k)
    have row1 : (SetTable.insertAt es p (D.hs k, Value.ref x)).toList = rws D (L.take p ++ (x, k) :: L.drop p) := by
      rw [SetTable.toList_insertAt, R.row]
      unfold rws
      rw [List.map_append, List.map_cons, List.map_take, List.map_drop]
    have tab1 : TabOk t1 ((L.take p ++ (x, k) :: L.drop p).map fun e => D.hs e.2) := by
      rw [List.map_append, List.map_cons, List.map_take, List.map_drop]
      exact z3
    have dif1 : ((L.take p ++ (x, k) :: L.drop p).map fun e => e.2).Nodup := by
      refine (pm.map fun e => e.2).nodup_iff.mpr ?_
      rw [List.map_cons]
      exact List.nodup_cons.mpr ⟨m, R.dif⟩
    have len1 : (L.take p ++ (x, k) :: L.drop p).length = L.length + 1 := pm.length_eq
    generalize SetTable.insertAt es p (D.hs k, Value.ref x) = es1 at row1 ⊢
    generalize L.take p ++ (x, k) :: L.drop p = L1 at pm row1 tab1 dif1 len1
    have hz1 := size_of row1
    refine wpAny_bind (wpAny_storeSet_of hg hd ?_ (by rw [hz1, sizeLine_eq]; omega))
    have but : Heap.SameBut a s.heap (s.heap.update a (Obj.putSet es1 t1)) := Heap.SameBut.update ..
    have hg1 := store_at (es' := es1) (t' := t1) hg hd
    generalize s.heap.update a (Obj.putSet es1 t1) = h1 at but hg1 ⊢
    have els1 : ∀ e ∈ L1, D.is h1 e.2 e.1 := fun e he => by
      rcases List.mem_cons.mp (pm.mem_iff.mp he) with rfl | he
      · exact is_but hx hg hd but
      · exact is_but (R.els e he) hg hd but
    have led1 : w.params.followText "set-order" = true ∨ t1.led = true := by rw [z5]; exact R.led
    have pla1 : t1.place.size = L1.length := by
      have := tab1.sz
      rwa [List.length_map] at this
    by_cases hf : t1.tooFull = true
    · first
        | (refine wpAny_bind ?_; refine wp_if_pos (by simp [hf]) ?_)
        | (refine wp_if_pos (by simp [hf]) ?_; refine wpAny_bind ?_)
      have much : 5 * (L.length + 1) ≥ 3 * t1.mask := by
        have z := hf
        unfold SetTable.tooFull at z
        rw [decide_eq_true_eq, z9, List.length_map] at z
        omega
      rw [hz]
      have two : (t.mask = 7 ∧ L.length = 4) ∨ (t.mask = 31 ∧ L.length = 18) := by
        rw [z4] at much
        rcases R.tab.mok with e | e | e <;> rw [e] at much gp
        · exact .inl ⟨e, by omega⟩
        · exact .inr ⟨e, by omega⟩
        · omega
      have go : ∀ M, SetTable.sizeAbove (SetTable.grown (L.length + 1)) - 1 = M → MaskOk M → SetTable.sizeAbove (SetTable.grown (L.length + 1)) ≤ 128 → 5 * (L.length + 1) < 3 * M →
          wpAny (model P w) A (setRelay a (SetTable.grown (L.length + 1))) (fun _ s' => wpAny (model P w) A (pure true) Q E s') E { s with heap := h1 } := fun M a1 a2 a3 a4 => by
        refine relay (s := { s with heap := h1 }) hg1 ⟨hex.1, hex.2.1, hex.2.2⟩ rfl row1 pla1 tab1.dm (by rw [z4]; rcases two with ⟨e, f⟩ | ⟨e, f⟩ <;> omega) dif1 els1 pl1 led1 (by omega) a1 a2 a3 (by omega) ?_
        exact fun h2 L2 es2 ep2 t2 but2 R2 pm2 => wpAny_pure (q true h2 L2 es2 ep2 t2 (but.trans but2) R2 (fun z => absurd z m) fun _ => pm2.trans pm)
      rcases two with ⟨_, f⟩ | ⟨_, f⟩
      · exact go 31 (by rw [f, size_20]) (.inr (.inl rfl)) (by rw [f, size_20]; decide) (by omega)
      · exact go 127 (by rw [f, size_76]) (.inr (.inr rfl)) (by rw [f, size_76]; decide) (by omega)
    · first
        | refine wp_if_neg (by simp [hf]) ?_
        | (refine wpAny_bind ?_; refine wp_if_neg (by simp [hf]) ?_; refine wpAny_pure ?_)
      have little : 5 * L1.length < 3 * t1.mask := by
        have z := hf
        unfold SetTable.tooFull at z
        rw [decide_eq_true_eq, z9, List.length_map] at z
        omega
      exact wpAny_pure (q true h1 L1 es1 (ep + 1) t1 but ⟨⟨_, hg1, ⟨hex.1, hex.2.1, hex.2.2⟩, rfl⟩, row1, tab1, dif1, els1, pl1, led1, little, by omega⟩ (fun z => absurd z m) fun _ => pm)
end
end Vz


set_option Elab.async false
set_option linter.all false
set_option maxRecDepth 100000
/-! Vv: set(xs), xs a list or a tuple of such tuples. -/
namespace Vz
open PySem PySem.Spec PyProof.Rows L2

section
variable {κ : Type} [DecidableEq κ]
/-- the set's elements are of the first i items, and every one of these has its like -/
structure Has (ks : List (Addr × κ)) (i : Nat) (L : List (Addr × κ)) : Prop where
  of : ∀ e ∈ L, e ∈ ks.take i
  all : ∀ e ∈ ks.take i, e.2 ∈ L.map (·.2)
  len : L.length ≤ i
theorem Has.nil (ks : List (Addr × κ)) : Has ks 0 [] := ⟨fun _ h => (by cases h), fun _ h => (by simp at h), Nat.le_refl _⟩
theorem take_one {α : Type} {l : List α} {i : Nat} {x : α} (h : l[i]? = some x) : l.take (i + 1) = l.take i ++ [x] := by
  rw [List.take_succ, h]; rfl
theorem Has.next {ks L L' : List (Addr × κ)} {i : Nat} {x : Addr × κ} (g : Has ks i L) (h : ks[i]? = some x) (h1 : x.2 ∈ L.map (·.2) → L' = L) (h2 : x.2 ∉ L.map (·.2) → L'.Perm (x :: L)) : Has ks (i + 1) L' := by
  have ht := take_one h
  rcases Classical.em (x.2 ∈ L.map (·.2)) with m | m
  · rw [h1 m]
    refine ⟨fun e he => by rw [ht]; exact List.mem_append_left _ (g.of e he), fun e he => ?_, Nat.le_succ_of_le g.len⟩
    rw [ht] at he
    rcases List.mem_append.mp he with he | he
    · exact g.all e he
    · rw [List.mem_singleton.mp he]; exact m
  · have pm := h2 m
    refine ⟨fun e he => ?_, fun e he => ?_, ?_⟩
    · rw [ht]
      rcases List.mem_cons.mp (pm.mem_iff.mp he) with rfl | he
      · exact List.mem_append_right _ (List.mem_singleton.mpr rfl)
      · exact List.mem_append_left _ (g.of e he)
    · rw [ht] at he
      refine (pm.map (·.2)).mem_iff.mpr ?_
      rw [List.map_cons]
      rcases List.mem_append.mp he with he | he
      · exact List.mem_cons_of_mem _ (g.all e he)
      · rw [List.mem_singleton.mp he]; exact List.mem_cons_self
    · rw [pm.length_eq]
      exact Nat.succ_le_succ g.len
end
section
variable {P : Program} {w : World} {A : Around} {E : Value → Shared → Prop} {s : Shared} {κ : Type} [DecidableEq κ] {D : Kd P w κ}
theorem At.kept {h h' : Heap} {a : Addr} {L : List (Addr × κ)} {es : Array (Int × Value)} {ep : Nat} {t : SetTable} (R : At D h a L es ep t) (ha : ∀ u, h.get? a = some u → h'.get? a = some u) (hl : ∀ e ∈ L, D.is h' e.2 e.1) : At D h' a L es ep t := by
  obtain ⟨u, hg, r⟩ := R.obj
  exact ⟨⟨u, ha u hg, r⟩, R.row, R.tab, R.dif, hl, R.pln, R.led, R.gap, R.few⟩
abbrev newSet (w : World) : Obj := { cls := .type "set", dict := none, data := .set #[] 0 (.fresh 0 0 (!w.params.followText "set-order")) }
theorem at_new {h : Heap} {a : Addr} (hg : h.get? a = some (newSet w)) : At D h a [] #[] 0 (.fresh 0 0 (!w.params.followText "set-order")) where
  obj := ⟨_, hg, ⟨rfl, rfl, rfl⟩, rfl⟩
  row := rfl
  tab := ⟨List.Pairwise.nil, rfl, rfl, .inl rfl, fun x hx => (by cases hx), fun i h j hi => (by simp at hi)⟩
  dif := List.nodup_nil
  els := fun e he => (by cases he)
  pln := rfl
  led := by
    show _ ∨ (!w.params.followText "set-order") = true
    cases w.params.followText "set-order"
    · exact .inr rfl
    · exact .inl rfl
  gap := by show 5 * 0 < 3 * 7; decide
  few := by show 0 < 64; decide
/-- the loop that fills the set -/
theorem fill {I : Addr} {fp wr : List Addr} {G : Array GenState → Array GenState → Prop} {n : Nat} {Pv : Nat → Value → Prop} {St : Nat → Shared → Prop} {R : Result → Shared → Prop}
    (W : WalksS P w A.in1 I fp wr G n Pv St) (S : Addr) (hS : S ∉ fp) (ks : List (Addr × κ)) (hn : n = ks.length) (few : ks.length < 64) (hv : ∀ i v, Pv i v → ∃ e, ks[i]? = some e ∧ v = .ref e.1)
    (h0 : Heap) (hk : ∀ e ∈ ks, D.is h0 e.2 e.1) (h0S : h0.get? S = none) (h0w : ∀ b ∈ wr, h0.get? b = none) (hu : A.in1.units + 8 < cLine) :
    ∀ (m i : Nat) (s : Shared), n - i = m → i ≤ n → St i s → (∀ b u, h0.get? b = some u → s.heap.get? b = some u) → (∃ L es ep t, At D s.heap S L es ep t ∧ Has ks i L) →
      (∀ s' L es ep t, Moved (S :: wr) G s s' → At D s'.heap S L es ep t → Has ks n L → (∀ b u, h0.get? b = some u → s'.heap.get? b = some u) → R (.ok (.ret .none)) s') →
      codeAny (model P w) A (.builtin "set.update.loop" ⟨[.ref S, .ref I], []⟩) R s := by
  have nS : S ∉ wr := fun z => hS (W.sub _ z)
  have up : ∀ b ∈ wr, b ∈ S :: wr := fun b hb => List.mem_cons_of_mem _ hb
  have go : ∀ {s s' : Shared}, Moved wr G s s' → (∀ b u, h0.get? b = some u → s.heap.get? b = some u) → ∀ b u, h0.get? b = some u → s'.heap.get? b = some u := fun mv k b u e => mv.heap b u (fun hb => by rw [h0w b hb] at e; cases e) (k b u e)
  have isAt : ∀ {h : Heap} {e : Addr × κ}, e ∈ ks → (∀ b u, h0.get? b = some u → h.get? b = some u) → D.is h e.2 e.1 := fun {h e} he k => D.at_ (hk e he) fun c u _ _ g _ => k c u g
  intro m
  induction m with
  | zero =>
    intro i s hm hi hst k0 ⟨L, es, ep, t, at0, g⟩ hR
    obtain rfl : i = n := by omega
    refine codeAny_builtin F.entry_set_update_loop ?_
    rw [Around.under_plainId F.plain_set_update_loop _]
    show wpAny (model P w) A.in1 (pyNext (.ref I) >>= _) _ _ s
    refine wpAny_bind (W.done s _ _ hst fun s' mv => ?_)
    have k1 := go mv k0
    exact wpAny_pure (hR s' L es ep t (mv.mono up) (at0.kept (fun u e => mv.heap S u nS e) fun e he => isAt (List.mem_of_mem_take (g.of e he)) k1) g k1)
  | succ m ih =>
    intro i s hm hi hst k0 ⟨L, es, ep, t, at0, g⟩ hR
    have lt : i < n := by omega
    refine codeAny_builtin F.entry_set_update_loop ?_
    rw [Around.under_plainId F.plain_set_update_loop _]
    show wpAny (model P w) A.in1 (pyNext (.ref I) >>= _) _ _ s
    refine wpAny_bind (W.item i s _ _ lt hst fun v s' pv st' mv => ?_)
    obtain ⟨e, he, rfl⟩ := hv i v pv
    have k1 := go mv k0
    have me : e ∈ ks := List.mem_of_getElem? he
    have at1 : At D s'.heap S L es ep t := at0.kept (fun u e => mv.heap S u nS e) fun e he => isAt (List.mem_of_mem_take (g.of e he)) k1
    have hx : D.is s'.heap e.2 e.1 := isAt me k1
    show wpAny (model P w) A.in1 (holding [Value.ref e.1] (setAdd S (.ref e.1)) >>= _) _ _ s'
    refine wpAny_bind (wpAny_holding ?_)
    unfold setAdd
    refine wpAny_holding (wpAny_bind (D.hash hu hx ?_))
    have fw : L.length + 1 < 64 := by have := g.len; omega
    refine put_in (s := { s' with toks := s'.toks + D.dr e.2 }) at1 hx hu fw fun b h2 L2 es2 ep2 t2 but at2 c1 c2 => ?_
    have same : ∀ b, b ≠ S → h2.get? b = s'.heap.get? b := fun b hb => but.2 b hb
    have k2 : ∀ b u, h0.get? b = some u → h2.get? b = some u := fun b u z => (same b fun y => by rw [y, h0S] at z; cases z).trans (k1 b u z)
    refine wpAny_pure ⟨plainId_quiet F.plain_set_update_loop _, ih (i + 1) _ (by omega) lt (W.frame _ s' _ _ st' (Nat.le_add_right _ _) fun b hb u z => ?_) k2 ⟨L2, es2, ep2, t2, at2, g.next he c1 c2⟩ fun s3 L3 es3 ep3 t3 mv3 at3 g3 k3 => ?_⟩
    · exact (same b fun y => hS (y ▸ hb)).trans z
    · refine hR s3 L3 es3 ep3 t3 (Moved.trans W.gtrans ((mv.mono up).then_heap (Nat.le_add_right _ _) fun b u hb z => ?_) mv3) at3 g3 k3
      exact (same b fun y => hb (y ▸ List.mem_cons_self)).trans z
end
end Vz


set_option Elab.async false
set_option linter.all false
set_option maxRecDepth 100000
/-! Vj: the call set(xs). -/
namespace Vz
open PySem PySem.Spec PyProof.Rows L2
section
variable {P : Program} {w : World} {A : Around} {E : Value → Shared → Prop} {s : Shared} {κ : Type} [DecidableEq κ] {D : Kd P w κ}
theorem get_out {h : Heap} {b : Addr} (hb : h.objs.size ≤ b) : h.get? b = none := by
  cases q : h.get? b with
  | none => rfl
  | some u => exact absurd (Heap.lt_size q) (Nat.not_lt.mpr hb)
/-- what stands behind the call -/
def Made (D : Kd P w κ) (s : Shared) (ks : List (Addr × κ)) (h' : Heap) : Prop := (∃ L es ep t, At D h' s.heap.objs.size L es ep t ∧ Has ks ks.length L) ∧ ∀ b u, s.heap.get? b = some u → h'.get? b = some u
set_option maxHeartbeats 3200000 in
/-- set.__init__ on a list -/
theorem init_list {l : Addr} {items : Array Value} (ks : List (Addr × κ)) (hh : A.handled = none) (hl : s.heap.IsList l items) (hit : items.toList = ks.map fun e => Value.ref e.1) (hk : ∀ e ∈ ks, D.is s.heap e.2 e.1) (few : ks.length < 64) (hu : A.units + 12 < cLine)
    {Q : Unit → Shared → Prop} (q : ∀ h' tk, Made D s ks h' → Q () { s with heap := h', toks := tk }) :
    wpAny (model P w) A (Builtin.Frozenset.updateFrom "set.__init__" s.heap.objs.size (.ref l)) Q E { s with heap := s.heap.push (newSet w) } := by
  have hz : items.size = ks.length := by rw [← Array.length_toList, hit, List.length_map]
  have gS : (s.heap.push (newSet w)).get? s.heap.objs.size = some (newSet w) := Heap.get?_push_size _ rfl
  obtain ⟨⟨uc, ud, ux, us⟩, gl, cl, nl, dl⟩ := hl
  simp only at cl dl
  subst cl; subst dl
  have gl' : (s.heap.push (newSet w)).get? l = some { cls := .type "list", dict := ud, data := .seq items nl, slots := us } := Heap.get?_push_of_some _ gl
  have il : (s.heap.push (newSet w)).IsList l items := ⟨_, gl', rfl, nl, rfl⟩
  have n1 := F.sub_list_set
  have n2 := F.sub_list_frozenset
  have n3 : (Value.type "list" == Value.type "dict") = false := by decide
  unfold Builtin.Frozenset.updateFrom
  generalize hI : pyIter = PI
  wp_walk
  subst hI
  refine wpAny_pyIter_list il (wpAny_bind (wpAny_runValue ?_))
  have lS : l < s.heap.objs.size := Heap.lt_size gl
  have sz : (s.heap.push (newSet w)).objs.size = s.heap.objs.size + 1 := Heap.size_push ..
  have lI : l ≠ (s.heap.push (newSet w)).objs.size := by rw [sz]; exact Nat.ne_of_lt (Nat.lt_succ_of_lt lS)
  have val : ∀ (i : Nat) (v : Value), items[i]? = some v → ∃ e, ks[i]? = some e ∧ v = .ref e.1 := fun i v hv => by
    rw [← Array.getElem?_toList, hit, List.getElem?_map] at hv
    cases he : ks[i]? with
    | none => rw [he] at hv; cases hv
    | some e => rw [he] at hv; exact ⟨e, rfl, (Option.some.inj hv).symm⟩
  have fp : s.heap.objs.size ∉ [(s.heap.push (newSet w)).objs.size, l] := by
    rw [sz]
    simp only [List.mem_cons, List.not_mem_nil, or_false, not_or]
    exact ⟨Nat.ne_of_lt (Nat.lt_succ_self _), Nat.ne_of_gt lS⟩
  have hA : A.in1.handled = none := by simp [hh]
  refine fill ((Walks.list hA _ l lI items).toS) s.heap.objs.size fp ks hz few val s.heap hk (get_out (Nat.le_refl _)) (fun b hb => get_out (by rw [List.mem_singleton.mp hb, sz]; exact Nat.le_succ _)) ?hUU (items.size - 0) 0 _ (by omega) (Nat.zero_le _)
    ⟨⟨_, Heap.get?_push_size _ rfl, rfl, rfl⟩, il.push _⟩ (fun b u e => Heap.get?_push_of_some _ (Heap.get?_push_of_some _ e)) ?hAA ?hBB
  case hUU => show A.units + 1 + 8 < cLine; omega
  case hAA => exact ⟨[], #[], 0, _, at_new (Heap.get?_push_of_some _ gS), Has.nil ks⟩
  case hBB =>
    intro s' L es ep t mv at1 g k
    obtain ⟨h', g2, d', tk', os'⟩ := s'
    obtain rfl : g2 = s.gens := mv.gens
    obtain rfl : d' = s.drawn := mv.drawn
    obtain rfl : os' = s.os := mv.os
    rw [hz] at g
    show wpAny (model P w) A _ _ _ _
    refine wpAny_pure ?_
    exact q h' tk' ⟨⟨L, es, ep, t, at1, g⟩, k⟩
set_option maxHeartbeats 3200000 in
/-- set.__init__ on a tuple -/
theorem init_tuple {l : Addr} {items : Array Value} (ks : List (Addr × κ)) (hh : A.handled = none) (hl : s.heap.IsTuple l items) (hit : items.toList = ks.map fun e => Value.ref e.1) (hk : ∀ e ∈ ks, D.is s.heap e.2 e.1) (few : ks.length < 64) (hu : A.units + 12 < cLine)
    {Q : Unit → Shared → Prop} (q : ∀ h' tk, Made D s ks h' → Q () { s with heap := h', toks := tk }) :
    wpAny (model P w) A (Builtin.Frozenset.updateFrom "set.__init__" s.heap.objs.size (.ref l)) Q E { s with heap := s.heap.push (newSet w) } := by
  have hz : items.size = ks.length := by rw [← Array.length_toList, hit, List.length_map]
  have gS : (s.heap.push (newSet w)).get? s.heap.objs.size = some (newSet w) := Heap.get?_push_size _ rfl
  obtain ⟨⟨uc, ud, ux, us⟩, gl, cl, nl, dl⟩ := hl
  simp only at cl dl
  subst cl; subst dl
  have gl' : (s.heap.push (newSet w)).get? l = some { cls := .type "tuple", dict := ud, data := .seq items nl, slots := us } := Heap.get?_push_of_some _ gl
  have il : (s.heap.push (newSet w)).IsTuple l items := ⟨_, gl', rfl, nl, rfl⟩
  have n1 := F.sub_tuple_set
  have n2 := F.sub_tuple_frozenset
  have n3 : (Value.type "tuple" == Value.type "dict") = false := by decide
  unfold Builtin.Frozenset.updateFrom
  generalize hI : pyIter = PI
  wp_walk
  subst hI
  refine wpAny_pyIter_tuple il (wpAny_bind (wpAny_runValue ?_))
  have lS : l < s.heap.objs.size := Heap.lt_size gl
  have sz : (s.heap.push (newSet w)).objs.size = s.heap.objs.size + 1 := Heap.size_push ..
  have lI : l ≠ (s.heap.push (newSet w)).objs.size := by rw [sz]; exact Nat.ne_of_lt (Nat.lt_succ_of_lt lS)
  have val : ∀ (i : Nat) (v : Value), items[i]? = some v → ∃ e, ks[i]? = some e ∧ v = .ref e.1 := fun i v hv => by
    rw [← Array.getElem?_toList, hit, List.getElem?_map] at hv
    cases he : ks[i]? with
    | none => rw [he] at hv; cases hv
    | some e => rw [he] at hv; exact ⟨e, rfl, (Option.some.inj hv).symm⟩
  have fp : s.heap.objs.size ∉ [(s.heap.push (newSet w)).objs.size, l] := by
    rw [sz]
    simp only [List.mem_cons, List.not_mem_nil, or_false, not_or]
    exact ⟨Nat.ne_of_lt (Nat.lt_succ_self _), Nat.ne_of_gt lS⟩
  have hA : A.in1.handled = none := by simp [hh]
  refine fill ((Walks.tuple hA _ l lI items).toS) s.heap.objs.size fp ks hz few val s.heap hk (get_out (Nat.le_refl _)) (fun b hb => get_out (by rw [List.mem_singleton.mp hb, sz]; exact Nat.le_succ _)) ?hUU (items.size - 0) 0 _ (by omega) (Nat.zero_le _)
    ⟨⟨_, Heap.get?_push_size _ rfl, rfl, rfl⟩, il.push _⟩ (fun b u e => Heap.get?_push_of_some _ (Heap.get?_push_of_some _ e)) ?hAA ?hBB
  case hUU => show A.units + 1 + 8 < cLine; omega
  case hAA => exact ⟨[], #[], 0, _, at_new (Heap.get?_push_of_some _ gS), Has.nil ks⟩
  case hBB =>
    intro s' L es ep t mv at1 g k
    obtain ⟨h', g2, d', tk', os'⟩ := s'
    obtain rfl : g2 = s.gens := mv.gens
    obtain rfl : d' = s.drawn := mv.drawn
    obtain rfl : os' = s.os := mv.os
    rw [hz] at g
    show wpAny (model P w) A _ _ _ _
    refine wpAny_pure ?_
    exact q h' tk' ⟨⟨L, es, ep, t, at1, g⟩, k⟩
set_option maxHeartbeats 3200000 in
/-- set(xs) -/
theorem call_set {l : Addr} {ks : List (Addr × κ)} {Q : Value → Shared → Prop} (hh : A.handled = none) (hu : A.units + 20 < cLine)
    (src : ∀ (B : Around) (F' : Value → Shared → Prop) (R : Unit → Shared → Prop), B.handled = none → B.units + 12 < cLine → (∀ h' tk, Made D s ks h' → R () { s with heap := h', toks := tk }) → wpAny (model P w) B (Builtin.Frozenset.updateFrom "set.__init__" s.heap.objs.size (.ref l)) R F' { s with heap := s.heap.push (newSet w) })
    (q : ∀ h' tk, Made D s ks h' → Q (.ref s.heap.objs.size) { s with heap := h', toks := tk }) : wpAny (model P w) A (call (.type "set") [.ref l]) Q E s := by
  obtain ⟨c, tl, hmro⟩ := F.called_set.mro
  have hmade := F.called_set.made
  have hsub := F.called_set.sub
  refine wpAny_call (codeAny_of_tree ?_)
  show wpAny (model P w) _ (callAny (.type "set") _) _ _ s
  refine wpAny_pure ⟨Code.quiet_builtin _ (by decide +kernel), codeAny_builtin F.entry_type_call ?_⟩
  rw [Around.under_plain (weight_type_call_type "set" [.ref l] []) rfl]
  have f1 := F.called_set.notType
  have f2 := F.called_set.canCreate
  have f3 := F.typeCall_set_1 (.ref l)
  repeat (any_goals (first | assumption | wp_step))
  refine codeAny_mono (code_set_led1 (.ref l) (E := E) (Q₁ := fun o s1 => o = .ref s.heap.objs.size ∧ s1 = { s with heap := s.heap.push (newSet w) }) ⟨rfl, rfl⟩) fun r s1 hr => ?_
  cases r with
  | error e => exact hr
  | ok fl =>
    cases fl with
    | ret o =>
      obtain ⟨rfl, rfl⟩ := hr
      have ty : Shared.TypeIs { s with heap := s.heap.push (newSet w) } (.ref s.heap.objs.size) "set" := ⟨_, Heap.get?_push_size _ rfl, rfl⟩
      have f4 := F.called_set.init.lookup
      have f5 := F.called_set.init.bind (.ref s.heap.objs.size)
      repeat (any_goals (first | assumption | wp_step))
      refine codeAny_mono (codeAny_call_builtin (R := wants (fun r s2 => r = .none ∧ ∃ h' tk, s2 = { s with heap := h', toks := tk } ∧ Made D s ks h') E) F.called_set.init.plain F.entry_set_init (check_set_init_1 ty ?_)) fun r2 s2 hr2 => ?_
      · unfold Builtin.«set.__init__» noKeywords
        have gS : (s.heap.push (newSet w)).get? s.heap.objs.size = some (newSet w) := Heap.get?_push_size _ rfl
        generalize hU : Builtin.Frozenset.updateFrom = U
        wp_walk
        subst hU
        refine src _ _ _ (by simp [hh]) (by show A.units + 1 + 1 + 12 < cLine; omega) fun h' tk m => ?_
        exact wpAny_pure ⟨rfl, h', tk, rfl, m⟩
      · cases r2 with
        | error e => exact hr2
        | ok fl2 =>
          cases fl2 with
          | ret r =>
            obtain ⟨rfl, h', tk, rfl, m⟩ := hr2
            repeat (any_goals (first | assumption | wp_step))
            exact q _ _ m
          | _ => exact hr2.elim
    | _ => exact hr.elim
end
end Vz


set_option Elab.async false
set_option linter.all false
set_option maxRecDepth 100000
/-! Vh: trees of ints and tuples as keys; what a set of them is, sorted. -/
namespace Vx
open PySem PySem.W PySem.Calls PyProof.Rows L2

mutual
def D.ky : D → NestedKey
  | .int i => .num i
  | .tup l => .tup (D.kyL l)
  | .non => .none
  | .bl _ => .none
  | .str _ => .none
  | .lst _ => .none
  | .frz _ => .none
  | .tpc _ => .none
  | .ins _ _ _ => .none
  | .mrk _ => .none
  | .fn _ => .none
  | .loc _ => .none
def D.kyL : List D → List NestedKey
  | [] => []
  | d :: l => D.ky d :: D.kyL l
end
mutual
/-- ints, and tuples of such -/
def D.nk : D → Bool
  | .int _ => true
  | .tup l => D.nkL l
  | .non => false
  | .bl _ => false
  | .str _ => false
  | .lst _ => false
  | .frz _ => false
  | .tpc _ => false
  | .ins _ _ _ => false
  | .mrk _ => false
  | .fn _ => false
  | .loc _ => false
def D.nkL : List D → Bool
  | [] => true
  | d :: l => D.nk d && D.nkL l
end
mutual
theorem ky_is {h : Heap} : ∀ (d : D) (u : Value) (as : List Addr), D.nk d = true → Reads h u d.py as → NestedIs h d.ky u
  | .int i, u, as, _, r => by cases r with | int _ t => exact .int _ t
  | .tup l, u, as, n, r => by
    cases r with
    | tuple a b c d => exact .tup a b c (kyL_is l _ _ (by simpa [D.nk] using n) d)
  | .non, _, _, n, _ => by simp [D.nk] at n
  | .bl _, _, _, n, _ => by simp [D.nk] at n
  | .str _, _, _, n, _ => by simp [D.nk] at n
  | .lst _, _, _, n, _ => by simp [D.nk] at n
  | .frz _, _, _, n, _ => by simp [D.nk] at n
  | .tpc _, _, _, n, _ => by simp [D.nk] at n
  | .ins _ _ _, _, _, n, _ => by simp [D.nk] at n
  | .mrk _, _, _, n, _ => by simp [D.nk] at n
  | .fn _, _, _, n, _ => by simp [D.nk] at n
  | .loc _, _, _, n, _ => by simp [D.nk] at n
theorem kyL_is {h : Heap} : ∀ (l : List D) (us : List Value) (as : List Addr), D.nkL l = true → ReadsAll h us (D.pyL l) as → NestedAll h (D.kyL l) us
  | [], _, _, _, r => by cases r; exact .nil
  | d :: l, _, _, n, r => by
    simp only [D.nkL, Bool.and_eq_true] at n
    cases r with
    | cons a b => exact .cons (ky_is d _ _ n.1 a) (kyL_is l _ _ n.2 b)
end
mutual
theorem ky_dep : ∀ d : D, D.nk d = true → d.ky.depth = d.dep ∧ Vz.plainK d.ky = true
  | .int i, _ => ⟨rfl, rfl⟩
  | .tup l, n => by
    have := kyL_dep l (by simpa [D.nk] using n)
    simp [D.ky, NestedKey.depth, D.dep, Vz.plainK, this.1, this.2]
  | .non, n => by simp [D.nk] at n
  | .bl _, n => by simp [D.nk] at n
  | .str _, n => by simp [D.nk] at n
  | .lst _, n => by simp [D.nk] at n
  | .frz _, n => by simp [D.nk] at n
  | .tpc _, n => by simp [D.nk] at n
  | .ins _ _ _, n => by simp [D.nk] at n
  | .mrk _, n => by simp [D.nk] at n
  | .fn _, n => by simp [D.nk] at n
  | .loc _, n => by simp [D.nk] at n
theorem kyL_dep : ∀ l : List D, D.nkL l = true → NestedKey.depthAll (D.kyL l) = D.depL l ∧ Vz.plainKs (D.kyL l) = true
  | [], _ => ⟨rfl, rfl⟩
  | d :: l, n => by
    simp only [D.nkL, Bool.and_eq_true] at n
    have a := ky_dep d n.1
    have b := kyL_dep l n.2
    simp [D.kyL, NestedKey.depthAll, D.depL, Vz.plainKs, a.1, a.2, b.1, b.2]
end
mutual
theorem ky_inj : ∀ x y : D, D.nk x = true → D.nk y = true → x.ky = y.ky → x = y
  | .int i, y, _, n, e => by
    cases y <;> first | (simp [D.nk] at n; done) | (simp [D.ky] at e; try rw [e])
  | .tup l, y, m, n, e => by
    cases y with
    | tup k => simp only [D.ky, NestedKey.tup.injEq] at e; rw [kyL_inj l k (by simpa [D.nk] using m) (by simpa [D.nk] using n) e]
    | int i => simp [D.ky] at e
    | _ => simp [D.nk] at n
  | .non, _, n, _, _ => by simp [D.nk] at n
  | .bl _, _, n, _, _ => by simp [D.nk] at n
  | .str _, _, n, _, _ => by simp [D.nk] at n
  | .lst _, _, n, _, _ => by simp [D.nk] at n
  | .frz _, _, n, _, _ => by simp [D.nk] at n
  | .tpc _, _, n, _, _ => by simp [D.nk] at n
  | .ins _ _ _, _, n, _, _ => by simp [D.nk] at n
  | .mrk _, _, n, _, _ => by simp [D.nk] at n
  | .fn _, _, n, _, _ => by simp [D.nk] at n
  | .loc _, _, n, _, _ => by simp [D.nk] at n
theorem kyL_inj : ∀ x y : List D, D.nkL x = true → D.nkL y = true → D.kyL x = D.kyL y → x = y
  | [], y, _, _, e => by cases y <;> first | rfl | simp [D.kyL] at e
  | d :: l, y, m, n, e => by
    cases y with
    | nil => simp [D.kyL] at e
    | cons c k =>
      simp only [D.nkL, Bool.and_eq_true] at m n
      simp only [D.kyL, List.cons.injEq] at e
      rw [ky_inj d c m.1 n.1 e.1, kyL_inj l k m.2 n.2 e.2]
end
mutual
theorem eqv_nk : ∀ x y : D, D.nk x = true → D.nk y = true → D.eqv x y = true → x = y
  | .int i, y, _, n, e => by
    cases y <;> first | (simp [D.nk] at n; done) | (simp [D.eqv] at e; try rw [e])
  | .tup l, y, m, n, e => by
    cases y with
    | tup k => simp only [D.eqv] at e; rw [eqvL_nk l k (by simpa [D.nk] using m) (by simpa [D.nk] using n) e]
    | int i => simp [D.eqv] at e
    | _ => simp [D.nk] at n
  | .non, _, n, _, _ => by simp [D.nk] at n
  | .bl _, _, n, _, _ => by simp [D.nk] at n
  | .str _, _, n, _, _ => by simp [D.nk] at n
  | .lst _, _, n, _, _ => by simp [D.nk] at n
  | .frz _, _, n, _, _ => by simp [D.nk] at n
  | .tpc _, _, n, _, _ => by simp [D.nk] at n
  | .ins _ _ _, _, n, _, _ => by simp [D.nk] at n
  | .mrk _, _, n, _, _ => by simp [D.nk] at n
  | .fn _, _, n, _, _ => by simp [D.nk] at n
  | .loc _, _, n, _, _ => by simp [D.nk] at n
theorem eqvL_nk : ∀ x y : List D, D.nkL x = true → D.nkL y = true → D.eqvL x y = true → x = y
  | [], y, _, _, e => by cases y <;> first | rfl | simp [D.eqvL] at e
  | d :: l, y, m, n, e => by
    cases y with
    | nil => simp [D.eqvL] at e
    | cons c k =>
      simp only [D.nkL, Bool.and_eq_true] at m n
      simp only [D.eqvL, Bool.and_eq_true] at e
      rw [eqv_nk d c m.1 n.1 e.1, eqvL_nk l k m.2 n.2 e.2]
end
mutual
theorem eqv_self : ∀ x : D, D.nk x = true → D.eqv x x = true
  | .int i, _ => by simp [D.eqv]
  | .tup l, m => by simp only [D.eqv]; exact eqvL_self l (by simpa [D.nk] using m)
  | .non, n => by simp [D.nk] at n
  | .bl _, n => by simp [D.nk] at n
  | .str _, n => by simp [D.nk] at n
  | .lst _, n => by simp [D.nk] at n
  | .frz _, n => by simp [D.nk] at n
  | .tpc _, n => by simp [D.nk] at n
  | .ins _ _ _, n => by simp [D.nk] at n
  | .mrk _, n => by simp [D.nk] at n
  | .fn _, n => by simp [D.nk] at n
  | .loc _, n => by simp [D.nk] at n
theorem eqvL_self : ∀ x : List D, D.nkL x = true → D.eqvL x x = true
  | [], _ => rfl
  | d :: l, m => by
    simp only [D.nkL, Bool.and_eq_true] at m
    simp [D.eqvL, eqv_self d m.1, eqvL_self l m.2]
end
mutual
/-- neither less: alike -/
theorem lt_tri : ∀ x y : D, D.nk x = true → D.nk y = true → D.alk x y = true → D.lt x y = false → D.lt y x = false → x = y
  | .int i, y, _, n, a, e, f => by
    cases y with
    | int j => simp [D.lt] at e f; rw [show i = j by omega]
    | _ => simp [D.alk] at a
  | .tup l, y, m, n, a, e, f => by
    cases y with
    | tup k => simp only [D.lt, D.alk] at a e f; rw [ltL_tri l k (by simpa [D.nk] using m) (by simpa [D.nk] using n) a e f]
    | _ => simp [D.alk] at a
  | .non, _, n, _, _, _, _ => by simp [D.nk] at n
  | .bl _, _, n, _, _, _, _ => by simp [D.nk] at n
  | .str _, _, n, _, _, _, _ => by simp [D.nk] at n
  | .lst _, _, n, _, _, _, _ => by simp [D.nk] at n
  | .frz _, _, n, _, _, _, _ => by simp [D.nk] at n
  | .tpc _, _, n, _, _, _, _ => by simp [D.nk] at n
  | .ins _ _ _, _, n, _, _, _, _ => by simp [D.nk] at n
  | .mrk _, _, n, _, _, _, _ => by simp [D.nk] at n
  | .fn _, _, n, _, _, _, _ => by simp [D.nk] at n
  | .loc _, _, n, _, _, _, _ => by simp [D.nk] at n
theorem ltL_tri : ∀ x y : List D, D.nkL x = true → D.nkL y = true → D.alkL x y = true → D.ltL x y = false → D.ltL y x = false → x = y
  | [], y, _, _, _, e, _ => by cases y <;> first | rfl | simp [D.ltL] at e
  | d :: l, y, m, n, a, e, f => by
    cases y with
    | nil => simp [D.ltL] at f
    | cons c k =>
      simp only [D.nkL, Bool.and_eq_true] at m n
      simp only [D.alkL, Bool.and_eq_true] at a
      simp only [D.ltL] at e f
      by_cases q : D.eqv d c = true
      · have dc := eqv_nk d c m.1 n.1 q
        subst dc
        rw [if_pos q] at e f
        rw [ltL_tri l k m.2 n.2 a.2 e f]
      · have q2 : ¬ D.eqv c d = true := fun z => q (by rw [eqv_nk c d n.1 m.1 z]; exact eqv_self d m.1)
        rw [if_neg q] at e
        rw [if_neg q2] at f
        have dc := lt_tri d c m.1 n.1 a.1 e f
        exact absurd (by rw [← dc]; exact eqv_self d m.1) q
end
theorem nkL_mem {l : List D} (h : D.nkL l = true) {d : D} (m : d ∈ l) : D.nk d = true := by
  induction l with
  | nil => cases m
  | cons c l ih =>
    simp only [D.nkL, Bool.and_eq_true] at h
    rcases List.mem_cons.mp m with rfl | m
    · exact h.1
    · exact ih h.2 m
/-- each once -/
def dedup : List D → List D
  | [] => []
  | x :: l => x :: (dedup l).filter fun y => !D.eqv y x
theorem mem_dedup : ∀ {l : List D}, D.nkL l = true → ∀ {x : D}, x ∈ dedup l ↔ x ∈ l
  | [], _, _ => Iff.rfl
  | c :: l, h, x => by
    simp only [D.nkL, Bool.and_eq_true] at h
    rw [dedup, List.mem_cons, List.mem_cons, List.mem_filter, mem_dedup h.2]
    constructor
    · rintro (e | ⟨m, _⟩)
      · exact .inl e
      · exact .inr m
    · rintro (e | m)
      · exact .inl e
      · by_cases q : D.eqv x c = true
        · exact .inl (eqv_nk x c (nkL_mem h.2 m) h.1 q)
        · exact .inr ⟨m, by simpa using q⟩
theorem nodup_dedup : ∀ {l : List D}, D.nkL l = true → (dedup l).Nodup
  | [], _ => List.nodup_nil
  | c :: l, h => by
    simp only [D.nkL, Bool.and_eq_true] at h
    rw [dedup, List.nodup_cons]
    refine ⟨fun m => ?_, (nodup_dedup h.2).filter _⟩
    have := (List.mem_filter.mp m).2
    rw [eqv_self c h.1] at this
    cases this
theorem perm_dedup {l m : List D} (h : D.nkL l = true) (h1 : ∀ x ∈ m, x ∈ l) (h2 : ∀ x ∈ l, x ∈ m) (h3 : m.Nodup) : m.Perm (dedup l) := by
  have dec : DecidableEq D := fun a b => Classical.propDecidable _
  refine (List.perm_ext_iff_of_nodup h3 (nodup_dedup h)).mpr fun x => ?_
  rw [mem_dedup h]
  exact ⟨h1 x, h2 x⟩
end Vx


set_option Elab.async false
set_option linter.all false
set_option maxRecDepth 100000
/-! Vg: set(..) and sorted(set) as rules on values. -/
namespace Vx
open PySem PySem.W PySem.Calls PyProof.Rows L2

theorem isort_data {ds : List D} (h : srt ds = true) : isort D.le ds = ds.mergeSort (dataLe false D.py) := by
  obtain ⟨_, hle, _, _⟩ := srt_srtb h
  have tl : TotalLe (dataLe false D.py) := sortLe_total (listOrd itemOrd) false fun p : D => keyToks p.py
  rw [← isort_merge tl ds]
  exact isort_congr fun x hx y hy => hle x hx y hy
theorem srt_perm {l m : List D} (p : m.Perm l) (h : srt l = true) : srt m = true := by
  unfold srt at h ⊢
  simp only [Bool.and_eq_true, List.all_eq_true, decide_eq_true_eq] at h ⊢
  obtain ⟨⟨h1, h2⟩, h3⟩ := h
  have sub : ∀ x ∈ m, x ∈ l := fun x hx => p.mem_iff.mp hx
  refine ⟨⟨?_, ?_⟩, fun x hx => ⟨(h3 x (sub x hx)).1, fun y hy => (h3 x (sub x hx)).2 y (sub y hy)⟩⟩
  · have : ∀ k : List D, (∀ x ∈ k, D.dat x = true) → D.datL k = true := fun k => by
      induction k with
      | nil => intro _; rfl
      | cons d k ih => intro q; rw [D.datL, q d List.mem_cons_self, ih fun x hx => q x (List.mem_cons_of_mem _ hx)]; rfl
    exact this m fun x hx => datL_mem h1 x (sub x hx)
  · have : ∀ k : List D, (∀ x ∈ k, D.dep x ≤ 60) → D.depL k ≤ 60 := fun k => by
      induction k with
      | nil => intro _; exact Nat.zero_le _
      | cons d k ih =>
        intro q
        rw [D.depL]
        exact Nat.max_le.mpr ⟨q d List.mem_cons_self, ih fun x hx => q x (List.mem_cons_of_mem _ hx)⟩
    exact this m fun x hx => Nat.le_trans (depL_mem h2 x (sub x hx)) (Nat.le_refl _)
/-- one order of one lot -/
theorem isort_perm {l m : List D} (p : m.Perm l) (h : srt l = true) (n : D.nkL l = true) : isort D.le m = isort D.le l := by
  have hm := srt_perm p h
  have tl : TotalLe (dataLe false D.py) := sortLe_total (listOrd itemOrd) false fun p : D => keyToks p.py
  obtain ⟨_, hle, _, _⟩ := srt_srtb h
  have alk : ∀ x ∈ l, ∀ y ∈ l, D.alk x y = true := fun x hx y hy => by
    unfold srt at h
    simp only [Bool.and_eq_true, List.all_eq_true] at h
    exact (h.2 x hx).2 y hy
  rw [isort_data h, isort_data hm]
  refine List.Perm.eq_of_pairwise (le := fun a b => dataLe false D.py a b = true) (fun a b ha hb h1 h2 => ?_) (sort_pairwise tl m) (sort_pairwise tl l) ((List.mergeSort_perm m _).trans (p.trans (List.mergeSort_perm l _).symm))
  have la : a ∈ l := p.mem_iff.mp ((List.mergeSort_perm m _).mem_iff.mp ha)
  have lb : b ∈ l := (List.mergeSort_perm l _).mem_iff.mp hb
  have e1 : D.le a b = true := (hle a la b lb).trans h1
  have e2 : D.le b a = true := (hle b lb a la).trans h2
  unfold D.le at e1 e2
  simp only [Bool.not_eq_true'] at e1 e2
  exact lt_tri a b (nkL_mem n la) (nkL_mem n lb) (alk a la b lb) e2 e1
end Vx


set_option Elab.async false
set_option linter.all false
set_option maxRecDepth 100000
/-! Ve: the calls set(xs), sorted(set), len(set) as rules on values. -/
namespace Vx
open PySem PySem.W PySem.Calls PyProof.Rows L2

def fK (e : D × Addr) : Addr × NestedKey := (e.2, e.1.ky)
def S0 (P : Program) (w : World) (h : Heap) (a : Addr) (L : List (Addr × NestedKey)) : Prop := ∃ (es : Array (Int × Value)) (ep : Nat) (t : SetTable), (∃ u, h.get? a = some u ∧ u.ExactSet ∧ u.data = .set es ep t) ∧ es.toList = Vz.rws (Vz.nest P w) L ∧ TabOk t (L.map fun e => (Vz.nest P w).hs e.2) ∧
  (L.map fun e => e.2).Nodup ∧ t.plain = true ∧ (w.params.followText "set-order" = true ∨ t.led = true) ∧ 5 * L.length < 3 * t.mask ∧ L.length < 64
def SetO (P : Program) (w : World) (a : Addr) (L : List (Addr × NestedKey)) : HO := .ext fun h => S0 P w h a L
theorem s0_of {P : Program} {w : World} {h : Heap} {a : Addr} {L : List (Addr × NestedKey)} {es : Array (Int × Value)} {ep : Nat} {t : SetTable} (R : Vz.At (Vz.nest P w) h a L es ep t) : S0 P w h a L :=
  ⟨es, ep, t, R.obj, R.row, R.tab, R.dif, R.pln, R.led, R.gap, R.few⟩
theorem setO_new {P : Program} {w : World} {H : Hp} {h : Heap} {a : Addr} {L : List (Addr × NestedKey)} (R : S0 P w h a L) : ObjOk P w H h a (SetO P w a L) := by
  have ⟨es, ep, t, ⟨u, hu, r⟩, q⟩ := R
  refine ⟨R, ⟨u, hu⟩, fun h1 h2 p k => ?_⟩
  have ⟨es', ep', t', ⟨u', hu', r'⟩, q'⟩ : S0 P w h1 a L := p
  exact ⟨es', ep', t', ⟨u', k u' hu', r'⟩, q'⟩
theorem lift_of {α β : Type} {f : α → β} {ps : List α} : ∀ {L : List β}, (∀ e ∈ L, e ∈ ps.map f) → ∃ M : List α, M.map f = L ∧ ∀ p ∈ M, p ∈ ps
  | [], _ => ⟨[], rfl, fun p h => (by cases h)⟩
  | e :: L, h => by
    obtain ⟨p, hp, he⟩ := List.mem_map.mp (h e List.mem_cons_self)
    obtain ⟨M, h1, h2⟩ := lift_of fun x hx => h x (List.mem_cons_of_mem _ hx)
    refine ⟨p :: M, by rw [List.map_cons, he, h1], fun q hq => ?_⟩
    rcases List.mem_cons.mp hq with rfl | hq
    · exact hp
    · exact h2 q hq
def rSetN (K : PySem.W.Frag) (P : Program) (w : World) : List V → Hp → VK → Prop := fun xs H Q => ∃ (l : Addr) (ps : List (D × Addr)), xs = [.ref l] ∧ (SqL K H l (ps.map fun p => V.ref p.2) ∨ SqT K H l (ps.map fun p => V.ref p.2)) ∧
  (∀ p ∈ ps, Dp K H (.ref p.2) p.1.py ∧ D.nk p.1 = true ∧ p.1.dep ≤ 8) ∧ ps.length < 64 ∧
  ∀ a (L : List (D × Addr)), H a = none → (∀ e ∈ L, e ∈ ps) → (∀ p ∈ ps, p.1 ∈ L.map (·.1)) → (L.map (·.1)).Nodup → L.length < 64 → Q (.ref a) (upd H a (SetO P w a (L.map fK)))
theorem refs_val : ∀ {ps : List (D × Addr)} {us : List Value}, Vals (ps.map fun p => V.ref p.2) us → us = (ps.map fK).map fun e => Value.ref e.1
  | [], _, .nil => rfl
  | p :: ps, _, .cons r t => by
    cases r
    rw [refs_val t]
    rfl
section
variable {X : Cx} {pins : List (Addr × Obj)} {σ : L2.St} {H : Hp} {s : Shared}
theorem nest_at (I : Inv X pins σ H s) {p : D × Addr} (h : Dp X.K H (.ref p.2) p.1.py ∧ D.nk p.1 = true ∧ p.1.dep ≤ 8) : (Vz.nest X.prog X.w).is s.heap p.1.ky p.2 := by
  obtain ⟨as, r⟩ := Dp.reads I p.1.py (.ref p.2) (.ref p.2) h.1 rfl
  have z := ky_dep p.1 h.2.1
  exact ⟨ky_is p.1 _ _ h.2.1 r, by rw [z.1]; exact h.2.2, z.2⟩
theorem cr_setN (hc : X.calm = true) (hu : X.A.units + 64 < cLine) : CallR X (.type "set") (rSetN X.K X.prog X.w) := by
  intro pins s σ H xs us Q I r h
  obtain ⟨l, ps, rfl, hs, hk, few, q⟩ := h
  rw [Vals.ref1 r]
  have hn : H s.heap.objs.size = none := I.hok.fresh (Nat.le_refl _)
  have isK : ∀ e ∈ ps.map fK, (Vz.nest X.prog X.w).is s.heap e.2 e.1 := fun e he => by
    obtain ⟨p, hp, rfl⟩ := List.mem_map.mp he
    exact nest_at I (hk p hp)
  have few' : (ps.map fK).length < 64 := by rw [List.length_map]; exact few
  have fin : ∀ h' tk, Vz.Made (Vz.nest X.prog X.w) s (ps.map fK) h' → EP X pins σ Q (.ref s.heap.objs.size) { s with heap := h', toks := tk } := fun h' tk ⟨⟨Lk, es, ep, t, R, g⟩, k⟩ => by
    have sub : ∀ e ∈ Lk, e ∈ ps.map fK := fun e he => List.mem_of_mem_take (g.of e he)
    obtain ⟨L, rfl, hL⟩ := lift_of sub
    refine ⟨.ref s.heap.objs.size, upd H s.heap.objs.size (SetO X.prog X.w s.heap.objs.size (L.map fK)), I.laid (t' := tk) k (Nat.le_refl _) (setO_new (s0_of R)), rfl, q _ L hn hL (fun p hp => ?_) ?_ (by have := R.few; rwa [List.length_map] at this)⟩
    · have m := g.all (fK p) (by rw [List.take_length]; exact List.mem_map.mpr ⟨p, hp, rfl⟩)
      obtain ⟨e, he, ee⟩ := List.mem_map.mp m
      obtain ⟨p2, hp2, rfl⟩ := List.mem_map.mp he
      have : p2.1 = p.1 := ky_inj _ _ (hk p2 (hL p2 hp2)).2.1 (hk p hp).2.1 ee
      exact List.mem_map.mpr ⟨p2, hp2, this⟩
    · have d := R.dif
      rw [List.map_map] at d
      have d2 : ((L.map (·.1)).map D.ky).Nodup := by rw [List.map_map]; exact d
      exact List.Pairwise.of_map D.ky (fun _ _ ne e => ne (congrArg D.ky e)) d2
  have hh := I.ok.hd hc
  rcases hs with hs | hs
  · obtain ⟨its, rv, pl, hz⟩ := I.list hs
    exact Vz.call_set hh (by omega) (fun B F' R hB uB q' => Vz.init_list (ps.map fK) hB pl.isList (by simpa using refs_val rv) isK few' uB q') fin
  · obtain ⟨its, rv, pl, hz⟩ := I.tuple hs
    have it : s.heap.IsTuple l its.toArray := by
      obtain ⟨o, ho, hcl, n, hd⟩ := pl
      exact ⟨o, ho, hcl, n, hd⟩
    exact Vz.call_set hh (by omega) (fun B F' R hB uB q' => Vz.init_tuple (ps.map fK) hB it (by simpa using refs_val rv) isK few' uB q') fin
end
end Vx


set_option Elab.async false
set_option linter.all false
set_option maxRecDepth 100000
/-! Va: sorted(set) as a rule on values. -/
namespace Vx
open PySem PySem.W PySem.Calls PyProof.Rows L2

def rSortN (K : PySem.W.Frag) (P : Program) (w : World) : List V → Hp → VK → Prop := fun vs H Q => ∃ (a : Addr) (L : List (D × Addr)), vs = [.ref a] ∧ H a = some (SetO P w a (L.map fK)) ∧
  (∀ p ∈ L, Dp K H (.ref p.2) p.1.py ∧ D.nk p.1 = true ∧ p.1.dep ≤ 8) ∧ srt (L.map (·.1)) = true ∧
  ∀ (M : List (D × Addr)) p, M.Perm L → H p = none → Q (.ref p) (upd H p (.lst ((isort (fun x y : D × Addr => D.le x.1 y.1) M).map fun e => V.ref e.2)))
theorem eachR : ∀ ps : List (D × Addr), EachIs (fun u (p : D × Addr) => u = Value.ref p.2) (ps.map fun p => Value.ref p.2) ps
  | [] => .nil
  | p :: ps => .cons rfl (eachR ps)
theorem eachR_vals : ∀ {ps : List (D × Addr)} {us : List Value}, EachIs (fun u (p : D × Addr) => u = Value.ref p.2) us ps → Vals (ps.map fun p => V.ref p.2) us
  | [], _, .nil => .nil
  | p :: ps, _, .cons h t => by subst h; exact .cons rfl (eachR_vals t)
theorem cr_sortN {X : Cx} (hc : X.calm = true) (hu : X.A.units + 80 < cLine) : CallR X (.builtin "sorted") (rSortN X.K X.prog X.w) := by
  intro pins s σ H xs us Q I r h
  obtain ⟨a, L, rfl, ha, hk, hsr, q⟩ := h
  have st0 : S0 X.prog X.w s.heap a (L.map fK) := (I.hok a _ ha).1
  obtain ⟨es, ep, t, ⟨u, hg, hex, hd⟩, row, tab, dif, pln, led, gap, few⟩ := st0
  rw [List.length_map] at gap few
  rw [Vals.ref1 r]
  have hh := I.ok.hd hc
  have hes : es.toList.map (·.2) = L.map fun p => Value.ref p.2 := by
    rw [row]
    unfold Vz.rws fK
    rw [List.map_map, List.map_map]
    rfl
  have hz : es.size = L.length := by rw [Vz.size_of row, List.length_map]
  have hfit : t.fits es.size = true := by
    refine Vz.fits_of row ?_ tab.dm ?_
    · have := tab.sz
      rwa [List.length_map] at this
    · rw [List.length_map]; omega
  refine call_function_entry_kw kind_sorted plain_sorted entry_sorted (args_sorted1 _) ?_
  unfold Builtin.«sorted»
  refine wpAny_bind (m := checkCount "sorted" 1 1 _) (wpAny_pure ?_)
  refine wpAny_bind (L2.collect_set (A := X.A.in1) (by simpa using hh) ⟨u, hg, hex.1, hd⟩ hfit (by unfold scanBound; omega) tab.ris led fun s1 vs k1 z1 g1 o1 pm => ?_)
  rw [hes] at pm
  -- the values, as elements of L in some order
  have all : ∀ v ∈ vs, v ∈ L.map fun p => Value.ref p.2 := fun v hv => pm.mem_iff.mp hv
  obtain ⟨M, rfl, hM⟩ := lift_of all
  have one : ∀ p ∈ L, ∀ p' ∈ L, p.2 = p'.2 → p = p' := fun p hp p' hp' e => by
    have i1 := nest_at I (hk p hp)
    have i2 := nest_at I (hk p' hp')
    rw [e] at i1
    have := (Vz.nest X.prog X.w).inj i1 i2
    exact Prod.ext (ky_inj _ _ (hk p hp).2.1 (hk p' hp').2.1 this) e
  have nL : L.Nodup := by
    rw [List.map_map] at dif
    exact List.Pairwise.of_map (fun p : D × Addr => p.1.ky) (fun _ _ ne e => ne (by rw [e])) dif
  have pML : M.Perm L := by
    have nref : (L.map fun p => Value.ref p.2).Nodup := by
      refine List.pairwise_map.mpr (List.Pairwise.imp_of_mem (fun {p p'} hp hp' ne e => ?_) nL)
      injection e with e
      exact ne (one p hp p' hp' e)
    have nM : M.Nodup := List.Pairwise.of_map (fun p : D × Addr => Value.ref p.2) (fun _ _ ne e => ne (by rw [e])) (pm.nodup_iff.mpr nref)
    have dec : DecidableEq (D × Addr) := fun a b => Classical.propDecidable _
    refine (List.perm_ext_iff_of_nodup nM nL).mpr fun p => ⟨hM p, fun hp => ?_⟩
    obtain ⟨p', hp', e⟩ := List.mem_map.mp (pm.mem_iff.mpr (List.mem_map.mpr ⟨p, hp, rfl⟩))
    injection e with e
    rw [← one p' (hM p' hp') p hp e]
    exact hp'
  have hlen : (M.map fun p => Value.ref p.2).length < 64 := by rw [List.length_map, pML.length_eq]; exact few
  have hsz : (M.map fun p => Value.ref p.2).length ≤ sizeLine := by rw [sizeLine_eq]; omega
  refine wpAny_bind (wpAny_newList ?_ hsz)
  generalize hvs : (M.map fun p => Value.ref p.2) = vs at hlen hsz ⊢
  have hoL : (s1.heap.push (seqObj "list" vs.toArray 0)).get? s1.heap.objs.size = some (seqObj "list" vs.toArray 0) := Heap.get?_push_size _ rfl
  have kp : ∀ b o, s.heap.get? b = some o → (sortingHeap (s1.heap.push (seqObj "list" vs.toArray 0)) s1.heap.objs.size vs).get? b = some o := fun b o e => by
    have e1 := k1 b o e
    refine sortingHeap_old (fun z => ?_) (Heap.get?_push_of_some _ e1)
    have lt := Heap.lt_size e1
    rw [z] at lt
    exact absurd lt (Nat.lt_irrefl _)
  -- the sort
  have hsrM : srt (M.map (·.1)) = true := srt_perm (pML.map (·.1)) hsr
  obtain ⟨sb, hle, hdat, hdep⟩ := srt_srtb hsrM
  have hpy : M.map (fun p => p.1.py) = (M.map (·.1)).map D.py := by rw [List.map_map]; rfl
  have er : EachIs (fun u (p : D × Addr) => ∃ as, Reads (sortingHeap (s1.heap.push (seqObj "list" vs.toArray 0)) s1.heap.objs.size vs) u p.1.py as) vs M := by
    rw [← hvs]
    refine (each_mem (eachR M)).mono fun u p ⟨e, hp⟩ => ?_
    subst e
    obtain ⟨as, rd⟩ := Dp.reads I p.1.py (.ref p.2) (.ref p.2) (hk p (hM p hp)).1 rfl
    rw [hvs]
    exact ⟨as, PyProof.Rows.Reads.keeps (fun _ _ z => kp _ _ z) rd⟩
  have hal : AllAlike (M.map (fun p => p.1.py)) := by rw [hpy]; exact sb.al
  have S : SortsAt X.prog X.w X.A.in1.in1 { s1 with heap := sortingHeap (s1.heap.push (seqObj "list" vs.toArray 0)) s1.heap.objs.size vs } (dataKind (sortingHeap (s1.heap.push (seqObj "list" vs.toArray 0)) s1.heap.objs.size vs) (M.map (fun p => p.1.py))) vs := by
    refine SortsAt_any (s := { s1 with heap := sortingHeap (s1.heap.push (seqObj "list" vs.toArray 0)) s1.heap.objs.size vs }) (each_map (R := fun v d => ∃ as, Reads (sortingHeap (s1.heap.push (seqObj "list" vs.toArray 0)) s1.heap.objs.size vs) v d as) (fun p : D × Addr => p.1.py) er) (by rw [hpy]; exact sb) (fun d hd' => ?_)
    obtain ⟨p, hp, rfl⟩ := List.mem_map.mp hd'
    have h1 : p.1 ∈ M.map (·.1) := List.mem_map.mpr ⟨p, hp, rfl⟩
    rw [dep_py p.1 (datL_mem hdat _ h1)]
    have h2 := depL_mem hdep _ h1
    show X.A.units + 1 + 1 + _ < cLine
    omega
  have eo : EachIs (fun u (p : D × Addr) => u = Value.ref p.2) (sortVals (dataKind (sortingHeap (s1.heap.push (seqObj "list" vs.toArray 0)) s1.heap.objs.size vs) (M.map (fun p => p.1.py))) false vs vs) (isort (fun x y : D × Addr => D.le x.1 y.1) M) := by
    have e : EachIs (fun u (p : D × Addr) => u = Value.ref p.2) vs M := by rw [← hvs]; exact eachR M
    have tt := sortVals_data (h' := sortingHeap (s1.heap.push (seqObj "list" vs.toArray 0)) s1.heap.objs.size vs) (R := fun u (p : D × Addr) => u = Value.ref p.2) (enc := fun p : D × Addr => p.1.py) false e er hal
    have e3 : isort (fun x y : D × Addr => D.le x.1 y.1) M = M.mergeSort (dataLe false fun p : D × Addr => p.1.py) := by
      have tl : TotalLe (dataLe false fun p : D × Addr => p.1.py) := sortLe_total (listOrd itemOrd) false fun p : D × Addr => keyToks p.1.py
      rw [← isort_merge tl M]
      refine isort_congr fun x hx y hy => ?_
      rw [hle x.1 (List.mem_map.mpr ⟨x, hx, rfl⟩) y.1 (List.mem_map.mpr ⟨y, hy, rfl⟩)]
      rfl
    rw [e3]
    exact tt
  generalize (dataKind (sortingHeap (s1.heap.push (seqObj "list" vs.toArray 0)) s1.heap.objs.size vs) (M.map (fun p => p.1.py))) = κ at S eo
  refine wpAny_bind (wpAny_holding (wpAny_call_entry_kw slot_list_sort ⟨_, hoL, rfl⟩ entry_list_sort ?body (args_list_sort _)))
  case body =>
    show wpAny (model X.prog X.w) X.A.in1.in1 (Builtin.«list.sort» ⟨[.ref s1.heap.objs.size], []⟩) _ _ _
    refine list_sort_vals (s := { s1 with heap := s1.heap.push (seqObj "list" vs.toArray 0) }) hoL S hsz ⟨_, rfl, wpAny_pure ⟨_, rfl, ?_⟩⟩
    obtain ⟨c, hc2⟩ := sortedHeap_at (vs := vs) (out := (sortVals κ false vs vs).toArray) hoL
    have hp : s.heap.objs.size ≤ s1.heap.objs.size := z1
    have hn : H s1.heap.objs.size = none := I.hok.fresh hp
    have kp2 : ∀ b o, s.heap.get? b = some o → (sortedHeap (s1.heap.push (seqObj "list" vs.toArray 0)) s1.heap.objs.size vs (sortVals κ false vs vs).toArray).get? b = some o := fun b o e => by
      have e1 := k1 b o e
      have lt := Heap.lt_size e1
      rw [sortedHeap_old (Nat.ne_of_lt lt) (by rw [size_push']; exact Nat.lt_succ_of_lt lt)]
      exact Heap.get?_push_of_some _ e1
    have ml : ((isort (fun x y : D × Addr => D.le x.1 y.1) M).map fun e => V.ref e.2).length ≤ sizeLine := by
      rw [List.length_map, isort_length, pML.length_eq, sizeLine_eq]; omega
    have J : Inv X pins σ (upd H s1.heap.objs.size (.lst ((isort (fun x y : D × Addr => D.le x.1 y.1) M).map fun e => V.ref e.2))) { s with heap := sortedHeap (s1.heap.push (seqObj "list" vs.toArray 0)) s1.heap.objs.size vs (sortVals κ false vs vs).toArray, gens := s1.gens, drawn := s1.drawn, toks := s1.toks } :=
      I.call (ch := []) (Un.laid kp2 hp hn) (I.hok.laid kp2 hp ⟨ml, _, c, eachR_vals eo, hc2⟩) (by rw [g1]; exact I.bare) (fun _ z => nomatch z)
    have e : ({ s1 with heap := sortedHeap (s1.heap.push (seqObj "list" vs.toArray 0)) s1.heap.objs.size vs (sortVals κ false vs vs).toArray } : Shared) = { s with heap := sortedHeap (s1.heap.push (seqObj "list" vs.toArray 0)) s1.heap.objs.size vs (sortVals κ false vs vs).toArray, gens := s1.gens, drawn := s1.drawn, toks := s1.toks } := by
      cases s1
      cases s
      cases o1
      rfl
    show EP X pins σ Q (.ref s1.heap.objs.size) _
    rw [e]
    exact ⟨.ref s1.heap.objs.size, _, J, rfl, q M _ pML hn⟩
end Vx


set_option Elab.async false
set_option linter.all false
set_option maxRecDepth 100000
/-! Vi: sorted(set(e)) over trees. -/
namespace Vx
open PySem PySem.Spec L2

def isTup : Vx.D → Bool
  | .tup _ => true
  | _ => false
def setOk (l : List Vx.D) : Bool := D.nkL l && l.all isTup && decide (l.length < 64) && decide (D.depL l ≤ 8) && srt (dedup l)
/-- sorted(set(xs)) -/
def cSet : Amb → Vx.D → Option R := fun st x => (seqD st x).bind fun l => if setOk l = true then some (.prv (isort D.le (dedup l))) else none
theorem refs_of {K : PySem.W.Frag} {w : Wd} : ∀ {l : List Vx.D} {vs : List V}, RepL K w vs l → l.all isTup = true → ∃ ps : List (Vx.D × Addr), ps.map (·.1) = l ∧ vs = ps.map (fun p => V.ref p.2) ∧ ∀ p ∈ ps, Rep K w (.ref p.2) p.1
  | [], _, .nil, _ => ⟨[], rfl, rfl, fun p h => (by cases h)⟩
  | d :: l, _, .cons r rs, h => by
    rw [List.all_cons, Bool.and_eq_true] at h
    obtain ⟨ps, e1, e2, e3⟩ := refs_of rs h.2
    cases d with
    | tup ds =>
      cases r with
      | @tup a vs _ h1 h2 =>
        refine ⟨(.tup ds, a) :: ps, by rw [List.map_cons, e1], by rw [List.map_cons, e2], fun p hp => ?_⟩
        rcases List.mem_cons.mp hp with rfl | hp
        · exact .tup h1 h2
        · exact e3 p hp
    | _ => exact absurd h.1 (by simp [isTup])
theorem repL_refs {K : PySem.W.Frag} {w : Wd} : ∀ {ps : List (Vx.D × Addr)}, (∀ p ∈ ps, Rep K w (.ref p.2) p.1) → RepL K w (ps.map fun p => V.ref p.2) (ps.map (·.1))
  | [], _ => .nil
  | p :: ps, h => .cons (h p List.mem_cons_self) (repL_refs fun q hq => h q (List.mem_cons_of_mem _ hq))
mutual
theorem nk_dat : ∀ d : Vx.D, D.nk d = true → D.dat d = true
  | .int _, _ => rfl
  | .tup l, n => by simp only [D.dat]; exact nkL_dat l (by simpa [D.nk] using n)
  | .non, n => by simp [D.nk] at n
  | .bl _, n => by simp [D.nk] at n
  | .str _, n => by simp [D.nk] at n
  | .lst _, n => by simp [D.nk] at n
  | .frz _, n => by simp [D.nk] at n
  | .tpc _, n => by simp [D.nk] at n
  | .ins _ _ _, n => by simp [D.nk] at n
  | .mrk _, n => by simp [D.nk] at n
  | .fn _, n => by simp [D.nk] at n
  | .loc _, n => by simp [D.nk] at n
theorem nkL_dat : ∀ l : List Vx.D, D.nkL l = true → D.datL l = true
  | [], _ => rfl
  | d :: l, n => by
    simp only [D.nkL, Bool.and_eq_true] at n
    simp [D.datL, nk_dat d n.1, nkL_dat l n.2]
end
theorem ins_perm {α : Type} {le : α → α → Bool} {x : α} : ∀ l : List α, (ins le x l).Perm (x :: l)
  | [] => List.Perm.refl _
  | y :: ys => by
    unfold ins
    split
    · exact List.Perm.refl _
    · exact ((ins_perm ys).cons y).trans (List.Perm.swap x y ys)
theorem isort_perm_self {α : Type} {le : α → α → Bool} : ∀ l : List α, (isort le l).Perm l
  | [] => List.Perm.refl _
  | x :: xs => by
    unfold isort
    exact (ins_perm _).trans ((isort_perm_self xs).cons x)
theorem setOk_iff {l : List Vx.D} (h : setOk l = true) : D.nkL l = true ∧ l.all isTup = true ∧ l.length < 64 ∧ D.depL l ≤ 8 ∧ srt (dedup l) = true := by
  unfold setOk at h
  simp only [Bool.and_eq_true, decide_eq_true_eq] at h
  exact ⟨h.1.1.1.1, h.1.1.1.2, h.1.1.2, h.1.2, h.2⟩
theorem nkL_sub {l m : List Vx.D} (h : D.nkL l = true) (s : ∀ x ∈ m, x ∈ l) : D.nkL m = true := by
  induction m with
  | nil => rfl
  | cons d m ih =>
    simp only [D.nkL, Bool.and_eq_true]
    exact ⟨nkL_mem h (s d List.mem_cons_self), ih fun x hx => s x (List.mem_cons_of_mem _ hx)⟩
section
variable {X : Cx} {a : Expr} {f : EvF} {p p2 pos pos2 : Pos}
theorem con_set : Con1 X.K (fun x H Q => rSetN X.K X.prog X.w [x] H fun y H2 => rSortN X.K X.prog X.w [y] H2 Q) cSet := by
  intro w sl st σ v x res Q ok rx e k
  unfold cSet at e
  cases hs : seqD st x.d with
  | none => rw [hs] at e; cases e
  | some l =>
    rw [hs] at e
    simp only [Option.bind_some] at e
    split at e
    case isFalse => cases e
    rename_i hok
    cases e
    obtain ⟨h1, h2, h3, h4, h5⟩ := setOk_iff hok
    obtain ⟨q, vs, rfl, rl, hsq, _⟩ := rx.seq ok hs
    obtain ⟨ps, e1, e2, e3⟩ := refs_of rl h2
    subst e2
    have mem : ∀ p ∈ ps, p.1 ∈ l := fun p hp => by rw [← e1]; exact List.mem_map.mpr ⟨p, hp, rfl⟩
    have nk : ∀ p ∈ ps, D.nk p.1 = true := fun p hp => nkL_mem h1 (mem p hp)
    have dp : ∀ {w' : Wd}, (∀ p ∈ ps, Rep X.K w' (.ref p.2) p.1) → ∀ p ∈ ps, Dp X.K w'.H (.ref p.2) p.1.py ∧ D.nk p.1 = true ∧ p.1.dep ≤ 8 := fun r p hp => ⟨(r p hp).dp (nk_dat _ (nk p hp)), nk p hp, depL_mem h4 _ (mem p hp)⟩
    refine ⟨q, ps, rfl, hsq, dp e3, by rw [← e1, List.length_map] at h3; exact h3, fun b L hb hL1 hL2 nd few => ?_⟩
    have pd : (L.map (·.1)).Perm (dedup l) := by
      refine perm_dedup h1 (fun x hx => ?_) (fun x hx => ?_) nd
      · obtain ⟨e, he, rfl⟩ := List.mem_map.mp hx
        exact mem e (hL1 e he)
      · rw [← e1] at hx
        obtain ⟨p, hp, rfl⟩ := List.mem_map.mp hx
        exact hL2 p hp
    have ok1 := ok.new (o := SetO X.prog X.w b (L.map fK)) hb
    have x1 : Ext w (FootW w sl σ) ⟨w.al, w.S, upd w.H b (SetO X.prog X.w b (L.map fK))⟩ (FootW ⟨w.al, w.S, upd w.H b (SetO X.prog X.w b (L.map fK))⟩ sl σ) := ext_new hb
    have e31 : ∀ p ∈ ps, Rep X.K ⟨w.al, w.S, upd w.H b (SetO X.prog X.w b (L.map fK))⟩ (.ref p.2) p.1 := fun p hp => rep_new hb (e3 p hp)
    have ndd : D.nkL (dedup l) = true := nkL_sub h1 fun x hx => (mem_dedup h1).mp hx
    refine ⟨b, L, rfl, upd_same, fun p hp => dp e31 p (hL1 p hp), srt_perm pd h5, fun M c pM hc => ?_⟩
    have ok2 := ok1.new (o := .lst ((isort (fun x y : Vx.D × Addr => D.le x.1 y.1) M).map fun e => V.ref e.2)) hc
    have x2 := x1.trans (ext_new (sl := sl) (σ := σ) (o := .lst ((isort (fun x y : Vx.D × Addr => D.le x.1 y.1) M).map fun e => V.ref e.2)) hc)
    have sub : ∀ p ∈ isort (fun x y : Vx.D × Addr => D.le x.1 y.1) M, p ∈ ps := fun p hp => hL1 p (pM.mem_iff.mp ((isort_perm_self M).mem_iff.mp hp))
    have val : (isort (fun x y : Vx.D × Addr => D.le x.1 y.1) M).map (·.1) = isort D.le (dedup l) := by
      rw [isort_map (le := fun x y : Vx.D × Addr => D.le x.1 y.1) (le' := D.le) (fun p : Vx.D × Addr => p.1) (fun _ _ => rfl) M, isort_perm ((pM.map (·.1)).trans pd) h5 ndd]
    have rl2 := repL_refs fun p hp => e31 p (sub p hp)
    rw [val] at rl2
    refine k (.ref c) _ ok2 x2 (prv_new ok1 hc rl2) fun z ez => ?_
    cases ez
    exact x1.dom c hc
theorem ve_sortedSet (hu : X.A.units + 80 < cLine) (hc : X.calm = true) (hg : Gl X "sorted") (hm : X.mg "sorted" = none) (hg2 : Gl X "set") (hm2 : X.mg "set" = none) (ha : VE X a f)
    (he2 : starEach [a] X.env = (false, eval a X.env) :: starEach [] X.env := by rfl) (hpl : (backTo pos2 (starEach [] X.env)).any (·.1) = false := by rfl)
    (he : starEach [Expr.Call (.Name "set" p2) [a] [] pos2] X.env = (false, eval (Expr.Call (.Name "set" p2) [a] [] pos2) X.env) :: starEach [] X.env := by rfl) (hpl2 : (backTo pos (starEach [] X.env)).any (·.1) = false := by rfl) :
    VE X (.Call (.Name "sorted" p) [.Call (.Name "set" p2) [a] [] pos2] [] pos) (e1 f cSet) := by
  refine PEimp (pe_callB (cr_sortN hc hu) hg hm (by decide +kernel) (pa_cons (pe_callTy (cr_setN hc (by omega)) hg2 hm2 (by decide +kernel) (pa_cons ha pa_nil he2) (by decide) (by decide) he2 hpl) pa_nil he) (by decide) (by decide) he hpl2) fun σ H Q h => ?_
  exact e1_read con_set h
end
end Vx


set_option Elab.async false
set_option linter.all false
set_option maxRecDepth 100000
/-! Wa: enumerate(t), t a tuple. -/
namespace PySem
open Sem (wp)
open AutoSeq1 (wpAny_loadPart')
set_option maxHeartbeats 1000000 in
theorem vx_enum_newT (t : Addr) (items : Array Value) (n : Nat) (dct : Option Addr) (sl : Array (Option Value)) :
    Meets (Builtin.«enumerate.__new__» ⟨[.type "enumerate", .ref t], []⟩) (fun _ R s => s.heap.get? t = some { cls := .type "tuple", dict := dct, data := .seq items n, slots := sl } ∧
      R (.ok (.ret (.ref (s.heap.push { cls := .type "tuple_iterator", data := .fields #[.ref t, .int 0 0] }).objs.size)))
        { s with heap := (s.heap.push { cls := .type "tuple_iterator", data := .fields #[.ref t, .int 0 0] }).push { cls := .type "enumerate", data := .fields #[.none, .bool false, .ref s.heap.objs.size, rawInt 0, .none, .none] } }) :=
  .of_wp fun prog w A R s h => by
    obtain ⟨hp, g, d, tk, os⟩ := s
    obtain ⟨ht, h⟩ := h
    have hsub := sub_enumerate
    have hT : Heap.IsTuple (Shared.heap ⟨hp, g, d, tk, os⟩) t items := ⟨_, ht, rfl, n, rfl⟩
    wp_walk using wpAny_loadPart' ht
    refine wpAny_stack_any fun st => wpAny_pure ?_
    split
    · rename_i c _ _ _ _ _
      cases (c == Value.type "enumerate")
      all_goals (wp_walk using wpAny_loadPart' ht, wpAny_pyIter_tuple hT; exact ⟨_, rfl, h⟩)
    · wp_walk using wpAny_loadPart' ht, wpAny_pyIter_tuple hT
      exact ⟨_, rfl, h⟩
theorem vx_call_enumT {prog : Program} {w : World} {A : Around} {E : Value → Shared → Prop} {s : Shared} {t : Addr} {items : Array Value} {Q : Value → Shared → Prop} (hT : s.heap.IsTuple t items)
    (q : ∀ h', IsEnum h' (s.heap.objs.size + 1) s.heap.objs.size 0 .none → h'.IsTupleIter s.heap.objs.size t 0 → h'.objs.size = s.heap.objs.size + 2 → (∀ b o, s.heap.get? b = some o → h'.get? b = some o) → Q (.ref (s.heap.objs.size + 1)) { s with heap := h' }) :
    wpAny (model prog w) A (call (.type "enumerate") [.ref t]) Q E s := by
  obtain ⟨⟨uc, ud, ux, us⟩, gt, ct, n, dt⟩ := hT
  simp only at ct dt
  subst ct dt
  refine callType_new F.called_enumerate (by decide) (F.typeCall_enumerate_1 _) (F.newCall_enumerate_1 _) (fun o => F.args_object_init_2 o _) F.entry_enumerate_new (vx_enum_newT t items n ud us) ⟨gt, ?_⟩
  have z1 : (s.heap.push { cls := .type "tuple_iterator", data := .fields #[.ref t, .int 0 0] }).objs.size = s.heap.objs.size + 1 := Heap.size_push ..
  show _ ∧ _
  rw [z1]
  have he : IsEnum ((s.heap.push { cls := .type "tuple_iterator", data := .fields #[.ref t, .int 0 0] }).push { cls := .type "enumerate", data := .fields #[.none, .bool false, .ref s.heap.objs.size, rawInt 0, .none, .none] }) (s.heap.objs.size + 1) s.heap.objs.size 0 .none := by
    have z2 := Heap.get?_push_size (s.heap.push { cls := .type "tuple_iterator", data := .fields #[.ref t, .int 0 0] }) (o := { cls := .type "enumerate", data := .fields #[.none, .bool false, .ref s.heap.objs.size, rawInt 0, .none, .none] }) rfl
    rwa [z1] at z2
  exact ⟨⟨_, he, rfl⟩, q _ he ⟨_, Heap.get?_push_of_some _ (Heap.get?_push_size _ rfl), rfl, rfl⟩ (by rw [Heap.size_push, z1]) fun b o e => Heap.get?_push_of_some _ (Heap.get?_push_of_some _ e)⟩
theorem vx_enum_endT {prog : Program} {w : World} {A : Around} {E : Value → Shared → Prop} {s : Shared} {e it t : Addr} {i : Nat} {items : Array Value} {old : Value} {Q : Option Value → Shared → Prop} (hh : A.in1.handled = none)
    (he : IsEnum s.heap e it i old) (hit : s.heap.IsTupleIter it t i) (hT : s.heap.IsTuple t items) (hx : items[i]? = none) (q : ∀ h', Heap.ExtBut it s.heap h' → Q none { s with heap := h' }) : wpAny (model prog w) A (pyNext (.ref e)) Q E s := by
  have ty : s.TypeIs (.ref e) "enumerate" := ⟨_, he, rfl⟩
  unfold pyNext
  refine wpAny_bind (wpAny_attempt (wpAny_callSpecial?_slot (name := Str.ofString "__next__") ty F.slot_enumerate_next (wpAny_call_entry F.slot_enumerate_next ty F.entry_enumerate_next ?_ (F.args_enumerate_next_1 _))))
  show wpAny _ _ (field (.ref e) 2 >>= _) _ _ s
  refine wpAny_bind (wpAny_field he rfl (x := .ref it) rfl (wpAny_bind (wpAny_nextOf_tuple_end hh hit hT hx fun h' x k ⟨o, ho, hc⟩ => ?_)))
  exact wpAny_bind (wpAny_isInstance (T := "StopIteration") (b := true) ⟨o, ho, hc⟩ isSubtype_stop (wpAny_pure (q _ k)))
end PySem
namespace Vx
open PySem PySem.Spec L2
/-- the tuple at a, each item in a new pair -/
def Iten (K : PySem.W.Frag) (a : Addr) : It :=
  ⟨fun i H => ∃ (xs : List V) (x : V), SqT K H a xs ∧ xs[i]? = some x, fun i H v H' => ∃ T x, v = .ref T ∧ H T = none ∧ H' = upd H T (.tup [.int (i : Nat), x]) ∧ ∀ xs, SqT K H a xs → xs[i]? = some x, fun i H => ∃ xs : List V, SqT K H a xs ∧ xs.length ≤ i⟩
theorem isTup_of {h : Heap} {a : Addr} {its : Array Value} (p : PyProof.Rows.IsTup h a its) : h.IsTuple a its := by
  obtain ⟨o, ho, hc, n, hd⟩ := p
  exact ⟨o, ho, hc, n, hd⟩
theorem turn_enT {P : Program} {w : World} {K : PySem.W.Frag} {elts : List Expr} {kk : Nat} {tpos : Pos} (a e it : Addr) :
    Turn P w K (.Tuple elts kk tpos) (Iten K a) [e, it] e (fun i h => (∃ old, IsEnum h e it ((i : Nat) : Int) old) ∧ h.IsTupleIter it a i ∧ e ≠ it ∧ a ≠ it ∧ a ≠ e) where
  mem := by simp
  obj := fun i h st b hb => by
    obtain ⟨⟨old, he⟩, ⟨o, ho, hc, hd⟩, _⟩ := st
    rcases (by simpa using hb : b = e ∨ b = it) with z | z
    · rw [z]; exact ⟨_, he, fun v q => nomatch q⟩
    · rw [z]; exact ⟨o, ho, fun v q => by rw [hd] at q; cases q⟩
  keep := fun i h h' st k => by
    obtain ⟨⟨old, he⟩, ⟨o, ho, r⟩, hn⟩ := st
    exact ⟨⟨old, k e (by simp) _ he⟩, ⟨o, k it (by simp) _ ho, r⟩, hn⟩
  item := by
    intro X hP hw hK hc i pins s σ H E I hf st hg
    subst hP hw hK
    obtain ⟨⟨old, he⟩, hit, hne, hai, hae⟩ := st
    obtain ⟨xs, x, hq, hx⟩ := hg
    obtain ⟨its, rv, p, hz⟩ := I.tuple hq
    obtain ⟨u, hu, ru⟩ := rv.get hx
    have pt := isTup_of p
    have el : e < s.heap.objs.size := Heap.lt_size he
    have il : it < s.heap.objs.size := by obtain ⟨_, q, _⟩ := hit; exact Heap.lt_size q
    have hA : X.A.in1.handled = none := by simp [I.ok.hd hc]
    refine wpAny_pyNext_enum_itemD (Draws.tuple hA it a hai its.toArray) he ⟨hit, pt⟩ ?_ hne ?_ fun y h' tk hy ho st' hT hsz hk => ?_
    · have := (List.getElem?_eq_some_iff.mp hu).1
      simpa using this
    · simp only [List.mem_cons, List.not_mem_nil, or_false, not_or]
      exact ⟨hne, fun z => hae z.symm⟩
    have yu : y = u := by
      have hy' : its.toArray[i]? = some y := hy
      rw [List.getElem?_toArray, hu] at hy'
      exact (Option.some.inj hy').symm
    subst yu
    refine ⟨_, rfl, wpAny_letOwnedTupleGo_enum (s := { s with heap := h', toks := tk + 1 }) ho fun h'' he' sb => ?_⟩
    have hT2 : h''.get? s.heap.objs.size = some { cls := .type "tuple", data := .seq #[.int i tk, y] } := (sb.2 _ (Nat.ne_of_gt el)).trans hT
    have new : ObjOk X.prog X.w (upd H s.heap.objs.size (.tup [.int (i : Nat), x])) h'' s.heap.objs.size (.tup [.int (i : Nat), x]) :=
      ⟨by show 2 ≤ sizeLine; decide, [.int i tk, y], .cons ⟨_, rfl⟩ (.cons ru .nil), ⟨_, hT2, rfl, _, rfl⟩⟩
    have J : Inv X pins σ (upd H s.heap.objs.size (.tup [.int (i : Nat), x])) { s with heap := h'', toks := tk + 1 } :=
      I.turnedNew (ch := [e, it]) (fun b o hb q => (sb.2 b (fun z => hb (by simp [z]))).trans (hk b o (fun z => hb (by simp [z])) (fun z => hb (by simp [z])) q)) hf (Nat.le_refl _) new
    obtain ⟨⟨o2, ho2, r2⟩, _⟩ := st'
    refine ⟨.ref s.heap.objs.size, _, J, rfl, ⟨_, x, rfl, I.hok.fresh (Nat.le_refl _), rfl, fun ys hy2 => by rw [I.tuple_inj hy2 hq]; exact hx⟩, ⟨⟨y, ?_⟩, ⟨o2, (sb.2 it (Ne.symm hne)).trans ho2, r2⟩, hne, hai, hae⟩, fun b hb => ?_⟩
    · have e1 : ((i + 1 : Nat) : Int) = (i : Int) + 1 := by omega
      rw [e1]; exact he'
    · have lt : b < s.heap.objs.size := by
        rcases (by simpa using hb : b = e ∨ b = it) with z | z
        · rw [z]; exact el
        · rw [z]; exact il
      rw [upd_ne (Nat.ne_of_lt lt)]
      exact (hf b hb).1
  done := by
    intro X hP hw hK hc i pins s σ H E I hf st hg
    subst hP hw hK
    obtain ⟨⟨old, he⟩, hit, hne, hai, hae⟩ := st
    obtain ⟨xs, hq, hx⟩ := hg
    obtain ⟨its, rv, p, hz⟩ := I.tuple hq
    obtain ⟨f0, f1, f2, f3, f4, f5⟩ := hf it (by simp)
    have hl := rv.length
    have hA : X.A.in1.handled = none := by simp [I.ok.hd hc]
    exact vx_enum_endT hA he hit (isTup_of p) (by simp; omega) fun h' eb => ⟨rfl, I.turned (t' := s.toks) (fun b o hb q => eb b o hb q) f0 f1 f3 f4 f5⟩
  self := fun A i s Q E st h => let ⟨⟨_, he⟩, _⟩ := st; wpAny_pyIter_enum he h
def tEnT (K : PySem.W.Frag) (ta : TA) : TI := fun σ H R => ta σ H fun vs H1 => ∃ a xs, vs = [.ref a] ∧ SqT K H1 a xs ∧ R (Iten K a) H1
theorem pi_enT {X : Cx} {e : Expr} {ta : TA} {p pos tpos : Pos} {elts : List Expr} {kk : Nat} (hg : Gl X "enumerate") (hm : X.mg "enumerate" = none) (ha : PA X [e] ta) (hs : starEach [e] X.env = [(false, eval e X.env)] := by rfl) :
    PI X (.Tuple elts kk tpos) (.Call (.Name "enumerate" p) [e] [] pos) (tEnT X.K ta) := by
  refine ⟨fun pins s σ H R I h => ?_⟩
  refine PyProof.Rows.Call_ (ld_blt I hg hm (by decide +kernel : bootBuiltins ("enumerate" : Str) = some (.type "enumerate")) (PyProof.Rows.callWith_type1 (thn (ha.run pos pins s σ H _ I h) fun us s1 ⟨vs, H1, I1, r1, a, xs, ex, hq, q⟩ => ?_) hs rfl))
  subst ex
  cases r1 with
  | cons r rr =>
    cases rr
    cases r
    obtain ⟨its, rv, p', hz⟩ := I1.tuple hq
    have la : a < s1.heap.objs.size := by obtain ⟨o, ho, _⟩ := p'; exact Heap.lt_size ho
    refine vx_call_enumT (isTup_of p') fun h' he hit hsz hk => wpAny_pyIter_enum he ?_
    have I2 : Inv X pins σ H1 { s1 with heap := h' } := I1.kept (t' := s1.toks) hk
    refine ⟨s1.heap.objs.size + 1, [s1.heap.objs.size + 1, s1.heap.objs.size], _, _, H1, rfl, I2, turn_enT a (s1.heap.objs.size + 1) s1.heap.objs.size, ⟨⟨.none, he⟩, hit, Nat.succ_ne_self _, Nat.ne_of_lt la, Nat.ne_of_lt (Nat.lt_succ_of_lt la)⟩, fun b hb => ?_, q⟩
    have le : s1.heap.objs.size ≤ b := by
      rcases (by simpa using hb : b = s1.heap.objs.size + 1 ∨ b = s1.heap.objs.size) with z | z
      · rw [z]; exact Nat.le_succ _
      · rw [z]; exact Nat.le_refl _
    exact I1.fpOk le (I1.hok.fresh le)
/-- number and item -/
def enD : Nat → List Vx.D → List Vx.D
  | _, [] => []
  | i, d :: l => .tup [.int i, d] :: enD (i + 1) l
theorem enD_get : ∀ (l : List Vx.D) (n i : Nat), (enD n l)[i]? = l[i]?.map fun d => .tup [.int ((n + i : Nat) : Int), d]
  | [], _, _ => by simp [enD]
  | d :: l, n, 0 => by simp [enD]
  | d :: l, n, i + 1 => by
    rw [enD, List.getElem?_cons_succ, List.getElem?_cons_succ, enD_get l (n + 1) i, show n + 1 + i = n + (i + 1) by omega]
theorem enD_len : ∀ (l : List Vx.D) (n : Nat), (enD n l).length = l.length
  | [], _ => rfl
  | d :: l, n => by simp [enD, enD_len l]
def iEnum (f : EvF) : EvI := fun sl st => match f sl st with
  | some (.val (.tup l), st') => some (enD 0 l, st')
  | some (.val (.tpc l), st') => some (enD 0 l, st')
  | _ => none
theorem vi_enum {X : Cx} {e : Expr} {f : EvF} {p pos tpos : Pos} {elts : List Expr} {kk : Nat} (hg : Gl X "enumerate") (hm : X.mg "enumerate" = none) (he : VE X e f) (hs : starEach [e] X.env = (false, eval e X.env) :: starEach [] X.env := by rfl) :
    VI X (.Tuple elts kk tpos) (.Call (.Name "enumerate" p) [e] [] pos) (iEnum f) := PIimp (pi_enT hg hm (pa_cons he pa_nil hs) hs) fun σ H R h => by
  obtain ⟨al, S, sl, st, l, st', ok, e, k⟩ := h
  unfold iEnum at e
  split at e
  · rename_i m st1 h1
    cases e
    refine ⟨al, S, sl, st, _, _, ok, h1, fun v w1 ok1 x1 rd1 fr1 => ?_⟩
    cases rd1 with
    | @tup a vs _ h2 h3 =>
      refine ⟨a, vs, rfl, h2, k _ w1 ok1 x1 fun P hP => ?_⟩
      intro w2 F2 x i
      have hf : ∀ a, P a → ¬ w1.S a ∧ ∃ vs, w1.H a = some (.lst vs) := fun a f => (hP a f).1
      have hs2 : SqT X.K w2.H a vs := (x.repG (K := X.K) hf).1 a vs h2
      have r2 := x.repL hf h3
      refine ⟨fun d hd => ?_, fun hi => ⟨vs, hs2, by rw [enD_len] at hi; rw [r2.length]; exact hi⟩⟩
      rw [enD_get] at hd
      cases hm2 : m[i]? with
      | none => rw [hm2] at hd; cases hd
      | some d0 =>
        rw [hm2] at hd
        cases hd
        obtain ⟨v, e1, rv⟩ := r2.get hm2
        refine ⟨⟨vs, v, hs2, e1⟩, fun y H' ⟨T, z, ey, hT, eH, hz⟩ => ?_⟩
        subst ey eH
        have := hz vs hs2
        rw [e1] at this
        cases this
        refine ⟨fun b o hb => by rw [upd_ne fun q => by rw [q, hT] at hb; cases hb]; exact hb, fun b hb => ?_, ?_⟩
        · by_cases q : b = T
          · subst q; exact hT
          · rwa [upd_ne q] at hb
        · rw [Nat.zero_add]
          exact .tup (SqT.of upd_same) (.cons (.int _) (.cons (rep_new hT rv) .nil))
  · rename_i m st1 h1
    cases e
    refine ⟨al, S, sl, st, _, _, ok, h1, fun v w1 ok1 x1 rd1 fr1 => ?_⟩
    cases rd1 with
    | @tpc a vs _ o h0 hn h3 =>
      have h2 : SqT X.K w1.H a vs := .inl (.inr ⟨_, h0⟩)
      refine ⟨a, vs, rfl, h2, k _ w1 ok1 x1 fun P hP => ?_⟩
      intro w2 F2 x i
      have hf : ∀ a, P a → ¬ w1.S a ∧ ∃ vs, w1.H a = some (.lst vs) := fun a f => (hP a f).1
      have hs2 : SqT X.K w2.H a vs := (x.repG (K := X.K) hf).1 a vs h2
      have r2 := x.repL hf h3
      refine ⟨fun d hd => ?_, fun hi => ⟨vs, hs2, by rw [enD_len] at hi; rw [r2.length]; exact hi⟩⟩
      rw [enD_get] at hd
      cases hm2 : m[i]? with
      | none => rw [hm2] at hd; cases hd
      | some d0 =>
        rw [hm2] at hd
        cases hd
        obtain ⟨v, e1, rv⟩ := r2.get hm2
        refine ⟨⟨vs, v, hs2, e1⟩, fun y H' ⟨T, z, ey, hT, eH, hz⟩ => ?_⟩
        subst ey eH
        have := hz vs hs2
        rw [e1] at this
        cases this
        refine ⟨fun b o hb => by rw [upd_ne fun q => by rw [q, hT] at hb; cases hb]; exact hb, fun b hb => ?_, ?_⟩
        · by_cases q : b = T
          · subst q; exact hT
          · rwa [upd_ne q] at hb
        · rw [Nat.zero_add]
          exact .tup (SqT.of upd_same) (.cons (.int _) (.cons (rep_new hT rv) .nil))
  · cases e
end Vx


set_option Elab.async false
set_option linter.all false
set_option maxRecDepth 100000
/-! Wb: index in a tuple, in a list; names that stand for tuples. -/
namespace Vx
open PySem PySem.Spec L2
def rIdxT (K : PySem.W.Frag) : V → List V → Hp → VK → Prop := fun x xs H Q => ∃ (a : Addr) (y : V) (d : PyData) (ds : List PyData) (j : Nat) (z : PyData), x = V.ref a ∧ xs = [y] ∧ Dp K H (V.ref a) (.tuple ds) ∧ Dp K H y d ∧
  SeqAt.shaped (.list ds) = true ∧ SeqAt.shaped d = true ∧ ds[j]? = some z ∧ PyData.eqv z d = true ∧ (∀ (m : Nat) (z' : PyData), m < j → ds[m]? = some z' → PyData.eqv z' d = false) ∧ Q (.int (j : Nat)) H
theorem mt_idxT {X : Cx} (hu : X.A.units + 65 < cLine) : MtR X "tuple.index" (rIdxT X.K) := by
  intro pins s σ H x xs v us Q I rx rxs h
  obtain ⟨a, y, d, ds, j, z, rfl, rfl, hl, hy, sl, sd, hz, hzj, hno, q⟩ := h
  cases rx
  obtain ⟨uy, rfl, ry⟩ := vals1 rxs
  obtain ⟨bs, r1⟩ := Dp.reads I d y uy hy ry
  have lay : PyData.canLayAll0 ds = true := SeqAt.canLay_of_shaped sl
  have room : X.A.units + 1 + min (PyData.depthAll ds) d.depth < cLine := PyProof.Rows.room_in_shaped sd hu
  cases hl with
  | tup hs ha =>
    obtain ⟨its, rv, ⟨⟨uc, ud, ux, us⟩, ho, hc, n, hd⟩, hlen⟩ := I.tuple hs
    simp only at hc hd
    subst hc hd
    obtain ⟨as, h4⟩ := Dp.readsAll I ds _ its ha rv
    have hn : its.length = ds.length := SeqAt.ReadsAll.length ds its as h4
    have hmap : its.map (SeqAt.readOf s.heap) = ds := SeqAt.readsAll_map ds its as lay h4
    have jd := (List.getElem?_eq_some_iff.mp hz).1
    have jl : j < its.toArray.size := by rw [List.size_toArray, hn]; exact jd
    have at_ : ∀ (m : Nat) (hm : m < its.toArray.size) (z' : PyData), ds[m]? = some z' → SeqAt.readOf s.heap its.toArray[m] = z' := fun m hm z' hz' => by
      have ml : m < its.length := by simpa using hm
      rw [← hmap, List.getElem?_map, List.getElem?_eq_getElem ml] at hz'
      have e1 : SeqAt.readOf s.heap its[m] = z' := Option.some.inj hz'
      simpa using e1
    refine call_meets PySem.F.slot_tuple_index ⟨_, ho, rfl⟩ PySem.F.entry_tuple_index (PySem.F.args_tuple_index_2 _ _)
      (_root_.TI.tuple_indexAt a its.toArray n ud us uy (fun u => PyData.eqv (SeqAt.readOf s.heap u) d) j jl ?_ ?_) ⟨ho, SeqAt.items_eqAt (vs := its.toArray) (show ReadsAll s.heap its.toArray.toList ds as from h4) r1 lay (SeqAt.canLay_of_shaped sd) room, ?_⟩
    · show PyData.eqv (SeqAt.readOf s.heap its.toArray[j]) d = true
      rw [at_ j jl z hz]
      exact hzj
    · intro m hm mj
      have md : m < ds.length := by omega
      have hz' : ds[m]? = some ds[m] := List.getElem?_eq_getElem md
      show PyData.eqv (SeqAt.readOf s.heap its.toArray[m]) d = false
      rw [at_ m hm _ hz']
      exact hno m _ mj hz'
    · exact ⟨.int (j : Nat), H, I.tok _, ⟨_, rfl⟩, q⟩
/-- the first place of a like -/
def firstIx (y : Vx.D) : List Vx.D → Option Nat
  | [] => none
  | d :: l => if D.eqv d y = true then some 0 else (firstIx y l).map (· + 1)
theorem firstIx_some {y : Vx.D} : ∀ {l : List Vx.D} {j : Nat}, firstIx y l = some j → ∃ d, l[j]? = some d ∧ D.eqv d y = true ∧ ∀ m d', m < j → l[m]? = some d' → D.eqv d' y = false
  | [], _, h => by cases h
  | d :: l, j, h => by
    unfold firstIx at h
    split at h
    · rename_i e
      cases h
      exact ⟨d, rfl, e, fun m _ hm => absurd hm (Nat.not_lt_zero _)⟩
    · rename_i e
      cases hj : firstIx y l with
      | none => rw [hj] at h; cases h
      | some k =>
        rw [hj] at h
        cases h
        obtain ⟨d', h1, h2, h3⟩ := firstIx_some hj
        refine ⟨d', h1, h2, fun m c hm hc => ?_⟩
        cases m with
        | zero => cases hc; simpa using e
        | succ m => exact h3 m c (by have z : m + 1 < k + 1 := hm; omega) hc
def cIndex : Amb → Vx.D → Vx.D → Option R := fun _ x y => match x with
  | .tpc l => if flat64 y = true ∧ flat64 (.lst l) = true then (firstIx y l).map fun j => .val (.int (j : Nat)) else none
  | _ => none
/-- a method of a tuple whose very object is known -/
def tBMc (r : V → List V → Hp → VK → Prop) (to : TE) (t : TA) : TE := fun σ H Q => to σ H fun x H1 => (∃ p o xs, x = .ref p ∧ H1 p = some (.frz o (.tup xs)) ∧ o.dict = none) ∧ t σ H1 fun xs H2 => r x xs H2 Q
theorem pe_bmC {X : Cx} {o e : Expr} {es : List Expr} {to : TE} {t : TA} {name : Str} {apos cpos : Pos} {id : String} {r : V → List V → Hp → VK → Prop} (slot : Slot "tuple" name id) (hty : typeOf (.builtin id) = pure (.type "method_descriptor")) (hm : MtR X id r) (ho : PE X o to) (ha : PA X (e :: es) t)
    (hbase : attributeBase o name X.env (eval o X.env) = eval o X.env := by rfl)
    (hfew : ((backTo cpos (starEach (e :: es) X.env)).all (fun x => !x.1) && (backToKw cpos (keywordEach [] X.env)).all (fun x => x.1.isSome) && decide ((e :: es).length + ([] : List Keyword).length + (if ([] : List Keyword).isEmpty then 0 else 1) < 30)) = true := by rfl)
    (hline : (apos.endLine == cpos.line) = true := by rfl) (hs : starEach (e :: es) X.env = (false, eval e X.env) :: starEach es X.env := by rfl) (hplain : (backTo cpos (starEach es X.env)).any (·.1) = false := by rfl) :
    PE X (.Call (.Attribute o name apos) (e :: es) [] cpos) (tBMc r to t) := by
  refine ⟨fun pins s σ H Q I h => wpAny_Call_method_late hbase hfew hline rfl (thn (ho.run pins s σ H _ I h) fun v s1 ⟨x, H1, I1, r1, ⟨p, ob, xs, ex, hp, hd⟩, q1⟩ => ?_)⟩
  subst ex
  obtain rfl : v = Value.ref p := r1
  obtain ⟨g1, z, its, rv, ⟨ob2, g2, hc, hdt⟩⟩ := I1.hok p _ hp
  have hA := ha.run cpos pins s1 σ H1 _ I1 q1
  rw [hs] at hA
  refine ⟨"tuple", id, PySem.F.plainAttrs_tuple, slot, hty, ⟨ob2, g2, hc⟩, fun a e => by cases e; exact ⟨ob, g1, hd⟩, ?_⟩
  rw [hs]
  refine Calls.callWith_builtin (by show (false || (backTo cpos (starEach es X.env)).any (·.1)) = false; rw [hplain]; rfl) (Calls.evalArgs_plain ?_)
  exact thn hA fun us s2 ⟨vs, H2, I2, r2, q2⟩ => hm pins s2 σ H2 (.ref p) vs (.ref p) us Q I2 rfl r2 q2
section
variable {X : Cx} {a b : Expr} {f g : EvF} {apos cpos : Pos}
theorem py_get {l : List Vx.D} {j : Nat} {d : Vx.D} (h : l[j]? = some d) : (D.pyL l)[j]? = some d.py := by rw [pyL_map, List.getElem?_map, h]; rfl
/-- t.index(y), t a tuple whose very object is known -/
theorem ve_index (hu : X.A.units + 65 < cLine) (ha : VE X a f) (hb : VE X b g) (hbase : attributeBase a "index" X.env (eval a X.env) = eval a X.env := by rfl)
    (hfew : ((backTo cpos (starEach (b :: []) X.env)).all (fun x => !x.1) && (backToKw cpos (keywordEach [] X.env)).all (fun x => x.1.isSome) && decide ((b :: []).length + ([] : List Keyword).length + (if ([] : List Keyword).isEmpty then 0 else 1) < 30)) = true := by rfl)
    (hline : (apos.endLine == cpos.line) = true := by rfl) (hs : starEach (b :: []) X.env = (false, eval b X.env) :: starEach [] X.env := by rfl) (hplain : (backTo cpos (starEach [] X.env)).any (·.1) = false := by rfl) :
    VE X (.Call (.Attribute a "index" apos) [b] [] cpos) (e2 f g cIndex) := by
  refine PEimp (pe_bmC PySem.F.slot_tuple_index PySem.F.type_tuple_index (r := rIdxT X.K) (mt_idxT hu) ha (pa_cons hb pa_nil hs) hbase hfew hline hs hplain) fun σ H Q h => ?_
  obtain ⟨al, S, sl, st, r, st', ok, e, k⟩ := h
  unfold e2 at e
  cases h1 : f sl st with
  | none => rw [h1] at e; cases e
  | some p =>
    obtain ⟨x, st1⟩ := p
    rw [h1] at e
    simp only [Option.bind_some] at e
    cases h2 : g sl st1 with
    | none => rw [h2] at e; cases e
    | some p =>
      obtain ⟨y, st2⟩ := p
      rw [h2] at e
      simp only [Option.bind_some] at e
      cases x with
      | prv l => cases e
      | bor l => cases e
      | val dx =>
        cases dx with
        | tpc l =>
          have ed : (R.val (Vx.D.tpc l)).d = Vx.D.tpc l := rfl
          rw [ed] at e
          simp only [cIndex] at e
          split at e
          case isFalse => cases e
          rename_i hf
          cases hj : firstIx y.d l with
          | none => rw [hj] at e; cases e
          | some j =>
            rw [hj] at e
            cases e
            obtain ⟨d, g1, g2, g3⟩ := firstIx_some hj
            obtain ⟨f1, f2⟩ := flat64_iff.mp hf.1
            obtain ⟨f3, f4⟩ := flat64_iff.mp hf.2
            have f3' : D.datL l = true := by simpa [Vx.D.dat] using f3
            refine ⟨al, S, sl, st, _, st1, ok, h1, fun v w1 ok1 x1 rd1 fr1 => ?_⟩
            cases rd1 with
            | @tpc q vs _ ob hq hn rl =>
              refine ⟨⟨q, ob, vs, rfl, hq, hn⟩, ⟨w1.al, w1.S, sl, st1, y, _, ok1, h2, fun u w2 ok2 x2 rd2 fr2 => ?_⟩⟩
              have rx2 : Rep X.K w2 (.ref q) (.tpc l) := x2.rep (fun c hc => ok1.foot hc) (.tpc hq hn rl)
              cases rx2 with
              | @tpc _ vs2 _ ob2 hq2 hn2 rl2 =>
                have dpx : Dp X.K w2.H (.ref q) (.tuple (D.pyL l)) := .tup (.inl (.inr ⟨_, hq2⟩)) (RepL.dp rl2 f3')
                refine ⟨q, u, y.d.py, D.pyL l, j, d.py, rfl, rfl, dpx, rd2.dp ok2 f1, ?_, shaped_py f1 (by omega), py_get g1, ?_, fun m z' hm hz => ?_, k _ w2 ok2 (x1.trans x2) (show Rep X.K w2 (.int (j : Nat)) (.int (j : Nat)) from .int _) trivial⟩
                · exact shaped_py f3 (by omega)
                · rw [← eqv_py d y.d (datL_mem f3' d (List.mem_of_getElem? g1)) f1]; exact g2
                · rw [pyL_map, List.getElem?_map] at hz
                  cases hm2 : l[m]? with
                  | none => rw [hm2] at hz; cases hz
                  | some d' =>
                    rw [hm2] at hz
                    cases hz
                    rw [← eqv_py d' y.d (datL_mem f3' d' (List.mem_of_getElem? hm2)) f1]
                    exact g3 m d' hm hm2
        | _ => cases e
/-- tuple(xs), xs a list: a tuple whose very object is known -/
def cTupleC : Amb → List Vx.D → Option R := fun _ xs => match xs with
  | [.lst l] => some (.val (.tpc l))
  | _ => none
theorem call_tupleC : CallR X (.type "tuple") (fun xs H Q => ∃ p ys, xs = [.ref p] ∧ SqL X.K H p ys ∧ ∀ l o, H l = none → o.dict = none → Q (.ref l) (upd H l (.frz o (.tup ys)))) := by
  intro pins s σ H xs us Q I r h
  obtain ⟨p, ys, rfl, hq, q⟩ := h
  obtain ⟨u, rfl, rx⟩ := vals1 r
  cases rx
  obtain ⟨its, r', pl, hz⟩ := I.list hq
  have hlen := r'.length
  refine PySem.call_tuple_list pl.isList (fun h' kp => ?_) (by simp only [List.size_toArray]; omega)
  have J : Inv X pins σ H { s with heap := h' } := I.kept (t' := s.toks) kp
  have K2 : Inv X pins σ (upd H h'.objs.size (.frz { cls := .type "tuple", data := .seq its.toArray } (.tup ys))) { s with heap := h'.push { cls := .type "tuple", data := .seq its.toArray } } :=
    J.laid (t' := s.toks) (fun b o e => Heap.get?_push_of_some _ e) (Nat.le_refl _) (show ObjOk X.prog X.w _ _ _ (.frz _ (.tup ys)) from ⟨Heap.get?_push_size _ rfl, hz, its, r', PyProof.Rows.IsTup.new _ _⟩)
  exact ⟨.ref h'.objs.size, _, K2, rfl, q _ _ (J.hok.fresh (Nat.le_refl _)) rfl⟩
theorem con_tupleC : ConA X.K (fun xs H Q => ∃ p ys, xs = [.ref p] ∧ SqL X.K H p ys ∧ ∀ l o, H l = none → o.dict = none → Q (.ref l) (upd H l (.frz o (.tup ys)))) cTupleC := by
  intro w sl st σ vs rs res Q ok rd e k
  unfold cTupleC at e
  split at e
  · rename_i l hz
    cases e
    obtain ⟨v, r, rfl, rfl, e1, h1⟩ := rd.one hz
    obtain ⟨q, vs, e2, h2, r2⟩ := h1.lst ok e1
    subst e2
    refine ⟨q, vs, rfl, SqL.of h2, fun n o hn hd => ?_⟩
    exact k (.ref n) ⟨w.al, w.S, upd w.H n (.frz o (.tup vs))⟩ (ok.new hn) (ext_new hn) (.tpc upd_same hd (repL_new hn r2)) trivial
  · cases e
theorem ve_tupleC {p pos : Pos} {es : List Expr} {FA : EvA} (hg : Gl X "tuple") (hm : X.mg "tuple" = none) (ha : VA X (a :: es) FA) (he : starEach (a :: es) X.env = (false, eval a X.env) :: starEach es X.env := by rfl) (hpl : (backTo pos (starEach es X.env)).any (·.1) = false := by rfl) : VE X (.Call (.Name "tuple" p) (a :: es) [] pos) (eA FA cTupleC) :=
  ve_callTy call_tupleC con_tupleC hg hm (by decide +kernel) ha (he := he) (hpl := hpl)
end
end Vx


set_option Elab.async false
set_option linter.all false
set_option maxRecDepth 100000
/-! Wc: names of the module that stand for tuples; lifts of the new rules. -/
namespace Vx
open PySem PySem.Spec L2
theorem hu80 {k : Nat} {A : Around} (r : Room k A) : A.units + 80 < cLine := by have := r.un; omega
/-- an object of the module that is a tuple -/
theorem rep_modT {K : PySem.W.Frag} {a : Addr} {od : Option Addr} {its : Array Value} {n : Nat} {sl : Array (Option Value)} {vs : List V} {ds : List Vx.D} (h : K.lookup a = some ⟨.type "tuple", od, .seq its n, sl⟩) (hz : its.size ≤ 1000) (hv : Vals vs its.toList) (w : Wd) (hr : RepL K w vs ds) : Rep K w (.ref a) (.tup ds) :=
  .tup (.inr ⟨_, its, n, h, rfl, rfl, by rw [sizeLine_eq]; omega, hv⟩) hr
theorem c2_index : C2 cIndex := fun _ _ _ h _ => h
theorem ca_tupleC : CA cTupleC := fun _ _ h _ => h
theorem c1_set : C1 cSet := fun x r h st => by
  unfold cSet at h ⊢
  cases hs : seqD [] x with
  | none => rw [hs] at h; cases h
  | some l => rw [hs] at h; rw [seqD_up hs]; exact h
theorem li_enum {f : EvF} (a : LE f) : LI (iEnum f) := fun sl r s h => by
  unfold iEnum at h ⊢
  cases h1 : f sl [] with
  | none => rw [h1] at h; cases h
  | some p =>
    obtain ⟨x, s1⟩ := p
    obtain ⟨rfl, e⟩ := a sl x s1 h1
    rw [h1] at h
    split at h
    · rename_i h3; cases h3; cases h; exact ⟨rfl, fun st => by rw [e st]⟩
    · rename_i h3; cases h3; cases h; exact ⟨rfl, fun st => by rw [e st]⟩
    · cases h
/-- a name of the module -/
theorem ve_globT {X : Cx} {x : Str} {u : Value} {d : Vx.D} {pos : Pos} {v : V} (hg : Gl X x) (hm : X.mg x = some u) (r : RelV v u) (rd : ∀ w, Rep X.K w v d) (hd : (x == ("__debug__" : Str)) = false := by decide) : VE X (.Name x pos) (eC d) := ve_glob hg hm r rd hd
structure ModC (K : PySem.W.Frag) (mg : Str → Option Value) (x : Str) (d : Vx.D) : Prop where
  ex : ∃ a, mg x = some (.ref a) ∧ ∀ w, Rep K w (.ref a) d
theorem ve_mod_ {X : Cx} {x : Str} {d : Vx.D} {pos : Pos} (C : ModC X.K X.mg x d) (hg : Gl X x) (hd : (x == ("__debug__" : Str)) = false := by decide) : VE X (.Name x pos) (eC d) := by
  obtain ⟨a, h1, h2⟩ := C.ex
  exact ve_glob hg h1 (show RelV (.ref a) (.ref a) from rfl) h2 hd
end Vx


set_option Elab.async false
set_option linter.all false
set_option maxRecDepth 100000
/-! Wd: instances that are never written behind their making; a tuple whose very object is known as a plain tuple. -/
namespace Vx
open PySem PySem.Spec L2

/-! ### a tuple whose very object is known, as a plain one -/
def dmR : R → R
  | .val (.tpc l) => .val (.tup l)
  | r => r
def eDm (f : EvF) : EvF := fun sl st => (f sl st).map fun p => (dmR p.1, p.2)
theorem RdR.dm {K : PySem.W.Frag} {w : Wd} {sl : Sls} {σ : L2.St} {v : V} {r : R} (h : RdR K w sl σ v r) : RdR K w sl σ v (dmR r) := by
  cases r with
  | val d =>
    cases d with
    | tpc l =>
      cases h with
      | tpc h1 h2 h3 => exact Rep.tup (.inl (.inr ⟨_, h1⟩)) h3
    | _ => exact h
  | prv l => exact h
  | bor l => exact h
theorem Frs.dm {w : Wd} {v : V} {r : R} (h : Frs w v (dmR r)) : Frs w v (dmR r) := h
theorem ve_dm {X : Cx} {e : Expr} {f : EvF} (h : VE X e f) : VE X e (eDm f) := PEimp h fun σ H Q q => by
  obtain ⟨al, S, sl, st, r, st', ok, e, k⟩ := q
  unfold eDm at e
  cases h1 : f sl st with
  | none => rw [h1] at e; cases e
  | some p =>
    obtain ⟨x, st1⟩ := p
    rw [h1] at e
    cases e
    refine ⟨al, S, sl, st, x, _, ok, h1, fun v w' ok' x' rd fr => k v w' ok' x' rd.dm ?_⟩
    cases x with
    | val d => cases d <;> exact fr
    | prv l => exact fr
    | bor l => exact fr
theorem le_dm {f : EvF} (a : LE f) : LE (eDm f) := fun sl r s h => by
  unfold eDm at h ⊢
  cases h1 : f sl [] with
  | none => rw [h1] at h; cases h
  | some p =>
    obtain ⟨x, st1⟩ := p
    rw [h1] at h
    obtain ⟨e, k⟩ := a _ _ _ h1
    cases h
    exact ⟨e, fun st => by rw [k st]; rfl⟩

/-! ### instances -/
/-- the value of a field -/
def fldOf (x : Str) : List Str → List Vx.D → Option Vx.D
  | n :: ns, d :: ds => if x = n then some d else fldOf x ns ds
  | _, _ => none
def cFld (c x : Str) : Amb → Vx.D → Option R := fun _ d => match d with
  | .ins c' ns ds => if c' = c then (fldOf x ns ds).map .val else none
  | _ => none
theorem fldOf_rep {K : PySem.W.Frag} {w : Wd} {x : Str} : ∀ {ns : List Str} {vs : List V} {ds : List Vx.D} {d : Vx.D}, RepL K w vs ds → fldOf x ns ds = some d → ∃ v, (ns.zip vs).lookup x = some v ∧ Rep K w v d
  | [], _, _, _, _, e => by simp [fldOf] at e
  | n :: ns, _, _, _, .nil, e => by simp [fldOf] at e
  | n :: ns, _, _, _, .cons r rs, e => by
    unfold fldOf at e
    rw [List.zip_cons_cons, List.lookup_cons]
    by_cases h : x = n
    · rw [if_pos h] at e
      cases e
      subst h
      simp only [beq_self_eq_true]
      exact ⟨_, rfl, r⟩
    · rw [if_neg h] at e
      have : (x == n) = false := by simpa using h
      rw [this]
      exact fldOf_rep rs e
/-- __init__ stores its arguments under its parameters' names, in order -/
def spIns (C : Addr) (ns : List Str) : Sp := fun vs H Q _ => ∃ (p dx : Addr) (us : List V), vs = .ref p :: us ∧ us.length = ns.length ∧ H p = some (.ins C dx []) ∧ Q .non (upd H p (.ins C dx (ns.zip us)))
def putAll : List Str → List V → List (Str × V) → List (Str × V)
  | n :: ns, u :: us, fs => putAll ns us (putF n u fs)
  | _, _, fs => fs
theorem putF_new {n : Str} {u : V} : ∀ {fs : List (Str × V)}, (∀ p ∈ fs, p.1 ≠ n) → putF n u fs = fs ++ [(n, u)]
  | [], _ => rfl
  | (m, x) :: fs, h => by
    rw [putF, if_neg (h _ List.mem_cons_self), putF_new fun p hp => h p (List.mem_cons_of_mem _ hp)]
    rfl
theorem putF_lt {n : Str} {u : V} : ∀ {fs : List (Str × V)} {k : Nat}, fs.length < k → (putF n u fs).length < k + 1
  | [], k, h => by simp [putF]; omega
  | (m, x) :: fs, k, h => by
    rw [putF]
    split
    · simp at h ⊢; omega
    · cases k with
      | zero => simp at h
      | succ k => simp at h ⊢; exact putF_lt h
theorem putAll_zip : ∀ {ns : List Str} {us : List V} {fs : List (Str × V)}, ns.Nodup → (∀ n ∈ ns, ∀ p ∈ fs, p.1 ≠ n) → putAll ns us fs = fs ++ ns.zip us
  | [], us, fs, _, _ => by cases us <;> simp [putAll]
  | n :: ns, [], fs, _, _ => by simp [putAll]
  | n :: ns, u :: us, fs, h1, h2 => by
    rw [List.nodup_cons] at h1
    rw [putAll, putF_new (h2 n List.mem_cons_self), putAll_zip h1.2 fun m hm p hp => ?_]
    · simp
    · rcases List.mem_append.mp hp with hp | hp
      · exact h2 m (List.mem_cons_of_mem _ hm) p hp
      · rw [List.mem_singleton.mp hp]
        intro z
        exact h1.1 (by rw [show n = m from z]; exact hm)
/-- a class of the text whose instances are made by storing the arguments -/
structure ClsT (P : Program) (w : World) (K : PySem.W.Frag) (mg : Str → Option Value) (base : Heap) (c : Str) (ns : List Str) where
  C : Addr
  f : Addr
  fd : FuncData
  at_ : PySem.W.nsIn K mainGlobals c = some (some (.ref C))
  hm : mg c = some (.ref C)
  cl : Cls K C
  no : ∀ n ∈ ns, NoAttr K C n
  M : Mk K C f
  F : FnOk P w K mg base CX0 1 f fd ("self" :: ns) (spIns C ns)
  hb : Binds K fd ("self" :: ns) []
def eFld (c x : Str) (f : EvF) : EvF := e1 f (cFld c x)
section
variable {X : Cx} {e : Expr} {f : EvF} {pos p : Pos} {c x : Str} {ns : List Str}
theorem ve_fld (T : ClsT X.prog X.w X.K X.mg X.base c ns) (hx : x ∈ ns) (h : VE X e f) (hb : attributeBase e x X.env (eval e X.env) = eval e X.env := by rfl) : VE X (.Attribute e x pos) (eFld c x f) := by
  refine PEimp (pe_fld h hb) fun σ H Q q => ?_
  refine e1_read (rd := fun v H1 Q => ∃ a C dx fs u, v = .ref a ∧ H1 a = some (.ins C dx fs) ∧ Cls X.K C ∧ NoAttr X.K C x ∧ fs.lookup x = some u ∧ Q u H1) ?_ q
  intro w sl st σ v r res Q ok rd e k
  unfold cFld at e
  cases hd : r.d <;> rw [hd] at e <;> simp only at e <;> try (cases e; done)
  rename_i c' ns' ds
  split at e
  · rename_i hc
    subst hc
    cases h2 : fldOf x ns' ds with
    | none => rw [h2] at e; cases e
    | some d =>
      rw [h2] at e
      cases e
      have rp := rd.rep hd (fun l z => by cases z)
      cases rp with
      | @ins a C dx _ _ vs _ h3 h4 h5 h6 =>
        obtain ⟨u, e1, ru⟩ := fldOf_rep h6 h2
        have hC : C = T.C := by
          have := h3.symm.trans T.at_
          cases this
          rfl
        subst hC
        exact ⟨a, _, dx, _, u, rfl, h4, T.cl, T.no x hx, e1, Kon.val k ok ru⟩
  · cases e
/-- c(..) -/
def eNew (c : Str) (ns : List Str) (FA : EvA) : EvF := fun sl st => (FA sl st).bind fun p => (vals p.1).bind fun ds => if ds.length = ns.length then some (.val (.ins c ns ds), p.2) else none
theorem ve_new {es : List Expr} {FA : EvA} (T : ClsT X.prog X.w X.K X.mg X.base c ns) (hr : Room 2 X.A) (hg : Gl X c) (ha : VA X (e :: es) FA) (hdb : (c == ("__debug__" : Str)) = false := by decide)
    (he : starEach (e :: es) X.env = (false, eval e X.env) :: starEach es X.env := by rfl) (hpl : (backTo pos (starEach es X.env)).any (·.1) = false := by rfl) : VE X (.Call (.Name c p) (e :: es) [] pos) (eNew c ns FA) := by
  refine PEimp (pe_make T.M T.F hr hg T.hm T.hb .nil pass0 ha hdb he hpl) fun σ H Q q => ?_
  obtain ⟨al, S, sl, st, r, st', ok, e, k⟩ := q
  unfold eNew at e
  cases h1 : FA sl st with
  | none => rw [h1] at e; cases e
  | some q =>
    obtain ⟨rs, st1⟩ := q
    rw [h1] at e
    simp only [Option.bind_some] at e
    cases h2 : vals rs with
    | none => rw [h2] at e; cases e
    | some ds =>
      rw [h2] at e
      simp only [Option.bind_some] at e
      split at e
      · rename_i hn
        cases e
        refine ⟨al, S, sl, st, rs, _, ok, h1, fun vs w1 ok1 x1 rd1 _ => ?_⟩
        have rl := vals_rep rd1 h2
        intro y dx ny ndx nex
        refine ⟨y, dx, vs, by rw [List.append_nil], by rw [rl.length, hn], upd_same, rfl, ?_⟩
        rw [upd_upd]
        have ok2 : Ok X.K ⟨w1.al, w1.S, upd w1.H dx (.own y)⟩ sl _ σ := ok1.new ndx
        have ny2 : upd w1.H dx (.own y) y = none := by rw [upd_ne (Ne.symm nex)]; exact ny
        have ok3 : Ok X.K ⟨w1.al, w1.S, upd (upd w1.H dx (.own y)) y (.ins T.C dx (ns.zip vs))⟩ sl _ σ := Ok.new (w := ⟨w1.al, w1.S, upd w1.H dx (.own y)⟩) ok2 ny2
        have x2 : Ext w1 (FootW w1 sl σ) ⟨w1.al, w1.S, upd w1.H dx (.own y)⟩ (FootW ⟨w1.al, w1.S, upd w1.H dx (.own y)⟩ sl σ) := ext_new ndx
        have x3 : Ext ⟨w1.al, w1.S, upd w1.H dx (.own y)⟩ (FootW ⟨w1.al, w1.S, upd w1.H dx (.own y)⟩ sl σ) ⟨w1.al, w1.S, upd (upd w1.H dx (.own y)) y (.ins T.C dx (ns.zip vs))⟩ (FootW ⟨w1.al, w1.S, upd (upd w1.H dx (.own y)) y (.ins T.C dx (ns.zip vs))⟩ sl σ) := ext_new (w := ⟨w1.al, w1.S, upd w1.H dx (.own y)⟩) ny2
        have rl2 : RepL X.K ⟨w1.al, w1.S, upd (upd w1.H dx (.own y)) y (.ins T.C dx (ns.zip vs))⟩ vs ds := repL_new (w := ⟨w1.al, w1.S, upd w1.H dx (.own y)⟩) ny2 (repL_new ndx rl)
        exact k (.ref y) ⟨w1.al, w1.S, upd (upd w1.H dx (.own y)) y (.ins T.C dx (ns.zip vs))⟩ ok3 (x1.trans (x2.trans x3)) (Rep.ins T.at_ upd_same (by rw [rl.length, hn]) rl2) trivial
      · cases e
end
theorem le_fld {c x : Str} {f : EvF} (a : LE f) : LE (eFld c x f) := le_e1 a fun d r h st => h
theorem le_new {c : Str} {ns : List Str} {FA : EvA} (a : LA FA) : LE (eNew c ns FA) := fun sl r s h => by
  unfold eNew at h ⊢
  cases h1 : FA sl [] with
  | none => rw [h1] at h; cases h
  | some p =>
    obtain ⟨x, st1⟩ := p
    rw [h1] at h
    simp only [Option.bind_some] at h
    obtain ⟨e, k⟩ := a _ _ _ h1
    cases h2 : vals x with
    | none => rw [h2] at h; cases h
    | some ds =>
      rw [h2] at h
      simp only [Option.bind_some] at h
      split at h
      · rename_i hn
        cases h
        exact ⟨e, fun st => by rw [k st]; simp [h2, hn]⟩
      · cases h
end Vx


set_option Elab.async false
set_option linter.all false
set_option maxRecDepth 100000
/-! We: l.index(e) of a list. -/
namespace Vx
open PySem PySem.Spec L2
def cIndexL : Amb → Vx.D → Vx.D → Option R := fun _ x y => match x with
  | .lst l => if flat64 y = true ∧ flat64 (.lst l) = true then (firstIx y l).map fun j => .val (.int (j : Nat)) else none
  | _ => none
theorem ve_indexL {X : Cx} {a b : Expr} {f g : EvF} {apos cpos : Pos} (hu : X.A.units + 65 < cLine) (ha : VE X a f) (hb : VE X b g)
    (hbase : attributeBase a "index" X.env (eval a X.env) = eval a X.env := by rfl)
    (hfew : ((backTo cpos (starEach (b :: []) X.env)).all (fun x => !x.1) && (backToKw cpos (keywordEach [] X.env)).all (fun x => x.1.isSome) && decide ((b :: []).length + ([] : List Keyword).length + (if ([] : List Keyword).isEmpty then 0 else 1) < 30)) = true := by rfl)
    (hline : (apos.endLine == cpos.line) = true := by rfl) (hs : starEach (b :: []) X.env = (false, eval b X.env) :: starEach [] X.env := by rfl) (hplain : (backTo cpos (starEach [] X.env)).any (·.1) = false := by rfl) :
    VE X (.Call (.Attribute a "index" apos) [b] [] cpos) (e2 f g cIndexL) := by
  refine PEimp (pe_bm PySem.F.plainAttrs_list PySem.F.slot_list_index PySem.F.type_list_index (X := X) (r := rIndexD X.K) (mt_indexD hu) ha (pa_cons hb pa_nil hs) hbase hfew hline hs hplain) fun σ H Q h => ?_
  obtain ⟨al, S, sl, st, r, st', ok, e, k⟩ := h
  unfold e2 at e
  cases h1 : f sl st with
  | none => rw [h1] at e; cases e
  | some p =>
    obtain ⟨x, st1⟩ := p
    rw [h1] at e
    simp only [Option.bind_some] at e
    cases h2 : g sl st1 with
    | none => rw [h2] at e; cases e
    | some p =>
      obtain ⟨y, st2⟩ := p
      rw [h2] at e
      simp only [Option.bind_some] at e
      cases hx : x.d <;> rw [hx] at e <;> try (cases e; done)
      rename_i l
      simp only [cIndexL] at e
      split at e
      case isFalse => cases e
      rename_i hf
      cases hj : firstIx y.d l with
      | none => rw [hj] at e; cases e
      | some j =>
        rw [hj] at e
        cases e
        obtain ⟨d, g1, g2, g3⟩ := firstIx_some hj
        obtain ⟨f1, f2⟩ := flat64_iff.mp hf.1
        obtain ⟨f3, f4⟩ := flat64_iff.mp hf.2
        have f3' : D.datL l = true := by simpa [Vx.D.dat] using f3
        refine ⟨al, S, sl, st, _, st1, ok, h1, fun v w1 ok1 x1 rd1 fr1 => ?_⟩
        obtain ⟨q, vs, ev, hq, _⟩ := rd1.lst ok1 hx
        subst ev
        refine ⟨.inl ⟨rfl, vs, SqL.of hq⟩, ⟨w1.al, w1.S, sl, st1, y, _, ok1, h2, fun u w2 ok2 x2 rd2 fr2 => ?_⟩⟩
        have rx2 := rd1.ext ok1 x2
        have dpx := rx2.dp ok2 (by rw [hx]; exact f3)
        rw [hx] at dpx
        refine ⟨q, u, y.d.py, D.pyL l, j, d.py, rfl, rfl, dpx, rd2.dp ok2 f1, ?_, shaped_py f1 (by omega), py_get g1, ?_, fun m z' hm hz => ?_, k _ w2 ok2 (x1.trans x2) (show Rep X.K w2 (.int (j : Nat)) (.int (j : Nat)) from .int _) trivial⟩
        · exact shaped_py f3 (by omega)
        · rw [← eqv_py d y.d (datL_mem f3' d (List.mem_of_getElem? g1)) f1]; exact g2
        · rw [pyL_map, List.getElem?_map] at hz
          cases hm2 : l[m]? with
          | none => rw [hm2] at hz; cases hz
          | some d' =>
            rw [hm2] at hz
            cases hz
            rw [← eqv_py d' y.d (datL_mem f3' d' (List.mem_of_getElem? hm2)) f1]
            exact g3 m d' hm hm2
theorem c2_indexL : C2 cIndexL := fun x y r h st => h
end Vx


set_option Elab.async false
set_option linter.all false
set_option maxRecDepth 100000
/-! Wp: from the end backwards over the meanings of texts: what must hold for the rest to hold. -/
namespace Vx
open PySem PySem.Spec L2

def PP {α : Type} (o : Option (α × Amb)) (Q : α → Amb → Prop) : Prop := ∃ r st', o = some (r, st') ∧ Q r st'
theorem PP_some {α : Type} (r : α) (s : Amb) (Q : α → Amb → Prop) : PP (some (r, s)) Q = Q r s :=
  propext ⟨fun ⟨_, _, e, q⟩ => (by cases e; exact q), fun q => ⟨r, s, rfl, q⟩⟩
theorem PP_none {α : Type} (Q : α → Amb → Prop) : PP none Q = False := propext ⟨fun ⟨_, _, e, _⟩ => (nomatch e), False.elim⟩
def EP (f : EvF) (sl : Sls) (st : Amb) (Q : R → Amb → Prop) : Prop := PP (f sl st) Q
def BP (f : EvB) (sl : Sls) (st : Amb) (Q : Bool → Amb → Prop) : Prop := PP (f sl st) Q
def AP (f : EvA) (sl : Sls) (st : Amb) (Q : List R → Amb → Prop) : Prop := PP (f sl st) Q
def IP (f : EvI) (sl : Sls) (st : Amb) (Q : List Vx.D → Amb → Prop) : Prop := PP (f sl st) Q
def ZP (f : EvO) (sl : Sls) (st : Amb) (Q : Option Int → Amb → Prop) : Prop := PP (f sl st) Q
def MP (m : Mean) (ds : List Vx.D) (st : Amb) (Q : R → Amb → Prop) : Prop := PP (m ds st) Q
def OR {α : Type} (o : Option α) (Q : α → Prop) : Prop := ∃ r, o = some r ∧ Q r
def OK (N B C : Sls → Amb → Prop) (T : R → Amb → Prop) : Out → Prop
  | .nx s t => N s t
  | .bk s t => B s t
  | .ct s t => C s t
  | .rt r t => T r t
def SP (F : SvF) (sl : Sls) (st : Amb) (N B C : Sls → Amb → Prop) (T : R → Amb → Prop) : Prop := OR (F sl st) (OK N B C T)
/-- no way -/
def no2 {α β : Type} (_ : α) (_ : β) : Prop := False
theorem no2_eq {α β : Type} (a : α) (b : β) : no2 a b = False := rfl

section
variable {α β : Type}
theorem OR_some (r : α) (Q : α → Prop) : OR (some r) Q = Q r := propext ⟨fun ⟨_, e, q⟩ => (by cases e; exact q), fun q => ⟨r, rfl, q⟩⟩
theorem OR_none (Q : α → Prop) : OR none Q = False := propext ⟨fun ⟨_, e, _⟩ => (nomatch e), False.elim⟩
theorem OR_ite (c : Prop) [Decidable c] (r : α) (Q : α → Prop) : OR (if c then some r else none) Q = (c ∧ Q r) := by
  by_cases h : c <;> simp [OR_some, OR_none, h]
theorem OR_map (f : α → β) (o : Option α) (Q : β → Prop) : OR (o.map f) Q = OR o fun x => Q (f x) := by cases o <;> simp [OR_some, OR_none]
theorem OR_bind (f : α → Option β) (o : Option α) (Q : β → Prop) : OR (o.bind f) Q = OR o fun x => OR (f x) Q := by cases o <;> simp [OR_some, OR_none]
end
def slQ : Option Sl → (R → Prop) → Prop
  | some (.pub d), Q => Q (.val d)
  | some (.own l), Q => Q (.bor l)
  | _, _ => False
/-- what slot i holds -/
def slG (i : Nat) (sl : Sls) (Q : R → Prop) : Prop := slQ sl[i]? Q
/-- slot i is written -/
def stG (i : Nat) (x : Sl) (sl : Sls) (Q : Sls → Prop) : Prop := i < sl.length ∧ Q (sl.set i x)
def asgQ (t : Tg) (d : Vx.D) (sl : Sls) (Q : Sls → Prop) : Prop := OR (put t d sl) Q
def putQ (is : List Nat) (ds : List Vx.D) (sl : Sls) (Q : Sls → Prop) : Prop := OR (putN is ds sl) Q
def putKQ (i : Nat) (o : Bool) (r : R) (sl : Sls) (Q : Sls → Prop) : Prop := OR (putK i o r sl) Q
def ownG (i : Nat) (sl : Sls) (Q : List Vx.D → Prop) : Prop := match sl[i]? with
  | some (.own l) => Q l
  | _ => False
def dQ (r : R) (Q : Vx.D → Prop) : Prop := Q r.d
def dsQ (rs : List R) (Q : List Vx.D → Prop) : Prop := Q (rs.map R.d)
/-- what follows -/
def Th (G : SvF) (N B C : Sls → Amb → Prop) (T : R → Amb → Prop) : Sls → Amb → Prop := fun s t => OR (G s t) (OK N B C T)
section
variable {d : Vx.D} {l : List Vx.D} {s : Sl} {sl : Sls} {Q : R → Prop} {P : Sls → Prop} {n : Nat} {q : List Vx.D → Prop}
theorem slG_succ : slG (n + 1) (s :: sl) Q = slG n sl Q := rfl
theorem slG_pub : slG 0 (.pub d :: sl) Q = Q (.val d) := rfl
theorem slG_own : slG 0 (.own l :: sl) Q = Q (.bor l) := rfl
theorem stG_succ {x : Sl} : stG (n + 1) x (s :: sl) P = stG n x sl fun z => P (s :: z) := by unfold stG; simp
theorem stG_0 {x : Sl} : stG 0 x (s :: sl) P = P (x :: sl) := by unfold stG; simp
theorem asgQ_name : asgQ (.name n) d sl P = stG n (.pub d) sl P := by
  unfold asgQ stG put
  simp only
  by_cases h : n < sl.length <;> simp [h, OR_some, OR_none]
theorem asgQ_names {is : List Nat} : asgQ (.names is) (.tup l) sl P = putQ is l sl P := rfl
theorem putQ_nil : putQ [] [] sl P = P sl := by unfold putQ putN; rw [OR_some]
theorem putQ_cons {is : List Nat} : putQ (n :: is) (d :: l) sl P = stG n (.pub d) sl fun z => putQ is l z P := by
  unfold putQ stG
  rw [putN]
  by_cases h : n < sl.length <;> simp [h, OR_none]
theorem putKQ_pub : putKQ n false (.val d) sl P = stG n (.pub d) sl P := by
  unfold putKQ putK stG
  by_cases h : n < sl.length <;> simp [h, OR_some, OR_none]
theorem putKQ_own : putKQ n true (.prv l) sl P = stG n (.own l) sl P := by
  unfold putKQ putK stG
  by_cases h : n < sl.length <;> simp [h, OR_some, OR_none]
theorem ownG_succ : ownG (n + 1) (s :: sl) q = ownG n sl q := rfl
theorem ownG_own : ownG 0 (.own l :: sl) q = q l := rfl
theorem dQ_val {Q : Vx.D → Prop} : dQ (.val d) Q = Q d := rfl
theorem dQ_prv {Q : Vx.D → Prop} : dQ (.prv l) Q = Q (.lst l) := rfl
theorem dQ_bor {Q : Vx.D → Prop} : dQ (.bor l) Q = Q (.lst l) := rfl
theorem dsQ_nil : dsQ [] q = q [] := rfl
theorem dsQ_cons {r : R} {rs : List R} : dsQ (r :: rs) q = dQ r fun d => dsQ rs fun ds => q (d :: ds) := rfl
end
def pubQ : R → (Vx.D → Prop) → Prop
  | .val d, Q => Q d
  | .prv l, Q => Q (.lst l)
  | .bor _, _ => False
def valsQ : List R → (List Vx.D → Prop) → Prop
  | [], Q => Q []
  | .val d :: rs, Q => valsQ rs fun ds => Q (d :: ds)
  | _ :: _, _ => False
def blQ : R → (Bool → Prop) → Prop
  | .val (.bl b), Q => Q b
  | _, _ => False
def intQ : R → (Int → Prop) → Prop
  | .val (.int b), Q => Q b
  | _, _ => False
def rtQ : R → (R → Prop) → Prop
  | .bor _, _ => False
  | r, Q => Q r
def seqQ : R → (List Vx.D → Prop) → Prop
  | .val (.lst l), Q => Q l
  | .val (.frz l), Q => Q l
  | .prv l, Q => Q l
  | _, _ => False
def tupQ : R → (List Vx.D → Prop) → Prop
  | .val (.tup l), Q => Q l
  | .val (.tpc l), Q => Q l
  | _, _ => False
def prvQ : R → (List Vx.D → Prop) → Prop
  | .prv l, Q => Q l
  | _, _ => False
def ownQ : Option Sl → (List Vx.D → Prop) → Prop
  | some (.own l), Q => Q l
  | _, _ => False
def twoQ : List R → (R → R → Prop) → Prop
  | [x, y], Q => Q x y
  | _, _ => False
def lstQ : Vx.D → (List Vx.D → Prop) → Prop
  | .lst l, Q => Q l
  | _, _ => False

section
variable {d : Vx.D} {l : List Vx.D} {rs : List R} {b : Bool} {i : Int} {x y : R} {P : Vx.D → Prop} {L : List Vx.D → Prop} {Z : R → Prop}
theorem pubQ_val : pubQ (.val d) P = P d := rfl
theorem pubQ_prv : pubQ (.prv l) P = P (.lst l) := rfl
theorem valsQ_nil : valsQ [] L = L [] := rfl
theorem valsQ_val : valsQ (.val d :: rs) L = valsQ rs fun ds => L (d :: ds) := rfl
theorem blQ_bl {P : Bool → Prop} : blQ (.val (.bl b)) P = P b := rfl
theorem intQ_int {P : Int → Prop} : intQ (.val (.int i)) P = P i := rfl
theorem rtQ_val : rtQ (.val d) Z = Z (.val d) := rfl
theorem rtQ_prv : rtQ (.prv l) Z = Z (.prv l) := rfl
theorem seqQ_lst : seqQ (.val (.lst l)) L = L l := rfl
theorem seqQ_frz : seqQ (.val (.frz l)) L = L l := rfl
theorem seqQ_prv : seqQ (.prv l) L = L l := rfl
theorem tupQ_tup : tupQ (.val (.tup l)) L = L l := rfl
theorem tupQ_tpc : tupQ (.val (.tpc l)) L = L l := rfl
theorem prvQ_prv : prvQ (.prv l) L = L l := rfl
theorem twoQ_two {P : R → R → Prop} : twoQ [x, y] P = P x y := rfl
theorem lstQ_lst : lstQ (.lst l) L = L l := rfl
end
section
variable {sl : Sls} {st : Amb} {Q : R → Amb → Prop}
theorem EP_C (d : Vx.D) : EP (eC d) sl st Q = Q (.val d) st := by simp [PP_some, PP_none, OR_some, OR_none, EP, eC]
theorem EP_var (i : Nat) : EP (eVar i) sl st Q = slG i sl fun r => Q r st := by
  unfold EP eVar slG
  cases sl[i]? with
  | none => simp [PP_some, PP_none, OR_some, OR_none, slQ]
  | some s => cases s <;> simp [PP_some, PP_none, OR_some, OR_none, slQ]
theorem EP_pub (f : EvF) : EP (ePub f) sl st Q = EP f sl st fun r st1 => pubQ r fun d => Q (.val d) st1 := by
  unfold EP ePub
  cases f sl st with
  | none => simp [PP_some, PP_none, OR_some, OR_none]
  | some p => obtain ⟨r, s⟩ := p; cases r <;> simp [PP_some, PP_none, OR_some, OR_none, pubQ]
theorem EP_e1 (f : EvF) (c : Amb → Vx.D → Option R) : EP (e1 f c) sl st Q = EP f sl st fun r st1 => dQ r fun x => OR (c st1 x) fun z => Q z st1 := by
  unfold EP e1 dQ
  cases f sl st with
  | none => simp [PP_some, PP_none, OR_some, OR_none]
  | some p => obtain ⟨r, s⟩ := p; cases h : c s r.d <;> simp [PP_some, PP_none, OR_some, OR_none, h]
theorem EP_e2 (f g : EvF) (c : Amb → Vx.D → Vx.D → Option R) : EP (e2 f g c) sl st Q = EP f sl st fun r st1 => dQ r fun x => EP g sl st1 fun q st2 => dQ q fun y => OR (c st2 x y) fun z => Q z st2 := by
  unfold EP e2 dQ
  cases f sl st with
  | none => simp [PP_some, PP_none, OR_some, OR_none]
  | some p =>
    obtain ⟨r, s⟩ := p
    cases hg : g sl s with
    | none => simp [PP_some, PP_none, OR_some, OR_none, hg]
    | some q => obtain ⟨q, t⟩ := q; cases h : c t r.d q.d <;> simp [PP_some, PP_none, OR_some, OR_none, hg, h]
theorem AP_nil {Q : List R → Amb → Prop} : AP eNil sl st Q = Q [] st := by simp [PP_some, PP_none, OR_some, OR_none, AP, eNil]
theorem AP_cons {Q : List R → Amb → Prop} (f : EvF) (F : EvA) : AP (eCons f F) sl st Q = EP f sl st fun r st1 => AP F sl st1 fun rs st2 => Q (r :: rs) st2 := by
  unfold AP EP eCons
  cases f sl st with
  | none => simp [PP_some, PP_none, OR_some, OR_none]
  | some p =>
    obtain ⟨r, s⟩ := p
    cases hg : F sl s with
    | none => simp [PP_some, PP_none, OR_some, OR_none, hg]
    | some q => obtain ⟨q, t⟩ := q; simp [PP_some, PP_none, OR_some, OR_none, hg]
theorem EP_A (F : EvA) (c : Amb → List Vx.D → Option R) : EP (eA F c) sl st Q = AP F sl st fun rs st1 => dsQ rs fun xs => OR (c st1 xs) fun z => Q z st1 := by
  unfold EP eA AP dsQ
  cases F sl st with
  | none => simp [PP_some, PP_none, OR_some, OR_none]
  | some p => obtain ⟨r, s⟩ := p; cases h : c s (r.map R.d) <;> simp [PP_some, PP_none, OR_some, OR_none, h]
theorem valsQ_eq : ∀ (rs : List R) (P : List Vx.D → Prop), valsQ rs P = OR (vals rs) P
  | [], P => by simp [PP_some, PP_none, OR_some, OR_none, valsQ, vals, OR]
  | .val d :: rs, P => by rw [valsQ, valsQ_eq rs, vals, OR_map]
  | .prv _ :: _, P => by simp [PP_some, PP_none, OR_some, OR_none, valsQ, vals, OR]
  | .bor _ :: _, P => by simp [PP_some, PP_none, OR_some, OR_none, valsQ, vals, OR]
theorem EP_tup (F : EvA) : EP (eTup F) sl st Q = AP F sl st fun rs st1 => valsQ rs fun ds => ds.length ≤ line ∧ Q (.val (.tup ds)) st1 := by
  unfold EP eTup AP
  cases F sl st with
  | none => simp [PP_some, PP_none, OR_some, OR_none]
  | some p =>
    obtain ⟨r, s⟩ := p
    simp only [valsQ_eq]
    cases h : vals r with
    | none => simp [PP_some, PP_none, OR_some, OR_none, h]
    | some ds => by_cases hz : ds.length ≤ line <;> simp [PP_some, PP_none, OR_some, OR_none, h, hz]
theorem EP_lst (F : EvA) : EP (eLst F) sl st Q = AP F sl st fun rs st1 => valsQ rs fun ds => ds.length ≤ line ∧ Q (.prv ds) st1 := by
  unfold EP eLst AP
  cases F sl st with
  | none => simp [PP_some, PP_none, OR_some, OR_none]
  | some p =>
    obtain ⟨r, s⟩ := p
    simp only [valsQ_eq]
    cases h : vals r with
    | none => simp [PP_some, PP_none, OR_some, OR_none, h]
    | some ds => by_cases hz : ds.length ≤ line <;> simp [PP_some, PP_none, OR_some, OR_none, h, hz]
theorem EP_call (m : Mean) (F : EvA) : EP (eCall m F) sl st Q = AP F sl st fun rs st1 => valsQ rs fun ds => MP m ds st1 Q := by
  unfold EP eCall AP MP
  cases F sl st with
  | none => simp [PP_some, PP_none, OR_some, OR_none]
  | some p =>
    obtain ⟨r, s⟩ := p
    simp only [valsQ_eq]
    cases h : vals r with
    | none => simp [PP_some, PP_none, OR_some, OR_none, h]
    | some ds => simp [PP_some, PP_none, OR_some, OR_none, h]
theorem EP_callK (m : Mean) (ix : List Nat) (F : EvA) : EP (eCallK m ix F) sl st Q = AP F sl st fun rs st1 => valsQ rs fun ds => MP m (pick ix ds) st1 Q := by
  unfold EP eCallK AP MP
  cases F sl st with
  | none => simp [PP_some, PP_none, OR_some, OR_none]
  | some p =>
    obtain ⟨r, s⟩ := p
    simp only [valsQ_eq]
    cases h : vals r with
    | none => simp [PP_some, PP_none, OR_some, OR_none, h]
    | some ds => simp [PP_some, PP_none, OR_some, OR_none, h]
theorem EP_if (t : EvB) (f g : EvF) : EP (eIf t f g) sl st Q = BP t sl st fun c st1 => (c = true → EP f sl st1 Q) ∧ (c = false → EP g sl st1 Q) := by
  unfold EP eIf BP
  cases t sl st with
  | none => simp [PP_some, PP_none, OR_some, OR_none]
  | some p => obtain ⟨c, s⟩ := p; cases c <;> simp [PP_some, PP_none, OR_some, OR_none]
theorem ZP_none {Q : Option Int → Amb → Prop} : ZP oNone sl st Q = Q none st := by simp [PP_some, PP_none, OR_some, OR_none, ZP, oNone]
theorem ZP_some {Q : Option Int → Amb → Prop} (f : EvF) : ZP (oSome f) sl st Q = EP f sl st fun r st1 => intQ r fun i => Q (some i) st1 := by
  unfold EP ZP oSome
  cases f sl st with
  | none => simp [PP_some, PP_none, OR_some, OR_none]
  | some p =>
    obtain ⟨r, s⟩ := p
    cases r with
    | val d => cases d <;> simp [PP_some, PP_none, OR_some, OR_none, intQ]
    | prv l => simp [PP_some, PP_none, OR_some, OR_none, intQ]
    | bor l => simp [PP_some, PP_none, OR_some, OR_none, intQ]
theorem EP_sl (f : EvF) (l h : EvO) : EP (eSl f l h) sl st Q = EP f sl st fun r st1 => dQ r fun x => ZP l sl st1 fun a st2 => ZP h sl st2 fun b st3 => OR (cSl st3 x a b) fun z => Q z st3 := by
  unfold EP eSl ZP dQ
  cases f sl st with
  | none => simp [PP_some, PP_none, OR_some, OR_none]
  | some p =>
    obtain ⟨r, s⟩ := p
    cases hg : l sl s with
    | none => simp [PP_some, PP_none, OR_some, OR_none, hg]
    | some q =>
      obtain ⟨q, t⟩ := q
      cases hh : h sl t with
      | none => simp [PP_some, PP_none, OR_some, OR_none, hg, hh]
      | some z => obtain ⟨z, u⟩ := z; cases hc : cSl u r.d q z <;> simp [PP_some, PP_none, OR_some, OR_none, hg, hh, hc]
theorem EP_andV (f g : EvF) : EP (eAndV f g) sl st Q = EP f sl st fun r st1 => blQ r fun c => (c = true → EP g sl st1 Q) ∧ (c = false → Q (.val (.bl false)) st1) := by
  unfold EP eAndV
  cases f sl st with
  | none => simp [PP_some, PP_none, OR_some, OR_none]
  | some p =>
    obtain ⟨r, s⟩ := p
    cases r with
    | val d => cases d with
      | bl b => cases b <;> simp [PP_some, PP_none, OR_some, OR_none, blQ]
      | _ => simp [PP_some, PP_none, OR_some, OR_none, blQ]
    | prv l => simp [PP_some, PP_none, OR_some, OR_none, blQ]
    | bor l => simp [PP_some, PP_none, OR_some, OR_none, blQ]
theorem EP_orV (f g : EvF) : EP (eOrV f g) sl st Q = EP f sl st fun r st1 => blQ r fun c => (c = false → EP g sl st1 Q) ∧ (c = true → Q (.val (.bl true)) st1) := by
  unfold EP eOrV
  cases f sl st with
  | none => simp [PP_some, PP_none, OR_some, OR_none]
  | some p =>
    obtain ⟨r, s⟩ := p
    cases r with
    | val d => cases d with
      | bl b => cases b <;> simp [PP_some, PP_none, OR_some, OR_none, blQ]
      | _ => simp [PP_some, PP_none, OR_some, OR_none, blQ]
    | prv l => simp [PP_some, PP_none, OR_some, OR_none, blQ]
    | bor l => simp [PP_some, PP_none, OR_some, OR_none, blQ]
theorem EP_notV (f : EvF) : EP (eNotV f) sl st Q = EP f sl st fun r st1 => blQ r fun b => Q (.val (.bl !b)) st1 := by
  unfold eNotV
  rw [EP_e1]
  congr 1
  funext r s
  unfold dQ
  cases r with
  | val d => cases d <;> simp [PP_some, PP_none, OR_some, OR_none, R.d, blQ]
  | prv l => simp [PP_some, PP_none, OR_some, OR_none, R.d, blQ]
  | bor l => simp [PP_some, PP_none, OR_some, OR_none, R.d, blQ]
theorem EP_neg (f : EvF) : EP (eNeg f) sl st Q = EP f sl st fun r st1 => dQ r fun x => OR (cNeg st1 x) fun z => Q z st1 := EP_e1 f cNeg
theorem evD_eq {f : EvF} {P : Vx.D → Amb → Prop} : PP (evD f sl st) P = EP f sl st fun r s => pubQ r fun d => P d s := by
  unfold evD ePub EP
  cases f sl st with
  | none => simp [PP_some, PP_none, OR_some, OR_none]
  | some p => obtain ⟨r, s⟩ := p; cases r <;> simp [PP_some, PP_none, OR_some, OR_none, pubQ]
end
section
variable {sl : Sls} {st : Amb} {Q : Bool → Amb → Prop}
theorem BP_T (f : EvF) : BP (eT f) sl st Q = EP f sl st fun r st1 => blQ r fun b => Q b st1 := by
  unfold BP eT EP
  cases f sl st with
  | none => simp [PP_some, PP_none, OR_some, OR_none]
  | some p =>
    obtain ⟨r, s⟩ := p
    cases r with
    | val d => cases d <;> simp [PP_some, PP_none, OR_some, OR_none, blQ]
    | prv l => simp [PP_some, PP_none, OR_some, OR_none, blQ]
    | bor l => simp [PP_some, PP_none, OR_some, OR_none, blQ]
theorem BP_and (f g : EvB) : BP (tAndB f g) sl st Q = BP f sl st fun c st1 => (c = true → BP g sl st1 Q) ∧ (c = false → Q false st1) := by
  unfold BP tAndB
  cases f sl st with
  | none => simp [PP_some, PP_none, OR_some, OR_none]
  | some p => obtain ⟨c, s⟩ := p; cases c <;> simp [PP_some, PP_none, OR_some, OR_none]
theorem BP_or (f g : EvB) : BP (tOrB f g) sl st Q = BP f sl st fun c st1 => (c = false → BP g sl st1 Q) ∧ (c = true → Q true st1) := by
  unfold BP tOrB
  cases f sl st with
  | none => simp [PP_some, PP_none, OR_some, OR_none]
  | some p => obtain ⟨c, s⟩ := p; cases c <;> simp [PP_some, PP_none, OR_some, OR_none]
theorem BP_not (f : EvB) : BP (tNotB f) sl st Q = BP f sl st fun c st1 => Q (!c) st1 := by
  unfold BP tNotB
  cases f sl st with
  | none => simp [PP_some, PP_none, OR_some, OR_none]
  | some p => obtain ⟨c, s⟩ := p; simp [PP_some, PP_none, OR_some, OR_none]
theorem BP_yes : BP tYesB sl st Q = Q true st := by simp [PP_some, PP_none, OR_some, OR_none, BP, tYesB]
end
section
variable {sl : Sls} {st : Amb} {Q : List Vx.D → Amb → Prop}
theorem IP_seq (f : EvF) : IP (iSeq f) sl st Q = EP f sl st fun r st1 => seqQ r fun l => Q l st1 := by
  unfold IP iSeq EP
  cases f sl st with
  | none => simp [PP_some, PP_none, OR_some, OR_none]
  | some p =>
    obtain ⟨r, s⟩ := p
    cases r with
    | val d => cases d <;> simp [PP_some, PP_none, OR_some, OR_none, seqQ]
    | prv l => simp [PP_some, PP_none, OR_some, OR_none, seqQ]
    | bor l => simp [PP_some, PP_none, OR_some, OR_none, seqQ]
theorem IP_tup (f : EvF) : IP (iTupD f) sl st Q = EP f sl st fun r st1 => tupQ r fun l => Q l st1 := by
  unfold IP iTupD EP
  cases f sl st with
  | none => simp [PP_some, PP_none, OR_some, OR_none]
  | some p =>
    obtain ⟨r, s⟩ := p
    cases r with
    | val d => cases d <;> simp [PP_some, PP_none, OR_some, OR_none, tupQ]
    | prv l => simp [PP_some, PP_none, OR_some, OR_none, tupQ]
    | bor l => simp [PP_some, PP_none, OR_some, OR_none, tupQ]
theorem IP_enum (f : EvF) : IP (iEnum f) sl st Q = EP f sl st fun r st1 => tupQ r fun l => Q (enD 0 l) st1 := by
  unfold IP iEnum EP
  cases f sl st with
  | none => simp [PP_some, PP_none, OR_some, OR_none]
  | some p =>
    obtain ⟨r, s⟩ := p
    cases r with
    | val d => cases d <;> simp [PP_some, PP_none, OR_some, OR_none, tupQ]
    | prv l => simp [PP_some, PP_none, OR_some, OR_none, tupQ]
    | bor l => simp [PP_some, PP_none, OR_some, OR_none, tupQ]
theorem IP_rg1 (f : EvF) : IP (iRg1 (eCons f eNil)) sl st Q = EP f sl st fun r st1 => intQ r fun n => (-4611686018427387904 ≤ n ∧ n < 4611686018427387904) ∧ Q (rg 0 n) st1 := by
  unfold IP iRg1 EP eCons eNil
  cases f sl st with
  | none => simp [PP_some, PP_none, OR_some, OR_none]
  | some p =>
    obtain ⟨r, s⟩ := p
    cases r with
    | val d =>
      cases d with
      | int n => by_cases h : -4611686018427387904 ≤ n ∧ n < 4611686018427387904 <;> simp [PP_some, PP_none, OR_some, OR_none, intQ, h]
      | _ => simp [PP_some, PP_none, OR_some, OR_none, intQ]
    | prv l => simp [PP_some, PP_none, OR_some, OR_none, intQ]
    | bor l => simp [PP_some, PP_none, OR_some, OR_none, intQ]
end
section
variable {sl : Sls} {st : Amb} {N B C : Sls → Amb → Prop} {T : R → Amb → Prop}
theorem SP_seq (F G : SvF) : SP (sSeq F G) sl st N B C T = SP F sl st (Th G N B C T) B C T := by
  unfold SP sSeq Th
  cases F sl st with
  | none => simp [PP_some, PP_none, OR_some, OR_none]
  | some o => cases o <;> simp [PP_some, PP_none, OR_some, OR_none, OK]
theorem Th_app (G : SvF) : Th G N B C T sl st = SP G sl st N B C T := rfl
theorem SP_nil : SP sNil sl st N B C T = N sl st := by simp [PP_some, PP_none, OR_some, OR_none, SP, sNil, OK]
theorem SP_pass : SP sPass sl st N B C T = N sl st := by simp [PP_some, PP_none, OR_some, OR_none, SP, sPass, OK]
theorem SP_break : SP sBreak sl st N B C T = B sl st := by simp [PP_some, PP_none, OR_some, OR_none, SP, sBreak, OK]
theorem SP_cont : SP sCont sl st N B C T = C sl st := by simp [PP_some, PP_none, OR_some, OR_none, SP, sCont, OK]
theorem SP_if (t : EvB) (F G : SvF) : SP (sIf t F G) sl st N B C T = BP t sl st fun c st1 => (c = true → SP F sl st1 N B C T) ∧ (c = false → SP G sl st1 N B C T) := by
  unfold SP sIf BP
  cases t sl st with
  | none => simp [PP_some, PP_none, OR_some, OR_none]
  | some p => obtain ⟨c, s⟩ := p; cases c <;> simp [PP_some, PP_none, OR_some, OR_none]
theorem SP_ret (f : EvF) : SP (sRet f) sl st N B C T = EP f sl st fun r st1 => rtQ r fun r => T r st1 := by
  unfold SP sRet EP
  cases f sl st with
  | none => simp [PP_some, PP_none, OR_some, OR_none]
  | some p => obtain ⟨r, s⟩ := p; cases r <;> simp [PP_some, PP_none, OR_some, OR_none, rtQ, OK]
theorem SP_retN : SP sRetN sl st N B C T = T (.val .non) st := by simp [PP_some, PP_none, OR_some, OR_none, SP, sRetN, OK]
theorem SP_retO (i : Nat) : SP (sRetO i) sl st N B C T = ownG i sl fun l => T (.prv l) st := by
  unfold SP sRetO ownG
  cases sl[i]? with
  | none => simp [PP_some, PP_none, OR_some, OR_none]
  | some s => cases s <;> simp [PP_some, PP_none, OR_some, OR_none, OK]
theorem SP_drop (f : EvF) : SP (sDrop f) sl st N B C T = EP f sl st fun _ st1 => N sl st1 := by
  unfold SP sDrop EP
  cases f sl st with
  | none => simp [PP_some, PP_none, OR_some, OR_none]
  | some p => obtain ⟨r, s⟩ := p; simp [PP_some, PP_none, OR_some, OR_none, OK]
theorem SP_asg (t : Tg) (f : EvF) : SP (sAsg t f) sl st N B C T = EP f sl st fun r st1 => pubQ r fun d => asgQ t d sl fun s => N s st1 := by
  unfold SP sAsg EP ePub asgQ
  cases f sl st with
  | none => simp [PP_some, PP_none, OR_some, OR_none]
  | some p =>
    obtain ⟨r, s⟩ := p
    cases r with
    | val d => cases h : put t d sl <;> simp [PP_some, PP_none, OR_some, OR_none, pubQ, OR, h, OK]
    | prv d => cases h : put t (.lst d) sl <;> simp [PP_some, PP_none, OR_some, OR_none, pubQ, OR, h, OK]
    | bor d => simp [PP_some, PP_none, OR_some, OR_none, pubQ]
theorem SP_own (i : Nat) (f : EvF) : SP (sOwn i f) sl st N B C T = EP f sl st fun r st1 => prvQ r fun l => stG i (.own l) sl fun s => N s st1 := by
  unfold SP sOwn EP stG
  cases f sl st with
  | none => simp [PP_some, PP_none, OR_some, OR_none]
  | some p =>
    obtain ⟨r, s⟩ := p
    cases r with
    | val d => simp [PP_some, PP_none, OR_some, OR_none, prvQ]
    | bor d => simp [PP_some, PP_none, OR_some, OR_none, prvQ]
    | prv d => by_cases h : i < sl.length <;> simp [PP_some, PP_none, OR_some, OR_none, prvQ, h, OK]
theorem SP_app (i : Nat) (f : EvF) : SP (sApp i f) sl st N B C T = ownG i sl fun l => EP f sl st fun r st1 => pubQ r fun d => l.length < line ∧ stG i (.own (l ++ [d])) sl fun s => N s st1 := by
  unfold SP sApp EP ePub ownG
  cases hs : sl[i]? with
  | none => simp [PP_some, PP_none, OR_some, OR_none]
  | some s =>
    cases s with
    | un => simp [PP_some, PP_none, OR_some, OR_none]
    | pub d => simp [PP_some, PP_none, OR_some, OR_none]
    | own l =>
      have hi : i < sl.length := (List.getElem?_eq_some_iff.mp hs).1
      cases f sl st with
      | none => simp [PP_some, PP_none, OR_some, OR_none]
      | some p =>
        obtain ⟨r, s⟩ := p
        cases r with
        | val d => by_cases h : l.length < line <;> simp [PP_some, PP_none, OR_some, OR_none, stG, dQ, hi, pubQ, h, OK]
        | prv d => by_cases h : l.length < line <;> simp [PP_some, PP_none, OR_some, OR_none, stG, dQ, hi, pubQ, h, OK]
        | bor d => simp [PP_some, PP_none, OR_some, OR_none, stG, dQ, hi, pubQ]
theorem SP_ext (i : Nat) (f : EvF) : SP (sExt i f) sl st N B C T = ownG i sl fun l => EP f sl st fun r st1 => dQ r fun x => lstQ x fun m => l.length + m.length ≤ line ∧ stG i (.own (l ++ m)) sl fun s => N s st1 := by
  unfold SP sExt EP ownG
  cases hs : sl[i]? with
  | none => simp [PP_some, PP_none, OR_some, OR_none]
  | some s =>
    cases s with
    | un => simp [PP_some, PP_none, OR_some, OR_none]
    | pub d => simp [PP_some, PP_none, OR_some, OR_none]
    | own l =>
      have hi : i < sl.length := (List.getElem?_eq_some_iff.mp hs).1
      cases f sl st with
      | none => simp [PP_some, PP_none, OR_some, OR_none]
      | some p =>
        obtain ⟨r, s⟩ := p
        cases h : r.d with
        | lst m => by_cases hz : l.length + m.length ≤ line <;> simp [PP_some, PP_none, OR_some, OR_none, stG, dQ, hi, lstQ, h, hz, OK]
        | _ => simp [PP_some, PP_none, OR_some, OR_none, stG, dQ, hi, lstQ, h]
theorem SP_popA (t : Tg) (i : Nat) : SP (sPopA t i) sl st N B C T = ownG i sl fun l => OR l[l.length - 1]? fun d => stG i (.own l.dropLast) sl fun s0 => asgQ t d s0 fun s => N s st := by
  unfold SP sPopA ownG asgQ
  cases hs : sl[i]? with
  | none => simp [PP_some, PP_none, OR_some, OR_none]
  | some s =>
    cases s with
    | un => simp [PP_some, PP_none, OR_some, OR_none]
    | pub d => simp [PP_some, PP_none, OR_some, OR_none]
    | own l =>
      have hi : i < sl.length := (List.getElem?_eq_some_iff.mp hs).1
      simp only
      cases h : l[l.length - 1]? with
      | none => simp [PP_some, PP_none, OR_some, OR_none]
      | some d => cases h2 : put t d (sl.set i (.own l.dropLast)) <;> simp [PP_some, PP_none, OR_some, OR_none, stG, dQ, hi, OK, h2]
theorem SP_move (i j : Nat) : SP (sMove i j) sl st N B C T = ownG j sl fun l => i ≠ j ∧ stG j .un sl fun s => stG i (.pub (.lst l)) s fun s => N s st := by
  unfold SP sMove ownG
  cases hs : sl[j]? with
  | none => simp [PP_some, PP_none, OR_some, OR_none]
  | some s =>
    cases s with
    | un => simp [PP_some, PP_none, OR_some, OR_none]
    | pub d => simp [PP_some, PP_none, OR_some, OR_none]
    | own l =>
      have hi : j < sl.length := (List.getElem?_eq_some_iff.mp hs).1
      by_cases h1 : i < sl.length <;> by_cases h2 : i = j <;> simp [PP_some, PP_none, OR_some, OR_none, stG, dQ, hi, h1, h2, OK]
theorem SP_par (i j : Nat) (a b : Bool) (F : EvA) : SP (sPar i j a b F) sl st N B C T = AP F sl st fun rs st1 => twoQ rs fun x y => putKQ i a x sl fun s => putKQ j b y s fun s => N s st1 := by
  unfold SP sPar AP putKQ
  cases F sl st with
  | none => simp [PP_some, PP_none, OR_some, OR_none, twoQ]
  | some p =>
    obtain ⟨rs, s⟩ := p
    match rs with
    | [] => simp [PP_some, PP_none, OR_some, OR_none, twoQ]
    | [_] => simp [PP_some, PP_none, OR_some, OR_none, twoQ]
    | [x, y] =>
      cases h : putK i a x sl with
      | none => simp [PP_some, PP_none, OR_some, OR_none, twoQ, h]
      | some s1 => cases h2 : putK j b y s1 <;> simp [PP_some, PP_none, OR_some, OR_none, twoQ, h, h2, OK]
    | _ :: _ :: _ :: _ => simp [PP_some, PP_none, OR_some, OR_none, twoQ]
theorem MP_mean (n m : Nat) (F : SvF) (ds : List Vx.D) {Q : R → Amb → Prop} : MP (meanOf n m F) ds st Q = SP F (ds.map .pub ++ List.replicate (n - m) .un) st (fun _ t => Q (.val .non) t) no2 no2 Q := by
  unfold MP meanOf SP
  cases h : F (ds.map .pub ++ List.replicate (n - m) .un) st with
  | none => simp [PP_some, PP_none, OR_some, OR_none]
  | some o => cases o <;> simp [PP_some, PP_none, OR_some, OR_none, OK, no2]
theorem MP_of {m : Mean} {ds : List Vx.D} {Q : R → Amb → Prop} {r : R} {st' : Amb} (h : m ds st = some (r, st')) : MP m ds st Q = Q r st' := by simp [PP_some, PP_none, OR_some, OR_none, MP, h]
theorem of_MP {m : Mean} {ds : List Vx.D} {r : R} {st' : Amb} (h : MP m ds st fun a b => a = r ∧ b = st') : m ds st = some (r, st') := by
  obtain ⟨a, b, e, rfl, rfl⟩ := h
  exact e
theorem MP.imp {m : Mean} {ds : List Vx.D} {Q Q' : R → Amb → Prop} (h : MP m ds st Q) (i : ∀ r t, Q r t → Q' r t) : MP m ds st Q' := by
  obtain ⟨a, b, e, q⟩ := h
  exact ⟨a, b, e, i a b q⟩
theorem EP.imp {f : EvF} {Q Q' : R → Amb → Prop} (h : EP f sl st Q) (i : ∀ r t, Q r t → Q' r t) : EP f sl st Q' := by
  obtain ⟨a, b, e, q⟩ := h
  exact ⟨a, b, e, i a b q⟩
theorem OK.imp {N' B' C' : Sls → Amb → Prop} {T' : R → Amb → Prop} {o : Out} (h : OK N B C T o) (n : ∀ s t, N s t → N' s t) (b : ∀ s t, B s t → B' s t) (c : ∀ s t, C s t → C' s t) (k : ∀ r t, T r t → T' r t) : OK N' B' C' T' o := by
  cases o with
  | nx s t => exact n s t h
  | bk s t => exact b s t h
  | ct s t => exact c s t h
  | rt s t => exact k s t h
theorem SP.imp {F : SvF} {N' B' C' : Sls → Amb → Prop} {T' : R → Amb → Prop} (h : SP F sl st N B C T) (n : ∀ s t, N s t → N' s t) (b : ∀ s t, B s t → B' s t) (c : ∀ s t, C s t → C' s t) (k : ∀ r t, T r t → T' r t) : SP F sl st N' B' C' T' := by
  obtain ⟨o, e, q⟩ := h
  exact ⟨o, e, q.imp n b c k⟩
/-- the turns of a loop -/
def FL (t : Tg) (F : SvF) (l : List Vx.D) (sl : Sls) (st : Amb) (N B C : Sls → Amb → Prop) (T : R → Amb → Prop) : Prop := OR (forL t F l sl st) (OK N B C T)
def FLk (t : Tg) (F : SvF) (l : List Vx.D) (N B C : Sls → Amb → Prop) (T : R → Amb → Prop) : Sls → Amb → Prop := fun s u => OR (forL t F l s u) (OK N B C T)
theorem FLk_app (t : Tg) (F : SvF) (l : List Vx.D) : FLk t F l N B C T sl st = FL t F l sl st N B C T := rfl
theorem SP_forI (fi : EvI) (t : Tg) (F : SvF) : SP (sFor fi t F) sl st N B C T = IP fi sl st fun l st1 => FL t F l sl st1 N B C T := by
  unfold SP sFor IP FL
  cases fi sl st with
  | none => simp [PP_none, OR_none]
  | some p => obtain ⟨r, s⟩ := p; simp [PP_some]
theorem FL_nil (t : Tg) (F : SvF) : FL t F [] sl st N B C T = N sl st := by unfold FL; rw [forL, OR_some]; rfl
theorem FL_cons (t : Tg) (F : SvF) (d : Vx.D) (l : List Vx.D) : FL t F (d :: l) sl st N B C T = asgQ t d sl fun s1 => SP F s1 st (FLk t F l N B C T) N (FLk t F l N B C T) T := by
  unfold FL SP asgQ
  rw [forL]
  cases put t d sl with
  | none => simp [OR_none]
  | some s1 =>
    simp only [Option.bind_some, OR_some]
    cases F s1 st with
    | none => simp [OR_none]
    | some o => cases o <;> simp [OR_some, OK, FLk]
/-- a loop by an invariant over what is done and what is left -/
theorem FL_for {α : Type} (en : α → Vx.D) (xs : List α) (I : List α → List α → Sls → Amb → Prop) {l : List Vx.D} {t : Tg} {F : SvF}
    (e : l = xs.map en) (i0 : I [] xs sl st)
    (step : ∀ (ds : List α) (x : α) (rest : List α), xs = ds ++ x :: rest → ∀ s u, I ds (x :: rest) s u → asgQ t (en x) s fun s1 => SP F s1 u (I (ds ++ [x]) rest) N (I (ds ++ [x]) rest) T)
    (fin : ∀ s u, I xs [] s u → N s u) : FL t F l sl st N B C T := by
  subst e
  have go : ∀ (rest ds : List α) (s : Sls) (u : Amb), xs = ds ++ rest → I ds rest s u → FL t F (rest.map en) s u N B C T := by
    intro rest
    induction rest with
    | nil =>
      intro ds s u hx hi
      rw [List.append_nil] at hx
      subst hx
      rw [List.map_nil, FL_nil]
      exact fin s u hi
    | cons x rest ih =>
      intro ds s u hx hi
      have hx' : xs = (ds ++ [x]) ++ rest := by simp [hx]
      rw [List.map_cons, FL_cons]
      obtain ⟨s1, e1, k⟩ := step ds x rest hx s u hi
      exact ⟨s1, e1, k.imp (fun s t h => ih _ s t hx' h) (fun s t h => h) (fun s t h => ih _ s t hx' h) fun r t h => h⟩
  exact go xs [] sl st rfl i0
/-- a while loop by an invariant and a measure -/
theorem SP_while (I : Nat → Sls → Amb → Prop) {n k : Nat} {t : EvB} {F : SvF} (h0 : I k sl st) (hk : k < n)
    (step : ∀ k s u, I k s u → BP t s u fun c u1 => (c = true → SP F s u1 (fun s u => ∃ j, j < k ∧ I j s u) N (fun s u => ∃ j, j < k ∧ I j s u) T) ∧ (c = false → N s u1)) : SP (sWhile n t F) sl st N B C T := by
  have go : ∀ (n k : Nat) (s : Sls) (u : Amb), k < n → I k s u → ∃ o, whL t F n s u = some o ∧ OK N B C T o := by
    intro n
    induction n with
    | zero => intro k s u hk; omega
    | succ n ih =>
      intro k s u hk hi
      obtain ⟨c, u1, e, h1, h2⟩ := step k s u hi
      cases c with
      | false => exact ⟨.nx s u1, by rw [whL, e]; rfl, h2 rfl⟩
      | true =>
        obtain ⟨o, e2, q⟩ := h1 rfl
        cases o with
        | nx s2 u2 =>
          obtain ⟨j, hj, ij⟩ := q
          obtain ⟨o, e3, k3⟩ := ih j s2 u2 (by omega) ij
          exact ⟨o, by rw [whL, e]; simp only [Option.bind_some, if_true, e2, e3], k3⟩
        | ct s2 u2 =>
          obtain ⟨j, hj, ij⟩ := q
          obtain ⟨o, e3, k3⟩ := ih j s2 u2 (by omega) ij
          exact ⟨o, by rw [whL, e]; simp only [Option.bind_some, if_true, e2, e3], k3⟩
        | bk s2 u2 => exact ⟨.nx s2 u2, by rw [whL, e]; simp only [Option.bind_some, if_true, e2], q⟩
        | rt r u2 => exact ⟨.rt r u2, by rw [whL, e]; simp only [Option.bind_some, if_true, e2], q⟩
  exact go n k sl st hk h0
end
section
variable {sl : Sls} {st : Amb} {Q : R → Amb → Prop}
/-- the turns of a comprehension -/
def LC (t : Tg) (tb : EvB) (f : EvF) (sl : Sls) (l : List Vx.D) (st : Amb) (Q : List Vx.D → Amb → Prop) : Prop := PP (lcL t tb f sl l st) Q
def wpQ (vs : List Nat) (sl : Sls) (P : Sls → Prop) : Prop := P (wipeS sl vs)
def seG (i : Nat) (x : Sl) (sl : Sls) (P : Sls → Prop) : Prop := P (sl.set i x)
def nwG (i : Nat) (sl : Sls) : Prop := (match sl[i]? with | some (.own _) => false | _ => true) = true
section
variable {P : Sls → Prop} {s : Sl} {n : Nat}
theorem wpQ_nil : wpQ [] sl P = P sl := rfl
theorem wpQ_cons {vs : List Nat} : wpQ (n :: vs) sl P = wpQ vs sl fun z => seG n .un z P := rfl
theorem seG_succ {x : Sl} : seG (n + 1) x (s :: sl) P = seG n x sl fun z => P (s :: z) := rfl
theorem seG_0 {x : Sl} : seG 0 x (s :: sl) P = P (x :: sl) := rfl
theorem nwG_succ : nwG (n + 1) (s :: sl) = nwG n sl := rfl
theorem nwG_pub {d : Vx.D} : nwG 0 (.pub d :: sl) = True := by simp [nwG]
theorem nwG_un : nwG 0 (.un :: sl) = True := by simp [nwG]
theorem noOwn_nil : (noOwn sl [] = true) = True := by simp [noOwn]
theorem noOwn_cons {vs : List Nat} : (noOwn sl (n :: vs) = true) = (nwG n sl ∧ noOwn sl vs = true) := by
  unfold noOwn nwG
  rw [List.all_cons, Bool.and_eq_true]
  try rfl
end
theorem EP_lcI (fi : EvI) (t : Tg) (tb : EvB) (f : EvF) (vs : List Nat) : EP (eLc fi t tb f vs) sl st Q = (noOwn sl vs = true ∧ IP fi sl st fun l st1 => wpQ vs sl fun s1 => LC t tb f s1 l st1 fun ds st2 => ds.length ≤ line ∧ Q (.prv ds) st2) := by
  unfold EP eLc IP wpQ LC
  by_cases hn : noOwn sl vs = true
  · rw [if_pos hn]
    cases fi sl st with
    | none => simp [PP_none]
    | some p =>
      obtain ⟨l, s⟩ := p
      simp only [PP_some, hn, true_and, Option.bind_some]
      cases lcL t tb f (wipeS sl vs) l s with
      | none => simp [PP_none]
      | some q => obtain ⟨ds, u⟩ := q; by_cases hz : ds.length ≤ line <;> simp [PP_some, PP_none, hz]
  · simp [hn, PP_none]
theorem LC_nil {Q : List Vx.D → Amb → Prop} (t : Tg) (tb : EvB) (f : EvF) : LC t tb f sl [] st Q = Q [] st := by unfold LC; rw [lcL, PP_some]
theorem LC_cons {Q : List Vx.D → Amb → Prop} (t : Tg) (tb : EvB) (f : EvF) (d : Vx.D) (l : List Vx.D) : LC t tb f sl (d :: l) st Q = asgQ t d sl fun s1 => BP tb s1 st fun c st1 =>
    (c = true → EP f s1 st1 fun r st2 => pubQ r fun y => LC t tb f sl l st2 fun ds st3 => Q (y :: ds) st3) ∧ (c = false → LC t tb f sl l st1 Q) := by
  unfold LC asgQ BP
  rw [lcL]
  cases put t d sl with
  | none => simp [OR_none, PP_none]
  | some s1 =>
    simp only [Option.bind_some, OR_some]
    cases tb s1 st with
    | none => simp [PP_none]
    | some p =>
      obtain ⟨c, st1⟩ := p
      simp only [Option.bind_some, PP_some]
      cases c with
      | false => simp
      | true =>
        simp only [if_true, forall_const, Bool.true_eq_false, false_imp_iff, and_true]
        rw [← evD_eq]
        cases evD f s1 st1 with
        | none => simp [PP_none]
        | some q =>
          obtain ⟨y, st2⟩ := q
          simp only [Option.bind_some, PP_some]
          cases lcL t tb f sl l st2 with
          | none => simp [PP_none]
          | some z => obtain ⟨z, u⟩ := z; simp [PP_some]
/-- a comprehension whose parts change nothing: what is let, what is made -/
theorem LC_map {α : Type} (en : α → Vx.D) (xs : List α) (p : α → Bool) (g : α → Vx.D) {Q : List Vx.D → Amb → Prop} {l : List Vx.D} {t : Tg} {tb : EvB} {f : EvF} (e : l = xs.map en)
    (step : ∀ x ∈ xs, asgQ t (en x) sl fun s1 => BP tb s1 st fun c u => c = p x ∧ u = st ∧ (p x = true → EP f s1 st fun r u => pubQ r fun d => d = g x ∧ u = st))
    (q : Q ((xs.filter p).map g) st) : LC t tb f sl l st Q := by
  subst e
  have go : ∀ ys : List α, (∀ y ∈ ys, y ∈ xs) → lcL t tb f sl (ys.map en) st = some ((ys.filter p).map g, st) := by
    intro ys
    induction ys with
    | nil => intro _; rfl
    | cons y ys ih =>
      intro hm
      have ih := ih fun z hz => hm z (List.mem_cons_of_mem _ hz)
      obtain ⟨s1, e1, c, u, e2, rfl, rfl, k⟩ := step y (hm y List.mem_cons_self)
      rw [List.map_cons, lcL, e1]
      simp only [Option.bind_some, e2]
      cases hp : p y with
      | false => simp [hp, ih]
      | true =>
        have k := k hp
        rw [← evD_eq] at k
        obtain ⟨d, s, e3, rfl, rfl⟩ := k
        simp [hp, ih, e3]
  unfold LC
  rw [go xs fun _ h => h, PP_some]
  exact q
theorem LC_all {α : Type} (en : α → Vx.D) (xs : List α) (g : α → Vx.D) {Q : List Vx.D → Amb → Prop} {l : List Vx.D} {t : Tg} {f : EvF} (e : l = xs.map en)
    (step : ∀ x ∈ xs, asgQ t (en x) sl fun s1 => EP f s1 st fun r u => pubQ r fun d => d = g x ∧ u = st)
    (q : Q (xs.map g) st) : LC t tYesB f sl l st Q := by
  refine LC_map en xs (fun _ => true) g e (fun x hx => ?_) (by rw [List.filter_eq_self.mpr fun _ _ => rfl]; exact q)
  obtain ⟨s1, e1, k⟩ := step x hx
  exact ⟨s1, e1, _, _, rfl, rfl, rfl, fun _ => k⟩
inductive All2 {α β : Type} (P : α → β → Prop) : List α → List β → Prop
  | nil : All2 P [] []
  | cons {x : α} {y : β} {xs : List α} {ys : List β} : P x y → All2 P xs ys → All2 P (x :: xs) (y :: ys)
theorem All2.len {α β : Type} {P : α → β → Prop} : ∀ {xs : List α} {ys : List β}, All2 P xs ys → ys.length = xs.length
  | _, _, .nil => rfl
  | _, _, .cons _ h => by rw [List.length_cons, List.length_cons, h.len]
/-- a comprehension whose parts change what is shared: J holds throughout, P of each item and what is made of it -/
theorem LC_draw {α : Type} (en : α → Vx.D) (xs : List α) (J : Amb → Prop) (P : α → Vx.D → Prop) {Q : List Vx.D → Amb → Prop} {l : List Vx.D} {t : Tg} {f : EvF} (e : l = xs.map en) (j0 : J st)
    (step : ∀ x ∈ xs, asgQ t (en x) sl fun s1 => ∀ u, J u → EP f s1 u fun r u1 => pubQ r fun d => P x d ∧ J u1)
    (q : ∀ ds u, ds.length = xs.length → All2 P xs ds → J u → Q ds u) : LC t tYesB f sl l st Q := by
  subst e
  have go : ∀ (ys : List α) (u : Amb), (∀ y ∈ ys, y ∈ xs) → J u → ∃ ds u1, lcL t tYesB f sl (ys.map en) u = some (ds, u1) ∧ All2 P ys ds ∧ J u1 := by
    intro ys
    induction ys with
    | nil => intro u _ j; exact ⟨[], u, rfl, .nil, j⟩
    | cons y ys ih =>
      intro u hm j
      obtain ⟨s1, e1, k⟩ := step y (hm y List.mem_cons_self)
      have k := k u j
      rw [← evD_eq] at k
      obtain ⟨d, u1, e2, p1, j1⟩ := k
      obtain ⟨ds, u2, e3, p3, j3⟩ := ih u1 (fun z hz => hm z (List.mem_cons_of_mem _ hz)) j1
      exact ⟨d :: ds, u2, by rw [List.map_cons, lcL, e1]; simp [tYesB, e2, e3], .cons p1 p3, j3⟩
  obtain ⟨ds, u, e1, p1, j2⟩ := go xs st (fun _ h => h) j0
  exact ⟨ds, u, e1, q ds u p1.len p1 j2⟩
/-- the turns of a comprehension of two clauses -/
def LC2 (t : Tg) (tb : EvB) (fi1 : EvI) (t1 : Tg) (tb1 : EvB) (f : EvF) (vs1 : List Nat) (sl : Sls) (l : List Vx.D) (st : Amb) (Q : List Vx.D → Amb → Prop) : Prop := PP (lcL2 t tb fi1 t1 tb1 f vs1 sl l st) Q
theorem EP_lc2I (fi : EvI) (t : Tg) (tb : EvB) (fi1 : EvI) (t1 : Tg) (tb1 : EvB) (f : EvF) (vs vs1 : List Nat) : EP (eLc2 fi t tb fi1 t1 tb1 f vs vs1) sl st Q = (noOwn sl vs = true ∧ IP fi sl st fun l st1 => wpQ vs sl fun s1 => LC2 t tb fi1 t1 tb1 f vs1 s1 l st1 fun ds st2 => ds.length ≤ line ∧ Q (.prv ds) st2) := by
  unfold EP eLc2 IP wpQ LC2
  by_cases hn : noOwn sl vs = true
  · rw [if_pos hn]
    cases fi sl st with
    | none => simp [PP_none]
    | some p =>
      obtain ⟨l, s⟩ := p
      simp only [PP_some, hn, true_and, Option.bind_some]
      cases lcL2 t tb fi1 t1 tb1 f vs1 (wipeS sl vs) l s with
      | none => simp [PP_none]
      | some q => obtain ⟨ds, u⟩ := q; by_cases hz : ds.length ≤ line <;> simp [PP_some, PP_none, hz]
  · simp [hn, PP_none]
/-- a comprehension of two clauses whose parts change nothing -/
theorem LC2_map {α : Type} (en : α → Vx.D) (xs : List α) (p : α → Bool) (g : α → List Vx.D) {Q : List Vx.D → Amb → Prop} {l : List Vx.D} {t t1 : Tg} {tb tb1 : EvB} {fi1 : EvI} {f : EvF} {vs1 : List Nat} (e : l = xs.map en)
    (step : ∀ x ∈ xs, asgQ t (en x) sl fun s1 => BP tb s1 st fun c u => c = p x ∧ u = st ∧ (p x = true → noOwn s1 vs1 = true ∧ IP fi1 s1 st fun l1 u1 => wpQ vs1 s1 fun s2 => LC t1 tb1 f s2 l1 u1 fun ds u2 => ds = g x ∧ u2 = st))
    (q : Q ((xs.filter p).flatMap g) st) : LC2 t tb fi1 t1 tb1 f vs1 sl l st Q := by
  subst e
  have go : ∀ zs : List α, (∀ z ∈ zs, z ∈ xs) → lcL2 t tb fi1 t1 tb1 f vs1 sl (zs.map en) st = some ((zs.filter p).flatMap g, st) := by
    intro zs
    induction zs with
    | nil => intro _; rfl
    | cons z zs ih =>
      intro hm
      have ih := ih fun z hz => hm z (List.mem_cons_of_mem _ hz)
      obtain ⟨s1, e1, c, u, e2, rfl, rfl, k⟩ := step z (hm z List.mem_cons_self)
      rw [List.map_cons, lcL2, e1]
      simp only [Option.bind_some, e2]
      cases hp : p z with
      | false => simp [hp, ih]
      | true =>
        obtain ⟨k1, l1, u1, e3, ds, u2, e4, rfl, rfl⟩ := k hp
        simp only [if_true, k1, e3, Option.bind_some, e4]
        simp [ih, hp]
  unfold LC2
  rw [go xs fun _ h => h, PP_some]
  exact q
end
/-! what the operators make -/
section
variable {st : Amb} {Q : R → Prop}
theorem add_int (i j : Int) : OR (cAdd st (.int i) (.int j)) Q = Q (.val (.int (i + j))) := OR_some _ _
theorem add_tup (i j : List Vx.D) : OR (cAdd st (.tup i) (.tup j)) Q = ((i.length + j.length ≤ line) ∧ Q (.val (.tup (i ++ j)))) := OR_ite _ _ _
theorem add_lst (i j : List Vx.D) : OR (cAdd st (.lst i) (.lst j)) Q = ((i.length + j.length ≤ line) ∧ Q (.prv (i ++ j))) := OR_ite _ _ _
theorem cI_int (f : Int → Int → Option Vx.D) (i j : Int) : OR (cI f st (.int i) (.int j)) Q = OR (f i j) fun d => Q (.val d) := OR_map _ _ _
theorem mul_int (i j : Int) : OR (cMul st (.int i) (.int j)) Q = OR (fMul i j) fun d => Q (.val d) := OR_map _ _ _
theorem mul_tup (l : List Vx.D) (k : Int) : OR (cMul st (.tup l) (.int k)) Q = ((l ≠ [] ∧ 2 ≤ k ∧ k ≤ 1000 ∧ l.length ≤ 1000) ∧ Q (.val (.tup (List.replicate k.toNat l).flatten))) := OR_ite _ _ _
theorem ix_tup' (l : List Vx.D) (i : Int) : OR (cIx st (.tup l) (.int i)) Q = OR (atI l i) fun d => Q (.val d) := OR_map _ _ _
theorem ix_lst' (l : List Vx.D) (i : Int) : OR (cIx st (.lst l) (.int i)) Q = OR (atI l i) fun d => Q (.val d) := OR_map _ _ _
theorem len_tup' (l : List Vx.D) : OR (cLen st [.tup l]) Q = Q (.val (.int l.length)) := OR_some _ _
theorem len_lst' (l : List Vx.D) : OR (cLen st [.lst l]) Q = Q (.val (.int l.length)) := OR_some _ _
theorem tuple_tup (l : List Vx.D) : OR (cTuple st [.tup l]) Q = Q (.val (.tup l)) := OR_some _ _
theorem tuple_lst (l : List Vx.D) : OR (cTuple st [.lst l]) Q = Q (.val (.tup l)) := OR_some _ _
theorem list_tup (l : List Vx.D) : OR (cList st [.tup l]) Q = Q (.prv l) := OR_some _ _
theorem list_lst (l : List Vx.D) : OR (cList st [.lst l]) Q = Q (.prv l) := OR_some _ _
theorem sort_lst (l : List Vx.D) : OR (cSort st [.lst l]) Q = ((srt l = true) ∧ Q (.prv (isort D.le l))) := OR_ite _ _ _
theorem sort_tup (l : List Vx.D) : OR (cSort st [.tup l]) Q = ((srt l = true) ∧ Q (.prv (isort D.le l))) := OR_ite _ _ _
theorem max_int (i j : Int) : OR (cMax st [.int i, .int j]) Q = Q (.val (.int (if j > i then j else i))) := OR_some _ _
theorem min_int (i j : Int) : OR (cMin st [.int i, .int j]) Q = Q (.val (.int (if j < i then j else i))) := OR_some _ _
theorem int_int (i : Int) : OR (cInt st [.int i]) Q = Q (.val (.int i)) := OR_some _ _
theorem in_tup (neg : Bool) (x : Vx.D) (l : List Vx.D) : OR (cIn neg st x (.tup l)) Q = ((flat64 x = true ∧ flat64 (.lst l) = true) ∧ Q (.val (.bl (if neg then !inL x l else inL x l)))) := OR_ite _ _ _
theorem in_lst (neg : Bool) (x : Vx.D) (l : List Vx.D) : OR (cIn neg st x (.lst l)) Q = ((flat64 x = true ∧ flat64 (.lst l) = true) ∧ Q (.val (.bl (if neg then !inL x l else inL x l)))) := OR_ite _ _ _
theorem eq_any (x y : Vx.D) : OR (cEq st x y) Q = ((flat64 x = true ∧ flat64 y = true) ∧ Q (.val (.bl (D.eqv x y)))) := OR_ite _ _ _
theorem ne_any (x y : Vx.D) : OR (cNe st x y) Q = ((flat64 x = true ∧ flat64 y = true) ∧ Q (.val (.bl (!D.eqv x y)))) := OR_ite _ _ _
theorem rev_lst (l : List Vx.D) : OR (cRev st (.lst l)) Q = Q (.prv l.reverse) := OR_some _ _
theorem sl_tup' (l : List Vx.D) (a b : Option Int) : OR (cSl st (.tup l) a b) Q = Q (.val (.tup (cutD l a b))) := OR_some _ _
theorem sl_lst' (l : List Vx.D) (a b : Option Int) : OR (cSl st (.lst l) a b) Q = Q (.prv (cutD l a b)) := OR_some _ _
theorem rg1_int (mk : List Vx.D → R) (n : Int) : OR (cRg1 mk st (.int n)) Q = ((rgOk 0 n = true) ∧ Q (mk (rg 0 n))) := OR_ite _ _ _
theorem set_lst (l : List Vx.D) : OR (cSet st (.lst l)) Q = ((setOk l = true) ∧ Q (.prv (isort D.le (dedup l)))) := OR_ite _ _ _
theorem set_tup (l : List Vx.D) : OR (cSet st (.tup l)) Q = ((setOk l = true) ∧ Q (.prv (isort D.le (dedup l)))) := OR_ite _ _ _
section
variable {α : Type} {Q : α → Prop} {P : Vx.D → Prop}
theorem OR_at0 (x : α) (l : List α) : OR (atI (x :: l) 0) Q = Q x := by rw [atI_0, OR_some]
theorem OR_at1 (x y : α) (l : List α) : OR (atI (x :: y :: l) 1) Q = Q y := by rw [atI_1, OR_some]
theorem OR_sub (i j : Int) : OR (fSub i j) P = P (.int (i - j)) := OR_some _ _
theorem OR_lt (i j : Int) : OR (fLt i j) P = P (.bl (decide (i < j))) := OR_some _ _
theorem OR_le (i j : Int) : OR (fLe i j) P = P (.bl (decide (i ≤ j))) := OR_some _ _
theorem OR_gt (i j : Int) : OR (fGt i j) P = P (.bl (decide (j < i))) := OR_some _ _
theorem OR_ge (i j : Int) : OR (fGe i j) P = P (.bl (decide (j ≤ i))) := OR_some _ _
theorem OR_mod (i j : Int) : OR (fMod i j) P = (0 < j ∧ P (.int (i % j))) := OR_ite _ _ _
theorem OR_div (i j : Int) : OR (fDiv i j) P = ((0 < j ∧ j < 1073741824) ∧ P (.int (i / j))) := OR_ite _ _ _
theorem OR_mulI (i j : Int) (h : i.natAbs < 2 ^ 31 := by omega) (h2 : j.natAbs < 2 ^ 31 := by omega) : OR (fMul i j) P = P (.int (i * j)) := by
  have a1 : i.natAbs.log2 < 30 + 1 := log2_lt' (by omega)
  have a2 : j.natAbs.log2 < 30 + 1 := log2_lt' (by omega)
  have : i.natAbs.log2 + j.natAbs.log2 < 1000000 := by omega
  unfold fMul
  rw [if_pos this, OR_some]
end
theorem atI_nth {α : Type} (l : List α) (n : Nat) (h : n < l.length) : atI l (n : Int) = l[n]? := by
  unfold atI ixN
  rw [if_pos (by omega), if_pos (by omega)]
  simp
theorem rg_n (n : Nat) : rg 0 (n : Int) = (List.range n).map fun (j : Nat) => Vx.D.int (j : Int) := by simp [rg]
end
/-- a draw -/
theorem MP_any {st rest : Amb} {b : Int} {Q : R → Amb → Prop} (D : DealAt st rest) (h0 : 0 < b) (h1 : b < 1073741824) (h : ∀ (r : Int) (st' : Amb), 0 ≤ r → r < b → DealAt st' rest → Q (.val (.int r)) st') : MP m__law_any [.loc 1, .int b] st Q := by
  obtain ⟨r, st', e, a, c, d⟩ := law_any h0 h1 D
  exact ⟨_, _, e, h r st' a c d⟩
end Vx


set_option Elab.async false
set_option linter.all false
set_option maxRecDepth 100000
/-! Wq: closed values by the kernel; pairs that are alike. -/
namespace Vx
open PySem PySem.Spec L2
theorem line_le2 : (2 : Nat) ≤ line := by decide
mutual
def same : Vx.D → Vx.D → Bool
  | .non, y => match y with | .non => true | _ => false
  | .bl a, y => match y with | .bl b => a == b | _ => false
  | .int a, y => match y with | .int b => decide (a = b) | _ => false
  | .str a, y => match y with | .str b => decide (a = b) | _ => false
  | .tup a, y => match y with | .tup b => sameL a b | _ => false
  | .lst a, y => match y with | .lst b => sameL a b | _ => false
  | .frz _, _ => false
  | .loc a, y => match y with | .loc b => decide (a = b) | _ => false
  | .tpc a, y => match y with | .tpc b => sameL a b | _ => false
  | .ins _ _ _, _ => false
  | .mrk _, _ => false
  | .fn _, _ => false
def sameL : List Vx.D → List Vx.D → Bool
  | [], y => match y with | [] => true | _ => false
  | a :: l, y => match y with | [] => false | b :: m => same a b && sameL l m
end
mutual
theorem same_eq : ∀ x y : Vx.D, same x y = true → x = y
  | .non, y, h => by cases y <;> first | rfl | (simp [same] at h; done)
  | .bl a, y, h => by cases y <;> first | (simp [same] at h; done) | (simp [same] at h; rw [h])
  | .int a, y, h => by cases y <;> first | (simp [same] at h; done) | (simp [same] at h; rw [h])
  | .str a, y, h => by cases y <;> first | (simp [same] at h; done) | (simp [same] at h; rw [h])
  | .tup a, y, h => by
    cases y with
    | tup b => simp only [same] at h; rw [sameL_eq a b h]
    | _ => simp [same] at h
  | .lst a, y, h => by
    cases y with
    | lst b => simp only [same] at h; rw [sameL_eq a b h]
    | _ => simp [same] at h
  | .frz _, _, h => by simp [same] at h
  | .loc a, y, h => by cases y <;> first | (simp [same] at h; done) | (simp [same] at h; rw [h])
  | .tpc a, y, h => by
    cases y with
    | tpc b => simp only [same] at h; rw [sameL_eq a b h]
    | _ => simp [same] at h
  | .ins _ _ _, _, h => by simp [same] at h
  | .mrk _, _, h => by simp [same] at h
  | .fn _, _, h => by simp [same] at h
theorem sameL_eq : ∀ x y : List Vx.D, sameL x y = true → x = y
  | [], y, h => by cases y <;> first | rfl | (simp [sameL] at h; done)
  | a :: l, y, h => by
    cases y with
    | nil => simp [sameL] at h
    | cons b m =>
      simp only [sameL, Bool.and_eq_true] at h
      rw [same_eq a b h.1, sameL_eq l m h.2]
end
def isVal (o : Option (R × Amb)) (d : Vx.D) : Bool := match o with
  | some (.val T, _) => same T d
  | _ => false
def isLen (o : Option (R × Amb)) (k : Nat) : Bool := match o with
  | some (.val (.tup T), _) => decide (T.length = k)
  | _ => false
theorem isVal_get {m : Mean} {xs : List Vx.D} {d : Vx.D} (L : LM m) (h : isVal (m xs []) d = true) : ∀ st, m xs st = some (.val d, st) := by
  cases hm : m xs [] with
  | none => rw [hm] at h; cases h
  | some p =>
    obtain ⟨r, s1⟩ := p
    rw [hm] at h
    unfold isVal at h
    split at h
    · rename_i T s2 e
      cases e
      rw [← same_eq _ _ h]
      exact (L _ _ _ hm).2
    · cases h
theorem isLen_get {m : Mean} {xs : List Vx.D} {k : Nat} (L : LM m) (h : isLen (m xs []) k = true) : ∃ T : List Vx.D, T.length = k ∧ ∀ st, m xs st = some (.val (.tup T), st) := by
  cases hm : m xs [] with
  | none => rw [hm] at h; cases h
  | some p =>
    obtain ⟨r, s1⟩ := p
    rw [hm] at h
    unfold isLen at h
    split at h
    · rename_i T s2 e
      cases e
      exact ⟨T, of_decide_eq_true h, (L _ _ _ hm).2⟩
    · cases h
theorem ok_app {ps qs : List Vx.D} (h : PairsOk ps) (g : PairsOk qs) : PairsOk (ps ++ qs) := fun p hp => (List.mem_append.mp hp).elim (h p) (g p)
theorem ok_nil : PairsOk [] := fun p hp => by cases hp
theorem ok_cons {d : Vx.D} {ps : List Vx.D} (h : D.pl d = true ∧ D.sz d < Fu) (g : PairsOk ps) : PairsOk (pr d :: ps) := fun p hp => (List.mem_cons.mp hp).elim (fun e => ⟨d, e, h⟩) (g p)
theorem ok_cons2 {d e : Vx.D} {ps : List Vx.D} (he : d = e) (h : D.pl d = true ∧ D.sz d < Fu) (g : PairsOk ps) : PairsOk (.tup [d, e] :: ps) := by subst he; exact ok_cons h g
theorem ok_int (i : Int) : D.pl (.int i) = true ∧ D.sz (.int i) < Fu := ⟨rfl, by rw [D.sz, fu_succ]; omega⟩
theorem ok_bl (i : Bool) : D.pl (.bl i) = true ∧ D.sz (.bl i) < Fu := ⟨rfl, by rw [D.sz, fu_succ]; omega⟩
theorem ok_non : D.pl .non = true ∧ D.sz .non < Fu := ⟨rfl, by rw [D.sz, fu_succ]; omega⟩
theorem MP_all {ps : List Vx.D} {st : Amb} {Q : R → Amb → Prop} (h : PairsOk ps) (q : Q (.val (.bl true)) st) : MP m__law_all [.lst ps] st Q := by
  rw [MP_of (law_all h st)]
  exact q
theorem rgOk_nat (n : Nat) (h : n ≤ 1000000) : rgOk 0 (n : Int) = true := by
  unfold rgOk
  simp only [decide_eq_true_eq]
  omega
end Vx


set_option Elab.async false
set_option linter.all false
set_option maxRecDepth 100000
/-! Wr: backwards over fields, instances, places; lists of one form. -/
namespace Vx
open PySem PySem.Spec L2
def dmQ (r : R) (Q : R → Prop) : Prop := Q (dmR r)
section
variable {sl : Sls} {st : Amb} {Q : R → Amb → Prop} {P : R → Prop}
theorem EP_dm (f : EvF) : EP (eDm f) sl st Q = EP f sl st fun r st1 => dmQ r fun r => Q r st1 := by
  unfold EP eDm
  cases f sl st with
  | none => simp [PP_none]
  | some p => obtain ⟨r, s⟩ := p; simp [PP_some, dmQ]
theorem dmQ_tpc (l : List Vx.D) : dmQ (.val (.tpc l)) P = P (.val (.tup l)) := rfl
theorem dmQ_tup (l : List Vx.D) : dmQ (.val (.tup l)) P = P (.val (.tup l)) := rfl
theorem dmQ_lst (l : List Vx.D) : dmQ (.val (.lst l)) P = P (.val (.lst l)) := rfl
theorem dmQ_int (i : Int) : dmQ (.val (.int i)) P = P (.val (.int i)) := rfl
theorem EP_fld (c x : Str) (f : EvF) : EP (eFld c x f) sl st Q = EP f sl st fun r st1 => dQ r fun d => OR (cFld c x st1 d) fun z => Q z st1 := EP_e1 f _
theorem EP_new (c : Str) (ns : List Str) (F : EvA) : EP (eNew c ns F) sl st Q = AP F sl st fun rs st1 => valsQ rs fun ds => ds.length = ns.length ∧ Q (.val (.ins c ns ds)) st1 := by
  unfold EP eNew AP
  cases F sl st with
  | none => simp [PP_none]
  | some p =>
    obtain ⟨r, s⟩ := p
    simp only [valsQ_eq, PP_some, Option.bind_some]
    cases h : vals r with
    | none => simp [OR, PP_none, h]
    | some ds => by_cases hz : ds.length = ns.length <;> simp [OR, h, hz, PP_none, PP_some]
theorem OR_fld {c x : Str} {ns : List Str} {ds : List Vx.D} {d : Vx.D} (h : cFld c x st (.ins c ns ds) = some (.val d)) : OR (cFld c x st (.ins c ns ds)) P = P (.val d) := by rw [h, OR_some]
theorem OR_index {l : List Vx.D} {y : Vx.D} {j : Nat} (h : firstIx y l = some j) (h1 : flat64 y = true) (h2 : flat64 (.lst l) = true) : OR (cIndex st (.tpc l) y) P = P (.val (.int (j : Int))) := by
  unfold cIndex
  simp only
  rw [if_pos ⟨h1, h2⟩, h]
  exact OR_some _ _
theorem OR_indexL {l : List Vx.D} {y : Vx.D} {j : Nat} (h : firstIx y l = some j) (h1 : flat64 y = true) (h2 : flat64 (.lst l) = true) : OR (cIndexL st (.lst l) y) P = P (.val (.int (j : Int))) := by
  unfold cIndexL
  simp only
  rw [if_pos ⟨h1, h2⟩, h]
  exact OR_some _ _
end
theorem OR_eq {α : Type} {o : Option α} {r : α} {P : α → Prop} (h : o = some r) : OR o P = P r := by rw [h, OR_some]
theorem tupleC_lst {st : Amb} {P : R → Prop} (l : List Vx.D) : OR (cTupleC st [.lst l]) P = P (.val (.tpc l)) := OR_some _ _
theorem ex_map {α : Type} {f : α → Vx.D} : ∀ {l : List Vx.D}, (∀ d ∈ l, ∃ x, d = f x) → ∃ xs : List α, l = xs.map f
  | [], _ => ⟨[], rfl⟩
  | d :: l, h => by
    obtain ⟨x, hx⟩ := h d List.mem_cons_self
    obtain ⟨xs, e⟩ := ex_map (l := l) fun e he => h e (List.mem_cons_of_mem _ he)
    exact ⟨x :: xs, by rw [List.map_cons, ← hx, ← e]⟩
/-- what the turns of a drawing comprehension have made, as typed data -/
theorem All2.typed {α β : Type} {P : α → Vx.D → Prop} {f : β → Vx.D} {R : β → Prop} (h : ∀ x d, P x d → ∃ b, d = f b ∧ R b) : ∀ {xs : List α} {ds : List Vx.D}, All2 P xs ds → ∃ bs : List β, ds = bs.map f ∧ bs.length = xs.length ∧ ∀ b ∈ bs, R b
  | _, _, .nil => ⟨[], rfl, rfl, fun b hb => (by cases hb)⟩
  | _, _, .cons p ps => by
    obtain ⟨b, e, r⟩ := h _ _ p
    obtain ⟨bs, e2, l2, r2⟩ := All2.typed h ps
    exact ⟨b :: bs, by rw [List.map_cons, ← e, ← e2], by simp [l2], fun c hc => (List.mem_cons.mp hc).elim (fun z => z ▸ r) (r2 c)⟩
theorem cut_mem {l : List Vx.D} {a b : Option Int} {d : Vx.D} (h : d ∈ cutD l a b) : d ∈ l := List.mem_of_mem_drop (List.mem_of_mem_take h)
theorem cut_len {l : List Vx.D} {a b : Option Int} : (cutD l a b).length ≤ l.length := by
  unfold cutD
  rw [List.length_take, List.length_drop]
  omega
end Vx


set_option Elab.async false
set_option linter.all false
set_option maxRecDepth 100000
namespace K09
open PySem PySem.Spec L2 Vx

def top (i : Nat) : Stmt := PySem.Challenge.pw_liarschange_k09_faults_that_may_begin_st.main.body.getD i (.Pass ⟨0, 0, 0, 0⟩)
abbrev st_faulty_ones : Stmt := top 2
abbrev st_all_goes : Stmt := top 3
abbrev st_ends_of_roads : Stmt := top 4
abbrev st_may_go : Stmt := top 5
abbrev st_road_goes : Stmt := top 6
abbrev st_nobody_of : Stmt := top 9
abbrev st_is_free_at : Stmt := top 10
abbrev st_is_free : Stmt := top 11
abbrev st__law_deal : Stmt := top 13
abbrev st__law_any : Stmt := top 14
abbrev st__law_is_kind : Stmt := top 15
abbrev st__law_same : Stmt := top 16
abbrev st__law_all : Stmt := top 17
abbrev st__law_drawn_patterns : Stmt := top 18
abbrev st__law_all_goes : Stmt := top 19
abbrev st__law_drawn_goes : Stmt := top 20
abbrev st__law_is_free : Stmt := top 21
abbrev st__law_closed : Stmt := top 22
abbrev st__law_of_patterns : Stmt := top 23
abbrev st_law : Stmt := top 24
structure Txt (K : PySem.W.Frag) (mg : Str → Option Value) : Prop where
  z_sorted : mg "sorted" = none
  z_tuple : mg "tuple" = none
  z_len : mg "len" = none
  z_list : mg "list" = none
  z_range : mg "range" = none
  z_enumerate : mg "enumerate" = none
  z_int : mg "int" = none
  z_abs : mg "abs" = none
  z_isinstance : mg "isinstance" = none
  z_str : mg "str" = none
  z_bool : mg "bool" = none
  z_dict : mg "dict" = none
  z_set : mg "set" = none
  c_NOBODY : ModC K mg "NOBODY" (.tup [(.tup []), (.tup [])])
abbrev st_Shift_init : Stmt := inClass (top 8) 0
theorem sc_Shift_init : FnScope ["self", "letters", "hears", "rules", "patterns", "goes", "wrong", "promise"] ["self", "letters", "hears", "rules", "patterns", "goes", "wrong", "promise"] (defScope st_Shift_init) := ⟨rfl, rfl, rfl, by decide +kernel, rfl, by decide +kernel, by decide +kernel⟩
theorem ok_Shift_init {P : Program} {w : World} {K : PySem.W.Frag} {mg : Str → Option Value} {base : Heap} {f C : Addr} {fd : FuncData} (F : Fun K "__init__" "Shift.__init__" st_Shift_init f fd) (cl : Cls K C) (no : ∀ n ∈ (["letters", "hears", "rules", "patterns", "goes", "wrong", "promise"] : List Str), NoAttr K C n) : FnOk P w K mg base CX0 1 f fd ["self", "letters", "hears", "rules", "patterns", "goes", "wrong", "promise"] (spIns C ["letters", "hears", "rules", "patterns", "goes", "wrong", "promise"]) := by
  refine F.ok sc_Shift_init (fun vs H Q E h => ?_) (fun cdv A outer s H vs Q E hr h => ?_)
  · obtain ⟨p, dx, us, rfl, hl, _⟩ := h
    simp [hl]
  · obtain ⟨p, dx, us, rfl, hl, hp, q⟩ := h
    match us, hl with
    | [u1, u2, u3, u4, u5, u6, u7], _ =>
    refine ⟨_, (pss_cons (ps_fld (pv 0) (pv 1) rfl) (pss_cons (ps_fld (pv 0) (pv 2) rfl) (pss_cons (ps_fld (pv 0) (pv 3) rfl) (pss_cons (ps_fld (pv 0) (pv 4) rfl) (pss_cons (ps_fld (pv 0) (pv 5) rfl) (pss_cons (ps_fld (pv 0) (pv 6) rfl) (pss_one (ps_fld (pv 0) (pv 7) rfl)))))))), ?_⟩
    refine ⟨u1, rfl, .ref p, rfl, p, C, dx, _, rfl, hp, cl, no _ (by decide), Nat.lt_of_lt_of_le (show ([] : List (Str × V)).length < 1 by decide) (by decide), ?_⟩
    refine ⟨u2, rfl, .ref p, rfl, p, C, dx, _, rfl, upd_same, cl, no _ (by decide), Nat.lt_of_lt_of_le (putF_lt (show ([] : List (Str × V)).length < 1 by decide)) (by decide), ?_⟩
    refine ⟨u3, rfl, .ref p, rfl, p, C, dx, _, rfl, upd_same, cl, no _ (by decide), Nat.lt_of_lt_of_le (putF_lt (putF_lt (show ([] : List (Str × V)).length < 1 by decide))) (by decide), ?_⟩
    refine ⟨u4, rfl, .ref p, rfl, p, C, dx, _, rfl, upd_same, cl, no _ (by decide), Nat.lt_of_lt_of_le (putF_lt (putF_lt (putF_lt (show ([] : List (Str × V)).length < 1 by decide)))) (by decide), ?_⟩
    refine ⟨u5, rfl, .ref p, rfl, p, C, dx, _, rfl, upd_same, cl, no _ (by decide), Nat.lt_of_lt_of_le (putF_lt (putF_lt (putF_lt (putF_lt (show ([] : List (Str × V)).length < 1 by decide))))) (by decide), ?_⟩
    refine ⟨u6, rfl, .ref p, rfl, p, C, dx, _, rfl, upd_same, cl, no _ (by decide), Nat.lt_of_lt_of_le (putF_lt (putF_lt (putF_lt (putF_lt (putF_lt (show ([] : List (Str × V)).length < 1 by decide)))))) (by decide), ?_⟩
    refine ⟨u7, rfl, .ref p, rfl, p, C, dx, _, rfl, upd_same, cl, no _ (by decide), Nat.lt_of_lt_of_le (putF_lt (putF_lt (putF_lt (putF_lt (putF_lt (putF_lt (show ([] : List (Str × V)).length < 1 by decide))))))) (by decide), ?_⟩
    have e := putAll_zip (ns := ["letters", "hears", "rules", "patterns", "goes", "wrong", "promise"]) (us := [u1, u2, u3, u4, u5, u6, u7]) (fs := []) (by decide) (fun _ _ p hp => by cases hp)
    rw [List.nil_append] at e; rw [← e] at q
    repeat rw [upd_upd]
    exact q
/-! faulty_ones -/
theorem sc_faulty_ones : FnScope ["pattern"] ["pattern"] (defScope st_faulty_ones) := ⟨rfl, rfl, rfl, by decide +kernel, rfl, by decide +kernel, by decide +kernel⟩
def b_faulty_ones : SvF := (sRet (eA (eCons (eA (eCons (e2 (e2 (eVar 0) (eC (.int 0)) cIx) (e2 (eVar 0) (eC (.int 1)) cIx) cAdd) eNil) cSort) eNil) cTuple))
def m_faulty_ones : Mean := meanOf 1 1 b_faulty_ones
theorem lm_faulty_ones : LM m_faulty_ones := lm_mean (ls_ret (le_A (la_cons (le_A (la_cons (le_e2 (le_e2 le_var le_C c2_ix) (le_e2 le_var le_C c2_ix) c2_add) la_nil) ca_sort) la_nil) ca_tuple))
theorem ok_faulty_ones {P : Program} {w : World} {K : PySem.W.Frag} {mg : Str → Option Value} {base : Heap} {f : Addr} {fd : FuncData} (F : Fun K "faulty_ones" "faulty_ones" st_faulty_ones f fd) (T : Txt K mg)   : VFn P w K mg base 1 f fd ["pattern"] m_faulty_ones :=
  okV F sc_faulty_ones fun cdv A outer s H E hr => (vss_one (vs_ret (ve_tuple (by rfl) T.z_tuple (va_cons (ve_sorted (hu64 hr) (by rfl) T.z_sorted (va_cons (ve_add (ve_ix (ve_var 0) ve_int) (ve_ix (ve_var 0) ve_int)) va_nil)) va_nil))))
/-! all_goes -/
theorem sc_all_goes : FnScope ["patterns", "numbers", "one", "other"] ["patterns"] (defScope st_all_goes) := ⟨rfl, rfl, rfl, by decide +kernel, rfl, by decide +kernel, by decide +kernel⟩
def b_all_goes : SvF := (sSeq (sAsg (.name 1) (e1 (eA (eCons (eVar 0) eNil) cLen) (cRg1 .prv))) (sRet (eA (eCons (eLc2 (iSeq (eVar 1)) (.name 2) tYesB (iSeq (eVar 1)) (.name 3) tYesB (eTup (eCons (eVar 2) (eCons (eVar 3) eNil))) [2, 3] [3]) eNil) cTuple)))
def m_all_goes : Mean := meanOf 4 1 b_all_goes
theorem lm_all_goes : LM m_all_goes := lm_mean (ls_seq (ls_asg (le_e1 (le_A (la_cons le_var la_nil) ca_len) c1_rg)) (ls_ret (le_A (la_cons (le_lc2 (li_seq le_var) lb_yes (li_seq le_var) lb_yes (le_tup (la_cons le_var (la_cons le_var la_nil)))) la_nil) ca_tuple)))
theorem ok_all_goes {P : Program} {w : World} {K : PySem.W.Frag} {mg : Str → Option Value} {base : Heap} {f : Addr} {fd : FuncData} (F : Fun K "all_goes" "all_goes" st_all_goes f fd) (T : Txt K mg)   : VFn P w K mg base 1 f fd ["patterns"] m_all_goes :=
  okV F sc_all_goes fun cdv A outer s H E hr => (vss_cons (vs_asg (ve_listRg1 rfl (by rfl) T.z_list (by rfl) T.z_range (ve_len (by rfl) T.z_len (va_cons (ve_var 0) va_nil))) (vg_name 1 sc_all_goes.nd)) (vss_one (vs_ret (ve_tuple (by rfl) T.z_tuple (va_cons (ve_lc2 [3] rfl sc_all_goes.nd (vi_list (ve_var 1)) (blkOk_by (own := [("one", 2), ("other", 3)]) (by rfl)) (fun _ _ _ _ _ => (vg_name 2 sc_all_goes.nd)) (fun _ _ _ _ _ => vts_nil) (fun _ _ _ _ _ => (vi_list (ve_var 1))) (fun _ _ _ _ _ => (vg_name 3 sc_all_goes.nd)) (fun _ _ _ _ _ => vts_nil) (fun _ _ _ _ _ => (ve_tup (va_cons (ve_var 2) (va_cons (ve_var 3) va_nil))))) va_nil)))))
/-! ends_of_roads -/
theorem sc_ends_of_roads : FnScope ["lot", "roads", "begin", "end"] ["lot", "roads"] (defScope st_ends_of_roads) := ⟨rfl, rfl, rfl, by decide +kernel, rfl, by decide +kernel, by decide +kernel⟩
def b_ends_of_roads : SvF := (sRet (e2 (eA (eCons (eVar 0) eNil) cList) (eLc (iTupD (eVar 1)) (.names [2, 3]) (eT (e2 (eVar 2) (eVar 0) (cIn false))) (eVar 3) [2, 3]) cAdd))
def m_ends_of_roads : Mean := meanOf 4 2 b_ends_of_roads
theorem lm_ends_of_roads : LM m_ends_of_roads := lm_mean (ls_ret (le_e2 (le_A (la_cons le_var la_nil) ca_list) (le_lc (li_tup le_var) (lb_T (le_e2 le_var le_var c2_in)) le_var) c2_add))
theorem ok_ends_of_roads {P : Program} {w : World} {K : PySem.W.Frag} {mg : Str → Option Value} {base : Heap} {f : Addr} {fd : FuncData} (F : Fun K "ends_of_roads" "ends_of_roads" st_ends_of_roads f fd) (T : Txt K mg)   : VFn P w K mg base 1 f fd ["lot", "roads"] m_ends_of_roads :=
  okV F sc_ends_of_roads fun cdv A outer s H E hr => (vss_one (vs_ret (ve_add (ve_list (by rfl) T.z_list (va_cons (ve_var 0) va_nil)) (ve_lc rfl sc_ends_of_roads.nd (vi_tup (ve_var 1)) (blkOk_by (own := [("begin", 2), ("end", 3)]) (by rfl)) (fun _ _ _ _ _ => (vg_tup rfl (vgs_cons (vg_name 2 sc_ends_of_roads.nd) (vgs_cons (vg_name 3 sc_ends_of_roads.nd) vgs_nil)))) (fun _ _ _ _ _ => (vts_one (vt_in (hu65 hr) (ve_var 2) (ve_var 0)))) (fun _ _ _ _ _ => (ve_var 3))))))
/-! nobody_of -/
theorem sc_nobody_of : FnScope ["shift"] ["shift"] (defScope st_nobody_of) := ⟨rfl, rfl, rfl, by decide +kernel, rfl, by decide +kernel, by decide +kernel⟩
def b_nobody_of : SvF := (sRet (e2 (eFld "Shift" "patterns" (eVar 0)) (eC (.tup [(.tup []), (.tup [])])) cIndex))
def m_nobody_of : Mean := meanOf 1 1 b_nobody_of
theorem lm_nobody_of : LM m_nobody_of := lm_mean (ls_ret (le_e2 (le_fld le_var) le_C c2_index))
theorem ok_nobody_of {P : Program} {w : World} {K : PySem.W.Frag} {mg : Str → Option Value} {base : Heap} {f : Addr} {fd : FuncData} (F : Fun K "nobody_of" "nobody_of" st_nobody_of f fd) (T : Txt K mg) (K_Shift : ClsT P w K mg base "Shift" ["letters", "hears", "rules", "patterns", "goes", "wrong", "promise"])  : VFn P w K mg base 1 f fd ["shift"] m_nobody_of :=
  okV F sc_nobody_of fun cdv A outer s H E hr => (vss_one (vs_ret (ve_index (hu65 hr) (ve_fld K_Shift (by decide) (ve_var 0)) (ve_mod_ T.c_NOBODY (by rfl)))))
/-! is_free_at -/
theorem sc_is_free_at : FnScope ["shift", "nobody", "number", "due", "pair"] ["shift", "nobody", "number"] (defScope st_is_free_at) := ⟨rfl, rfl, rfl, by decide +kernel, rfl, by decide +kernel, by decide +kernel⟩
def b_is_free_at : SvF := (sSeq (sAsg (.name 3) (eLst (eCons (eTup (eCons (eVar 1) (eCons (eVar 2) eNil))) (eCons (eTup (eCons (eVar 2) (eCons (eVar 1) eNil))) (eCons (eTup (eCons (eVar 2) (eCons (eVar 2) eNil))) eNil))))) (sSeq (sIf (eT (e2 (eLc (iSeq (eVar 3)) (.name 4) (eT (e2 (eVar 4) (eFld "Shift" "goes" (eVar 0)) (cIn true))) (eVar 4) [4]) (eLst eNil) cNe)) (sRet (eC (.bl false))) sNil) (sRet (e2 (eTup (eCons (e2 (e2 (eDm (eFld "Shift" "patterns" (eVar 0))) (eVar 2) cIx) (eC (.int 0)) cIx) (eCons (eTup eNil) eNil))) (eDm (eFld "Shift" "patterns" (eVar 0))) (cIn false)))))
def m_is_free_at : Mean := meanOf 5 3 b_is_free_at
theorem lm_is_free_at : LM m_is_free_at := lm_mean (ls_seq (ls_asg (le_lst (la_cons (le_tup (la_cons le_var (la_cons le_var la_nil))) (la_cons (le_tup (la_cons le_var (la_cons le_var la_nil))) (la_cons (le_tup (la_cons le_var (la_cons le_var la_nil))) la_nil))))) (ls_seq (ls_if (lb_T (le_e2 (le_lc (li_seq le_var) (lb_T (le_e2 le_var (le_fld le_var) c2_in)) le_var) (le_lst la_nil) c2_ne)) (ls_ret le_C) ls_nil) (ls_ret (le_e2 (le_tup (la_cons (le_e2 (le_e2 (le_dm (le_fld le_var)) le_var c2_ix) le_C c2_ix) (la_cons (le_tup la_nil) la_nil))) (le_dm (le_fld le_var)) c2_in))))
theorem ok_is_free_at {P : Program} {w : World} {K : PySem.W.Frag} {mg : Str → Option Value} {base : Heap} {f : Addr} {fd : FuncData} (F : Fun K "is_free_at" "is_free_at" st_is_free_at f fd) (T : Txt K mg) (K_Shift : ClsT P w K mg base "Shift" ["letters", "hears", "rules", "patterns", "goes", "wrong", "promise"])  : VFn P w K mg base 1 f fd ["shift", "nobody", "number"] m_is_free_at :=
  okV F sc_is_free_at fun cdv A outer s H E hr => (vss_cons (vs_asg (ve_lst (va_cons (ve_tup (va_cons (ve_var 1) (va_cons (ve_var 2) va_nil))) (va_cons (ve_tup (va_cons (ve_var 2) (va_cons (ve_var 1) va_nil))) (va_cons (ve_tup (va_cons (ve_var 2) (va_cons (ve_var 2) va_nil))) va_nil)))) (vg_name 3 sc_is_free_at.nd)) (vss_cons (vs_if (vt_ne (hu64 hr) (ve_lc rfl sc_is_free_at.nd (vi_list (ve_var 3)) (blkOk_by (own := [("pair", 4)]) (by rfl)) (fun _ _ _ _ _ => (vg_name 4 sc_is_free_at.nd)) (fun _ _ _ _ _ => (vts_one (vt_notIn (hu65 hr) (ve_var 4) (ve_fld K_Shift (by decide) (ve_var 0))))) (fun _ _ _ _ _ => (ve_var 4))) (ve_lst va_nil)) (vss_one (vs_ret ve_bl)) vss_nil) (vss_one (vs_ret (ve_in (hu65 hr) (ve_tup (va_cons (ve_ix (ve_ix (ve_dm (ve_fld K_Shift (by decide) (ve_var 0))) (ve_var 2)) ve_int) (va_cons (ve_tup va_nil) va_nil))) (ve_dm (ve_fld K_Shift (by decide) (ve_var 0))))))))
/-! _law_deal -/
theorem sc__law_deal : FnScope ["script", "salt", "most", "cells", "mix", "cell"] ["script", "salt"] (defScope st__law_deal) := ⟨rfl, rfl, rfl, by decide +kernel, rfl, by decide +kernel, by decide +kernel⟩
def b__law_deal : SvF := (sSeq (sAsg (.name 2) (e2 (e2 (e2 (e2 (e2 (e2 (eC (.int 10)) (eC (.int 64)) (cI fPow)) (e2 (eC (.int 10)) (eC (.int 64)) (cI fPow)) cMul) (e2 (eC (.int 10)) (eC (.int 64)) (cI fPow)) cMul) (e2 (eC (.int 10)) (eC (.int 64)) (cI fPow)) cMul) (e2 (eC (.int 10)) (eC (.int 64)) (cI fPow)) cMul) (e2 (eC (.int 10)) (eC (.int 64)) (cI fPow)) cMul)) (sSeq (sAsg (.name 3) (eLc (iSeq (eSl (eVar 0) oNone (oSome (eC (.int 63))))) (.name 5) tYesB (e2 (eA (eCons (eA (eCons (eA (eCons (eVar 5) eNil) cInt) eNil) cAbs) eNil) cInt) (eVar 2) (cI fMod)) [5])) (sSeq (sAsg (.name 4) (e2 (eC (.int 70001)) (e2 (eC (.int 7919)) (eVar 1) cMul) cAdd)) (sSeq (sFor (iSeq (eVar 3)) (.name 5) (sAsg (.name 4) (e2 (eA (eCons (e2 (e2 (e2 (eVar 4) (eC (.int 69621)) cMul) (e2 (eA (eCons (eVar 5) eNil) cInt) (eC (.int 2147483563)) (cI fMod)) cAdd) (eC (.int 23)) cAdd) eNil) cInt) (eC (.int 2147483647)) (cI fMod)))) (sRet (eAmb (eLst (eCons (eAmb (e1 (eLc (iSeq (eVar 3)) (.name 5) (eT (e2 (eVar 5) (e2 (eC (.int 10)) (eC (.int 18)) (cI fPow)) (cI fGe))) (eVar 5) [5]) cRev)) (eCons (eVar 4) eNil)))))))))
def m__law_deal : Mean := meanOf 6 2 b__law_deal
theorem ok__law_deal {P : Program} {w : World} {K : PySem.W.Frag} {mg : Str → Option Value} {base : Heap} {f : Addr} {fd : FuncData} (F : Fun K "_law_deal" "_law_deal" st__law_deal f fd) (T : Txt K mg)   : VFn P w K mg base 1 f fd ["script", "salt"] m__law_deal :=
  okV F sc__law_deal fun cdv A outer s H E hr => (vss_cons (vs_asg (ve_mul (ve_mul (ve_mul (ve_mul (ve_mul (ve_pow ve_int ve_int) (ve_pow ve_int ve_int)) (ve_pow ve_int ve_int)) (ve_pow ve_int ve_int)) (ve_pow ve_int ve_int)) (ve_pow ve_int ve_int)) (vg_name 2 sc__law_deal.nd)) (vss_cons (vs_asgLc (i := 3) rfl sc__law_deal.nd (vi_list (ve_slice (ve_var 0) vo_none (vo_some ve_int))) (blkOk_by (own := [("cell", 5)]) (by rfl)) (fun _ _ _ _ _ => (vg_name 5 sc__law_deal.nd)) (fun _ _ _ _ _ => vts_nil) (fun _ _ _ _ _ => (ve_mod (ve_int1 (by rfl) T.z_int (va_cons (ve_abs (by rfl) T.z_abs (va_cons (ve_int1 (by rfl) T.z_int (va_cons (ve_var 5) va_nil)) va_nil)) va_nil)) (ve_var 2)))) (vss_cons (vs_asg (ve_add ve_int (ve_mul ve_int (ve_var 1))) (vg_name 4 sc__law_deal.nd)) (vss_cons (vs_for PassesOwn.never rfl (vi_list (ve_var 3)) (vg_name 5 sc__law_deal.nd) (vss_one (vs_asg (ve_mod (ve_int1 (by rfl) T.z_int (va_cons (ve_add (ve_add (ve_mul (ve_var 4) ve_int) (ve_mod (ve_int1 (by rfl) T.z_int (va_cons (ve_var 5) va_nil)) ve_int)) ve_int) va_nil)) ve_int) (vg_name 4 sc__law_deal.nd)))) (vss_one (vs_ret (ve_amb (ve_lst (va_cons (ve_amb (ve_rev (ve_lc rfl sc__law_deal.nd (vi_list (ve_var 3)) (blkOk_by (own := [("cell", 5)]) (by rfl)) (fun _ _ _ _ _ => (vg_name 5 sc__law_deal.nd)) (fun _ _ _ _ _ => (vts_one (vt_ge (ve_var 5) (ve_pow ve_int ve_int)))) (fun _ _ _ _ _ => (ve_var 5))))) (va_cons (ve_var 4) va_nil))))))))))
/-! _law_any -/
theorem sc__law_any : FnScope ["deal", "bound", "rest"] ["deal", "bound"] (defScope st__law_any) := ⟨rfl, rfl, rfl, by decide +kernel, rfl, by decide +kernel, by decide +kernel⟩
def b__law_any : SvF := (sSeq (sWhile Fu (tAndB (eT (e2 (eA (eCons (e2 (eVar 0) (eC (.int 0)) cIx) eNil) cLen) (eC (.int 0)) (cI fGt))) (eT (e2 (e2 (e2 (eVar 0) (eC (.int 0)) cIx) (eNeg (eC (.int 1))) cIx) (eC (.int 0)) cEq))) (sDrop (ePop (e2 (eVar 0) (eC (.int 0)) cIx)))) (sSeq (sIf (eT (e2 (eA (eCons (e2 (eVar 0) (eC (.int 0)) cIx) eNil) cLen) (eC (.int 0)) (cI fGt))) (sSeq (sAsg (.name 2) (eA (eCons (ePop (e2 (eVar 0) (eC (.int 0)) cIx)) eNil) cInt)) (sSeq (sLocApp (e2 (eVar 0) (eC (.int 0)) cIx) (e2 (eVar 2) (eVar 1) (cI fDiv))) (sRet (e2 (eVar 2) (eVar 1) (cI fMod))))) sNil) (sSeq (sLocSet (e2 (eA (eCons (e2 (e2 (e2 (eVar 0) (eC (.int 1)) cIx) (eC (.int 48271)) cMul) (eC (.int 31)) cAdd) eNil) cInt) (eC (.int 2147483647)) (cI fMod)) (eVar 0) (eC (.int 1))) (sRet (e2 (eA (eCons (e2 (e2 (eVar 0) (eC (.int 1)) cIx) (eC (.int 64)) (cI fDiv)) eNil) cInt) (eVar 1) (cI fMod))))))
def m__law_any : Mean := meanOf 3 2 b__law_any
theorem ok__law_any {P : Program} {w : World} {K : PySem.W.Frag} {mg : Str → Option Value} {base : Heap} {f : Addr} {fd : FuncData} (F : Fun K "_law_any" "_law_any" st__law_any f fd) (T : Txt K mg)   : VFn P w K mg base 1 f fd ["deal", "bound"] m__law_any :=
  okV F sc__law_any fun cdv A outer s H E hr => (vss_cons (vs_while Fu PassesOwn.never (vt_bool (vw_and (vt_gt (ve_len (by rfl) T.z_len (va_cons (ve_ix (ve_var 0) ve_int) va_nil)) ve_int) (vw_and1 (vt_eq (hu64 hr) (ve_ix (ve_ix (ve_var 0) ve_int) (ve_negN ve_int)) ve_int)))) (vss_one (vs_expr (ve_pop (ve_ix (ve_var 0) ve_int))))) (vss_cons (vs_if (vt_gt (ve_len (by rfl) T.z_len (va_cons (ve_ix (ve_var 0) ve_int) va_nil)) ve_int) (vss_cons (vs_asg (ve_int1 (by rfl) T.z_int (va_cons (ve_pop (ve_ix (ve_var 0) ve_int)) va_nil)) (vg_name 2 sc__law_any.nd)) (vss_cons (vs_locApp (ve_ix (ve_var 0) ve_int) (ve_div (ve_var 2) (ve_var 1))) (vss_one (vs_ret (ve_mod (ve_var 2) (ve_var 1)))))) vss_nil) (vss_cons (vs_locSet (ve_mod (ve_int1 (by rfl) T.z_int (va_cons (ve_add (ve_mul (ve_ix (ve_var 0) ve_int) ve_int) ve_int) va_nil)) ve_int) (ve_var 0) ve_int) (vss_one (vs_ret (ve_mod (ve_int1 (by rfl) T.z_int (va_cons (ve_div (ve_ix (ve_var 0) ve_int) ve_int) va_nil)) (ve_var 1)))))))
/-! _law_is_kind -/
theorem sc__law_is_kind : FnScope ["told", "due"] ["told", "due"] (defScope st__law_is_kind) := ⟨rfl, rfl, rfl, by decide +kernel, rfl, by decide +kernel, by decide +kernel⟩
def b__law_is_kind : SvF := (sSeq (sIf (eT (e2 (eVar 1) (eC .non) cIs)) (sRet (e2 (eVar 0) (eC .non) cIs)) sNil) (sSeq (sIf (tOrB (eT (e2 (eVar 1) (eC (.bl true)) cIs)) (eT (e2 (eVar 1) (eC (.bl false)) cIs))) (sRet (eIf (eT (eVar 1)) (e2 (eVar 0) (eC (.bl true)) cIs) (e2 (eVar 0) (eC (.bl false)) cIs))) sNil) (sSeq (sIf (eT (e1 (eVar 1) (cIsi .str))) (sRet (eAndV (e1 (eVar 0) (cIsi .str)) (e2 (eVar 0) (eVar 1) cEq))) sNil) (sRet (eAndV (e1 (eVar 0) (cIsi .int)) (eAndV (eNotV (e1 (eVar 0) (cIsi .bool))) (e2 (eVar 0) (eVar 1) cEq)))))))
def m__law_is_kind : Mean := meanOf 2 2 b__law_is_kind
theorem lm__law_is_kind : LM m__law_is_kind := lm_mean (ls_seq (ls_if (lb_T (le_e2 le_var le_C c2_is)) (ls_ret (le_e2 le_var le_C c2_is)) ls_nil) (ls_seq (ls_if (lb_or (lb_T (le_e2 le_var le_C c2_is)) (lb_T (le_e2 le_var le_C c2_is))) (ls_ret (le_if (lb_T le_var) (le_e2 le_var le_C c2_is) (le_e2 le_var le_C c2_is))) ls_nil) (ls_seq (ls_if (lb_T (le_e1 le_var c1_isi)) (ls_ret (le_andV (le_e1 le_var c1_isi) (le_e2 le_var le_var c2_eq))) ls_nil) (ls_ret (le_andV (le_e1 le_var c1_isi) (le_andV (le_notV (le_e1 le_var c1_isi)) (le_e2 le_var le_var c2_eq)))))))
theorem ok__law_is_kind {P : Program} {w : World} {K : PySem.W.Frag} {mg : Str → Option Value} {base : Heap} {f : Addr} {fd : FuncData} (F : Fun K "_law_is_kind" "_law_is_kind" st__law_is_kind f fd) (T : Txt K mg)   : VFn P w K mg base 1 f fd ["told", "due"] m__law_is_kind :=
  okV F sc__law_is_kind fun cdv A outer s H E hr => (vss_cons (vs_if (vt_is (ve_var 1) ve_non) (vss_one (vs_ret (ve_is (ve_var 0) ve_non))) vss_nil) (vss_cons (vs_if (vt_bool (vw_or (vt_is (ve_var 1) ve_bl) (vw_or1 (vt_is (ve_var 1) ve_bl)))) (vss_one (vs_ret (ve_if (vt_val (ve_var 1)) (ve_is (ve_var 0) ve_bl) (ve_is (ve_var 0) ve_bl)))) vss_nil) (vss_cons (vs_if (vt_val (ve_isi .str (by rfl) T.z_isinstance (by rfl) T.z_str (by decide +kernel) (ve_var 1))) (vss_one (vs_ret (ve_and (ve_isi .str (by rfl) T.z_isinstance (by rfl) T.z_str (by decide +kernel) (ve_var 0)) (ve_one (ve_eq (hu64 hr) (ve_var 0) (ve_var 1)))))) vss_nil) (vss_one (vs_ret (ve_and (ve_isi .int (by rfl) T.z_isinstance (by rfl) T.z_int (by decide +kernel) (ve_var 0)) (ve_and (ve_not (ve_isi .bool (by rfl) T.z_isinstance (by rfl) T.z_bool (by decide +kernel) (ve_var 0))) (ve_one (ve_eq (hu64 hr) (ve_var 0) (ve_var 1))))))))))
/-! _law_all_goes -/
theorem sc__law_all_goes : FnScope ["many", "found", "one", "other"] ["many"] (defScope st__law_all_goes) := ⟨rfl, rfl, rfl, by decide +kernel, rfl, by decide +kernel, by decide +kernel⟩
def b__law_all_goes : SvF := (sSeq (sAsg (.name 1) (eLst eNil)) (sSeq (sFor (iRg1 (eCons (eVar 0) eNil)) (.name 2) (sAsg (.name 1) (e2 (eVar 1) (eLc (iRg1 (eCons (eVar 0) eNil)) (.name 3) tYesB (eTup (eCons (eVar 2) (eCons (eVar 3) eNil))) [3]) cAdd))) (sRet (eVar 1))))
def m__law_all_goes : Mean := meanOf 4 1 b__law_all_goes
theorem lm__law_all_goes : LM m__law_all_goes := lm_mean (ls_seq (ls_asg (le_lst la_nil)) (ls_seq (ls_for (li_rg1 (la_cons le_var la_nil)) (ls_asg (le_e2 le_var (le_lc (li_rg1 (la_cons le_var la_nil)) lb_yes (le_tup (la_cons le_var (la_cons le_var la_nil)))) c2_add))) (ls_ret le_var)))
theorem ok__law_all_goes {P : Program} {w : World} {K : PySem.W.Frag} {mg : Str → Option Value} {base : Heap} {f : Addr} {fd : FuncData} (F : Fun K "_law_all_goes" "_law_all_goes" st__law_all_goes f fd) (T : Txt K mg)   : VFn P w K mg base 1 f fd ["many"] m__law_all_goes :=
  okV F sc__law_all_goes fun cdv A outer s H E hr => (vss_cons (vs_asg (ve_lst va_nil) (vg_name 1 sc__law_all_goes.nd)) (vss_cons (vs_for PassesOwn.never rfl (vi_rg1 (by rfl) T.z_range (va_cons (ve_var 0) va_nil)) (vg_name 2 sc__law_all_goes.nd) (vss_one (vs_asg (ve_add (ve_var 1) (ve_lc rfl sc__law_all_goes.nd (vi_rg1 (by rfl) T.z_range (va_cons (ve_var 0) va_nil)) (blkOk_by (own := [("other", 3)]) (by rfl)) (fun _ _ _ _ _ => (vg_name 3 sc__law_all_goes.nd)) (fun _ _ _ _ _ => vts_nil) (fun _ _ _ _ _ => (ve_tup (va_cons (ve_var 2) (va_cons (ve_var 3) va_nil)))))) (vg_name 1 sc__law_all_goes.nd)))) (vss_one (vs_ret (ve_var 1)))))
/-! _law_is_free -/
theorem sc__law_is_free : FnScope ["patterns", "goes", "nobody", "number"] ["patterns", "goes"] (defScope st__law_is_free) := ⟨rfl, rfl, rfl, by decide +kernel, rfl, by decide +kernel, by decide +kernel⟩
def b__law_is_free : SvF := (sSeq (sAsg (.name 2) (e2 (eVar 0) (eTup (eCons (eTup eNil) (eCons (eTup eNil) eNil))) cIndexL)) (sSeq (sFor (iRg1 (eCons (eA (eCons (eVar 0) eNil) cLen) eNil)) (.name 3) (sSeq (sIf (tOrB (eT (e2 (eTup (eCons (eVar 2) (eCons (eVar 3) eNil))) (eVar 1) (cIn true))) (tOrB (eT (e2 (eTup (eCons (eVar 3) (eCons (eVar 2) eNil))) (eVar 1) (cIn true))) (eT (e2 (eTup (eCons (eVar 3) (eCons (eVar 3) eNil))) (eVar 1) (cIn true))))) (sRet (eC (.bl false))) sNil) (sIf (eT (e2 (eTup (eCons (e2 (e2 (eVar 0) (eVar 3) cIx) (eC (.int 0)) cIx) (eCons (eTup eNil) eNil))) (eVar 0) (cIn true))) (sRet (eC (.bl false))) sNil))) (sRet (eC (.bl true)))))
def m__law_is_free : Mean := meanOf 4 2 b__law_is_free
theorem lm__law_is_free : LM m__law_is_free := lm_mean (ls_seq (ls_asg (le_e2 le_var (le_tup (la_cons (le_tup la_nil) (la_cons (le_tup la_nil) la_nil))) c2_indexL)) (ls_seq (ls_for (li_rg1 (la_cons (le_A (la_cons le_var la_nil) ca_len) la_nil)) (ls_seq (ls_if (lb_or (lb_T (le_e2 (le_tup (la_cons le_var (la_cons le_var la_nil))) le_var c2_in)) (lb_or (lb_T (le_e2 (le_tup (la_cons le_var (la_cons le_var la_nil))) le_var c2_in)) (lb_T (le_e2 (le_tup (la_cons le_var (la_cons le_var la_nil))) le_var c2_in)))) (ls_ret le_C) ls_nil) (ls_if (lb_T (le_e2 (le_tup (la_cons (le_e2 (le_e2 le_var le_var c2_ix) le_C c2_ix) (la_cons (le_tup la_nil) la_nil))) le_var c2_in)) (ls_ret le_C) ls_nil))) (ls_ret le_C)))
theorem ok__law_is_free {P : Program} {w : World} {K : PySem.W.Frag} {mg : Str → Option Value} {base : Heap} {f : Addr} {fd : FuncData} (F : Fun K "_law_is_free" "_law_is_free" st__law_is_free f fd) (T : Txt K mg)   : VFn P w K mg base 1 f fd ["patterns", "goes"] m__law_is_free :=
  okV F sc__law_is_free fun cdv A outer s H E hr => (vss_cons (vs_asg (ve_indexL (hu65 hr) (ve_var 0) (ve_tup (va_cons (ve_tup va_nil) (va_cons (ve_tup va_nil) va_nil)))) (vg_name 2 sc__law_is_free.nd)) (vss_cons (vs_for PassesOwn.never rfl (vi_rg1 (by rfl) T.z_range (va_cons (ve_len (by rfl) T.z_len (va_cons (ve_var 0) va_nil)) va_nil)) (vg_name 3 sc__law_is_free.nd) (vss_cons (vs_if (vt_bool (vw_or (vt_notIn (hu65 hr) (ve_tup (va_cons (ve_var 2) (va_cons (ve_var 3) va_nil))) (ve_var 1)) (vw_or (vt_notIn (hu65 hr) (ve_tup (va_cons (ve_var 3) (va_cons (ve_var 2) va_nil))) (ve_var 1)) (vw_or1 (vt_notIn (hu65 hr) (ve_tup (va_cons (ve_var 3) (va_cons (ve_var 3) va_nil))) (ve_var 1)))))) (vss_one (vs_ret ve_bl)) vss_nil) (vss_one (vs_if (vt_notIn (hu65 hr) (ve_tup (va_cons (ve_ix (ve_ix (ve_var 0) (ve_var 3)) ve_int) (va_cons (ve_tup va_nil) va_nil))) (ve_var 0)) (vss_one (vs_ret ve_bl)) vss_nil)))) (vss_one (vs_ret ve_bl))))
/-! _law_closed -/
theorem sc__law_closed : FnScope ["patterns", "quiet", "lot"] ["patterns"] (defScope st__law_closed) := ⟨rfl, rfl, rfl, by decide +kernel, rfl, by decide +kernel, by decide +kernel⟩
def b__law_closed : SvF := (sRet (e1 (e2 (eVar 0) (eLc (iSeq (eVar 0)) (.names [1, 2]) tYesB (eTup (eCons (eVar 1) (eCons (eTup eNil) eNil))) [1, 2]) cAdd) cSet))
def m__law_closed : Mean := meanOf 3 1 b__law_closed
theorem lm__law_closed : LM m__law_closed := lm_mean (ls_ret (le_e1 (le_e2 le_var (le_lc (li_seq le_var) lb_yes (le_tup (la_cons le_var (la_cons (le_tup la_nil) la_nil)))) c2_add) c1_set))
theorem ok__law_closed {P : Program} {w : World} {K : PySem.W.Frag} {mg : Str → Option Value} {base : Heap} {f : Addr} {fd : FuncData} (F : Fun K "_law_closed" "_law_closed" st__law_closed f fd) (T : Txt K mg)   : VFn P w K mg base 1 f fd ["patterns"] m__law_closed :=
  okV F sc__law_closed fun cdv A outer s H E hr => (vss_one (vs_ret (ve_sortedSet (hu80 hr) rfl (by rfl) T.z_sorted (by rfl) T.z_set (ve_add (ve_var 0) (ve_lc rfl sc__law_closed.nd (vi_list (ve_var 0)) (blkOk_by (own := [("quiet", 1), ("lot", 2)]) (by rfl)) (fun _ _ _ _ _ => (vg_tup rfl (vgs_cons (vg_name 1 sc__law_closed.nd) (vgs_cons (vg_name 2 sc__law_closed.nd) vgs_nil)))) (fun _ _ _ _ _ => vts_nil) (fun _ _ _ _ _ => (ve_tup (va_cons (ve_var 1) (va_cons (ve_tup va_nil) va_nil)))))))))
/-! may_go -/
theorem sc_may_go : FnScope ["one", "other", "roads", "near", "machine"] ["one", "other", "roads"] (defScope st_may_go) := ⟨rfl, rfl, rfl, by decide +kernel, rfl, by decide +kernel, by decide +kernel⟩
def b_may_go : SvF := (sSeq (sIf (eT (e2 (eC (.tup [(.tup []), (.tup [])])) (eTup (eCons (eVar 0) (eCons (eVar 1) eNil))) (cIn false))) (sRet (eC (.bl true))) sNil) (sSeq (sAsg (.name 3) (eCall m_ends_of_roads (eCons (eCall m_faulty_ones (eCons (eVar 0) eNil)) (eCons (eVar 2) eNil)))) (sRet (e2 (eLc (iTupD (eCall m_faulty_ones (eCons (eVar 1) eNil))) (.name 4) (eT (e2 (eVar 4) (eVar 3) (cIn true))) (eVar 4) [4]) (eLst eNil) cEq))))
def m_may_go : Mean := meanOf 5 3 b_may_go
theorem lm_may_go : LM m_may_go := lm_mean (ls_seq (ls_if (lb_T (le_e2 le_C (le_tup (la_cons le_var (la_cons le_var la_nil))) c2_in)) (ls_ret le_C) ls_nil) (ls_seq (ls_asg (le_call lm_ends_of_roads (la_cons (le_call lm_faulty_ones (la_cons le_var la_nil)) (la_cons le_var la_nil)))) (ls_ret (le_e2 (le_lc (li_tup (le_call lm_faulty_ones (la_cons le_var la_nil))) (lb_T (le_e2 le_var le_var c2_in)) le_var) (le_lst la_nil) c2_eq))))
theorem ok_may_go {P : Program} {w : World} {K : PySem.W.Frag} {mg : Str → Option Value} {base : Heap} {f : Addr} {fd : FuncData} (F : Fun K "may_go" "may_go" st_may_go f fd) (T : Txt K mg)  (C_ends_of_roads : Cal P w K mg base 1 "ends_of_roads" st_ends_of_roads ["lot", "roads"] m_ends_of_roads) (C_faulty_ones : Cal P w K mg base 1 "faulty_ones" st_faulty_ones ["pattern"] m_faulty_ones) : VFn P w K mg base 2 f fd ["one", "other", "roads"] m_may_go :=
  okV F sc_may_go fun cdv A outer s H E hr => (vss_cons (vs_if (vt_in (hu65 hr) (ve_mod_ T.c_NOBODY (by rfl)) (ve_tup (va_cons (ve_var 0) (va_cons (ve_var 1) va_nil)))) (vss_one (vs_ret ve_bl)) vss_nil) (vss_cons (vs_asg (ve_cal C_ends_of_roads (hr.mono (by decide)) (by rfl) (va_cons (ve_cal C_faulty_ones (hr.mono (by decide)) (by rfl) (va_cons (ve_var 0) va_nil) (lenA_cons lenA_nil)) (va_cons (ve_var 2) va_nil)) (lenA_cons (lenA_cons lenA_nil))) (vg_name 3 sc_may_go.nd)) (vss_one (vs_ret (ve_eq (hu64 hr) (ve_lc rfl sc_may_go.nd (vi_tup (ve_cal C_faulty_ones (hr.mono (by decide)) (by rfl) (va_cons (ve_var 1) va_nil) (lenA_cons lenA_nil))) (blkOk_by (own := [("machine", 4)]) (by rfl)) (fun _ _ _ _ _ => (vg_name 4 sc_may_go.nd)) (fun _ _ _ _ _ => (vts_one (vt_notIn (hu65 hr) (ve_var 4) (ve_var 3)))) (fun _ _ _ _ _ => (ve_var 4))) (ve_lst va_nil))))))
/-! is_free -/
theorem sc_is_free : FnScope ["shift", "nobody", "number"] ["shift"] (defScope st_is_free) := ⟨rfl, rfl, rfl, by decide +kernel, rfl, by decide +kernel, by decide +kernel⟩
def b_is_free : SvF := (sSeq (sAsg (.name 1) (eCall m_nobody_of (eCons (eVar 0) eNil))) (sRet (e2 (eLc (iRg1 (eCons (eA (eCons (eDm (eFld "Shift" "patterns" (eVar 0))) eNil) cLen) eNil)) (.name 2) (tNotB (eT (eCall m_is_free_at (eCons (eVar 0) (eCons (eVar 1) (eCons (eVar 2) eNil)))))) (eVar 2) [2]) (eLst eNil) cEq)))
def m_is_free : Mean := meanOf 3 1 b_is_free
theorem lm_is_free : LM m_is_free := lm_mean (ls_seq (ls_asg (le_call lm_nobody_of (la_cons le_var la_nil))) (ls_ret (le_e2 (le_lc (li_rg1 (la_cons (le_A (la_cons (le_dm (le_fld le_var)) la_nil) ca_len) la_nil)) (lb_not (lb_T (le_call lm_is_free_at (la_cons le_var (la_cons le_var (la_cons le_var la_nil)))))) le_var) (le_lst la_nil) c2_eq)))
theorem ok_is_free {P : Program} {w : World} {K : PySem.W.Frag} {mg : Str → Option Value} {base : Heap} {f : Addr} {fd : FuncData} (F : Fun K "is_free" "is_free" st_is_free f fd) (T : Txt K mg) (K_Shift : ClsT P w K mg base "Shift" ["letters", "hears", "rules", "patterns", "goes", "wrong", "promise"]) (C_nobody_of : Cal P w K mg base 1 "nobody_of" st_nobody_of ["shift"] m_nobody_of) (C_is_free_at : Cal P w K mg base 1 "is_free_at" st_is_free_at ["shift", "nobody", "number"] m_is_free_at) : VFn P w K mg base 2 f fd ["shift"] m_is_free :=
  okV F sc_is_free fun cdv A outer s H E hr => (vss_cons (vs_asg (ve_cal C_nobody_of (hr.mono (by decide)) (by rfl) (va_cons (ve_var 0) va_nil) (lenA_cons lenA_nil)) (vg_name 1 sc_is_free.nd)) (vss_one (vs_ret (ve_eq (hu64 hr) (ve_lc rfl sc_is_free.nd (vi_rg1 (by rfl) T.z_range (va_cons (ve_len (by rfl) T.z_len (va_cons (ve_dm (ve_fld K_Shift (by decide) (ve_var 0))) va_nil)) va_nil)) (blkOk_by (own := [("number", 2)]) (by rfl)) (fun _ _ _ _ _ => (vg_name 2 sc_is_free.nd)) (fun _ _ _ _ _ => (vts_one (vt_not (vt_val (ve_cal C_is_free_at (hr.mono (by decide)) (by rfl) (va_cons (ve_var 0) (va_cons (ve_var 1) (va_cons (ve_var 2) va_nil))) (lenA_cons (lenA_cons (lenA_cons lenA_nil)))))))) (fun _ _ _ _ _ => (ve_var 2))) (ve_lst va_nil)))))
/-! _law_same -/
theorem sc__law_same : FnScope ["told", "due", "todo", "one", "other", "at"] ["told", "due"] (defScope st__law_same) := ⟨rfl, rfl, rfl, by decide +kernel, rfl, by decide +kernel, by decide +kernel⟩
def b__law_same : SvF := (sSeq (sOwn 2 (eLst (eCons (eTup (eCons (eVar 0) (eCons (eVar 1) eNil))) eNil))) (sSeq (sWhile Fu (eT (e2 (eA (eCons (eVar 2) eNil) cLen) (eC (.int 0)) (cI fGt))) (sSeq (sPopA (.names [3, 4]) 2) (sIf (eT (e1 (eVar 4) (cIsi .tuple))) (sSeq (sIf (tOrB (tNotB (eT (e1 (eVar 3) (cIsi .tuple)))) (eT (e2 (eA (eCons (eVar 3) eNil) cLen) (eA (eCons (eVar 4) eNil) cLen) cNe))) (sRet (eC (.bl false))) sNil) (sFor (iRg1 (eCons (eA (eCons (eVar 4) eNil) cLen) eNil)) (.name 5) (sApp 2 (eTup (eCons (e2 (eVar 3) (eVar 5) cIx) (eCons (e2 (eVar 4) (eVar 5) cIx) eNil)))))) (sIf (tOrB (eT (e1 (eVar 3) (cIsis [.tuple, .list, .dict]))) (tNotB (eT (eCall m__law_is_kind (eCons (eVar 3) (eCons (eVar 4) eNil)))))) (sRet (eC (.bl false))) sNil)))) (sRet (eC (.bl true)))))
def m__law_same : Mean := meanOf 6 2 b__law_same
theorem lm__law_same : LM m__law_same := lm_mean (ls_seq (ls_own (le_lst (la_cons (le_tup (la_cons le_var (la_cons le_var la_nil))) la_nil))) (ls_seq (ls_while (lb_T (le_e2 (le_A (la_cons le_var la_nil) ca_len) le_C c2_I)) (ls_seq ls_popA (ls_if (lb_T (le_e1 le_var c1_isi)) (ls_seq (ls_if (lb_or (lb_not (lb_T (le_e1 le_var c1_isi))) (lb_T (le_e2 (le_A (la_cons le_var la_nil) ca_len) (le_A (la_cons le_var la_nil) ca_len) c2_ne))) (ls_ret le_C) ls_nil) (ls_for (li_rg1 (la_cons (le_A (la_cons le_var la_nil) ca_len) la_nil)) (ls_app (le_tup (la_cons (le_e2 le_var le_var c2_ix) (la_cons (le_e2 le_var le_var c2_ix) la_nil)))))) (ls_if (lb_or (lb_T (le_e1 le_var c1_isis)) (lb_not (lb_T (le_call lm__law_is_kind (la_cons le_var (la_cons le_var la_nil)))))) (ls_ret le_C) ls_nil)))) (ls_ret le_C)))
theorem ok__law_same {P : Program} {w : World} {K : PySem.W.Frag} {mg : Str → Option Value} {base : Heap} {f : Addr} {fd : FuncData} (F : Fun K "_law_same" "_law_same" st__law_same f fd) (T : Txt K mg)  (C__law_is_kind : Cal P w K mg base 1 "_law_is_kind" st__law_is_kind ["told", "due"] m__law_is_kind) : VFn P w K mg base 2 f fd ["told", "due"] m__law_same :=
  okV F sc__law_same fun cdv A outer s H E hr => (vss_cons (vs_own 2 (ve_lst (va_cons (ve_tup (va_cons (ve_var 0) (va_cons (ve_var 1) va_nil))) va_nil)) sc__law_same.nd) (vss_cons (vs_while Fu PassesOwn.never (vt_gt (ve_len (by rfl) T.z_len (va_cons (ve_var 2) va_nil)) ve_int) (vss_cons (vs_popA 2 (vg_tup rfl (vgs_cons (vg_name 3 sc__law_same.nd) (vgs_cons (vg_name 4 sc__law_same.nd) vgs_nil)))) (vss_one (vs_if (vt_val (ve_isi .tuple (by rfl) T.z_isinstance (by rfl) T.z_tuple (by decide +kernel) (ve_var 4))) (vss_cons (vs_if (vt_bool (vw_or (vt_not (vt_val (ve_isi .tuple (by rfl) T.z_isinstance (by rfl) T.z_tuple (by decide +kernel) (ve_var 3)))) (vw_or1 (vt_ne (hu64 hr) (ve_len (by rfl) T.z_len (va_cons (ve_var 3) va_nil)) (ve_len (by rfl) T.z_len (va_cons (ve_var 4) va_nil)))))) (vss_one (vs_ret ve_bl)) vss_nil) (vss_one (vs_for PassesOwn.never rfl (vi_rg1 (by rfl) T.z_range (va_cons (ve_len (by rfl) T.z_len (va_cons (ve_var 4) va_nil)) va_nil)) (vg_name 5 sc__law_same.nd) (vss_one (vs_append 2 (ve_tup (va_cons (ve_ix (ve_var 3) (ve_var 5)) (va_cons (ve_ix (ve_var 4) (ve_var 5)) va_nil)))))))) (vss_one (vs_if (vt_bool (vw_or (vt_val (ve_isiT (by rfl) T.z_isinstance (.cons (by rfl) T.z_tuple (by decide +kernel) (by decide) (by decide) (by rfl) (.cons (by rfl) T.z_list (by decide +kernel) (by decide) (by decide) (by rfl) (.cons (by rfl) T.z_dict (by decide +kernel) (by decide) (by decide) (by rfl) .nil))) (by decide) (ve_var 3))) (vw_or1 (vt_not (vt_val (ve_cal C__law_is_kind (hr.mono (by decide)) (by rfl) (va_cons (ve_var 3) (va_cons (ve_var 4) va_nil)) (lenA_cons (lenA_cons lenA_nil)))))))) (vss_one (vs_ret ve_bl)) vss_nil)))))) (vss_one (vs_ret ve_bl))))
/-! _law_drawn_patterns -/
theorem sc__law_drawn_patterns : FnScope ["deal", "machines", "most", "found", "turn", "parts", "quiet", "lot", "machine", "at"] ["deal", "machines", "most"] (defScope st__law_drawn_patterns) := ⟨rfl, rfl, rfl, by decide +kernel, rfl, by decide +kernel, by decide +kernel⟩
def b__law_drawn_patterns : SvF := (sSeq (sOwn 3 (eLst (eCons (eTup (eCons (eTup eNil) (eCons (eTup eNil) eNil))) eNil))) (sSeq (sFor (iRg1 (eCons (eCall m__law_any (eCons (eVar 0) (eCons (eVar 2) eNil))) eNil)) (.name 4) (sSeq (sAsg (.name 5) (eLc (iRg1 (eCons (eVar 1) eNil)) (.name 8) tYesB (eCall m__law_any (eCons (eVar 0) (eCons (eC (.int 4)) eNil))) [8])) (sSeq (sPar 6 7 false false (eCons (eA (eCons (eLc (iRg1 (eCons (eVar 1) eNil)) (.name 9) (eT (e2 (e2 (eVar 5) (eVar 9) cIx) (eC (.int 0)) cEq)) (eVar 9) [9]) eNil) cTuple) (eCons (eA (eCons (eLc (iRg1 (eCons (eVar 1) eNil)) (.name 9) (eT (e2 (e2 (eVar 5) (eVar 9) cIx) (eC (.int 1)) cEq)) (eVar 9) [9]) eNil) cTuple) eNil))) (sIf (eT (e2 (e2 (eA (eCons (eVar 6) eNil) cLen) (eA (eCons (eVar 7) eNil) cLen) cAdd) (eVar 1) (cI fLt))) (sApp 3 (eTup (eCons (eVar 6) (eCons (eVar 7) eNil)))) sNil)))) (sRet (e1 (eVar 3) cSet))))
def m__law_drawn_patterns : Mean := meanOf 10 3 b__law_drawn_patterns
theorem ok__law_drawn_patterns {P : Program} {w : World} {K : PySem.W.Frag} {mg : Str → Option Value} {base : Heap} {f : Addr} {fd : FuncData} (F : Fun K "_law_drawn_patterns" "_law_drawn_patterns" st__law_drawn_patterns f fd) (T : Txt K mg)  (C__law_any : Cal P w K mg base 1 "_law_any" st__law_any ["deal", "bound"] m__law_any) : VFn P w K mg base 2 f fd ["deal", "machines", "most"] m__law_drawn_patterns :=
  okV F sc__law_drawn_patterns fun cdv A outer s H E hr => (vss_cons (vs_own 3 (ve_lst (va_cons (ve_tup (va_cons (ve_tup va_nil) (va_cons (ve_tup va_nil) va_nil))) va_nil)) sc__law_drawn_patterns.nd) (vss_cons (vs_for PassesOwn.never rfl (vi_rg1 (by rfl) T.z_range (va_cons (ve_cal C__law_any (hr.mono (by decide)) (by rfl) (va_cons (ve_var 0) (va_cons (ve_var 2) va_nil)) (lenA_cons (lenA_cons lenA_nil))) va_nil)) (vg_name 4 sc__law_drawn_patterns.nd) (vss_cons (vs_asg (ve_lc rfl sc__law_drawn_patterns.nd (vi_rg1 (by rfl) T.z_range (va_cons (ve_var 1) va_nil)) (blkOk_by (own := [("machine", 8)]) (by rfl)) (fun _ _ _ _ _ => (vg_name 8 sc__law_drawn_patterns.nd)) (fun _ _ _ _ _ => vts_nil) (fun _ _ _ _ _ => (ve_cal C__law_any (hr.mono (by decide)) (by rfl) (va_cons (ve_var 0) (va_cons ve_int va_nil)) (lenA_cons (lenA_cons lenA_nil))))) (vg_name 5 sc__law_drawn_patterns.nd)) (vss_cons (vs_par false false rfl rfl sc__law_drawn_patterns.nd (va_cons (ve_tuple (by rfl) T.z_tuple (va_cons (ve_lc rfl sc__law_drawn_patterns.nd (vi_rg1 (by rfl) T.z_range (va_cons (ve_var 1) va_nil)) (blkOk_by (own := [("at", 9)]) (by rfl)) (fun _ _ _ _ _ => (vg_name 9 sc__law_drawn_patterns.nd)) (fun _ _ _ _ _ => (vts_one (vt_eq (hu64 hr) (ve_ix (ve_var 5) (ve_var 9)) ve_int))) (fun _ _ _ _ _ => (ve_var 9))) va_nil)) (va_cons (ve_tuple (by rfl) T.z_tuple (va_cons (ve_lc rfl sc__law_drawn_patterns.nd (vi_rg1 (by rfl) T.z_range (va_cons (ve_var 1) va_nil)) (blkOk_by (own := [("at", 9)]) (by rfl)) (fun _ _ _ _ _ => (vg_name 9 sc__law_drawn_patterns.nd)) (fun _ _ _ _ _ => (vts_one (vt_eq (hu64 hr) (ve_ix (ve_var 5) (ve_var 9)) ve_int))) (fun _ _ _ _ _ => (ve_var 9))) va_nil)) va_nil)) (i := 6) (j := 7) (by decide)) (vss_one (vs_if (vt_lt (ve_add (ve_len (by rfl) T.z_len (va_cons (ve_var 6) va_nil)) (ve_len (by rfl) T.z_len (va_cons (ve_var 7) va_nil))) (ve_var 1)) (vss_one (vs_append 3 (ve_tup (va_cons (ve_var 6) (va_cons (ve_var 7) va_nil))))) vss_nil))))) (vss_one (vs_ret (ve_sortedSet (hu80 hr) rfl (by rfl) T.z_sorted (by rfl) T.z_set (ve_var 3))))))
/-! _law_drawn_goes -/
theorem sc__law_drawn_goes : FnScope ["deal", "many", "found", "turn", "one"] ["deal", "many"] (defScope st__law_drawn_goes) := ⟨rfl, rfl, rfl, by decide +kernel, rfl, by decide +kernel, by decide +kernel⟩
def b__law_drawn_goes : SvF := (sSeq (sIf (eT (e2 (eCall m__law_any (eCons (eVar 0) (eCons (eC (.int 3)) eNil))) (eC (.int 0)) cEq)) (sRet (eCall m__law_all_goes (eCons (eVar 1) eNil))) sNil) (sSeq (sOwn 2 (eLc (iRg1 (eCons (eVar 1) eNil)) (.name 4) tYesB (eTup (eCons (eVar 4) (eCons (eCall m__law_any (eCons (eVar 0) (eCons (eVar 1) eNil))) eNil))) [4])) (sSeq (sFor (iRg1 (eCons (eCall m__law_any (eCons (eVar 0) (eCons (e2 (e2 (eC (.int 2)) (eVar 1) cMul) (eC (.int 1)) cAdd) eNil))) eNil)) (.name 3) (sApp 2 (eTup (eCons (eCall m__law_any (eCons (eVar 0) (eCons (eVar 1) eNil))) (eCons (eCall m__law_any (eCons (eVar 0) (eCons (eVar 1) eNil))) eNil))))) (sRet (e1 (eVar 2) cSet)))))
def m__law_drawn_goes : Mean := meanOf 5 2 b__law_drawn_goes
theorem ok__law_drawn_goes {P : Program} {w : World} {K : PySem.W.Frag} {mg : Str → Option Value} {base : Heap} {f : Addr} {fd : FuncData} (F : Fun K "_law_drawn_goes" "_law_drawn_goes" st__law_drawn_goes f fd) (T : Txt K mg)  (C__law_any : Cal P w K mg base 1 "_law_any" st__law_any ["deal", "bound"] m__law_any) (C__law_all_goes : Cal P w K mg base 1 "_law_all_goes" st__law_all_goes ["many"] m__law_all_goes) : VFn P w K mg base 2 f fd ["deal", "many"] m__law_drawn_goes :=
  okV F sc__law_drawn_goes fun cdv A outer s H E hr => (vss_cons (vs_if (vt_eq (hu64 hr) (ve_cal C__law_any (hr.mono (by decide)) (by rfl) (va_cons (ve_var 0) (va_cons ve_int va_nil)) (lenA_cons (lenA_cons lenA_nil))) ve_int) (vss_one (vs_ret (ve_cal C__law_all_goes (hr.mono (by decide)) (by rfl) (va_cons (ve_var 1) va_nil) (lenA_cons lenA_nil)))) vss_nil) (vss_cons (vs_ownLc (i := 2) rfl sc__law_drawn_goes.nd (vi_rg1 (by rfl) T.z_range (va_cons (ve_var 1) va_nil)) (blkOk_by (own := [("one", 4)]) (by rfl)) (fun _ _ _ _ _ => (vg_name 4 sc__law_drawn_goes.nd)) (fun _ _ _ _ _ => vts_nil) (fun _ _ _ _ _ => (ve_tup (va_cons (ve_var 4) (va_cons (ve_cal C__law_any (hr.mono (by decide)) (by rfl) (va_cons (ve_var 0) (va_cons (ve_var 1) va_nil)) (lenA_cons (lenA_cons lenA_nil))) va_nil))))) (vss_cons (vs_for PassesOwn.never rfl (vi_rg1 (by rfl) T.z_range (va_cons (ve_cal C__law_any (hr.mono (by decide)) (by rfl) (va_cons (ve_var 0) (va_cons (ve_add (ve_mul ve_int (ve_var 1)) ve_int) va_nil)) (lenA_cons (lenA_cons lenA_nil))) va_nil)) (vg_name 3 sc__law_drawn_goes.nd) (vss_one (vs_append 2 (ve_tup (va_cons (ve_cal C__law_any (hr.mono (by decide)) (by rfl) (va_cons (ve_var 0) (va_cons (ve_var 1) va_nil)) (lenA_cons (lenA_cons lenA_nil))) (va_cons (ve_cal C__law_any (hr.mono (by decide)) (by rfl) (va_cons (ve_var 0) (va_cons (ve_var 1) va_nil)) (lenA_cons (lenA_cons lenA_nil))) va_nil)))))) (vss_one (vs_ret (ve_sortedSet (hu80 hr) rfl (by rfl) T.z_sorted (by rfl) T.z_set (ve_var 2)))))))
/-! road_goes -/
theorem sc_road_goes : FnScope ["patterns", "roads", "found", "at", "one", "to", "other"] ["patterns", "roads"] (defScope st_road_goes) := ⟨rfl, rfl, rfl, by decide +kernel, rfl, by decide +kernel, by decide +kernel⟩
def b_road_goes : SvF := (sSeq (sOwn 2 (eLst eNil)) (sSeq (sFor (iEnum (eVar 0)) (.names [3, 4]) (sExt 2 (eLc (iEnum (eVar 0)) (.names [5, 6]) (eT (eCall m_may_go (eCons (eVar 4) (eCons (eVar 6) (eCons (eVar 1) eNil))))) (eTup (eCons (eVar 3) (eCons (eVar 5) eNil))) [5, 6]))) (sRet (eA (eCons (eVar 2) eNil) cTuple))))
def m_road_goes : Mean := meanOf 7 2 b_road_goes
theorem lm_road_goes : LM m_road_goes := lm_mean (ls_seq (ls_own (le_lst la_nil)) (ls_seq (ls_for (li_enum le_var) (ls_ext (le_lc (li_enum le_var) (lb_T (le_call lm_may_go (la_cons le_var (la_cons le_var (la_cons le_var la_nil))))) (le_tup (la_cons le_var (la_cons le_var la_nil)))))) (ls_ret (le_A (la_cons le_var la_nil) ca_tuple))))
theorem ok_road_goes {P : Program} {w : World} {K : PySem.W.Frag} {mg : Str → Option Value} {base : Heap} {f : Addr} {fd : FuncData} (F : Fun K "road_goes" "road_goes" st_road_goes f fd) (T : Txt K mg)  (C_may_go : Cal P w K mg base 2 "may_go" st_may_go ["one", "other", "roads"] m_may_go) : VFn P w K mg base 3 f fd ["patterns", "roads"] m_road_goes :=
  okV F sc_road_goes fun cdv A outer s H E hr => (vss_cons (vs_own 2 (ve_lst va_nil) sc_road_goes.nd) (vss_cons (vs_for PassesOwn.never rfl (vi_enum (by rfl) T.z_enumerate (ve_var 0)) (vg_tup rfl (vgs_cons (vg_name 3 sc_road_goes.nd) (vgs_cons (vg_name 4 sc_road_goes.nd) vgs_nil))) (vss_one (vs_extend 2 (ve_lc rfl sc_road_goes.nd (vi_enum (by rfl) T.z_enumerate (ve_var 0)) (blkOk_by (own := [("to", 5), ("other", 6)]) (by rfl)) (fun _ _ _ _ _ => (vg_tup rfl (vgs_cons (vg_name 5 sc_road_goes.nd) (vgs_cons (vg_name 6 sc_road_goes.nd) vgs_nil)))) (fun _ _ _ _ _ => (vts_one (vt_val (ve_cal C_may_go (hr.mono (by decide)) (by rfl) (va_cons (ve_var 4) (va_cons (ve_var 6) (va_cons (ve_var 1) va_nil))) (lenA_cons (lenA_cons (lenA_cons lenA_nil))))))) (fun _ _ _ _ _ => (ve_tup (va_cons (ve_var 3) (va_cons (ve_var 5) va_nil)))))))) (vss_one (vs_ret (ve_tuple (by rfl) T.z_tuple (va_cons (ve_var 2) va_nil))))))
/-! _law_all -/
theorem sc__law_all : FnScope ["pairs", "told", "due"] ["pairs"] (defScope st__law_all) := ⟨rfl, rfl, rfl, by decide +kernel, rfl, by decide +kernel, by decide +kernel⟩
def b__law_all : SvF := (sRet (e2 (eA (eCons (eLc (iSeq (eVar 0)) (.names [1, 2]) (tNotB (eT (eCall m__law_same (eCons (eVar 1) (eCons (eVar 2) eNil))))) (eVar 1) [1, 2]) eNil) cLen) (eC (.int 0)) cEq))
def m__law_all : Mean := meanOf 3 1 b__law_all
theorem lm__law_all : LM m__law_all := lm_mean (ls_ret (le_e2 (le_A (la_cons (le_lc (li_seq le_var) (lb_not (lb_T (le_call lm__law_same (la_cons le_var (la_cons le_var la_nil))))) le_var) la_nil) ca_len) le_C c2_eq))
theorem ok__law_all {P : Program} {w : World} {K : PySem.W.Frag} {mg : Str → Option Value} {base : Heap} {f : Addr} {fd : FuncData} (F : Fun K "_law_all" "_law_all" st__law_all f fd) (T : Txt K mg)  (C__law_same : Cal P w K mg base 2 "_law_same" st__law_same ["told", "due"] m__law_same) : VFn P w K mg base 3 f fd ["pairs"] m__law_all :=
  okV F sc__law_all fun cdv A outer s H E hr => (vss_one (vs_ret (ve_eq (hu64 hr) (ve_len (by rfl) T.z_len (va_cons (ve_lc rfl sc__law_all.nd (vi_list (ve_var 0)) (blkOk_by (own := [("told", 1), ("due", 2)]) (by rfl)) (fun _ _ _ _ _ => (vg_tup rfl (vgs_cons (vg_name 1 sc__law_all.nd) (vgs_cons (vg_name 2 sc__law_all.nd) vgs_nil)))) (fun _ _ _ _ _ => (vts_one (vt_not (vt_val (ve_cal C__law_same (hr.mono (by decide)) (by rfl) (va_cons (ve_var 1) (va_cons (ve_var 2) va_nil)) (lenA_cons (lenA_cons lenA_nil))))))) (fun _ _ _ _ _ => (ve_var 1))) va_nil)) ve_int)))
/-! _law_of_patterns -/
theorem sc__law_of_patterns : FnScope ["patterns", "goes", "machines", "everyone"] ["patterns", "goes", "machines"] (defScope st__law_of_patterns) := ⟨rfl, rfl, rfl, by decide +kernel, rfl, by decide +kernel, by decide +kernel⟩
def b__law_of_patterns : SvF := (sSeq (sAsg (.name 3) (e1 (eVar 2) (cRg1 (fun l => .val (.tup l))))) (sRet (eNew "Shift" ["letters", "hears", "rules", "patterns", "goes", "wrong", "promise"] (eCons (e2 (eTup (eCons (eC (.int 2)) eNil)) (eVar 2) cMul) (eCons (e2 (eTup (eCons (eVar 3) eNil)) (eVar 2) cMul) (eCons (e2 (eTup (eCons (eTup (eCons (eC (.str "most")) eNil)) eNil)) (eVar 2) cMul) (eCons (eA (eCons (eVar 0) eNil) cTupleC) (eCons (eA (eCons (eVar 1) eNil) cTuple) (eCons (eC (.int 1)) (eCons (eTup (eCons (eC (.str "count")) (eCons (eC (.int 2)) (eCons (e2 (eTup (eCons (eTup (eCons (eC (.int 0)) (eCons (eC (.int 1)) eNil))) eNil)) (eVar 2) cMul) eNil)))) eNil))))))))))
def m__law_of_patterns : Mean := meanOf 4 3 b__law_of_patterns
theorem lm__law_of_patterns : LM m__law_of_patterns := lm_mean (ls_seq (ls_asg (le_e1 le_var c1_rg)) (ls_ret (le_new (la_cons (le_e2 (le_tup (la_cons le_C la_nil)) le_var c2_mul) (la_cons (le_e2 (le_tup (la_cons le_var la_nil)) le_var c2_mul) (la_cons (le_e2 (le_tup (la_cons (le_tup (la_cons le_C la_nil)) la_nil)) le_var c2_mul) (la_cons (le_A (la_cons le_var la_nil) ca_tupleC) (la_cons (le_A (la_cons le_var la_nil) ca_tuple) (la_cons le_C (la_cons (le_tup (la_cons le_C (la_cons le_C (la_cons (le_e2 (le_tup (la_cons (le_tup (la_cons le_C (la_cons le_C la_nil))) la_nil)) le_var c2_mul) la_nil)))) la_nil))))))))))
theorem ok__law_of_patterns {P : Program} {w : World} {K : PySem.W.Frag} {mg : Str → Option Value} {base : Heap} {f : Addr} {fd : FuncData} (F : Fun K "_law_of_patterns" "_law_of_patterns" st__law_of_patterns f fd) (T : Txt K mg) (K_Shift : ClsT P w K mg base "Shift" ["letters", "hears", "rules", "patterns", "goes", "wrong", "promise"])  : VFn P w K mg base 3 f fd ["patterns", "goes", "machines"] m__law_of_patterns :=
  okV F sc__law_of_patterns fun cdv A outer s H E hr => (vss_cons (vs_asg (ve_tupRg1 rfl (by rfl) T.z_tuple (by rfl) T.z_range (ve_var 2)) (vg_name 3 sc__law_of_patterns.nd)) (vss_one (vs_ret (ve_new K_Shift (hr.mono (by decide)) (by rfl) (va_cons (ve_mul (ve_tup (va_cons ve_int va_nil)) (ve_var 2)) (va_cons (ve_mul (ve_tup (va_cons (ve_var 3) va_nil)) (ve_var 2)) (va_cons (ve_mul (ve_tup (va_cons (ve_tup (va_cons ve_str va_nil)) va_nil)) (ve_var 2)) (va_cons (ve_tupleC (by rfl) T.z_tuple (va_cons (ve_var 0) va_nil)) (va_cons (ve_tuple (by rfl) T.z_tuple (va_cons (ve_var 1) va_nil)) (va_cons ve_int (va_cons (ve_tup (va_cons ve_str (va_cons ve_int (va_cons (ve_mul (ve_tup (va_cons (ve_tup (va_cons ve_int (va_cons ve_int va_nil))) va_nil)) (ve_var 2)) va_nil)))) va_nil)))))))))))
/-! law -/
theorem sc_law : FnScope ["script", "deal", "pairs", "turn", "machines", "patterns", "many", "full", "drop", "roads", "goes", "shift", "nobody", "liar", "both", "quiet", "known", "due", "ones", "again", "at"] ["script"] (defScope st_law) := ⟨rfl, rfl, rfl, by decide +kernel, rfl, by decide +kernel, by decide +kernel⟩
def b_law : SvF := (sSeq (sAsg (.name 1) (eCall m__law_deal (eCons (eVar 0) (eCons (eC (.int 909)) eNil)))) (sSeq (sOwn 2 (eLst eNil)) (sSeq (sFor (iRg1 (eCons (eC (.int 8)) eNil)) (.name 3) (sSeq (sAsg (.name 4) (e2 (eC (.int 2)) (eCall m__law_any (eCons (eVar 1) (eCons (eC (.int 4)) eNil))) cAdd)) (sSeq (sAsg (.name 5) (eCall m__law_drawn_patterns (eCons (eVar 1) (eCons (eVar 4) (eCons (eC (.int 6)) eNil))))) (sSeq (sAsg (.name 5) (eIf (eT (e2 (eCall m__law_any (eCons (eVar 1) (eCons (eC (.int 2)) eNil))) (eC (.int 0)) cEq)) (eCall m__law_closed (eCons (eVar 5) eNil)) (eVar 5))) (sSeq (sAsg (.name 6) (eA (eCons (eVar 5) eNil) cLen)) (sSeq (sAsg (.name 7) (eCall m__law_all_goes (eCons (eVar 6) eNil))) (sSeq (sAsg (.name 8) (eIf (eT (e2 (eVar 6) (eC (.int 1)) (cI fGt))) (eCall m__law_any (eCons (eVar 1) (eCons (eA (eCons (eVar 7) eNil) cLen) eNil))) (eA (eCons (eVar 7) eNil) cLen))) (sSeq (sAsg (.name 9) (eA (eCons (e1 (eLc (iRg1 (eCons (eC (.int 3)) eNil)) (.name 19) tYesB (eTup (eCons (eCall m__law_any (eCons (eVar 1) (eCons (eVar 4) eNil))) (eCons (eCall m__law_any (eCons (eVar 1) (eCons (eVar 4) eNil))) eNil))) [19]) cSet) eNil) cTuple)) (sFor (iSeq (eLst (eCons (eVar 7) (eCons (ePub (e2 (eSl (eVar 7) oNone (oSome (eVar 8))) (eSl (eVar 7) (oSome (e2 (eVar 8) (eC (.int 1)) cAdd)) oNone) cAdd)) (eCons (ePub (eCall m__law_drawn_goes (eCons (eVar 1) (eCons (eVar 6) eNil)))) (eCons (ePub (eA (eCons (eCall m_road_goes (eCons (eA (eCons (eVar 5) eNil) cTuple) (eCons (eVar 9) eNil))) eNil) cList)) eNil)))))) (.name 10) (sSeq (sAsg (.name 11) (eCall m__law_of_patterns (eCons (eVar 5) (eCons (eVar 10) (eCons (eVar 4) eNil))))) (sSeq (sApp 2 (eTup (eCons (eCall m_is_free (eCons (eVar 11) eNil)) (eCons (eCall m__law_is_free (eCons (eVar 5) (eCons (eVar 10) eNil))) eNil)))) (sApp 2 (eTup (eCons (eCallK m_is_free [0] (eCons (eVar 11) eNil)) (eCons (eCall m__law_is_free (eCons (eVar 5) (eCons (eVar 10) eNil))) eNil))))))))))))))) (sSeq (sAsg (.names [12, 13, 14, 15]) (eTup (eCons (eTup (eCons (eTup eNil) (eCons (eTup eNil) eNil))) (eCons (eTup (eCons (eTup eNil) (eCons (eTup (eCons (eC (.int 0)) eNil)) eNil))) (eCons (eTup (eCons (eTup (eCons (eC (.int 1)) eNil)) (eCons (eTup (eCons (eC (.int 0)) eNil)) eNil))) (eCons (eTup (eCons (eTup (eCons (eC (.int 1)) eNil)) (eCons (eTup eNil) eNil))) eNil)))))) (sSeq (sAsg (.name 16) (eLst (eCons (eTup (eCons (ePub (eLst (eCons (eVar 12) eNil))) (eCons (ePub (eLst (eCons (eTup (eCons (eC (.int 0)) (eCons (eC (.int 0)) eNil))) eNil))) (eCons (eC (.bl true)) eNil)))) (eCons (eTup (eCons (ePub (eLst (eCons (eVar 12) (eCons (eVar 13) eNil)))) (eCons (ePub (eCall m__law_all_goes (eCons (eC (.int 2)) eNil))) (eCons (eC (.bl true)) eNil)))) (eCons (eTup (eCons (ePub (eLst (eCons (eVar 12) (eCons (eVar 13) eNil)))) (eCons (ePub (eLst (eCons (eTup (eCons (eC (.int 0)) (eCons (eC (.int 0)) eNil))) (eCons (eTup (eCons (eC (.int 0)) (eCons (eC (.int 1)) eNil))) (eCons (eTup (eCons (eC (.int 1)) (eCons (eC (.int 0)) eNil))) eNil))))) (eCons (eC (.bl false)) eNil)))) eNil))))) (sSeq (sAsg (.name 16) (e2 (eVar 16) (eLst (eCons (eTup (eCons (ePub (eLst (eCons (eVar 12) (eCons (eVar 13) eNil)))) (eCons (ePub (eLst (eCons (eTup (eCons (eC (.int 0)) (eCons (eC (.int 0)) eNil))) (eCons (eTup (eCons (eC (.int 1)) (eCons (eC (.int 0)) eNil))) (eCons (eTup (eCons (eC (.int 1)) (eCons (eC (.int 1)) eNil))) eNil))))) (eCons (eC (.bl false)) eNil)))) (eCons (eTup (eCons (ePub (eLst (eCons (eVar 12) (eCons (eVar 14) eNil)))) (eCons (ePub (eCall m__law_all_goes (eCons (eC (.int 2)) eNil))) (eCons (eC (.bl false)) eNil)))) (eCons (eTup (eCons (ePub (eLst (eCons (eVar 12) (eCons (eVar 15) (eCons (eVar 14) eNil))))) (eCons (ePub (eCall m__law_all_goes (eCons (eC (.int 3)) eNil))) (eCons (eC (.bl true)) eNil)))) eNil)))) cAdd)) (sSeq (sFor (iSeq (eVar 16)) (.names [5, 10, 17]) (sApp 2 (eTup (eCons (eCall m_is_free (eCons (eCall m__law_of_patterns (eCons (eVar 5) (eCons (eVar 10) (eCons (eC (.int 3)) eNil)))) eNil)) (eCons (eVar 17) eNil))))) (sSeq (sAsg (.name 18) (e2 (eLst (eCons (eVar 12) eNil)) (eLc (iRg1 (eCons (eC (.int 4)) eNil)) (.name 20) tYesB (eTup (eCons (eTup (eCons (eVar 20) eNil)) (eCons (eTup eNil) eNil))) [20]) cAdd)) (sSeq (sApp 2 (eTup (eCons (eCall m_is_free (eCons (eCall m__law_of_patterns (eCons (eVar 18) (eCons (eCall m_road_goes (eCons (eA (eCons (eVar 18) eNil) cTuple) (eCons (eTup (eCons (eTup (eCons (eC (.int 0)) (eCons (eC (.int 1)) eNil))) (eCons (eTup (eCons (eC (.int 1)) (eCons (eC (.int 2)) eNil))) eNil))) eNil))) (eCons (eC (.int 4)) eNil)))) eNil)) (eCons (eC (.bl true)) eNil)))) (sRet (eCall m__law_all (eCons (ePub (e2 (eVar 2) (eLst (eCons (eTup (eCons (eCall m_all_goes (eCons (eA (eCons (eVar 18) eNil) cTuple) eNil)) (eCons (eA (eCons (eCall m__law_all_goes (eCons (eC (.int 5)) eNil)) eNil) cTuple) eNil))) eNil)) cAdd)) eNil))))))))))))
def m_law : Mean := meanOf 21 1 b_law
theorem ok_law {P : Program} {w : World} {K : PySem.W.Frag} {mg : Str → Option Value} {base : Heap} {f : Addr} {fd : FuncData} (F : Fun K "law" "law" st_law f fd) (T : Txt K mg)  (C__law_deal : Cal P w K mg base 1 "_law_deal" st__law_deal ["script", "salt"] m__law_deal) (C__law_any : Cal P w K mg base 1 "_law_any" st__law_any ["deal", "bound"] m__law_any) (C__law_drawn_patterns : Cal P w K mg base 2 "_law_drawn_patterns" st__law_drawn_patterns ["deal", "machines", "most"] m__law_drawn_patterns) (C__law_closed : Cal P w K mg base 1 "_law_closed" st__law_closed ["patterns"] m__law_closed) (C__law_all_goes : Cal P w K mg base 1 "_law_all_goes" st__law_all_goes ["many"] m__law_all_goes) (C_road_goes : Cal P w K mg base 3 "road_goes" st_road_goes ["patterns", "roads"] m_road_goes) (C__law_drawn_goes : Cal P w K mg base 2 "_law_drawn_goes" st__law_drawn_goes ["deal", "many"] m__law_drawn_goes) (C__law_of_patterns : Cal P w K mg base 3 "_law_of_patterns" st__law_of_patterns ["patterns", "goes", "machines"] m__law_of_patterns) (C__law_is_free : Cal P w K mg base 1 "_law_is_free" st__law_is_free ["patterns", "goes"] m__law_is_free) (C_is_free : Cal P w K mg base 2 "is_free" st_is_free ["shift"] m_is_free) (C__law_all : Cal P w K mg base 3 "_law_all" st__law_all ["pairs"] m__law_all) (C_all_goes : Cal P w K mg base 1 "all_goes" st_all_goes ["patterns"] m_all_goes) : VFn P w K mg base 4 f fd ["script"] m_law :=
  okV F sc_law fun cdv A outer s H E hr => (vss_cons (vs_asg (ve_cal C__law_deal (hr.mono (by decide)) (by rfl) (va_cons (ve_var 0) (va_cons ve_int va_nil)) (lenA_cons (lenA_cons lenA_nil))) (vg_name 1 sc_law.nd)) (vss_cons (vs_own 2 (ve_lst va_nil) sc_law.nd) (vss_cons (vs_for PassesOwn.never rfl (vi_rg1 (by rfl) T.z_range (va_cons ve_int va_nil)) (vg_name 3 sc_law.nd) (vss_cons (vs_asg (ve_add ve_int (ve_cal C__law_any (hr.mono (by decide)) (by rfl) (va_cons (ve_var 1) (va_cons ve_int va_nil)) (lenA_cons (lenA_cons lenA_nil)))) (vg_name 4 sc_law.nd)) (vss_cons (vs_asg (ve_cal C__law_drawn_patterns (hr.mono (by decide)) (by rfl) (va_cons (ve_var 1) (va_cons (ve_var 4) (va_cons ve_int va_nil))) (lenA_cons (lenA_cons (lenA_cons lenA_nil)))) (vg_name 5 sc_law.nd)) (vss_cons (vs_asg (ve_if (vt_eq (hu64 hr) (ve_cal C__law_any (hr.mono (by decide)) (by rfl) (va_cons (ve_var 1) (va_cons ve_int va_nil)) (lenA_cons (lenA_cons lenA_nil))) ve_int) (ve_cal C__law_closed (hr.mono (by decide)) (by rfl) (va_cons (ve_var 5) va_nil) (lenA_cons lenA_nil)) (ve_var 5)) (vg_name 5 sc_law.nd)) (vss_cons (vs_asg (ve_len (by rfl) T.z_len (va_cons (ve_var 5) va_nil)) (vg_name 6 sc_law.nd)) (vss_cons (vs_asg (ve_cal C__law_all_goes (hr.mono (by decide)) (by rfl) (va_cons (ve_var 6) va_nil) (lenA_cons lenA_nil)) (vg_name 7 sc_law.nd)) (vss_cons (vs_asg (ve_if (vt_gt (ve_var 6) ve_int) (ve_cal C__law_any (hr.mono (by decide)) (by rfl) (va_cons (ve_var 1) (va_cons (ve_len (by rfl) T.z_len (va_cons (ve_var 7) va_nil)) va_nil)) (lenA_cons (lenA_cons lenA_nil))) (ve_len (by rfl) T.z_len (va_cons (ve_var 7) va_nil))) (vg_name 8 sc_law.nd)) (vss_cons (vs_asg (ve_tuple (by rfl) T.z_tuple (va_cons (ve_sortedSet (hu80 hr) rfl (by rfl) T.z_sorted (by rfl) T.z_set (ve_lc rfl sc_law.nd (vi_rg1 (by rfl) T.z_range (va_cons ve_int va_nil)) (blkOk_by (own := [("again", 19)]) (by rfl)) (fun _ _ _ _ _ => (vg_name 19 sc_law.nd)) (fun _ _ _ _ _ => vts_nil) (fun _ _ _ _ _ => (ve_tup (va_cons (ve_cal C__law_any (hr.mono (by decide)) (by rfl) (va_cons (ve_var 1) (va_cons (ve_var 4) va_nil)) (lenA_cons (lenA_cons lenA_nil))) (va_cons (ve_cal C__law_any (hr.mono (by decide)) (by rfl) (va_cons (ve_var 1) (va_cons (ve_var 4) va_nil)) (lenA_cons (lenA_cons lenA_nil))) va_nil)))))) va_nil)) (vg_name 9 sc_law.nd)) (vss_one (vs_for PassesOwn.never rfl (vi_list (ve_lst (va_cons (ve_var 7) (va_cons (ve_pub (ve_add (ve_slice (ve_var 7) vo_none (vo_some (ve_var 8))) (ve_slice (ve_var 7) (vo_some (ve_add (ve_var 8) ve_int)) vo_none))) (va_cons (ve_pub (ve_cal C__law_drawn_goes (hr.mono (by decide)) (by rfl) (va_cons (ve_var 1) (va_cons (ve_var 6) va_nil)) (lenA_cons (lenA_cons lenA_nil)))) (va_cons (ve_pub (ve_list (by rfl) T.z_list (va_cons (ve_cal C_road_goes (hr.mono (by decide)) (by rfl) (va_cons (ve_tuple (by rfl) T.z_tuple (va_cons (ve_var 5) va_nil)) (va_cons (ve_var 9) va_nil)) (lenA_cons (lenA_cons lenA_nil))) va_nil))) va_nil)))))) (vg_name 10 sc_law.nd) (vss_cons (vs_asg (ve_cal C__law_of_patterns (hr.mono (by decide)) (by rfl) (va_cons (ve_var 5) (va_cons (ve_var 10) (va_cons (ve_var 4) va_nil))) (lenA_cons (lenA_cons (lenA_cons lenA_nil)))) (vg_name 11 sc_law.nd)) (vss_cons (vs_append 2 (ve_tup (va_cons (ve_cal C_is_free (hr.mono (by decide)) (by rfl) (va_cons (ve_var 11) va_nil) (lenA_cons lenA_nil)) (va_cons (ve_cal C__law_is_free (hr.mono (by decide)) (by rfl) (va_cons (ve_var 5) (va_cons (ve_var 10) va_nil)) (lenA_cons (lenA_cons lenA_nil))) va_nil)))) (vss_one (vs_append 2 (ve_tup (va_cons (ve_calK (ks := ["shift"]) [0] C_is_free (hr.mono (by decide)) (by rfl) (vk_cons (ve_var 11) vk_nil) (lenA_cons lenA_nil) (fun l h => pick_len _ l h (by decide)) (fun _ _ _ _ _ _ ws hl => match ws, hl with | [_], _ => rfl)) (va_cons (ve_cal C__law_is_free (hr.mono (by decide)) (by rfl) (va_cons (ve_var 5) (va_cons (ve_var 10) va_nil)) (lenA_cons (lenA_cons lenA_nil))) va_nil))))))))))))))))) (vss_cons (vs_asg (ve_tup (va_cons (ve_tup (va_cons (ve_tup va_nil) (va_cons (ve_tup va_nil) va_nil))) (va_cons (ve_tup (va_cons (ve_tup va_nil) (va_cons (ve_tup (va_cons ve_int va_nil)) va_nil))) (va_cons (ve_tup (va_cons (ve_tup (va_cons ve_int va_nil)) (va_cons (ve_tup (va_cons ve_int va_nil)) va_nil))) (va_cons (ve_tup (va_cons (ve_tup (va_cons ve_int va_nil)) (va_cons (ve_tup va_nil) va_nil))) va_nil))))) (vg_tup rfl (vgs_cons (vg_name 12 sc_law.nd) (vgs_cons (vg_name 13 sc_law.nd) (vgs_cons (vg_name 14 sc_law.nd) (vgs_cons (vg_name 15 sc_law.nd) vgs_nil)))))) (vss_cons (vs_asg (ve_lst (va_cons (ve_tup (va_cons (ve_pub (ve_lst (va_cons (ve_var 12) va_nil))) (va_cons (ve_pub (ve_lst (va_cons (ve_tup (va_cons ve_int (va_cons ve_int va_nil))) va_nil))) (va_cons ve_bl va_nil)))) (va_cons (ve_tup (va_cons (ve_pub (ve_lst (va_cons (ve_var 12) (va_cons (ve_var 13) va_nil)))) (va_cons (ve_pub (ve_cal C__law_all_goes (hr.mono (by decide)) (by rfl) (va_cons ve_int va_nil) (lenA_cons lenA_nil))) (va_cons ve_bl va_nil)))) (va_cons (ve_tup (va_cons (ve_pub (ve_lst (va_cons (ve_var 12) (va_cons (ve_var 13) va_nil)))) (va_cons (ve_pub (ve_lst (va_cons (ve_tup (va_cons ve_int (va_cons ve_int va_nil))) (va_cons (ve_tup (va_cons ve_int (va_cons ve_int va_nil))) (va_cons (ve_tup (va_cons ve_int (va_cons ve_int va_nil))) va_nil))))) (va_cons ve_bl va_nil)))) va_nil)))) (vg_name 16 sc_law.nd)) (vss_cons (vs_asg (ve_add (ve_var 16) (ve_lst (va_cons (ve_tup (va_cons (ve_pub (ve_lst (va_cons (ve_var 12) (va_cons (ve_var 13) va_nil)))) (va_cons (ve_pub (ve_lst (va_cons (ve_tup (va_cons ve_int (va_cons ve_int va_nil))) (va_cons (ve_tup (va_cons ve_int (va_cons ve_int va_nil))) (va_cons (ve_tup (va_cons ve_int (va_cons ve_int va_nil))) va_nil))))) (va_cons ve_bl va_nil)))) (va_cons (ve_tup (va_cons (ve_pub (ve_lst (va_cons (ve_var 12) (va_cons (ve_var 14) va_nil)))) (va_cons (ve_pub (ve_cal C__law_all_goes (hr.mono (by decide)) (by rfl) (va_cons ve_int va_nil) (lenA_cons lenA_nil))) (va_cons ve_bl va_nil)))) (va_cons (ve_tup (va_cons (ve_pub (ve_lst (va_cons (ve_var 12) (va_cons (ve_var 15) (va_cons (ve_var 14) va_nil))))) (va_cons (ve_pub (ve_cal C__law_all_goes (hr.mono (by decide)) (by rfl) (va_cons ve_int va_nil) (lenA_cons lenA_nil))) (va_cons ve_bl va_nil)))) va_nil))))) (vg_name 16 sc_law.nd)) (vss_cons (vs_for PassesOwn.never rfl (vi_list (ve_var 16)) (vg_tup rfl (vgs_cons (vg_name 5 sc_law.nd) (vgs_cons (vg_name 10 sc_law.nd) (vgs_cons (vg_name 17 sc_law.nd) vgs_nil)))) (vss_one (vs_append 2 (ve_tup (va_cons (ve_cal C_is_free (hr.mono (by decide)) (by rfl) (va_cons (ve_cal C__law_of_patterns (hr.mono (by decide)) (by rfl) (va_cons (ve_var 5) (va_cons (ve_var 10) (va_cons ve_int va_nil))) (lenA_cons (lenA_cons (lenA_cons lenA_nil)))) va_nil) (lenA_cons lenA_nil)) (va_cons (ve_var 17) va_nil)))))) (vss_cons (vs_asg (ve_add (ve_lst (va_cons (ve_var 12) va_nil)) (ve_lc rfl sc_law.nd (vi_rg1 (by rfl) T.z_range (va_cons ve_int va_nil)) (blkOk_by (own := [("at", 20)]) (by rfl)) (fun _ _ _ _ _ => (vg_name 20 sc_law.nd)) (fun _ _ _ _ _ => vts_nil) (fun _ _ _ _ _ => (ve_tup (va_cons (ve_tup (va_cons (ve_var 20) va_nil)) (va_cons (ve_tup va_nil) va_nil)))))) (vg_name 18 sc_law.nd)) (vss_cons (vs_append 2 (ve_tup (va_cons (ve_cal C_is_free (hr.mono (by decide)) (by rfl) (va_cons (ve_cal C__law_of_patterns (hr.mono (by decide)) (by rfl) (va_cons (ve_var 18) (va_cons (ve_cal C_road_goes (hr.mono (by decide)) (by rfl) (va_cons (ve_tuple (by rfl) T.z_tuple (va_cons (ve_var 18) va_nil)) (va_cons (ve_tup (va_cons (ve_tup (va_cons ve_int (va_cons ve_int va_nil))) (va_cons (ve_tup (va_cons ve_int (va_cons ve_int va_nil))) va_nil))) va_nil)) (lenA_cons (lenA_cons lenA_nil))) (va_cons ve_int va_nil))) (lenA_cons (lenA_cons (lenA_cons lenA_nil)))) va_nil) (lenA_cons lenA_nil)) (va_cons ve_bl va_nil)))) (vss_one (vs_ret (ve_cal C__law_all (hr.mono (by decide)) (by rfl) (va_cons (ve_pub (ve_add (ve_var 2) (ve_lst (va_cons (ve_tup (va_cons (ve_cal C_all_goes (hr.mono (by decide)) (by rfl) (va_cons (ve_tuple (by rfl) T.z_tuple (va_cons (ve_var 18) va_nil)) va_nil) (lenA_cons lenA_nil)) (va_cons (ve_tuple (by rfl) T.z_tuple (va_cons (ve_cal C__law_all_goes (hr.mono (by decide)) (by rfl) (va_cons ve_int va_nil) (lenA_cons lenA_nil)) va_nil)) va_nil))) va_nil)))) va_nil) (lenA_cons lenA_nil)))))))))))))
theorem all_mk {l : PySem.W.OpenLaw} {w : World} {K : PySem.W.Frag} {h : Heap} {mg : Str → Option Value} {fa : Addr} (X : K.In h) (G : h.Ns mainGlobals mg) (hfa : mg "law" = some (.ref fa))
    {f0 : Addr} {od0 an0 : Option Addr} {sl0 : Array (Option Value)} {oc0 kV0 dc0 pm0 cd0 ct0 : Value} {f1 : Addr} {od1 an1 : Option Addr} {sl1 : Array (Option Value)} {oc1 kV1 dc1 pm1 cd1 ct1 : Value} {f2 : Addr} {od2 an2 : Option Addr} {sl2 : Array (Option Value)} {oc2 kV2 dc2 pm2 cd2 ct2 : Value} {f3 : Addr} {od3 an3 : Option Addr} {sl3 : Array (Option Value)} {oc3 kV3 dc3 pm3 cd3 ct3 : Value} {f4 : Addr} {od4 an4 : Option Addr} {sl4 : Array (Option Value)} {oc4 kV4 dc4 pm4 cd4 ct4 : Value} {f5 : Addr} {od5 an5 : Option Addr} {sl5 : Array (Option Value)} {oc5 kV5 dc5 pm5 cd5 ct5 : Value} {f6 : Addr} {od6 an6 : Option Addr} {sl6 : Array (Option Value)} {oc6 kV6 dc6 pm6 cd6 ct6 : Value} {f7 : Addr} {od7 an7 : Option Addr} {sl7 : Array (Option Value)} {oc7 kV7 dc7 pm7 cd7 ct7 : Value} {f8 : Addr} {od8 an8 : Option Addr} {sl8 : Array (Option Value)} {oc8 kV8 dc8 pm8 cd8 ct8 : Value} {f9 : Addr} {od9 an9 : Option Addr} {sl9 : Array (Option Value)} {oc9 kV9 dc9 pm9 cd9 ct9 : Value} {f10 : Addr} {od10 an10 : Option Addr} {sl10 : Array (Option Value)} {oc10 kV10 dc10 pm10 cd10 ct10 : Value} {f11 : Addr} {od11 an11 : Option Addr} {sl11 : Array (Option Value)} {oc11 kV11 dc11 pm11 cd11 ct11 : Value} {f12 : Addr} {od12 an12 : Option Addr} {sl12 : Array (Option Value)} {oc12 kV12 dc12 pm12 cd12 ct12 : Value} {f13 : Addr} {od13 an13 : Option Addr} {sl13 : Array (Option Value)} {oc13 kV13 dc13 pm13 cd13 ct13 : Value} {f14 : Addr} {od14 an14 : Option Addr} {sl14 : Array (Option Value)} {oc14 kV14 dc14 pm14 cd14 ct14 : Value} {f15 : Addr} {od15 an15 : Option Addr} {sl15 : Array (Option Value)} {oc15 kV15 dc15 pm15 cd15 ct15 : Value} {f16 : Addr} {od16 an16 : Option Addr} {sl16 : Array (Option Value)} {oc16 kV16 dc16 pm16 cd16 ct16 : Value} {f17 : Addr} {od17 an17 : Option Addr} {sl17 : Array (Option Value)} {oc17 kV17 dc17 pm17 cd17 ct17 : Value} {f18 : Addr} {od18 an18 : Option Addr} {sl18 : Array (Option Value)} {oc18 kV18 dc18 pm18 cd18 ct18 : Value} {f19 : Addr} {od19 an19 : Option Addr} {sl19 : Array (Option Value)} {oc19 kV19 dc19 pm19 cd19 ct19 : Value}
    (a0 : PySem.W.nsIn K mainGlobals "faulty_ones" = some (some (.ref f0))) (l0 : K.lookup f0 = some ⟨oc0, od0, .func (PySem.W.fnOf "faulty_ones" "faulty_ones" (defArgs st_faulty_ones) (defBody st_faulty_ones) (defScope st_faulty_ones) .none kV0 dc0 pm0 an0 cd0 ct0), sl0⟩)
    (c0 : PySem.W.codeIn K cd0 "faulty_ones" = true) (k0 : PySem.W.keepIn K (.ref f0) = true)
    (a1 : PySem.W.nsIn K mainGlobals "all_goes" = some (some (.ref f1))) (l1 : K.lookup f1 = some ⟨oc1, od1, .func (PySem.W.fnOf "all_goes" "all_goes" (defArgs st_all_goes) (defBody st_all_goes) (defScope st_all_goes) .none kV1 dc1 pm1 an1 cd1 ct1), sl1⟩)
    (c1 : PySem.W.codeIn K cd1 "all_goes" = true) (k1 : PySem.W.keepIn K (.ref f1) = true)
    (a2 : PySem.W.nsIn K mainGlobals "ends_of_roads" = some (some (.ref f2))) (l2 : K.lookup f2 = some ⟨oc2, od2, .func (PySem.W.fnOf "ends_of_roads" "ends_of_roads" (defArgs st_ends_of_roads) (defBody st_ends_of_roads) (defScope st_ends_of_roads) .none kV2 dc2 pm2 an2 cd2 ct2), sl2⟩)
    (c2 : PySem.W.codeIn K cd2 "ends_of_roads" = true) (k2 : PySem.W.keepIn K (.ref f2) = true)
    (a3 : PySem.W.nsIn K mainGlobals "may_go" = some (some (.ref f3))) (l3 : K.lookup f3 = some ⟨oc3, od3, .func (PySem.W.fnOf "may_go" "may_go" (defArgs st_may_go) (defBody st_may_go) (defScope st_may_go) .none kV3 dc3 pm3 an3 cd3 ct3), sl3⟩)
    (c3 : PySem.W.codeIn K cd3 "may_go" = true) (k3 : PySem.W.keepIn K (.ref f3) = true)
    (a4 : PySem.W.nsIn K mainGlobals "road_goes" = some (some (.ref f4))) (l4 : K.lookup f4 = some ⟨oc4, od4, .func (PySem.W.fnOf "road_goes" "road_goes" (defArgs st_road_goes) (defBody st_road_goes) (defScope st_road_goes) .none kV4 dc4 pm4 an4 cd4 ct4), sl4⟩)
    (c4 : PySem.W.codeIn K cd4 "road_goes" = true) (k4 : PySem.W.keepIn K (.ref f4) = true)
    (a5 : PySem.W.nsIn K mainGlobals "nobody_of" = some (some (.ref f5))) (l5 : K.lookup f5 = some ⟨oc5, od5, .func (PySem.W.fnOf "nobody_of" "nobody_of" (defArgs st_nobody_of) (defBody st_nobody_of) (defScope st_nobody_of) .none kV5 dc5 pm5 an5 cd5 ct5), sl5⟩)
    (c5 : PySem.W.codeIn K cd5 "nobody_of" = true) (k5 : PySem.W.keepIn K (.ref f5) = true)
    (a6 : PySem.W.nsIn K mainGlobals "is_free_at" = some (some (.ref f6))) (l6 : K.lookup f6 = some ⟨oc6, od6, .func (PySem.W.fnOf "is_free_at" "is_free_at" (defArgs st_is_free_at) (defBody st_is_free_at) (defScope st_is_free_at) .none kV6 dc6 pm6 an6 cd6 ct6), sl6⟩)
    (c6 : PySem.W.codeIn K cd6 "is_free_at" = true) (k6 : PySem.W.keepIn K (.ref f6) = true)
    (a7 : PySem.W.nsIn K mainGlobals "is_free" = some (some (.ref f7))) (l7 : K.lookup f7 = some ⟨oc7, od7, .func (PySem.W.fnOf "is_free" "is_free" (defArgs st_is_free) (defBody st_is_free) (defScope st_is_free) .none kV7 dc7 pm7 an7 cd7 ct7), sl7⟩)
    (c7 : PySem.W.codeIn K cd7 "is_free" = true) (k7 : PySem.W.keepIn K (.ref f7) = true)
    (a8 : PySem.W.nsIn K mainGlobals "_law_deal" = some (some (.ref f8))) (l8 : K.lookup f8 = some ⟨oc8, od8, .func (PySem.W.fnOf "_law_deal" "_law_deal" (defArgs st__law_deal) (defBody st__law_deal) (defScope st__law_deal) .none kV8 dc8 pm8 an8 cd8 ct8), sl8⟩)
    (c8 : PySem.W.codeIn K cd8 "_law_deal" = true) (k8 : PySem.W.keepIn K (.ref f8) = true)
    (a9 : PySem.W.nsIn K mainGlobals "_law_any" = some (some (.ref f9))) (l9 : K.lookup f9 = some ⟨oc9, od9, .func (PySem.W.fnOf "_law_any" "_law_any" (defArgs st__law_any) (defBody st__law_any) (defScope st__law_any) .none kV9 dc9 pm9 an9 cd9 ct9), sl9⟩)
    (c9 : PySem.W.codeIn K cd9 "_law_any" = true) (k9 : PySem.W.keepIn K (.ref f9) = true)
    (a10 : PySem.W.nsIn K mainGlobals "_law_is_kind" = some (some (.ref f10))) (l10 : K.lookup f10 = some ⟨oc10, od10, .func (PySem.W.fnOf "_law_is_kind" "_law_is_kind" (defArgs st__law_is_kind) (defBody st__law_is_kind) (defScope st__law_is_kind) .none kV10 dc10 pm10 an10 cd10 ct10), sl10⟩)
    (c10 : PySem.W.codeIn K cd10 "_law_is_kind" = true) (k10 : PySem.W.keepIn K (.ref f10) = true)
    (a11 : PySem.W.nsIn K mainGlobals "_law_same" = some (some (.ref f11))) (l11 : K.lookup f11 = some ⟨oc11, od11, .func (PySem.W.fnOf "_law_same" "_law_same" (defArgs st__law_same) (defBody st__law_same) (defScope st__law_same) .none kV11 dc11 pm11 an11 cd11 ct11), sl11⟩)
    (c11 : PySem.W.codeIn K cd11 "_law_same" = true) (k11 : PySem.W.keepIn K (.ref f11) = true)
    (a12 : PySem.W.nsIn K mainGlobals "_law_all" = some (some (.ref f12))) (l12 : K.lookup f12 = some ⟨oc12, od12, .func (PySem.W.fnOf "_law_all" "_law_all" (defArgs st__law_all) (defBody st__law_all) (defScope st__law_all) .none kV12 dc12 pm12 an12 cd12 ct12), sl12⟩)
    (c12 : PySem.W.codeIn K cd12 "_law_all" = true) (k12 : PySem.W.keepIn K (.ref f12) = true)
    (a13 : PySem.W.nsIn K mainGlobals "_law_drawn_patterns" = some (some (.ref f13))) (l13 : K.lookup f13 = some ⟨oc13, od13, .func (PySem.W.fnOf "_law_drawn_patterns" "_law_drawn_patterns" (defArgs st__law_drawn_patterns) (defBody st__law_drawn_patterns) (defScope st__law_drawn_patterns) .none kV13 dc13 pm13 an13 cd13 ct13), sl13⟩)
    (c13 : PySem.W.codeIn K cd13 "_law_drawn_patterns" = true) (k13 : PySem.W.keepIn K (.ref f13) = true)
    (a14 : PySem.W.nsIn K mainGlobals "_law_all_goes" = some (some (.ref f14))) (l14 : K.lookup f14 = some ⟨oc14, od14, .func (PySem.W.fnOf "_law_all_goes" "_law_all_goes" (defArgs st__law_all_goes) (defBody st__law_all_goes) (defScope st__law_all_goes) .none kV14 dc14 pm14 an14 cd14 ct14), sl14⟩)
    (c14 : PySem.W.codeIn K cd14 "_law_all_goes" = true) (k14 : PySem.W.keepIn K (.ref f14) = true)
    (a15 : PySem.W.nsIn K mainGlobals "_law_drawn_goes" = some (some (.ref f15))) (l15 : K.lookup f15 = some ⟨oc15, od15, .func (PySem.W.fnOf "_law_drawn_goes" "_law_drawn_goes" (defArgs st__law_drawn_goes) (defBody st__law_drawn_goes) (defScope st__law_drawn_goes) .none kV15 dc15 pm15 an15 cd15 ct15), sl15⟩)
    (c15 : PySem.W.codeIn K cd15 "_law_drawn_goes" = true) (k15 : PySem.W.keepIn K (.ref f15) = true)
    (a16 : PySem.W.nsIn K mainGlobals "_law_is_free" = some (some (.ref f16))) (l16 : K.lookup f16 = some ⟨oc16, od16, .func (PySem.W.fnOf "_law_is_free" "_law_is_free" (defArgs st__law_is_free) (defBody st__law_is_free) (defScope st__law_is_free) .none kV16 dc16 pm16 an16 cd16 ct16), sl16⟩)
    (c16 : PySem.W.codeIn K cd16 "_law_is_free" = true) (k16 : PySem.W.keepIn K (.ref f16) = true)
    (a17 : PySem.W.nsIn K mainGlobals "_law_closed" = some (some (.ref f17))) (l17 : K.lookup f17 = some ⟨oc17, od17, .func (PySem.W.fnOf "_law_closed" "_law_closed" (defArgs st__law_closed) (defBody st__law_closed) (defScope st__law_closed) .none kV17 dc17 pm17 an17 cd17 ct17), sl17⟩)
    (c17 : PySem.W.codeIn K cd17 "_law_closed" = true) (k17 : PySem.W.keepIn K (.ref f17) = true)
    (a18 : PySem.W.nsIn K mainGlobals "_law_of_patterns" = some (some (.ref f18))) (l18 : K.lookup f18 = some ⟨oc18, od18, .func (PySem.W.fnOf "_law_of_patterns" "_law_of_patterns" (defArgs st__law_of_patterns) (defBody st__law_of_patterns) (defScope st__law_of_patterns) .none kV18 dc18 pm18 an18 cd18 ct18), sl18⟩)
    (c18 : PySem.W.codeIn K cd18 "_law_of_patterns" = true) (k18 : PySem.W.keepIn K (.ref f18) = true)
    (a19 : PySem.W.nsIn K mainGlobals "law" = some (some (.ref f19))) (l19 : K.lookup f19 = some ⟨oc19, od19, .func (PySem.W.fnOf "law" "law" (defArgs st_law) (defBody st_law) (defScope st_law) .none kV19 dc19 pm19 an19 cd19 ct19), sl19⟩)
    (c19 : PySem.W.codeIn K cd19 "law" = true) (k19 : PySem.W.keepIn K (.ref f19) = true)
    (z_sorted : PySem.W.nsIn K mainGlobals "sorted" = some none)
    (z_tuple : PySem.W.nsIn K mainGlobals "tuple" = some none)
    (z_len : PySem.W.nsIn K mainGlobals "len" = some none)
    (z_list : PySem.W.nsIn K mainGlobals "list" = some none)
    (z_range : PySem.W.nsIn K mainGlobals "range" = some none)
    (z_enumerate : PySem.W.nsIn K mainGlobals "enumerate" = some none)
    (z_int : PySem.W.nsIn K mainGlobals "int" = some none)
    (z_abs : PySem.W.nsIn K mainGlobals "abs" = some none)
    (z_isinstance : PySem.W.nsIn K mainGlobals "isinstance" = some none)
    (z_str : PySem.W.nsIn K mainGlobals "str" = some none)
    (z_bool : PySem.W.nsIn K mainGlobals "bool" = some none)
    (z_dict : PySem.W.nsIn K mainGlobals "dict" = some none)
    (z_set : PySem.W.nsIn K mainGlobals "set" = some none)
    {C_Shift fI_Shift : Addr} {odI_Shift anI_Shift : Option Addr} {slI_Shift : Array (Option Value)} {ocI_Shift kVI_Shift dcI_Shift pmI_Shift cdI_Shift ctI_Shift : Value}
    (aK_Shift : PySem.W.nsIn K mainGlobals "Shift" = some (some (.ref C_Shift)))
    (aI_Shift : PySem.W.findIn K (.ref C_Shift) "__init__" = some (some (.ref fI_Shift))) (iI_Shift : PySem.W.isFn K (.ref fI_Shift) = true) (lI_Shift : K.lookup fI_Shift = some ⟨ocI_Shift, odI_Shift, .func (PySem.W.fnOf "__init__" "Shift.__init__" (defArgs st_Shift_init) (defBody st_Shift_init) (defScope st_Shift_init) .none kVI_Shift dcI_Shift pmI_Shift anI_Shift cdI_Shift ctI_Shift), slI_Shift⟩) (cI_Shift : PySem.W.codeIn K cdI_Shift "Shift.__init__" = true) (kI_Shift : PySem.W.keepIn K (.ref fI_Shift) = true)
    (pg_Shift : PySem.W.plainGet K C_Shift Str.empty = true) (hd_Shift : PySem.W.hasDictIn K C_Shift = true) (po_Shift : PySem.W.plainOver K C_Shift = true) (sa_Shift : PySem.W.findIn K (.ref C_Shift) "__setattr__" = some (some (.builtin "object.__setattr__"))) (mk_Shift : PySem.W.makesIn K C_Shift = true) (kc_Shift : PySem.W.keepIn K (.ref C_Shift) = true)
    (n_Shift_letters : PySem.W.findIn K (.ref C_Shift) "letters" = some none)
    (n_Shift_hears : PySem.W.findIn K (.ref C_Shift) "hears" = some none)
    (n_Shift_rules : PySem.W.findIn K (.ref C_Shift) "rules" = some none)
    (n_Shift_patterns : PySem.W.findIn K (.ref C_Shift) "patterns" = some none)
    (n_Shift_goes : PySem.W.findIn K (.ref C_Shift) "goes" = some none)
    (n_Shift_wrong : PySem.W.findIn K (.ref C_Shift) "wrong" = some none)
    (n_Shift_promise : PySem.W.findIn K (.ref C_Shift) "promise" = some none)
    {q_NOBODY0 : Addr} {od_NOBODY0 : Option Addr} {n_NOBODY0 : Nat} {s_NOBODY0 : Array (Option Value)}
    {q_NOBODY1 : Addr} {od_NOBODY1 : Option Addr} {n_NOBODY1 : Nat} {s_NOBODY1 : Array (Option Value)}
    {q_NOBODY2 : Addr} {od_NOBODY2 : Option Addr} {n_NOBODY2 : Nat} {s_NOBODY2 : Array (Option Value)}
    (m_NOBODY : PySem.W.nsIn K mainGlobals "NOBODY" = some (some (.ref q_NOBODY0)))
    (l_NOBODY0 : K.lookup q_NOBODY0 = some ⟨.type "tuple", od_NOBODY0, .seq #[.ref q_NOBODY1, .ref q_NOBODY2] n_NOBODY0, s_NOBODY0⟩)
    (l_NOBODY1 : K.lookup q_NOBODY1 = some ⟨.type "tuple", od_NOBODY1, .seq #[] n_NOBODY1, s_NOBODY1⟩)
    (l_NOBODY2 : K.lookup q_NOBODY2 = some ⟨.type "tuple", od_NOBODY2, .seq #[] n_NOBODY2, s_NOBODY2⟩)
    : ∃ fd : FuncData, (∀ (s : Shared) (v : Value), BindsTo s fd ⟨[v], []⟩ [("script", v)]) ∧ ∀ base : Heap, K.In base → base.Ns mainGlobals mg → FnOk l.prog w K mg base CX0 4 fa fd ["script"] (spV K 1 m_law) := by
  have e := hfa.symm.trans (PySem.W.mg_of X G a19)
  cases e
  have T : Txt K mg := ⟨PySem.W.mg_none_of X G z_sorted, PySem.W.mg_none_of X G z_tuple, PySem.W.mg_none_of X G z_len, PySem.W.mg_none_of X G z_list, PySem.W.mg_none_of X G z_range, PySem.W.mg_none_of X G z_enumerate, PySem.W.mg_none_of X G z_int, PySem.W.mg_none_of X G z_abs, PySem.W.mg_none_of X G z_isinstance, PySem.W.mg_none_of X G z_str, PySem.W.mg_none_of X G z_bool, PySem.W.mg_none_of X G z_dict, PySem.W.mg_none_of X G z_set, ⟨_, PySem.W.mg_of X G m_NOBODY, fun w => (rep_modT l_NOBODY0 (show 2 ≤ 1000 by decide) (show Vals [V.ref q_NOBODY1, V.ref q_NOBODY2] _ from (.cons rfl (.cons rfl .nil))) w (.cons (rep_modT l_NOBODY1 (show 0 ≤ 1000 by decide) (show Vals [] _ from .nil) w .nil) (.cons (rep_modT l_NOBODY2 (show 0 ≤ 1000 by decide) (show Vals [] _ from .nil) w .nil) .nil)))⟩⟩
  refine ⟨PySem.W.fnOf "law" "law" (defArgs st_law) (defBody st_law) (defScope st_law) .none kV19 dc19 pm19 an19 cd19 ct19, fun s v => .of_eq rfl, fun base _ _ => ?_⟩
  have clK_Shift : Cls K C_Shift := ⟨pg_Shift, hd_Shift, po_Shift, sa_Shift⟩
  have noK_Shift : ∀ n ∈ (["letters", "hears", "rules", "patterns", "goes", "wrong", "promise"] : List Str), NoAttr K C_Shift n := by
    intro n hn
    simp only [List.mem_cons, List.not_mem_nil, or_false] at hn
    rcases hn with rfl | rfl | rfl | rfl | rfl | rfl | rfl
    · exact n_Shift_letters
    · exact n_Shift_hears
    · exact n_Shift_rules
    · exact n_Shift_patterns
    · exact n_Shift_goes
    · exact n_Shift_wrong
    · exact n_Shift_promise
  have FI_Shift := fun_mk (st := st_Shift_init) lI_Shift cI_Shift kI_Shift
  have K_Shift : ClsT l.prog w K mg base "Shift" ["letters", "hears", "rules", "patterns", "goes", "wrong", "promise"] := ⟨C_Shift, _, _, aK_Shift, PySem.W.mg_of X G aK_Shift, clK_Shift, noK_Shift, ⟨mk_Shift, aI_Shift, iI_Shift, kc_Shift⟩, ok_Shift_init FI_Shift clK_Shift noK_Shift, FI_Shift.binds (ps := ["self", "letters", "hears", "rules", "patterns", "goes", "wrong", "promise"]) fun _ _ _ _ _ _ us hl => match us, hl with | [_, _, _, _, _, _, _, _], _ => rfl⟩
  have F0 := fun_mk (st := st_faulty_ones) l0 c0 k0
  have C_faulty_ones : Cal l.prog w K mg base 1 "faulty_ones" st_faulty_ones ["pattern"] m_faulty_ones := ⟨_, _, F0, ok_faulty_ones F0 T , PySem.W.mg_of X G a0, k0, F0.binds (ps := ["pattern"]) fun _ _ _ _ _ _ us hl => match us, hl with | [_], _ => rfl⟩
  have F1 := fun_mk (st := st_all_goes) l1 c1 k1
  have C_all_goes : Cal l.prog w K mg base 1 "all_goes" st_all_goes ["patterns"] m_all_goes := ⟨_, _, F1, ok_all_goes F1 T , PySem.W.mg_of X G a1, k1, F1.binds (ps := ["patterns"]) fun _ _ _ _ _ _ us hl => match us, hl with | [_], _ => rfl⟩
  have F2 := fun_mk (st := st_ends_of_roads) l2 c2 k2
  have C_ends_of_roads : Cal l.prog w K mg base 1 "ends_of_roads" st_ends_of_roads ["lot", "roads"] m_ends_of_roads := ⟨_, _, F2, ok_ends_of_roads F2 T , PySem.W.mg_of X G a2, k2, F2.binds (ps := ["lot", "roads"]) fun _ _ _ _ _ _ us hl => match us, hl with | [_, _], _ => rfl⟩
  have F5 := fun_mk (st := st_nobody_of) l5 c5 k5
  have C_nobody_of : Cal l.prog w K mg base 1 "nobody_of" st_nobody_of ["shift"] m_nobody_of := ⟨_, _, F5, ok_nobody_of F5 T K_Shift, PySem.W.mg_of X G a5, k5, F5.binds (ps := ["shift"]) fun _ _ _ _ _ _ us hl => match us, hl with | [_], _ => rfl⟩
  have F6 := fun_mk (st := st_is_free_at) l6 c6 k6
  have C_is_free_at : Cal l.prog w K mg base 1 "is_free_at" st_is_free_at ["shift", "nobody", "number"] m_is_free_at := ⟨_, _, F6, ok_is_free_at F6 T K_Shift, PySem.W.mg_of X G a6, k6, F6.binds (ps := ["shift", "nobody", "number"]) fun _ _ _ _ _ _ us hl => match us, hl with | [_, _, _], _ => rfl⟩
  have F8 := fun_mk (st := st__law_deal) l8 c8 k8
  have C__law_deal : Cal l.prog w K mg base 1 "_law_deal" st__law_deal ["script", "salt"] m__law_deal := ⟨_, _, F8, ok__law_deal F8 T , PySem.W.mg_of X G a8, k8, F8.binds (ps := ["script", "salt"]) fun _ _ _ _ _ _ us hl => match us, hl with | [_, _], _ => rfl⟩
  have F9 := fun_mk (st := st__law_any) l9 c9 k9
  have C__law_any : Cal l.prog w K mg base 1 "_law_any" st__law_any ["deal", "bound"] m__law_any := ⟨_, _, F9, ok__law_any F9 T , PySem.W.mg_of X G a9, k9, F9.binds (ps := ["deal", "bound"]) fun _ _ _ _ _ _ us hl => match us, hl with | [_, _], _ => rfl⟩
  have F10 := fun_mk (st := st__law_is_kind) l10 c10 k10
  have C__law_is_kind : Cal l.prog w K mg base 1 "_law_is_kind" st__law_is_kind ["told", "due"] m__law_is_kind := ⟨_, _, F10, ok__law_is_kind F10 T , PySem.W.mg_of X G a10, k10, F10.binds (ps := ["told", "due"]) fun _ _ _ _ _ _ us hl => match us, hl with | [_, _], _ => rfl⟩
  have F14 := fun_mk (st := st__law_all_goes) l14 c14 k14
  have C__law_all_goes : Cal l.prog w K mg base 1 "_law_all_goes" st__law_all_goes ["many"] m__law_all_goes := ⟨_, _, F14, ok__law_all_goes F14 T , PySem.W.mg_of X G a14, k14, F14.binds (ps := ["many"]) fun _ _ _ _ _ _ us hl => match us, hl with | [_], _ => rfl⟩
  have F16 := fun_mk (st := st__law_is_free) l16 c16 k16
  have C__law_is_free : Cal l.prog w K mg base 1 "_law_is_free" st__law_is_free ["patterns", "goes"] m__law_is_free := ⟨_, _, F16, ok__law_is_free F16 T , PySem.W.mg_of X G a16, k16, F16.binds (ps := ["patterns", "goes"]) fun _ _ _ _ _ _ us hl => match us, hl with | [_, _], _ => rfl⟩
  have F17 := fun_mk (st := st__law_closed) l17 c17 k17
  have C__law_closed : Cal l.prog w K mg base 1 "_law_closed" st__law_closed ["patterns"] m__law_closed := ⟨_, _, F17, ok__law_closed F17 T , PySem.W.mg_of X G a17, k17, F17.binds (ps := ["patterns"]) fun _ _ _ _ _ _ us hl => match us, hl with | [_], _ => rfl⟩
  have F3 := fun_mk (st := st_may_go) l3 c3 k3
  have C_may_go : Cal l.prog w K mg base 2 "may_go" st_may_go ["one", "other", "roads"] m_may_go := ⟨_, _, F3, ok_may_go F3 T C_ends_of_roads C_faulty_ones, PySem.W.mg_of X G a3, k3, F3.binds (ps := ["one", "other", "roads"]) fun _ _ _ _ _ _ us hl => match us, hl with | [_, _, _], _ => rfl⟩
  have F7 := fun_mk (st := st_is_free) l7 c7 k7
  have C_is_free : Cal l.prog w K mg base 2 "is_free" st_is_free ["shift"] m_is_free := ⟨_, _, F7, ok_is_free F7 T K_Shift C_nobody_of C_is_free_at, PySem.W.mg_of X G a7, k7, F7.binds (ps := ["shift"]) fun _ _ _ _ _ _ us hl => match us, hl with | [_], _ => rfl⟩
  have F11 := fun_mk (st := st__law_same) l11 c11 k11
  have C__law_same : Cal l.prog w K mg base 2 "_law_same" st__law_same ["told", "due"] m__law_same := ⟨_, _, F11, ok__law_same F11 T C__law_is_kind, PySem.W.mg_of X G a11, k11, F11.binds (ps := ["told", "due"]) fun _ _ _ _ _ _ us hl => match us, hl with | [_, _], _ => rfl⟩
  have F13 := fun_mk (st := st__law_drawn_patterns) l13 c13 k13
  have C__law_drawn_patterns : Cal l.prog w K mg base 2 "_law_drawn_patterns" st__law_drawn_patterns ["deal", "machines", "most"] m__law_drawn_patterns := ⟨_, _, F13, ok__law_drawn_patterns F13 T C__law_any, PySem.W.mg_of X G a13, k13, F13.binds (ps := ["deal", "machines", "most"]) fun _ _ _ _ _ _ us hl => match us, hl with | [_, _, _], _ => rfl⟩
  have F15 := fun_mk (st := st__law_drawn_goes) l15 c15 k15
  have C__law_drawn_goes : Cal l.prog w K mg base 2 "_law_drawn_goes" st__law_drawn_goes ["deal", "many"] m__law_drawn_goes := ⟨_, _, F15, ok__law_drawn_goes F15 T C__law_any C__law_all_goes, PySem.W.mg_of X G a15, k15, F15.binds (ps := ["deal", "many"]) fun _ _ _ _ _ _ us hl => match us, hl with | [_, _], _ => rfl⟩
  have F4 := fun_mk (st := st_road_goes) l4 c4 k4
  have C_road_goes : Cal l.prog w K mg base 3 "road_goes" st_road_goes ["patterns", "roads"] m_road_goes := ⟨_, _, F4, ok_road_goes F4 T C_may_go, PySem.W.mg_of X G a4, k4, F4.binds (ps := ["patterns", "roads"]) fun _ _ _ _ _ _ us hl => match us, hl with | [_, _], _ => rfl⟩
  have F12 := fun_mk (st := st__law_all) l12 c12 k12
  have C__law_all : Cal l.prog w K mg base 3 "_law_all" st__law_all ["pairs"] m__law_all := ⟨_, _, F12, ok__law_all F12 T C__law_same, PySem.W.mg_of X G a12, k12, F12.binds (ps := ["pairs"]) fun _ _ _ _ _ _ us hl => match us, hl with | [_], _ => rfl⟩
  have F18 := fun_mk (st := st__law_of_patterns) l18 c18 k18
  have C__law_of_patterns : Cal l.prog w K mg base 3 "_law_of_patterns" st__law_of_patterns ["patterns", "goes", "machines"] m__law_of_patterns := ⟨_, _, F18, ok__law_of_patterns F18 T K_Shift, PySem.W.mg_of X G a18, k18, F18.binds (ps := ["patterns", "goes", "machines"]) fun _ _ _ _ _ _ us hl => match us, hl with | [_, _, _], _ => rfl⟩
  exact ok_law (fun_mk (st := st_law) l19 c19 k19) T C__law_deal C__law_any C__law_drawn_patterns C__law_closed C__law_all_goes C_road_goes C__law_drawn_goes C__law_of_patterns C__law_is_free C_is_free C__law_all C_all_goes
theorem walk {l : PySem.W.OpenLaw} {q : Program} {loose : List Str} {XP : (Str → Option Value) → Heap → Prop} {YP : World → Heap → Prop} {d : DefRec} {K : Params → PySem.W.Frag} (hn : l.most = some 63) (hdf : d.params.defaults = [])
    (hY : ∀ (w : World) (h : Heap), YP w h → (K w.params).In h) (law : ∀ ns : List Int, ns.length ≤ 63 → ∃ st, m_law [.frz (ns.map Vx.D.int)] [] = some (.val (.bl true), st))
    (F : ∀ (w : World) (mg : Str → Option Value) (fa : Addr) (h : Heap), (K w.params).In h → h.Ns mainGlobals mg → mg d.name = some (.ref fa) →
      ∃ fd : FuncData, (∀ (s : Shared) (u : Value), BindsTo s fd ⟨[u], []⟩ [("script", u)]) ∧ ∀ base : Heap, (K w.params).In base → base.Ns mainGlobals mg → FnOk l.prog w (K w.params) mg base CX0 4 fa fd ["script"] (spV (K w.params) 1 m_law)) :
    PySem.W.WalkO q loose XP YP l.row.toRowW d [] (fun f vs => PySem.call f vs) :=
  L2.walk_of (n := 63) (k := 4) (x := "script") (CX := fun _ => CX0) (sp := fun w => spV (K w.params) 1 m_law) hn (by decide) hdf ⟨rfl, by decide, by decide⟩ hY F (fun _ _ a ns hl hO hS => sp_end law hl hO hS) fun _ _ _ _ _ z => z
end K09


set_option Elab.async false
set_option linter.all false
set_option maxRecDepth 100000
namespace K09
open PySem PySem.Spec L2 Vx
/-! patterns and roads as plain data -/
abbrev Pt := List Int × List Int
def il (l : List Int) : List Vx.D := l.map .int
def pd (p : Pt) : Vx.D := .tup [.tup (il p.1), .tup (il p.2)]
def rd (r : Int × Int) : Vx.D := .tup [.int r.1, .int r.2]
def Fi (p : Pt) : List Int := isort (fun a b => D.le (.int a) (.int b)) (p.1 ++ p.2)
def nb (p : Pt) : Bool := p.1.isEmpty && p.2.isEmpty
def near (one : Pt) (rs : List (Int × Int)) : List Int := Fi one ++ (rs.filter fun r => (Fi one).contains r.1).map (·.2)
def may (one other : Pt) (rs : List (Int × Int)) : Bool := nb one || nb other || ((Fi other).filter fun x => !(near one rs).contains x).isEmpty
theorem ints_append (a b : List Int) : il (a ++ b) = il a ++ il b := List.map_append
theorem dat_il : ∀ l : List Int, D.datL (il l) = true
  | [] => rfl
  | x :: l => by show (D.dat (.int x) && D.datL (il l)) = true; rw [dat_il l]; rfl
theorem dep_il : ∀ l : List Int, D.depL (il l) = 0
  | [] => rfl
  | x :: l => by show max (D.dep (.int x)) (D.depL (il l)) = 0; rw [dep_il l]; rfl
theorem srt_il (l : List Int) : srt (il l) = true := by
  unfold srt
  rw [dat_il, dep_il]
  simp only [Bool.true_and, List.all_eq_true, Bool.and_eq_true, decide_eq_true_eq]
  refine ⟨by decide, fun x hx => ?_⟩
  obtain ⟨i, _, rfl⟩ := List.mem_map.mp hx
  refine ⟨rfl, fun y hy => ?_⟩
  obtain ⟨j, _, rfl⟩ := List.mem_map.mp hy
  rfl
theorem isort_il (l : List Int) : isort D.le (il l) = il (isort (fun a b => D.le (.int a) (.int b)) l) := (isort_map (le' := D.le) Vx.D.int (fun _ _ => rfl) l).symm
theorem flat_il (l : List Int) : flat64 (.lst (il l)) = true := by
  rw [flat64_iff]
  exact ⟨by simp only [Vx.D.dat]; exact dat_il l, by simp only [Vx.D.dep]; rw [dep_il]; decide⟩
theorem inL_il (x : Int) (l : List Int) : inL (.int x) (il l) = l.contains x := by
  unfold inL il
  rw [List.any_map]
  induction l with
  | nil => rfl
  | cons a l ih =>
    rw [List.any_cons, List.contains_cons, ih]
    congr 1
    show (a == x) = (x == a)
    rw [Bool.eq_iff_iff, beq_iff_eq, beq_iff_eq]; exact eq_comm
theorem flat_pd (p : Pt) : flat64 (pd p) = true := by
  rw [flat64_iff]
  simp [pd, Vx.D.dat, Vx.D.datL, Vx.D.dep, Vx.D.depL, dat_il, dep_il]
theorem nb_eqv (p : Pt) : D.eqv (.tup [.tup [], .tup []]) (pd p) = nb p := by
  obtain ⟨q, t⟩ := p
  cases q <;> cases t <;> simp [pd, il, D.eqv, D.eqvL, nb]
theorem nb_eqv2 (p : Pt) : D.eqv (pd p) (.tup [.tup [], .tup []]) = nb p := by
  obtain ⟨q, t⟩ := p
  cases q <;> cases t <;> simp [pd, il, D.eqv, D.eqvL, nb]
theorem two_line : (2 : Nat) ≤ line := by decide
theorem ix0 (x y : Vx.D) (st : Amb) : cIx st (.tup [x, y]) (.int 0) = some (.val x) := by simp [cIx, seqD, atI_0]
theorem ix1 (x y : Vx.D) (st : Amb) : cIx st (.tup [x, y]) (.int 1) = some (.val y) := by simp [cIx, seqD, atI_1]
def short (p : Pt) : Prop := p.1.length + p.2.length ≤ 1000
theorem m_faulty {p : Pt} (h : short p) (st : Amb) : m_faulty_ones [pd p] st = some (.val (.tup (il (Fi p))), st) := by
  refine mean_rt [.pub (pd p)] rfl ?_
  have hz : (il p.1).length + (il p.2).length ≤ line := by
    have : (1000 : Nat) ≤ line := by decide
    simp [il]; unfold short at h; omega
  simp [b_faulty_ones, sRet, eA, eCons, eNil, e2, eVar, eC, R.d, pd, ix0, ix1, cAdd, hz, cSort, ← ints_append, srt_il, isort_il, cTuple, seqD, Fi]
theorem e2_of {f g : EvF} {c : Amb → Vx.D → Vx.D → Option R} {sl : Sls} {st st1 st2 : Amb} {x y r : R} (hf : f sl st = some (x, st1)) (hg : g sl st1 = some (y, st2)) (hc : c st2 x.d y.d = some r) : e2 f g c sl st = some (r, st2) := by
  unfold e2
  rw [hf]
  simp only [Option.bind_some, hg]
  rw [hc]
  rfl
theorem eA1_of {f : EvF} {c : Amb → List Vx.D → Option R} {sl : Sls} {st st1 : Amb} {x r : R} (hf : f sl st = some (x, st1)) (hc : c st1 [x.d] = some r) : eA (eCons f eNil) c sl st = some (r, st1) := by
  unfold eA
  rw [eCons, hf]
  simp only [Option.bind_some, eNil, Option.map_some, List.map_cons, List.map_nil, hc]
theorem ret_val {f : EvF} {sl : Sls} {st st1 : Amb} {d : Vx.D} (hf : f sl st = some (.val d, st1)) : sRet f sl st = some (.rt (.val d) st1) := by
  unfold sRet
  rw [hf]
theorem ret_prv {f : EvF} {sl : Sls} {st st1 : Amb} {d : List Vx.D} (hf : f sl st = some (.prv d, st1)) : sRet f sl st = some (.rt (.prv d) st1) := by
  unfold sRet
  rw [hf]
theorem asg_val {i : Nat} {f : EvF} {sl : Sls} {st st1 : Amb} {d : Vx.D} (hf : f sl st = some (.val d, st1)) (hi : i < sl.length) : sAsg (.name i) f sl st = some (.nx (sl.set i (.pub d)) st1) := by
  unfold sAsg ePub
  rw [hf]
  simp only [put, if_pos hi]
  rfl
theorem asg_prv {i : Nat} {f : EvF} {sl : Sls} {st st1 : Amb} {d : List Vx.D} (hf : f sl st = some (.prv d, st1)) (hi : i < sl.length) : sAsg (.name i) f sl st = some (.nx (sl.set i (.pub (.lst d))) st1) := by
  unfold sAsg ePub
  rw [hf]
  simp only [put, if_pos hi]
  rfl
def ends (lot : List Int) (rs : List (Int × Int)) : List Int := (rs.filter fun r => lot.contains r.1).map (·.2)
theorem near_eq (one : Pt) (rs : List (Int × Int)) : near one rs = Fi one ++ ends (Fi one) rs := rfl
/-- [end for begin, end in roads if begin in lot] over plain slots -/
theorem ends_lc {sl : Sls} {st : Amb} {i j : Nat} {g : EvF} (lot : List Int) (rs : List (Int × Int)) (y : Vx.D) (hy : y = .tup (il lot) ∨ y = .lst (il lot)) (hl : lot.length ≤ 100000)
    (hp : ∀ r : Int × Int, ∃ sl1, put (.names [i, j]) (rd r) sl = some sl1 ∧ eVar i sl1 st = some (.val (.int r.1), st) ∧ eVar j sl1 st = some (.val (.int r.2), st) ∧ ∃ r', g sl1 st = some (r', st) ∧ r'.d = y) :
    lcL (.names [i, j]) (eT (e2 (eVar i) g (cIn false))) (eVar j) sl (rs.map rd) st = some (il (ends lot rs), st) := by
  induction rs with
  | nil => rfl
  | cons r rs ih =>
    obtain ⟨sl1, h1, h2, h3, r', h4, h5⟩ := hp r
    have hin : cIn false st (.int r.1) y = some (.val (.bl (lot.contains r.1))) := by
      have hf : flat64 (.int r.1) = true := flat64_int r.1
      have hf2 := flat_il lot
      rcases hy with rfl | rfl <;> simp [cIn, hf, hf2, inL_il]
    have ht : eT (e2 (eVar i) g (cIn false)) sl1 st = some (lot.contains r.1, st) := by
      have q : e2 (eVar i) g (cIn false) sl1 st = some (.val (.bl (lot.contains r.1)), st) := by
        unfold e2
        rw [h2]
        simp only [Option.bind_some, h4]
        rw [h5]
        show ((cIn false st (.int r.1) y).map _) = _
        rw [hin]
        rfl
      unfold eT
      rw [q]
    have hv : evD (eVar j) sl1 st = some (.int r.2, st) := by simp only [evD, ePub, h3]
    rw [List.map_cons, lcL, h1]
    simp only [Option.bind_some, ht]
    have he : ends lot (r :: rs) = if lot.contains r.1 = true then r.2 :: ends lot rs else ends lot rs := by
      unfold ends
      rw [List.filter_cons]
      split <;> rfl
    rw [he]
    cases hc : lot.contains r.1 with
    | true => simp only [if_true, hv, Option.bind_some, ih, Option.map_some]; rfl
    | false => simp only [Bool.false_eq_true, if_false, ih]
theorem ends_len (lot : List Int) (rs : List (Int × Int)) : (ends lot rs).length ≤ rs.length := by
  unfold ends; rw [List.length_map]; exact List.length_filter_le _ _
theorem Fi_len (p : Pt) : (Fi p).length = p.1.length + p.2.length := by unfold Fi; rw [isort_length, List.length_append]
theorem m_ends {lot : List Int} {rs : List (Int × Int)} (h1 : lot.length ≤ 1000) (h2 : rs.length ≤ 1000) (st : Amb) : m_ends_of_roads [.tup (il lot), .tup (rs.map rd)] st = some (.prv (il (lot ++ ends lot rs)), st) := by
  refine mean_rt [.pub (.tup (il lot)), .pub (.tup (rs.map rd)), .un, .un] rfl ?_
  have hz : (1000000 : Nat) ≤ line := by decide
  have hl := ends_len lot rs
  have hlc : eLc (iTupD (eVar 1)) (.names [2, 3]) (eT (e2 (eVar 2) (eVar 0) (cIn false))) (eVar 3) [2, 3] [.pub (.tup (il lot)), .pub (.tup (rs.map rd)), .un, .un] st = some (.prv (il (ends lot rs)), st) := by
    unfold eLc
    rw [if_pos (by simp [noOwn])]
    simp only [iTupD, eVar, List.getElem?_cons_succ, List.getElem?_cons_zero, Option.bind_some]
    rw [show lcL (.names [2, 3]) (eT (e2 (fun sl st => eVar 2 sl st) (fun sl st => eVar 0 sl st) (cIn false))) (fun sl st => eVar 3 sl st) (wipeS [.pub (.tup (il lot)), .pub (.tup (rs.map rd)), .un, .un] [2, 3]) (rs.map rd) st = _ from
      ends_lc (g := eVar 0) lot rs (.tup (il lot)) (.inl rfl) (by omega) fun r => ⟨[.pub (.tup (il lot)), .pub (.tup (rs.map rd)), .pub (.int r.1), .pub (.int r.2)], by simp [put, putN, rd, wipeS], rfl, rfl, .val (.tup (il lot)), rfl, rfl⟩]
    simp only [Option.bind_some]
    rw [if_pos (by simp [il]; omega)]
  have hsum : (il lot).length + (il (ends lot rs)).length ≤ line := by simp [il]; omega
  simp only [b_ends_of_roads, sRet, e2, hlc, eA, eCons, eNil, eVar, List.getElem?_cons_zero, Option.bind_some, Option.map_some, List.map_cons, List.map_nil, R.d, cList, seqD, cAdd, if_pos hsum, ints_append]
theorem near_len {one : Pt} {rs : List (Int × Int)} (h1 : short one) (h2 : rs.length ≤ 1000) : (near one rs).length ≤ 2000 := by
  have := ends_len (Fi one) rs
  rw [near_eq, List.length_append, Fi_len]; unfold short at h1; omega
/-- [m for m in ms if m not in near] over plain slots -/
theorem out_lc {sl : Sls} {st : Amb} {i : Nat} {g : EvF} (nr : List Int) (ms : List Int) (y : Vx.D) (hy : y = .lst (il nr))
    (hp : ∀ m : Int, ∃ sl1, put (.name i) (.int m) sl = some sl1 ∧ eVar i sl1 st = some (.val (.int m), st) ∧ ∃ r', g sl1 st = some (r', st) ∧ r'.d = y) :
    lcL (.name i) (eT (e2 (eVar i) g (cIn true))) (eVar i) sl (il ms) st = some (il (ms.filter fun x => !nr.contains x), st) := by
  subst hy
  induction ms with
  | nil => rfl
  | cons m ms ih =>
    obtain ⟨sl1, h1, h2, r', h4, h5⟩ := hp m
    have hin : cIn true st (.int m) (.lst (il nr)) = some (.val (.bl (!nr.contains m))) := by
      simp [cIn, flat64_int, flat_il, inL_il]
    have ht : eT (e2 (eVar i) g (cIn true)) sl1 st = some (!nr.contains m, st) := by
      have q : e2 (eVar i) g (cIn true) sl1 st = some (.val (.bl (!nr.contains m)), st) := by
        unfold e2
        rw [h2]
        simp only [Option.bind_some, h4]
        rw [h5]
        show ((cIn true st (.int m) (.lst (il nr))).map _) = _
        rw [hin]
        rfl
      unfold eT
      rw [q]
    have hv : evD (eVar i) sl1 st = some (.int m, st) := by simp only [evD, ePub, h2]
    show lcL _ _ _ _ (Vx.D.int m :: il ms) st = _
    rw [lcL, h1]
    simp only [Option.bind_some, ht]
    rw [List.filter_cons]
    cases hc : (!nr.contains m) with
    | true => simp only [if_true, hv, Option.bind_some, ih, Option.map_some]; rfl
    | false => simp only [Bool.false_eq_true, if_false, ih]
theorem eqv_nil (l : List Int) : D.eqv (.lst (il l)) (.lst []) = l.isEmpty := by cases l <;> rfl
theorem flat_nb (x y : Pt) : flat64 (.lst [pd x, pd y]) = true := by
  rw [flat64_iff]
  simp [pd, Vx.D.dat, Vx.D.datL, Vx.D.dep, Vx.D.depL, dat_il, dep_il]
theorem m_may {one other : Pt} {rs : List (Int × Int)} (h1 : short one) (h2 : short other) (h3 : rs.length ≤ 1000) (st : Amb) : m_may_go [pd one, pd other, .tup (rs.map rd)] st = some (.val (.bl (may one other rs)), st) := by
  have hnb : flat64 (.tup [.tup [], .tup []]) = true := by decide +kernel
  have hin : cIn false st (.tup [.tup [], .tup []]) (.tup [pd one, pd other]) = some (.val (.bl (nb one || nb other))) := by
    simp [cIn, hnb, flat_nb, inL, nb_eqv2]
  refine mean_rt [.pub (pd one), .pub (pd other), .pub (.tup (rs.map rd)), .un, .un] rfl ?_
  have htest : eT (e2 (eC (.tup [(.tup []), (.tup [])])) (eTup (eCons (eVar 0) (eCons (eVar 1) eNil))) (cIn false)) [.pub (pd one), .pub (pd other), .pub (.tup (rs.map rd)), .un, .un] st = some (nb one || nb other, st) := by
    simp [eT, e2, eC, eTup, eCons, eNil, eVar, vals, two_line, R.d, hin]
  cases hb : (nb one || nb other) with
  | true =>
    rw [hb] at htest
    refine seq_rt ?_
    unfold sIf
    rw [htest]
    simp [sRet, eC, may, hb]
  | false =>
    rw [hb] at htest
    refine seq_nx (sl1 := [.pub (pd one), .pub (pd other), .pub (.tup (rs.map rd)), .un, .un]) (st1 := st) (by unfold sIf; rw [htest]; rfl) ?_
    have hF := m_faulty h1 st
    have hF2 := m_faulty h2 st
    have hE := m_ends (lot := Fi one) (rs := rs) (by rw [Fi_len]; exact h1) h3 st
    have hmay : may one other rs = ((Fi other).filter fun x => !(near one rs).contains x).isEmpty := by unfold may; rw [hb]; rfl
    rw [hmay]
    generalize m_faulty_ones = MF at hF hF2 ⊢
    generalize m_ends_of_roads = ME at hE ⊢
    refine seq_nx (sl1 := [.pub (pd one), .pub (pd other), .pub (.tup (rs.map rd)), .pub (.lst (il (near one rs))), .un]) (st1 := st) ?_ ?_
    · simp [sAsg, ePub, eCall, eCons, eNil, eVar, vals, hF, hE, put, near_eq]
    · have hl := near_len h1 h3
      have hlc : eLc (iTupD (eCall MF (eCons (eVar 1) eNil))) (.name 4) (eT (e2 (eVar 4) (eVar 3) (cIn true))) (eVar 4) [4] [.pub (pd one), .pub (pd other), .pub (.tup (rs.map rd)), .pub (.lst (il (near one rs))), .un] st
          = some (.prv (il ((Fi other).filter fun x => !(near one rs).contains x)), st) := by
        unfold eLc
        rw [if_pos (by simp [noOwn])]
        have hi : iTupD (eCall MF (eCons (eVar 1) eNil)) [.pub (pd one), .pub (pd other), .pub (.tup (rs.map rd)), .pub (.lst (il (near one rs))), .un] st = some (il (Fi other), st) := by
          simp [iTupD, eCall, eCons, eNil, eVar, vals, hF2]
        rw [hi]
        simp only [Option.bind_some]
        rw [out_lc (i := 4) (g := eVar 3) (near one rs) (Fi other) (.lst (il (near one rs))) rfl fun m => ⟨[.pub (pd one), .pub (pd other), .pub (.tup (rs.map rd)), .pub (.lst (il (near one rs))), .pub (.int m)], by simp [put, wipeS], rfl, _, rfl, rfl⟩]
        simp only [Option.bind_some]
        rw [if_pos]
        have hz : (1000000 : Nat) ≤ line := by decide
        have := List.length_filter_le (fun x => !(near one rs).contains x) (Fi other)
        have := Fi_len other
        unfold short at h2
        simp only [il, List.length_map]
        omega
      have hlst : eLst eNil [.pub (pd one), .pub (pd other), .pub (.tup (rs.map rd)), .pub (.lst (il (near one rs))), .un] st = some (.prv [], st) := rfl
      have heq : cEq st (.lst (il ((Fi other).filter fun x => !(near one rs).contains x))) (.lst []) = some (.val (.bl (((Fi other).filter fun x => !(near one rs).contains x).isEmpty))) := by
        unfold cEq
        rw [if_pos ⟨flat_il _, flat_il []⟩, eqv_nil]
      exact ret_val (e2_of hlc hlst heq)
/-! all pairs of numbers, the ones that may follow -/
def gp (i j : Nat) : Vx.D := .tup [.int (i : Int), .int (j : Int)]
def inn (i : Nat) (one : Pt) (rs : List (Int × Int)) : Nat → List Pt → List Vx.D
  | _, [] => []
  | k, o :: os => if may one o rs = true then gp i k :: inn i one rs (k + 1) os else inn i one rs (k + 1) os
def out (pats : List Pt) (rs : List (Int × Int)) : Nat → List Pt → List Vx.D
  | _, [] => []
  | i, o :: os => inn i o rs 0 pats ++ out pats rs (i + 1) os
theorem inn_len (i : Nat) (one : Pt) (rs : List (Int × Int)) : ∀ (os : List Pt) (k : Nat), (inn i one rs k os).length ≤ os.length
  | [], _ => Nat.le_refl _
  | o :: os, k => by
    have := inn_len i one rs os (k + 1)
    rw [inn]
    split <;> simp <;> omega
theorem inn_lc (st : Amb) (i : Nat) (one : Pt) (rs : List (Int × Int)) (h1 : short one) (h3 : rs.length ≤ 1000) (s0 x2 : Sl) : ∀ (os : List Pt) (k : Nat), (∀ o ∈ os, short o) →
    lcL (.names [5, 6]) (eT (eCall m_may_go (eCons (eVar 4) (eCons (eVar 6) (eCons (eVar 1) eNil))))) (eTup (eCons (eVar 3) (eCons (eVar 5) eNil))) [s0, .pub (.tup (rs.map rd)), x2, .pub (.int (i : Int)), .pub (pd one), .un, .un] (enD k (os.map pd)) st = some (inn i one rs k os, st)
  | [], _, _ => rfl
  | o :: os, k, hs => by
    have ih := inn_lc st i one rs h1 h3 s0 x2 os (k + 1) fun x hx => hs x (List.mem_cons_of_mem _ hx)
    have hm := m_may h1 (hs o List.mem_cons_self) h3 st
    generalize m_may_go = MM at hm ih ⊢
    have ht : eT (eCall MM (eCons (eVar 4) (eCons (eVar 6) (eCons (eVar 1) eNil)))) [s0, .pub (.tup (rs.map rd)), x2, .pub (.int (i : Int)), .pub (pd one), .pub (.int (k : Int)), .pub (pd o)] st = some (may one o rs, st) := by
      simp [eT, eCall, eCons, eNil, eVar, vals, hm]
    have hv : evD (eTup (eCons (eVar 3) (eCons (eVar 5) eNil))) [s0, .pub (.tup (rs.map rd)), x2, .pub (.int (i : Int)), .pub (pd one), .pub (.int (k : Int)), .pub (pd o)] st = some (gp i k, st) := by
      simp [evD, ePub, eTup, eCons, eNil, eVar, vals, two_line, gp]
    have hp : put (.names [5, 6]) (.tup [.int (k : Int), pd o]) [s0, .pub (.tup (rs.map rd)), x2, .pub (.int (i : Int)), .pub (pd one), .un, .un] = some [s0, .pub (.tup (rs.map rd)), x2, .pub (.int (i : Int)), .pub (pd one), .pub (.int (k : Int)), .pub (pd o)] := by simp [put, putN]
    rw [List.map_cons, enD, lcL, hp]
    simp only [Option.bind_some, ht]
    rw [inn]
    cases hc : may one o rs with
    | true => simp only [if_true, hv, Option.bind_some, ih, Option.map_some]
    | false => simp only [Bool.false_eq_true, if_false, ih]
theorem m_road {pats : List Pt} {rs : List (Int × Int)} (h1 : ∀ p ∈ pats, short p) (h2 : pats.length ≤ 1000) (h3 : rs.length ≤ 1000) (st : Amb) : m_road_goes [.tup (pats.map pd), .tup (rs.map rd)] st = some (.val (.tup (out pats rs 0 pats)), st) := by
  refine mean_rt [.pub (.tup (pats.map pd)), .pub (.tup (rs.map rd)), .un, .un, .un, .un, .un] rfl ?_
  have hz : (16000000 : Nat) ≤ line := by decide
  have hlc : ∀ (i : Nat) (one : Pt) (f : List Vx.D) (x5 x6 : Sl), short one → (x5 = .un ∧ x6 = .un) → eLc (iEnum (eVar 0)) (.names [5, 6]) (eT (eCall m_may_go (eCons (eVar 4) (eCons (eVar 6) (eCons (eVar 1) eNil))))) (eTup (eCons (eVar 3) (eCons (eVar 5) eNil))) [5, 6] [.pub (.tup (pats.map pd)), .pub (.tup (rs.map rd)), .own f, .pub (.int (i : Int)), .pub (pd one), x5, x6] st
      = some (.prv (inn i one rs 0 pats), st) := fun i one f x5 x6 hs hx => by
    obtain ⟨rfl, rfl⟩ := hx
    unfold eLc
    rw [if_pos (by simp [noOwn])]
    have hi : iEnum (eVar 0) [.pub (.tup (pats.map pd)), .pub (.tup (rs.map rd)), .own f, .pub (.int (i : Int)), .pub (pd one), .un, .un] st = some (enD 0 (pats.map pd), st) := rfl
    rw [hi]
    simp only [Option.bind_some]
    rw [show wipeS [.pub (.tup (pats.map pd)), .pub (.tup (rs.map rd)), .own f, .pub (.int (i : Int)), .pub (pd one), .un, .un] [5, 6] = [.pub (.tup (pats.map pd)), .pub (.tup (rs.map rd)), .own f, .pub (.int (i : Int)), .pub (pd one), .un, .un] from rfl]
    rw [inn_lc st i one rs hs h3 _ _ pats 0 h1]
    simp only [Option.bind_some]
    rw [if_pos]
    have := inn_len i one rs pats 0
    omega
  have loop : ∀ (os : List Pt) (i : Nat) (f : List Vx.D) (x3 x4 : Sl), (∀ o ∈ os, short o) → f.length ≤ i * pats.length → i + os.length ≤ 1000 → ∃ x3' x4', forL (.names [3, 4]) (sExt 2 (eLc (iEnum (eVar 0)) (.names [5, 6]) (eT (eCall m_may_go (eCons (eVar 4) (eCons (eVar 6) (eCons (eVar 1) eNil))))) (eTup (eCons (eVar 3) (eCons (eVar 5) eNil))) [5, 6])) (enD i (os.map pd)) [.pub (.tup (pats.map pd)), .pub (.tup (rs.map rd)), .own f, x3, x4, .un, .un] st
      = some (.nx [.pub (.tup (pats.map pd)), .pub (.tup (rs.map rd)), .own (f ++ out pats rs i os), x3', x4', .un, .un] st) := fun os => by
    induction os with
    | nil => intro i f x3 x4 _ _ _; exact ⟨x3, x4, by simp [enD, forL, out]⟩
    | cons o os ih =>
      intro i f x3 x4 hs hf hi
      have hin := inn_len i o rs pats 0
      simp only [List.length_cons] at hi
      have hlen : (f ++ inn i o rs 0 pats).length ≤ (i + 1) * pats.length := by
        rw [List.length_append, Nat.add_mul, Nat.one_mul]; omega
      obtain ⟨x3', x4', e⟩ := ih (i + 1) (f ++ inn i o rs 0 pats) (.pub (.int (i : Int))) (.pub (pd o)) (fun x hx => hs x (List.mem_cons_of_mem _ hx)) hlen (by omega)
      refine ⟨x3', x4', ?_⟩
      have hsz : f.length + (inn i o rs 0 pats).length ≤ line := by
        have : i * pats.length ≤ 1000 * 1000 := Nat.mul_le_mul (by omega) h2
        omega
      have hb : sExt 2 (eLc (iEnum (eVar 0)) (.names [5, 6]) (eT (eCall m_may_go (eCons (eVar 4) (eCons (eVar 6) (eCons (eVar 1) eNil))))) (eTup (eCons (eVar 3) (eCons (eVar 5) eNil))) [5, 6]) [.pub (.tup (pats.map pd)), .pub (.tup (rs.map rd)), .own f, .pub (.int (i : Int)), .pub (pd o), .un, .un] st
          = some (.nx [.pub (.tup (pats.map pd)), .pub (.tup (rs.map rd)), .own (f ++ inn i o rs 0 pats), .pub (.int (i : Int)), .pub (pd o), .un, .un] st) := by
        unfold sExt
        rw [hlc i o f .un .un (hs o List.mem_cons_self) ⟨rfl, rfl⟩]
        simp only [List.getElem?_cons_succ, List.getElem?_cons_zero, R.d]
        rw [if_pos hsz]
        rfl
      rw [List.map_cons, enD, forL_step (sl1 := [.pub (.tup (pats.map pd)), .pub (.tup (rs.map rd)), .own f, .pub (.int (i : Int)), .pub (pd o), .un, .un]) (by simp [put, putN]) hb, e, out, List.append_assoc]
  obtain ⟨x3, x4, e⟩ := loop pats 0 [] .un .un h1 (by simp) (by omega)
  refine seq_nx (sl1 := [.pub (.tup (pats.map pd)), .pub (.tup (rs.map rd)), .own [], .un, .un, .un, .un]) (st1 := st) ?_ (seq_nx (sl1 := [.pub (.tup (pats.map pd)), .pub (.tup (rs.map rd)), .own (out pats rs 0 pats), x3, x4, .un, .un]) (st1 := st) ?_ ?_)
  · simp [sOwn, eLst, eNil, vals]
  · unfold sFor
    rw [show iEnum (eVar 0) [.pub (.tup (pats.map pd)), .pub (.tup (rs.map rd)), .own [], .un, .un, .un, .un] st = some (enD 0 (pats.map pd), st) from rfl]
    exact e
  · exact ret_val (eA1_of (x := .bor (out pats rs 0 pats)) rfl rfl)
def rowp (n i : Nat) : List Vx.D := (List.range n).map fun j => gp i j
def allp (n : Nat) : List Vx.D := (List.range n).flatMap fun i => rowp n i
theorem allp_to (n : Nat) : ∀ k, k ≤ n → ((List.range k).flatMap fun i => rowp n i).length = k * n
  | 0, _ => by simp
  | k + 1, h => by
    rw [List.range_succ, List.flatMap_append, List.length_append, allp_to n k (by omega)]
    simp [rowp, Nat.add_mul]
theorem rg_nat (n : Nat) : rg 0 (n : Int) = (List.range n).map fun (j : Nat) => Vx.D.int (j : Int) := by simp [rg]
theorem row_lc {sl : Sls} {st : Amb} {a b : Nat} (i : Nat) : ∀ is : List Nat, (∀ j ∈ is, ∃ sl1, put (.name b) (.int (j : Int)) sl = some sl1 ∧ evD (eTup (eCons (eVar a) (eCons (eVar b) eNil))) sl1 st = some (gp i j, st)) →
    lcL (.name b) tYesB (eTup (eCons (eVar a) (eCons (eVar b) eNil))) sl (is.map fun (j : Nat) => Vx.D.int (j : Int)) st = some (is.map fun j => gp i j, st)
  | [], _ => rfl
  | j :: is, h => by
    obtain ⟨sl1, h1, h2⟩ := h j List.mem_cons_self
    have ih := row_lc i is fun x hx => h x (List.mem_cons_of_mem _ hx)
    rw [List.map_cons, lcL, h1]
    simp only [Option.bind_some, tYesB, if_true, h2, ih, Option.map_some, List.map_cons]
theorem m_lall {n : Nat} (h : n ≤ 1000) (st : Amb) : m__law_all_goes [.int (n : Int)] st = some (.val (.lst (allp n)), st) := by
  refine mean_rt [.pub (.int (n : Int)), .un, .un, .un] rfl ?_
  have hz : (16000000 : Nat) ≤ line := by decide
  have hrg : ∀ (sl : Sls), sl[0]? = some (.pub (.int (n : Int))) → iRg1 (eCons (eVar 0) eNil) sl st = some ((List.range n).map fun (j : Nat) => Vx.D.int (j : Int), st) := fun sl hs => by
    have : (n : Int) < 4611686018427387904 := by omega
    simp [iRg1, eCons, eNil, eVar, hs, this, rg_nat]
  have loop : ∀ (k : Nat) (x2 : Sl), k ≤ n → ∃ x2', forL (.name 2) (sAsg (.name 1) (e2 (eVar 1) (eLc (iRg1 (eCons (eVar 0) eNil)) (.name 3) tYesB (eTup (eCons (eVar 2) (eCons (eVar 3) eNil))) [3]) cAdd)) ((List.range' (n - k) k).map fun (j : Nat) => Vx.D.int (j : Int)) [.pub (.int (n : Int)), .pub (.lst ((List.range (n - k)).flatMap fun i => rowp n i)), x2, .un] st
      = some (.nx [.pub (.int (n : Int)), .pub (.lst (allp n)), x2', .un] st) := fun k => by
    induction k with
    | zero => intro x2 _; exact ⟨x2, by simp [forL, allp]⟩
    | succ k ih =>
      intro x2 hk
      obtain ⟨x2', e⟩ := ih (.pub (.int ((n - (k + 1) : Nat) : Int))) (by omega)
      refine ⟨x2', ?_⟩
      have hn : n - k = n - (k + 1) + 1 := by omega
      have hlc : eLc (iRg1 (eCons (eVar 0) eNil)) (.name 3) tYesB (eTup (eCons (eVar 2) (eCons (eVar 3) eNil))) [3] [.pub (.int (n : Int)), .pub (.lst ((List.range (n - (k + 1))).flatMap fun i => rowp n i)), .pub (.int ((n - (k + 1) : Nat) : Int)), .un] st = some (.prv (rowp n (n - (k + 1))), st) := by
        unfold eLc
        rw [if_pos (by simp [noOwn]), hrg _ rfl]
        simp only [Option.bind_some]
        rw [row_lc (a := 2) (b := 3) (n - (k + 1)) (List.range n) fun j _ => ⟨[.pub (.int (n : Int)), .pub (.lst ((List.range (n - (k + 1))).flatMap fun i => rowp n i)), .pub (.int ((n - (k + 1) : Nat) : Int)), .pub (.int (j : Int))], by simp [put, wipeS], by simp [evD, ePub, eTup, eCons, eNil, eVar, vals, two_line, gp]⟩]
        simp only [Option.bind_some]
        rw [if_pos (by simp; omega)]
        rfl
      have hlen : ((List.range (n - (k + 1))).flatMap fun i => rowp n i).length + (rowp n (n - (k + 1))).length ≤ line := by
        rw [allp_to n _ (by omega)]
        have : (n - (k + 1)) * n ≤ 1000 * 1000 := Nat.mul_le_mul (by omega) h
        simp [rowp]
        omega
      have hb := asg_prv (i := 1) (e2_of (c := cAdd) (show eVar 1 [.pub (.int (n : Int)), .pub (.lst ((List.range (n - (k + 1))).flatMap fun i => rowp n i)), .pub (.int ((n - (k + 1) : Nat) : Int)), .un] st = some (.val (.lst ((List.range (n - (k + 1))).flatMap fun i => rowp n i)), st) from rfl) hlc (show cAdd st _ _ = _ by simp only [R.d, cAdd, if_pos hlen]; rfl)) (by simp)
      rw [List.range'_succ, List.map_cons, forL_step (sl1 := [.pub (.int (n : Int)), .pub (.lst ((List.range (n - (k + 1))).flatMap fun i => rowp n i)), .pub (.int ((n - (k + 1) : Nat) : Int)), .un]) (by simp [put]) hb]
      have e3 : ((List.range (n - (k + 1))).flatMap fun i => rowp n i) ++ rowp n (n - (k + 1)) = (List.range (n - k)).flatMap fun i => rowp n i := by
        rw [hn, List.range_succ, List.flatMap_append]
        simp
      rw [e3, ← hn]
      exact e
  obtain ⟨x2, e⟩ := loop n .un (Nat.le_refl _)
  rw [Nat.sub_self] at e
  refine seq_nx (sl1 := [.pub (.int (n : Int)), .pub (.lst []), .un, .un]) (st1 := st) ?_ (seq_nx (sl1 := [.pub (.int (n : Int)), .pub (.lst (allp n)), x2, .un]) (st1 := st) ?_ ?_)
  · simp [sAsg, ePub, eLst, eNil, vals, put]
  · unfold sFor
    rw [hrg _ rfl, List.range_eq_range']
    exact e
  · exact ret_val rfl
theorem outer_lc {sl : Sls} {st : Amb} (n : Nat) (x0 : Sl) (hn : n ≤ 1000) : ∀ is : List Nat,
    lcL2 (.name 2) tYesB (iSeq (eVar 1)) (.name 3) tYesB (eTup (eCons (eVar 2) (eCons (eVar 3) eNil))) [3] [x0, .pub (.lst ((List.range n).map fun (j : Nat) => Vx.D.int (j : Int))), .un, .un] (is.map fun (j : Nat) => Vx.D.int (j : Int)) st = some (is.flatMap fun i => rowp n i, st)
  | [] => rfl
  | i :: is => by
    have ih := outer_lc (sl := sl) (st := st) n x0 hn is
    have hp : put (.name 2) (.int (i : Int)) [x0, .pub (.lst ((List.range n).map fun (j : Nat) => Vx.D.int (j : Int))), .un, .un] = some [x0, .pub (.lst ((List.range n).map fun (j : Nat) => Vx.D.int (j : Int))), .pub (.int (i : Int)), .un] := by simp [put]
    have hi : iSeq (eVar 1) [x0, .pub (.lst ((List.range n).map fun (j : Nat) => Vx.D.int (j : Int))), .pub (.int (i : Int)), .un] st = some ((List.range n).map fun (j : Nat) => Vx.D.int (j : Int), st) := rfl
    have hl := row_lc (a := 2) (b := 3) (st := st) (sl := wipeS [x0, .pub (.lst ((List.range n).map fun (j : Nat) => Vx.D.int (j : Int))), .pub (.int (i : Int)), .un] [3]) i (List.range n) fun j _ => ⟨[x0, .pub (.lst ((List.range n).map fun (j : Nat) => Vx.D.int (j : Int))), .pub (.int (i : Int)), .pub (.int (j : Int))], by simp [put, wipeS], by simp [evD, ePub, eTup, eCons, eNil, eVar, vals, two_line, gp]⟩
    rw [List.map_cons, lcL2, hp]
    simp only [Option.bind_some, tYesB, if_true]
    rw [if_pos (by simp [noOwn]), hi]
    simp only [Option.bind_some]
    rw [hl]
    simp only [Option.bind_some, ih, Option.map_some, List.flatMap_cons]
    rfl
theorem rg_ok {n : Nat} (h : n ≤ 1000) : rgOk 0 (n : Int) = true := by
  unfold rgOk
  simp only [decide_eq_true_eq]
  omega
end K09


set_option Elab.async false
set_option linter.all false
set_option maxRecDepth 100000
namespace K09
open PySem PySem.Spec L2 Vx
theorem e1_of {f : EvF} {c : Amb → Vx.D → Option R} {sl : Sls} {st st1 : Amb} {x r : R} (hf : f sl st = some (x, st1)) (hc : c st1 x.d = some r) : e1 f c sl st = some (r, st1) := by
  unfold e1
  rw [hf]
  simp only [Option.bind_some, hc, Option.map_some]
theorem m_pall {l : List Vx.D} (h : l.length ≤ 1000) (st : Amb) : m_all_goes [.tup l] st = some (.val (.tup (allp l.length)), st) := by
  refine mean_rt [.pub (.tup l), .un, .un, .un] rfl ?_
  have hz : (16000000 : Nat) ≤ line := by decide
  have hr := rg_ok h
  refine seq_nx (sl1 := [.pub (.tup l), .pub (.lst ((List.range l.length).map fun (j : Nat) => Vx.D.int (j : Int))), .un, .un]) (st1 := st) ?_ ?_
  · have hA : eA (eCons (eVar 0) eNil) cLen [.pub (.tup l), .un, .un, .un] st = some (.val (.int (l.length : Nat)), st) := eA1_of (x := .val (.tup l)) rfl rfl
    have hR : cRg1 .prv st (.int (l.length : Nat)) = some (.prv ((List.range l.length).map fun (j : Nat) => Vx.D.int (j : Int))) := by
      unfold cRg1
      rw [← rg_nat]
      exact if_pos hr
    exact asg_prv (i := 1) (e1_of hA hR) (by simp)
  · have hlc : eLc2 (iSeq (eVar 1)) (.name 2) tYesB (iSeq (eVar 1)) (.name 3) tYesB (eTup (eCons (eVar 2) (eCons (eVar 3) eNil))) [2, 3] [3] [.pub (.tup l), .pub (.lst ((List.range l.length).map fun (j : Nat) => Vx.D.int (j : Int))), .un, .un] st = some (.prv (allp l.length), st) := by
      unfold eLc2
      rw [if_pos (by simp [noOwn])]
      rw [show iSeq (eVar 1) [.pub (.tup l), .pub (.lst ((List.range l.length).map fun (j : Nat) => Vx.D.int (j : Int))), .un, .un] st = some ((List.range l.length).map fun (j : Nat) => Vx.D.int (j : Int), st) from rfl]
      simp only [Option.bind_some]
      rw [show wipeS [.pub (.tup l), .pub (.lst ((List.range l.length).map fun (j : Nat) => Vx.D.int (j : Int))), .un, .un] [2, 3] = [.pub (.tup l), .pub (.lst ((List.range l.length).map fun (j : Nat) => Vx.D.int (j : Int))), .un, .un] from rfl]
      rw [outer_lc (sl := []) l.length _ h (List.range l.length)]
      simp only [Option.bind_some]
      have := allp_to l.length l.length (Nat.le_refl _)
      have h2 : l.length * l.length ≤ 1000 * 1000 := Nat.mul_le_mul h h
      rw [if_pos (by rw [this]; omega)]
      rfl
    exact ret_val (eA1_of hlc rfl)
end K09


set_option Elab.async false
set_option linter.all false
set_option maxRecDepth 100000
namespace K09
open PySem PySem.Spec L2 Vx
theorem nkL_map {α : Type} {e : α → Vx.D} (h : ∀ a, D.nk (e a) = true) : ∀ ps : List α, D.nkL (ps.map e) = true
  | [] => rfl
  | p :: ps => by simp [D.nkL, h p, nkL_map h ps]
theorem depL_map {α : Type} {e : α → Vx.D} {n : Nat} (h : ∀ a, D.dep (e a) ≤ n) : ∀ ps : List α, D.depL (ps.map e) ≤ n
  | [] => Nat.zero_le _
  | p :: ps => by rw [List.map_cons, Vx.D.depL]; exact Nat.max_le.mpr ⟨h p, depL_map h ps⟩
/-- sorted(set(..)) of things of one shape: some of them, each like is there -/
theorem set_enc {α : Type} {e : α → Vx.D} (hnk : ∀ a, D.nk (e a) = true) (ht : ∀ a, isTup (e a) = true) (hd : ∀ a, D.dep (e a) ≤ 8) (ha : ∀ a b, D.alk (e a) (e b) = true) (ps : List α) (h : ps.length < 64) :
    ∃ qs : List α, (∀ st, cSet st (.lst (ps.map e)) = some (.prv (qs.map e))) ∧ (∀ st, cSet st (.tup (ps.map e)) = some (.prv (qs.map e))) ∧ (∀ q ∈ qs, q ∈ ps) ∧ (∀ p ∈ ps, e p ∈ qs.map e) ∧ qs.length ≤ ps.length := by
  have nk := nkL_map hnk ps
  have mem : ∀ d ∈ dedup (ps.map e), d ∈ ps.map e := fun d hd => (mem_dedup nk).mp hd
  have hsrt : srt (dedup (ps.map e)) = true := by
    unfold srt
    have nd := nkL_sub nk mem
    simp only [Bool.and_eq_true, List.all_eq_true, decide_eq_true_eq]
    refine ⟨⟨nkL_dat _ nd, ?_⟩, fun x hx => ?_⟩
    · have : ∀ l : List Vx.D, (∀ d ∈ l, D.dep d ≤ 8) → D.depL l ≤ 60 := fun l => by
        induction l with
        | nil => intro _; exact Nat.zero_le _
        | cons d l ih =>
          intro q
          rw [Vx.D.depL]
          exact Nat.max_le.mpr ⟨Nat.le_trans (q d List.mem_cons_self) (by decide), ih fun x hx => q x (List.mem_cons_of_mem _ hx)⟩
      exact this _ fun d hd' => by
        obtain ⟨a, _, rfl⟩ := List.mem_map.mp (mem d hd')
        exact hd a
    · obtain ⟨a, _, rfl⟩ := List.mem_map.mp (mem x hx)
      refine ⟨?_, fun y hy => ?_⟩
      · have := ht a
        cases hx : e a <;> rw [hx] at this <;> first | rfl | simp [isTup] at this
      · obtain ⟨b, _, rfl⟩ := List.mem_map.mp (mem y hy)
        exact ha a b
  have ok : setOk (ps.map e) = true := by
    unfold setOk
    simp only [Bool.and_eq_true, decide_eq_true_eq, List.all_eq_true]
    refine ⟨⟨⟨⟨nk, fun d hd' => ?_⟩, by rw [List.length_map]; exact h⟩, depL_map hd ps⟩, hsrt⟩
    obtain ⟨a, _, rfl⟩ := List.mem_map.mp hd'
    exact ht a
  have sub : ∀ d ∈ isort D.le (dedup (ps.map e)), d ∈ ps.map e := fun d hd' => mem d ((isort_perm_self _).mem_iff.mp hd')
  obtain ⟨qs, h1, h2⟩ := lift_of sub
  have dl : ∀ l : List Vx.D, (dedup l).length ≤ l.length := fun l => by
    induction l with
    | nil => exact Nat.le_refl _
    | cons d l ih =>
      rw [dedup, List.length_cons, List.length_cons]
      have := List.length_filter_le (fun y => !D.eqv y d) (dedup l)
      omega
  refine ⟨qs, fun st => ?_, fun st => ?_, h2, fun p hp => ?_, ?_⟩
  · unfold cSet
    simp only [seqD, Option.bind_some]
    rw [if_pos ok, h1]
  · unfold cSet
    simp only [seqD, Option.bind_some]
    rw [if_pos ok, h1]
  · rw [h1]
    exact (isort_perm_self _).mem_iff.mpr ((mem_dedup nk).mpr (List.mem_map.mpr ⟨p, hp, rfl⟩))
  · have := congrArg List.length h1
    rw [List.length_map, isort_length] at this
    have d1 := dl (ps.map e)
    rw [List.length_map] at d1
    omega
theorem nkL_il : ∀ l : List Int, D.nkL (il l) = true := fun l => nkL_map (e := Vx.D.int) (fun _ => rfl) l
theorem alkL_il : ∀ l k : List Int, D.alkL (il l) (il k) = true
  | [], _ => rfl
  | x :: l, k => by
    cases k with
    | nil => rfl
    | cons y k => show (D.alk (.int x) (.int y) && D.alkL (il l) (il k)) = true; rw [alkL_il l k]; rfl
theorem set_pd (ps : List Pt) (h : ps.length < 64) : (∃ qs : List Pt, (∀ st, cSet st (.lst (ps.map pd)) = some (.prv (qs.map pd))) ∧ (∀ st, cSet st (.tup (ps.map pd)) = some (.prv (qs.map pd))) ∧ (∀ q ∈ qs, q ∈ ps) ∧ (∀ p ∈ ps, pd p ∈ qs.map pd) ∧ qs.length ≤ ps.length) := set_enc (e := pd) (fun p => by simp [pd, D.nk, D.nkL, nkL_il]) (fun _ => rfl) (fun p => by simp [pd, Vx.D.dep, Vx.D.depL, dep_il]) (fun p q => by simp [pd, D.alk, D.alkL, alkL_il]) ps h
theorem set_rd (ps : List (Int × Int)) (h : ps.length < 64) : (∃ qs : List (Int × Int), (∀ st, cSet st (.lst (ps.map rd)) = some (.prv (qs.map rd))) ∧ (∀ st, cSet st (.tup (ps.map rd)) = some (.prv (qs.map rd))) ∧ (∀ q ∈ qs, q ∈ ps) ∧ (∀ p ∈ ps, rd p ∈ qs.map rd) ∧ qs.length ≤ ps.length) := set_enc (e := rd) (fun p => by simp [rd, D.nk, D.nkL]) (fun _ => rfl) (fun p => by simp [rd, Vx.D.dep, Vx.D.depL]) (fun p q => by simp [rd, D.alk, D.alkL]) ps h
end K09


set_option Elab.async false
set_option linter.all false
set_option maxRecDepth 100000
namespace K09
open PySem PySem.Spec L2 Vx
/-- a draw, over a mean -/
def Draws (M : Mean) : Prop := ∀ (st : Amb) (b : Int), 0 < b → b < 1073741824 → DealAt st [] → ∃ (r : Int) (st' : Amb), M [.loc 1, .int b] st = some (.val (.int r), st') ∧ 0 ≤ r ∧ r < b ∧ DealAt st' []
theorem draws_any : Draws m__law_any := fun st b h0 h1 D => law_any h0 h1 D
/-- [any(deal, b) for .. in range(..)] -/
theorem draw_lc {M : Mean} (hM : Draws M) {sl : Sls} {i : Nat} {b : Int} (h0 : 0 < b) (h1 : b < 1073741824) (hp : ∀ d, ∃ sl1, put (.name i) d sl = some sl1 ∧ sl1[0]? = some (.pub (.loc 1))) : ∀ (is : List Vx.D) (st : Amb), DealAt st [] →
    ∃ (xs : List Int) (st' : Amb), xs.length = is.length ∧ (∀ x ∈ xs, 0 ≤ x ∧ x < b) ∧ DealAt st' [] ∧ lcL (.name i) tYesB (eCall M (eCons (eVar 0) (eCons (eC (.int b)) eNil))) sl is st = some (il xs, st')
  | [], st, D => ⟨[], st, rfl, fun x h => (by cases h), D, rfl⟩
  | d :: is, st, D => by
    obtain ⟨sl1, p1, p2⟩ := hp d
    obtain ⟨r, st1, e, r0, r1, D1⟩ := hM st b h0 h1 D
    obtain ⟨xs, st2, l1, l2, D2, e2⟩ := draw_lc hM h0 h1 hp is st1 D1
    have hv : evD (eCall M (eCons (eVar 0) (eCons (eC (.int b)) eNil))) sl1 st = some (.int r, st1) := by
      simp [evD, ePub, eCall, eCons, eNil, eVar, eC, p2, vals, e]
    refine ⟨r :: xs, st2, by simp [l1], fun x hx => ?_, D2, ?_⟩
    · rcases List.mem_cons.mp hx with rfl | hx
      · exact ⟨r0, r1⟩
      · exact l2 x hx
    · rw [lcL, p1]
      simp only [Option.bind_some, tYesB, if_true, hv]
      rw [e2]
      rfl
end K09


set_option Elab.async false
set_option linter.all false
set_option maxRecDepth 100000
namespace K09
open PySem PySem.Spec L2 Vx
/-- the numbers at which k was drawn -/
def sel (xs : List Int) (k : Int) (is : List Nat) : List Int := (is.filter fun (i : Nat) => xs.getD i 0 == k).map fun (i : Nat) => (i : Int)
theorem sel_lc {sl : Sls} {st : Amb} (xs : List Int) (k : Int) (hp : ∀ d : Vx.D, ∃ sl1, put (.name 9) d sl = some sl1 ∧ sl1[5]? = some (.pub (.lst (il xs))) ∧ sl1[9]? = some (.pub d)) : ∀ is : List Nat, (∀ i ∈ is, i < xs.length) →
    lcL (.name 9) (eT (e2 (e2 (eVar 5) (eVar 9) cIx) (eC (.int k)) cEq)) (eVar 9) sl (is.map fun (j : Nat) => Vx.D.int (j : Int)) st = some (il (sel xs k is), st)
  | [], _ => rfl
  | i :: is, h => by
    obtain ⟨sl1, p1, p2, p3⟩ := hp (.int (i : Int))
    have ih := sel_lc (st := st) xs k hp is fun j hj => h j (List.mem_cons_of_mem _ hj)
    have hi := h i List.mem_cons_self
    have v5 : eVar 5 sl1 st = some (.val (.lst (il xs)), st) := by unfold eVar; rw [p2]
    have v9 : eVar 9 sl1 st = some (.val (.int (i : Int)), st) := by unfold eVar; rw [p3]
    have hix : cIx st (.lst (il xs)) (.int (i : Int)) = some (.val (.int (xs.getD i 0))) := by
      have hl : i < (il xs).length := by simp [il]; exact hi
      have hg : (il xs)[i] = .int (xs.getD i 0) := by
        simp only [il, List.getElem_map]
        rw [List.getD_eq_getElem?_getD, List.getElem?_eq_getElem hi]
        rfl
      unfold cIx
      simp only [seqD, Option.bind_some, atI_nat hl, Option.map_some, hg]
    have heq : cEq st (.int (xs.getD i 0)) (.int k) = some (.val (.bl (xs.getD i 0 == k))) := by
      unfold cEq
      rw [if_pos ⟨flat64_int _, flat64_int _⟩]
      rfl
    have ht : eT (e2 (e2 (eVar 5) (eVar 9) cIx) (eC (.int k)) cEq) sl1 st = some (xs.getD i 0 == k, st) := by
      unfold eT
      rw [e2_of (e2_of v5 v9 hix) (show eC (.int k) sl1 st = some (.val (.int k), st) from rfl) heq]
    have hv : evD (eVar 9) sl1 st = some (.int (i : Int), st) := by simp only [evD, ePub, v9]
    rw [List.map_cons, lcL, p1]
    simp only [Option.bind_some, ht]
    have hs : sel xs k (i :: is) = if (xs.getD i 0 == k) = true then (i : Int) :: sel xs k is else sel xs k is := by
      unfold sel
      rw [List.filter_cons]
      split <;> rfl
    rw [hs]
    cases hc : (xs.getD i 0 == k) with
    | true => simp only [if_true, hv, Option.bind_some, ih, Option.map_some]; rfl
    | false => simp only [Bool.false_eq_true, if_false, ih]
theorem sel_mem {xs : List Int} {k : Int} {is : List Nat} {x : Int} (h : x ∈ sel xs k is) : ∃ i, i ∈ is ∧ x = (i : Int) := by
  obtain ⟨i, hi, rfl⟩ := List.mem_map.mp h
  exact ⟨i, (List.mem_filter.mp hi).1, rfl⟩
theorem sel_len (xs : List Int) (k : Int) (is : List Nat) : (sel xs k is).length ≤ is.length := by
  unfold sel; rw [List.length_map]; exact List.length_filter_le _ _
end K09


set_option Elab.async false
set_option linter.all false
set_option maxRecDepth 100000
namespace K09
open PySem PySem.Spec L2 Vx
theorem len_ev {f : EvF} {sl : Sls} {st : Amb} {l : List Vx.D} (h : f sl st = some (.val (.tup l), st)) : eA (eCons f eNil) cLen sl st = some (.val (.int (l.length : Nat)), st) := eA1_of h rfl
def PatM (m : Nat) (p : Pt) : Prop := (∀ x ∈ p.1, 0 ≤ x ∧ x < (m : Int)) ∧ (∀ x ∈ p.2, 0 ≤ x ∧ x < (m : Int)) ∧ p.1.length ≤ m ∧ p.2.length ≤ m
abbrev tB (M : Mean) : SvF := (sSeq (sAsg (.name 5) (eLc (iRg1 (eCons (eVar 1) eNil)) (.name 8) tYesB (eCall M (eCons (eVar 0) (eCons (eC (.int 4)) eNil))) [8])) (sSeq (sPar 6 7 false false (eCons (eA (eCons (eLc (iRg1 (eCons (eVar 1) eNil)) (.name 9) (eT (e2 (e2 (eVar 5) (eVar 9) cIx) (eC (.int 0)) cEq)) (eVar 9) [9]) eNil) cTuple) (eCons (eA (eCons (eLc (iRg1 (eCons (eVar 1) eNil)) (.name 9) (eT (e2 (e2 (eVar 5) (eVar 9) cIx) (eC (.int 1)) cEq)) (eVar 9) [9]) eNil) cTuple) eNil))) (sIf (eT (e2 (e2 (eA (eCons (eVar 6) eNil) cLen) (eA (eCons (eVar 7) eNil) cLen) cAdd) (eVar 1) (cI fLt))) (sApp 3 (eTup (eCons (eVar 6) (eCons (eVar 7) eNil)))) sNil)))
theorem cons_of {f : EvF} {F : EvA} {sl : Sls} {st st1 st2 : Amb} {x : R} {xs : List R} (hf : f sl st = some (x, st1)) (hF : F sl st1 = some (xs, st2)) : eCons f F sl st = some (x :: xs, st2) := by
  unfold eCons
  rw [hf]
  simp only [Option.bind_some, hF, Option.map_some]
theorem par_of {i j : Nat} {F : EvA} {sl : Sls} {st st1 : Amb} {d1 d2 : Vx.D} (h : F sl st = some ([.val d1, .val d2], st1)) (hi : i < sl.length) (hj : j < sl.length) : sPar i j false false F sl st = some (.nx ((sl.set i (.pub d1)).set j (.pub d2)) st1) := by
  unfold sPar
  rw [h]
  simp only [Vx.putK, if_pos hi, Option.bind_some]
  rw [if_pos (by rw [List.length_set]; exact hj)]
  rfl
theorem turn_draw {M : Mean} (hM : Draws M) {m : Nat} (hm : m ≤ 100) {s2 x4 x5 x6 x7 : Sl} {ps : List Pt} (hl : ps.length ≤ 1000) {st : Amb} (D : DealAt st []) : ∃ (qs : List Pt) (y5 y6 y7 : Sl) (st' : Amb), DealAt st' [] ∧ qs.length ≤ ps.length + 1 ∧ (∀ q ∈ qs, q ∈ ps ∨ PatM m q) ∧ (∀ p ∈ ps, p ∈ qs) ∧
    tB M [.pub (.loc 1), .pub (.int (m : Int)), s2, .own (ps.map pd), x4, x5, x6, x7, .un, .un] st = some (.nx [.pub (.loc 1), .pub (.int (m : Int)), s2, .own (qs.map pd), x4, y5, y6, y7, .un, .un] st') := by
  have hz : (16000000 : Nat) ≤ line := by decide
  have hrg : ∀ (sl : Sls) (st : Amb), sl[1]? = some (.pub (.int (m : Int))) → iRg1 (eCons (eVar 1) eNil) sl st = some ((List.range m).map fun (j : Nat) => Vx.D.int (j : Int), st) := fun sl st hs => by
    have : (m : Int) < 4611686018427387904 := by omega
    simp [iRg1, eCons, eNil, eVar, hs, this, rg_nat]
  obtain ⟨xs, st1, l1, l2, D1, e1⟩ := draw_lc hM (b := 4) (i := 8) (by decide) (by decide) (sl := [.pub (.loc 1), .pub (.int (m : Int)), s2, .own (ps.map pd), x4, x5, x6, x7, .un, .un]) (fun d => ⟨[.pub (.loc 1), .pub (.int (m : Int)), s2, .own (ps.map pd), x4, x5, x6, x7, .pub d, .un], by simp [put], rfl⟩) ((List.range m).map fun (j : Nat) => Vx.D.int (j : Int)) st D
  have hxs : xs.length = m := by simpa using l1
  have hparts : eLc (iRg1 (eCons (eVar 1) eNil)) (.name 8) tYesB (eCall M (eCons (eVar 0) (eCons (eC (.int 4)) eNil))) [8] [.pub (.loc 1), .pub (.int (m : Int)), s2, .own (ps.map pd), x4, x5, x6, x7, .un, .un] st = some (.prv (il xs), st1) := by
    unfold eLc
    rw [if_pos (by simp [noOwn]), hrg _ _ rfl]
    simp only [Option.bind_some]
    rw [show wipeS [.pub (.loc 1), .pub (.int (m : Int)), s2, .own (ps.map pd), x4, x5, x6, x7, .un, .un] [8] = [.pub (.loc 1), .pub (.int (m : Int)), s2, .own (ps.map pd), x4, x5, x6, x7, .un, .un] from rfl, e1]
    simp only [Option.bind_some]
    rw [if_pos (by simp [il]; omega)]
  have hsel : ∀ k : Int, eA (eCons (eLc (iRg1 (eCons (eVar 1) eNil)) (.name 9) (eT (e2 (e2 (eVar 5) (eVar 9) cIx) (eC (.int k)) cEq)) (eVar 9) [9]) eNil) cTuple [.pub (.loc 1), .pub (.int (m : Int)), s2, .own (ps.map pd), x4, .pub (.lst (il xs)), x6, x7, .un, .un] st1 = some (.val (.tup (il (sel xs k (List.range m)))), st1) := fun k => by
    refine eA1_of (x := .prv (il (sel xs k (List.range m)))) ?_ rfl
    unfold eLc
    rw [if_pos (by simp [noOwn]), hrg _ _ rfl]
    simp only [Option.bind_some]
    rw [show wipeS [.pub (.loc 1), .pub (.int (m : Int)), s2, .own (ps.map pd), x4, .pub (.lst (il xs)), x6, x7, .un, .un] [9] = [.pub (.loc 1), .pub (.int (m : Int)), s2, .own (ps.map pd), x4, .pub (.lst (il xs)), x6, x7, .un, .un] from rfl]
    rw [sel_lc xs k (fun d => ⟨[.pub (.loc 1), .pub (.int (m : Int)), s2, .own (ps.map pd), x4, .pub (.lst (il xs)), x6, x7, .un, .pub d], by simp [put], rfl, rfl⟩) (List.range m) fun i hi => by rw [hxs]; exact List.mem_range.mp hi]
    simp only [Option.bind_some]
    have := sel_len xs k (List.range m)
    rw [List.length_range] at this
    rw [if_pos (by simp [il]; omega)]
  have hsl : ∀ k : Int, (∀ x ∈ sel xs k (List.range m), 0 ≤ x ∧ x < (m : Int)) ∧ (sel xs k (List.range m)).length ≤ m := fun k => ⟨fun x hx => by
    obtain ⟨i, hi, rfl⟩ := sel_mem hx
    have := List.mem_range.mp hi
    omega, by have := sel_len xs k (List.range m); rwa [List.length_range] at this⟩
  have hpar : sPar 6 7 false false (eCons (eA (eCons (eLc (iRg1 (eCons (eVar 1) eNil)) (.name 9) (eT (e2 (e2 (eVar 5) (eVar 9) cIx) (eC (.int 0)) cEq)) (eVar 9) [9]) eNil) cTuple) (eCons (eA (eCons (eLc (iRg1 (eCons (eVar 1) eNil)) (.name 9) (eT (e2 (e2 (eVar 5) (eVar 9) cIx) (eC (.int 1)) cEq)) (eVar 9) [9]) eNil) cTuple) eNil)) [.pub (.loc 1), .pub (.int (m : Int)), s2, .own (ps.map pd), x4, .pub (.lst (il xs)), x6, x7, .un, .un] st1
      = some (.nx [.pub (.loc 1), .pub (.int (m : Int)), s2, .own (ps.map pd), x4, .pub (.lst (il xs)), .pub (.tup (il (sel xs 0 (List.range m)))), .pub (.tup (il (sel xs 1 (List.range m)))), .un, .un] st1) := by
    exact par_of (cons_of (hsel 0) (cons_of (hsel 1) rfl)) (by simp) (by simp)
  have hlen : ∀ (i : Nat) (q : List Int) (sl : Sls), sl[i]? = some (.pub (.tup (il q))) → eA (eCons (eVar i) eNil) cLen sl st1 = some (.val (.int (q.length : Nat)), st1) := fun i q sl h => by
    have := len_ev (f := eVar i) (sl := sl) (st := st1) (l := il q) (by unfold eVar; rw [h])
    rwa [show (il q).length = q.length from List.length_map _] at this
  have h0 := hsl 0
  have h1 := hsl 1
  generalize sel xs 0 (List.range m) = q at hpar h0
  generalize sel xs 1 (List.range m) = t at hpar h1
  have htest : eT (e2 (e2 (eA (eCons (eVar 6) eNil) cLen) (eA (eCons (eVar 7) eNil) cLen) cAdd) (eVar 1) (cI fLt)) [.pub (.loc 1), .pub (.int (m : Int)), s2, .own (ps.map pd), x4, .pub (.lst (il xs)), .pub (.tup (il q)), .pub (.tup (il t)), .un, .un] st1 = some (decide (((q.length : Nat) : Int) + ((t.length : Nat) : Int) < (m : Int)), st1) := by
    unfold eT
    rw [e2_of (c := cI fLt) (e2_of (c := cAdd) (hlen 6 q _ rfl) (hlen 7 t _ rfl) (r := .val (.int (((q.length : Nat) : Int) + ((t.length : Nat) : Int)))) rfl) (show eVar 1 _ st1 = some (.val (.int (m : Int)), st1) from rfl) (r := .val (.bl (decide (((q.length : Nat) : Int) + ((t.length : Nat) : Int) < (m : Int))))) rfl]
  by_cases hc : ((q.length : Nat) : Int) + ((t.length : Nat) : Int) < (m : Int)
  · refine ⟨ps ++ [(q, t)], .pub (.lst (il xs)), .pub (.tup (il q)), .pub (.tup (il t)), st1, D1, by simp, fun p hp => ?_, fun p hp => List.mem_append_left _ hp, seq_nx (asg_prv (i := 5) hparts (by simp)) (seq_nx hpar ?_)⟩
    · rcases List.mem_append.mp hp with hp | hp
      · exact .inl hp
      · rw [List.mem_singleton.mp hp]
        exact .inr ⟨h0.1, h1.1, h0.2, h1.2⟩
    · unfold sIf
      rw [htest, decide_eq_true hc]
      have e2t : ePub (eTup (eCons (eVar 6) (eCons (eVar 7) eNil))) [.pub (.loc 1), .pub (.int (m : Int)), s2, .own (ps.map pd), x4, .pub (.lst (il xs)), .pub (.tup (il q)), .pub (.tup (il t)), .un, .un] st1 = some (.val (pd (q, t)), st1) := by
        simp [ePub, eTup, eCons, eNil, eVar, vals, two_line, pd]
      simp only [Option.bind_some, if_true]
      unfold sApp
      rw [e2t]
      simp only [List.getElem?_cons_succ, List.getElem?_cons_zero]
      rw [if_pos (by simp; omega), List.map_append]
      rfl
  · refine ⟨ps, .pub (.lst (il xs)), .pub (.tup (il q)), .pub (.tup (il t)), st1, D1, by simp, fun p hp => .inl hp, fun p hp => hp, seq_nx (asg_prv (i := 5) hparts (by simp)) (seq_nx hpar ?_)⟩
    unfold sIf
    rw [htest, decide_eq_false hc]
    rfl
end K09


set_option Elab.async false
set_option linter.all false
set_option maxRecDepth 100000
namespace K09
open PySem PySem.Spec L2 Vx
theorem il_inj : ∀ {a b : List Int}, il a = il b → a = b
  | [], [], _ => rfl
  | [], y :: b, h => by simp [il] at h
  | x :: a, [], h => by simp [il] at h
  | x :: a, y :: b, h => by
    simp only [il, List.map_cons, List.cons.injEq, Vx.D.int.injEq] at h
    rw [h.1, il_inj (a := a) (b := b) h.2]
theorem pd_inj {p q : Pt} (h : pd p = pd q) : p = q := by
  simp only [pd, Vx.D.tup.injEq, List.cons.injEq, and_true] at h
  exact Prod.ext (il_inj h.1) (il_inj h.2)
theorem pd_mem {p : Pt} {qs : List Pt} (h : pd p ∈ qs.map pd) : p ∈ qs := by
  obtain ⟨q, hq, e⟩ := List.mem_map.mp h
  rwa [← pd_inj e]
theorem rd_inj {p q : Int × Int} (h : rd p = rd q) : p = q := by
  simp only [rd, Vx.D.tup.injEq, List.cons.injEq, and_true, Vx.D.int.injEq] at h
  exact Prod.ext h.1 h.2
theorem rd_mem {p : Int × Int} {qs : List (Int × Int)} (h : rd p ∈ qs.map rd) : p ∈ qs := by
  obtain ⟨q, hq, e⟩ := List.mem_map.mp h
  rwa [← rd_inj e]
theorem for_nx {t : Tg} {B : SvF} {d : Vx.D} {l : List Vx.D} {sl sl1 sl2 : Sls} {st st2 : Amb} {o : Out} (hp : put t d sl = some sl1) (hB : B sl1 st = some (.nx sl2 st2)) (hl : forL t B l sl2 st2 = some o) : forL t B (d :: l) sl st = some o := by
  rw [forL_step hp hB, hl]
theorem loop_draw {M : Mean} (hM : Draws M) {m : Nat} (hm : m ≤ 100) {s2 : Sl} : ∀ (is : List Vx.D) (ps : List Pt) (x4 x5 x6 x7 : Sl) (st : Amb), DealAt st [] → (∀ p ∈ ps, PatM m p) → ps.length + is.length ≤ 1000 →
    ∃ (qs : List Pt) (y4 y5 y6 y7 : Sl) (st' : Amb), DealAt st' [] ∧ (∀ q ∈ qs, PatM m q) ∧ qs.length ≤ ps.length + is.length ∧ (∀ p ∈ ps, p ∈ qs) ∧
      forL (.name 4) (tB M) is [.pub (.loc 1), .pub (.int (m : Int)), s2, .own (ps.map pd), x4, x5, x6, x7, .un, .un] st = some (.nx [.pub (.loc 1), .pub (.int (m : Int)), s2, .own (qs.map pd), y4, y5, y6, y7, .un, .un] st')
  | [], ps, x4, x5, x6, x7, st, D, h, _ => ⟨ps, x4, x5, x6, x7, st, D, h, Nat.le_refl _, fun p hp => hp, rfl⟩
  | d :: is, ps, x4, x5, x6, x7, st, D, h, hl => by
    rw [List.length_cons] at hl
    obtain ⟨qs, y5, y6, y7, st1, D1, l1, h1, u1, e1⟩ := turn_draw hM hm (s2 := s2) (x4 := .pub d) (x5 := x5) (x6 := x6) (x7 := x7) (ps := ps) (by omega) D
    obtain ⟨rs, z4, z5, z6, z7, st2, D2, h2, l2, u2, e2⟩ := loop_draw hM hm (s2 := s2) is qs (.pub d) y5 y6 y7 st1 D1 (fun q hq => (h1 q hq).elim (h q) id) (by omega)
    exact ⟨rs, z4, z5, z6, z7, st2, D2, h2, by rw [List.length_cons]; omega, fun p hp => u2 p (u1 p hp), for_nx (by simp [put]) e1 e2⟩
abbrev dB (M : Mean) : SvF := (sSeq (sOwn 3 (eLst (eCons (eTup (eCons (eTup eNil) (eCons (eTup eNil) eNil))) eNil))) (sSeq (sFor (iRg1 (eCons (eCall M (eCons (eVar 0) (eCons (eVar 2) eNil))) eNil)) (.name 4) (tB M)) (sRet (e1 (eVar 3) cSet))))
theorem drawn_g {M : Mean} (hM : Draws M) {m : Nat} (hm : m ≤ 100) {k : Nat} (k0 : 0 < k) (hk : k ≤ 60) {st : Amb} (D : DealAt st []) : ∃ (qs : List Pt) (st' : Amb), DealAt st' [] ∧ (∀ q ∈ qs, PatM m q) ∧ qs.length ≤ k ∧ ([], []) ∈ qs ∧ meanOf 10 3 (dB M) [.loc 1, .int (m : Int), .int (k : Int)] st = some (.prv (qs.map pd), st') := by
  obtain ⟨r, st1, e, r0, r1, D1⟩ := hM st k (by omega) (by omega) D
  obtain ⟨n, rfl⟩ : ∃ n : Nat, r = (n : Int) := ⟨r.toNat, by omega⟩
  have hn : n < k := by omega
  obtain ⟨ps, y4, y5, y6, y7, st2, D2, h2, l2, u2, e2⟩ := loop_draw hM hm (s2 := .pub (.int (k : Int))) ((List.range n).map fun (j : Nat) => Vx.D.int (j : Int)) [([], [])] .un .un .un .un st1 D1 (fun p hp => by
    rw [List.mem_singleton.mp hp]
    exact ⟨fun x hx => by (cases hx), fun x hx => by (cases hx), Nat.zero_le _, Nat.zero_le _⟩) (by simp; omega)
  rw [List.length_map, List.length_range, List.length_singleton] at l2
  obtain ⟨qs, c1, _, c3, c4, c5⟩ := set_pd ps (by omega)
  refine ⟨qs, st2, D2, fun q hq => h2 q (c3 q hq), by omega, pd_mem (c4 _ (u2 _ List.mem_cons_self)), mean_rt [.pub (.loc 1), .pub (.int (m : Int)), .pub (.int (k : Int)), .un, .un, .un, .un, .un, .un, .un] rfl ?_⟩
  have hi : iRg1 (eCons (eCall M (eCons (eVar 0) (eCons (eVar 2) eNil))) eNil) [.pub (.loc 1), .pub (.int (m : Int)), .pub (.int (k : Int)), .own ([([], [])].map pd), .un, .un, .un, .un, .un, .un] st = some ((List.range n).map fun (j : Nat) => Vx.D.int (j : Int), st1) := by
    have : (n : Int) < 4611686018427387904 := by omega
    simp [iRg1, eCall, eCons, eNil, eVar, vals, e, this, rg_nat]
  refine seq_nx (sl1 := [.pub (.loc 1), .pub (.int (m : Int)), .pub (.int (k : Int)), .own ([([], [])].map pd), .un, .un, .un, .un, .un, .un]) (st1 := st) ?_ (seq_nx (st1 := st2) (by unfold sFor; rw [hi]; exact e2) (ret_prv (e1_of (x := .bor (ps.map pd)) rfl (c1 st2))))
  simp [sOwn, eLst, eTup, eCons, eNil, vals, two_line, pd, il, (by decide : 1 ≤ line)]
theorem m_drawn {m : Nat} (hm : m ≤ 100) {k : Nat} (k0 : 0 < k) (hk : k ≤ 60) {st : Amb} (D : DealAt st []) : ∃ (qs : List Pt) (st' : Amb), DealAt st' [] ∧ (∀ q ∈ qs, PatM m q) ∧ qs.length ≤ k ∧ ([], []) ∈ qs ∧ m__law_drawn_patterns [.loc 1, .int (m : Int), .int (k : Int)] st = some (.prv (qs.map pd), st') := drawn_g draws_any hm k0 hk D
end K09


set_option Elab.async false
set_option linter.all false
set_option maxRecDepth 100000
namespace K09
open PySem PySem.Spec L2 Vx
/-! whether faults may begin, stay and end -/
def nbD : Vx.D := .tup [.tup [], .tup []]
abbrev NS : List Str := ["letters", "hears", "rules", "patterns", "goes", "wrong", "promise"]
def pAt (pats : List Pt) (i : Nat) : Pt := pats.getD i ([], [])
def fAt (pats : List Pt) (gs : List (Int × Int)) (nb i : Nat) : Bool :=
  gs.contains ((nb : Int), (i : Int)) && gs.contains ((i : Int), (nb : Int)) && gs.contains ((i : Int), (i : Int)) && pats.contains ((pAt pats i).1, [])
def fAll (pats : List Pt) (gs : List (Int × Int)) (nb : Nat) : Bool := (List.range pats.length).all (fAt pats gs nb)
theorem eqv_rd (a b : Int × Int) : D.eqv (rd a) (rd b) = (a == b) := by
  obtain ⟨a, c⟩ := a
  obtain ⟨b, d⟩ := b
  simp only [rd, D.eqv, D.eqvL, Bool.and_true]
  rfl
theorem eqvL_il : ∀ a b : List Int, D.eqvL (il a) (il b) = (a == b)
  | [], [] => rfl
  | [], y :: b => rfl
  | x :: a, [] => rfl
  | x :: a, y :: b => by
    show (D.eqv (.int x) (.int y) && D.eqvL (il a) (il b)) = _
    rw [eqvL_il a b]
    rfl
theorem eqv_pd (a b : Pt) : D.eqv (pd a) (pd b) = (a == b) := by
  obtain ⟨a, c⟩ := a
  obtain ⟨b, d⟩ := b
  simp only [pd, D.eqv, D.eqvL, eqvL_il, Bool.and_true]
  rfl
theorem inL_rd (x : Int × Int) (l : List (Int × Int)) : inL (rd x) (l.map rd) = l.contains x := by
  unfold inL
  rw [List.any_map]
  induction l with
  | nil => rfl
  | cons a l ih =>
    rw [List.any_cons, List.contains_cons, ih]
    congr 1
    show D.eqv (rd a) (rd x) = _
    rw [eqv_rd, Bool.eq_iff_iff, beq_iff_eq, beq_iff_eq]
    exact eq_comm
theorem inL_pd (x : Pt) (l : List Pt) : inL (pd x) (l.map pd) = l.contains x := by
  unfold inL
  rw [List.any_map]
  induction l with
  | nil => rfl
  | cons a l ih =>
    rw [List.any_cons, List.contains_cons, ih]
    congr 1
    show D.eqv (pd a) (pd x) = _
    rw [eqv_pd, Bool.eq_iff_iff, beq_iff_eq, beq_iff_eq]
    exact eq_comm
theorem datL_mp {α : Type} (f : α → Vx.D) (h : ∀ x, flat64 (f x) = true) : ∀ l : List α, D.datL (l.map f) = true
  | [] => rfl
  | x :: l => by
    have := (flat64_iff.mp (h x)).1
    simp [D.datL, this, datL_mp f h l]
theorem depL_mp {α : Type} (f : α → Vx.D) (n : Nat) (h : ∀ x, (f x).dep ≤ n) : ∀ l : List α, D.depL (l.map f) ≤ n
  | [] => Nat.zero_le _
  | x :: l => by
    have := h x
    have := depL_mp f n h l
    simp [D.depL]
    omega
theorem flat_map {α : Type} (f : α → Vx.D) (h : ∀ x, flat64 (f x) = true) (n : Nat) (hn : n < 63) (h2 : ∀ x, (f x).dep ≤ n) (l : List α) : flat64 (.lst (l.map f)) = true := by
  rw [flat64_iff]
  refine ⟨by simp only [D.dat]; exact datL_mp f h l, ?_⟩
  have := depL_mp f n h2 l
  simp only [D.dep]
  omega
theorem flat_rd (r : Int × Int) : flat64 (rd r) = true := by simp [rd, flat64, D.dat, D.datL, D.dep, D.depL]
theorem dep_rd (r : Int × Int) : (rd r).dep ≤ 1 := by simp [rd, D.dep, D.depL]
theorem dep_pd (p : Pt) : (pd p).dep ≤ 2 := by simp [pd, D.dep, D.depL, dep_il]
theorem flat_rds (l : List (Int × Int)) : flat64 (.lst (l.map rd)) = true := flat_map rd flat_rd 1 (by decide) dep_rd l
theorem flat_pds (l : List Pt) : flat64 (.lst (l.map pd)) = true := flat_map pd flat_pd 2 (by decide) dep_pd l
theorem flat_nb0 : flat64 nbD = true := by decide +kernel
/-- the shift as it is kept -/
def shD (a b c : Vx.D) (pats : List Pt) (gs : List (Int × Int)) (w p : Vx.D) : Vx.D := .ins "Shift" NS [a, b, c, .tpc (pats.map pd), .tup (gs.map rd), w, p]
section
variable {a b c w p : Vx.D} {pats : List Pt} {gs : List (Int × Int)} {st : Amb} {Q : R → Amb → Prop} {P : R → Prop} {nb : Nat}
theorem f_pat : OR (cFld "Shift" "patterns" st (.ins "Shift" NS [a, b, c, .tpc (pats.map pd), .tup (gs.map rd), w, p])) P = P (.val (.tpc (pats.map pd))) := OR_fld rfl
theorem f_goes : OR (cFld "Shift" "goes" st (.ins "Shift" NS [a, b, c, .tpc (pats.map pd), .tup (gs.map rd), w, p])) P = P (.val (.tup (gs.map rd))) := OR_fld rfl
theorem nobody_mp (h : firstIx nbD (pats.map pd) = some nb) : MP m_nobody_of [shD a b c pats gs w p] st Q = Q (.val (.int (nb : Int))) st := by
  unfold m_nobody_of b_nobody_of shD
  simp only [↓EP_C, ↓EP_var, ↓EP_pub, ↓EP_e1, ↓EP_e2, ↓EP_A, ↓AP_nil, ↓AP_cons, ↓EP_tup, ↓EP_lst, ↓EP_call, ↓EP_callK, ↓EP_if, ↓ZP_none, ↓ZP_some, ↓EP_sl, ↓EP_andV, ↓EP_orV, ↓EP_notV, ↓EP_neg, ↓BP_T, ↓BP_and, ↓BP_or, ↓BP_not, ↓BP_yes, ↓IP_seq, ↓IP_tup, ↓IP_enum, ↓IP_rg1, ↓SP_seq, ↓Th_app, ↓SP_nil, ↓SP_pass, ↓SP_break, ↓SP_cont, ↓SP_if, ↓SP_ret, ↓SP_retN, ↓SP_retO, ↓SP_drop, ↓SP_asg, ↓SP_own, ↓SP_app, ↓SP_ext, ↓SP_popA, ↓SP_move, ↓SP_par, ↓MP_mean, ↓EP_lcI, ↓EP_lc2I, ↓SP_forI, ↓FL_nil, ↓FLk_app, ↓LC_nil, ↓wpQ_nil, ↓wpQ_cons, ↓seG_succ, ↓seG_0, ↓EP_dm, ↓EP_fld, ↓EP_new, ↓dmQ_tpc, ↓dmQ_tup, ↓dmQ_lst, ↓dmQ_int, ↓slG_succ, ↓slG_pub, ↓slG_own, ↓stG_succ, ↓stG_0, ↓asgQ_name, ↓asgQ_names, ↓putQ_nil, ↓putQ_cons, ↓putKQ_pub, ↓putKQ_own, ↓ownG_succ, ↓ownG_own, ↓dQ_val, ↓dQ_prv, ↓dQ_bor, ↓dsQ_nil, ↓dsQ_cons, ↓pubQ_val, ↓pubQ_prv, ↓valsQ_nil, ↓valsQ_val, ↓blQ_bl, ↓intQ_int, ↓rtQ_val, ↓rtQ_prv, ↓seqQ_lst, ↓seqQ_frz, ↓seqQ_prv, ↓tupQ_tup, ↓tupQ_tpc, ↓prvQ_prv, ↓twoQ_two, ↓lstQ_lst, ↓add_int, ↓add_tup, ↓add_lst, ↓cI_int, ↓mul_int, ↓mul_tup, ↓ix_tup', ↓ix_lst', ↓len_tup', ↓len_lst', ↓tuple_tup, ↓tuple_lst, ↓list_tup, ↓list_lst, ↓sort_lst, ↓sort_tup, ↓max_int, ↓min_int, ↓int_int, ↓in_tup, ↓in_lst, ↓eq_any, ↓ne_any, ↓rev_lst, ↓sl_tup', ↓sl_lst', ↓rg1_int, ↓OR_at0, ↓OR_at1, ↓OR_sub, ↓OR_lt, ↓OR_le, ↓OR_gt, ↓OR_ge, ↓OR_mod, ↓OR_div, ↓OR_some, ↓OR_none, ↓no2_eq, wipeS, pick, List.length_cons, List.length_nil, List.map_cons, List.map_nil, List.replicate, List.cons_append, List.nil_append, Nat.reduceAdd, Nat.reduceSub, Nat.reduceLT, Nat.reduceLeDiff, Nat.lt_add_one, Nat.zero_lt_succ, Nat.zero_add, Nat.zero_le, true_and, and_true, if_true, if_false, reduceIte, forall_const, implies_true, false_imp_iff, Bool.false_eq_true, Bool.true_eq_false, reduceCtorEq, decide_true, decide_false, decide_eq_true_eq, decide_eq_false_iff_not, Bool.not_true, Bool.not_false, Bool.not_eq_false', Bool.not_eq_true', line_le2, line, noOwn_cons, noOwn_nil, nwG_succ, nwG_pub, nwG_un, Int.reduceLE, Int.reduceLT, Int.reduceNeg, Int.reduceAdd, Int.reduceSub, Int.reduceMul, Int.reduceMod, Int.reduceToNat, and_self, ↓f_pat, ↓OR_index h flat_nb0 (flat_pds pats)]
  exact OR_index h flat_nb0 (flat_pds pats)
end
end K09


set_option Elab.async false
set_option linter.all false
set_option maxRecDepth 100000
namespace K09
open PySem PySem.Spec L2 Vx
section
variable {a b c w p : Vx.D} {pats : List Pt} {gs : List (Int × Int)} {st : Amb} {Q : R → Amb → Prop} {P : R → Prop} {nb : Nat}
theorem eqv_nils {α : Type} (f : α → Vx.D) (l : List α) : D.eqv (.lst (l.map f)) (.lst []) = l.isEmpty := by cases l <;> rfl
theorem atI_pat {n : Nat} (h : n < pats.length) {P : Vx.D → Prop} : OR (atI (pats.map pd) (n : Int)) P = P (pd (pAt pats n)) := by
  rw [atI_nth _ _ (by simpa using h), List.getElem?_map, List.getElem?_eq_getElem h]
  simp only [Option.map_some, OR_some, pAt, List.getD_eq_getElem?_getD, List.getElem?_eq_getElem h, Option.getD_some]
theorem free_at_mp {n : Nat} (hn : n < pats.length) (q : Q (.val (.bl (fAt pats gs nb n))) st) : MP m_is_free_at [shD a b c pats gs w p, .int (nb : Int), .int (n : Int)] st Q := by
  unfold m_is_free_at b_is_free_at
  simp only [↓EP_C, ↓EP_var, ↓EP_pub, ↓EP_e1, ↓EP_e2, ↓EP_A, ↓AP_nil, ↓AP_cons, ↓EP_tup, ↓EP_lst, ↓EP_call, ↓EP_callK, ↓EP_if, ↓ZP_none, ↓ZP_some, ↓EP_sl, ↓EP_andV, ↓EP_orV, ↓EP_notV, ↓EP_neg, ↓BP_T, ↓BP_and, ↓BP_or, ↓BP_not, ↓BP_yes, ↓IP_seq, ↓IP_tup, ↓IP_enum, ↓IP_rg1, ↓SP_seq, ↓Th_app, ↓SP_nil, ↓SP_pass, ↓SP_break, ↓SP_cont, ↓SP_if, ↓SP_ret, ↓SP_retN, ↓SP_retO, ↓SP_drop, ↓SP_asg, ↓SP_own, ↓SP_app, ↓SP_ext, ↓SP_popA, ↓SP_move, ↓SP_par, ↓MP_mean, ↓EP_lcI, ↓EP_lc2I, ↓SP_forI, ↓FL_nil, ↓FLk_app, ↓LC_nil, ↓wpQ_nil, ↓wpQ_cons, ↓seG_succ, ↓seG_0, ↓EP_dm, ↓EP_fld, ↓EP_new, ↓dmQ_tpc, ↓dmQ_tup, ↓dmQ_lst, ↓dmQ_int, ↓slG_succ, ↓slG_pub, ↓slG_own, ↓stG_succ, ↓stG_0, ↓asgQ_name, ↓asgQ_names, ↓putQ_nil, ↓putQ_cons, ↓putKQ_pub, ↓putKQ_own, ↓ownG_succ, ↓ownG_own, ↓dQ_val, ↓dQ_prv, ↓dQ_bor, ↓dsQ_nil, ↓dsQ_cons, ↓pubQ_val, ↓pubQ_prv, ↓valsQ_nil, ↓valsQ_val, ↓blQ_bl, ↓intQ_int, ↓rtQ_val, ↓rtQ_prv, ↓seqQ_lst, ↓seqQ_frz, ↓seqQ_prv, ↓tupQ_tup, ↓tupQ_tpc, ↓prvQ_prv, ↓twoQ_two, ↓lstQ_lst, ↓add_int, ↓add_tup, ↓add_lst, ↓cI_int, ↓mul_int, ↓mul_tup, ↓ix_tup', ↓ix_lst', ↓len_tup', ↓len_lst', ↓tuple_tup, ↓tuple_lst, ↓list_tup, ↓list_lst, ↓sort_lst, ↓sort_tup, ↓max_int, ↓min_int, ↓int_int, ↓in_tup, ↓in_lst, ↓eq_any, ↓ne_any, ↓rev_lst, ↓sl_tup', ↓sl_lst', ↓rg1_int, ↓OR_at0, ↓OR_at1, ↓OR_sub, ↓OR_lt, ↓OR_le, ↓OR_gt, ↓OR_ge, ↓OR_mod, ↓OR_div, ↓OR_some, ↓OR_none, ↓no2_eq, wipeS, pick, List.length_cons, List.length_nil, List.map_cons, List.map_nil, List.replicate, List.cons_append, List.nil_append, Nat.reduceAdd, Nat.reduceSub, Nat.reduceLT, Nat.reduceLeDiff, Nat.lt_add_one, Nat.zero_lt_succ, Nat.zero_add, Nat.zero_le, true_and, and_true, if_true, if_false, reduceIte, forall_const, implies_true, false_imp_iff, Bool.false_eq_true, Bool.true_eq_false, reduceCtorEq, decide_true, decide_false, decide_eq_true_eq, decide_eq_false_iff_not, Bool.not_true, Bool.not_false, Bool.not_eq_false', Bool.not_eq_true', line_le2, line, noOwn_cons, noOwn_nil, nwG_succ, nwG_pub, nwG_un, Int.reduceLE, Int.reduceLT, Int.reduceNeg, Int.reduceAdd, Int.reduceSub, Int.reduceMul, Int.reduceMod, Int.reduceToNat, and_self]
  refine LC_map rd [((nb : Int), (n : Int)), ((n : Int), (nb : Int)), ((n : Int), (n : Int))] (fun r => !gs.contains r) rd rfl (fun r _ => ?_) ?_
  · simp only [shD, ↓EP_C, ↓EP_var, ↓EP_pub, ↓EP_e1, ↓EP_e2, ↓EP_A, ↓AP_nil, ↓AP_cons, ↓EP_tup, ↓EP_lst, ↓EP_call, ↓EP_callK, ↓EP_if, ↓ZP_none, ↓ZP_some, ↓EP_sl, ↓EP_andV, ↓EP_orV, ↓EP_notV, ↓EP_neg, ↓BP_T, ↓BP_and, ↓BP_or, ↓BP_not, ↓BP_yes, ↓IP_seq, ↓IP_tup, ↓IP_enum, ↓IP_rg1, ↓SP_seq, ↓Th_app, ↓SP_nil, ↓SP_pass, ↓SP_break, ↓SP_cont, ↓SP_if, ↓SP_ret, ↓SP_retN, ↓SP_retO, ↓SP_drop, ↓SP_asg, ↓SP_own, ↓SP_app, ↓SP_ext, ↓SP_popA, ↓SP_move, ↓SP_par, ↓MP_mean, ↓EP_lcI, ↓EP_lc2I, ↓SP_forI, ↓FL_nil, ↓FLk_app, ↓LC_nil, ↓wpQ_nil, ↓wpQ_cons, ↓seG_succ, ↓seG_0, ↓EP_dm, ↓EP_fld, ↓EP_new, ↓dmQ_tpc, ↓dmQ_tup, ↓dmQ_lst, ↓dmQ_int, ↓slG_succ, ↓slG_pub, ↓slG_own, ↓stG_succ, ↓stG_0, ↓asgQ_name, ↓asgQ_names, ↓putQ_nil, ↓putQ_cons, ↓putKQ_pub, ↓putKQ_own, ↓ownG_succ, ↓ownG_own, ↓dQ_val, ↓dQ_prv, ↓dQ_bor, ↓dsQ_nil, ↓dsQ_cons, ↓pubQ_val, ↓pubQ_prv, ↓valsQ_nil, ↓valsQ_val, ↓blQ_bl, ↓intQ_int, ↓rtQ_val, ↓rtQ_prv, ↓seqQ_lst, ↓seqQ_frz, ↓seqQ_prv, ↓tupQ_tup, ↓tupQ_tpc, ↓prvQ_prv, ↓twoQ_two, ↓lstQ_lst, ↓add_int, ↓add_tup, ↓add_lst, ↓cI_int, ↓mul_int, ↓mul_tup, ↓ix_tup', ↓ix_lst', ↓len_tup', ↓len_lst', ↓tuple_tup, ↓tuple_lst, ↓list_tup, ↓list_lst, ↓sort_lst, ↓sort_tup, ↓max_int, ↓min_int, ↓int_int, ↓in_tup, ↓in_lst, ↓eq_any, ↓ne_any, ↓rev_lst, ↓sl_tup', ↓sl_lst', ↓rg1_int, ↓OR_at0, ↓OR_at1, ↓OR_sub, ↓OR_lt, ↓OR_le, ↓OR_gt, ↓OR_ge, ↓OR_mod, ↓OR_div, ↓OR_some, ↓OR_none, ↓no2_eq, wipeS, pick, List.length_cons, List.length_nil, List.map_cons, List.map_nil, List.replicate, List.cons_append, List.nil_append, Nat.reduceAdd, Nat.reduceSub, Nat.reduceLT, Nat.reduceLeDiff, Nat.lt_add_one, Nat.zero_lt_succ, Nat.zero_add, Nat.zero_le, true_and, and_true, if_true, if_false, reduceIte, forall_const, implies_true, false_imp_iff, Bool.false_eq_true, Bool.true_eq_false, reduceCtorEq, decide_true, decide_false, decide_eq_true_eq, decide_eq_false_iff_not, Bool.not_true, Bool.not_false, Bool.not_eq_false', Bool.not_eq_true', line_le2, line, noOwn_cons, noOwn_nil, nwG_succ, nwG_pub, nwG_un, Int.reduceLE, Int.reduceLT, Int.reduceNeg, Int.reduceAdd, Int.reduceSub, Int.reduceMul, Int.reduceMod, Int.reduceToNat, and_self, ↓f_goes, inL_rd, flat_rd, flat_rds, and_self, true_and]
  simp only [↓EP_C, ↓EP_var, ↓EP_pub, ↓EP_e1, ↓EP_e2, ↓EP_A, ↓AP_nil, ↓AP_cons, ↓EP_tup, ↓EP_lst, ↓EP_call, ↓EP_callK, ↓EP_if, ↓ZP_none, ↓ZP_some, ↓EP_sl, ↓EP_andV, ↓EP_orV, ↓EP_notV, ↓EP_neg, ↓BP_T, ↓BP_and, ↓BP_or, ↓BP_not, ↓BP_yes, ↓IP_seq, ↓IP_tup, ↓IP_enum, ↓IP_rg1, ↓SP_seq, ↓Th_app, ↓SP_nil, ↓SP_pass, ↓SP_break, ↓SP_cont, ↓SP_if, ↓SP_ret, ↓SP_retN, ↓SP_retO, ↓SP_drop, ↓SP_asg, ↓SP_own, ↓SP_app, ↓SP_ext, ↓SP_popA, ↓SP_move, ↓SP_par, ↓MP_mean, ↓EP_lcI, ↓EP_lc2I, ↓SP_forI, ↓FL_nil, ↓FLk_app, ↓LC_nil, ↓wpQ_nil, ↓wpQ_cons, ↓seG_succ, ↓seG_0, ↓EP_dm, ↓EP_fld, ↓EP_new, ↓dmQ_tpc, ↓dmQ_tup, ↓dmQ_lst, ↓dmQ_int, ↓slG_succ, ↓slG_pub, ↓slG_own, ↓stG_succ, ↓stG_0, ↓asgQ_name, ↓asgQ_names, ↓putQ_nil, ↓putQ_cons, ↓putKQ_pub, ↓putKQ_own, ↓ownG_succ, ↓ownG_own, ↓dQ_val, ↓dQ_prv, ↓dQ_bor, ↓dsQ_nil, ↓dsQ_cons, ↓pubQ_val, ↓pubQ_prv, ↓valsQ_nil, ↓valsQ_val, ↓blQ_bl, ↓intQ_int, ↓rtQ_val, ↓rtQ_prv, ↓seqQ_lst, ↓seqQ_frz, ↓seqQ_prv, ↓tupQ_tup, ↓tupQ_tpc, ↓prvQ_prv, ↓twoQ_two, ↓lstQ_lst, ↓add_int, ↓add_tup, ↓add_lst, ↓cI_int, ↓mul_int, ↓mul_tup, ↓ix_tup', ↓ix_lst', ↓len_tup', ↓len_lst', ↓tuple_tup, ↓tuple_lst, ↓list_tup, ↓list_lst, ↓sort_lst, ↓sort_tup, ↓max_int, ↓min_int, ↓int_int, ↓in_tup, ↓in_lst, ↓eq_any, ↓ne_any, ↓rev_lst, ↓sl_tup', ↓sl_lst', ↓rg1_int, ↓OR_at0, ↓OR_at1, ↓OR_sub, ↓OR_lt, ↓OR_le, ↓OR_gt, ↓OR_ge, ↓OR_mod, ↓OR_div, ↓OR_some, ↓OR_none, ↓no2_eq, wipeS, pick, List.length_cons, List.length_nil, List.map_cons, List.map_nil, List.replicate, List.cons_append, List.nil_append, Nat.reduceAdd, Nat.reduceSub, Nat.reduceLT, Nat.reduceLeDiff, Nat.lt_add_one, Nat.zero_lt_succ, Nat.zero_add, Nat.zero_le, true_and, and_true, if_true, if_false, reduceIte, forall_const, implies_true, false_imp_iff, Bool.false_eq_true, Bool.true_eq_false, reduceCtorEq, decide_true, decide_false, decide_eq_true_eq, decide_eq_false_iff_not, Bool.not_true, Bool.not_false, Bool.not_eq_false', Bool.not_eq_true', line_le2, line, noOwn_cons, noOwn_nil, nwG_succ, nwG_pub, nwG_un, Int.reduceLE, Int.reduceLT, Int.reduceNeg, Int.reduceAdd, Int.reduceSub, Int.reduceMul, Int.reduceMod, Int.reduceToNat, and_self, eqv_nils, flat_rds, List.length_map]
  have hl : (List.filter (fun r => !gs.contains r) [((nb : Int), (n : Int)), ((n : Int), (nb : Int)), ((n : Int), (n : Int))]).length ≤ 3 := List.length_filter_le _ _
  refine ⟨by omega, rfl, fun hc => ?_, fun hc => ?_⟩
  · have : fAt pats gs nb n = false := by
      unfold fAt
      revert hc
      simp only [List.filter_cons, List.filter_nil]
      generalize gs.contains ((nb : Int), (n : Int)) = x1
      generalize gs.contains ((n : Int), (nb : Int)) = x2
      generalize gs.contains ((n : Int), (n : Int)) = x3
      cases x1 <;> cases x2 <;> cases x3 <;> simp
    rw [this] at q
    exact q
  · have : fAt pats gs nb n = pats.contains ((pAt pats n).1, []) := by
      unfold fAt
      revert hc
      simp only [List.filter_cons, List.filter_nil]
      generalize gs.contains ((nb : Int), (n : Int)) = x1
      generalize gs.contains ((n : Int), (nb : Int)) = x2
      generalize gs.contains ((n : Int), (n : Int)) = x3
      cases x1 <;> cases x2 <;> cases x3 <;> simp
    rw [this] at q
    simp only [shD, ↓EP_C, ↓EP_var, ↓EP_pub, ↓EP_e1, ↓EP_e2, ↓EP_A, ↓AP_nil, ↓AP_cons, ↓EP_tup, ↓EP_lst, ↓EP_call, ↓EP_callK, ↓EP_if, ↓ZP_none, ↓ZP_some, ↓EP_sl, ↓EP_andV, ↓EP_orV, ↓EP_notV, ↓EP_neg, ↓BP_T, ↓BP_and, ↓BP_or, ↓BP_not, ↓BP_yes, ↓IP_seq, ↓IP_tup, ↓IP_enum, ↓IP_rg1, ↓SP_seq, ↓Th_app, ↓SP_nil, ↓SP_pass, ↓SP_break, ↓SP_cont, ↓SP_if, ↓SP_ret, ↓SP_retN, ↓SP_retO, ↓SP_drop, ↓SP_asg, ↓SP_own, ↓SP_app, ↓SP_ext, ↓SP_popA, ↓SP_move, ↓SP_par, ↓MP_mean, ↓EP_lcI, ↓EP_lc2I, ↓SP_forI, ↓FL_nil, ↓FLk_app, ↓LC_nil, ↓wpQ_nil, ↓wpQ_cons, ↓seG_succ, ↓seG_0, ↓EP_dm, ↓EP_fld, ↓EP_new, ↓dmQ_tpc, ↓dmQ_tup, ↓dmQ_lst, ↓dmQ_int, ↓slG_succ, ↓slG_pub, ↓slG_own, ↓stG_succ, ↓stG_0, ↓asgQ_name, ↓asgQ_names, ↓putQ_nil, ↓putQ_cons, ↓putKQ_pub, ↓putKQ_own, ↓ownG_succ, ↓ownG_own, ↓dQ_val, ↓dQ_prv, ↓dQ_bor, ↓dsQ_nil, ↓dsQ_cons, ↓pubQ_val, ↓pubQ_prv, ↓valsQ_nil, ↓valsQ_val, ↓blQ_bl, ↓intQ_int, ↓rtQ_val, ↓rtQ_prv, ↓seqQ_lst, ↓seqQ_frz, ↓seqQ_prv, ↓tupQ_tup, ↓tupQ_tpc, ↓prvQ_prv, ↓twoQ_two, ↓lstQ_lst, ↓add_int, ↓add_tup, ↓add_lst, ↓cI_int, ↓mul_int, ↓mul_tup, ↓ix_tup', ↓ix_lst', ↓len_tup', ↓len_lst', ↓tuple_tup, ↓tuple_lst, ↓list_tup, ↓list_lst, ↓sort_lst, ↓sort_tup, ↓max_int, ↓min_int, ↓int_int, ↓in_tup, ↓in_lst, ↓eq_any, ↓ne_any, ↓rev_lst, ↓sl_tup', ↓sl_lst', ↓rg1_int, ↓OR_at0, ↓OR_at1, ↓OR_sub, ↓OR_lt, ↓OR_le, ↓OR_gt, ↓OR_ge, ↓OR_mod, ↓OR_div, ↓OR_some, ↓OR_none, ↓no2_eq, wipeS, pick, List.length_cons, List.length_nil, List.map_cons, List.map_nil, List.replicate, List.cons_append, List.nil_append, Nat.reduceAdd, Nat.reduceSub, Nat.reduceLT, Nat.reduceLeDiff, Nat.lt_add_one, Nat.zero_lt_succ, Nat.zero_add, Nat.zero_le, true_and, and_true, if_true, if_false, reduceIte, forall_const, implies_true, false_imp_iff, Bool.false_eq_true, Bool.true_eq_false, reduceCtorEq, decide_true, decide_false, decide_eq_true_eq, decide_eq_false_iff_not, Bool.not_true, Bool.not_false, Bool.not_eq_false', Bool.not_eq_true', line_le2, line, noOwn_cons, noOwn_nil, nwG_succ, nwG_pub, nwG_un, Int.reduceLE, Int.reduceLT, Int.reduceNeg, Int.reduceAdd, Int.reduceSub, Int.reduceMul, Int.reduceMod, Int.reduceToNat, and_self, ↓f_pat, ↓atI_pat hn, pd]
    exact ⟨⟨flat_pd ((pAt pats n).1, []), flat_pds pats⟩, by rw [← inL_pd] at q; exact q⟩
theorem free_mp (h : firstIx nbD (pats.map pd) = some nb) (hl : pats.length ≤ 1000) (q : Q (.val (.bl (fAll pats gs nb))) st) : MP m_is_free [shD a b c pats gs w p] st Q := by
  unfold m_is_free b_is_free
  simp only [↓EP_C, ↓EP_var, ↓EP_pub, ↓EP_e1, ↓EP_e2, ↓EP_A, ↓AP_nil, ↓AP_cons, ↓EP_tup, ↓EP_lst, ↓EP_call, ↓EP_callK, ↓EP_if, ↓ZP_none, ↓ZP_some, ↓EP_sl, ↓EP_andV, ↓EP_orV, ↓EP_notV, ↓EP_neg, ↓BP_T, ↓BP_and, ↓BP_or, ↓BP_not, ↓BP_yes, ↓IP_seq, ↓IP_tup, ↓IP_enum, ↓IP_rg1, ↓SP_seq, ↓Th_app, ↓SP_nil, ↓SP_pass, ↓SP_break, ↓SP_cont, ↓SP_if, ↓SP_ret, ↓SP_retN, ↓SP_retO, ↓SP_drop, ↓SP_asg, ↓SP_own, ↓SP_app, ↓SP_ext, ↓SP_popA, ↓SP_move, ↓SP_par, ↓MP_mean, ↓EP_lcI, ↓EP_lc2I, ↓SP_forI, ↓FL_nil, ↓FLk_app, ↓LC_nil, ↓wpQ_nil, ↓wpQ_cons, ↓seG_succ, ↓seG_0, ↓EP_dm, ↓EP_fld, ↓EP_new, ↓dmQ_tpc, ↓dmQ_tup, ↓dmQ_lst, ↓dmQ_int, ↓slG_succ, ↓slG_pub, ↓slG_own, ↓stG_succ, ↓stG_0, ↓asgQ_name, ↓asgQ_names, ↓putQ_nil, ↓putQ_cons, ↓putKQ_pub, ↓putKQ_own, ↓ownG_succ, ↓ownG_own, ↓dQ_val, ↓dQ_prv, ↓dQ_bor, ↓dsQ_nil, ↓dsQ_cons, ↓pubQ_val, ↓pubQ_prv, ↓valsQ_nil, ↓valsQ_val, ↓blQ_bl, ↓intQ_int, ↓rtQ_val, ↓rtQ_prv, ↓seqQ_lst, ↓seqQ_frz, ↓seqQ_prv, ↓tupQ_tup, ↓tupQ_tpc, ↓prvQ_prv, ↓twoQ_two, ↓lstQ_lst, ↓add_int, ↓add_tup, ↓add_lst, ↓cI_int, ↓mul_int, ↓mul_tup, ↓ix_tup', ↓ix_lst', ↓len_tup', ↓len_lst', ↓tuple_tup, ↓tuple_lst, ↓list_tup, ↓list_lst, ↓sort_lst, ↓sort_tup, ↓max_int, ↓min_int, ↓int_int, ↓in_tup, ↓in_lst, ↓eq_any, ↓ne_any, ↓rev_lst, ↓sl_tup', ↓sl_lst', ↓rg1_int, ↓OR_at0, ↓OR_at1, ↓OR_sub, ↓OR_lt, ↓OR_le, ↓OR_gt, ↓OR_ge, ↓OR_mod, ↓OR_div, ↓OR_some, ↓OR_none, ↓no2_eq, wipeS, pick, List.length_cons, List.length_nil, List.map_cons, List.map_nil, List.replicate, List.cons_append, List.nil_append, Nat.reduceAdd, Nat.reduceSub, Nat.reduceLT, Nat.reduceLeDiff, Nat.lt_add_one, Nat.zero_lt_succ, Nat.zero_add, Nat.zero_le, true_and, and_true, if_true, if_false, reduceIte, forall_const, implies_true, false_imp_iff, Bool.false_eq_true, Bool.true_eq_false, reduceCtorEq, decide_true, decide_false, decide_eq_true_eq, decide_eq_false_iff_not, Bool.not_true, Bool.not_false, Bool.not_eq_false', Bool.not_eq_true', line_le2, line, noOwn_cons, noOwn_nil, nwG_succ, nwG_pub, nwG_un, Int.reduceLE, Int.reduceLT, Int.reduceNeg, Int.reduceAdd, Int.reduceSub, Int.reduceMul, Int.reduceMod, Int.reduceToNat, and_self, nobody_mp h]
  simp only [shD, ↓EP_C, ↓EP_var, ↓EP_pub, ↓EP_e1, ↓EP_e2, ↓EP_A, ↓AP_nil, ↓AP_cons, ↓EP_tup, ↓EP_lst, ↓EP_call, ↓EP_callK, ↓EP_if, ↓ZP_none, ↓ZP_some, ↓EP_sl, ↓EP_andV, ↓EP_orV, ↓EP_notV, ↓EP_neg, ↓BP_T, ↓BP_and, ↓BP_or, ↓BP_not, ↓BP_yes, ↓IP_seq, ↓IP_tup, ↓IP_enum, ↓IP_rg1, ↓SP_seq, ↓Th_app, ↓SP_nil, ↓SP_pass, ↓SP_break, ↓SP_cont, ↓SP_if, ↓SP_ret, ↓SP_retN, ↓SP_retO, ↓SP_drop, ↓SP_asg, ↓SP_own, ↓SP_app, ↓SP_ext, ↓SP_popA, ↓SP_move, ↓SP_par, ↓MP_mean, ↓EP_lcI, ↓EP_lc2I, ↓SP_forI, ↓FL_nil, ↓FLk_app, ↓LC_nil, ↓wpQ_nil, ↓wpQ_cons, ↓seG_succ, ↓seG_0, ↓EP_dm, ↓EP_fld, ↓EP_new, ↓dmQ_tpc, ↓dmQ_tup, ↓dmQ_lst, ↓dmQ_int, ↓slG_succ, ↓slG_pub, ↓slG_own, ↓stG_succ, ↓stG_0, ↓asgQ_name, ↓asgQ_names, ↓putQ_nil, ↓putQ_cons, ↓putKQ_pub, ↓putKQ_own, ↓ownG_succ, ↓ownG_own, ↓dQ_val, ↓dQ_prv, ↓dQ_bor, ↓dsQ_nil, ↓dsQ_cons, ↓pubQ_val, ↓pubQ_prv, ↓valsQ_nil, ↓valsQ_val, ↓blQ_bl, ↓intQ_int, ↓rtQ_val, ↓rtQ_prv, ↓seqQ_lst, ↓seqQ_frz, ↓seqQ_prv, ↓tupQ_tup, ↓tupQ_tpc, ↓prvQ_prv, ↓twoQ_two, ↓lstQ_lst, ↓add_int, ↓add_tup, ↓add_lst, ↓cI_int, ↓mul_int, ↓mul_tup, ↓ix_tup', ↓ix_lst', ↓len_tup', ↓len_lst', ↓tuple_tup, ↓tuple_lst, ↓list_tup, ↓list_lst, ↓sort_lst, ↓sort_tup, ↓max_int, ↓min_int, ↓int_int, ↓in_tup, ↓in_lst, ↓eq_any, ↓ne_any, ↓rev_lst, ↓sl_tup', ↓sl_lst', ↓rg1_int, ↓OR_at0, ↓OR_at1, ↓OR_sub, ↓OR_lt, ↓OR_le, ↓OR_gt, ↓OR_ge, ↓OR_mod, ↓OR_div, ↓OR_some, ↓OR_none, ↓no2_eq, wipeS, pick, List.length_cons, List.length_nil, List.map_cons, List.map_nil, List.replicate, List.cons_append, List.nil_append, Nat.reduceAdd, Nat.reduceSub, Nat.reduceLT, Nat.reduceLeDiff, Nat.lt_add_one, Nat.zero_lt_succ, Nat.zero_add, Nat.zero_le, true_and, and_true, if_true, if_false, reduceIte, forall_const, implies_true, false_imp_iff, Bool.false_eq_true, Bool.true_eq_false, reduceCtorEq, decide_true, decide_false, decide_eq_true_eq, decide_eq_false_iff_not, Bool.not_true, Bool.not_false, Bool.not_eq_false', Bool.not_eq_true', line_le2, line, noOwn_cons, noOwn_nil, nwG_succ, nwG_pub, nwG_un, Int.reduceLE, Int.reduceLT, Int.reduceNeg, Int.reduceAdd, Int.reduceSub, Int.reduceMul, Int.reduceMod, Int.reduceToNat, and_self, ↓f_pat]
  refine ⟨by simp; omega, ?_⟩
  rw [List.length_map]
  refine LC_map (fun (i : Nat) => Vx.D.int (i : Int)) (List.range pats.length) (fun i => !fAt pats gs nb i) (fun i => Vx.D.int (i : Int)) (rg_n _) (fun i hi => ?_) ?_
  · simp only [↓EP_C, ↓EP_var, ↓EP_pub, ↓EP_e1, ↓EP_e2, ↓EP_A, ↓AP_nil, ↓AP_cons, ↓EP_tup, ↓EP_lst, ↓EP_call, ↓EP_callK, ↓EP_if, ↓ZP_none, ↓ZP_some, ↓EP_sl, ↓EP_andV, ↓EP_orV, ↓EP_notV, ↓EP_neg, ↓BP_T, ↓BP_and, ↓BP_or, ↓BP_not, ↓BP_yes, ↓IP_seq, ↓IP_tup, ↓IP_enum, ↓IP_rg1, ↓SP_seq, ↓Th_app, ↓SP_nil, ↓SP_pass, ↓SP_break, ↓SP_cont, ↓SP_if, ↓SP_ret, ↓SP_retN, ↓SP_retO, ↓SP_drop, ↓SP_asg, ↓SP_own, ↓SP_app, ↓SP_ext, ↓SP_popA, ↓SP_move, ↓SP_par, ↓MP_mean, ↓EP_lcI, ↓EP_lc2I, ↓SP_forI, ↓FL_nil, ↓FLk_app, ↓LC_nil, ↓wpQ_nil, ↓wpQ_cons, ↓seG_succ, ↓seG_0, ↓EP_dm, ↓EP_fld, ↓EP_new, ↓dmQ_tpc, ↓dmQ_tup, ↓dmQ_lst, ↓dmQ_int, ↓slG_succ, ↓slG_pub, ↓slG_own, ↓stG_succ, ↓stG_0, ↓asgQ_name, ↓asgQ_names, ↓putQ_nil, ↓putQ_cons, ↓putKQ_pub, ↓putKQ_own, ↓ownG_succ, ↓ownG_own, ↓dQ_val, ↓dQ_prv, ↓dQ_bor, ↓dsQ_nil, ↓dsQ_cons, ↓pubQ_val, ↓pubQ_prv, ↓valsQ_nil, ↓valsQ_val, ↓blQ_bl, ↓intQ_int, ↓rtQ_val, ↓rtQ_prv, ↓seqQ_lst, ↓seqQ_frz, ↓seqQ_prv, ↓tupQ_tup, ↓tupQ_tpc, ↓prvQ_prv, ↓twoQ_two, ↓lstQ_lst, ↓add_int, ↓add_tup, ↓add_lst, ↓cI_int, ↓mul_int, ↓mul_tup, ↓ix_tup', ↓ix_lst', ↓len_tup', ↓len_lst', ↓tuple_tup, ↓tuple_lst, ↓list_tup, ↓list_lst, ↓sort_lst, ↓sort_tup, ↓max_int, ↓min_int, ↓int_int, ↓in_tup, ↓in_lst, ↓eq_any, ↓ne_any, ↓rev_lst, ↓sl_tup', ↓sl_lst', ↓rg1_int, ↓OR_at0, ↓OR_at1, ↓OR_sub, ↓OR_lt, ↓OR_le, ↓OR_gt, ↓OR_ge, ↓OR_mod, ↓OR_div, ↓OR_some, ↓OR_none, ↓no2_eq, wipeS, pick, List.length_cons, List.length_nil, List.map_cons, List.map_nil, List.replicate, List.cons_append, List.nil_append, Nat.reduceAdd, Nat.reduceSub, Nat.reduceLT, Nat.reduceLeDiff, Nat.lt_add_one, Nat.zero_lt_succ, Nat.zero_add, Nat.zero_le, true_and, and_true, if_true, if_false, reduceIte, forall_const, implies_true, false_imp_iff, Bool.false_eq_true, Bool.true_eq_false, reduceCtorEq, decide_true, decide_false, decide_eq_true_eq, decide_eq_false_iff_not, Bool.not_true, Bool.not_false, Bool.not_eq_false', Bool.not_eq_true', line_le2, line, noOwn_cons, noOwn_nil, nwG_succ, nwG_pub, nwG_un, Int.reduceLE, Int.reduceLT, Int.reduceNeg, Int.reduceAdd, Int.reduceSub, Int.reduceMul, Int.reduceMod, Int.reduceToNat, and_self]
    exact free_at_mp (List.mem_range.mp hi) (by simp only [↓EP_C, ↓EP_var, ↓EP_pub, ↓EP_e1, ↓EP_e2, ↓EP_A, ↓AP_nil, ↓AP_cons, ↓EP_tup, ↓EP_lst, ↓EP_call, ↓EP_callK, ↓EP_if, ↓ZP_none, ↓ZP_some, ↓EP_sl, ↓EP_andV, ↓EP_orV, ↓EP_notV, ↓EP_neg, ↓BP_T, ↓BP_and, ↓BP_or, ↓BP_not, ↓BP_yes, ↓IP_seq, ↓IP_tup, ↓IP_enum, ↓IP_rg1, ↓SP_seq, ↓Th_app, ↓SP_nil, ↓SP_pass, ↓SP_break, ↓SP_cont, ↓SP_if, ↓SP_ret, ↓SP_retN, ↓SP_retO, ↓SP_drop, ↓SP_asg, ↓SP_own, ↓SP_app, ↓SP_ext, ↓SP_popA, ↓SP_move, ↓SP_par, ↓MP_mean, ↓EP_lcI, ↓EP_lc2I, ↓SP_forI, ↓FL_nil, ↓FLk_app, ↓LC_nil, ↓wpQ_nil, ↓wpQ_cons, ↓seG_succ, ↓seG_0, ↓EP_dm, ↓EP_fld, ↓EP_new, ↓dmQ_tpc, ↓dmQ_tup, ↓dmQ_lst, ↓dmQ_int, ↓slG_succ, ↓slG_pub, ↓slG_own, ↓stG_succ, ↓stG_0, ↓asgQ_name, ↓asgQ_names, ↓putQ_nil, ↓putQ_cons, ↓putKQ_pub, ↓putKQ_own, ↓ownG_succ, ↓ownG_own, ↓dQ_val, ↓dQ_prv, ↓dQ_bor, ↓dsQ_nil, ↓dsQ_cons, ↓pubQ_val, ↓pubQ_prv, ↓valsQ_nil, ↓valsQ_val, ↓blQ_bl, ↓intQ_int, ↓rtQ_val, ↓rtQ_prv, ↓seqQ_lst, ↓seqQ_frz, ↓seqQ_prv, ↓tupQ_tup, ↓tupQ_tpc, ↓prvQ_prv, ↓twoQ_two, ↓lstQ_lst, ↓add_int, ↓add_tup, ↓add_lst, ↓cI_int, ↓mul_int, ↓mul_tup, ↓ix_tup', ↓ix_lst', ↓len_tup', ↓len_lst', ↓tuple_tup, ↓tuple_lst, ↓list_tup, ↓list_lst, ↓sort_lst, ↓sort_tup, ↓max_int, ↓min_int, ↓int_int, ↓in_tup, ↓in_lst, ↓eq_any, ↓ne_any, ↓rev_lst, ↓sl_tup', ↓sl_lst', ↓rg1_int, ↓OR_at0, ↓OR_at1, ↓OR_sub, ↓OR_lt, ↓OR_le, ↓OR_gt, ↓OR_ge, ↓OR_mod, ↓OR_div, ↓OR_some, ↓OR_none, ↓no2_eq, wipeS, pick, List.length_cons, List.length_nil, List.map_cons, List.map_nil, List.replicate, List.cons_append, List.nil_append, Nat.reduceAdd, Nat.reduceSub, Nat.reduceLT, Nat.reduceLeDiff, Nat.lt_add_one, Nat.zero_lt_succ, Nat.zero_add, Nat.zero_le, true_and, and_true, if_true, if_false, reduceIte, forall_const, implies_true, false_imp_iff, Bool.false_eq_true, Bool.true_eq_false, reduceCtorEq, decide_true, decide_false, decide_eq_true_eq, decide_eq_false_iff_not, Bool.not_true, Bool.not_false, Bool.not_eq_false', Bool.not_eq_true', line_le2, line, noOwn_cons, noOwn_nil, nwG_succ, nwG_pub, nwG_un, Int.reduceLE, Int.reduceLT, Int.reduceNeg, Int.reduceAdd, Int.reduceSub, Int.reduceMul, Int.reduceMod, Int.reduceToNat, and_self])
  simp only [↓EP_C, ↓EP_var, ↓EP_pub, ↓EP_e1, ↓EP_e2, ↓EP_A, ↓AP_nil, ↓AP_cons, ↓EP_tup, ↓EP_lst, ↓EP_call, ↓EP_callK, ↓EP_if, ↓ZP_none, ↓ZP_some, ↓EP_sl, ↓EP_andV, ↓EP_orV, ↓EP_notV, ↓EP_neg, ↓BP_T, ↓BP_and, ↓BP_or, ↓BP_not, ↓BP_yes, ↓IP_seq, ↓IP_tup, ↓IP_enum, ↓IP_rg1, ↓SP_seq, ↓Th_app, ↓SP_nil, ↓SP_pass, ↓SP_break, ↓SP_cont, ↓SP_if, ↓SP_ret, ↓SP_retN, ↓SP_retO, ↓SP_drop, ↓SP_asg, ↓SP_own, ↓SP_app, ↓SP_ext, ↓SP_popA, ↓SP_move, ↓SP_par, ↓MP_mean, ↓EP_lcI, ↓EP_lc2I, ↓SP_forI, ↓FL_nil, ↓FLk_app, ↓LC_nil, ↓wpQ_nil, ↓wpQ_cons, ↓seG_succ, ↓seG_0, ↓EP_dm, ↓EP_fld, ↓EP_new, ↓dmQ_tpc, ↓dmQ_tup, ↓dmQ_lst, ↓dmQ_int, ↓slG_succ, ↓slG_pub, ↓slG_own, ↓stG_succ, ↓stG_0, ↓asgQ_name, ↓asgQ_names, ↓putQ_nil, ↓putQ_cons, ↓putKQ_pub, ↓putKQ_own, ↓ownG_succ, ↓ownG_own, ↓dQ_val, ↓dQ_prv, ↓dQ_bor, ↓dsQ_nil, ↓dsQ_cons, ↓pubQ_val, ↓pubQ_prv, ↓valsQ_nil, ↓valsQ_val, ↓blQ_bl, ↓intQ_int, ↓rtQ_val, ↓rtQ_prv, ↓seqQ_lst, ↓seqQ_frz, ↓seqQ_prv, ↓tupQ_tup, ↓tupQ_tpc, ↓prvQ_prv, ↓twoQ_two, ↓lstQ_lst, ↓add_int, ↓add_tup, ↓add_lst, ↓cI_int, ↓mul_int, ↓mul_tup, ↓ix_tup', ↓ix_lst', ↓len_tup', ↓len_lst', ↓tuple_tup, ↓tuple_lst, ↓list_tup, ↓list_lst, ↓sort_lst, ↓sort_tup, ↓max_int, ↓min_int, ↓int_int, ↓in_tup, ↓in_lst, ↓eq_any, ↓ne_any, ↓rev_lst, ↓sl_tup', ↓sl_lst', ↓rg1_int, ↓OR_at0, ↓OR_at1, ↓OR_sub, ↓OR_lt, ↓OR_le, ↓OR_gt, ↓OR_ge, ↓OR_mod, ↓OR_div, ↓OR_some, ↓OR_none, ↓no2_eq, wipeS, pick, List.length_cons, List.length_nil, List.map_cons, List.map_nil, List.replicate, List.cons_append, List.nil_append, Nat.reduceAdd, Nat.reduceSub, Nat.reduceLT, Nat.reduceLeDiff, Nat.lt_add_one, Nat.zero_lt_succ, Nat.zero_add, Nat.zero_le, true_and, and_true, if_true, if_false, reduceIte, forall_const, implies_true, false_imp_iff, Bool.false_eq_true, Bool.true_eq_false, reduceCtorEq, decide_true, decide_false, decide_eq_true_eq, decide_eq_false_iff_not, Bool.not_true, Bool.not_false, Bool.not_eq_false', Bool.not_eq_true', line_le2, line, noOwn_cons, noOwn_nil, nwG_succ, nwG_pub, nwG_un, Int.reduceLE, Int.reduceLT, Int.reduceNeg, Int.reduceAdd, Int.reduceSub, Int.reduceMul, Int.reduceMod, Int.reduceToNat, and_self, List.length_map]
  have hz := List.length_filter_le (fun i => !fAt pats gs nb i) (List.range pats.length)
  rw [List.length_range] at hz
  have hflat : flat64 (.lst (((List.range pats.length).filter fun i => !fAt pats gs nb i).map fun (i : Nat) => Vx.D.int (i : Int))) = true := flat_map (fun (i : Nat) => Vx.D.int (i : Int)) (fun _ => flat64_int _) 0 (by decide) (fun _ => Nat.le_refl _) _
  have he : (((List.range pats.length).filter fun i => !fAt pats gs nb i)).isEmpty = fAll pats gs nb := by
    unfold fAll
    rw [Bool.eq_iff_iff, List.isEmpty_iff, List.filter_eq_nil_iff, List.all_eq_true]
    simp
  refine ⟨by omega, ⟨hflat, rfl⟩, ?_⟩
  rw [eqv_nils, he]
  exact q
theorem lfree_mp (h : firstIx nbD (pats.map pd) = some nb) (hl : pats.length ≤ 1000) (q : Q (.val (.bl (fAll pats gs nb))) st) : MP m__law_is_free [.lst (pats.map pd), .lst (gs.map rd)] st Q := by
  unfold m__law_is_free b__law_is_free
  simp only [↓EP_C, ↓EP_var, ↓EP_pub, ↓EP_e1, ↓EP_e2, ↓EP_A, ↓AP_nil, ↓AP_cons, ↓EP_tup, ↓EP_lst, ↓EP_call, ↓EP_callK, ↓EP_if, ↓ZP_none, ↓ZP_some, ↓EP_sl, ↓EP_andV, ↓EP_orV, ↓EP_notV, ↓EP_neg, ↓BP_T, ↓BP_and, ↓BP_or, ↓BP_not, ↓BP_yes, ↓IP_seq, ↓IP_tup, ↓IP_enum, ↓IP_rg1, ↓SP_seq, ↓Th_app, ↓SP_nil, ↓SP_pass, ↓SP_break, ↓SP_cont, ↓SP_if, ↓SP_ret, ↓SP_retN, ↓SP_retO, ↓SP_drop, ↓SP_asg, ↓SP_own, ↓SP_app, ↓SP_ext, ↓SP_popA, ↓SP_move, ↓SP_par, ↓MP_mean, ↓EP_lcI, ↓EP_lc2I, ↓SP_forI, ↓FL_nil, ↓FLk_app, ↓LC_nil, ↓wpQ_nil, ↓wpQ_cons, ↓seG_succ, ↓seG_0, ↓EP_dm, ↓EP_fld, ↓EP_new, ↓dmQ_tpc, ↓dmQ_tup, ↓dmQ_lst, ↓dmQ_int, ↓slG_succ, ↓slG_pub, ↓slG_own, ↓stG_succ, ↓stG_0, ↓asgQ_name, ↓asgQ_names, ↓putQ_nil, ↓putQ_cons, ↓putKQ_pub, ↓putKQ_own, ↓ownG_succ, ↓ownG_own, ↓dQ_val, ↓dQ_prv, ↓dQ_bor, ↓dsQ_nil, ↓dsQ_cons, ↓pubQ_val, ↓pubQ_prv, ↓valsQ_nil, ↓valsQ_val, ↓blQ_bl, ↓intQ_int, ↓rtQ_val, ↓rtQ_prv, ↓seqQ_lst, ↓seqQ_frz, ↓seqQ_prv, ↓tupQ_tup, ↓tupQ_tpc, ↓prvQ_prv, ↓twoQ_two, ↓lstQ_lst, ↓add_int, ↓add_tup, ↓add_lst, ↓cI_int, ↓mul_int, ↓mul_tup, ↓ix_tup', ↓ix_lst', ↓len_tup', ↓len_lst', ↓tuple_tup, ↓tuple_lst, ↓list_tup, ↓list_lst, ↓sort_lst, ↓sort_tup, ↓max_int, ↓min_int, ↓int_int, ↓in_tup, ↓in_lst, ↓eq_any, ↓ne_any, ↓rev_lst, ↓sl_tup', ↓sl_lst', ↓rg1_int, ↓OR_at0, ↓OR_at1, ↓OR_sub, ↓OR_lt, ↓OR_le, ↓OR_gt, ↓OR_ge, ↓OR_mod, ↓OR_div, ↓OR_some, ↓OR_none, ↓no2_eq, wipeS, pick, List.length_cons, List.length_nil, List.map_cons, List.map_nil, List.replicate, List.cons_append, List.nil_append, Nat.reduceAdd, Nat.reduceSub, Nat.reduceLT, Nat.reduceLeDiff, Nat.lt_add_one, Nat.zero_lt_succ, Nat.zero_add, Nat.zero_le, true_and, and_true, if_true, if_false, reduceIte, forall_const, implies_true, false_imp_iff, Bool.false_eq_true, Bool.true_eq_false, reduceCtorEq, decide_true, decide_false, decide_eq_true_eq, decide_eq_false_iff_not, Bool.not_true, Bool.not_false, Bool.not_eq_false', Bool.not_eq_true', line_le2, line, noOwn_cons, noOwn_nil, nwG_succ, nwG_pub, nwG_un, Int.reduceLE, Int.reduceLT, Int.reduceNeg, Int.reduceAdd, Int.reduceSub, Int.reduceMul, Int.reduceMod, Int.reduceToNat, and_self, ↓OR_indexL (show firstIx (.tup [.tup [], .tup []]) (pats.map pd) = some nb from h) flat_nb0 (flat_pds pats)]
  refine ⟨by simp; omega, ?_⟩
  rw [List.length_map]
  refine FL_for (fun (i : Nat) => Vx.D.int (i : Int)) (List.range pats.length) (fun ds _ s u => ∃ x, s = [.pub (.lst (pats.map pd)), .pub (.lst (gs.map rd)), .pub (.int (nb : Int)), x] ∧ u = st ∧ ∀ i ∈ ds, fAt pats gs nb i = true) (rg_n _) ⟨_, rfl, rfl, fun i hi => (by cases hi)⟩ ?_ ?_
  · rintro ds i rest hx s u ⟨x, rfl, rfl, hd⟩
    have hi : i < pats.length := List.mem_range.mp (by rw [hx]; simp)
    have no : fAt pats gs nb i = false → fAll pats gs nb = false := fun h => by
      unfold fAll
      rw [List.all_eq_false]
      exact ⟨i, List.mem_range.mpr hi, by rw [h]; decide⟩
    simp only [↓EP_C, ↓EP_var, ↓EP_pub, ↓EP_e1, ↓EP_e2, ↓EP_A, ↓AP_nil, ↓AP_cons, ↓EP_tup, ↓EP_lst, ↓EP_call, ↓EP_callK, ↓EP_if, ↓ZP_none, ↓ZP_some, ↓EP_sl, ↓EP_andV, ↓EP_orV, ↓EP_notV, ↓EP_neg, ↓BP_T, ↓BP_and, ↓BP_or, ↓BP_not, ↓BP_yes, ↓IP_seq, ↓IP_tup, ↓IP_enum, ↓IP_rg1, ↓SP_seq, ↓Th_app, ↓SP_nil, ↓SP_pass, ↓SP_break, ↓SP_cont, ↓SP_if, ↓SP_ret, ↓SP_retN, ↓SP_retO, ↓SP_drop, ↓SP_asg, ↓SP_own, ↓SP_app, ↓SP_ext, ↓SP_popA, ↓SP_move, ↓SP_par, ↓MP_mean, ↓EP_lcI, ↓EP_lc2I, ↓SP_forI, ↓FL_nil, ↓FLk_app, ↓LC_nil, ↓wpQ_nil, ↓wpQ_cons, ↓seG_succ, ↓seG_0, ↓EP_dm, ↓EP_fld, ↓EP_new, ↓dmQ_tpc, ↓dmQ_tup, ↓dmQ_lst, ↓dmQ_int, ↓slG_succ, ↓slG_pub, ↓slG_own, ↓stG_succ, ↓stG_0, ↓asgQ_name, ↓asgQ_names, ↓putQ_nil, ↓putQ_cons, ↓putKQ_pub, ↓putKQ_own, ↓ownG_succ, ↓ownG_own, ↓dQ_val, ↓dQ_prv, ↓dQ_bor, ↓dsQ_nil, ↓dsQ_cons, ↓pubQ_val, ↓pubQ_prv, ↓valsQ_nil, ↓valsQ_val, ↓blQ_bl, ↓intQ_int, ↓rtQ_val, ↓rtQ_prv, ↓seqQ_lst, ↓seqQ_frz, ↓seqQ_prv, ↓tupQ_tup, ↓tupQ_tpc, ↓prvQ_prv, ↓twoQ_two, ↓lstQ_lst, ↓add_int, ↓add_tup, ↓add_lst, ↓cI_int, ↓mul_int, ↓mul_tup, ↓ix_tup', ↓ix_lst', ↓len_tup', ↓len_lst', ↓tuple_tup, ↓tuple_lst, ↓list_tup, ↓list_lst, ↓sort_lst, ↓sort_tup, ↓max_int, ↓min_int, ↓int_int, ↓in_tup, ↓in_lst, ↓eq_any, ↓ne_any, ↓rev_lst, ↓sl_tup', ↓sl_lst', ↓rg1_int, ↓OR_at0, ↓OR_at1, ↓OR_sub, ↓OR_lt, ↓OR_le, ↓OR_gt, ↓OR_ge, ↓OR_mod, ↓OR_div, ↓OR_some, ↓OR_none, ↓no2_eq, wipeS, pick, List.length_cons, List.length_nil, List.map_cons, List.map_nil, List.replicate, List.cons_append, List.nil_append, Nat.reduceAdd, Nat.reduceSub, Nat.reduceLT, Nat.reduceLeDiff, Nat.lt_add_one, Nat.zero_lt_succ, Nat.zero_add, Nat.zero_le, true_and, and_true, if_true, if_false, reduceIte, forall_const, implies_true, false_imp_iff, Bool.false_eq_true, Bool.true_eq_false, reduceCtorEq, decide_true, decide_false, decide_eq_true_eq, decide_eq_false_iff_not, Bool.not_true, Bool.not_false, Bool.not_eq_false', Bool.not_eq_true', line_le2, line, noOwn_cons, noOwn_nil, nwG_succ, nwG_pub, nwG_un, Int.reduceLE, Int.reduceLT, Int.reduceNeg, Int.reduceAdd, Int.reduceSub, Int.reduceMul, Int.reduceMod, Int.reduceToNat, and_self, show ∀ (i j : Int), (Vx.D.tup [.int i, .int j]) = rd (i, j) from fun _ _ => rfl, inL_rd, flat_rd, flat_rds, ↓atI_pat hi]
    simp only [pd, ↓EP_C, ↓EP_var, ↓EP_pub, ↓EP_e1, ↓EP_e2, ↓EP_A, ↓AP_nil, ↓AP_cons, ↓EP_tup, ↓EP_lst, ↓EP_call, ↓EP_callK, ↓EP_if, ↓ZP_none, ↓ZP_some, ↓EP_sl, ↓EP_andV, ↓EP_orV, ↓EP_notV, ↓EP_neg, ↓BP_T, ↓BP_and, ↓BP_or, ↓BP_not, ↓BP_yes, ↓IP_seq, ↓IP_tup, ↓IP_enum, ↓IP_rg1, ↓SP_seq, ↓Th_app, ↓SP_nil, ↓SP_pass, ↓SP_break, ↓SP_cont, ↓SP_if, ↓SP_ret, ↓SP_retN, ↓SP_retO, ↓SP_drop, ↓SP_asg, ↓SP_own, ↓SP_app, ↓SP_ext, ↓SP_popA, ↓SP_move, ↓SP_par, ↓MP_mean, ↓EP_lcI, ↓EP_lc2I, ↓SP_forI, ↓FL_nil, ↓FLk_app, ↓LC_nil, ↓wpQ_nil, ↓wpQ_cons, ↓seG_succ, ↓seG_0, ↓EP_dm, ↓EP_fld, ↓EP_new, ↓dmQ_tpc, ↓dmQ_tup, ↓dmQ_lst, ↓dmQ_int, ↓slG_succ, ↓slG_pub, ↓slG_own, ↓stG_succ, ↓stG_0, ↓asgQ_name, ↓asgQ_names, ↓putQ_nil, ↓putQ_cons, ↓putKQ_pub, ↓putKQ_own, ↓ownG_succ, ↓ownG_own, ↓dQ_val, ↓dQ_prv, ↓dQ_bor, ↓dsQ_nil, ↓dsQ_cons, ↓pubQ_val, ↓pubQ_prv, ↓valsQ_nil, ↓valsQ_val, ↓blQ_bl, ↓intQ_int, ↓rtQ_val, ↓rtQ_prv, ↓seqQ_lst, ↓seqQ_frz, ↓seqQ_prv, ↓tupQ_tup, ↓tupQ_tpc, ↓prvQ_prv, ↓twoQ_two, ↓lstQ_lst, ↓add_int, ↓add_tup, ↓add_lst, ↓cI_int, ↓mul_int, ↓mul_tup, ↓ix_tup', ↓ix_lst', ↓len_tup', ↓len_lst', ↓tuple_tup, ↓tuple_lst, ↓list_tup, ↓list_lst, ↓sort_lst, ↓sort_tup, ↓max_int, ↓min_int, ↓int_int, ↓in_tup, ↓in_lst, ↓eq_any, ↓ne_any, ↓rev_lst, ↓sl_tup', ↓sl_lst', ↓rg1_int, ↓OR_at0, ↓OR_at1, ↓OR_sub, ↓OR_lt, ↓OR_le, ↓OR_gt, ↓OR_ge, ↓OR_mod, ↓OR_div, ↓OR_some, ↓OR_none, ↓no2_eq, wipeS, pick, List.length_cons, List.length_nil, List.map_cons, List.map_nil, List.replicate, List.cons_append, List.nil_append, Nat.reduceAdd, Nat.reduceSub, Nat.reduceLT, Nat.reduceLeDiff, Nat.lt_add_one, Nat.zero_lt_succ, Nat.zero_add, Nat.zero_le, true_and, and_true, if_true, if_false, reduceIte, forall_const, implies_true, false_imp_iff, Bool.false_eq_true, Bool.true_eq_false, reduceCtorEq, decide_true, decide_false, decide_eq_true_eq, decide_eq_false_iff_not, Bool.not_true, Bool.not_false, Bool.not_eq_false', Bool.not_eq_true', line_le2, line, noOwn_cons, noOwn_nil, nwG_succ, nwG_pub, nwG_un, Int.reduceLE, Int.reduceLT, Int.reduceNeg, Int.reduceAdd, Int.reduceSub, Int.reduceMul, Int.reduceMod, Int.reduceToNat, and_self, show ∀ (q : List Int), (Vx.D.tup [.tup (il q), .tup []]) = pd (q, []) from fun _ => rfl, inL_pd, flat_pd, flat_pds]
    have k : fAt pats gs nb i = (gs.contains ((nb : Int), (i : Int)) && gs.contains ((i : Int), (nb : Int)) && gs.contains ((i : Int), (i : Int)) && pats.contains ((pAt pats i).1, [])) := rfl
    have hin : inL (Vx.D.tup [.tup (il (pAt pats i).1), .tup (il [])]) (pats.map pd) = pats.contains ((pAt pats i).1, []) := inL_pd ((pAt pats i).1, []) pats
    rw [hin]
    have fin : fAt pats gs nb i = false → Q (.val (.bl false)) u := fun h => by rw [no h] at q; exact q
    refine ⟨fun h1 => ⟨fun h2 => ⟨fun h3 => fin ?_, fun h3 => ⟨flat_pd ((pAt pats i).1, []), fun h4 => fin ?_, fun h4 => ⟨_, rfl, ?_⟩⟩⟩, fun h2 => fin ?_⟩, fun h1 => fin ?_⟩
    · rw [k, h1, h2, h3]; rfl
    · rw [k, h1, h2, h3, h4]; rfl
    · intro m hm
      rcases List.mem_append.mp hm with hm | hm
      · exact hd m hm
      · rw [List.mem_singleton.mp hm, k, h1, h2, h3, h4]; rfl
    · rw [k, h1, h2]; rfl
    · rw [k, h1]; rfl
  · rintro s u ⟨x, rfl, rfl, hd⟩
    simp only [↓EP_C, ↓EP_var, ↓EP_pub, ↓EP_e1, ↓EP_e2, ↓EP_A, ↓AP_nil, ↓AP_cons, ↓EP_tup, ↓EP_lst, ↓EP_call, ↓EP_callK, ↓EP_if, ↓ZP_none, ↓ZP_some, ↓EP_sl, ↓EP_andV, ↓EP_orV, ↓EP_notV, ↓EP_neg, ↓BP_T, ↓BP_and, ↓BP_or, ↓BP_not, ↓BP_yes, ↓IP_seq, ↓IP_tup, ↓IP_enum, ↓IP_rg1, ↓SP_seq, ↓Th_app, ↓SP_nil, ↓SP_pass, ↓SP_break, ↓SP_cont, ↓SP_if, ↓SP_ret, ↓SP_retN, ↓SP_retO, ↓SP_drop, ↓SP_asg, ↓SP_own, ↓SP_app, ↓SP_ext, ↓SP_popA, ↓SP_move, ↓SP_par, ↓MP_mean, ↓EP_lcI, ↓EP_lc2I, ↓SP_forI, ↓FL_nil, ↓FLk_app, ↓LC_nil, ↓wpQ_nil, ↓wpQ_cons, ↓seG_succ, ↓seG_0, ↓EP_dm, ↓EP_fld, ↓EP_new, ↓dmQ_tpc, ↓dmQ_tup, ↓dmQ_lst, ↓dmQ_int, ↓slG_succ, ↓slG_pub, ↓slG_own, ↓stG_succ, ↓stG_0, ↓asgQ_name, ↓asgQ_names, ↓putQ_nil, ↓putQ_cons, ↓putKQ_pub, ↓putKQ_own, ↓ownG_succ, ↓ownG_own, ↓dQ_val, ↓dQ_prv, ↓dQ_bor, ↓dsQ_nil, ↓dsQ_cons, ↓pubQ_val, ↓pubQ_prv, ↓valsQ_nil, ↓valsQ_val, ↓blQ_bl, ↓intQ_int, ↓rtQ_val, ↓rtQ_prv, ↓seqQ_lst, ↓seqQ_frz, ↓seqQ_prv, ↓tupQ_tup, ↓tupQ_tpc, ↓prvQ_prv, ↓twoQ_two, ↓lstQ_lst, ↓add_int, ↓add_tup, ↓add_lst, ↓cI_int, ↓mul_int, ↓mul_tup, ↓ix_tup', ↓ix_lst', ↓len_tup', ↓len_lst', ↓tuple_tup, ↓tuple_lst, ↓list_tup, ↓list_lst, ↓sort_lst, ↓sort_tup, ↓max_int, ↓min_int, ↓int_int, ↓in_tup, ↓in_lst, ↓eq_any, ↓ne_any, ↓rev_lst, ↓sl_tup', ↓sl_lst', ↓rg1_int, ↓OR_at0, ↓OR_at1, ↓OR_sub, ↓OR_lt, ↓OR_le, ↓OR_gt, ↓OR_ge, ↓OR_mod, ↓OR_div, ↓OR_some, ↓OR_none, ↓no2_eq, wipeS, pick, List.length_cons, List.length_nil, List.map_cons, List.map_nil, List.replicate, List.cons_append, List.nil_append, Nat.reduceAdd, Nat.reduceSub, Nat.reduceLT, Nat.reduceLeDiff, Nat.lt_add_one, Nat.zero_lt_succ, Nat.zero_add, Nat.zero_le, true_and, and_true, if_true, if_false, reduceIte, forall_const, implies_true, false_imp_iff, Bool.false_eq_true, Bool.true_eq_false, reduceCtorEq, decide_true, decide_false, decide_eq_true_eq, decide_eq_false_iff_not, Bool.not_true, Bool.not_false, Bool.not_eq_false', Bool.not_eq_true', line_le2, line, noOwn_cons, noOwn_nil, nwG_succ, nwG_pub, nwG_un, Int.reduceLE, Int.reduceLT, Int.reduceNeg, Int.reduceAdd, Int.reduceSub, Int.reduceMul, Int.reduceMod, Int.reduceToNat, and_self]
    have : fAll pats gs nb = true := List.all_eq_true.mpr hd
    rw [this] at q
    exact q
end
end K09


set_option Elab.async false
set_option linter.all false
set_option maxRecDepth 100000
namespace K09
open PySem PySem.Spec L2 Vx
section
variable {st : Amb} {Q : R → Amb → Prop} {P : R → Prop}
theorem closed_mp {ps : List Pt} (hl : ps.length ≤ 20) (hs : ∀ p ∈ ps, short p) (h0 : ([], []) ∈ ps)
    (q : ∀ qs : List Pt, qs.length ≤ 40 → (∀ p ∈ qs, short p) → ([], []) ∈ qs → qs.length ≤ 2 * ps.length → Q (.prv (qs.map pd)) st) : MP m__law_closed [.lst (ps.map pd)] st Q := by
  unfold m__law_closed b__law_closed
  simp only [↓EP_C, ↓EP_var, ↓EP_pub, ↓EP_e1, ↓EP_e2, ↓EP_A, ↓AP_nil, ↓AP_cons, ↓EP_tup, ↓EP_lst, ↓EP_call, ↓EP_callK, ↓EP_if, ↓ZP_none, ↓ZP_some, ↓EP_sl, ↓EP_andV, ↓EP_orV, ↓EP_notV, ↓EP_neg, ↓BP_T, ↓BP_and, ↓BP_or, ↓BP_not, ↓BP_yes, ↓IP_seq, ↓IP_tup, ↓IP_enum, ↓IP_rg1, ↓SP_seq, ↓Th_app, ↓SP_nil, ↓SP_pass, ↓SP_break, ↓SP_cont, ↓SP_if, ↓SP_ret, ↓SP_retN, ↓SP_retO, ↓SP_drop, ↓SP_asg, ↓SP_own, ↓SP_app, ↓SP_ext, ↓SP_popA, ↓SP_move, ↓SP_par, ↓MP_mean, ↓EP_lcI, ↓EP_lc2I, ↓SP_forI, ↓FL_nil, ↓FLk_app, ↓LC_nil, ↓wpQ_nil, ↓wpQ_cons, ↓seG_succ, ↓seG_0, ↓EP_dm, ↓EP_fld, ↓EP_new, ↓dmQ_tpc, ↓dmQ_tup, ↓dmQ_lst, ↓dmQ_int, ↓slG_succ, ↓slG_pub, ↓slG_own, ↓stG_succ, ↓stG_0, ↓asgQ_name, ↓asgQ_names, ↓putQ_nil, ↓putQ_cons, ↓putKQ_pub, ↓putKQ_own, ↓ownG_succ, ↓ownG_own, ↓dQ_val, ↓dQ_prv, ↓dQ_bor, ↓dsQ_nil, ↓dsQ_cons, ↓pubQ_val, ↓pubQ_prv, ↓valsQ_nil, ↓valsQ_val, ↓blQ_bl, ↓intQ_int, ↓rtQ_val, ↓rtQ_prv, ↓seqQ_lst, ↓seqQ_frz, ↓seqQ_prv, ↓tupQ_tup, ↓tupQ_tpc, ↓prvQ_prv, ↓twoQ_two, ↓lstQ_lst, ↓add_int, ↓add_tup, ↓add_lst, ↓cI_int, ↓mul_int, ↓mul_tup, ↓ix_tup', ↓ix_lst', ↓len_tup', ↓len_lst', ↓tuple_tup, ↓tuple_lst, ↓list_tup, ↓list_lst, ↓sort_lst, ↓sort_tup, ↓max_int, ↓min_int, ↓int_int, ↓in_tup, ↓in_lst, ↓eq_any, ↓ne_any, ↓rev_lst, ↓sl_tup', ↓sl_lst', ↓rg1_int, ↓OR_at0, ↓OR_at1, ↓OR_sub, ↓OR_lt, ↓OR_le, ↓OR_gt, ↓OR_ge, ↓OR_mod, ↓OR_div, ↓OR_some, ↓OR_none, ↓no2_eq, wipeS, pick, List.length_cons, List.length_nil, List.map_cons, List.map_nil, List.replicate, List.cons_append, List.nil_append, Nat.reduceAdd, Nat.reduceSub, Nat.reduceLT, Nat.reduceLeDiff, Nat.lt_add_one, Nat.zero_lt_succ, Nat.zero_add, Nat.zero_le, true_and, and_true, if_true, if_false, reduceIte, forall_const, implies_true, false_imp_iff, Bool.false_eq_true, Bool.true_eq_false, reduceCtorEq, decide_true, decide_false, decide_eq_true_eq, decide_eq_false_iff_not, Bool.not_true, Bool.not_false, Bool.not_eq_false', Bool.not_eq_true', line_le2, line, noOwn_cons, noOwn_nil, nwG_succ, nwG_pub, nwG_un, Int.reduceLE, Int.reduceLT, Int.reduceNeg, Int.reduceAdd, Int.reduceSub, Int.reduceMul, Int.reduceMod, Int.reduceToNat, and_self]
  refine LC_all pd ps (fun p => pd (p.1, [])) rfl (fun p _ => by simp only [pd, ↓EP_C, ↓EP_var, ↓EP_pub, ↓EP_e1, ↓EP_e2, ↓EP_A, ↓AP_nil, ↓AP_cons, ↓EP_tup, ↓EP_lst, ↓EP_call, ↓EP_callK, ↓EP_if, ↓ZP_none, ↓ZP_some, ↓EP_sl, ↓EP_andV, ↓EP_orV, ↓EP_notV, ↓EP_neg, ↓BP_T, ↓BP_and, ↓BP_or, ↓BP_not, ↓BP_yes, ↓IP_seq, ↓IP_tup, ↓IP_enum, ↓IP_rg1, ↓SP_seq, ↓Th_app, ↓SP_nil, ↓SP_pass, ↓SP_break, ↓SP_cont, ↓SP_if, ↓SP_ret, ↓SP_retN, ↓SP_retO, ↓SP_drop, ↓SP_asg, ↓SP_own, ↓SP_app, ↓SP_ext, ↓SP_popA, ↓SP_move, ↓SP_par, ↓MP_mean, ↓EP_lcI, ↓EP_lc2I, ↓SP_forI, ↓FL_nil, ↓FLk_app, ↓LC_nil, ↓wpQ_nil, ↓wpQ_cons, ↓seG_succ, ↓seG_0, ↓EP_dm, ↓EP_fld, ↓EP_new, ↓dmQ_tpc, ↓dmQ_tup, ↓dmQ_lst, ↓dmQ_int, ↓slG_succ, ↓slG_pub, ↓slG_own, ↓stG_succ, ↓stG_0, ↓asgQ_name, ↓asgQ_names, ↓putQ_nil, ↓putQ_cons, ↓putKQ_pub, ↓putKQ_own, ↓ownG_succ, ↓ownG_own, ↓dQ_val, ↓dQ_prv, ↓dQ_bor, ↓dsQ_nil, ↓dsQ_cons, ↓pubQ_val, ↓pubQ_prv, ↓valsQ_nil, ↓valsQ_val, ↓blQ_bl, ↓intQ_int, ↓rtQ_val, ↓rtQ_prv, ↓seqQ_lst, ↓seqQ_frz, ↓seqQ_prv, ↓tupQ_tup, ↓tupQ_tpc, ↓prvQ_prv, ↓twoQ_two, ↓lstQ_lst, ↓add_int, ↓add_tup, ↓add_lst, ↓cI_int, ↓mul_int, ↓mul_tup, ↓ix_tup', ↓ix_lst', ↓len_tup', ↓len_lst', ↓tuple_tup, ↓tuple_lst, ↓list_tup, ↓list_lst, ↓sort_lst, ↓sort_tup, ↓max_int, ↓min_int, ↓int_int, ↓in_tup, ↓in_lst, ↓eq_any, ↓ne_any, ↓rev_lst, ↓sl_tup', ↓sl_lst', ↓rg1_int, ↓OR_at0, ↓OR_at1, ↓OR_sub, ↓OR_lt, ↓OR_le, ↓OR_gt, ↓OR_ge, ↓OR_mod, ↓OR_div, ↓OR_some, ↓OR_none, ↓no2_eq, wipeS, pick, List.length_cons, List.length_nil, List.map_cons, List.map_nil, List.replicate, List.cons_append, List.nil_append, Nat.reduceAdd, Nat.reduceSub, Nat.reduceLT, Nat.reduceLeDiff, Nat.lt_add_one, Nat.zero_lt_succ, Nat.zero_add, Nat.zero_le, true_and, and_true, if_true, if_false, reduceIte, forall_const, implies_true, false_imp_iff, Bool.false_eq_true, Bool.true_eq_false, reduceCtorEq, decide_true, decide_false, decide_eq_true_eq, decide_eq_false_iff_not, Bool.not_true, Bool.not_false, Bool.not_eq_false', Bool.not_eq_true', line_le2, line, noOwn_cons, noOwn_nil, nwG_succ, nwG_pub, nwG_un, Int.reduceLE, Int.reduceLT, Int.reduceNeg, Int.reduceAdd, Int.reduceSub, Int.reduceMul, Int.reduceMod, Int.reduceToNat, and_self]; rfl) ?_
  obtain ⟨qs, c1, _, c3, c4, c5⟩ := set_pd (ps ++ ps.map fun p => (p.1, [])) (by simp; omega)
  rw [List.map_append, List.map_map] at c1
  rw [show (ps.map fun p => pd (p.1, [])) = ps.map (pd ∘ fun p => (p.1, [])) from rfl, OR_eq (c1 _)]
  simp only [List.length_append, List.length_map] at c5
  refine ⟨by simp; omega, by simp; omega, q qs (by omega) (fun p hp => ?_) (pd_mem (c4 _ (List.mem_append_left _ h0))) (by omega)⟩
  rcases List.mem_append.mp (c3 p hp) with hp | hp
  · exact hs p hp
  · obtain ⟨p', hp', rfl⟩ := List.mem_map.mp hp
    have := hs p' hp'
    unfold short at this ⊢
    simp
    omega
theorem of_pats_mp {pats : List Pt} {gs : List (Int × Int)} {m : Nat} (m2 : 2 ≤ m) (m5 : m ≤ 5) (g : Vx.D) (hg : g = .lst (gs.map rd) ∨ g = .tup (gs.map rd)) (q : ∀ a b c w p, Q (.val (shD a b c pats gs w p)) st) : MP m__law_of_patterns [.lst (pats.map pd), g, .int (m : Int)] st Q := by
  unfold m__law_of_patterns b__law_of_patterns
  have r1 := rgOk_nat m (by omega)
  have m2' : (2 : Int) ≤ m := by omega
  have m3' : (m : Int) ≤ 1000 := by omega
  rcases hg with rfl | rfl
  · simp only [↓EP_C, ↓EP_var, ↓EP_pub, ↓EP_e1, ↓EP_e2, ↓EP_A, ↓AP_nil, ↓AP_cons, ↓EP_tup, ↓EP_lst, ↓EP_call, ↓EP_callK, ↓EP_if, ↓ZP_none, ↓ZP_some, ↓EP_sl, ↓EP_andV, ↓EP_orV, ↓EP_notV, ↓EP_neg, ↓BP_T, ↓BP_and, ↓BP_or, ↓BP_not, ↓BP_yes, ↓IP_seq, ↓IP_tup, ↓IP_enum, ↓IP_rg1, ↓SP_seq, ↓Th_app, ↓SP_nil, ↓SP_pass, ↓SP_break, ↓SP_cont, ↓SP_if, ↓SP_ret, ↓SP_retN, ↓SP_retO, ↓SP_drop, ↓SP_asg, ↓SP_own, ↓SP_app, ↓SP_ext, ↓SP_popA, ↓SP_move, ↓SP_par, ↓MP_mean, ↓EP_lcI, ↓EP_lc2I, ↓SP_forI, ↓FL_nil, ↓FLk_app, ↓LC_nil, ↓wpQ_nil, ↓wpQ_cons, ↓seG_succ, ↓seG_0, ↓EP_dm, ↓EP_fld, ↓EP_new, ↓dmQ_tpc, ↓dmQ_tup, ↓dmQ_lst, ↓dmQ_int, ↓slG_succ, ↓slG_pub, ↓slG_own, ↓stG_succ, ↓stG_0, ↓asgQ_name, ↓asgQ_names, ↓putQ_nil, ↓putQ_cons, ↓putKQ_pub, ↓putKQ_own, ↓ownG_succ, ↓ownG_own, ↓dQ_val, ↓dQ_prv, ↓dQ_bor, ↓dsQ_nil, ↓dsQ_cons, ↓pubQ_val, ↓pubQ_prv, ↓valsQ_nil, ↓valsQ_val, ↓blQ_bl, ↓intQ_int, ↓rtQ_val, ↓rtQ_prv, ↓seqQ_lst, ↓seqQ_frz, ↓seqQ_prv, ↓tupQ_tup, ↓tupQ_tpc, ↓prvQ_prv, ↓twoQ_two, ↓lstQ_lst, ↓add_int, ↓add_tup, ↓add_lst, ↓cI_int, ↓mul_int, ↓mul_tup, ↓ix_tup', ↓ix_lst', ↓len_tup', ↓len_lst', ↓tuple_tup, ↓tuple_lst, ↓list_tup, ↓list_lst, ↓sort_lst, ↓sort_tup, ↓max_int, ↓min_int, ↓int_int, ↓in_tup, ↓in_lst, ↓eq_any, ↓ne_any, ↓rev_lst, ↓sl_tup', ↓sl_lst', ↓rg1_int, ↓OR_at0, ↓OR_at1, ↓OR_sub, ↓OR_lt, ↓OR_le, ↓OR_gt, ↓OR_ge, ↓OR_mod, ↓OR_div, ↓OR_some, ↓OR_none, ↓no2_eq, wipeS, pick, List.length_cons, List.length_nil, List.map_cons, List.map_nil, List.replicate, List.cons_append, List.nil_append, Nat.reduceAdd, Nat.reduceSub, Nat.reduceLT, Nat.reduceLeDiff, Nat.lt_add_one, Nat.zero_lt_succ, Nat.zero_add, Nat.zero_le, true_and, and_true, if_true, if_false, reduceIte, forall_const, implies_true, false_imp_iff, Bool.false_eq_true, Bool.true_eq_false, reduceCtorEq, decide_true, decide_false, decide_eq_true_eq, decide_eq_false_iff_not, Bool.not_true, Bool.not_false, Bool.not_eq_false', Bool.not_eq_true', line_le2, line, noOwn_cons, noOwn_nil, nwG_succ, nwG_pub, nwG_un, Int.reduceLE, Int.reduceLT, Int.reduceNeg, Int.reduceAdd, Int.reduceSub, Int.reduceMul, Int.reduceMod, Int.reduceToNat, and_self, ↓tupleC_lst, r1, m2', m3', ne_eq, List.cons_ne_nil, not_false_eq_true]
    exact q _ _ _ _ _
  · simp only [↓EP_C, ↓EP_var, ↓EP_pub, ↓EP_e1, ↓EP_e2, ↓EP_A, ↓AP_nil, ↓AP_cons, ↓EP_tup, ↓EP_lst, ↓EP_call, ↓EP_callK, ↓EP_if, ↓ZP_none, ↓ZP_some, ↓EP_sl, ↓EP_andV, ↓EP_orV, ↓EP_notV, ↓EP_neg, ↓BP_T, ↓BP_and, ↓BP_or, ↓BP_not, ↓BP_yes, ↓IP_seq, ↓IP_tup, ↓IP_enum, ↓IP_rg1, ↓SP_seq, ↓Th_app, ↓SP_nil, ↓SP_pass, ↓SP_break, ↓SP_cont, ↓SP_if, ↓SP_ret, ↓SP_retN, ↓SP_retO, ↓SP_drop, ↓SP_asg, ↓SP_own, ↓SP_app, ↓SP_ext, ↓SP_popA, ↓SP_move, ↓SP_par, ↓MP_mean, ↓EP_lcI, ↓EP_lc2I, ↓SP_forI, ↓FL_nil, ↓FLk_app, ↓LC_nil, ↓wpQ_nil, ↓wpQ_cons, ↓seG_succ, ↓seG_0, ↓EP_dm, ↓EP_fld, ↓EP_new, ↓dmQ_tpc, ↓dmQ_tup, ↓dmQ_lst, ↓dmQ_int, ↓slG_succ, ↓slG_pub, ↓slG_own, ↓stG_succ, ↓stG_0, ↓asgQ_name, ↓asgQ_names, ↓putQ_nil, ↓putQ_cons, ↓putKQ_pub, ↓putKQ_own, ↓ownG_succ, ↓ownG_own, ↓dQ_val, ↓dQ_prv, ↓dQ_bor, ↓dsQ_nil, ↓dsQ_cons, ↓pubQ_val, ↓pubQ_prv, ↓valsQ_nil, ↓valsQ_val, ↓blQ_bl, ↓intQ_int, ↓rtQ_val, ↓rtQ_prv, ↓seqQ_lst, ↓seqQ_frz, ↓seqQ_prv, ↓tupQ_tup, ↓tupQ_tpc, ↓prvQ_prv, ↓twoQ_two, ↓lstQ_lst, ↓add_int, ↓add_tup, ↓add_lst, ↓cI_int, ↓mul_int, ↓mul_tup, ↓ix_tup', ↓ix_lst', ↓len_tup', ↓len_lst', ↓tuple_tup, ↓tuple_lst, ↓list_tup, ↓list_lst, ↓sort_lst, ↓sort_tup, ↓max_int, ↓min_int, ↓int_int, ↓in_tup, ↓in_lst, ↓eq_any, ↓ne_any, ↓rev_lst, ↓sl_tup', ↓sl_lst', ↓rg1_int, ↓OR_at0, ↓OR_at1, ↓OR_sub, ↓OR_lt, ↓OR_le, ↓OR_gt, ↓OR_ge, ↓OR_mod, ↓OR_div, ↓OR_some, ↓OR_none, ↓no2_eq, wipeS, pick, List.length_cons, List.length_nil, List.map_cons, List.map_nil, List.replicate, List.cons_append, List.nil_append, Nat.reduceAdd, Nat.reduceSub, Nat.reduceLT, Nat.reduceLeDiff, Nat.lt_add_one, Nat.zero_lt_succ, Nat.zero_add, Nat.zero_le, true_and, and_true, if_true, if_false, reduceIte, forall_const, implies_true, false_imp_iff, Bool.false_eq_true, Bool.true_eq_false, reduceCtorEq, decide_true, decide_false, decide_eq_true_eq, decide_eq_false_iff_not, Bool.not_true, Bool.not_false, Bool.not_eq_false', Bool.not_eq_true', line_le2, line, noOwn_cons, noOwn_nil, nwG_succ, nwG_pub, nwG_un, Int.reduceLE, Int.reduceLT, Int.reduceNeg, Int.reduceAdd, Int.reduceSub, Int.reduceMul, Int.reduceMod, Int.reduceToNat, and_self, ↓tupleC_lst, r1, m2', m3', ne_eq, List.cons_ne_nil, not_false_eq_true]
    exact q _ _ _ _ _
theorem allp_rd (n : Nat) : allp n = ((List.range n).flatMap fun (i : Nat) => (List.range n).map fun (j : Nat) => ((i : Int), (j : Int))).map rd := by
  unfold allp rowp
  rw [List.map_flatMap]
  congr 1
  funext i
  rw [List.map_map]
  rfl
theorem allp_ln (n : Nat) : (allp n).length = n * n := allp_to n n (Nat.le_refl _)
theorem drawn_goes_mp {n : Nat} (n0 : 0 < n) (hn : n ≤ 20) (D : DealAt st []) (q : ∀ (gs : List (Int × Int)) (u : Amb), gs.length ≤ 1000 → DealAt u [] → Q (.val (.lst (gs.map rd))) u ∧ Q (.prv (gs.map rd)) u) : MP m__law_drawn_goes [.loc 1, .int (n : Int)] st Q := by
  unfold m__law_drawn_goes b__law_drawn_goes
  simp only [↓EP_C, ↓EP_var, ↓EP_pub, ↓EP_e1, ↓EP_e2, ↓EP_A, ↓AP_nil, ↓AP_cons, ↓EP_tup, ↓EP_lst, ↓EP_call, ↓EP_callK, ↓EP_if, ↓ZP_none, ↓ZP_some, ↓EP_sl, ↓EP_andV, ↓EP_orV, ↓EP_notV, ↓EP_neg, ↓BP_T, ↓BP_and, ↓BP_or, ↓BP_not, ↓BP_yes, ↓IP_seq, ↓IP_tup, ↓IP_enum, ↓IP_rg1, ↓SP_seq, ↓Th_app, ↓SP_nil, ↓SP_pass, ↓SP_break, ↓SP_cont, ↓SP_if, ↓SP_ret, ↓SP_retN, ↓SP_retO, ↓SP_drop, ↓SP_asg, ↓SP_own, ↓SP_app, ↓SP_ext, ↓SP_popA, ↓SP_move, ↓SP_par, ↓MP_mean, ↓EP_lcI, ↓EP_lc2I, ↓SP_forI, ↓FL_nil, ↓FLk_app, ↓LC_nil, ↓wpQ_nil, ↓wpQ_cons, ↓seG_succ, ↓seG_0, ↓EP_dm, ↓EP_fld, ↓EP_new, ↓dmQ_tpc, ↓dmQ_tup, ↓dmQ_lst, ↓dmQ_int, ↓slG_succ, ↓slG_pub, ↓slG_own, ↓stG_succ, ↓stG_0, ↓asgQ_name, ↓asgQ_names, ↓putQ_nil, ↓putQ_cons, ↓putKQ_pub, ↓putKQ_own, ↓ownG_succ, ↓ownG_own, ↓dQ_val, ↓dQ_prv, ↓dQ_bor, ↓dsQ_nil, ↓dsQ_cons, ↓pubQ_val, ↓pubQ_prv, ↓valsQ_nil, ↓valsQ_val, ↓blQ_bl, ↓intQ_int, ↓rtQ_val, ↓rtQ_prv, ↓seqQ_lst, ↓seqQ_frz, ↓seqQ_prv, ↓tupQ_tup, ↓tupQ_tpc, ↓prvQ_prv, ↓twoQ_two, ↓lstQ_lst, ↓add_int, ↓add_tup, ↓add_lst, ↓cI_int, ↓mul_int, ↓mul_tup, ↓ix_tup', ↓ix_lst', ↓len_tup', ↓len_lst', ↓tuple_tup, ↓tuple_lst, ↓list_tup, ↓list_lst, ↓sort_lst, ↓sort_tup, ↓max_int, ↓min_int, ↓int_int, ↓in_tup, ↓in_lst, ↓eq_any, ↓ne_any, ↓rev_lst, ↓sl_tup', ↓sl_lst', ↓rg1_int, ↓OR_at0, ↓OR_at1, ↓OR_sub, ↓OR_lt, ↓OR_le, ↓OR_gt, ↓OR_ge, ↓OR_mod, ↓OR_div, ↓OR_some, ↓OR_none, ↓no2_eq, wipeS, pick, List.length_cons, List.length_nil, List.map_cons, List.map_nil, List.replicate, List.cons_append, List.nil_append, Nat.reduceAdd, Nat.reduceSub, Nat.reduceLT, Nat.reduceLeDiff, Nat.lt_add_one, Nat.zero_lt_succ, Nat.zero_add, Nat.zero_le, true_and, and_true, if_true, if_false, reduceIte, forall_const, implies_true, false_imp_iff, Bool.false_eq_true, Bool.true_eq_false, reduceCtorEq, decide_true, decide_false, decide_eq_true_eq, decide_eq_false_iff_not, Bool.not_true, Bool.not_false, Bool.not_eq_false', Bool.not_eq_true', line_le2, line, noOwn_cons, noOwn_nil, nwG_succ, nwG_pub, nwG_un, Int.reduceLE, Int.reduceLT, Int.reduceNeg, Int.reduceAdd, Int.reduceSub, Int.reduceMul, Int.reduceMod, Int.reduceToNat, and_self]
  refine MP_any D (by decide) (by decide) fun r st1 _ _ D1 => ?_
  simp only [↓EP_C, ↓EP_var, ↓EP_pub, ↓EP_e1, ↓EP_e2, ↓EP_A, ↓AP_nil, ↓AP_cons, ↓EP_tup, ↓EP_lst, ↓EP_call, ↓EP_callK, ↓EP_if, ↓ZP_none, ↓ZP_some, ↓EP_sl, ↓EP_andV, ↓EP_orV, ↓EP_notV, ↓EP_neg, ↓BP_T, ↓BP_and, ↓BP_or, ↓BP_not, ↓BP_yes, ↓IP_seq, ↓IP_tup, ↓IP_enum, ↓IP_rg1, ↓SP_seq, ↓Th_app, ↓SP_nil, ↓SP_pass, ↓SP_break, ↓SP_cont, ↓SP_if, ↓SP_ret, ↓SP_retN, ↓SP_retO, ↓SP_drop, ↓SP_asg, ↓SP_own, ↓SP_app, ↓SP_ext, ↓SP_popA, ↓SP_move, ↓SP_par, ↓MP_mean, ↓EP_lcI, ↓EP_lc2I, ↓SP_forI, ↓FL_nil, ↓FLk_app, ↓LC_nil, ↓wpQ_nil, ↓wpQ_cons, ↓seG_succ, ↓seG_0, ↓EP_dm, ↓EP_fld, ↓EP_new, ↓dmQ_tpc, ↓dmQ_tup, ↓dmQ_lst, ↓dmQ_int, ↓slG_succ, ↓slG_pub, ↓slG_own, ↓stG_succ, ↓stG_0, ↓asgQ_name, ↓asgQ_names, ↓putQ_nil, ↓putQ_cons, ↓putKQ_pub, ↓putKQ_own, ↓ownG_succ, ↓ownG_own, ↓dQ_val, ↓dQ_prv, ↓dQ_bor, ↓dsQ_nil, ↓dsQ_cons, ↓pubQ_val, ↓pubQ_prv, ↓valsQ_nil, ↓valsQ_val, ↓blQ_bl, ↓intQ_int, ↓rtQ_val, ↓rtQ_prv, ↓seqQ_lst, ↓seqQ_frz, ↓seqQ_prv, ↓tupQ_tup, ↓tupQ_tpc, ↓prvQ_prv, ↓twoQ_two, ↓lstQ_lst, ↓add_int, ↓add_tup, ↓add_lst, ↓cI_int, ↓mul_int, ↓mul_tup, ↓ix_tup', ↓ix_lst', ↓len_tup', ↓len_lst', ↓tuple_tup, ↓tuple_lst, ↓list_tup, ↓list_lst, ↓sort_lst, ↓sort_tup, ↓max_int, ↓min_int, ↓int_int, ↓in_tup, ↓in_lst, ↓eq_any, ↓ne_any, ↓rev_lst, ↓sl_tup', ↓sl_lst', ↓rg1_int, ↓OR_at0, ↓OR_at1, ↓OR_sub, ↓OR_lt, ↓OR_le, ↓OR_gt, ↓OR_ge, ↓OR_mod, ↓OR_div, ↓OR_some, ↓OR_none, ↓no2_eq, wipeS, pick, List.length_cons, List.length_nil, List.map_cons, List.map_nil, List.replicate, List.cons_append, List.nil_append, Nat.reduceAdd, Nat.reduceSub, Nat.reduceLT, Nat.reduceLeDiff, Nat.lt_add_one, Nat.zero_lt_succ, Nat.zero_add, Nat.zero_le, true_and, and_true, if_true, if_false, reduceIte, forall_const, implies_true, false_imp_iff, Bool.false_eq_true, Bool.true_eq_false, reduceCtorEq, decide_true, decide_false, decide_eq_true_eq, decide_eq_false_iff_not, Bool.not_true, Bool.not_false, Bool.not_eq_false', Bool.not_eq_true', line_le2, line, noOwn_cons, noOwn_nil, nwG_succ, nwG_pub, nwG_un, Int.reduceLE, Int.reduceLT, Int.reduceNeg, Int.reduceAdd, Int.reduceSub, Int.reduceMul, Int.reduceMod, Int.reduceToNat, and_self, flat64_int, MP_of (m_lall (show n ≤ 1000 by omega) st1)]
  refine ⟨fun _ => ?_, fun _ => ⟨⟨by omega, by omega⟩, ?_⟩⟩
  · rw [allp_rd]
    refine (q _ _ ?_ D1).1
    have := allp_ln n
    rw [allp_rd, List.length_map] at this
    have := Nat.mul_le_mul hn hn
    omega
  refine LC_draw (fun (i : Nat) => Vx.D.int (i : Int)) (List.range n) (fun u => DealAt u []) (fun i d => ∃ r : Int × Int, d = rd r) (rg_n n) D1 (fun i _ => ?_) ?_
  · simp only [↓asgQ_name, ↓stG_succ, ↓stG_0]
    intro u D2
    simp only [↓EP_C, ↓EP_var, ↓EP_pub, ↓EP_e1, ↓EP_e2, ↓EP_A, ↓AP_nil, ↓AP_cons, ↓EP_tup, ↓EP_lst, ↓EP_call, ↓EP_callK, ↓EP_if, ↓ZP_none, ↓ZP_some, ↓EP_sl, ↓EP_andV, ↓EP_orV, ↓EP_notV, ↓EP_neg, ↓BP_T, ↓BP_and, ↓BP_or, ↓BP_not, ↓BP_yes, ↓IP_seq, ↓IP_tup, ↓IP_enum, ↓IP_rg1, ↓SP_seq, ↓Th_app, ↓SP_nil, ↓SP_pass, ↓SP_break, ↓SP_cont, ↓SP_if, ↓SP_ret, ↓SP_retN, ↓SP_retO, ↓SP_drop, ↓SP_asg, ↓SP_own, ↓SP_app, ↓SP_ext, ↓SP_popA, ↓SP_move, ↓SP_par, ↓MP_mean, ↓EP_lcI, ↓EP_lc2I, ↓SP_forI, ↓FL_nil, ↓FLk_app, ↓LC_nil, ↓wpQ_nil, ↓wpQ_cons, ↓seG_succ, ↓seG_0, ↓EP_dm, ↓EP_fld, ↓EP_new, ↓dmQ_tpc, ↓dmQ_tup, ↓dmQ_lst, ↓dmQ_int, ↓slG_succ, ↓slG_pub, ↓slG_own, ↓stG_succ, ↓stG_0, ↓asgQ_name, ↓asgQ_names, ↓putQ_nil, ↓putQ_cons, ↓putKQ_pub, ↓putKQ_own, ↓ownG_succ, ↓ownG_own, ↓dQ_val, ↓dQ_prv, ↓dQ_bor, ↓dsQ_nil, ↓dsQ_cons, ↓pubQ_val, ↓pubQ_prv, ↓valsQ_nil, ↓valsQ_val, ↓blQ_bl, ↓intQ_int, ↓rtQ_val, ↓rtQ_prv, ↓seqQ_lst, ↓seqQ_frz, ↓seqQ_prv, ↓tupQ_tup, ↓tupQ_tpc, ↓prvQ_prv, ↓twoQ_two, ↓lstQ_lst, ↓add_int, ↓add_tup, ↓add_lst, ↓cI_int, ↓mul_int, ↓mul_tup, ↓ix_tup', ↓ix_lst', ↓len_tup', ↓len_lst', ↓tuple_tup, ↓tuple_lst, ↓list_tup, ↓list_lst, ↓sort_lst, ↓sort_tup, ↓max_int, ↓min_int, ↓int_int, ↓in_tup, ↓in_lst, ↓eq_any, ↓ne_any, ↓rev_lst, ↓sl_tup', ↓sl_lst', ↓rg1_int, ↓OR_at0, ↓OR_at1, ↓OR_sub, ↓OR_lt, ↓OR_le, ↓OR_gt, ↓OR_ge, ↓OR_mod, ↓OR_div, ↓OR_some, ↓OR_none, ↓no2_eq, wipeS, pick, List.length_cons, List.length_nil, List.map_cons, List.map_nil, List.replicate, List.cons_append, List.nil_append, Nat.reduceAdd, Nat.reduceSub, Nat.reduceLT, Nat.reduceLeDiff, Nat.lt_add_one, Nat.zero_lt_succ, Nat.zero_add, Nat.zero_le, true_and, and_true, if_true, if_false, reduceIte, forall_const, implies_true, false_imp_iff, Bool.false_eq_true, Bool.true_eq_false, reduceCtorEq, decide_true, decide_false, decide_eq_true_eq, decide_eq_false_iff_not, Bool.not_true, Bool.not_false, Bool.not_eq_false', Bool.not_eq_true', line_le2, line, noOwn_cons, noOwn_nil, nwG_succ, nwG_pub, nwG_un, Int.reduceLE, Int.reduceLT, Int.reduceNeg, Int.reduceAdd, Int.reduceSub, Int.reduceMul, Int.reduceMod, Int.reduceToNat, and_self]
    exact MP_any D2 (by omega) (by omega) fun r u1 _ _ D3 => by simp only [↓EP_C, ↓EP_var, ↓EP_pub, ↓EP_e1, ↓EP_e2, ↓EP_A, ↓AP_nil, ↓AP_cons, ↓EP_tup, ↓EP_lst, ↓EP_call, ↓EP_callK, ↓EP_if, ↓ZP_none, ↓ZP_some, ↓EP_sl, ↓EP_andV, ↓EP_orV, ↓EP_notV, ↓EP_neg, ↓BP_T, ↓BP_and, ↓BP_or, ↓BP_not, ↓BP_yes, ↓IP_seq, ↓IP_tup, ↓IP_enum, ↓IP_rg1, ↓SP_seq, ↓Th_app, ↓SP_nil, ↓SP_pass, ↓SP_break, ↓SP_cont, ↓SP_if, ↓SP_ret, ↓SP_retN, ↓SP_retO, ↓SP_drop, ↓SP_asg, ↓SP_own, ↓SP_app, ↓SP_ext, ↓SP_popA, ↓SP_move, ↓SP_par, ↓MP_mean, ↓EP_lcI, ↓EP_lc2I, ↓SP_forI, ↓FL_nil, ↓FLk_app, ↓LC_nil, ↓wpQ_nil, ↓wpQ_cons, ↓seG_succ, ↓seG_0, ↓EP_dm, ↓EP_fld, ↓EP_new, ↓dmQ_tpc, ↓dmQ_tup, ↓dmQ_lst, ↓dmQ_int, ↓slG_succ, ↓slG_pub, ↓slG_own, ↓stG_succ, ↓stG_0, ↓asgQ_name, ↓asgQ_names, ↓putQ_nil, ↓putQ_cons, ↓putKQ_pub, ↓putKQ_own, ↓ownG_succ, ↓ownG_own, ↓dQ_val, ↓dQ_prv, ↓dQ_bor, ↓dsQ_nil, ↓dsQ_cons, ↓pubQ_val, ↓pubQ_prv, ↓valsQ_nil, ↓valsQ_val, ↓blQ_bl, ↓intQ_int, ↓rtQ_val, ↓rtQ_prv, ↓seqQ_lst, ↓seqQ_frz, ↓seqQ_prv, ↓tupQ_tup, ↓tupQ_tpc, ↓prvQ_prv, ↓twoQ_two, ↓lstQ_lst, ↓add_int, ↓add_tup, ↓add_lst, ↓cI_int, ↓mul_int, ↓mul_tup, ↓ix_tup', ↓ix_lst', ↓len_tup', ↓len_lst', ↓tuple_tup, ↓tuple_lst, ↓list_tup, ↓list_lst, ↓sort_lst, ↓sort_tup, ↓max_int, ↓min_int, ↓int_int, ↓in_tup, ↓in_lst, ↓eq_any, ↓ne_any, ↓rev_lst, ↓sl_tup', ↓sl_lst', ↓rg1_int, ↓OR_at0, ↓OR_at1, ↓OR_sub, ↓OR_lt, ↓OR_le, ↓OR_gt, ↓OR_ge, ↓OR_mod, ↓OR_div, ↓OR_some, ↓OR_none, ↓no2_eq, wipeS, pick, List.length_cons, List.length_nil, List.map_cons, List.map_nil, List.replicate, List.cons_append, List.nil_append, Nat.reduceAdd, Nat.reduceSub, Nat.reduceLT, Nat.reduceLeDiff, Nat.lt_add_one, Nat.zero_lt_succ, Nat.zero_add, Nat.zero_le, true_and, and_true, if_true, if_false, reduceIte, forall_const, implies_true, false_imp_iff, Bool.false_eq_true, Bool.true_eq_false, reduceCtorEq, decide_true, decide_false, decide_eq_true_eq, decide_eq_false_iff_not, Bool.not_true, Bool.not_false, Bool.not_eq_false', Bool.not_eq_true', line_le2, line, noOwn_cons, noOwn_nil, nwG_succ, nwG_pub, nwG_un, Int.reduceLE, Int.reduceLT, Int.reduceNeg, Int.reduceAdd, Int.reduceSub, Int.reduceMul, Int.reduceMod, Int.reduceToNat, and_self]; exact ⟨⟨((i : Int), r), rfl⟩, D3⟩
  intro ds u hl a2 D2
  obtain ⟨gs, rfl, gl, _⟩ := All2.typed (f := rd) (R := fun _ => True) (fun x d ⟨r, h⟩ => ⟨r, h, trivial⟩) a2
  rw [List.length_range] at hl gl
  simp only [↓EP_C, ↓EP_var, ↓EP_pub, ↓EP_e1, ↓EP_e2, ↓EP_A, ↓AP_nil, ↓AP_cons, ↓EP_tup, ↓EP_lst, ↓EP_call, ↓EP_callK, ↓EP_if, ↓ZP_none, ↓ZP_some, ↓EP_sl, ↓EP_andV, ↓EP_orV, ↓EP_notV, ↓EP_neg, ↓BP_T, ↓BP_and, ↓BP_or, ↓BP_not, ↓BP_yes, ↓IP_seq, ↓IP_tup, ↓IP_enum, ↓IP_rg1, ↓SP_seq, ↓Th_app, ↓SP_nil, ↓SP_pass, ↓SP_break, ↓SP_cont, ↓SP_if, ↓SP_ret, ↓SP_retN, ↓SP_retO, ↓SP_drop, ↓SP_asg, ↓SP_own, ↓SP_app, ↓SP_ext, ↓SP_popA, ↓SP_move, ↓SP_par, ↓MP_mean, ↓EP_lcI, ↓EP_lc2I, ↓SP_forI, ↓FL_nil, ↓FLk_app, ↓LC_nil, ↓wpQ_nil, ↓wpQ_cons, ↓seG_succ, ↓seG_0, ↓EP_dm, ↓EP_fld, ↓EP_new, ↓dmQ_tpc, ↓dmQ_tup, ↓dmQ_lst, ↓dmQ_int, ↓slG_succ, ↓slG_pub, ↓slG_own, ↓stG_succ, ↓stG_0, ↓asgQ_name, ↓asgQ_names, ↓putQ_nil, ↓putQ_cons, ↓putKQ_pub, ↓putKQ_own, ↓ownG_succ, ↓ownG_own, ↓dQ_val, ↓dQ_prv, ↓dQ_bor, ↓dsQ_nil, ↓dsQ_cons, ↓pubQ_val, ↓pubQ_prv, ↓valsQ_nil, ↓valsQ_val, ↓blQ_bl, ↓intQ_int, ↓rtQ_val, ↓rtQ_prv, ↓seqQ_lst, ↓seqQ_frz, ↓seqQ_prv, ↓tupQ_tup, ↓tupQ_tpc, ↓prvQ_prv, ↓twoQ_two, ↓lstQ_lst, ↓add_int, ↓add_tup, ↓add_lst, ↓cI_int, ↓mul_int, ↓mul_tup, ↓ix_tup', ↓ix_lst', ↓len_tup', ↓len_lst', ↓tuple_tup, ↓tuple_lst, ↓list_tup, ↓list_lst, ↓sort_lst, ↓sort_tup, ↓max_int, ↓min_int, ↓int_int, ↓in_tup, ↓in_lst, ↓eq_any, ↓ne_any, ↓rev_lst, ↓sl_tup', ↓sl_lst', ↓rg1_int, ↓OR_at0, ↓OR_at1, ↓OR_sub, ↓OR_lt, ↓OR_le, ↓OR_gt, ↓OR_ge, ↓OR_mod, ↓OR_div, ↓OR_some, ↓OR_none, ↓no2_eq, wipeS, pick, List.length_cons, List.length_nil, List.map_cons, List.map_nil, List.replicate, List.cons_append, List.nil_append, Nat.reduceAdd, Nat.reduceSub, Nat.reduceLT, Nat.reduceLeDiff, Nat.lt_add_one, Nat.zero_lt_succ, Nat.zero_add, Nat.zero_le, true_and, and_true, if_true, if_false, reduceIte, forall_const, implies_true, false_imp_iff, Bool.false_eq_true, Bool.true_eq_false, reduceCtorEq, decide_true, decide_false, decide_eq_true_eq, decide_eq_false_iff_not, Bool.not_true, Bool.not_false, Bool.not_eq_false', Bool.not_eq_true', line_le2, line, noOwn_cons, noOwn_nil, nwG_succ, nwG_pub, nwG_un, Int.reduceLE, Int.reduceLT, Int.reduceNeg, Int.reduceAdd, Int.reduceSub, Int.reduceMul, Int.reduceMod, Int.reduceToNat, and_self, ↓OR_mulI 2 (n : Int)]
  refine ⟨by omega, MP_any D2 (by omega) (by omega) fun k u1 k0 k1 D3 => ?_⟩
  obtain ⟨k, rfl⟩ : ∃ m : Nat, k = (m : Int) := ⟨k.toNat, by omega⟩
  simp only [↓EP_C, ↓EP_var, ↓EP_pub, ↓EP_e1, ↓EP_e2, ↓EP_A, ↓AP_nil, ↓AP_cons, ↓EP_tup, ↓EP_lst, ↓EP_call, ↓EP_callK, ↓EP_if, ↓ZP_none, ↓ZP_some, ↓EP_sl, ↓EP_andV, ↓EP_orV, ↓EP_notV, ↓EP_neg, ↓BP_T, ↓BP_and, ↓BP_or, ↓BP_not, ↓BP_yes, ↓IP_seq, ↓IP_tup, ↓IP_enum, ↓IP_rg1, ↓SP_seq, ↓Th_app, ↓SP_nil, ↓SP_pass, ↓SP_break, ↓SP_cont, ↓SP_if, ↓SP_ret, ↓SP_retN, ↓SP_retO, ↓SP_drop, ↓SP_asg, ↓SP_own, ↓SP_app, ↓SP_ext, ↓SP_popA, ↓SP_move, ↓SP_par, ↓MP_mean, ↓EP_lcI, ↓EP_lc2I, ↓SP_forI, ↓FL_nil, ↓FLk_app, ↓LC_nil, ↓wpQ_nil, ↓wpQ_cons, ↓seG_succ, ↓seG_0, ↓EP_dm, ↓EP_fld, ↓EP_new, ↓dmQ_tpc, ↓dmQ_tup, ↓dmQ_lst, ↓dmQ_int, ↓slG_succ, ↓slG_pub, ↓slG_own, ↓stG_succ, ↓stG_0, ↓asgQ_name, ↓asgQ_names, ↓putQ_nil, ↓putQ_cons, ↓putKQ_pub, ↓putKQ_own, ↓ownG_succ, ↓ownG_own, ↓dQ_val, ↓dQ_prv, ↓dQ_bor, ↓dsQ_nil, ↓dsQ_cons, ↓pubQ_val, ↓pubQ_prv, ↓valsQ_nil, ↓valsQ_val, ↓blQ_bl, ↓intQ_int, ↓rtQ_val, ↓rtQ_prv, ↓seqQ_lst, ↓seqQ_frz, ↓seqQ_prv, ↓tupQ_tup, ↓tupQ_tpc, ↓prvQ_prv, ↓twoQ_two, ↓lstQ_lst, ↓add_int, ↓add_tup, ↓add_lst, ↓cI_int, ↓mul_int, ↓mul_tup, ↓ix_tup', ↓ix_lst', ↓len_tup', ↓len_lst', ↓tuple_tup, ↓tuple_lst, ↓list_tup, ↓list_lst, ↓sort_lst, ↓sort_tup, ↓max_int, ↓min_int, ↓int_int, ↓in_tup, ↓in_lst, ↓eq_any, ↓ne_any, ↓rev_lst, ↓sl_tup', ↓sl_lst', ↓rg1_int, ↓OR_at0, ↓OR_at1, ↓OR_sub, ↓OR_lt, ↓OR_le, ↓OR_gt, ↓OR_ge, ↓OR_mod, ↓OR_div, ↓OR_some, ↓OR_none, ↓no2_eq, wipeS, pick, List.length_cons, List.length_nil, List.map_cons, List.map_nil, List.replicate, List.cons_append, List.nil_append, Nat.reduceAdd, Nat.reduceSub, Nat.reduceLT, Nat.reduceLeDiff, Nat.lt_add_one, Nat.zero_lt_succ, Nat.zero_add, Nat.zero_le, true_and, and_true, if_true, if_false, reduceIte, forall_const, implies_true, false_imp_iff, Bool.false_eq_true, Bool.true_eq_false, reduceCtorEq, decide_true, decide_false, decide_eq_true_eq, decide_eq_false_iff_not, Bool.not_true, Bool.not_false, Bool.not_eq_false', Bool.not_eq_true', line_le2, line, noOwn_cons, noOwn_nil, nwG_succ, nwG_pub, nwG_un, Int.reduceLE, Int.reduceLT, Int.reduceNeg, Int.reduceAdd, Int.reduceSub, Int.reduceMul, Int.reduceMod, Int.reduceToNat, and_self]
  refine ⟨⟨by omega, by omega⟩, FL_for (fun (i : Nat) => Vx.D.int (i : Int)) (List.range k) (fun ds _ s u => ∃ (gs : List (Int × Int)) (x : Sl), s = [.pub (.loc 1), .pub (.int (n : Int)), .own (gs.map rd), x, .un] ∧ gs.length = n + ds.length ∧ DealAt u []) (rg_n k) ⟨gs, _, rfl, by simpa using gl, D3⟩ ?_ ?_⟩
  · rintro ds x rest hx s u ⟨gs, x3, rfl, gl, D4⟩
    have hds : ds.length ≤ k := by
      have := congrArg List.length hx
      simp at this
      omega
    simp only [↓EP_C, ↓EP_var, ↓EP_pub, ↓EP_e1, ↓EP_e2, ↓EP_A, ↓AP_nil, ↓AP_cons, ↓EP_tup, ↓EP_lst, ↓EP_call, ↓EP_callK, ↓EP_if, ↓ZP_none, ↓ZP_some, ↓EP_sl, ↓EP_andV, ↓EP_orV, ↓EP_notV, ↓EP_neg, ↓BP_T, ↓BP_and, ↓BP_or, ↓BP_not, ↓BP_yes, ↓IP_seq, ↓IP_tup, ↓IP_enum, ↓IP_rg1, ↓SP_seq, ↓Th_app, ↓SP_nil, ↓SP_pass, ↓SP_break, ↓SP_cont, ↓SP_if, ↓SP_ret, ↓SP_retN, ↓SP_retO, ↓SP_drop, ↓SP_asg, ↓SP_own, ↓SP_app, ↓SP_ext, ↓SP_popA, ↓SP_move, ↓SP_par, ↓MP_mean, ↓EP_lcI, ↓EP_lc2I, ↓SP_forI, ↓FL_nil, ↓FLk_app, ↓LC_nil, ↓wpQ_nil, ↓wpQ_cons, ↓seG_succ, ↓seG_0, ↓EP_dm, ↓EP_fld, ↓EP_new, ↓dmQ_tpc, ↓dmQ_tup, ↓dmQ_lst, ↓dmQ_int, ↓slG_succ, ↓slG_pub, ↓slG_own, ↓stG_succ, ↓stG_0, ↓asgQ_name, ↓asgQ_names, ↓putQ_nil, ↓putQ_cons, ↓putKQ_pub, ↓putKQ_own, ↓ownG_succ, ↓ownG_own, ↓dQ_val, ↓dQ_prv, ↓dQ_bor, ↓dsQ_nil, ↓dsQ_cons, ↓pubQ_val, ↓pubQ_prv, ↓valsQ_nil, ↓valsQ_val, ↓blQ_bl, ↓intQ_int, ↓rtQ_val, ↓rtQ_prv, ↓seqQ_lst, ↓seqQ_frz, ↓seqQ_prv, ↓tupQ_tup, ↓tupQ_tpc, ↓prvQ_prv, ↓twoQ_two, ↓lstQ_lst, ↓add_int, ↓add_tup, ↓add_lst, ↓cI_int, ↓mul_int, ↓mul_tup, ↓ix_tup', ↓ix_lst', ↓len_tup', ↓len_lst', ↓tuple_tup, ↓tuple_lst, ↓list_tup, ↓list_lst, ↓sort_lst, ↓sort_tup, ↓max_int, ↓min_int, ↓int_int, ↓in_tup, ↓in_lst, ↓eq_any, ↓ne_any, ↓rev_lst, ↓sl_tup', ↓sl_lst', ↓rg1_int, ↓OR_at0, ↓OR_at1, ↓OR_sub, ↓OR_lt, ↓OR_le, ↓OR_gt, ↓OR_ge, ↓OR_mod, ↓OR_div, ↓OR_some, ↓OR_none, ↓no2_eq, wipeS, pick, List.length_cons, List.length_nil, List.map_cons, List.map_nil, List.replicate, List.cons_append, List.nil_append, Nat.reduceAdd, Nat.reduceSub, Nat.reduceLT, Nat.reduceLeDiff, Nat.lt_add_one, Nat.zero_lt_succ, Nat.zero_add, Nat.zero_le, true_and, and_true, if_true, if_false, reduceIte, forall_const, implies_true, false_imp_iff, Bool.false_eq_true, Bool.true_eq_false, reduceCtorEq, decide_true, decide_false, decide_eq_true_eq, decide_eq_false_iff_not, Bool.not_true, Bool.not_false, Bool.not_eq_false', Bool.not_eq_true', line_le2, line, noOwn_cons, noOwn_nil, nwG_succ, nwG_pub, nwG_un, Int.reduceLE, Int.reduceLT, Int.reduceNeg, Int.reduceAdd, Int.reduceSub, Int.reduceMul, Int.reduceMod, Int.reduceToNat, and_self]
    refine MP_any D4 (by omega) (by omega) fun a u1 _ _ D5 => ?_
    simp only [↓EP_C, ↓EP_var, ↓EP_pub, ↓EP_e1, ↓EP_e2, ↓EP_A, ↓AP_nil, ↓AP_cons, ↓EP_tup, ↓EP_lst, ↓EP_call, ↓EP_callK, ↓EP_if, ↓ZP_none, ↓ZP_some, ↓EP_sl, ↓EP_andV, ↓EP_orV, ↓EP_notV, ↓EP_neg, ↓BP_T, ↓BP_and, ↓BP_or, ↓BP_not, ↓BP_yes, ↓IP_seq, ↓IP_tup, ↓IP_enum, ↓IP_rg1, ↓SP_seq, ↓Th_app, ↓SP_nil, ↓SP_pass, ↓SP_break, ↓SP_cont, ↓SP_if, ↓SP_ret, ↓SP_retN, ↓SP_retO, ↓SP_drop, ↓SP_asg, ↓SP_own, ↓SP_app, ↓SP_ext, ↓SP_popA, ↓SP_move, ↓SP_par, ↓MP_mean, ↓EP_lcI, ↓EP_lc2I, ↓SP_forI, ↓FL_nil, ↓FLk_app, ↓LC_nil, ↓wpQ_nil, ↓wpQ_cons, ↓seG_succ, ↓seG_0, ↓EP_dm, ↓EP_fld, ↓EP_new, ↓dmQ_tpc, ↓dmQ_tup, ↓dmQ_lst, ↓dmQ_int, ↓slG_succ, ↓slG_pub, ↓slG_own, ↓stG_succ, ↓stG_0, ↓asgQ_name, ↓asgQ_names, ↓putQ_nil, ↓putQ_cons, ↓putKQ_pub, ↓putKQ_own, ↓ownG_succ, ↓ownG_own, ↓dQ_val, ↓dQ_prv, ↓dQ_bor, ↓dsQ_nil, ↓dsQ_cons, ↓pubQ_val, ↓pubQ_prv, ↓valsQ_nil, ↓valsQ_val, ↓blQ_bl, ↓intQ_int, ↓rtQ_val, ↓rtQ_prv, ↓seqQ_lst, ↓seqQ_frz, ↓seqQ_prv, ↓tupQ_tup, ↓tupQ_tpc, ↓prvQ_prv, ↓twoQ_two, ↓lstQ_lst, ↓add_int, ↓add_tup, ↓add_lst, ↓cI_int, ↓mul_int, ↓mul_tup, ↓ix_tup', ↓ix_lst', ↓len_tup', ↓len_lst', ↓tuple_tup, ↓tuple_lst, ↓list_tup, ↓list_lst, ↓sort_lst, ↓sort_tup, ↓max_int, ↓min_int, ↓int_int, ↓in_tup, ↓in_lst, ↓eq_any, ↓ne_any, ↓rev_lst, ↓sl_tup', ↓sl_lst', ↓rg1_int, ↓OR_at0, ↓OR_at1, ↓OR_sub, ↓OR_lt, ↓OR_le, ↓OR_gt, ↓OR_ge, ↓OR_mod, ↓OR_div, ↓OR_some, ↓OR_none, ↓no2_eq, wipeS, pick, List.length_cons, List.length_nil, List.map_cons, List.map_nil, List.replicate, List.cons_append, List.nil_append, Nat.reduceAdd, Nat.reduceSub, Nat.reduceLT, Nat.reduceLeDiff, Nat.lt_add_one, Nat.zero_lt_succ, Nat.zero_add, Nat.zero_le, true_and, and_true, if_true, if_false, reduceIte, forall_const, implies_true, false_imp_iff, Bool.false_eq_true, Bool.true_eq_false, reduceCtorEq, decide_true, decide_false, decide_eq_true_eq, decide_eq_false_iff_not, Bool.not_true, Bool.not_false, Bool.not_eq_false', Bool.not_eq_true', line_le2, line, noOwn_cons, noOwn_nil, nwG_succ, nwG_pub, nwG_un, Int.reduceLE, Int.reduceLT, Int.reduceNeg, Int.reduceAdd, Int.reduceSub, Int.reduceMul, Int.reduceMod, Int.reduceToNat, and_self]
    refine MP_any D5 (by omega) (by omega) fun b u2 _ _ D6 => ?_
    simp only [↓EP_C, ↓EP_var, ↓EP_pub, ↓EP_e1, ↓EP_e2, ↓EP_A, ↓AP_nil, ↓AP_cons, ↓EP_tup, ↓EP_lst, ↓EP_call, ↓EP_callK, ↓EP_if, ↓ZP_none, ↓ZP_some, ↓EP_sl, ↓EP_andV, ↓EP_orV, ↓EP_notV, ↓EP_neg, ↓BP_T, ↓BP_and, ↓BP_or, ↓BP_not, ↓BP_yes, ↓IP_seq, ↓IP_tup, ↓IP_enum, ↓IP_rg1, ↓SP_seq, ↓Th_app, ↓SP_nil, ↓SP_pass, ↓SP_break, ↓SP_cont, ↓SP_if, ↓SP_ret, ↓SP_retN, ↓SP_retO, ↓SP_drop, ↓SP_asg, ↓SP_own, ↓SP_app, ↓SP_ext, ↓SP_popA, ↓SP_move, ↓SP_par, ↓MP_mean, ↓EP_lcI, ↓EP_lc2I, ↓SP_forI, ↓FL_nil, ↓FLk_app, ↓LC_nil, ↓wpQ_nil, ↓wpQ_cons, ↓seG_succ, ↓seG_0, ↓EP_dm, ↓EP_fld, ↓EP_new, ↓dmQ_tpc, ↓dmQ_tup, ↓dmQ_lst, ↓dmQ_int, ↓slG_succ, ↓slG_pub, ↓slG_own, ↓stG_succ, ↓stG_0, ↓asgQ_name, ↓asgQ_names, ↓putQ_nil, ↓putQ_cons, ↓putKQ_pub, ↓putKQ_own, ↓ownG_succ, ↓ownG_own, ↓dQ_val, ↓dQ_prv, ↓dQ_bor, ↓dsQ_nil, ↓dsQ_cons, ↓pubQ_val, ↓pubQ_prv, ↓valsQ_nil, ↓valsQ_val, ↓blQ_bl, ↓intQ_int, ↓rtQ_val, ↓rtQ_prv, ↓seqQ_lst, ↓seqQ_frz, ↓seqQ_prv, ↓tupQ_tup, ↓tupQ_tpc, ↓prvQ_prv, ↓twoQ_two, ↓lstQ_lst, ↓add_int, ↓add_tup, ↓add_lst, ↓cI_int, ↓mul_int, ↓mul_tup, ↓ix_tup', ↓ix_lst', ↓len_tup', ↓len_lst', ↓tuple_tup, ↓tuple_lst, ↓list_tup, ↓list_lst, ↓sort_lst, ↓sort_tup, ↓max_int, ↓min_int, ↓int_int, ↓in_tup, ↓in_lst, ↓eq_any, ↓ne_any, ↓rev_lst, ↓sl_tup', ↓sl_lst', ↓rg1_int, ↓OR_at0, ↓OR_at1, ↓OR_sub, ↓OR_lt, ↓OR_le, ↓OR_gt, ↓OR_ge, ↓OR_mod, ↓OR_div, ↓OR_some, ↓OR_none, ↓no2_eq, wipeS, pick, List.length_cons, List.length_nil, List.map_cons, List.map_nil, List.replicate, List.cons_append, List.nil_append, Nat.reduceAdd, Nat.reduceSub, Nat.reduceLT, Nat.reduceLeDiff, Nat.lt_add_one, Nat.zero_lt_succ, Nat.zero_add, Nat.zero_le, true_and, and_true, if_true, if_false, reduceIte, forall_const, implies_true, false_imp_iff, Bool.false_eq_true, Bool.true_eq_false, reduceCtorEq, decide_true, decide_false, decide_eq_true_eq, decide_eq_false_iff_not, Bool.not_true, Bool.not_false, Bool.not_eq_false', Bool.not_eq_true', line_le2, line, noOwn_cons, noOwn_nil, nwG_succ, nwG_pub, nwG_un, Int.reduceLE, Int.reduceLT, Int.reduceNeg, Int.reduceAdd, Int.reduceSub, Int.reduceMul, Int.reduceMod, Int.reduceToNat, and_self, List.length_map]
    exact ⟨by omega, gs ++ [(a, b)], _, by rw [List.map_append]; rfl, by simp; omega, D6⟩
  · rintro s u ⟨gs, x3, rfl, gl, D4⟩
    rw [List.length_range] at gl
    obtain ⟨qs, c1, _, c3, c4, c5⟩ := set_rd gs (by omega)
    simp only [↓EP_C, ↓EP_var, ↓EP_pub, ↓EP_e1, ↓EP_e2, ↓EP_A, ↓AP_nil, ↓AP_cons, ↓EP_tup, ↓EP_lst, ↓EP_call, ↓EP_callK, ↓EP_if, ↓ZP_none, ↓ZP_some, ↓EP_sl, ↓EP_andV, ↓EP_orV, ↓EP_notV, ↓EP_neg, ↓BP_T, ↓BP_and, ↓BP_or, ↓BP_not, ↓BP_yes, ↓IP_seq, ↓IP_tup, ↓IP_enum, ↓IP_rg1, ↓SP_seq, ↓Th_app, ↓SP_nil, ↓SP_pass, ↓SP_break, ↓SP_cont, ↓SP_if, ↓SP_ret, ↓SP_retN, ↓SP_retO, ↓SP_drop, ↓SP_asg, ↓SP_own, ↓SP_app, ↓SP_ext, ↓SP_popA, ↓SP_move, ↓SP_par, ↓MP_mean, ↓EP_lcI, ↓EP_lc2I, ↓SP_forI, ↓FL_nil, ↓FLk_app, ↓LC_nil, ↓wpQ_nil, ↓wpQ_cons, ↓seG_succ, ↓seG_0, ↓EP_dm, ↓EP_fld, ↓EP_new, ↓dmQ_tpc, ↓dmQ_tup, ↓dmQ_lst, ↓dmQ_int, ↓slG_succ, ↓slG_pub, ↓slG_own, ↓stG_succ, ↓stG_0, ↓asgQ_name, ↓asgQ_names, ↓putQ_nil, ↓putQ_cons, ↓putKQ_pub, ↓putKQ_own, ↓ownG_succ, ↓ownG_own, ↓dQ_val, ↓dQ_prv, ↓dQ_bor, ↓dsQ_nil, ↓dsQ_cons, ↓pubQ_val, ↓pubQ_prv, ↓valsQ_nil, ↓valsQ_val, ↓blQ_bl, ↓intQ_int, ↓rtQ_val, ↓rtQ_prv, ↓seqQ_lst, ↓seqQ_frz, ↓seqQ_prv, ↓tupQ_tup, ↓tupQ_tpc, ↓prvQ_prv, ↓twoQ_two, ↓lstQ_lst, ↓add_int, ↓add_tup, ↓add_lst, ↓cI_int, ↓mul_int, ↓mul_tup, ↓ix_tup', ↓ix_lst', ↓len_tup', ↓len_lst', ↓tuple_tup, ↓tuple_lst, ↓list_tup, ↓list_lst, ↓sort_lst, ↓sort_tup, ↓max_int, ↓min_int, ↓int_int, ↓in_tup, ↓in_lst, ↓eq_any, ↓ne_any, ↓rev_lst, ↓sl_tup', ↓sl_lst', ↓rg1_int, ↓OR_at0, ↓OR_at1, ↓OR_sub, ↓OR_lt, ↓OR_le, ↓OR_gt, ↓OR_ge, ↓OR_mod, ↓OR_div, ↓OR_some, ↓OR_none, ↓no2_eq, wipeS, pick, List.length_cons, List.length_nil, List.map_cons, List.map_nil, List.replicate, List.cons_append, List.nil_append, Nat.reduceAdd, Nat.reduceSub, Nat.reduceLT, Nat.reduceLeDiff, Nat.lt_add_one, Nat.zero_lt_succ, Nat.zero_add, Nat.zero_le, true_and, and_true, if_true, if_false, reduceIte, forall_const, implies_true, false_imp_iff, Bool.false_eq_true, Bool.true_eq_false, reduceCtorEq, decide_true, decide_false, decide_eq_true_eq, decide_eq_false_iff_not, Bool.not_true, Bool.not_false, Bool.not_eq_false', Bool.not_eq_true', line_le2, line, noOwn_cons, noOwn_nil, nwG_succ, nwG_pub, nwG_un, Int.reduceLE, Int.reduceLT, Int.reduceNeg, Int.reduceAdd, Int.reduceSub, Int.reduceMul, Int.reduceMod, Int.reduceToNat, and_self, ↓OR_eq (c1 _)]
    exact (q qs u (by omega) D4).2
end
end K09


set_option Elab.async false
set_option linter.all false
set_option maxRecDepth 100000
namespace K09
open PySem PySem.Spec L2 Vx
theorem gs_of {l : List Vx.D} (h : ∀ d ∈ l, ∃ i j, d = gp i j) : ∃ gs : List (Int × Int), l = gs.map rd := ex_map fun d hd => by
  obtain ⟨i, j, e⟩ := h d hd
  exact ⟨((i : Int), (j : Int)), e⟩
theorem inn_gp {i : Nat} {one : Pt} {rs : List (Int × Int)} : ∀ {os : List Pt} {k : Nat} {d : Vx.D}, d ∈ inn i one rs k os → ∃ i j, d = gp i j
  | [], _, _, h => by cases h
  | o :: os, k, d, h => by
    rw [inn] at h
    split at h
    · rcases List.mem_cons.mp h with rfl | h
      · exact ⟨_, _, rfl⟩
      · exact inn_gp h
    · exact inn_gp h
theorem out_gp {pats : List Pt} {rs : List (Int × Int)} : ∀ {os : List Pt} {i : Nat} {d : Vx.D}, d ∈ out pats rs i os → ∃ i j, d = gp i j
  | [], _, _, h => by cases h
  | o :: os, k, d, h => by
    rw [out] at h
    rcases List.mem_append.mp h with h | h
    · exact inn_gp h
    · exact out_gp h
theorem out_ln {pats : List Pt} {rs : List (Int × Int)} : ∀ (os : List Pt) (i : Nat), (out pats rs i os).length ≤ os.length * pats.length
  | [], _ => by simp [out]
  | o :: os, i => by
    have := out_ln (pats := pats) (rs := rs) os (i + 1)
    have := inn_len i o rs pats 0
    rw [out, List.length_append, List.length_cons, Nat.add_mul]
    omega
theorem mem_allp {n : Nat} {d : Vx.D} (h : d ∈ allp n) : ∃ i j, i < n ∧ j < n ∧ d = gp i j := by
  obtain ⟨i, hi, h⟩ := List.mem_flatMap.mp h
  obtain ⟨j, hj, rfl⟩ := List.mem_map.mp h
  exact ⟨i, j, List.mem_range.mp hi, List.mem_range.mp hj, rfl⟩
theorem first_nb {pats : List Pt} (h : ([], []) ∈ pats) : ∃ nb, firstIx nbD (pats.map pd) = some nb := by
  induction pats with
  | nil => cases h
  | cons p pats ih =>
    rw [List.map_cons, firstIx]
    by_cases hp : D.eqv (pd p) nbD = true
    · exact ⟨0, by rw [if_pos hp]⟩
    · rw [if_neg hp]
      rcases List.mem_cons.mp h with rfl | h
      · exact absurd (by decide +kernel) hp
      · obtain ⟨nb, e⟩ := ih h
        exact ⟨nb + 1, by rw [e]; rfl⟩
def KN : List (List Pt × List (Int × Int) × Bool) := [([([], [])], [(0, 0)], true), ([([], []), ([], [0])], [(0, 0), (0, 1), (1, 0), (1, 1)], true), ([([], []), ([], [0])], [(0, 0), (0, 1), (1, 0)], false),
  ([([], []), ([], [0])], [(0, 0), (1, 0), (1, 1)], false), ([([], []), ([1], [0])], [(0, 0), (0, 1), (1, 0), (1, 1)], false), ([([], []), ([1], []), ([1], [0])], [(0, 0), (0, 1), (0, 2), (1, 0), (1, 1), (1, 2), (2, 0), (2, 1), (2, 2)], true)]
def knD (k : List Pt × List (Int × Int) × Bool) : Vx.D := .tup [.lst (k.1.map pd), .lst (k.2.1.map rd), .bl k.2.2]
theorem KN_ok : ∀ k ∈ KN, firstIx nbD (k.1.map pd) = some 0 ∧ fAll k.1 k.2.1 0 = k.2.2 ∧ k.1.length ≤ 1000 := by decide +kernel
theorem allp2 : allp 2 = ([(0, 0), (0, 1), (1, 0), (1, 1)] : List (Int × Int)).map rd := sameL_eq _ _ (by decide +kernel)
theorem allp3 : allp 3 = ([(0, 0), (0, 1), (0, 2), (1, 0), (1, 1), (1, 2), (2, 0), (2, 1), (2, 2)] : List (Int × Int)).map rd := sameL_eq _ _ (by decide +kernel)
def O5 : List Pt := ([], []) :: (List.range 4).map fun (i : Nat) => ([(i : Int)], [])
def O5g : List (Int × Int) := [(0, 0), (0, 1), (0, 2), (0, 3), (0, 4), (1, 0), (1, 1), (1, 2), (2, 0), (2, 2), (2, 3), (3, 0), (3, 3), (4, 0), (4, 4)]
theorem O5_out : out O5 [(0, 1), (1, 2)] 0 O5 = O5g.map rd := sameL_eq _ _ (by decide +kernel)
theorem O5_free : fAll O5 O5g 0 = true := by decide +kernel
theorem O5_nb : firstIx nbD (O5.map pd) = some 0 := by decide +kernel
theorem O5_short : ∀ p ∈ O5, short p := by unfold short; decide +kernel
theorem law_mp (ns : List Int) (hl : ns.length ≤ 63) : MP m_law [.frz (ns.map .int)] [] (fun r _ => r = .val (.bl true)) := by
  obtain ⟨st0, e0, D0⟩ := Vx.law_deal ns 909 (by decide) (by decide)
  have e0 : m__law_deal [.frz (ns.map .int), .int 909] [] = some (.val (.loc 1), st0) := e0
  unfold m_law b_law
  simp only [↓EP_C, ↓EP_var, ↓EP_pub, ↓EP_e1, ↓EP_e2, ↓EP_A, ↓AP_nil, ↓AP_cons, ↓EP_tup, ↓EP_lst, ↓EP_call, ↓EP_callK, ↓EP_if, ↓ZP_none, ↓ZP_some, ↓EP_sl, ↓EP_andV, ↓EP_orV, ↓EP_notV, ↓EP_neg, ↓BP_T, ↓BP_and, ↓BP_or, ↓BP_not, ↓BP_yes, ↓IP_seq, ↓IP_tup, ↓IP_enum, ↓IP_rg1, ↓SP_seq, ↓Th_app, ↓SP_nil, ↓SP_pass, ↓SP_break, ↓SP_cont, ↓SP_if, ↓SP_ret, ↓SP_retN, ↓SP_retO, ↓SP_drop, ↓SP_asg, ↓SP_own, ↓SP_app, ↓SP_ext, ↓SP_popA, ↓SP_move, ↓SP_par, ↓MP_mean, ↓EP_lcI, ↓EP_lc2I, ↓SP_forI, ↓FL_nil, ↓FLk_app, ↓LC_nil, ↓wpQ_nil, ↓wpQ_cons, ↓seG_succ, ↓seG_0, ↓EP_dm, ↓EP_fld, ↓EP_new, ↓dmQ_tpc, ↓dmQ_tup, ↓dmQ_lst, ↓dmQ_int, ↓slG_succ, ↓slG_pub, ↓slG_own, ↓stG_succ, ↓stG_0, ↓asgQ_name, ↓asgQ_names, ↓putQ_nil, ↓putQ_cons, ↓putKQ_pub, ↓putKQ_own, ↓ownG_succ, ↓ownG_own, ↓dQ_val, ↓dQ_prv, ↓dQ_bor, ↓dsQ_nil, ↓dsQ_cons, ↓pubQ_val, ↓pubQ_prv, ↓valsQ_nil, ↓valsQ_val, ↓blQ_bl, ↓intQ_int, ↓rtQ_val, ↓rtQ_prv, ↓seqQ_lst, ↓seqQ_frz, ↓seqQ_prv, ↓tupQ_tup, ↓tupQ_tpc, ↓prvQ_prv, ↓twoQ_two, ↓lstQ_lst, ↓add_int, ↓add_tup, ↓add_lst, ↓cI_int, ↓mul_int, ↓mul_tup, ↓ix_tup', ↓ix_lst', ↓len_tup', ↓len_lst', ↓tuple_tup, ↓tuple_lst, ↓list_tup, ↓list_lst, ↓sort_lst, ↓sort_tup, ↓max_int, ↓min_int, ↓int_int, ↓in_tup, ↓in_lst, ↓eq_any, ↓ne_any, ↓rev_lst, ↓sl_tup', ↓sl_lst', ↓rg1_int, ↓OR_at0, ↓OR_at1, ↓OR_sub, ↓OR_lt, ↓OR_le, ↓OR_gt, ↓OR_ge, ↓OR_mod, ↓OR_div, ↓OR_some, ↓OR_none, ↓no2_eq, wipeS, pick, List.length_cons, List.length_nil, List.map_cons, List.map_nil, List.replicate, List.cons_append, List.nil_append, Nat.reduceAdd, Nat.reduceSub, Nat.reduceLT, Nat.reduceLeDiff, Nat.lt_add_one, Nat.zero_lt_succ, Nat.zero_add, Nat.zero_le, true_and, and_true, if_true, if_false, reduceIte, forall_const, implies_true, false_imp_iff, Bool.false_eq_true, Bool.true_eq_false, reduceCtorEq, decide_true, decide_false, decide_eq_true_eq, decide_eq_false_iff_not, Bool.not_true, Bool.not_false, Bool.not_eq_false', Bool.not_eq_true', line_le2, line, noOwn_cons, noOwn_nil, nwG_succ, nwG_pub, nwG_un, Int.reduceLE, Int.reduceLT, Int.reduceNeg, Int.reduceAdd, Int.reduceSub, Int.reduceMul, Int.reduceMod, Int.reduceToNat, and_self, MP_of e0]
  refine FL_for (fun (j : Nat) => Vx.D.int (j : Int)) (List.range 8) (fun ds _ s u => ∃ (ps : List Vx.D) (x3 x4 x5 x6 x7 x8 x9 x10 x11 : Sl), s = [.pub (.frz (ns.map .int)), .pub (.loc 1), .own ps, x3, x4, x5, x6, x7, x8, x9, x10, x11, .un, .un, .un, .un, .un, .un, .un, .un, .un] ∧ PairsOk ps ∧ ps.length = 8 * ds.length ∧ DealAt u []) rfl ⟨[], .un, .un, .un, .un, .un, .un, .un, .un, .un, rfl, ok_nil, rfl, D0⟩ ?_ ?_
  · rintro ds x rest hx s u ⟨ps, x3, x4, x5, x6, x7, x8, x9, x10, x11, rfl, hp, hlen, DL⟩
    have hds : ds.length ≤ 8 := by
      have := congrArg List.length hx
      simp at this
      omega
    simp only [↓EP_C, ↓EP_var, ↓EP_pub, ↓EP_e1, ↓EP_e2, ↓EP_A, ↓AP_nil, ↓AP_cons, ↓EP_tup, ↓EP_lst, ↓EP_call, ↓EP_callK, ↓ZP_none, ↓ZP_some, ↓EP_sl, ↓EP_andV, ↓EP_orV, ↓EP_notV, ↓EP_neg, ↓BP_T, ↓BP_and, ↓BP_or, ↓BP_not, ↓BP_yes, ↓IP_seq, ↓IP_tup, ↓IP_enum, ↓IP_rg1, ↓SP_seq, ↓Th_app, ↓SP_nil, ↓SP_pass, ↓SP_break, ↓SP_cont, ↓SP_ret, ↓SP_retN, ↓SP_retO, ↓SP_drop, ↓SP_asg, ↓SP_own, ↓SP_app, ↓SP_ext, ↓SP_popA, ↓SP_move, ↓SP_par, ↓MP_mean, ↓EP_lcI, ↓EP_lc2I, ↓SP_forI, ↓FL_nil, ↓FLk_app, ↓LC_nil, ↓wpQ_nil, ↓wpQ_cons, ↓seG_succ, ↓seG_0, ↓EP_dm, ↓EP_fld, ↓EP_new, ↓dmQ_tpc, ↓dmQ_tup, ↓dmQ_lst, ↓dmQ_int, ↓slG_succ, ↓slG_pub, ↓slG_own, ↓stG_succ, ↓stG_0, ↓asgQ_name, ↓asgQ_names, ↓putQ_nil, ↓putQ_cons, ↓putKQ_pub, ↓putKQ_own, ↓ownG_succ, ↓ownG_own, ↓dQ_val, ↓dQ_prv, ↓dQ_bor, ↓dsQ_nil, ↓dsQ_cons, ↓pubQ_val, ↓pubQ_prv, ↓valsQ_nil, ↓valsQ_val, ↓blQ_bl, ↓intQ_int, ↓rtQ_val, ↓rtQ_prv, ↓seqQ_lst, ↓seqQ_frz, ↓seqQ_prv, ↓tupQ_tup, ↓tupQ_tpc, ↓prvQ_prv, ↓twoQ_two, ↓lstQ_lst, ↓add_int, ↓add_tup, ↓add_lst, ↓cI_int, ↓mul_int, ↓mul_tup, ↓ix_tup', ↓ix_lst', ↓len_tup', ↓len_lst', ↓tuple_tup, ↓tuple_lst, ↓list_tup, ↓list_lst, ↓sort_lst, ↓sort_tup, ↓max_int, ↓min_int, ↓int_int, ↓in_tup, ↓in_lst, ↓eq_any, ↓ne_any, ↓rev_lst, ↓sl_tup', ↓sl_lst', ↓rg1_int, ↓OR_at0, ↓OR_at1, ↓OR_sub, ↓OR_lt, ↓OR_le, ↓OR_gt, ↓OR_ge, ↓OR_mod, ↓OR_div, ↓OR_some, ↓OR_none, ↓no2_eq, wipeS, pick, List.length_cons, List.length_nil, List.map_cons, List.map_nil, List.replicate, List.cons_append, List.nil_append, Nat.reduceAdd, Nat.reduceSub, Nat.reduceLT, Nat.reduceLeDiff, Nat.lt_add_one, Nat.zero_lt_succ, Nat.zero_add, Nat.zero_le, true_and, and_true, if_true, if_false, reduceIte, forall_const, implies_true, false_imp_iff, Bool.false_eq_true, Bool.true_eq_false, reduceCtorEq, decide_true, decide_false, decide_eq_true_eq, decide_eq_false_iff_not, Bool.not_true, Bool.not_false, Bool.not_eq_false', Bool.not_eq_true', line_le2, line, noOwn_cons, noOwn_nil, nwG_succ, nwG_pub, nwG_un, Int.reduceLE, Int.reduceLT, Int.reduceNeg, Int.reduceAdd, Int.reduceSub, Int.reduceMul, Int.reduceMod, Int.reduceToNat, and_self]
    refine MP_any DL (by decide) (by decide) fun r u1 r0 r1 D1 => ?_
    obtain ⟨m, hm⟩ : ∃ m : Nat, 2 + r = (m : Int) := ⟨(2 + r).toNat, by omega⟩
    have m2 : 2 ≤ m := by omega
    have m5 : m ≤ 5 := by omega
    obtain ⟨pats, u2, D2, pm, pl, pn, e2⟩ := m_drawn (show m ≤ 100 by omega) (k := 6) (by decide) (by decide) D1
    have psh : ∀ p ∈ pats, short p := fun p hp => by
      have := pm p hp
      unfold short
      have := this.2.2
      omega
    have e2 : m__law_drawn_patterns [.loc 1, .int (m : Int), .int 6] u1 = some (.prv (pats.map pd), u2) := e2
    simp only [↓EP_C, ↓EP_var, ↓EP_pub, ↓EP_e1, ↓EP_e2, ↓EP_A, ↓AP_nil, ↓AP_cons, ↓EP_tup, ↓EP_lst, ↓EP_call, ↓EP_callK, ↓ZP_none, ↓ZP_some, ↓EP_sl, ↓EP_andV, ↓EP_orV, ↓EP_notV, ↓EP_neg, ↓BP_T, ↓BP_and, ↓BP_or, ↓BP_not, ↓BP_yes, ↓IP_seq, ↓IP_tup, ↓IP_enum, ↓IP_rg1, ↓SP_seq, ↓Th_app, ↓SP_nil, ↓SP_pass, ↓SP_break, ↓SP_cont, ↓SP_ret, ↓SP_retN, ↓SP_retO, ↓SP_drop, ↓SP_asg, ↓SP_own, ↓SP_app, ↓SP_ext, ↓SP_popA, ↓SP_move, ↓SP_par, ↓MP_mean, ↓EP_lcI, ↓EP_lc2I, ↓SP_forI, ↓FL_nil, ↓FLk_app, ↓LC_nil, ↓wpQ_nil, ↓wpQ_cons, ↓seG_succ, ↓seG_0, ↓EP_dm, ↓EP_fld, ↓EP_new, ↓dmQ_tpc, ↓dmQ_tup, ↓dmQ_lst, ↓dmQ_int, ↓slG_succ, ↓slG_pub, ↓slG_own, ↓stG_succ, ↓stG_0, ↓asgQ_name, ↓asgQ_names, ↓putQ_nil, ↓putQ_cons, ↓putKQ_pub, ↓putKQ_own, ↓ownG_succ, ↓ownG_own, ↓dQ_val, ↓dQ_prv, ↓dQ_bor, ↓dsQ_nil, ↓dsQ_cons, ↓pubQ_val, ↓pubQ_prv, ↓valsQ_nil, ↓valsQ_val, ↓blQ_bl, ↓intQ_int, ↓rtQ_val, ↓rtQ_prv, ↓seqQ_lst, ↓seqQ_frz, ↓seqQ_prv, ↓tupQ_tup, ↓tupQ_tpc, ↓prvQ_prv, ↓twoQ_two, ↓lstQ_lst, ↓add_int, ↓add_tup, ↓add_lst, ↓cI_int, ↓mul_int, ↓mul_tup, ↓ix_tup', ↓ix_lst', ↓len_tup', ↓len_lst', ↓tuple_tup, ↓tuple_lst, ↓list_tup, ↓list_lst, ↓sort_lst, ↓sort_tup, ↓max_int, ↓min_int, ↓int_int, ↓in_tup, ↓in_lst, ↓eq_any, ↓ne_any, ↓rev_lst, ↓sl_tup', ↓sl_lst', ↓rg1_int, ↓OR_at0, ↓OR_at1, ↓OR_sub, ↓OR_lt, ↓OR_le, ↓OR_gt, ↓OR_ge, ↓OR_mod, ↓OR_div, ↓OR_some, ↓OR_none, ↓no2_eq, wipeS, pick, List.length_cons, List.length_nil, List.map_cons, List.map_nil, List.replicate, List.cons_append, List.nil_append, Nat.reduceAdd, Nat.reduceSub, Nat.reduceLT, Nat.reduceLeDiff, Nat.lt_add_one, Nat.zero_lt_succ, Nat.zero_add, Nat.zero_le, true_and, and_true, if_true, if_false, reduceIte, forall_const, implies_true, false_imp_iff, Bool.false_eq_true, Bool.true_eq_false, reduceCtorEq, decide_true, decide_false, decide_eq_true_eq, decide_eq_false_iff_not, Bool.not_true, Bool.not_false, Bool.not_eq_false', Bool.not_eq_true', line_le2, line, noOwn_cons, noOwn_nil, nwG_succ, nwG_pub, nwG_un, Int.reduceLE, Int.reduceLT, Int.reduceNeg, Int.reduceAdd, Int.reduceSub, Int.reduceMul, Int.reduceMod, Int.reduceToNat, and_self, hm, MP_of e2]
    refine EP.imp (Q := fun r u => r = .val (.lst (pats.map pd)) ∧ DealAt u [] ∨ ∃ qs : List Pt, r = .prv (qs.map pd) ∧ DealAt u [] ∧ qs.length ≤ 12 ∧ (∀ p ∈ qs, short p) ∧ ([], []) ∈ qs) ?_ ?_
    · simp only [↓EP_C, ↓EP_var, ↓EP_pub, ↓EP_e1, ↓EP_e2, ↓EP_A, ↓AP_nil, ↓AP_cons, ↓EP_tup, ↓EP_lst, ↓EP_call, ↓EP_callK, ↓EP_if, ↓ZP_none, ↓ZP_some, ↓EP_sl, ↓EP_andV, ↓EP_orV, ↓EP_notV, ↓EP_neg, ↓BP_T, ↓BP_and, ↓BP_or, ↓BP_not, ↓BP_yes, ↓IP_seq, ↓IP_tup, ↓IP_enum, ↓IP_rg1, ↓SP_seq, ↓Th_app, ↓SP_nil, ↓SP_pass, ↓SP_break, ↓SP_cont, ↓SP_if, ↓SP_ret, ↓SP_retN, ↓SP_retO, ↓SP_drop, ↓SP_asg, ↓SP_own, ↓SP_app, ↓SP_ext, ↓SP_popA, ↓SP_move, ↓SP_par, ↓MP_mean, ↓EP_lcI, ↓EP_lc2I, ↓SP_forI, ↓FL_nil, ↓FLk_app, ↓LC_nil, ↓wpQ_nil, ↓wpQ_cons, ↓seG_succ, ↓seG_0, ↓EP_dm, ↓EP_fld, ↓EP_new, ↓dmQ_tpc, ↓dmQ_tup, ↓dmQ_lst, ↓dmQ_int, ↓slG_succ, ↓slG_pub, ↓slG_own, ↓stG_succ, ↓stG_0, ↓asgQ_name, ↓asgQ_names, ↓putQ_nil, ↓putQ_cons, ↓putKQ_pub, ↓putKQ_own, ↓ownG_succ, ↓ownG_own, ↓dQ_val, ↓dQ_prv, ↓dQ_bor, ↓dsQ_nil, ↓dsQ_cons, ↓pubQ_val, ↓pubQ_prv, ↓valsQ_nil, ↓valsQ_val, ↓blQ_bl, ↓intQ_int, ↓rtQ_val, ↓rtQ_prv, ↓seqQ_lst, ↓seqQ_frz, ↓seqQ_prv, ↓tupQ_tup, ↓tupQ_tpc, ↓prvQ_prv, ↓twoQ_two, ↓lstQ_lst, ↓add_int, ↓add_tup, ↓add_lst, ↓cI_int, ↓mul_int, ↓mul_tup, ↓ix_tup', ↓ix_lst', ↓len_tup', ↓len_lst', ↓tuple_tup, ↓tuple_lst, ↓list_tup, ↓list_lst, ↓sort_lst, ↓sort_tup, ↓max_int, ↓min_int, ↓int_int, ↓in_tup, ↓in_lst, ↓eq_any, ↓ne_any, ↓rev_lst, ↓sl_tup', ↓sl_lst', ↓rg1_int, ↓OR_at0, ↓OR_at1, ↓OR_sub, ↓OR_lt, ↓OR_le, ↓OR_gt, ↓OR_ge, ↓OR_mod, ↓OR_div, ↓OR_some, ↓OR_none, ↓no2_eq, wipeS, pick, List.length_cons, List.length_nil, List.map_cons, List.map_nil, List.replicate, List.cons_append, List.nil_append, Nat.reduceAdd, Nat.reduceSub, Nat.reduceLT, Nat.reduceLeDiff, Nat.lt_add_one, Nat.zero_lt_succ, Nat.zero_add, Nat.zero_le, true_and, and_true, if_true, if_false, reduceIte, forall_const, implies_true, false_imp_iff, Bool.false_eq_true, Bool.true_eq_false, reduceCtorEq, decide_true, decide_false, decide_eq_true_eq, decide_eq_false_iff_not, Bool.not_true, Bool.not_false, Bool.not_eq_false', Bool.not_eq_true', line_le2, line, noOwn_cons, noOwn_nil, nwG_succ, nwG_pub, nwG_un, Int.reduceLE, Int.reduceLT, Int.reduceNeg, Int.reduceAdd, Int.reduceSub, Int.reduceMul, Int.reduceMod, Int.reduceToNat, and_self]
      refine MP_any D2 (by decide) (by decide) fun c u3 _ _ D3 => ?_
      simp only [↓EP_C, ↓EP_var, ↓EP_pub, ↓EP_e1, ↓EP_e2, ↓EP_A, ↓AP_nil, ↓AP_cons, ↓EP_tup, ↓EP_lst, ↓EP_call, ↓EP_callK, ↓EP_if, ↓ZP_none, ↓ZP_some, ↓EP_sl, ↓EP_andV, ↓EP_orV, ↓EP_notV, ↓EP_neg, ↓BP_T, ↓BP_and, ↓BP_or, ↓BP_not, ↓BP_yes, ↓IP_seq, ↓IP_tup, ↓IP_enum, ↓IP_rg1, ↓SP_seq, ↓Th_app, ↓SP_nil, ↓SP_pass, ↓SP_break, ↓SP_cont, ↓SP_if, ↓SP_ret, ↓SP_retN, ↓SP_retO, ↓SP_drop, ↓SP_asg, ↓SP_own, ↓SP_app, ↓SP_ext, ↓SP_popA, ↓SP_move, ↓SP_par, ↓MP_mean, ↓EP_lcI, ↓EP_lc2I, ↓SP_forI, ↓FL_nil, ↓FLk_app, ↓LC_nil, ↓wpQ_nil, ↓wpQ_cons, ↓seG_succ, ↓seG_0, ↓EP_dm, ↓EP_fld, ↓EP_new, ↓dmQ_tpc, ↓dmQ_tup, ↓dmQ_lst, ↓dmQ_int, ↓slG_succ, ↓slG_pub, ↓slG_own, ↓stG_succ, ↓stG_0, ↓asgQ_name, ↓asgQ_names, ↓putQ_nil, ↓putQ_cons, ↓putKQ_pub, ↓putKQ_own, ↓ownG_succ, ↓ownG_own, ↓dQ_val, ↓dQ_prv, ↓dQ_bor, ↓dsQ_nil, ↓dsQ_cons, ↓pubQ_val, ↓pubQ_prv, ↓valsQ_nil, ↓valsQ_val, ↓blQ_bl, ↓intQ_int, ↓rtQ_val, ↓rtQ_prv, ↓seqQ_lst, ↓seqQ_frz, ↓seqQ_prv, ↓tupQ_tup, ↓tupQ_tpc, ↓prvQ_prv, ↓twoQ_two, ↓lstQ_lst, ↓add_int, ↓add_tup, ↓add_lst, ↓cI_int, ↓mul_int, ↓mul_tup, ↓ix_tup', ↓ix_lst', ↓len_tup', ↓len_lst', ↓tuple_tup, ↓tuple_lst, ↓list_tup, ↓list_lst, ↓sort_lst, ↓sort_tup, ↓max_int, ↓min_int, ↓int_int, ↓in_tup, ↓in_lst, ↓eq_any, ↓ne_any, ↓rev_lst, ↓sl_tup', ↓sl_lst', ↓rg1_int, ↓OR_at0, ↓OR_at1, ↓OR_sub, ↓OR_lt, ↓OR_le, ↓OR_gt, ↓OR_ge, ↓OR_mod, ↓OR_div, ↓OR_some, ↓OR_none, ↓no2_eq, wipeS, pick, List.length_cons, List.length_nil, List.map_cons, List.map_nil, List.replicate, List.cons_append, List.nil_append, Nat.reduceAdd, Nat.reduceSub, Nat.reduceLT, Nat.reduceLeDiff, Nat.lt_add_one, Nat.zero_lt_succ, Nat.zero_add, Nat.zero_le, true_and, and_true, if_true, if_false, reduceIte, forall_const, implies_true, false_imp_iff, Bool.false_eq_true, Bool.true_eq_false, reduceCtorEq, decide_true, decide_false, decide_eq_true_eq, decide_eq_false_iff_not, Bool.not_true, Bool.not_false, Bool.not_eq_false', Bool.not_eq_true', line_le2, line, noOwn_cons, noOwn_nil, nwG_succ, nwG_pub, nwG_un, Int.reduceLE, Int.reduceLT, Int.reduceNeg, Int.reduceAdd, Int.reduceSub, Int.reduceMul, Int.reduceMod, Int.reduceToNat, and_self, flat64_int]
      exact ⟨fun _ => closed_mp (by omega) psh pn fun qs _ h2 h3 h4 => .inr ⟨qs, rfl, D3, by omega, h2, h3⟩, fun _ => .inl D3⟩
    intro r u3 hr
    obtain ⟨pats, hr, D3, pl, psh, pn⟩ : ∃ qs : List Pt, (r = .val (.lst (qs.map pd)) ∨ r = .prv (qs.map pd)) ∧ DealAt u3 [] ∧ qs.length ≤ 12 ∧ (∀ p ∈ qs, short p) ∧ ([], []) ∈ qs := by
      rcases hr with ⟨rfl, D3⟩ | ⟨qs, rfl, h1, h2, h3, h4⟩
      · exact ⟨pats, .inl rfl, D3, by omega, psh, pn⟩
      · exact ⟨qs, .inr rfl, h1, h2, h3, h4⟩
    have hpub : ∀ P : Vx.D → Prop, pubQ r P = P (.lst (pats.map pd)) := fun P => by
      rcases hr with rfl | rfl
      · rfl
      · rfl
    have p0 : 0 < pats.length := List.length_pos_of_mem pn
    have al := allp_ln pats.length
    have al2 := Nat.mul_le_mul pl pl
    have al3 := Nat.mul_pos p0 p0
    simp only [↓EP_C, ↓EP_var, ↓EP_pub, ↓EP_e1, ↓EP_e2, ↓EP_A, ↓AP_nil, ↓AP_cons, ↓EP_tup, ↓EP_lst, ↓EP_call, ↓EP_callK, ↓ZP_none, ↓ZP_some, ↓EP_sl, ↓EP_andV, ↓EP_orV, ↓EP_notV, ↓EP_neg, ↓BP_T, ↓BP_and, ↓BP_or, ↓BP_not, ↓BP_yes, ↓IP_seq, ↓IP_tup, ↓IP_enum, ↓IP_rg1, ↓SP_seq, ↓Th_app, ↓SP_nil, ↓SP_pass, ↓SP_break, ↓SP_cont, ↓SP_ret, ↓SP_retN, ↓SP_retO, ↓SP_drop, ↓SP_asg, ↓SP_own, ↓SP_app, ↓SP_ext, ↓SP_popA, ↓SP_move, ↓SP_par, ↓MP_mean, ↓EP_lcI, ↓EP_lc2I, ↓SP_forI, ↓FL_nil, ↓FLk_app, ↓LC_nil, ↓wpQ_nil, ↓wpQ_cons, ↓seG_succ, ↓seG_0, ↓EP_dm, ↓EP_fld, ↓EP_new, ↓dmQ_tpc, ↓dmQ_tup, ↓dmQ_lst, ↓dmQ_int, ↓slG_succ, ↓slG_pub, ↓slG_own, ↓stG_succ, ↓stG_0, ↓asgQ_name, ↓asgQ_names, ↓putQ_nil, ↓putQ_cons, ↓putKQ_pub, ↓putKQ_own, ↓ownG_succ, ↓ownG_own, ↓dQ_val, ↓dQ_prv, ↓dQ_bor, ↓dsQ_nil, ↓dsQ_cons, ↓pubQ_val, ↓pubQ_prv, ↓valsQ_nil, ↓valsQ_val, ↓blQ_bl, ↓intQ_int, ↓rtQ_val, ↓rtQ_prv, ↓seqQ_lst, ↓seqQ_frz, ↓seqQ_prv, ↓tupQ_tup, ↓tupQ_tpc, ↓prvQ_prv, ↓twoQ_two, ↓lstQ_lst, ↓add_int, ↓add_tup, ↓add_lst, ↓cI_int, ↓mul_int, ↓mul_tup, ↓ix_tup', ↓ix_lst', ↓len_tup', ↓len_lst', ↓tuple_tup, ↓tuple_lst, ↓list_tup, ↓list_lst, ↓sort_lst, ↓sort_tup, ↓max_int, ↓min_int, ↓int_int, ↓in_tup, ↓in_lst, ↓eq_any, ↓ne_any, ↓rev_lst, ↓sl_tup', ↓sl_lst', ↓rg1_int, ↓OR_at0, ↓OR_at1, ↓OR_sub, ↓OR_lt, ↓OR_le, ↓OR_gt, ↓OR_ge, ↓OR_mod, ↓OR_div, ↓OR_some, ↓OR_none, ↓no2_eq, wipeS, pick, List.length_cons, List.length_nil, List.map_cons, List.map_nil, List.replicate, List.cons_append, List.nil_append, Nat.reduceAdd, Nat.reduceSub, Nat.reduceLT, Nat.reduceLeDiff, Nat.lt_add_one, Nat.zero_lt_succ, Nat.zero_add, Nat.zero_le, true_and, and_true, if_true, if_false, reduceIte, forall_const, implies_true, false_imp_iff, Bool.false_eq_true, Bool.true_eq_false, reduceCtorEq, decide_true, decide_false, decide_eq_true_eq, decide_eq_false_iff_not, Bool.not_true, Bool.not_false, Bool.not_eq_false', Bool.not_eq_true', line_le2, line, noOwn_cons, noOwn_nil, nwG_succ, nwG_pub, nwG_un, Int.reduceLE, Int.reduceLT, Int.reduceNeg, Int.reduceAdd, Int.reduceSub, Int.reduceMul, Int.reduceMod, Int.reduceToNat, and_self, hpub, List.length_map, MP_of (m_lall (show pats.length ≤ 1000 by omega) _)]
    refine EP.imp (Q := fun r u => ∃ k : Nat, r = .val (.int (k : Int)) ∧ DealAt u []) ?_ ?_
    · simp only [↓EP_C, ↓EP_var, ↓EP_pub, ↓EP_e1, ↓EP_e2, ↓EP_A, ↓AP_nil, ↓AP_cons, ↓EP_tup, ↓EP_lst, ↓EP_call, ↓EP_callK, ↓EP_if, ↓ZP_none, ↓ZP_some, ↓EP_sl, ↓EP_andV, ↓EP_orV, ↓EP_notV, ↓EP_neg, ↓BP_T, ↓BP_and, ↓BP_or, ↓BP_not, ↓BP_yes, ↓IP_seq, ↓IP_tup, ↓IP_enum, ↓IP_rg1, ↓SP_seq, ↓Th_app, ↓SP_nil, ↓SP_pass, ↓SP_break, ↓SP_cont, ↓SP_if, ↓SP_ret, ↓SP_retN, ↓SP_retO, ↓SP_drop, ↓SP_asg, ↓SP_own, ↓SP_app, ↓SP_ext, ↓SP_popA, ↓SP_move, ↓SP_par, ↓MP_mean, ↓EP_lcI, ↓EP_lc2I, ↓SP_forI, ↓FL_nil, ↓FLk_app, ↓LC_nil, ↓wpQ_nil, ↓wpQ_cons, ↓seG_succ, ↓seG_0, ↓EP_dm, ↓EP_fld, ↓EP_new, ↓dmQ_tpc, ↓dmQ_tup, ↓dmQ_lst, ↓dmQ_int, ↓slG_succ, ↓slG_pub, ↓slG_own, ↓stG_succ, ↓stG_0, ↓asgQ_name, ↓asgQ_names, ↓putQ_nil, ↓putQ_cons, ↓putKQ_pub, ↓putKQ_own, ↓ownG_succ, ↓ownG_own, ↓dQ_val, ↓dQ_prv, ↓dQ_bor, ↓dsQ_nil, ↓dsQ_cons, ↓pubQ_val, ↓pubQ_prv, ↓valsQ_nil, ↓valsQ_val, ↓blQ_bl, ↓intQ_int, ↓rtQ_val, ↓rtQ_prv, ↓seqQ_lst, ↓seqQ_frz, ↓seqQ_prv, ↓tupQ_tup, ↓tupQ_tpc, ↓prvQ_prv, ↓twoQ_two, ↓lstQ_lst, ↓add_int, ↓add_tup, ↓add_lst, ↓cI_int, ↓mul_int, ↓mul_tup, ↓ix_tup', ↓ix_lst', ↓len_tup', ↓len_lst', ↓tuple_tup, ↓tuple_lst, ↓list_tup, ↓list_lst, ↓sort_lst, ↓sort_tup, ↓max_int, ↓min_int, ↓int_int, ↓in_tup, ↓in_lst, ↓eq_any, ↓ne_any, ↓rev_lst, ↓sl_tup', ↓sl_lst', ↓rg1_int, ↓OR_at0, ↓OR_at1, ↓OR_sub, ↓OR_lt, ↓OR_le, ↓OR_gt, ↓OR_ge, ↓OR_mod, ↓OR_div, ↓OR_some, ↓OR_none, ↓no2_eq, wipeS, pick, List.length_cons, List.length_nil, List.map_cons, List.map_nil, List.replicate, List.cons_append, List.nil_append, Nat.reduceAdd, Nat.reduceSub, Nat.reduceLT, Nat.reduceLeDiff, Nat.lt_add_one, Nat.zero_lt_succ, Nat.zero_add, Nat.zero_le, true_and, and_true, if_true, if_false, reduceIte, forall_const, implies_true, false_imp_iff, Bool.false_eq_true, Bool.true_eq_false, reduceCtorEq, decide_true, decide_false, decide_eq_true_eq, decide_eq_false_iff_not, Bool.not_true, Bool.not_false, Bool.not_eq_false', Bool.not_eq_true', line_le2, line, noOwn_cons, noOwn_nil, nwG_succ, nwG_pub, nwG_un, Int.reduceLE, Int.reduceLT, Int.reduceNeg, Int.reduceAdd, Int.reduceSub, Int.reduceMul, Int.reduceMod, Int.reduceToNat, and_self]
      refine ⟨fun h => MP_any D3 (by omega) (by omega) fun k u4 k0 k1 D4 => ⟨k.toNat, by rw [Int.toNat_of_nonneg k0], D4⟩, fun _ => ⟨_, rfl, D3⟩⟩
    rintro r u4 ⟨k, rfl, D4⟩
    simp only [↓EP_C, ↓EP_var, ↓EP_pub, ↓EP_e1, ↓EP_e2, ↓EP_A, ↓AP_nil, ↓AP_cons, ↓EP_tup, ↓EP_lst, ↓EP_call, ↓EP_callK, ↓EP_if, ↓ZP_none, ↓ZP_some, ↓EP_sl, ↓EP_andV, ↓EP_orV, ↓EP_notV, ↓EP_neg, ↓BP_T, ↓BP_and, ↓BP_or, ↓BP_not, ↓BP_yes, ↓IP_seq, ↓IP_tup, ↓IP_enum, ↓IP_rg1, ↓SP_seq, ↓Th_app, ↓SP_nil, ↓SP_pass, ↓SP_break, ↓SP_cont, ↓SP_if, ↓SP_ret, ↓SP_retN, ↓SP_retO, ↓SP_drop, ↓SP_asg, ↓SP_own, ↓SP_app, ↓SP_ext, ↓SP_popA, ↓SP_move, ↓SP_par, ↓MP_mean, ↓EP_lcI, ↓EP_lc2I, ↓SP_forI, ↓FL_nil, ↓FLk_app, ↓LC_nil, ↓wpQ_nil, ↓wpQ_cons, ↓seG_succ, ↓seG_0, ↓EP_dm, ↓EP_fld, ↓EP_new, ↓dmQ_tpc, ↓dmQ_tup, ↓dmQ_lst, ↓dmQ_int, ↓slG_succ, ↓slG_pub, ↓slG_own, ↓stG_succ, ↓stG_0, ↓asgQ_name, ↓asgQ_names, ↓putQ_nil, ↓putQ_cons, ↓putKQ_pub, ↓putKQ_own, ↓ownG_succ, ↓ownG_own, ↓dQ_val, ↓dQ_prv, ↓dQ_bor, ↓dsQ_nil, ↓dsQ_cons, ↓pubQ_val, ↓pubQ_prv, ↓valsQ_nil, ↓valsQ_val, ↓blQ_bl, ↓intQ_int, ↓rtQ_val, ↓rtQ_prv, ↓seqQ_lst, ↓seqQ_frz, ↓seqQ_prv, ↓tupQ_tup, ↓tupQ_tpc, ↓prvQ_prv, ↓twoQ_two, ↓lstQ_lst, ↓add_int, ↓add_tup, ↓add_lst, ↓cI_int, ↓mul_int, ↓mul_tup, ↓ix_tup', ↓ix_lst', ↓len_tup', ↓len_lst', ↓tuple_tup, ↓tuple_lst, ↓list_tup, ↓list_lst, ↓sort_lst, ↓sort_tup, ↓max_int, ↓min_int, ↓int_int, ↓in_tup, ↓in_lst, ↓eq_any, ↓ne_any, ↓rev_lst, ↓sl_tup', ↓sl_lst', ↓rg1_int, ↓OR_at0, ↓OR_at1, ↓OR_sub, ↓OR_lt, ↓OR_le, ↓OR_gt, ↓OR_ge, ↓OR_mod, ↓OR_div, ↓OR_some, ↓OR_none, ↓no2_eq, wipeS, pick, List.length_cons, List.length_nil, List.map_cons, List.map_nil, List.replicate, List.cons_append, List.nil_append, Nat.reduceAdd, Nat.reduceSub, Nat.reduceLT, Nat.reduceLeDiff, Nat.lt_add_one, Nat.zero_lt_succ, Nat.zero_add, Nat.zero_le, true_and, and_true, if_true, if_false, reduceIte, forall_const, implies_true, false_imp_iff, Bool.false_eq_true, Bool.true_eq_false, reduceCtorEq, decide_true, decide_false, decide_eq_true_eq, decide_eq_false_iff_not, Bool.not_true, Bool.not_false, Bool.not_eq_false', Bool.not_eq_true', line_le2, line, noOwn_cons, noOwn_nil, nwG_succ, nwG_pub, nwG_un, Int.reduceLE, Int.reduceLT, Int.reduceNeg, Int.reduceAdd, Int.reduceSub, Int.reduceMul, Int.reduceMod, Int.reduceToNat, and_self]
    refine LC_draw (fun (i : Nat) => Vx.D.int (i : Int)) (List.range 3) (fun u => DealAt u []) (fun i d => ∃ r : Int × Int, d = rd r) (rg_n 3) D4 (fun i _ => ?_) ?_
    · simp only [↓asgQ_name, ↓stG_succ, ↓stG_0]
      intro u D5
      simp only [↓EP_C, ↓EP_var, ↓EP_pub, ↓EP_e1, ↓EP_e2, ↓EP_A, ↓AP_nil, ↓AP_cons, ↓EP_tup, ↓EP_lst, ↓EP_call, ↓EP_callK, ↓EP_if, ↓ZP_none, ↓ZP_some, ↓EP_sl, ↓EP_andV, ↓EP_orV, ↓EP_notV, ↓EP_neg, ↓BP_T, ↓BP_and, ↓BP_or, ↓BP_not, ↓BP_yes, ↓IP_seq, ↓IP_tup, ↓IP_enum, ↓IP_rg1, ↓SP_seq, ↓Th_app, ↓SP_nil, ↓SP_pass, ↓SP_break, ↓SP_cont, ↓SP_if, ↓SP_ret, ↓SP_retN, ↓SP_retO, ↓SP_drop, ↓SP_asg, ↓SP_own, ↓SP_app, ↓SP_ext, ↓SP_popA, ↓SP_move, ↓SP_par, ↓MP_mean, ↓EP_lcI, ↓EP_lc2I, ↓SP_forI, ↓FL_nil, ↓FLk_app, ↓LC_nil, ↓wpQ_nil, ↓wpQ_cons, ↓seG_succ, ↓seG_0, ↓EP_dm, ↓EP_fld, ↓EP_new, ↓dmQ_tpc, ↓dmQ_tup, ↓dmQ_lst, ↓dmQ_int, ↓slG_succ, ↓slG_pub, ↓slG_own, ↓stG_succ, ↓stG_0, ↓asgQ_name, ↓asgQ_names, ↓putQ_nil, ↓putQ_cons, ↓putKQ_pub, ↓putKQ_own, ↓ownG_succ, ↓ownG_own, ↓dQ_val, ↓dQ_prv, ↓dQ_bor, ↓dsQ_nil, ↓dsQ_cons, ↓pubQ_val, ↓pubQ_prv, ↓valsQ_nil, ↓valsQ_val, ↓blQ_bl, ↓intQ_int, ↓rtQ_val, ↓rtQ_prv, ↓seqQ_lst, ↓seqQ_frz, ↓seqQ_prv, ↓tupQ_tup, ↓tupQ_tpc, ↓prvQ_prv, ↓twoQ_two, ↓lstQ_lst, ↓add_int, ↓add_tup, ↓add_lst, ↓cI_int, ↓mul_int, ↓mul_tup, ↓ix_tup', ↓ix_lst', ↓len_tup', ↓len_lst', ↓tuple_tup, ↓tuple_lst, ↓list_tup, ↓list_lst, ↓sort_lst, ↓sort_tup, ↓max_int, ↓min_int, ↓int_int, ↓in_tup, ↓in_lst, ↓eq_any, ↓ne_any, ↓rev_lst, ↓sl_tup', ↓sl_lst', ↓rg1_int, ↓OR_at0, ↓OR_at1, ↓OR_sub, ↓OR_lt, ↓OR_le, ↓OR_gt, ↓OR_ge, ↓OR_mod, ↓OR_div, ↓OR_some, ↓OR_none, ↓no2_eq, wipeS, pick, List.length_cons, List.length_nil, List.map_cons, List.map_nil, List.replicate, List.cons_append, List.nil_append, Nat.reduceAdd, Nat.reduceSub, Nat.reduceLT, Nat.reduceLeDiff, Nat.lt_add_one, Nat.zero_lt_succ, Nat.zero_add, Nat.zero_le, true_and, and_true, if_true, if_false, reduceIte, forall_const, implies_true, false_imp_iff, Bool.false_eq_true, Bool.true_eq_false, reduceCtorEq, decide_true, decide_false, decide_eq_true_eq, decide_eq_false_iff_not, Bool.not_true, Bool.not_false, Bool.not_eq_false', Bool.not_eq_true', line_le2, line, noOwn_cons, noOwn_nil, nwG_succ, nwG_pub, nwG_un, Int.reduceLE, Int.reduceLT, Int.reduceNeg, Int.reduceAdd, Int.reduceSub, Int.reduceMul, Int.reduceMod, Int.reduceToNat, and_self]
      refine MP_any D5 (by omega) (by omega) fun a u1 _ _ D6 => ?_
      simp only [↓EP_C, ↓EP_var, ↓EP_pub, ↓EP_e1, ↓EP_e2, ↓EP_A, ↓AP_nil, ↓AP_cons, ↓EP_tup, ↓EP_lst, ↓EP_call, ↓EP_callK, ↓EP_if, ↓ZP_none, ↓ZP_some, ↓EP_sl, ↓EP_andV, ↓EP_orV, ↓EP_notV, ↓EP_neg, ↓BP_T, ↓BP_and, ↓BP_or, ↓BP_not, ↓BP_yes, ↓IP_seq, ↓IP_tup, ↓IP_enum, ↓IP_rg1, ↓SP_seq, ↓Th_app, ↓SP_nil, ↓SP_pass, ↓SP_break, ↓SP_cont, ↓SP_if, ↓SP_ret, ↓SP_retN, ↓SP_retO, ↓SP_drop, ↓SP_asg, ↓SP_own, ↓SP_app, ↓SP_ext, ↓SP_popA, ↓SP_move, ↓SP_par, ↓MP_mean, ↓EP_lcI, ↓EP_lc2I, ↓SP_forI, ↓FL_nil, ↓FLk_app, ↓LC_nil, ↓wpQ_nil, ↓wpQ_cons, ↓seG_succ, ↓seG_0, ↓EP_dm, ↓EP_fld, ↓EP_new, ↓dmQ_tpc, ↓dmQ_tup, ↓dmQ_lst, ↓dmQ_int, ↓slG_succ, ↓slG_pub, ↓slG_own, ↓stG_succ, ↓stG_0, ↓asgQ_name, ↓asgQ_names, ↓putQ_nil, ↓putQ_cons, ↓putKQ_pub, ↓putKQ_own, ↓ownG_succ, ↓ownG_own, ↓dQ_val, ↓dQ_prv, ↓dQ_bor, ↓dsQ_nil, ↓dsQ_cons, ↓pubQ_val, ↓pubQ_prv, ↓valsQ_nil, ↓valsQ_val, ↓blQ_bl, ↓intQ_int, ↓rtQ_val, ↓rtQ_prv, ↓seqQ_lst, ↓seqQ_frz, ↓seqQ_prv, ↓tupQ_tup, ↓tupQ_tpc, ↓prvQ_prv, ↓twoQ_two, ↓lstQ_lst, ↓add_int, ↓add_tup, ↓add_lst, ↓cI_int, ↓mul_int, ↓mul_tup, ↓ix_tup', ↓ix_lst', ↓len_tup', ↓len_lst', ↓tuple_tup, ↓tuple_lst, ↓list_tup, ↓list_lst, ↓sort_lst, ↓sort_tup, ↓max_int, ↓min_int, ↓int_int, ↓in_tup, ↓in_lst, ↓eq_any, ↓ne_any, ↓rev_lst, ↓sl_tup', ↓sl_lst', ↓rg1_int, ↓OR_at0, ↓OR_at1, ↓OR_sub, ↓OR_lt, ↓OR_le, ↓OR_gt, ↓OR_ge, ↓OR_mod, ↓OR_div, ↓OR_some, ↓OR_none, ↓no2_eq, wipeS, pick, List.length_cons, List.length_nil, List.map_cons, List.map_nil, List.replicate, List.cons_append, List.nil_append, Nat.reduceAdd, Nat.reduceSub, Nat.reduceLT, Nat.reduceLeDiff, Nat.lt_add_one, Nat.zero_lt_succ, Nat.zero_add, Nat.zero_le, true_and, and_true, if_true, if_false, reduceIte, forall_const, implies_true, false_imp_iff, Bool.false_eq_true, Bool.true_eq_false, reduceCtorEq, decide_true, decide_false, decide_eq_true_eq, decide_eq_false_iff_not, Bool.not_true, Bool.not_false, Bool.not_eq_false', Bool.not_eq_true', line_le2, line, noOwn_cons, noOwn_nil, nwG_succ, nwG_pub, nwG_un, Int.reduceLE, Int.reduceLT, Int.reduceNeg, Int.reduceAdd, Int.reduceSub, Int.reduceMul, Int.reduceMod, Int.reduceToNat, and_self]
      exact MP_any D6 (by omega) (by omega) fun b u1 _ _ D7 => by simp only [↓EP_C, ↓EP_var, ↓EP_pub, ↓EP_e1, ↓EP_e2, ↓EP_A, ↓AP_nil, ↓AP_cons, ↓EP_tup, ↓EP_lst, ↓EP_call, ↓EP_callK, ↓EP_if, ↓ZP_none, ↓ZP_some, ↓EP_sl, ↓EP_andV, ↓EP_orV, ↓EP_notV, ↓EP_neg, ↓BP_T, ↓BP_and, ↓BP_or, ↓BP_not, ↓BP_yes, ↓IP_seq, ↓IP_tup, ↓IP_enum, ↓IP_rg1, ↓SP_seq, ↓Th_app, ↓SP_nil, ↓SP_pass, ↓SP_break, ↓SP_cont, ↓SP_if, ↓SP_ret, ↓SP_retN, ↓SP_retO, ↓SP_drop, ↓SP_asg, ↓SP_own, ↓SP_app, ↓SP_ext, ↓SP_popA, ↓SP_move, ↓SP_par, ↓MP_mean, ↓EP_lcI, ↓EP_lc2I, ↓SP_forI, ↓FL_nil, ↓FLk_app, ↓LC_nil, ↓wpQ_nil, ↓wpQ_cons, ↓seG_succ, ↓seG_0, ↓EP_dm, ↓EP_fld, ↓EP_new, ↓dmQ_tpc, ↓dmQ_tup, ↓dmQ_lst, ↓dmQ_int, ↓slG_succ, ↓slG_pub, ↓slG_own, ↓stG_succ, ↓stG_0, ↓asgQ_name, ↓asgQ_names, ↓putQ_nil, ↓putQ_cons, ↓putKQ_pub, ↓putKQ_own, ↓ownG_succ, ↓ownG_own, ↓dQ_val, ↓dQ_prv, ↓dQ_bor, ↓dsQ_nil, ↓dsQ_cons, ↓pubQ_val, ↓pubQ_prv, ↓valsQ_nil, ↓valsQ_val, ↓blQ_bl, ↓intQ_int, ↓rtQ_val, ↓rtQ_prv, ↓seqQ_lst, ↓seqQ_frz, ↓seqQ_prv, ↓tupQ_tup, ↓tupQ_tpc, ↓prvQ_prv, ↓twoQ_two, ↓lstQ_lst, ↓add_int, ↓add_tup, ↓add_lst, ↓cI_int, ↓mul_int, ↓mul_tup, ↓ix_tup', ↓ix_lst', ↓len_tup', ↓len_lst', ↓tuple_tup, ↓tuple_lst, ↓list_tup, ↓list_lst, ↓sort_lst, ↓sort_tup, ↓max_int, ↓min_int, ↓int_int, ↓in_tup, ↓in_lst, ↓eq_any, ↓ne_any, ↓rev_lst, ↓sl_tup', ↓sl_lst', ↓rg1_int, ↓OR_at0, ↓OR_at1, ↓OR_sub, ↓OR_lt, ↓OR_le, ↓OR_gt, ↓OR_ge, ↓OR_mod, ↓OR_div, ↓OR_some, ↓OR_none, ↓no2_eq, wipeS, pick, List.length_cons, List.length_nil, List.map_cons, List.map_nil, List.replicate, List.cons_append, List.nil_append, Nat.reduceAdd, Nat.reduceSub, Nat.reduceLT, Nat.reduceLeDiff, Nat.lt_add_one, Nat.zero_lt_succ, Nat.zero_add, Nat.zero_le, true_and, and_true, if_true, if_false, reduceIte, forall_const, implies_true, false_imp_iff, Bool.false_eq_true, Bool.true_eq_false, reduceCtorEq, decide_true, decide_false, decide_eq_true_eq, decide_eq_false_iff_not, Bool.not_true, Bool.not_false, Bool.not_eq_false', Bool.not_eq_true', line_le2, line, noOwn_cons, noOwn_nil, nwG_succ, nwG_pub, nwG_un, Int.reduceLE, Int.reduceLT, Int.reduceNeg, Int.reduceAdd, Int.reduceSub, Int.reduceMul, Int.reduceMod, Int.reduceToNat, and_self]; exact ⟨⟨(a, b), rfl⟩, D7⟩
    intro ds3 u5 hl3 a2 D5
    obtain ⟨rs, rfl, rl, _⟩ := All2.typed (f := rd) (R := fun _ => True) (fun x d ⟨r, h⟩ => ⟨r, h, trivial⟩) a2
    obtain ⟨rs, c1, _, c3, c4, c5⟩ := set_rd rs (by rw [rl]; decide)
    rw [rl] at c5
    have rsl : rs.length ≤ 1000 := Nat.le_trans c5 (by decide)
    simp only [↓EP_C, ↓EP_var, ↓EP_pub, ↓EP_e1, ↓EP_e2, ↓EP_A, ↓AP_nil, ↓AP_cons, ↓EP_tup, ↓EP_lst, ↓EP_call, ↓EP_callK, ↓EP_if, ↓ZP_none, ↓ZP_some, ↓EP_sl, ↓EP_andV, ↓EP_orV, ↓EP_notV, ↓EP_neg, ↓BP_T, ↓BP_and, ↓BP_or, ↓BP_not, ↓BP_yes, ↓IP_seq, ↓IP_tup, ↓IP_enum, ↓IP_rg1, ↓SP_seq, ↓Th_app, ↓SP_nil, ↓SP_pass, ↓SP_break, ↓SP_cont, ↓SP_if, ↓SP_ret, ↓SP_retN, ↓SP_retO, ↓SP_drop, ↓SP_asg, ↓SP_own, ↓SP_app, ↓SP_ext, ↓SP_popA, ↓SP_move, ↓SP_par, ↓MP_mean, ↓EP_lcI, ↓EP_lc2I, ↓SP_forI, ↓FL_nil, ↓FLk_app, ↓LC_nil, ↓wpQ_nil, ↓wpQ_cons, ↓seG_succ, ↓seG_0, ↓EP_dm, ↓EP_fld, ↓EP_new, ↓dmQ_tpc, ↓dmQ_tup, ↓dmQ_lst, ↓dmQ_int, ↓slG_succ, ↓slG_pub, ↓slG_own, ↓stG_succ, ↓stG_0, ↓asgQ_name, ↓asgQ_names, ↓putQ_nil, ↓putQ_cons, ↓putKQ_pub, ↓putKQ_own, ↓ownG_succ, ↓ownG_own, ↓dQ_val, ↓dQ_prv, ↓dQ_bor, ↓dsQ_nil, ↓dsQ_cons, ↓pubQ_val, ↓pubQ_prv, ↓valsQ_nil, ↓valsQ_val, ↓blQ_bl, ↓intQ_int, ↓rtQ_val, ↓rtQ_prv, ↓seqQ_lst, ↓seqQ_frz, ↓seqQ_prv, ↓tupQ_tup, ↓tupQ_tpc, ↓prvQ_prv, ↓twoQ_two, ↓lstQ_lst, ↓add_int, ↓add_tup, ↓add_lst, ↓cI_int, ↓mul_int, ↓mul_tup, ↓ix_tup', ↓ix_lst', ↓len_tup', ↓len_lst', ↓tuple_tup, ↓tuple_lst, ↓list_tup, ↓list_lst, ↓sort_lst, ↓sort_tup, ↓max_int, ↓min_int, ↓int_int, ↓in_tup, ↓in_lst, ↓eq_any, ↓ne_any, ↓rev_lst, ↓sl_tup', ↓sl_lst', ↓rg1_int, ↓OR_at0, ↓OR_at1, ↓OR_sub, ↓OR_lt, ↓OR_le, ↓OR_gt, ↓OR_ge, ↓OR_mod, ↓OR_div, ↓OR_some, ↓OR_none, ↓no2_eq, wipeS, pick, List.length_cons, List.length_nil, List.map_cons, List.map_nil, List.replicate, List.cons_append, List.nil_append, Nat.reduceAdd, Nat.reduceSub, Nat.reduceLT, Nat.reduceLeDiff, Nat.lt_add_one, Nat.zero_lt_succ, Nat.zero_add, Nat.zero_le, true_and, and_true, if_true, if_false, reduceIte, forall_const, implies_true, false_imp_iff, Bool.false_eq_true, Bool.true_eq_false, reduceCtorEq, decide_true, decide_false, decide_eq_true_eq, decide_eq_false_iff_not, Bool.not_true, Bool.not_false, Bool.not_eq_false', Bool.not_eq_true', line_le2, line, noOwn_cons, noOwn_nil, nwG_succ, nwG_pub, nwG_un, Int.reduceLE, Int.reduceLT, Int.reduceNeg, Int.reduceAdd, Int.reduceSub, Int.reduceMul, Int.reduceMod, Int.reduceToNat, and_self, ↓OR_eq (c1 _), MP_of (m_road psh (show pats.length ≤ 1000 by omega) rsl _)]
    have cl1 := @cut_len (allp pats.length) none (some (k : Int))
    have cl2 := @cut_len (allp pats.length) (some ((k : Int) + 1)) none
    refine ⟨by rw [List.length_map, rl]; decide, by omega, ?_⟩
    obtain ⟨g1, hg1⟩ := gs_of (l := allp pats.length) fun d hd => by
      obtain ⟨i, j, _, _, e⟩ := mem_allp hd
      exact ⟨i, j, e⟩
    obtain ⟨g2, hg2⟩ := gs_of (l := cutD (allp pats.length) none (some (k : Int)) ++ cutD (allp pats.length) (some ((k : Int) + 1)) none) fun d hd => by
      have hd : d ∈ allp pats.length := (List.mem_append.mp hd).elim cut_mem cut_mem
      obtain ⟨i, j, _, _, e⟩ := mem_allp hd
      exact ⟨i, j, e⟩
    obtain ⟨g4, hg4⟩ := gs_of (l := out pats rs 0 pats) fun d hd => out_gp hd
    obtain ⟨nb, hnb⟩ := first_nb pn
    refine drawn_goes_mp p0 (by omega) D5 fun g3 u6 _ D6 => ?_
    have go : FL (.name 10) (sSeq (sAsg (.name 11) (eCall m__law_of_patterns (eCons (eVar 5) (eCons (eVar 10) (eCons (eVar 4) eNil))))) (sSeq (sApp 2 (eTup (eCons (eCall m_is_free (eCons (eVar 11) eNil)) (eCons (eCall m__law_is_free (eCons (eVar 5) (eCons (eVar 10) eNil))) eNil)))) (sApp 2 (eTup (eCons (eCallK m_is_free [0] (eCons (eVar 11) eNil)) (eCons (eCall m__law_is_free (eCons (eVar 5) (eCons (eVar 10) eNil))) eNil))))))
        [.lst (allp pats.length), .lst (cutD (allp pats.length) none (some (k : Int)) ++ cutD (allp pats.length) (some ((k : Int) + 1)) none), .lst (g3.map rd), .lst (out pats rs 0 pats)]
        [.pub (.frz (ns.map .int)), .pub (.loc 1), .own ps, .pub (.int x), .pub (.int m), .pub (.lst (pats.map pd)), .pub (.int pats.length), .pub (.lst (allp pats.length)), .pub (.int k), .pub (.tup (rs.map rd)), x10, x11, .un, .un, .un, .un, .un, .un, .un, .un, .un] u6
        (fun s u => ∃ (ps : List Vx.D) (x3 x4 x5 x6 x7 x8 x9 x10 x11 : Sl), s = [.pub (.frz (ns.map .int)), .pub (.loc 1), .own ps, x3, x4, x5, x6, x7, x8, x9, x10, x11, .un, .un, .un, .un, .un, .un, .un, .un, .un] ∧ PairsOk ps ∧ ps.length = 8 * (ds ++ [x]).length ∧ DealAt u []) no2 no2 no2 := by
      rw [hg2, hg4, show allp pats.length = g1.map rd from hg1]
      refine FL_for (fun gs : List (Int × Int) => Vx.D.lst (gs.map rd)) [g1, g2, g3, g4] (fun dd _ s u => ∃ (qs : List Vx.D) (x10 x11 : Sl), s = [.pub (.frz (ns.map .int)), .pub (.loc 1), .own qs, .pub (.int x), .pub (.int m), .pub (.lst (pats.map pd)), .pub (.int pats.length), .pub (.lst (g1.map rd)), .pub (.int k), .pub (.tup (rs.map rd)), x10, x11, .un, .un, .un, .un, .un, .un, .un, .un, .un] ∧ PairsOk qs ∧ qs.length = ps.length + 2 * dd.length ∧ DealAt u []) rfl ⟨ps, _, _, rfl, hp, rfl, D6⟩ ?_ ?_
      · rintro dd gs rest hx s u ⟨qs, x10, x11, rfl, hq, hql, D7⟩
        have hdd : dd.length ≤ 4 := by
          have := congrArg List.length hx
          simp at this
          omega
        simp only [↓EP_C, ↓EP_var, ↓EP_pub, ↓EP_e1, ↓EP_e2, ↓EP_A, ↓AP_nil, ↓AP_cons, ↓EP_tup, ↓EP_lst, ↓EP_call, ↓EP_callK, ↓EP_if, ↓ZP_none, ↓ZP_some, ↓EP_sl, ↓EP_andV, ↓EP_orV, ↓EP_notV, ↓EP_neg, ↓BP_T, ↓BP_and, ↓BP_or, ↓BP_not, ↓BP_yes, ↓IP_seq, ↓IP_tup, ↓IP_enum, ↓IP_rg1, ↓SP_seq, ↓Th_app, ↓SP_nil, ↓SP_pass, ↓SP_break, ↓SP_cont, ↓SP_if, ↓SP_ret, ↓SP_retN, ↓SP_retO, ↓SP_drop, ↓SP_asg, ↓SP_own, ↓SP_app, ↓SP_ext, ↓SP_popA, ↓SP_move, ↓SP_par, ↓MP_mean, ↓EP_lcI, ↓EP_lc2I, ↓SP_forI, ↓FL_nil, ↓FLk_app, ↓LC_nil, ↓wpQ_nil, ↓wpQ_cons, ↓seG_succ, ↓seG_0, ↓EP_dm, ↓EP_fld, ↓EP_new, ↓dmQ_tpc, ↓dmQ_tup, ↓dmQ_lst, ↓dmQ_int, ↓slG_succ, ↓slG_pub, ↓slG_own, ↓stG_succ, ↓stG_0, ↓asgQ_name, ↓asgQ_names, ↓putQ_nil, ↓putQ_cons, ↓putKQ_pub, ↓putKQ_own, ↓ownG_succ, ↓ownG_own, ↓dQ_val, ↓dQ_prv, ↓dQ_bor, ↓dsQ_nil, ↓dsQ_cons, ↓pubQ_val, ↓pubQ_prv, ↓valsQ_nil, ↓valsQ_val, ↓blQ_bl, ↓intQ_int, ↓rtQ_val, ↓rtQ_prv, ↓seqQ_lst, ↓seqQ_frz, ↓seqQ_prv, ↓tupQ_tup, ↓tupQ_tpc, ↓prvQ_prv, ↓twoQ_two, ↓lstQ_lst, ↓add_int, ↓add_tup, ↓add_lst, ↓cI_int, ↓mul_int, ↓mul_tup, ↓ix_tup', ↓ix_lst', ↓len_tup', ↓len_lst', ↓tuple_tup, ↓tuple_lst, ↓list_tup, ↓list_lst, ↓sort_lst, ↓sort_tup, ↓max_int, ↓min_int, ↓int_int, ↓in_tup, ↓in_lst, ↓eq_any, ↓ne_any, ↓rev_lst, ↓sl_tup', ↓sl_lst', ↓rg1_int, ↓OR_at0, ↓OR_at1, ↓OR_sub, ↓OR_lt, ↓OR_le, ↓OR_gt, ↓OR_ge, ↓OR_mod, ↓OR_div, ↓OR_some, ↓OR_none, ↓no2_eq, wipeS, pick, List.length_cons, List.length_nil, List.map_cons, List.map_nil, List.replicate, List.cons_append, List.nil_append, Nat.reduceAdd, Nat.reduceSub, Nat.reduceLT, Nat.reduceLeDiff, Nat.lt_add_one, Nat.zero_lt_succ, Nat.zero_add, Nat.zero_le, true_and, and_true, if_true, if_false, reduceIte, forall_const, implies_true, false_imp_iff, Bool.false_eq_true, Bool.true_eq_false, reduceCtorEq, decide_true, decide_false, decide_eq_true_eq, decide_eq_false_iff_not, Bool.not_true, Bool.not_false, Bool.not_eq_false', Bool.not_eq_true', line_le2, line, noOwn_cons, noOwn_nil, nwG_succ, nwG_pub, nwG_un, Int.reduceLE, Int.reduceLT, Int.reduceNeg, Int.reduceAdd, Int.reduceSub, Int.reduceMul, Int.reduceMod, Int.reduceToNat, and_self]
        refine of_pats_mp m2 m5 _ (.inl rfl) fun a b c w p => ?_
        simp only [↓EP_C, ↓EP_var, ↓EP_pub, ↓EP_e1, ↓EP_e2, ↓EP_A, ↓AP_nil, ↓AP_cons, ↓EP_tup, ↓EP_lst, ↓EP_call, ↓EP_callK, ↓EP_if, ↓ZP_none, ↓ZP_some, ↓EP_sl, ↓EP_andV, ↓EP_orV, ↓EP_notV, ↓EP_neg, ↓BP_T, ↓BP_and, ↓BP_or, ↓BP_not, ↓BP_yes, ↓IP_seq, ↓IP_tup, ↓IP_enum, ↓IP_rg1, ↓SP_seq, ↓Th_app, ↓SP_nil, ↓SP_pass, ↓SP_break, ↓SP_cont, ↓SP_if, ↓SP_ret, ↓SP_retN, ↓SP_retO, ↓SP_drop, ↓SP_asg, ↓SP_own, ↓SP_app, ↓SP_ext, ↓SP_popA, ↓SP_move, ↓SP_par, ↓MP_mean, ↓EP_lcI, ↓EP_lc2I, ↓SP_forI, ↓FL_nil, ↓FLk_app, ↓LC_nil, ↓wpQ_nil, ↓wpQ_cons, ↓seG_succ, ↓seG_0, ↓EP_dm, ↓EP_fld, ↓EP_new, ↓dmQ_tpc, ↓dmQ_tup, ↓dmQ_lst, ↓dmQ_int, ↓slG_succ, ↓slG_pub, ↓slG_own, ↓stG_succ, ↓stG_0, ↓asgQ_name, ↓asgQ_names, ↓putQ_nil, ↓putQ_cons, ↓putKQ_pub, ↓putKQ_own, ↓ownG_succ, ↓ownG_own, ↓dQ_val, ↓dQ_prv, ↓dQ_bor, ↓dsQ_nil, ↓dsQ_cons, ↓pubQ_val, ↓pubQ_prv, ↓valsQ_nil, ↓valsQ_val, ↓blQ_bl, ↓intQ_int, ↓rtQ_val, ↓rtQ_prv, ↓seqQ_lst, ↓seqQ_frz, ↓seqQ_prv, ↓tupQ_tup, ↓tupQ_tpc, ↓prvQ_prv, ↓twoQ_two, ↓lstQ_lst, ↓add_int, ↓add_tup, ↓add_lst, ↓cI_int, ↓mul_int, ↓mul_tup, ↓ix_tup', ↓ix_lst', ↓len_tup', ↓len_lst', ↓tuple_tup, ↓tuple_lst, ↓list_tup, ↓list_lst, ↓sort_lst, ↓sort_tup, ↓max_int, ↓min_int, ↓int_int, ↓in_tup, ↓in_lst, ↓eq_any, ↓ne_any, ↓rev_lst, ↓sl_tup', ↓sl_lst', ↓rg1_int, ↓OR_at0, ↓OR_at1, ↓OR_sub, ↓OR_lt, ↓OR_le, ↓OR_gt, ↓OR_ge, ↓OR_mod, ↓OR_div, ↓OR_some, ↓OR_none, ↓no2_eq, wipeS, pick, List.length_cons, List.length_nil, List.map_cons, List.map_nil, List.replicate, List.cons_append, List.nil_append, Nat.reduceAdd, Nat.reduceSub, Nat.reduceLT, Nat.reduceLeDiff, Nat.lt_add_one, Nat.zero_lt_succ, Nat.zero_add, Nat.zero_le, true_and, and_true, if_true, if_false, reduceIte, forall_const, implies_true, false_imp_iff, Bool.false_eq_true, Bool.true_eq_false, reduceCtorEq, decide_true, decide_false, decide_eq_true_eq, decide_eq_false_iff_not, Bool.not_true, Bool.not_false, Bool.not_eq_false', Bool.not_eq_true', line_le2, line, noOwn_cons, noOwn_nil, nwG_succ, nwG_pub, nwG_un, Int.reduceLE, Int.reduceLT, Int.reduceNeg, Int.reduceAdd, Int.reduceSub, Int.reduceMul, Int.reduceMod, Int.reduceToNat, and_self]
        refine free_mp hnb (by omega) ?_
        simp only [↓EP_C, ↓EP_var, ↓EP_pub, ↓EP_e1, ↓EP_e2, ↓EP_A, ↓AP_nil, ↓AP_cons, ↓EP_tup, ↓EP_lst, ↓EP_call, ↓EP_callK, ↓EP_if, ↓ZP_none, ↓ZP_some, ↓EP_sl, ↓EP_andV, ↓EP_orV, ↓EP_notV, ↓EP_neg, ↓BP_T, ↓BP_and, ↓BP_or, ↓BP_not, ↓BP_yes, ↓IP_seq, ↓IP_tup, ↓IP_enum, ↓IP_rg1, ↓SP_seq, ↓Th_app, ↓SP_nil, ↓SP_pass, ↓SP_break, ↓SP_cont, ↓SP_if, ↓SP_ret, ↓SP_retN, ↓SP_retO, ↓SP_drop, ↓SP_asg, ↓SP_own, ↓SP_app, ↓SP_ext, ↓SP_popA, ↓SP_move, ↓SP_par, ↓MP_mean, ↓EP_lcI, ↓EP_lc2I, ↓SP_forI, ↓FL_nil, ↓FLk_app, ↓LC_nil, ↓wpQ_nil, ↓wpQ_cons, ↓seG_succ, ↓seG_0, ↓EP_dm, ↓EP_fld, ↓EP_new, ↓dmQ_tpc, ↓dmQ_tup, ↓dmQ_lst, ↓dmQ_int, ↓slG_succ, ↓slG_pub, ↓slG_own, ↓stG_succ, ↓stG_0, ↓asgQ_name, ↓asgQ_names, ↓putQ_nil, ↓putQ_cons, ↓putKQ_pub, ↓putKQ_own, ↓ownG_succ, ↓ownG_own, ↓dQ_val, ↓dQ_prv, ↓dQ_bor, ↓dsQ_nil, ↓dsQ_cons, ↓pubQ_val, ↓pubQ_prv, ↓valsQ_nil, ↓valsQ_val, ↓blQ_bl, ↓intQ_int, ↓rtQ_val, ↓rtQ_prv, ↓seqQ_lst, ↓seqQ_frz, ↓seqQ_prv, ↓tupQ_tup, ↓tupQ_tpc, ↓prvQ_prv, ↓twoQ_two, ↓lstQ_lst, ↓add_int, ↓add_tup, ↓add_lst, ↓cI_int, ↓mul_int, ↓mul_tup, ↓ix_tup', ↓ix_lst', ↓len_tup', ↓len_lst', ↓tuple_tup, ↓tuple_lst, ↓list_tup, ↓list_lst, ↓sort_lst, ↓sort_tup, ↓max_int, ↓min_int, ↓int_int, ↓in_tup, ↓in_lst, ↓eq_any, ↓ne_any, ↓rev_lst, ↓sl_tup', ↓sl_lst', ↓rg1_int, ↓OR_at0, ↓OR_at1, ↓OR_sub, ↓OR_lt, ↓OR_le, ↓OR_gt, ↓OR_ge, ↓OR_mod, ↓OR_div, ↓OR_some, ↓OR_none, ↓no2_eq, wipeS, pick, List.length_cons, List.length_nil, List.map_cons, List.map_nil, List.replicate, List.cons_append, List.nil_append, Nat.reduceAdd, Nat.reduceSub, Nat.reduceLT, Nat.reduceLeDiff, Nat.lt_add_one, Nat.zero_lt_succ, Nat.zero_add, Nat.zero_le, true_and, and_true, if_true, if_false, reduceIte, forall_const, implies_true, false_imp_iff, Bool.false_eq_true, Bool.true_eq_false, reduceCtorEq, decide_true, decide_false, decide_eq_true_eq, decide_eq_false_iff_not, Bool.not_true, Bool.not_false, Bool.not_eq_false', Bool.not_eq_true', line_le2, line, noOwn_cons, noOwn_nil, nwG_succ, nwG_pub, nwG_un, Int.reduceLE, Int.reduceLT, Int.reduceNeg, Int.reduceAdd, Int.reduceSub, Int.reduceMul, Int.reduceMod, Int.reduceToNat, and_self]
        refine lfree_mp hnb (by omega) ?_
        simp only [↓EP_C, ↓EP_var, ↓EP_pub, ↓EP_e1, ↓EP_e2, ↓EP_A, ↓AP_nil, ↓AP_cons, ↓EP_tup, ↓EP_lst, ↓EP_call, ↓EP_callK, ↓EP_if, ↓ZP_none, ↓ZP_some, ↓EP_sl, ↓EP_andV, ↓EP_orV, ↓EP_notV, ↓EP_neg, ↓BP_T, ↓BP_and, ↓BP_or, ↓BP_not, ↓BP_yes, ↓IP_seq, ↓IP_tup, ↓IP_enum, ↓IP_rg1, ↓SP_seq, ↓Th_app, ↓SP_nil, ↓SP_pass, ↓SP_break, ↓SP_cont, ↓SP_if, ↓SP_ret, ↓SP_retN, ↓SP_retO, ↓SP_drop, ↓SP_asg, ↓SP_own, ↓SP_app, ↓SP_ext, ↓SP_popA, ↓SP_move, ↓SP_par, ↓MP_mean, ↓EP_lcI, ↓EP_lc2I, ↓SP_forI, ↓FL_nil, ↓FLk_app, ↓LC_nil, ↓wpQ_nil, ↓wpQ_cons, ↓seG_succ, ↓seG_0, ↓EP_dm, ↓EP_fld, ↓EP_new, ↓dmQ_tpc, ↓dmQ_tup, ↓dmQ_lst, ↓dmQ_int, ↓slG_succ, ↓slG_pub, ↓slG_own, ↓stG_succ, ↓stG_0, ↓asgQ_name, ↓asgQ_names, ↓putQ_nil, ↓putQ_cons, ↓putKQ_pub, ↓putKQ_own, ↓ownG_succ, ↓ownG_own, ↓dQ_val, ↓dQ_prv, ↓dQ_bor, ↓dsQ_nil, ↓dsQ_cons, ↓pubQ_val, ↓pubQ_prv, ↓valsQ_nil, ↓valsQ_val, ↓blQ_bl, ↓intQ_int, ↓rtQ_val, ↓rtQ_prv, ↓seqQ_lst, ↓seqQ_frz, ↓seqQ_prv, ↓tupQ_tup, ↓tupQ_tpc, ↓prvQ_prv, ↓twoQ_two, ↓lstQ_lst, ↓add_int, ↓add_tup, ↓add_lst, ↓cI_int, ↓mul_int, ↓mul_tup, ↓ix_tup', ↓ix_lst', ↓len_tup', ↓len_lst', ↓tuple_tup, ↓tuple_lst, ↓list_tup, ↓list_lst, ↓sort_lst, ↓sort_tup, ↓max_int, ↓min_int, ↓int_int, ↓in_tup, ↓in_lst, ↓eq_any, ↓ne_any, ↓rev_lst, ↓sl_tup', ↓sl_lst', ↓rg1_int, ↓OR_at0, ↓OR_at1, ↓OR_sub, ↓OR_lt, ↓OR_le, ↓OR_gt, ↓OR_ge, ↓OR_mod, ↓OR_div, ↓OR_some, ↓OR_none, ↓no2_eq, wipeS, pick, List.length_cons, List.length_nil, List.map_cons, List.map_nil, List.replicate, List.cons_append, List.nil_append, Nat.reduceAdd, Nat.reduceSub, Nat.reduceLT, Nat.reduceLeDiff, Nat.lt_add_one, Nat.zero_lt_succ, Nat.zero_add, Nat.zero_le, true_and, and_true, if_true, if_false, reduceIte, forall_const, implies_true, false_imp_iff, Bool.false_eq_true, Bool.true_eq_false, reduceCtorEq, decide_true, decide_false, decide_eq_true_eq, decide_eq_false_iff_not, Bool.not_true, Bool.not_false, Bool.not_eq_false', Bool.not_eq_true', line_le2, line, noOwn_cons, noOwn_nil, nwG_succ, nwG_pub, nwG_un, Int.reduceLE, Int.reduceLT, Int.reduceNeg, Int.reduceAdd, Int.reduceSub, Int.reduceMul, Int.reduceMod, Int.reduceToNat, and_self]
        refine ⟨by omega, free_mp hnb (by omega) ?_⟩
        simp only [↓EP_C, ↓EP_var, ↓EP_pub, ↓EP_e1, ↓EP_e2, ↓EP_A, ↓AP_nil, ↓AP_cons, ↓EP_tup, ↓EP_lst, ↓EP_call, ↓EP_callK, ↓EP_if, ↓ZP_none, ↓ZP_some, ↓EP_sl, ↓EP_andV, ↓EP_orV, ↓EP_notV, ↓EP_neg, ↓BP_T, ↓BP_and, ↓BP_or, ↓BP_not, ↓BP_yes, ↓IP_seq, ↓IP_tup, ↓IP_enum, ↓IP_rg1, ↓SP_seq, ↓Th_app, ↓SP_nil, ↓SP_pass, ↓SP_break, ↓SP_cont, ↓SP_if, ↓SP_ret, ↓SP_retN, ↓SP_retO, ↓SP_drop, ↓SP_asg, ↓SP_own, ↓SP_app, ↓SP_ext, ↓SP_popA, ↓SP_move, ↓SP_par, ↓MP_mean, ↓EP_lcI, ↓EP_lc2I, ↓SP_forI, ↓FL_nil, ↓FLk_app, ↓LC_nil, ↓wpQ_nil, ↓wpQ_cons, ↓seG_succ, ↓seG_0, ↓EP_dm, ↓EP_fld, ↓EP_new, ↓dmQ_tpc, ↓dmQ_tup, ↓dmQ_lst, ↓dmQ_int, ↓slG_succ, ↓slG_pub, ↓slG_own, ↓stG_succ, ↓stG_0, ↓asgQ_name, ↓asgQ_names, ↓putQ_nil, ↓putQ_cons, ↓putKQ_pub, ↓putKQ_own, ↓ownG_succ, ↓ownG_own, ↓dQ_val, ↓dQ_prv, ↓dQ_bor, ↓dsQ_nil, ↓dsQ_cons, ↓pubQ_val, ↓pubQ_prv, ↓valsQ_nil, ↓valsQ_val, ↓blQ_bl, ↓intQ_int, ↓rtQ_val, ↓rtQ_prv, ↓seqQ_lst, ↓seqQ_frz, ↓seqQ_prv, ↓tupQ_tup, ↓tupQ_tpc, ↓prvQ_prv, ↓twoQ_two, ↓lstQ_lst, ↓add_int, ↓add_tup, ↓add_lst, ↓cI_int, ↓mul_int, ↓mul_tup, ↓ix_tup', ↓ix_lst', ↓len_tup', ↓len_lst', ↓tuple_tup, ↓tuple_lst, ↓list_tup, ↓list_lst, ↓sort_lst, ↓sort_tup, ↓max_int, ↓min_int, ↓int_int, ↓in_tup, ↓in_lst, ↓eq_any, ↓ne_any, ↓rev_lst, ↓sl_tup', ↓sl_lst', ↓rg1_int, ↓OR_at0, ↓OR_at1, ↓OR_sub, ↓OR_lt, ↓OR_le, ↓OR_gt, ↓OR_ge, ↓OR_mod, ↓OR_div, ↓OR_some, ↓OR_none, ↓no2_eq, wipeS, pick, List.length_cons, List.length_nil, List.map_cons, List.map_nil, List.replicate, List.cons_append, List.nil_append, Nat.reduceAdd, Nat.reduceSub, Nat.reduceLT, Nat.reduceLeDiff, Nat.lt_add_one, Nat.zero_lt_succ, Nat.zero_add, Nat.zero_le, true_and, and_true, if_true, if_false, reduceIte, forall_const, implies_true, false_imp_iff, Bool.false_eq_true, Bool.true_eq_false, reduceCtorEq, decide_true, decide_false, decide_eq_true_eq, decide_eq_false_iff_not, Bool.not_true, Bool.not_false, Bool.not_eq_false', Bool.not_eq_true', line_le2, line, noOwn_cons, noOwn_nil, nwG_succ, nwG_pub, nwG_un, Int.reduceLE, Int.reduceLT, Int.reduceNeg, Int.reduceAdd, Int.reduceSub, Int.reduceMul, Int.reduceMod, Int.reduceToNat, and_self]
        refine lfree_mp hnb (by omega) ?_
        simp only [↓EP_C, ↓EP_var, ↓EP_pub, ↓EP_e1, ↓EP_e2, ↓EP_A, ↓AP_nil, ↓AP_cons, ↓EP_tup, ↓EP_lst, ↓EP_call, ↓EP_callK, ↓EP_if, ↓ZP_none, ↓ZP_some, ↓EP_sl, ↓EP_andV, ↓EP_orV, ↓EP_notV, ↓EP_neg, ↓BP_T, ↓BP_and, ↓BP_or, ↓BP_not, ↓BP_yes, ↓IP_seq, ↓IP_tup, ↓IP_enum, ↓IP_rg1, ↓SP_seq, ↓Th_app, ↓SP_nil, ↓SP_pass, ↓SP_break, ↓SP_cont, ↓SP_if, ↓SP_ret, ↓SP_retN, ↓SP_retO, ↓SP_drop, ↓SP_asg, ↓SP_own, ↓SP_app, ↓SP_ext, ↓SP_popA, ↓SP_move, ↓SP_par, ↓MP_mean, ↓EP_lcI, ↓EP_lc2I, ↓SP_forI, ↓FL_nil, ↓FLk_app, ↓LC_nil, ↓wpQ_nil, ↓wpQ_cons, ↓seG_succ, ↓seG_0, ↓EP_dm, ↓EP_fld, ↓EP_new, ↓dmQ_tpc, ↓dmQ_tup, ↓dmQ_lst, ↓dmQ_int, ↓slG_succ, ↓slG_pub, ↓slG_own, ↓stG_succ, ↓stG_0, ↓asgQ_name, ↓asgQ_names, ↓putQ_nil, ↓putQ_cons, ↓putKQ_pub, ↓putKQ_own, ↓ownG_succ, ↓ownG_own, ↓dQ_val, ↓dQ_prv, ↓dQ_bor, ↓dsQ_nil, ↓dsQ_cons, ↓pubQ_val, ↓pubQ_prv, ↓valsQ_nil, ↓valsQ_val, ↓blQ_bl, ↓intQ_int, ↓rtQ_val, ↓rtQ_prv, ↓seqQ_lst, ↓seqQ_frz, ↓seqQ_prv, ↓tupQ_tup, ↓tupQ_tpc, ↓prvQ_prv, ↓twoQ_two, ↓lstQ_lst, ↓add_int, ↓add_tup, ↓add_lst, ↓cI_int, ↓mul_int, ↓mul_tup, ↓ix_tup', ↓ix_lst', ↓len_tup', ↓len_lst', ↓tuple_tup, ↓tuple_lst, ↓list_tup, ↓list_lst, ↓sort_lst, ↓sort_tup, ↓max_int, ↓min_int, ↓int_int, ↓in_tup, ↓in_lst, ↓eq_any, ↓ne_any, ↓rev_lst, ↓sl_tup', ↓sl_lst', ↓rg1_int, ↓OR_at0, ↓OR_at1, ↓OR_sub, ↓OR_lt, ↓OR_le, ↓OR_gt, ↓OR_ge, ↓OR_mod, ↓OR_div, ↓OR_some, ↓OR_none, ↓no2_eq, wipeS, pick, List.length_cons, List.length_nil, List.map_cons, List.map_nil, List.replicate, List.cons_append, List.nil_append, Nat.reduceAdd, Nat.reduceSub, Nat.reduceLT, Nat.reduceLeDiff, Nat.lt_add_one, Nat.zero_lt_succ, Nat.zero_add, Nat.zero_le, true_and, and_true, if_true, if_false, reduceIte, forall_const, implies_true, false_imp_iff, Bool.false_eq_true, Bool.true_eq_false, reduceCtorEq, decide_true, decide_false, decide_eq_true_eq, decide_eq_false_iff_not, Bool.not_true, Bool.not_false, Bool.not_eq_false', Bool.not_eq_true', line_le2, line, noOwn_cons, noOwn_nil, nwG_succ, nwG_pub, nwG_un, Int.reduceLE, Int.reduceLT, Int.reduceNeg, Int.reduceAdd, Int.reduceSub, Int.reduceMul, Int.reduceMod, Int.reduceToNat, and_self, List.length_append]
        exact ⟨by omega, _, _, _, rfl, ok_app (ok_app hq (ok_cons (ok_bl _) ok_nil)) (ok_cons (ok_bl _) ok_nil), by simp; omega, D7⟩
      · rintro s u ⟨qs, x10, x11, rfl, hq, hql, D7⟩
        exact ⟨qs, _, _, _, _, _, _, _, _, _, rfl, hq, by rw [hql, hlen, List.length_append]; simp; omega, D7⟩
    have fin : ∀ {N B C : Sls → Amb → Prop} {T : R → Amb → Prop} {t : Tg} {F : SvF} {l : List Vx.D} {s : Sls} {u : Amb}, FL t F l s u N no2 no2 no2 → FL t F l s u N B C T := fun {N B C T t F l s u} ⟨o, e, h⟩ => ⟨o, e, h.imp (fun _ _ h => h) (fun _ _ h => h.elim) (fun _ _ h => h.elim) (fun _ _ h => h.elim)⟩
    simp only [↓EP_C, ↓EP_var, ↓EP_pub, ↓EP_e1, ↓EP_e2, ↓EP_A, ↓AP_nil, ↓AP_cons, ↓EP_tup, ↓EP_lst, ↓EP_call, ↓EP_callK, ↓EP_if, ↓ZP_none, ↓ZP_some, ↓EP_sl, ↓EP_andV, ↓EP_orV, ↓EP_notV, ↓EP_neg, ↓BP_T, ↓BP_and, ↓BP_or, ↓BP_not, ↓BP_yes, ↓IP_seq, ↓IP_tup, ↓IP_enum, ↓IP_rg1, ↓SP_seq, ↓Th_app, ↓SP_nil, ↓SP_pass, ↓SP_break, ↓SP_cont, ↓SP_if, ↓SP_ret, ↓SP_retN, ↓SP_retO, ↓SP_drop, ↓SP_asg, ↓SP_own, ↓SP_app, ↓SP_ext, ↓SP_popA, ↓SP_move, ↓SP_par, ↓MP_mean, ↓EP_lcI, ↓EP_lc2I, ↓SP_forI, ↓FL_nil, ↓FLk_app, ↓LC_nil, ↓wpQ_nil, ↓wpQ_cons, ↓seG_succ, ↓seG_0, ↓EP_dm, ↓EP_fld, ↓EP_new, ↓dmQ_tpc, ↓dmQ_tup, ↓dmQ_lst, ↓dmQ_int, ↓slG_succ, ↓slG_pub, ↓slG_own, ↓stG_succ, ↓stG_0, ↓asgQ_name, ↓asgQ_names, ↓putQ_nil, ↓putQ_cons, ↓putKQ_pub, ↓putKQ_own, ↓ownG_succ, ↓ownG_own, ↓dQ_val, ↓dQ_prv, ↓dQ_bor, ↓dsQ_nil, ↓dsQ_cons, ↓pubQ_val, ↓pubQ_prv, ↓valsQ_nil, ↓valsQ_val, ↓blQ_bl, ↓intQ_int, ↓rtQ_val, ↓rtQ_prv, ↓seqQ_lst, ↓seqQ_frz, ↓seqQ_prv, ↓tupQ_tup, ↓tupQ_tpc, ↓prvQ_prv, ↓twoQ_two, ↓lstQ_lst, ↓add_int, ↓add_tup, ↓add_lst, ↓cI_int, ↓mul_int, ↓mul_tup, ↓ix_tup', ↓ix_lst', ↓len_tup', ↓len_lst', ↓tuple_tup, ↓tuple_lst, ↓list_tup, ↓list_lst, ↓sort_lst, ↓sort_tup, ↓max_int, ↓min_int, ↓int_int, ↓in_tup, ↓in_lst, ↓eq_any, ↓ne_any, ↓rev_lst, ↓sl_tup', ↓sl_lst', ↓rg1_int, ↓OR_at0, ↓OR_at1, ↓OR_sub, ↓OR_lt, ↓OR_le, ↓OR_gt, ↓OR_ge, ↓OR_mod, ↓OR_div, ↓OR_some, ↓OR_none, ↓no2_eq, wipeS, pick, List.length_cons, List.length_nil, List.map_cons, List.map_nil, List.replicate, List.cons_append, List.nil_append, Nat.reduceAdd, Nat.reduceSub, Nat.reduceLT, Nat.reduceLeDiff, Nat.lt_add_one, Nat.zero_lt_succ, Nat.zero_add, Nat.zero_le, true_and, and_true, if_true, if_false, reduceIte, forall_const, implies_true, false_imp_iff, Bool.false_eq_true, Bool.true_eq_false, reduceCtorEq, decide_true, decide_false, decide_eq_true_eq, decide_eq_false_iff_not, Bool.not_true, Bool.not_false, Bool.not_eq_false', Bool.not_eq_true', line_le2, line, noOwn_cons, noOwn_nil, nwG_succ, nwG_pub, nwG_un, Int.reduceLE, Int.reduceLT, Int.reduceNeg, Int.reduceAdd, Int.reduceSub, Int.reduceMul, Int.reduceMod, Int.reduceToNat, and_self]
    exact fin go
  · rintro s u ⟨ps, x3, x4, x5, x6, x7, x8, x9, x10, x11, rfl, hp, hlen, DL⟩
    have hlen : ps.length = 64 := by simpa using hlen
    have l2 : ∀ st, m__law_all_goes [.int 2] st = some (.val (.lst (allp 2)), st) := fun st => m_lall (n := 2) (by decide) st
    have l3 : ∀ st, m__law_all_goes [.int 3] st = some (.val (.lst (allp 3)), st) := fun st => m_lall (n := 3) (by decide) st
    have l5 : ∀ st, m__law_all_goes [.int 5] st = some (.val (.lst (allp 5)), st) := fun st => m_lall (n := 5) (by decide) st
    simp only [↓EP_C, ↓EP_var, ↓EP_pub, ↓EP_e1, ↓EP_e2, ↓EP_A, ↓AP_nil, ↓AP_cons, ↓EP_tup, ↓EP_lst, ↓EP_call, ↓EP_callK, ↓EP_if, ↓ZP_none, ↓ZP_some, ↓EP_sl, ↓EP_andV, ↓EP_orV, ↓EP_notV, ↓EP_neg, ↓BP_T, ↓BP_and, ↓BP_or, ↓BP_not, ↓BP_yes, ↓IP_seq, ↓IP_tup, ↓IP_enum, ↓IP_rg1, ↓SP_seq, ↓Th_app, ↓SP_nil, ↓SP_pass, ↓SP_break, ↓SP_cont, ↓SP_if, ↓SP_ret, ↓SP_retN, ↓SP_retO, ↓SP_drop, ↓SP_asg, ↓SP_own, ↓SP_app, ↓SP_ext, ↓SP_popA, ↓SP_move, ↓SP_par, ↓MP_mean, ↓EP_lcI, ↓EP_lc2I, ↓SP_forI, ↓FL_nil, ↓FLk_app, ↓LC_nil, ↓wpQ_nil, ↓wpQ_cons, ↓seG_succ, ↓seG_0, ↓EP_dm, ↓EP_fld, ↓EP_new, ↓dmQ_tpc, ↓dmQ_tup, ↓dmQ_lst, ↓dmQ_int, ↓slG_succ, ↓slG_pub, ↓slG_own, ↓stG_succ, ↓stG_0, ↓asgQ_name, ↓asgQ_names, ↓putQ_nil, ↓putQ_cons, ↓putKQ_pub, ↓putKQ_own, ↓ownG_succ, ↓ownG_own, ↓dQ_val, ↓dQ_prv, ↓dQ_bor, ↓dsQ_nil, ↓dsQ_cons, ↓pubQ_val, ↓pubQ_prv, ↓valsQ_nil, ↓valsQ_val, ↓blQ_bl, ↓intQ_int, ↓rtQ_val, ↓rtQ_prv, ↓seqQ_lst, ↓seqQ_frz, ↓seqQ_prv, ↓tupQ_tup, ↓tupQ_tpc, ↓prvQ_prv, ↓twoQ_two, ↓lstQ_lst, ↓add_int, ↓add_tup, ↓add_lst, ↓cI_int, ↓mul_int, ↓mul_tup, ↓ix_tup', ↓ix_lst', ↓len_tup', ↓len_lst', ↓tuple_tup, ↓tuple_lst, ↓list_tup, ↓list_lst, ↓sort_lst, ↓sort_tup, ↓max_int, ↓min_int, ↓int_int, ↓in_tup, ↓in_lst, ↓eq_any, ↓ne_any, ↓rev_lst, ↓sl_tup', ↓sl_lst', ↓rg1_int, ↓OR_at0, ↓OR_at1, ↓OR_sub, ↓OR_lt, ↓OR_le, ↓OR_gt, ↓OR_ge, ↓OR_mod, ↓OR_div, ↓OR_some, ↓OR_none, ↓no2_eq, wipeS, pick, List.length_cons, List.length_nil, List.map_cons, List.map_nil, List.replicate, List.cons_append, List.nil_append, Nat.reduceAdd, Nat.reduceSub, Nat.reduceLT, Nat.reduceLeDiff, Nat.lt_add_one, Nat.zero_lt_succ, Nat.zero_add, Nat.zero_le, true_and, and_true, if_true, if_false, reduceIte, forall_const, implies_true, false_imp_iff, Bool.false_eq_true, Bool.true_eq_false, reduceCtorEq, decide_true, decide_false, decide_eq_true_eq, decide_eq_false_iff_not, Bool.not_true, Bool.not_false, Bool.not_eq_false', Bool.not_eq_true', line_le2, line, noOwn_cons, noOwn_nil, nwG_succ, nwG_pub, nwG_un, Int.reduceLE, Int.reduceLT, Int.reduceNeg, Int.reduceAdd, Int.reduceSub, Int.reduceMul, Int.reduceMod, Int.reduceToNat, and_self, MP_of (l2 _), MP_of (l3 _), allp2, allp3]
    refine FL_for knD KN (fun dd _ s u => ∃ (qs : List Vx.D) (x5 x10 x17 : Sl), s = [.pub (.frz (ns.map .int)), .pub (.loc 1), .own qs, x3, x4, x5, x6, x7, x8, x9, x10, x11, .pub nbD, .pub (pd ([], [0])), .pub (pd ([1], [0])), .pub (pd ([1], [])), .pub (.lst (KN.map knD)), x17, .un, .un, .un] ∧ PairsOk qs ∧ qs.length = 64 + dd.length) rfl ⟨ps, _, _, _, rfl, hp, hlen⟩ ?_ ?_
    · rintro dd k rest hx s u ⟨qs, x5, x10, x17, rfl, hq, hql⟩
      have hk := KN_ok k (by rw [hx]; simp)
      have hdd : dd.length ≤ 6 := by
        have := congrArg List.length hx
        simp [KN] at this
        omega
      simp only [knD, ↓EP_C, ↓EP_var, ↓EP_pub, ↓EP_e1, ↓EP_e2, ↓EP_A, ↓AP_nil, ↓AP_cons, ↓EP_tup, ↓EP_lst, ↓EP_call, ↓EP_callK, ↓EP_if, ↓ZP_none, ↓ZP_some, ↓EP_sl, ↓EP_andV, ↓EP_orV, ↓EP_notV, ↓EP_neg, ↓BP_T, ↓BP_and, ↓BP_or, ↓BP_not, ↓BP_yes, ↓IP_seq, ↓IP_tup, ↓IP_enum, ↓IP_rg1, ↓SP_seq, ↓Th_app, ↓SP_nil, ↓SP_pass, ↓SP_break, ↓SP_cont, ↓SP_if, ↓SP_ret, ↓SP_retN, ↓SP_retO, ↓SP_drop, ↓SP_asg, ↓SP_own, ↓SP_app, ↓SP_ext, ↓SP_popA, ↓SP_move, ↓SP_par, ↓MP_mean, ↓EP_lcI, ↓EP_lc2I, ↓SP_forI, ↓FL_nil, ↓FLk_app, ↓LC_nil, ↓wpQ_nil, ↓wpQ_cons, ↓seG_succ, ↓seG_0, ↓EP_dm, ↓EP_fld, ↓EP_new, ↓dmQ_tpc, ↓dmQ_tup, ↓dmQ_lst, ↓dmQ_int, ↓slG_succ, ↓slG_pub, ↓slG_own, ↓stG_succ, ↓stG_0, ↓asgQ_name, ↓asgQ_names, ↓putQ_nil, ↓putQ_cons, ↓putKQ_pub, ↓putKQ_own, ↓ownG_succ, ↓ownG_own, ↓dQ_val, ↓dQ_prv, ↓dQ_bor, ↓dsQ_nil, ↓dsQ_cons, ↓pubQ_val, ↓pubQ_prv, ↓valsQ_nil, ↓valsQ_val, ↓blQ_bl, ↓intQ_int, ↓rtQ_val, ↓rtQ_prv, ↓seqQ_lst, ↓seqQ_frz, ↓seqQ_prv, ↓tupQ_tup, ↓tupQ_tpc, ↓prvQ_prv, ↓twoQ_two, ↓lstQ_lst, ↓add_int, ↓add_tup, ↓add_lst, ↓cI_int, ↓mul_int, ↓mul_tup, ↓ix_tup', ↓ix_lst', ↓len_tup', ↓len_lst', ↓tuple_tup, ↓tuple_lst, ↓list_tup, ↓list_lst, ↓sort_lst, ↓sort_tup, ↓max_int, ↓min_int, ↓int_int, ↓in_tup, ↓in_lst, ↓eq_any, ↓ne_any, ↓rev_lst, ↓sl_tup', ↓sl_lst', ↓rg1_int, ↓OR_at0, ↓OR_at1, ↓OR_sub, ↓OR_lt, ↓OR_le, ↓OR_gt, ↓OR_ge, ↓OR_mod, ↓OR_div, ↓OR_some, ↓OR_none, ↓no2_eq, wipeS, pick, List.length_cons, List.length_nil, List.map_cons, List.map_nil, List.replicate, List.cons_append, List.nil_append, Nat.reduceAdd, Nat.reduceSub, Nat.reduceLT, Nat.reduceLeDiff, Nat.lt_add_one, Nat.zero_lt_succ, Nat.zero_add, Nat.zero_le, true_and, and_true, if_true, if_false, reduceIte, forall_const, implies_true, false_imp_iff, Bool.false_eq_true, Bool.true_eq_false, reduceCtorEq, decide_true, decide_false, decide_eq_true_eq, decide_eq_false_iff_not, Bool.not_true, Bool.not_false, Bool.not_eq_false', Bool.not_eq_true', line_le2, line, noOwn_cons, noOwn_nil, nwG_succ, nwG_pub, nwG_un, Int.reduceLE, Int.reduceLT, Int.reduceNeg, Int.reduceAdd, Int.reduceSub, Int.reduceMul, Int.reduceMod, Int.reduceToNat, and_self]
      refine of_pats_mp (m := 3) (by decide) (by decide) _ (.inl rfl) fun a b c w p => ?_
      simp only [↓EP_C, ↓EP_var, ↓EP_pub, ↓EP_e1, ↓EP_e2, ↓EP_A, ↓AP_nil, ↓AP_cons, ↓EP_tup, ↓EP_lst, ↓EP_call, ↓EP_callK, ↓EP_if, ↓ZP_none, ↓ZP_some, ↓EP_sl, ↓EP_andV, ↓EP_orV, ↓EP_notV, ↓EP_neg, ↓BP_T, ↓BP_and, ↓BP_or, ↓BP_not, ↓BP_yes, ↓IP_seq, ↓IP_tup, ↓IP_enum, ↓IP_rg1, ↓SP_seq, ↓Th_app, ↓SP_nil, ↓SP_pass, ↓SP_break, ↓SP_cont, ↓SP_if, ↓SP_ret, ↓SP_retN, ↓SP_retO, ↓SP_drop, ↓SP_asg, ↓SP_own, ↓SP_app, ↓SP_ext, ↓SP_popA, ↓SP_move, ↓SP_par, ↓MP_mean, ↓EP_lcI, ↓EP_lc2I, ↓SP_forI, ↓FL_nil, ↓FLk_app, ↓LC_nil, ↓wpQ_nil, ↓wpQ_cons, ↓seG_succ, ↓seG_0, ↓EP_dm, ↓EP_fld, ↓EP_new, ↓dmQ_tpc, ↓dmQ_tup, ↓dmQ_lst, ↓dmQ_int, ↓slG_succ, ↓slG_pub, ↓slG_own, ↓stG_succ, ↓stG_0, ↓asgQ_name, ↓asgQ_names, ↓putQ_nil, ↓putQ_cons, ↓putKQ_pub, ↓putKQ_own, ↓ownG_succ, ↓ownG_own, ↓dQ_val, ↓dQ_prv, ↓dQ_bor, ↓dsQ_nil, ↓dsQ_cons, ↓pubQ_val, ↓pubQ_prv, ↓valsQ_nil, ↓valsQ_val, ↓blQ_bl, ↓intQ_int, ↓rtQ_val, ↓rtQ_prv, ↓seqQ_lst, ↓seqQ_frz, ↓seqQ_prv, ↓tupQ_tup, ↓tupQ_tpc, ↓prvQ_prv, ↓twoQ_two, ↓lstQ_lst, ↓add_int, ↓add_tup, ↓add_lst, ↓cI_int, ↓mul_int, ↓mul_tup, ↓ix_tup', ↓ix_lst', ↓len_tup', ↓len_lst', ↓tuple_tup, ↓tuple_lst, ↓list_tup, ↓list_lst, ↓sort_lst, ↓sort_tup, ↓max_int, ↓min_int, ↓int_int, ↓in_tup, ↓in_lst, ↓eq_any, ↓ne_any, ↓rev_lst, ↓sl_tup', ↓sl_lst', ↓rg1_int, ↓OR_at0, ↓OR_at1, ↓OR_sub, ↓OR_lt, ↓OR_le, ↓OR_gt, ↓OR_ge, ↓OR_mod, ↓OR_div, ↓OR_some, ↓OR_none, ↓no2_eq, wipeS, pick, List.length_cons, List.length_nil, List.map_cons, List.map_nil, List.replicate, List.cons_append, List.nil_append, Nat.reduceAdd, Nat.reduceSub, Nat.reduceLT, Nat.reduceLeDiff, Nat.lt_add_one, Nat.zero_lt_succ, Nat.zero_add, Nat.zero_le, true_and, and_true, if_true, if_false, reduceIte, forall_const, implies_true, false_imp_iff, Bool.false_eq_true, Bool.true_eq_false, reduceCtorEq, decide_true, decide_false, decide_eq_true_eq, decide_eq_false_iff_not, Bool.not_true, Bool.not_false, Bool.not_eq_false', Bool.not_eq_true', line_le2, line, noOwn_cons, noOwn_nil, nwG_succ, nwG_pub, nwG_un, Int.reduceLE, Int.reduceLT, Int.reduceNeg, Int.reduceAdd, Int.reduceSub, Int.reduceMul, Int.reduceMod, Int.reduceToNat, and_self]
      refine free_mp hk.1 hk.2.2 ?_
      simp only [↓EP_C, ↓EP_var, ↓EP_pub, ↓EP_e1, ↓EP_e2, ↓EP_A, ↓AP_nil, ↓AP_cons, ↓EP_tup, ↓EP_lst, ↓EP_call, ↓EP_callK, ↓EP_if, ↓ZP_none, ↓ZP_some, ↓EP_sl, ↓EP_andV, ↓EP_orV, ↓EP_notV, ↓EP_neg, ↓BP_T, ↓BP_and, ↓BP_or, ↓BP_not, ↓BP_yes, ↓IP_seq, ↓IP_tup, ↓IP_enum, ↓IP_rg1, ↓SP_seq, ↓Th_app, ↓SP_nil, ↓SP_pass, ↓SP_break, ↓SP_cont, ↓SP_if, ↓SP_ret, ↓SP_retN, ↓SP_retO, ↓SP_drop, ↓SP_asg, ↓SP_own, ↓SP_app, ↓SP_ext, ↓SP_popA, ↓SP_move, ↓SP_par, ↓MP_mean, ↓EP_lcI, ↓EP_lc2I, ↓SP_forI, ↓FL_nil, ↓FLk_app, ↓LC_nil, ↓wpQ_nil, ↓wpQ_cons, ↓seG_succ, ↓seG_0, ↓EP_dm, ↓EP_fld, ↓EP_new, ↓dmQ_tpc, ↓dmQ_tup, ↓dmQ_lst, ↓dmQ_int, ↓slG_succ, ↓slG_pub, ↓slG_own, ↓stG_succ, ↓stG_0, ↓asgQ_name, ↓asgQ_names, ↓putQ_nil, ↓putQ_cons, ↓putKQ_pub, ↓putKQ_own, ↓ownG_succ, ↓ownG_own, ↓dQ_val, ↓dQ_prv, ↓dQ_bor, ↓dsQ_nil, ↓dsQ_cons, ↓pubQ_val, ↓pubQ_prv, ↓valsQ_nil, ↓valsQ_val, ↓blQ_bl, ↓intQ_int, ↓rtQ_val, ↓rtQ_prv, ↓seqQ_lst, ↓seqQ_frz, ↓seqQ_prv, ↓tupQ_tup, ↓tupQ_tpc, ↓prvQ_prv, ↓twoQ_two, ↓lstQ_lst, ↓add_int, ↓add_tup, ↓add_lst, ↓cI_int, ↓mul_int, ↓mul_tup, ↓ix_tup', ↓ix_lst', ↓len_tup', ↓len_lst', ↓tuple_tup, ↓tuple_lst, ↓list_tup, ↓list_lst, ↓sort_lst, ↓sort_tup, ↓max_int, ↓min_int, ↓int_int, ↓in_tup, ↓in_lst, ↓eq_any, ↓ne_any, ↓rev_lst, ↓sl_tup', ↓sl_lst', ↓rg1_int, ↓OR_at0, ↓OR_at1, ↓OR_sub, ↓OR_lt, ↓OR_le, ↓OR_gt, ↓OR_ge, ↓OR_mod, ↓OR_div, ↓OR_some, ↓OR_none, ↓no2_eq, wipeS, pick, List.length_cons, List.length_nil, List.map_cons, List.map_nil, List.replicate, List.cons_append, List.nil_append, Nat.reduceAdd, Nat.reduceSub, Nat.reduceLT, Nat.reduceLeDiff, Nat.lt_add_one, Nat.zero_lt_succ, Nat.zero_add, Nat.zero_le, true_and, and_true, if_true, if_false, reduceIte, forall_const, implies_true, false_imp_iff, Bool.false_eq_true, Bool.true_eq_false, reduceCtorEq, decide_true, decide_false, decide_eq_true_eq, decide_eq_false_iff_not, Bool.not_true, Bool.not_false, Bool.not_eq_false', Bool.not_eq_true', line_le2, line, noOwn_cons, noOwn_nil, nwG_succ, nwG_pub, nwG_un, Int.reduceLE, Int.reduceLT, Int.reduceNeg, Int.reduceAdd, Int.reduceSub, Int.reduceMul, Int.reduceMod, Int.reduceToNat, and_self]
      exact ⟨by omega, _, _, _, _, rfl, ok_app hq (ok_cons2 (by rw [hk.2.1]) (ok_bl _) ok_nil), by simp; omega⟩
    · rintro s u ⟨qs, x5, x10, x17, rfl, hq, hql⟩
      have hql : qs.length = 70 := by simpa [KN] using hql
      simp only [nbD, ↓EP_C, ↓EP_var, ↓EP_pub, ↓EP_e1, ↓EP_e2, ↓EP_A, ↓AP_nil, ↓AP_cons, ↓EP_tup, ↓EP_lst, ↓EP_call, ↓EP_callK, ↓EP_if, ↓ZP_none, ↓ZP_some, ↓EP_sl, ↓EP_andV, ↓EP_orV, ↓EP_notV, ↓EP_neg, ↓BP_T, ↓BP_and, ↓BP_or, ↓BP_not, ↓BP_yes, ↓IP_seq, ↓IP_tup, ↓IP_enum, ↓IP_rg1, ↓SP_seq, ↓Th_app, ↓SP_nil, ↓SP_pass, ↓SP_break, ↓SP_cont, ↓SP_if, ↓SP_ret, ↓SP_retN, ↓SP_retO, ↓SP_drop, ↓SP_asg, ↓SP_own, ↓SP_app, ↓SP_ext, ↓SP_popA, ↓SP_move, ↓SP_par, ↓MP_mean, ↓EP_lcI, ↓EP_lc2I, ↓SP_forI, ↓FL_nil, ↓FLk_app, ↓LC_nil, ↓wpQ_nil, ↓wpQ_cons, ↓seG_succ, ↓seG_0, ↓EP_dm, ↓EP_fld, ↓EP_new, ↓dmQ_tpc, ↓dmQ_tup, ↓dmQ_lst, ↓dmQ_int, ↓slG_succ, ↓slG_pub, ↓slG_own, ↓stG_succ, ↓stG_0, ↓asgQ_name, ↓asgQ_names, ↓putQ_nil, ↓putQ_cons, ↓putKQ_pub, ↓putKQ_own, ↓ownG_succ, ↓ownG_own, ↓dQ_val, ↓dQ_prv, ↓dQ_bor, ↓dsQ_nil, ↓dsQ_cons, ↓pubQ_val, ↓pubQ_prv, ↓valsQ_nil, ↓valsQ_val, ↓blQ_bl, ↓intQ_int, ↓rtQ_val, ↓rtQ_prv, ↓seqQ_lst, ↓seqQ_frz, ↓seqQ_prv, ↓tupQ_tup, ↓tupQ_tpc, ↓prvQ_prv, ↓twoQ_two, ↓lstQ_lst, ↓add_int, ↓add_tup, ↓add_lst, ↓cI_int, ↓mul_int, ↓mul_tup, ↓ix_tup', ↓ix_lst', ↓len_tup', ↓len_lst', ↓tuple_tup, ↓tuple_lst, ↓list_tup, ↓list_lst, ↓sort_lst, ↓sort_tup, ↓max_int, ↓min_int, ↓int_int, ↓in_tup, ↓in_lst, ↓eq_any, ↓ne_any, ↓rev_lst, ↓sl_tup', ↓sl_lst', ↓rg1_int, ↓OR_at0, ↓OR_at1, ↓OR_sub, ↓OR_lt, ↓OR_le, ↓OR_gt, ↓OR_ge, ↓OR_mod, ↓OR_div, ↓OR_some, ↓OR_none, ↓no2_eq, wipeS, pick, List.length_cons, List.length_nil, List.map_cons, List.map_nil, List.replicate, List.cons_append, List.nil_append, Nat.reduceAdd, Nat.reduceSub, Nat.reduceLT, Nat.reduceLeDiff, Nat.lt_add_one, Nat.zero_lt_succ, Nat.zero_add, Nat.zero_le, true_and, and_true, if_true, if_false, reduceIte, forall_const, implies_true, false_imp_iff, Bool.false_eq_true, Bool.true_eq_false, reduceCtorEq, decide_true, decide_false, decide_eq_true_eq, decide_eq_false_iff_not, Bool.not_true, Bool.not_false, Bool.not_eq_false', Bool.not_eq_true', line_le2, line, noOwn_cons, noOwn_nil, nwG_succ, nwG_pub, nwG_un, Int.reduceLE, Int.reduceLT, Int.reduceNeg, Int.reduceAdd, Int.reduceSub, Int.reduceMul, Int.reduceMod, Int.reduceToNat, and_self]
      refine LC_all (fun (i : Nat) => Vx.D.int (i : Int)) (List.range 4) (fun i => pd ([(i : Int)], [])) (rg_n 4) (fun i _ => by simp only [↓EP_C, ↓EP_var, ↓EP_pub, ↓EP_e1, ↓EP_e2, ↓EP_A, ↓AP_nil, ↓AP_cons, ↓EP_tup, ↓EP_lst, ↓EP_call, ↓EP_callK, ↓EP_if, ↓ZP_none, ↓ZP_some, ↓EP_sl, ↓EP_andV, ↓EP_orV, ↓EP_notV, ↓EP_neg, ↓BP_T, ↓BP_and, ↓BP_or, ↓BP_not, ↓BP_yes, ↓IP_seq, ↓IP_tup, ↓IP_enum, ↓IP_rg1, ↓SP_seq, ↓Th_app, ↓SP_nil, ↓SP_pass, ↓SP_break, ↓SP_cont, ↓SP_if, ↓SP_ret, ↓SP_retN, ↓SP_retO, ↓SP_drop, ↓SP_asg, ↓SP_own, ↓SP_app, ↓SP_ext, ↓SP_popA, ↓SP_move, ↓SP_par, ↓MP_mean, ↓EP_lcI, ↓EP_lc2I, ↓SP_forI, ↓FL_nil, ↓FLk_app, ↓LC_nil, ↓wpQ_nil, ↓wpQ_cons, ↓seG_succ, ↓seG_0, ↓EP_dm, ↓EP_fld, ↓EP_new, ↓dmQ_tpc, ↓dmQ_tup, ↓dmQ_lst, ↓dmQ_int, ↓slG_succ, ↓slG_pub, ↓slG_own, ↓stG_succ, ↓stG_0, ↓asgQ_name, ↓asgQ_names, ↓putQ_nil, ↓putQ_cons, ↓putKQ_pub, ↓putKQ_own, ↓ownG_succ, ↓ownG_own, ↓dQ_val, ↓dQ_prv, ↓dQ_bor, ↓dsQ_nil, ↓dsQ_cons, ↓pubQ_val, ↓pubQ_prv, ↓valsQ_nil, ↓valsQ_val, ↓blQ_bl, ↓intQ_int, ↓rtQ_val, ↓rtQ_prv, ↓seqQ_lst, ↓seqQ_frz, ↓seqQ_prv, ↓tupQ_tup, ↓tupQ_tpc, ↓prvQ_prv, ↓twoQ_two, ↓lstQ_lst, ↓add_int, ↓add_tup, ↓add_lst, ↓cI_int, ↓mul_int, ↓mul_tup, ↓ix_tup', ↓ix_lst', ↓len_tup', ↓len_lst', ↓tuple_tup, ↓tuple_lst, ↓list_tup, ↓list_lst, ↓sort_lst, ↓sort_tup, ↓max_int, ↓min_int, ↓int_int, ↓in_tup, ↓in_lst, ↓eq_any, ↓ne_any, ↓rev_lst, ↓sl_tup', ↓sl_lst', ↓rg1_int, ↓OR_at0, ↓OR_at1, ↓OR_sub, ↓OR_lt, ↓OR_le, ↓OR_gt, ↓OR_ge, ↓OR_mod, ↓OR_div, ↓OR_some, ↓OR_none, ↓no2_eq, wipeS, pick, List.length_cons, List.length_nil, List.map_cons, List.map_nil, List.replicate, List.cons_append, List.nil_append, Nat.reduceAdd, Nat.reduceSub, Nat.reduceLT, Nat.reduceLeDiff, Nat.lt_add_one, Nat.zero_lt_succ, Nat.zero_add, Nat.zero_le, true_and, and_true, if_true, if_false, reduceIte, forall_const, implies_true, false_imp_iff, Bool.false_eq_true, Bool.true_eq_false, reduceCtorEq, decide_true, decide_false, decide_eq_true_eq, decide_eq_false_iff_not, Bool.not_true, Bool.not_false, Bool.not_eq_false', Bool.not_eq_true', line_le2, line, noOwn_cons, noOwn_nil, nwG_succ, nwG_pub, nwG_un, Int.reduceLE, Int.reduceLT, Int.reduceNeg, Int.reduceAdd, Int.reduceSub, Int.reduceMul, Int.reduceMod, Int.reduceToNat, and_self]; rfl) ?_
      rw [show (Vx.D.tup [.tup [], .tup []] :: (List.range 4).map fun (i : Nat) => pd ([(i : Int)], [])) = O5.map pd from rfl]
      refine ⟨by decide, by decide, ?_⟩
      have er := m_road (pats := O5) (rs := [(0, 1), (1, 2)]) O5_short (by decide) (by decide)
      rw [O5_out] at er
      have er : ∀ st, m_road_goes [.tup (O5.map pd), .tup [.tup [.int 0, .int 1], .tup [.int 1, .int 2]]] st = some (.val (.tup (O5g.map rd)), st) := er
      simp only [↓EP_C, ↓EP_var, ↓EP_pub, ↓EP_e1, ↓EP_e2, ↓EP_A, ↓AP_nil, ↓AP_cons, ↓EP_tup, ↓EP_lst, ↓EP_call, ↓EP_callK, ↓EP_if, ↓ZP_none, ↓ZP_some, ↓EP_sl, ↓EP_andV, ↓EP_orV, ↓EP_notV, ↓EP_neg, ↓BP_T, ↓BP_and, ↓BP_or, ↓BP_not, ↓BP_yes, ↓IP_seq, ↓IP_tup, ↓IP_enum, ↓IP_rg1, ↓SP_seq, ↓Th_app, ↓SP_nil, ↓SP_pass, ↓SP_break, ↓SP_cont, ↓SP_if, ↓SP_ret, ↓SP_retN, ↓SP_retO, ↓SP_drop, ↓SP_asg, ↓SP_own, ↓SP_app, ↓SP_ext, ↓SP_popA, ↓SP_move, ↓SP_par, ↓MP_mean, ↓EP_lcI, ↓EP_lc2I, ↓SP_forI, ↓FL_nil, ↓FLk_app, ↓LC_nil, ↓wpQ_nil, ↓wpQ_cons, ↓seG_succ, ↓seG_0, ↓EP_dm, ↓EP_fld, ↓EP_new, ↓dmQ_tpc, ↓dmQ_tup, ↓dmQ_lst, ↓dmQ_int, ↓slG_succ, ↓slG_pub, ↓slG_own, ↓stG_succ, ↓stG_0, ↓asgQ_name, ↓asgQ_names, ↓putQ_nil, ↓putQ_cons, ↓putKQ_pub, ↓putKQ_own, ↓ownG_succ, ↓ownG_own, ↓dQ_val, ↓dQ_prv, ↓dQ_bor, ↓dsQ_nil, ↓dsQ_cons, ↓pubQ_val, ↓pubQ_prv, ↓valsQ_nil, ↓valsQ_val, ↓blQ_bl, ↓intQ_int, ↓rtQ_val, ↓rtQ_prv, ↓seqQ_lst, ↓seqQ_frz, ↓seqQ_prv, ↓tupQ_tup, ↓tupQ_tpc, ↓prvQ_prv, ↓twoQ_two, ↓lstQ_lst, ↓add_int, ↓add_tup, ↓add_lst, ↓cI_int, ↓mul_int, ↓mul_tup, ↓ix_tup', ↓ix_lst', ↓len_tup', ↓len_lst', ↓tuple_tup, ↓tuple_lst, ↓list_tup, ↓list_lst, ↓sort_lst, ↓sort_tup, ↓max_int, ↓min_int, ↓int_int, ↓in_tup, ↓in_lst, ↓eq_any, ↓ne_any, ↓rev_lst, ↓sl_tup', ↓sl_lst', ↓rg1_int, ↓OR_at0, ↓OR_at1, ↓OR_sub, ↓OR_lt, ↓OR_le, ↓OR_gt, ↓OR_ge, ↓OR_mod, ↓OR_div, ↓OR_some, ↓OR_none, ↓no2_eq, wipeS, pick, List.length_cons, List.length_nil, List.map_cons, List.map_nil, List.replicate, List.cons_append, List.nil_append, Nat.reduceAdd, Nat.reduceSub, Nat.reduceLT, Nat.reduceLeDiff, Nat.lt_add_one, Nat.zero_lt_succ, Nat.zero_add, Nat.zero_le, true_and, and_true, if_true, if_false, reduceIte, forall_const, implies_true, false_imp_iff, Bool.false_eq_true, Bool.true_eq_false, reduceCtorEq, decide_true, decide_false, decide_eq_true_eq, decide_eq_false_iff_not, Bool.not_true, Bool.not_false, Bool.not_eq_false', Bool.not_eq_true', line_le2, line, noOwn_cons, noOwn_nil, nwG_succ, nwG_pub, nwG_un, Int.reduceLE, Int.reduceLT, Int.reduceNeg, Int.reduceAdd, Int.reduceSub, Int.reduceMul, Int.reduceMod, Int.reduceToNat, and_self, MP_of (er _)]
      refine of_pats_mp (m := 4) (by decide) (by decide) _ (.inr rfl) fun a b c w p => ?_
      simp only [↓EP_C, ↓EP_var, ↓EP_pub, ↓EP_e1, ↓EP_e2, ↓EP_A, ↓AP_nil, ↓AP_cons, ↓EP_tup, ↓EP_lst, ↓EP_call, ↓EP_callK, ↓EP_if, ↓ZP_none, ↓ZP_some, ↓EP_sl, ↓EP_andV, ↓EP_orV, ↓EP_notV, ↓EP_neg, ↓BP_T, ↓BP_and, ↓BP_or, ↓BP_not, ↓BP_yes, ↓IP_seq, ↓IP_tup, ↓IP_enum, ↓IP_rg1, ↓SP_seq, ↓Th_app, ↓SP_nil, ↓SP_pass, ↓SP_break, ↓SP_cont, ↓SP_if, ↓SP_ret, ↓SP_retN, ↓SP_retO, ↓SP_drop, ↓SP_asg, ↓SP_own, ↓SP_app, ↓SP_ext, ↓SP_popA, ↓SP_move, ↓SP_par, ↓MP_mean, ↓EP_lcI, ↓EP_lc2I, ↓SP_forI, ↓FL_nil, ↓FLk_app, ↓LC_nil, ↓wpQ_nil, ↓wpQ_cons, ↓seG_succ, ↓seG_0, ↓EP_dm, ↓EP_fld, ↓EP_new, ↓dmQ_tpc, ↓dmQ_tup, ↓dmQ_lst, ↓dmQ_int, ↓slG_succ, ↓slG_pub, ↓slG_own, ↓stG_succ, ↓stG_0, ↓asgQ_name, ↓asgQ_names, ↓putQ_nil, ↓putQ_cons, ↓putKQ_pub, ↓putKQ_own, ↓ownG_succ, ↓ownG_own, ↓dQ_val, ↓dQ_prv, ↓dQ_bor, ↓dsQ_nil, ↓dsQ_cons, ↓pubQ_val, ↓pubQ_prv, ↓valsQ_nil, ↓valsQ_val, ↓blQ_bl, ↓intQ_int, ↓rtQ_val, ↓rtQ_prv, ↓seqQ_lst, ↓seqQ_frz, ↓seqQ_prv, ↓tupQ_tup, ↓tupQ_tpc, ↓prvQ_prv, ↓twoQ_two, ↓lstQ_lst, ↓add_int, ↓add_tup, ↓add_lst, ↓cI_int, ↓mul_int, ↓mul_tup, ↓ix_tup', ↓ix_lst', ↓len_tup', ↓len_lst', ↓tuple_tup, ↓tuple_lst, ↓list_tup, ↓list_lst, ↓sort_lst, ↓sort_tup, ↓max_int, ↓min_int, ↓int_int, ↓in_tup, ↓in_lst, ↓eq_any, ↓ne_any, ↓rev_lst, ↓sl_tup', ↓sl_lst', ↓rg1_int, ↓OR_at0, ↓OR_at1, ↓OR_sub, ↓OR_lt, ↓OR_le, ↓OR_gt, ↓OR_ge, ↓OR_mod, ↓OR_div, ↓OR_some, ↓OR_none, ↓no2_eq, wipeS, pick, List.length_cons, List.length_nil, List.map_cons, List.map_nil, List.replicate, List.cons_append, List.nil_append, Nat.reduceAdd, Nat.reduceSub, Nat.reduceLT, Nat.reduceLeDiff, Nat.lt_add_one, Nat.zero_lt_succ, Nat.zero_add, Nat.zero_le, true_and, and_true, if_true, if_false, reduceIte, forall_const, implies_true, false_imp_iff, Bool.false_eq_true, Bool.true_eq_false, reduceCtorEq, decide_true, decide_false, decide_eq_true_eq, decide_eq_false_iff_not, Bool.not_true, Bool.not_false, Bool.not_eq_false', Bool.not_eq_true', line_le2, line, noOwn_cons, noOwn_nil, nwG_succ, nwG_pub, nwG_un, Int.reduceLE, Int.reduceLT, Int.reduceNeg, Int.reduceAdd, Int.reduceSub, Int.reduceMul, Int.reduceMod, Int.reduceToNat, and_self]
      refine free_mp O5_nb (by decide) ?_
      have ep : ∀ st, m_all_goes [.tup (O5.map pd)] st = some (.val (.tup (allp 5)), st) := fun st => m_pall (l := O5.map pd) (by decide) st
      simp only [↓EP_C, ↓EP_var, ↓EP_pub, ↓EP_e1, ↓EP_e2, ↓EP_A, ↓AP_nil, ↓AP_cons, ↓EP_tup, ↓EP_lst, ↓EP_call, ↓EP_callK, ↓EP_if, ↓ZP_none, ↓ZP_some, ↓EP_sl, ↓EP_andV, ↓EP_orV, ↓EP_notV, ↓EP_neg, ↓BP_T, ↓BP_and, ↓BP_or, ↓BP_not, ↓BP_yes, ↓IP_seq, ↓IP_tup, ↓IP_enum, ↓IP_rg1, ↓SP_seq, ↓Th_app, ↓SP_nil, ↓SP_pass, ↓SP_break, ↓SP_cont, ↓SP_if, ↓SP_ret, ↓SP_retN, ↓SP_retO, ↓SP_drop, ↓SP_asg, ↓SP_own, ↓SP_app, ↓SP_ext, ↓SP_popA, ↓SP_move, ↓SP_par, ↓MP_mean, ↓EP_lcI, ↓EP_lc2I, ↓SP_forI, ↓FL_nil, ↓FLk_app, ↓LC_nil, ↓wpQ_nil, ↓wpQ_cons, ↓seG_succ, ↓seG_0, ↓EP_dm, ↓EP_fld, ↓EP_new, ↓dmQ_tpc, ↓dmQ_tup, ↓dmQ_lst, ↓dmQ_int, ↓slG_succ, ↓slG_pub, ↓slG_own, ↓stG_succ, ↓stG_0, ↓asgQ_name, ↓asgQ_names, ↓putQ_nil, ↓putQ_cons, ↓putKQ_pub, ↓putKQ_own, ↓ownG_succ, ↓ownG_own, ↓dQ_val, ↓dQ_prv, ↓dQ_bor, ↓dsQ_nil, ↓dsQ_cons, ↓pubQ_val, ↓pubQ_prv, ↓valsQ_nil, ↓valsQ_val, ↓blQ_bl, ↓intQ_int, ↓rtQ_val, ↓rtQ_prv, ↓seqQ_lst, ↓seqQ_frz, ↓seqQ_prv, ↓tupQ_tup, ↓tupQ_tpc, ↓prvQ_prv, ↓twoQ_two, ↓lstQ_lst, ↓add_int, ↓add_tup, ↓add_lst, ↓cI_int, ↓mul_int, ↓mul_tup, ↓ix_tup', ↓ix_lst', ↓len_tup', ↓len_lst', ↓tuple_tup, ↓tuple_lst, ↓list_tup, ↓list_lst, ↓sort_lst, ↓sort_tup, ↓max_int, ↓min_int, ↓int_int, ↓in_tup, ↓in_lst, ↓eq_any, ↓ne_any, ↓rev_lst, ↓sl_tup', ↓sl_lst', ↓rg1_int, ↓OR_at0, ↓OR_at1, ↓OR_sub, ↓OR_lt, ↓OR_le, ↓OR_gt, ↓OR_ge, ↓OR_mod, ↓OR_div, ↓OR_some, ↓OR_none, ↓no2_eq, wipeS, pick, List.length_cons, List.length_nil, List.map_cons, List.map_nil, List.replicate, List.cons_append, List.nil_append, Nat.reduceAdd, Nat.reduceSub, Nat.reduceLT, Nat.reduceLeDiff, Nat.lt_add_one, Nat.zero_lt_succ, Nat.zero_add, Nat.zero_le, true_and, and_true, if_true, if_false, reduceIte, forall_const, implies_true, false_imp_iff, Bool.false_eq_true, Bool.true_eq_false, reduceCtorEq, decide_true, decide_false, decide_eq_true_eq, decide_eq_false_iff_not, Bool.not_true, Bool.not_false, Bool.not_eq_false', Bool.not_eq_true', line_le2, line, noOwn_cons, noOwn_nil, nwG_succ, nwG_pub, nwG_un, Int.reduceLE, Int.reduceLT, Int.reduceNeg, Int.reduceAdd, Int.reduceSub, Int.reduceMul, Int.reduceMod, Int.reduceToNat, and_self, O5_free, MP_of (ep _), MP_of (l5 _), List.length_append]
      refine ⟨by omega, by omega, MP_all (ok_app (ok_app hq (ok_cons (ok_bl _) ok_nil)) (ok_cons2 rfl ⟨by decide +kernel, by decide +kernel⟩ ok_nil)) rfl⟩
theorem the_law : ∀ ns : List Int, ns.length ≤ 63 → ∃ st, m_law [.frz (ns.map Vx.D.int)] [] = some (.val (.bl true), st) := fun ns hl => by
  obtain ⟨r, st, e, h⟩ := law_mp ns hl
  exact ⟨st, by rw [e, h]⟩
end K09


set_option Elab.async false
open PySem PySem.W PyProof.Rows in
set_option maxRecDepth 100000 in
set_option maxHeartbeats 0 in
theorem PySem.Challenge.cw_liarschange_k09_faults_that_may_begin_st_holds : PySem.Challenge.rw_liarschange_k09_faults_that_may_begin_st.Holds := by
  w_on; o_law; k_head; (case hw => w_witness2)
  k_fill
  refine K09.walk (l := PySem.Challenge.rw_liarschange_k09_faults_that_may_begin_st) rfl rfl (fun w h Y => PySem.W.kIn_of Y) K09.the_law ?F
  case F =>
    intro w mg fa h KX G hmg
    refine' K09.all_mk KX G hmg ?a0 ?l0 ?c0 ?k0 ?a1 ?l1 ?c1 ?k1 ?a2 ?l2 ?c2 ?k2 ?a3 ?l3 ?c3 ?k3 ?a4 ?l4 ?c4 ?k4 ?a5 ?l5 ?c5 ?k5 ?a6 ?l6 ?c6 ?k6 ?a7 ?l7 ?c7 ?k7 ?a8 ?l8 ?c8 ?k8 ?a9 ?l9 ?c9 ?k9 ?a10 ?l10 ?c10 ?k10 ?a11 ?l11 ?c11 ?k11 ?a12 ?l12 ?c12 ?k12 ?a13 ?l13 ?c13 ?k13 ?a14 ?l14 ?c14 ?k14 ?a15 ?l15 ?c15 ?k15 ?a16 ?l16 ?c16 ?k16 ?a17 ?l17 ?c17 ?k17 ?a18 ?l18 ?c18 ?k18 ?a19 ?l19 ?c19 ?k19 ?z_sorted ?z_tuple ?z_len ?z_list ?z_range ?z_enumerate ?z_int ?z_abs ?z_isinstance ?z_str ?z_bool ?z_dict ?z_set ?aK_Shift ?aI_Shift ?iI_Shift ?lI_Shift ?cI_Shift ?kI_Shift ?pg_Shift ?hd_Shift ?po_Shift ?sa_Shift ?mk_Shift ?kc_Shift ?n_Shift_letters ?n_Shift_hears ?n_Shift_rules ?n_Shift_patterns ?n_Shift_goes ?n_Shift_wrong ?n_Shift_promise ?m_NOBODY ?l_NOBODY0 ?l_NOBODY1 ?l_NOBODY2
    (case a0 => k_is)
    (case l0 => k_is)
    (case c0 => k_is)
    (case k0 => k_is)
    (case a1 => k_is)
    (case l1 => k_is)
    (case c1 => k_is)
    (case k1 => k_is)
    (case a2 => k_is)
    (case l2 => k_is)
    (case c2 => k_is)
    (case k2 => k_is)
    (case a3 => k_is)
    (case l3 => k_is)
    (case c3 => k_is)
    (case k3 => k_is)
    (case a4 => k_is)
    (case l4 => k_is)
    (case c4 => k_is)
    (case k4 => k_is)
    (case a5 => k_is)
    (case l5 => k_is)
    (case c5 => k_is)
    (case k5 => k_is)
    (case a6 => k_is)
    (case l6 => k_is)
    (case c6 => k_is)
    (case k6 => k_is)
    (case a7 => k_is)
    (case l7 => k_is)
    (case c7 => k_is)
    (case k7 => k_is)
    (case a8 => k_is)
    (case l8 => k_is)
    (case c8 => k_is)
    (case k8 => k_is)
    (case a9 => k_is)
    (case l9 => k_is)
    (case c9 => k_is)
    (case k9 => k_is)
    (case a10 => k_is)
    (case l10 => k_is)
    (case c10 => k_is)
    (case k10 => k_is)
    (case a11 => k_is)
    (case l11 => k_is)
    (case c11 => k_is)
    (case k11 => k_is)
    (case a12 => k_is)
    (case l12 => k_is)
    (case c12 => k_is)
    (case k12 => k_is)
    (case a13 => k_is)
    (case l13 => k_is)
    (case c13 => k_is)
    (case k13 => k_is)
    (case a14 => k_is)
    (case l14 => k_is)
    (case c14 => k_is)
    (case k14 => k_is)
    (case a15 => k_is)
    (case l15 => k_is)
    (case c15 => k_is)
    (case k15 => k_is)
    (case a16 => k_is)
    (case l16 => k_is)
    (case c16 => k_is)
    (case k16 => k_is)
    (case a17 => k_is)
    (case l17 => k_is)
    (case c17 => k_is)
    (case k17 => k_is)
    (case a18 => k_is)
    (case l18 => k_is)
    (case c18 => k_is)
    (case k18 => k_is)
    (case a19 => k_is)
    (case l19 => k_is)
    (case c19 => k_is)
    (case k19 => k_is)
    (case z_sorted => k_is)
    (case z_tuple => k_is)
    (case z_len => k_is)
    (case z_list => k_is)
    (case z_range => k_is)
    (case z_enumerate => k_is)
    (case z_int => k_is)
    (case z_abs => k_is)
    (case z_isinstance => k_is)
    (case z_str => k_is)
    (case z_bool => k_is)
    (case z_dict => k_is)
    (case z_set => k_is)
    (case aK_Shift => k_is)
    (case aI_Shift => k_is)
    (case iI_Shift => k_is)
    (case lI_Shift => k_is)
    (case cI_Shift => k_is)
    (case kI_Shift => k_is)
    (case pg_Shift => k_is)
    (case hd_Shift => k_is)
    (case po_Shift => k_is)
    (case sa_Shift => k_is)
    (case mk_Shift => k_is)
    (case kc_Shift => k_is)
    (case n_Shift_letters => k_is)
    (case n_Shift_hears => k_is)
    (case n_Shift_rules => k_is)
    (case n_Shift_patterns => k_is)
    (case n_Shift_goes => k_is)
    (case n_Shift_wrong => k_is)
    (case n_Shift_promise => k_is)
    (case m_NOBODY => k_is)
    (case l_NOBODY0 => k_is)
    (case l_NOBODY1 => k_is)
    (case l_NOBODY2 => k_is)
#print axioms PySem.Challenge.cw_liarschange_k09_faults_that_may_begin_st_holds

