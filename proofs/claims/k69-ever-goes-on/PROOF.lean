import PyProof.Rows.All
import Wide.All
import OpenK.AllK
import Wide.FinOn
import KE.KStateDown
import HandS.ForMost
import HandS.DictComp
import HandS.TupAny
import HandS.Style
import HandS.Zip
import HandS.IsInst
import HandS.Strs
import HandS.SetFor
import HandS.Defaults
import Lean
import HandS.Base
import HandS.Call
import HandS.Ends
import HandS.More
import HandS.Words
import HandS.WordsExc
import HandS.Head0
import HandS.Head1
import HandS.Head2
import HandS.HeadEnd
import HandS.HeadHook1
import HandS.HeadHook2
import PySem.Challenge.RW_pilereach_k69_whole_ever_run_goes_on
set_option Elab.async false
set_option linter.all false
set_option maxRecDepth 100000
set_option maxHeartbeats 4000000
/-! The calculus: what a reading does, told over plain data. -/
namespace A
open PySem PySem.Spec PyProof.Rows L2

/-! ### data -/
inductive D where
  | int (n : Int) | non | bl (b : Bool) | str (s : Str) | tup (xs : List D) | obj (a : Addr) | ins (C : Addr) (fs : List (Str × D)) | dk (kvs : List (Key × V)) | ty (n : String)

mutual
inductive Rep (H : Hp) : V → D → Prop
  | int (n : Int) : Rep H (.int n) (.int n)
  | non : Rep H .non .non
  | bl (b : Bool) : Rep H (.bl b) (.bl b)
  | str (s : Str) : Rep H (.str s) (.str s)
  | obj (a : Addr) : Rep H (.ref a) (.obj a)
  | ty (n : String) : Rep H (.ty n) (.ty n)
  | tup {a : Addr} {vs : List V} {ds : List D} (h : H a = some (.tup vs)) (r : RepL H vs ds) : Rep H (.ref a) (.tup ds)
  | ins {a C dx : Addr} {fs : List (Str × V)} {gs : List (Str × D)} (h : H a = some (.ins C dx fs)) (r : RepF H fs gs) : Rep H (.ref a) (.ins C gs)
  | dk {a : Addr} {kvs : List (Key × V)} (h : H a = some (.dK kvs)) : Rep H (.ref a) (.dk kvs)
inductive RepL (H : Hp) : List V → List D → Prop
  | nil : RepL H [] []
  | cons {v : V} {d : D} {vs : List V} {ds : List D} (h : Rep H v d) (r : RepL H vs ds) : RepL H (v :: vs) (d :: ds)
inductive RepF (H : Hp) : List (Str × V) → List (Str × D) → Prop
  | nil : RepF H [] []
  | cons {f : Str} {v : V} {d : D} {fs : List (Str × V)} {gs : List (Str × D)} (h : Rep H v d) (r : RepF H fs gs) : RepF H ((f, v) :: fs) ((f, d) :: gs)
end

/-! ### heaps -/
/-- lists may change, nothing else -/
def Kp (H H' : Hp) : Prop := ∀ a o, H a = some o → H' a = some o ∨ ∃ xs ys, o = .lst xs ∧ H' a = some (.lst ys)
theorem Kp.refl (H : Hp) : Kp H H := fun _ _ h => .inl h
theorem Kp.trans {H H1 H2 : Hp} (a : Kp H H1) (b : Kp H1 H2) : Kp H H2 := fun x o h => by
  rcases a x o h with h1 | ⟨xs, ys, rfl, h1⟩
  · exact b x o h1
  · rcases b x _ h1 with h2 | ⟨xs', ys', e, h2⟩
    · exact .inr ⟨xs, ys, rfl, h2⟩
    · exact .inr ⟨xs, ys', rfl, h2⟩
theorem Kp.same {H H' : Hp} (h : Same H H') : Kp H H' := fun a o e => .inl (h a o e)
theorem Kp.keep {H H' : Hp} {a : Addr} {o : HO} (k : Kp H H') (h : H a = some o) (n : ∀ xs, o ≠ .lst xs) : H' a = some o := by
  rcases k a o h with h1 | ⟨xs, _, e, _⟩
  · exact h1
  · exact absurd e (n xs)
theorem Kp.free {H H' : Hp} {a : Addr} (k : Kp H H') (h : H' a = none) : H a = none := by
  cases e : H a with
  | none => rfl
  | some o =>
    rcases k a o e with h1 | ⟨_, _, _, h1⟩ <;> (rw [h] at h1; cases h1)
theorem same_new {H : Hp} {p : Addr} {o : HO} (h : H p = none) : Same H (upd H p o) := fun a u e => by
  rw [upd_ne (ne_of_none e h)]
  exact e
theorem Kp.new {H : Hp} {p : Addr} {o : HO} (h : H p = none) : Kp H (upd H p o) := Kp.same (same_new h)
theorem Kp.lst {H : Hp} {p : Addr} {xs ys : List V} (h : H p = some (.lst xs)) : Kp H (upd H p (.lst ys)) := fun a o e => by
  by_cases q : a = p
  · subst q
    rw [h] at e
    cases e
    exact .inr ⟨xs, ys, rfl, upd_same⟩
  · exact .inl (by rw [upd_ne q]; exact e)

mutual
theorem Rep.mono {H H' : Hp} (k : Kp H H') : ∀ {v : V} {d : D}, Rep H v d → Rep H' v d
  | _, _, .int n => .int n
  | _, _, .non => .non
  | _, _, .bl b => .bl b
  | _, _, .str s => .str s
  | _, _, .obj a => .obj a
  | _, _, .ty n => .ty n
  | _, _, .tup h r => .tup (k.keep h fun _ z => nomatch z) (RepL.mono k r)
  | _, _, .ins h r => .ins (k.keep h fun _ z => nomatch z) (RepF.mono k r)
  | _, _, .dk h => .dk (k.keep h fun _ z => nomatch z)
theorem RepL.mono {H H' : Hp} (k : Kp H H') : ∀ {vs : List V} {ds : List D}, RepL H vs ds → RepL H' vs ds
  | _, _, .nil => .nil
  | _, _, .cons h r => .cons (Rep.mono k h) (RepL.mono k r)
theorem RepF.mono {H H' : Hp} (k : Kp H H') : ∀ {fs : List (Str × V)} {gs : List (Str × D)}, RepF H fs gs → RepF H' fs gs
  | _, _, .nil => .nil
  | _, _, .cons h r => .cons (Rep.mono k h) (RepF.mono k r)
end

theorem RepL.length {H : Hp} : ∀ {vs : List V} {ds : List D}, RepL H vs ds → vs.length = ds.length
  | _, _, .nil => rfl
  | _, _, .cons _ r => congrArg Nat.succ (RepL.length r)
theorem RepL.get {H : Hp} : ∀ {vs : List V} {ds : List D} {i : Nat} {d : D}, RepL H vs ds → ds[i]? = some d → ∃ v, vs[i]? = some v ∧ Rep H v d
  | _, _, _, _, .nil, e => by simp at e
  | _, _, 0, _, .cons h _, e => ⟨_, rfl, by cases (show some _ = some _ from e); exact h⟩
  | _, _, i + 1, _, .cons _ r, e => RepL.get (i := i) r (by simpa using e)
theorem RepL.get' {H : Hp} : ∀ {vs : List V} {ds : List D} {i : Nat} {v : V}, RepL H vs ds → vs[i]? = some v → ∃ d, ds[i]? = some d ∧ Rep H v d
  | _, _, _, _, .nil, e => by simp at e
  | _, _, 0, _, .cons h _, e => ⟨_, rfl, by cases (show some _ = some _ from e); exact h⟩
  | _, _, i + 1, _, .cons _ r, e => RepL.get' (i := i) r (by simpa using e)
theorem RepL.append {H : Hp} : ∀ {vs us : List V} {ds es : List D}, RepL H vs ds → RepL H us es → RepL H (vs ++ us) (ds ++ es)
  | _, _, _, _, .nil, s => s
  | _, _, _, _, .cons h r, s => .cons h (RepL.append r s)
theorem RepL.take {H : Hp} : ∀ {vs : List V} {ds : List D} (n : Nat), RepL H vs ds → RepL H (vs.take n) (ds.take n)
  | _, _, 0, _ => .nil
  | _, _, _ + 1, .nil => .nil
  | _, _, n + 1, .cons h r => .cons h (RepL.take n r)
theorem RepL.drop {H : Hp} : ∀ {vs : List V} {ds : List D} (n : Nat), RepL H vs ds → RepL H (vs.drop n) (ds.drop n)
  | _, _, 0, r => r
  | _, _, _ + 1, .nil => .nil
  | _, _, n + 1, .cons _ r => RepL.drop n r
theorem RepL.set {H : Hp} {v : V} {d : D} (h : Rep H v d) : ∀ {vs : List V} {ds : List D} (i : Nat), RepL H vs ds → RepL H (vs.set i v) (ds.set i d)
  | _, _, _, .nil => .nil
  | _, _, 0, .cons _ r => .cons h r
  | _, _, i + 1, .cons q r => .cons q (RepL.set h i r)
theorem RepL.ints {H : Hp} : ∀ {vs : List V} {ns : List Int}, RepL H vs (ns.map D.int) → vs = ns.map V.int
  | [], [], _ => rfl
  | _ :: _, [], h => by cases h
  | [], _ :: _, h => by cases h
  | _ :: _, n :: ns, h => by
    cases h with
    | cons h r =>
      cases h
      rw [RepL.ints r] <;> rfl
theorem RepL.of_ints {H : Hp} : ∀ (ns : List Int), RepL H (ns.map V.int) (ns.map D.int)
  | [] => .nil
  | n :: ns => .cons (.int n) (RepL.of_ints ns)
theorem RepF.look {H : Hp} {f : Str} {d : D} : ∀ {fs : List (Str × V)} {gs : List (Str × D)}, RepF H fs gs → gs.lookup f = some d → ∃ v, fs.lookup f = some v ∧ Rep H v d
  | _, _, .nil, e => nomatch (show (none : Option D) = some d from e)
  | _, _, .cons (f := g) h r, e => by
    rw [List.lookup_cons] at e ⊢
    cases q : (f == g) with
    | true =>
      rw [q] at e
      cases e
      exact ⟨_, rfl, h⟩
    | false =>
      rw [q] at e
      exact RepF.look r e
theorem RepF.lookN {H : Hp} {f : Str} : ∀ {fs : List (Str × V)} {gs : List (Str × D)}, RepF H fs gs → gs.lookup f = none → fs.lookup f = none
  | _, _, .nil, _ => rfl
  | _, _, .cons (f := g) h r, e => by
    rw [List.lookup_cons] at e ⊢
    cases q : (f == g) with
    | true =>
      rw [q] at e
      cases e
    | false =>
      rw [q] at e
      exact RepF.lookN r e

/-! ### the state -/
abbrev Env := List (Option D)
abbrev Mm := List (Addr × List D)
def RepE (H : Hp) : Env → L2.St → Prop
  | [], [] => True
  | o :: os, s :: ss => (∀ d, o = some d → ∃ v, s = some v ∧ Rep H v d) ∧ RepE H os ss
  | _, _ => False
theorem RepE.mono {H H' : Hp} (k : Kp H H') : ∀ {env : Env} {σ : L2.St}, RepE H env σ → RepE H' env σ
  | [], [], _ => True.intro
  | _ :: _, _ :: _, ⟨h, r⟩ => ⟨fun d e => let ⟨v, e1, r1⟩ := h d e; ⟨v, e1, r1.mono k⟩, RepE.mono k r⟩
  | [], _ :: _, h => h.elim
  | _ :: _, [], h => h.elim
theorem RepE.get {H : Hp} : ∀ {env : Env} {σ : L2.St} {i : Nat} {d : D}, RepE H env σ → env[i]? = some (some d) → ∃ v, σ[i]? = some (some v) ∧ Rep H v d
  | [], [], _, _, _, e => by simp at e
  | o :: _, s :: _, 0, d, ⟨h, _⟩, e => by
    obtain ⟨v, e1, r⟩ := h d (by simpa using e)
    exact ⟨v, by rw [e1] <;> rfl, r⟩
  | _ :: _, _ :: _, i + 1, _, ⟨_, r⟩, e => by
    obtain ⟨v, e1, r1⟩ := RepE.get (i := i) r (by simpa using e)
    exact ⟨v, by simpa using e1, r1⟩
  | [], _ :: _, _, _, h, _ => h.elim
  | _ :: _, [], _, _, h, _ => h.elim
theorem RepE.put {H : Hp} {v : V} {d : D} (h : Rep H v d) : ∀ {env : Env} {σ : L2.St} (i : Nat), RepE H env σ → RepE H (env.set i (some d)) (σ.set i (some v))
  | [], [], _, _ => True.intro
  | _ :: _, _ :: _, 0, ⟨_, r⟩ => ⟨fun d' e => ⟨v, rfl, by cases e; exact h⟩, r⟩
  | _ :: _, _ :: _, i + 1, ⟨q, r⟩ => ⟨q, RepE.put h i r⟩
  | [], _ :: _, _, h => h.elim
  | _ :: _, [], _, h => h.elim
theorem RepE.wipe {H : Hp} : ∀ {env : Env} {σ : L2.St} (i : Nat), RepE H env σ → RepE H (env.set i none) (σ.set i none)
  | [], [], _, _ => True.intro
  | _ :: _, _ :: _, 0, ⟨_, r⟩ => ⟨fun d' e => (nomatch e), r⟩
  | _ :: _, _ :: _, i + 1, ⟨q, r⟩ => ⟨q, RepE.wipe i r⟩
  | [], _ :: _, _, h => h.elim
  | _ :: _, [], _, h => h.elim
theorem RepE.start {H : Hp} : ∀ {vs : List V} {ds : List D} (n : Nat), RepL H vs ds → RepE H (ds.map some ++ List.replicate n none) (vs.map some ++ List.replicate n none)
  | _, _, 0, .nil => True.intro
  | _, _, n + 1, .nil => ⟨fun d e => (nomatch e), RepE.start (vs := []) (ds := []) n .nil⟩
  | _, _, n, .cons h r => ⟨fun d e => ⟨_, rfl, by cases e; exact h⟩, RepE.start n r⟩
/-- names that are forgotten -/
def Weak : Env → Env → Prop
  | [], [] => True
  | o :: os, p :: ps => (∀ d, o = some d → p = some d) ∧ Weak os ps
  | _, _ => False
theorem RepE.weak {H : Hp} : ∀ {env env' : Env} {σ : L2.St}, Weak env' env → RepE H env σ → RepE H env' σ
  | [], [], [], _, _ => True.intro
  | _ :: _, _ :: _, _ :: _, ⟨w, ws⟩, ⟨h, r⟩ => ⟨fun d e => h d (w d e), RepE.weak ws r⟩
  | [], _ :: _, _, w, _ => w.elim
  | _ :: _, [], _, w, _ => w.elim
  | [], [], _ :: _, _, h => h.elim
  | _ :: _, _ :: _, [], _, h => h.elim

structure MOk (H : Hp) (M : Mm) : Prop where
  at_ : ∀ e ∈ M, ∃ vs, H e.1 = some (.lst vs) ∧ RepL H vs e.2
  nd : (M.map (·.1)).Nodup
def Fr (W : List Addr) (H H' : Hp) : Prop := ∀ a o, H a = some o → H' a = some o ∨ (a ∈ W ∧ ∃ xs ys, o = .lst xs ∧ H' a = some (.lst ys))
theorem Fr.refl (W : List Addr) (H : Hp) : Fr W H H := fun _ _ h => .inl h
theorem Fr.kp {W : List Addr} {H H' : Hp} (f : Fr W H H') : Kp H H' := fun a o h => by
  rcases f a o h with h1 | ⟨_, xs, ys, e, h1⟩
  · exact .inl h1
  · exact .inr ⟨xs, ys, e, h1⟩
theorem Fr.same {W : List Addr} {H H1 H2 : Hp} (f : Fr W H H1) (s : Same H1 H2) : Fr W H H2 := fun a o h => by
  rcases f a o h with h1 | ⟨w, xs, ys, e, h1⟩
  · exact .inl (s _ _ h1)
  · exact .inr ⟨w, xs, ys, e, s _ _ h1⟩
structure G where
  H0 : Hp
  W : List Addr
structure Ok (Γ : G) (env : Env) (M : Mm) (σ : L2.St) (H : Hp) : Prop where
  env : RepE H env σ
  mem : MOk H M
  own : ∀ e ∈ M, e.1 ∈ Γ.W ∨ Γ.H0 e.1 = none
  fr : Fr Γ.W Γ.H0 H

theorem MOk.same {H H' : Hp} {M : Mm} (m : MOk H M) (s : Same H H') : MOk H' M := ⟨fun e he => by
  obtain ⟨vs, h, r⟩ := m.at_ e he
  exact ⟨vs, s _ _ h, r.mono (Kp.same s)⟩, m.nd⟩
theorem MOk.sub {H : Hp} {M M' : Mm} (m : MOk H M) (s : M'.Sublist M) : MOk H M' := ⟨fun e he => m.at_ e (s.subset he), m.nd.sublist (s.map _)⟩
theorem MOk.newl {H : Hp} {M : Mm} {p : Addr} {vs : List V} {ds : List D} (m : MOk H M) (h : H p = none) (r : RepL H vs ds) : MOk (upd H p (.lst vs)) (M ++ [(p, ds)]) := by
  have m' := m.same (same_new (o := .lst vs) h)
  refine ⟨fun e he => ?_, ?_⟩
  · rcases List.mem_append.mp he with he | he
    · exact m'.at_ e he
    · rw [List.mem_singleton.mp he]
      exact ⟨vs, upd_same, r.mono (Kp.new h)⟩
  · rw [List.map_append, List.map_singleton, List.nodup_append]
    refine ⟨m.nd, by simp, fun a ha b hb => ?_⟩
    rw [List.mem_singleton.mp hb]
    rintro rfl
    obtain ⟨e, he, rfl⟩ := List.mem_map.mp ha
    obtain ⟨vs', h', _⟩ := m.at_ e he
    rw [h] at h'
    cases h'
theorem nodup_at {M : Mm} (nd : (M.map (·.1)).Nodup) {i j : Nat} {p : Addr} {xs ys : List D} (hi : M[i]? = some (p, xs)) (hj : M[j]? = some (p, ys)) : i = j := by
  have h1 : (M.map (·.1))[i]? = some p := by rw [List.getElem?_map, hi]; rfl
  have h2 : (M.map (·.1))[j]? = some p := by rw [List.getElem?_map, hj]; rfl
  obtain ⟨l1, e1⟩ := List.getElem?_eq_some_iff.mp h1
  obtain ⟨l2, e2⟩ := List.getElem?_eq_some_iff.mp h2
  exact (List.getElem_inj nd).mp (e1.trans e2.symm)
theorem MOk.set {H : Hp} {M : Mm} {j : Nat} {p : Addr} {ds es : List D} {vs : List V} (m : MOk H M) (hj : M[j]? = some (p, ds)) (r : RepL H vs es) : MOk (upd H p (.lst vs)) (M.set j (p, es)) := by
  obtain ⟨us, hp, _⟩ := m.at_ _ (List.mem_of_getElem? hj)
  have k : Kp H (upd H p (.lst vs)) := Kp.lst hp
  have hl : j < M.length := (List.getElem?_eq_some_iff.mp hj).1
  refine ⟨fun e he => ?_, ?_⟩
  · obtain ⟨i, hi, e1⟩ := List.getElem_of_mem he
    have e2 : (M.set j (p, es))[i]? = some e := by rw [List.getElem?_eq_getElem hi, e1]
    by_cases q : j = i
    · subst q
      rw [List.getElem?_set_self hl] at e2
      cases e2
      exact ⟨vs, upd_same, r.mono k⟩
    · rw [List.getElem?_set_ne q] at e2
      obtain ⟨us', h', r'⟩ := m.at_ e (List.mem_of_getElem? e2)
      have ne : e.1 ≠ p := fun z => q (nodup_at m.nd (xs := ds) (ys := e.2) hj (by rw [e2, ← z]))
      exact ⟨us', by rw [upd_ne ne]; exact h', r'.mono k⟩
  · have : (M.set j (p, es)).map (·.1) = M.map (·.1) := by
      rw [List.map_set]
      refine List.ext_getElem? fun i => ?_
      by_cases q : j = i
      · subst q
        rw [List.getElem?_set_self (by simpa using hl), List.getElem?_map, hj]; rfl
      · rw [List.getElem?_set_ne q]
    rw [this]
    exact m.nd
namespace Ok
variable {Γ : G} {env : Env} {M : Mm} {σ : L2.St} {H H' : Hp}
theorem same (o : Ok Γ env M σ H) (s : Same H H') : Ok Γ env M σ H' := ⟨o.env.mono (Kp.same s), o.mem.same s, o.own, o.fr.same s⟩
theorem new {p : Addr} {u : HO} (o : Ok Γ env M σ H) (h : H p = none) : Ok Γ env M σ (upd H p u) := o.same (same_new h)
theorem free0 (o : Ok Γ env M σ H) {p : Addr} (h : H p = none) : Γ.H0 p = none := o.fr.kp.free h
theorem newl {p : Addr} {vs : List V} {ds : List D} (o : Ok Γ env M σ H) (h : H p = none) (r : RepL H vs ds) : Ok Γ env (M ++ [(p, ds)]) σ (upd H p (.lst vs)) :=
  ⟨o.env.mono (Kp.new h), o.mem.newl h r, fun e he => by
    rcases List.mem_append.mp he with he | he
    · exact o.own e he
    · rw [List.mem_singleton.mp he]
      exact .inr (o.free0 h), o.fr.same (same_new h)⟩
theorem at_ (o : Ok Γ env M σ H) {j : Nat} {p : Addr} {ds : List D} (hj : M[j]? = some (p, ds)) : ∃ vs, H p = some (.lst vs) ∧ RepL H vs ds := o.mem.at_ _ (List.mem_of_getElem? hj)
theorem set {j : Nat} {p : Addr} {ds es : List D} {vs : List V} (o : Ok Γ env M σ H) (hj : M[j]? = some (p, ds)) (r : RepL H vs es) : Ok Γ env (M.set j (p, es)) σ (upd H p (.lst vs)) := by
  obtain ⟨us, hp, _⟩ := o.at_ hj
  have hl : j < M.length := (List.getElem?_eq_some_iff.mp hj).1
  refine ⟨o.env.mono (Kp.lst hp), o.mem.set hj r, fun e he => ?_, fun a u h => ?_⟩
  · rcases List.mem_or_eq_of_mem_set he with he | he
    · exact o.own e he
    · rw [he]
      exact o.own (p, ds) (List.mem_of_getElem? hj)
  · by_cases q : a = p
    · subst q
      rcases o.own _ (List.mem_of_getElem? hj) with w | w
      · rcases o.fr a u h with h1 | ⟨_, xs, ys, e, h1⟩
        · rw [hp] at h1
          cases h1
          exact .inr ⟨w, us, vs, rfl, upd_same⟩
        · exact .inr ⟨w, xs, vs, e, upd_same⟩
      · rw [w] at h
        cases h
    · rw [upd_ne q]
      exact o.fr a u h
theorem put {i : Nat} {v : V} {d : D} (o : Ok Γ env M σ H) (r : Rep H v d) : Ok Γ (env.set i (some d)) M (σ.set i (some v)) H := ⟨o.env.put r i, o.mem, o.own, o.fr⟩
theorem wipe (o : Ok Γ env M σ H) (i : Nat) : Ok Γ (env.set i none) M (σ.set i none) H := ⟨o.env.wipe i, o.mem, o.own, o.fr⟩
theorem sub {M' : Mm} (o : Ok Γ env M σ H) (s : M'.Sublist M) : Ok Γ env M' σ H := ⟨o.env, o.mem.sub s, fun e he => o.own e (s.subset he), o.fr⟩
theorem weak {env' : Env} (o : Ok Γ env M σ H) (w : Weak env' env) : Ok Γ env' M σ H := ⟨o.env.weak w, o.mem, o.own, o.fr⟩
theorem env_of {env' : Env} {σ' : L2.St} {M' : Mm} (o : Ok Γ env M σ H) (e : RepE H env' σ') (m : MOk H M') (w : ∀ e ∈ M', e.1 ∈ Γ.W ∨ Γ.H0 e.1 = none) : Ok Γ env' M' σ' H := ⟨e, m, w, o.fr⟩
end Ok

/-! ### judgements -/
def WE (Γ : G) (te : TE) (env : Env) (M : Mm) (k : D → Mm → Prop) : Prop :=
  ∀ σ H, Ok Γ env M σ H → ∀ Q : VK, (∀ d M' v H', k d M' → Ok Γ env M' σ H' → Kp H H' → Rep H' v d → Q v H') → te σ H Q
def WA (Γ : G) (ta : TA) (env : Env) (M : Mm) (k : List D → Mm → Prop) : Prop :=
  ∀ σ H, Ok Γ env M σ H → ∀ Q : List V → Hp → Prop, (∀ ds M' vs H', k ds M' → Ok Γ env M' σ H' → Kp H H' → RepL H' vs ds → Q vs H') → ta σ H Q
def WT (Γ : G) (tt : TT) (env : Env) (M : Mm) (k : Bool → Mm → Prop) : Prop :=
  ∀ σ H, Ok Γ env M σ H → ∀ Q : Bool → Hp → Prop, (∀ b M' H', k b M' → Ok Γ env M' σ H' → Kp H H' → Q b H') → tt σ H Q
def WO (Γ : G) (to : TO) (env : Env) (M : Mm) (k : Option Int → Mm → Prop) : Prop :=
  ∀ σ H, Ok Γ env M σ H → ∀ Q : Option Int → Hp → Prop, (∀ b M' H', k b M' → Ok Γ env M' σ H' → Kp H H' → Q b H') → to σ H Q
def WR (Γ : G) (r : R2) (x y : D) (env : Env) (M : Mm) (k : D → Mm → Prop) : Prop :=
  ∀ σ H u w, Ok Γ env M σ H → Rep H u x → Rep H w y → ∀ Q : VK, (∀ d M' v H', k d M' → Ok Γ env M' σ H' → Kp H H' → Rep H' v d → Q v H') → r u w H Q
def WC (Γ : G) (r : List V → Hp → VK → Prop) (ds : List D) (env : Env) (M : Mm) (k : D → Mm → Prop) : Prop :=
  ∀ σ H us, Ok Γ env M σ H → RepL H us ds → ∀ Q : VK, (∀ d M' v H', k d M' → Ok Γ env M' σ H' → Kp H H' → Rep H' v d → Q v H') → r us H Q
structure AE where
  nx : Env → Mm → Prop
  rt : D → Mm → Prop
  bk : Env → Mm → Prop := fun _ _ => False
  ct : Env → Mm → Prop := fun _ _ => False
structure Le (Γ : G) (H : Hp) (E : AE) (Dn : Ends) : Prop where
  nx : ∀ env M σ H', E.nx env M → Ok Γ env M σ H' → Kp H H' → Dn.nx σ H'
  rt : ∀ d M env v σ H', E.rt d M → Ok Γ env M σ H' → Rep H' v d → Dn.rt v H'
  bk : ∀ env M σ H', E.bk env M → Ok Γ env M σ H' → Kp H H' → Dn.bk σ H'
  ct : ∀ env M σ H', E.ct env M → Ok Γ env M σ H' → Kp H H' → Dn.ct σ H'
def WS (Γ : G) (t : TS) (E : AE) (env : Env) (M : Mm) : Prop := ∀ σ H Dn, Ok Γ env M σ H → Le Γ H E Dn → t Dn σ H
def WG (Γ : G) (g : TG) (d : D) (env : Env) (M : Mm) (k : Env → Mm → Prop) : Prop :=
  ∀ σ H v, Ok Γ env M σ H → Rep H v d → ∀ Q : L2.St → Hp → Prop, (∀ env' M' σ' H', k env' M' → Ok Γ env' M' σ' H' → Kp H H' → Q σ' H') → g v σ H Q
def WGs (Γ : G) (g : TGs) (ds : List D) (env : Env) (M : Mm) (k : Env → Mm → Prop) : Prop :=
  ∀ σ H vs, Ok Γ env M σ H → RepL H vs ds → ∀ Q : L2.St → Hp → Prop, (∀ env' M' σ' H', k env' M' → Ok Γ env' M' σ' H' → Kp H H' → Q σ' H') → g vs σ H Q
theorem Le.step {Γ : G} {H H' : Hp} {E : AE} {Dn : Ends} (l : Le Γ H E Dn) (k : Kp H H') : Le Γ H' E Dn :=
  ⟨fun env M σ H2 q o k2 => l.nx env M σ H2 q o (k.trans k2), l.rt, fun env M σ H2 q o k2 => l.bk env M σ H2 q o (k.trans k2), fun env M σ H2 q o k2 => l.ct env M σ H2 q o (k.trans k2)⟩

section
variable {Γ : G} {env : Env} {M : Mm} {ta tb tc te : TE} {tl : TA} {tt tu : TT} {k : D → Mm → Prop} {x y d : D} {K : PySem.W.Frag} {r r1 r2 : R2}
/-! ### expressions -/
theorem we_mono {k' : D → Mm → Prop} (h : WE Γ te env M k') (q : ∀ d M', k' d M' → k d M') : WE Γ te env M k := fun σ H o Q hq => h σ H o Q fun d M' v H' z => hq d M' v H' (q _ _ z)
theorem we_var {i : Nat} (h : env[i]? = some (some d)) (q : k d M) : WE Γ (tVar i) env M k := fun σ H o Q hq => by
  obtain ⟨v, e, r⟩ := o.env.get h
  exact ⟨v, e, hq _ _ _ _ q o (Kp.refl H) r⟩
theorem we_int {n : Int} (q : k (.int n) M) : WE Γ (tC (.int n)) env M k := fun σ H o Q hq => hq _ _ _ _ q o (Kp.refl H) (.int n)
theorem we_bl {b : Bool} (q : k (.bl b) M) : WE Γ (tC (.bl b)) env M k := fun σ H o Q hq => hq _ _ _ _ q o (Kp.refl H) (.bl b)
theorem we_non (q : k .non M) : WE Γ (tC .non) env M k := fun σ H o Q hq => hq _ _ _ _ q o (Kp.refl H) .non
theorem we_str {s : Str} (q : k (.str s) M) : WE Γ (tC (.str s)) env M k := fun σ H o Q hq => hq _ _ _ _ q o (Kp.refl H) (.str s)
theorem we_ty {n : String} (q : k (.ty n) M) : WE Γ (tC (.ty n)) env M k := fun σ H o Q hq => hq _ _ _ _ q o (Kp.refl H) (.ty n)
theorem we_op (h : WE Γ ta env M fun x M1 => WE Γ tb env M1 fun y M2 => WR Γ r x y env M2 k) : WE Γ (tOp r ta tb) env M k := fun σ H o Q hq =>
  h σ H o _ fun x M1 u H1 h1 o1 k1 r1 => h1 σ H1 o1 _ fun y M2 w H2 h2 o2 k2 r2 => h2 σ H2 u w o2 (r1.mono k2) r2 Q fun d M' v H' q o' k3 r3 => hq d M' v H' q o' ((k1.trans k2).trans k3) r3
theorem we_neg (h : WE Γ ta env M fun x M1 => ∃ i, x = .int i ∧ k (.int (-i)) M1) : WE Γ (tUn (rU fun i => .int (-i)) ta) env M k := fun σ H o Q hq =>
  h σ H o _ fun x M1 u H1 ⟨i, e, q⟩ o1 k1 r1 => by
    subst e
    cases r1
    exact ⟨i, rfl, hq _ _ _ _ q o1 k1 (.int _)⟩
theorem we_fld {f : Str} (h : WE Γ ta env M fun x M1 => ∃ C gs z, x = .ins C gs ∧ Cls K C ∧ NoAttr K C f ∧ gs.lookup f = some z ∧ k z M1) : WE Γ (tFld K ta f) env M k := fun σ H o Q hq =>
  h σ H o _ fun x M1 u H1 ⟨C, gs, z, e, c, n, l, q⟩ o1 k1 r1 => by
    subst e
    cases r1 with
    | ins h r =>
      obtain ⟨v, e, rv⟩ := r.look l
      exact ⟨_, C, _, _, v, rfl, h, c, n, e, hq _ _ _ _ q o1 k1 rv⟩
theorem we_andV (h : WE Γ ta env M fun x M1 => ∃ c, x = .bl c ∧ (c = true → WE Γ tb env M1 k) ∧ (c = false → k (.bl false) M1)) : WE Γ (tAndV ta tb) env M k := fun σ H o Q hq =>
  h σ H o _ fun x M1 u H1 ⟨c, e, q1, q2⟩ o1 k1 r1 => by
    subst e
    cases r1
    refine ⟨c, rfl, ?_⟩
    cases c with
    | true => exact iteT (q1 rfl σ H1 o1 Q fun d M' v H' q o' k2 => hq d M' v H' q o' (k1.trans k2))
    | false => exact iteF (hq _ _ _ _ (q2 rfl) o1 k1 (.bl false))
theorem we_orV (h : WE Γ ta env M fun x M1 => ∃ c, x = .bl c ∧ (c = true → k (.bl true) M1) ∧ (c = false → WE Γ tb env M1 k)) : WE Γ (tOrV ta tb) env M k := fun σ H o Q hq =>
  h σ H o _ fun x M1 u H1 ⟨c, e, q1, q2⟩ o1 k1 r1 => by
    subst e
    cases r1
    refine ⟨c, rfl, ?_⟩
    cases c with
    | false => exact iteF (q2 rfl σ H1 o1 Q fun d M' v H' q o' k2 => hq d M' v H' q o' (k1.trans k2))
    | true => exact iteT (hq _ _ _ _ (q1 rfl) o1 k1 (.bl true))
theorem we_chain (h : WE Γ ta env M fun x M1 => WE Γ tb env M1 fun y M2 => WR Γ r1 x y env M2 fun z M3 => ∃ c, z = .bl c ∧ (c = true → WE Γ tc env M3 fun w M4 => WR Γ r2 y w env M4 k) ∧ (c = false → k (.bl false) M3)) : WE Γ (tChain r1 r2 ta tb tc) env M k := fun σ H o Q hq =>
  h σ H o _ fun x M1 u H1 h1 o1 k1 r1 => h1 σ H1 o1 _ fun y M2 w H2 h2 o2 k2 r2 => h2 σ H2 u w o2 (r1.mono k2) r2 _ fun z M3 zv H3 ⟨c, e, q1, q2⟩ o3 k3 r3 => by
    subst e
    cases r3
    refine ⟨c, rfl, ?_⟩
    cases c with
    | true => exact iteT (q1 rfl σ H3 o3 _ fun w' M4 wv H4 h4 o4 k4 r4 => h4 σ H4 w wv o4 ((r2.mono k3).mono k4) r4 Q fun d M' v H' q o' k5 r5 => hq d M' v H' q o' ((((k1.trans k2).trans k3).trans k4).trans k5) r5)
    | false => exact iteF (hq _ _ _ _ (q2 rfl) o3 ((k1.trans k2).trans k3) (.bl false))
theorem we_tup (h : WA Γ tl env M fun ds M1 => ds.length ≤ sizeLine ∧ k (.tup ds) M1) : WE Γ (tTup tl) env M k := fun σ H o Q hq =>
  h σ H o _ fun ds M1 vs H1 ⟨z, q⟩ o1 k1 r1 => ⟨by rw [r1.length]; exact z, fun p hp => hq _ _ _ _ q (o1.new hp) (k1.trans (Kp.new hp)) (.tup upd_same (r1.mono (Kp.new hp)))⟩
theorem we_lst (h : WA Γ tl env M fun ds M1 => ds.length ≤ sizeLine ∧ ∀ p, k (.obj p) (M1 ++ [(p, ds)])) : WE Γ (tLst tl) env M k := fun σ H o Q hq =>
  h σ H o _ fun ds M1 vs H1 ⟨z, q⟩ o1 k1 r1 => ⟨by rw [r1.length]; exact z, fun p hp => hq _ _ _ _ (q p) (o1.newl hp r1) (k1.trans (Kp.new hp)) (.obj p)⟩
theorem we_cb {rc : List V → Hp → VK → Prop} (h : WA Γ tl env M fun ds M1 => WC Γ rc ds env M1 k) : WE Γ (tCB rc tl) env M k := fun σ H o Q hq =>
  h σ H o _ fun ds M1 vs H1 h1 o1 k1 r1 => h1 σ H1 vs o1 r1 Q fun d M' v H' q o' k2 r2 => hq d M' v H' q o' (k1.trans k2) r2
/-- forget some lists -/
theorem we_sub (h : WE Γ te env M fun d M1 => ∃ M2, M2.Sublist M1 ∧ k d M2) : WE Γ te env M k := fun σ H o Q hq =>
  h σ H o Q fun d M1 v H1 ⟨M2, s, q⟩ o1 k1 r1 => hq d M2 v H1 q (o1.sub s) k1 r1
/-! arguments -/
variable {ka : List D → Mm → Prop}
theorem wa_nil (q : ka [] M) : WA Γ tNil env M ka := fun σ H o Q hq => hq _ _ _ _ q o (Kp.refl H) .nil
theorem wa_cons (h : WE Γ te env M fun x M1 => WA Γ tl env M1 fun ds M2 => ka (x :: ds) M2) : WA Γ (tCons te tl) env M ka := fun σ H o Q hq =>
  h σ H o _ fun x M1 u H1 h1 o1 k1 r1 => h1 σ H1 o1 _ fun ds M2 vs H2 q o2 k2 r2 => hq _ _ _ _ q o2 (k1.trans k2) (.cons (r1.mono k2) r2)
/-! tests -/
variable {kt : Bool → Mm → Prop}
theorem wt_B (h : WE Γ te env M fun x M1 => ∃ b, x = .bl b ∧ kt b M1) : WT Γ (tB te) env M kt := fun σ H o Q hq =>
  h σ H o _ fun x M1 u H1 ⟨b, e, q⟩ o1 k1 r1 => by
    subst e
    cases r1
    exact ⟨b, rfl, hq _ _ _ q o1 k1⟩
theorem wt_test (h : WE Γ te env M fun x M1 => ∃ b, x = .bl b ∧ kt b M1) : WT Γ (tTest te) env M kt := fun σ H o Q hq =>
  h σ H o _ fun x M1 u H1 ⟨b, e, q⟩ o1 k1 r1 => by
    subst e
    cases r1
    exact ⟨b, rfl, hq _ _ _ q o1 k1⟩
theorem wt_and (h : WT Γ tt env M fun b M1 => (b = true → WT Γ tu env M1 kt) ∧ (b = false → kt false M1)) : WT Γ (tAnd tt tu) env M kt := fun σ H o Q hq =>
  h σ H o _ fun b M1 H1 ⟨q1, q2⟩ o1 k1 => by
    cases b with
    | true => exact iteT (q1 rfl σ H1 o1 Q fun c M' H' q o' k2 => hq c M' H' q o' (k1.trans k2))
    | false => exact iteF (hq _ _ _ (q2 rfl) o1 k1)
theorem wt_or (h : WT Γ tt env M fun b M1 => (b = true → kt true M1) ∧ (b = false → WT Γ tu env M1 kt)) : WT Γ (tOr tt tu) env M kt := fun σ H o Q hq =>
  h σ H o _ fun b M1 H1 ⟨q1, q2⟩ o1 k1 => by
    cases b with
    | false => exact iteF (q2 rfl σ H1 o1 Q fun c M' H' q o' k2 => hq c M' H' q o' (k1.trans k2))
    | true => exact iteT (hq _ _ _ (q1 rfl) o1 k1)
theorem wt_not (h : WT Γ tt env M fun b M1 => kt (!b) M1) : WT Γ (tNot tt) env M kt := fun σ H o Q hq => h σ H o _ fun b M1 H1 q o1 k1 => hq _ _ _ q o1 k1
theorem wt_yes (q : kt true M) : WT Γ tYes env M kt := fun σ H o Q hq => hq _ _ _ q o (Kp.refl H)
/-! parts of a slice -/
variable {ko : Option Int → Mm → Prop}
theorem wo_no (q : ko none M) : WO Γ tNoPart env M ko := fun σ H o Q hq => hq _ _ _ q o (Kp.refl H)
theorem wo_part (h : WE Γ te env M fun x M1 => ∃ i, x = .int i ∧ ko (some i) M1) : WO Γ (tPart te) env M ko := fun σ H o Q hq =>
  h σ H o _ fun x M1 u H1 ⟨i, e, q⟩ o1 k1 r1 => by
    subst e
    cases r1
    exact ⟨i, rfl, hq _ _ _ q o1 k1⟩
end
end A

set_option Elab.async false
set_option linter.all false
set_option maxRecDepth 100000
set_option maxHeartbeats 4000000
/-! The calculus: operations on values, calls, statements, loops, comprehensions. -/
namespace A
open PySem PySem.Spec PyProof.Rows L2

/-! ### readings for more than one kind of value -/
abbrev rAddX (K : PySem.W.Frag) : R2 := fun x y H Q => (rI0 fun i j => .int (i + j)) x y H Q ∨ (fun x y H Q => rCat x y H Q ∨ rCatA K x y H Q) x y H Q
abbrev rEqX (K : PySem.W.Frag) : R2 := fun x y H Q => rEq x y H Q ∨ rEqD K x y H Q
abbrev rNeX (K : PySem.W.Frag) : R2 := fun x y H Q => rNe x y H Q ∨ rNeD K x y H Q
abbrev rSlX (K : PySem.W.Frag) : V → Option Int → Option Int → Hp → VK → Prop := fun x lo hi H Q => rSlL K x lo hi H Q ∨ rSlA K x lo hi H Q
abbrev rLenX (K : PySem.W.Frag) : List V → Hp → VK → Prop := fun xs H Q => ∃ p ys, xs = [.ref p] ∧ (SqL K H p ys ∨ SqT K H p ys) ∧ Q (.int ys.length) H
abbrev rListX (K : PySem.W.Frag) : List V → Hp → VK → Prop := fun xs H Q => ∃ p ys, xs = [.ref p] ∧ (SqL K H p ys ∨ SqT K H p ys) ∧ ∀ l, H l = none → Q (.ref l) (upd H l (.lst ys))
abbrev rTupX (K : PySem.W.Frag) : List V → Hp → VK → Prop := fun xs H Q => ∃ p ys, xs = [.ref p] ∧ ((SqL K H p ys ∧ ∀ l, H l = none → Q (.ref l) (upd H l (.tup ys))) ∨ (SqT K H p ys ∧ Q (.ref p) H))
abbrev rMod : R2 := rI (fun _ j => 0 < j) fun i j => .int (i % j)
abbrev rDiv : R2 := rI CDiv fun i j => .int (i / j)
abbrev rIsN : R2 := fun x y H Q => y = .non ∧ Q (.bl (decide (x = .non))) H
abbrev rNotN : R2 := fun x y H Q => y = .non ∧ Q (.bl (!decide (x = .non))) H
section
variable {X : Cx}
theorem op_addX : OpR X (binaryOp .Add) (rAddX X.K) := op_add.or (op_cat.or op_catA)
theorem op_eqX (hu : X.A.units + 64 < cLine) : OpR X (compareOp .Eq) (rEqX X.K) := op_eq.or (op_eqD hu)
theorem op_neX (hu : X.A.units + 64 < cLine) : OpR X (compareOp .NotEq) (rNeX X.K) := op_ne.or (op_neD hu)
theorem sl_X : SlR X (rSlX X.K) := sl_list.or sl_tupA
theorem call_lenX : CallR X (.builtin "len") (rLenX X.K) := call_len_seq
theorem call_listX : CallR X (.type "list") (rListX X.K) := call_list_of
theorem call_tupX : CallR X (.type "tuple") (rTupX X.K) := call_tuple_of
end
/-- what a for walks: a list or a tuple -/
def iSeqX (K : PySem.W.Frag) (tl : TE) : TI := fun σ H R => iList K tl σ H R ∨ iTup K tl σ H R
theorem pi_X {X : Cx} {tg iter : Expr} {w1 w2 : TI} (a : PI X tg iter w1) (b : PI X tg iter w2) : PI X tg iter (fun σ H R => w1 σ H R ∨ w2 σ H R) :=
  ⟨fun pins s σ H R I h => h.elim (a.run pins s σ H R I) (b.run pins s σ H R I)⟩

/-! ### data at a place, cut, compared -/
theorem RepL.atI {H : Hp} {vs : List V} {ds : List D} {i : Int} {d : D} (r : RepL H vs ds) (h : L2.atI ds i = some d) : ∃ v, L2.atI vs i = some v ∧ Rep H v d := by
  unfold L2.atI at h ⊢
  rw [r.length]
  cases e : ixN ds.length i with
  | none =>
    rw [e] at h
    cases h
  | some j =>
    rw [e] at h
    exact r.get h
def cutD (xs : List D) (lo hi : Option Int) : List D := (xs.drop (HT.sIx xs.length 0 lo)).take (HT.sIx xs.length xs.length hi - HT.sIx xs.length 0 lo)
theorem RepL.cut {H : Hp} {vs : List V} {ds : List D} (r : RepL H vs ds) (lo hi : Option Int) : RepL H (cutV vs lo hi) (cutD ds lo hi) := by
  unfold cutV cutD
  rw [r.length]
  exact (r.drop _).take _
mutual
def py : D → PyData
  | .int n => .int n
  | .non => .none
  | .bl b => .bool b
  | .str s => .str s
  | .tup xs => .tuple (pyL xs)
  | _ => .dict []
def pyL : List D → List PyData
  | [] => []
  | x :: xs => py x :: pyL xs
end
mutual
def pyOk : D → Bool
  | .int _ => true
  | .non => true
  | .bl _ => true
  | .str _ => true
  | .tup xs => pyOkL xs
  | _ => false
def pyOkL : List D → Bool
  | [] => true
  | x :: xs => pyOk x && pyOkL xs
end
mutual
theorem Rep.dp {K : PySem.W.Frag} {H : Hp} : ∀ {v : V} {d : D}, Rep H v d → pyOk d = true → Dp K H v (py d)
  | _, _, .int n, _ => .int n
  | _, _, .non, _ => .non
  | _, _, .bl b, _ => .bl b
  | _, _, .str s, _ => .str s
  | _, _, .tup h r, e => .tup (.inl (.inl h)) (RepL.dp r e)
  | _, _, .obj _, e => nomatch e
  | _, _, .ty _, e => nomatch e
  | _, _, .ins _ _, e => nomatch e
  | _, _, .dk _, e => nomatch e
theorem RepL.dp {K : PySem.W.Frag} {H : Hp} : ∀ {vs : List V} {ds : List D}, RepL H vs ds → pyOkL ds = true → DpAll K H vs (pyL ds)
  | _, _, .nil, _ => .nil
  | _, _, .cons h r, e => by
    obtain ⟨e1, e2⟩ := Bool.and_eq_true_iff.mp (show (pyOk _ && pyOkL _) = true from e)
    exact .cons (Rep.dp h e1) (RepL.dp r e2)
end
theorem pyOk_ints : ∀ ns : List Int, pyOkL (ns.map D.int) = true
  | [] => rfl
  | _ :: ns => pyOk_ints ns
theorem pyL_ints : ∀ ns : List Int, pyL (ns.map D.int) = ns.map PyData.int
  | [] => rfl
  | n :: ns => congrArg (PyData.int n :: ·) (pyL_ints ns)
theorem eqvAll_ints : ∀ ns ms : List Int, PyData.eqvAll (ns.map PyData.int) (ms.map PyData.int) = decide (ns = ms)
  | [], [] => rfl
  | [], _ :: _ => rfl
  | _ :: _, [] => rfl
  | n :: ns, m :: ms => by
    show ((n == m) && PyData.eqvAll (ns.map PyData.int) (ms.map PyData.int)) = _
    rw [eqvAll_ints ns ms]
    by_cases h : n = m <;> by_cases h2 : ns = ms <;> simp [h, h2]
theorem canLay_ints : ∀ ns : List Int, PyData.canLayAll0 (ns.map PyData.int) = true
  | [] => rfl
  | n :: ns => canLay_ints ns
theorem depth_ints : ∀ ns : List Int, PyData.depthAll (ns.map PyData.int) = 0 ∨ PyData.depthAll (ns.map PyData.int) ≤ 2
  | [] => .inr (by decide)
  | n :: ns => .inr (by
    have h := depth_ints ns
    show max (PyData.depth (.int n)) (PyData.depthAll (ns.map PyData.int)) ≤ 2
    have h1 : PyData.depth (.int n) ≤ 2 := by show _ ≤ 2; simp [PyData.depth]
    omega)
theorem shaped_ints (ns : List Int) : SeqAt.shaped (.tuple (ns.map PyData.int)) = true := by
  unfold SeqAt.shaped
  refine Bool.and_eq_true_iff.mpr ⟨?_, decide_eq_true ?_⟩
  · show PyData.canLayAll0 (ns.map PyData.int) = true
    exact canLay_ints ns
  · show PyData.depthAll (ns.map PyData.int) + 1 ≤ 64
    rcases depth_ints ns with h | h <;> omega

/-! ### operations on values -/
section
variable {Γ : G} {env : Env} {M : Mm} {k : D → Mm → Prop} {K : PySem.W.Frag} {i j : Int} {p q : Addr} {xs ys : List D} {x y d : D}
theorem wr_add (h : k (.int (i + j)) M) : WR Γ (rAddX K) (.int i) (.int j) env M k := fun σ H u w o r1 r2 Q hq => by
  cases r1; cases r2
  exact .inl ⟨i, j, rfl, rfl, hq _ _ _ _ h o (Kp.refl H) (.int _)⟩
theorem wr_catT (hz : xs.length + ys.length ≤ sizeLine) (h : k (.tup (xs ++ ys)) M) : WR Γ (rAddX K) (.tup xs) (.tup ys) env M k := fun σ H u w o r1 r2 Q hq => by
  cases r1 with
  | @tup a vs _ h1 q1 =>
    cases r2 with
    | @tup b us _ h2 q2 =>
      refine .inr (.inr ⟨a, b, vs, us, rfl, rfl, .inl (.inl h1), .inl (.inl h2), by rw [q1.length, q2.length]; exact hz, fun e => ?_, fun e1 e => ?_, fun e1 e2 p hp => ?_⟩)
      · subst e
        cases q1
        exact hq _ _ _ _ h o (Kp.refl H) (.tup h2 q2)
      · subst e
        cases q2
        refine hq _ _ _ _ h o (Kp.refl H) (.tup h1 ?_)
        rw [List.append_nil]
        exact q1
      · exact hq _ _ _ _ h (o.new hp) (Kp.new hp) (.tup upd_same ((q1.append q2).mono (Kp.new hp)))
theorem wr_catL {a b : Nat} (ha : M[a]? = some (p, xs)) (hb : M[b]? = some (q, ys)) (hz : xs.length + ys.length ≤ sizeLine) (h : ∀ r, k (.obj r) (M ++ [(r, xs ++ ys)])) : WR Γ (rAddX K) (.obj p) (.obj q) env M k := fun σ H u w o r1 r2 Q hq => by
  cases r1; cases r2
  obtain ⟨vs, h1, q1⟩ := o.at_ ha
  obtain ⟨us, h2, q2⟩ := o.at_ hb
  exact .inr (.inl ⟨p, q, vs, us, rfl, rfl, h1, h2, by rw [q1.length, q2.length]; exact hz, fun r hr => hq _ _ _ _ (h r) (o.newl hr (q1.append q2)) (Kp.new hr) (.obj r)⟩)
theorem wr_sub (h : k (.int (i - j)) M) : WR Γ (rI0 fun i j => .int (i - j)) (.int i) (.int j) env M k := fun σ H u w o r1 r2 Q hq => by
  cases r1; cases r2
  exact ⟨i, j, rfl, rfl, hq _ _ _ _ h o (Kp.refl H) (.int _)⟩
theorem wr_mul (hc : CMul i j) (h : k (.int (i * j)) M) : WR Γ (rI CMul fun i j => .int (i * j)) (.int i) (.int j) env M k := fun σ H u w o r1 r2 Q hq => by
  cases r1; cases r2
  exact ⟨i, j, rfl, rfl, hc, hq _ _ _ _ h o (Kp.refl H) (.int _)⟩
theorem wr_mod (hc : 0 < j) (h : k (.int (i % j)) M) : WR Γ rMod (.int i) (.int j) env M k := fun σ H u w o r1 r2 Q hq => by
  cases r1; cases r2
  exact ⟨i, j, rfl, rfl, hc, hq _ _ _ _ h o (Kp.refl H) (.int _)⟩
theorem wr_div (hc : CDiv i j) (h : k (.int (i / j)) M) : WR Γ rDiv (.int i) (.int j) env M k := fun σ H u w o r1 r2 Q hq => by
  cases r1; cases r2
  exact ⟨i, j, rfl, rfl, hc, hq _ _ _ _ h o (Kp.refl H) (.int _)⟩
theorem wr_pow (hc : CPow i j) (h : k (.int (i ^ j.toNat)) M) : WR Γ (rI CPow fun i j => .int (i ^ j.toNat)) (.int i) (.int j) env M k := fun σ H u w o r1 r2 Q hq => by
  cases r1; cases r2
  exact ⟨i, j, rfl, rfl, hc, hq _ _ _ _ h o (Kp.refl H) (.int _)⟩
theorem wr_lt (h : k (.bl (decide (i < j))) M) : WR Γ (rI0 fun i j => .bl (decide (i < j))) (.int i) (.int j) env M k := fun σ H u w o r1 r2 Q hq => by
  cases r1; cases r2
  exact ⟨i, j, rfl, rfl, hq _ _ _ _ h o (Kp.refl H) (.bl _)⟩
theorem wr_le (h : k (.bl (decide (i ≤ j))) M) : WR Γ (rI0 fun i j => .bl (decide (i ≤ j))) (.int i) (.int j) env M k := fun σ H u w o r1 r2 Q hq => by
  cases r1; cases r2
  exact ⟨i, j, rfl, rfl, hq _ _ _ _ h o (Kp.refl H) (.bl _)⟩
theorem wr_gt (h : k (.bl (decide (j < i))) M) : WR Γ (rI0 fun i j => .bl (decide (j < i))) (.int i) (.int j) env M k := fun σ H u w o r1 r2 Q hq => by
  cases r1; cases r2
  exact ⟨i, j, rfl, rfl, hq _ _ _ _ h o (Kp.refl H) (.bl _)⟩
theorem wr_ge (h : k (.bl (decide (j ≤ i))) M) : WR Γ (rI0 fun i j => .bl (decide (j ≤ i))) (.int i) (.int j) env M k := fun σ H u w o r1 r2 Q hq => by
  cases r1; cases r2
  exact ⟨i, j, rfl, rfl, hq _ _ _ _ h o (Kp.refl H) (.bl _)⟩
theorem wr_eqI (h : k (.bl (decide (i = j))) M) : WR Γ (rEqX K) (.int i) (.int j) env M k := fun σ H u w o r1 r2 Q hq => by
  cases r1; cases r2
  refine .inl ⟨rfl, ?_⟩
  have e : decide (V.int i = V.int j) = decide (i = j) := by simp
  rw [e]
  exact hq _ _ _ _ h o (Kp.refl H) (.bl _)
theorem wr_neI (h : k (.bl (!decide (i = j))) M) : WR Γ (rNeX K) (.int i) (.int j) env M k := fun σ H u w o r1 r2 Q hq => by
  cases r1; cases r2
  refine .inl ⟨rfl, ?_⟩
  have e : decide (V.int i = V.int j) = decide (i = j) := by simp
  rw [e]
  exact hq _ _ _ _ h o (Kp.refl H) (.bl _)
theorem wr_eqS {a b : Str} (h : k (.bl (decide (a = b))) M) : WR Γ (rEqX K) (.str a) (.str b) env M k := fun σ H u w o r1 r2 Q hq => by
  cases r1; cases r2
  refine .inl ⟨rfl, ?_⟩
  have e : decide (V.str a = V.str b) = decide (a = b) := by simp
  rw [e]
  exact hq _ _ _ _ h o (Kp.refl H) (.bl _)
theorem wr_neS {a b : Str} (h : k (.bl (!decide (a = b))) M) : WR Γ (rNeX K) (.str a) (.str b) env M k := fun σ H u w o r1 r2 Q hq => by
  cases r1; cases r2
  refine .inl ⟨rfl, ?_⟩
  have e : decide (V.str a = V.str b) = decide (a = b) := by simp
  rw [e]
  exact hq _ _ _ _ h o (Kp.refl H) (.bl _)
theorem wr_eqD (h1 : pyOk x = true) (h2 : pyOk y = true) (s1 : SeqAt.shaped (py x) = true) (s2 : SeqAt.shaped (py y) = true) (h : k (.bl (PyData.eqv (py x) (py y))) M) : WR Γ (rEqX K) x y env M k := fun σ H u w o r1 r2 Q hq =>
  .inr ⟨_, _, r1.dp h1, r2.dp h2, s1, s2, hq _ _ _ _ h o (Kp.refl H) (.bl _)⟩
theorem wr_neD (h1 : pyOk x = true) (h2 : pyOk y = true) (s1 : SeqAt.shaped (py x) = true) (s2 : SeqAt.shaped (py y) = true) (h : k (.bl (!PyData.eqv (py x) (py y))) M) : WR Γ (rNeX K) x y env M k := fun σ H u w o r1 r2 Q hq =>
  .inr ⟨_, _, r1.dp h1, r2.dp h2, s1, s2, hq _ _ _ _ h o (Kp.refl H) (.bl _)⟩
/-- tuples of ints -/
theorem wr_neT {ns ms : List Int} (h : k (.bl (!decide (ns = ms))) M) : WR Γ (rNeX K) (.tup (ns.map D.int)) (.tup (ms.map D.int)) env M k := by
  refine wr_neD (pyOk_ints ns) (pyOk_ints ms) ?_ ?_ ?_
  · show SeqAt.shaped (.tuple (pyL (ns.map D.int))) = true
    rw [pyL_ints]
    exact shaped_ints ns
  · show SeqAt.shaped (.tuple (pyL (ms.map D.int))) = true
    rw [pyL_ints]
    exact shaped_ints ms
  · show k (.bl (!PyData.eqvAll (pyL (ns.map D.int)) (pyL (ms.map D.int)))) M
    rw [pyL_ints, pyL_ints, eqvAll_ints]
    exact h
def isNon : D → Bool
  | .non => true
  | _ => false
theorem Rep.isN {H : Hp} {v : V} {d : D} (r : Rep H v d) : decide (v = .non) = isNon d := by
  cases r <;> simp [isNon]
theorem wr_isN (h : k (.bl (isNon x)) M) : WR Γ rIsN x .non env M k := fun σ H u w o r1 r2 Q hq => by
  cases r2
  refine ⟨rfl, ?_⟩
  rw [r1.isN]
  exact hq _ _ _ _ h o (Kp.refl H) (.bl _)
theorem wr_notN (h : k (.bl (!isNon x)) M) : WR Γ rNotN x .non env M k := fun σ H u w o r1 r2 Q hq => by
  cases r2
  refine ⟨rfl, ?_⟩
  rw [r1.isN]
  exact hq _ _ _ _ h o (Kp.refl H) (.bl _)
theorem wr_notB {a b : Bool} (h : k (.bl (!decide (a = b))) M) : WR Γ rNotB (.bl a) (.bl b) env M k := fun σ H u w o r1 r2 Q hq => by
  cases r1; cases r2
  exact ⟨a, b, rfl, rfl, hq _ _ _ _ h o (Kp.refl H) (.bl _)⟩
theorem wr_ixT (ha : atI xs i = some d) (h : k d M) : WR Γ (rIx K) (.tup xs) (.int i) env M k := fun σ H u w o r1 r2 Q hq => by
  cases r2
  cases r1 with
  | @tup a vs _ h1 q1 =>
    obtain ⟨v, e, r⟩ := q1.atI ha
    exact .inr (.inl ⟨a, vs, i, v, rfl, rfl, .inl (.inl h1), e, hq _ _ _ _ h o (Kp.refl H) r⟩)
theorem wr_ixL {a : Nat} (hm : M[a]? = some (p, xs)) (ha : atI xs i = some d) (h : k d M) : WR Γ (rIx K) (.obj p) (.int i) env M k := fun σ H u w o r1 r2 Q hq => by
  cases r2; cases r1
  obtain ⟨vs, h1, q1⟩ := o.at_ hm
  obtain ⟨v, e, r⟩ := q1.atI ha
  exact .inl ⟨p, vs, i, v, rfl, rfl, .inl (.inl h1), e, hq _ _ _ _ h o (Kp.refl H) r⟩
/-- of a list that stood at the entry, nothing being changed -/
theorem wr_ixS {ns : List Int} {n : Int} (hw : Γ.W = []) (hs : SqL K Γ.H0 p (ns.map V.int)) (ha : atI ns i = some n) (h : k (.int n) M) : WR Γ (rIx K) (.obj p) (.int i) env M k := fun σ H u w o r1 r2 Q hq => by
  cases r2; cases r1
  have s : Same Γ.H0 H := fun a o' e => by
    rcases o.fr a o' e with h1 | ⟨h1, _⟩
    · exact h1
    · rw [hw] at h1
      cases h1
  have e : atI (ns.map V.int) i = some (.int n) := by
    unfold L2.atI at ha ⊢
    rw [List.length_map]
    cases q : ixN ns.length i with
    | none =>
      rw [q] at ha
      cases ha
    | some j =>
      rw [q] at ha
      show (ns.map V.int)[j]? = _
      rw [List.getElem?_map, show ns[j]? = some n from ha] <;> rfl
  exact .inl ⟨p, _, i, _, rfl, rfl, s.seq hs, e, hq _ _ _ _ h o (Kp.refl H) (.int n)⟩
theorem flat_ints : ∀ ns : List Int, (ns.map V.int).all flatV = true
  | [] => rfl
  | n :: ns => flat_ints ns
theorem inV_ints (n : Int) : ∀ ns : List Int, inV (.int n) (ns.map V.int) = decide (n ∈ ns)
  | [] => rfl
  | m :: ns => by
    have h := inV_ints n ns
    unfold inV at h ⊢
    rw [List.map_cons, List.any_cons, h]
    show ((m == n) || decide (n ∈ ns)) = decide (n ∈ m :: ns)
    by_cases e : m = n
    · subst e
      simp
    · have e2 : ¬ n = m := fun z => e z.symm
      simp [e, e2]
theorem wr_inL {ns : List Int} {n : Int} {a : Nat} (hm : M[a]? = some (p, ns.map D.int)) (h : k (.bl (decide (n ∈ ns))) M) : WR Γ (rIn K false) (.int n) (.obj p) env M k := fun σ H u w o r1 r2 Q hq => by
  cases r2; cases r1
  obtain ⟨vs, h1, q1⟩ := o.at_ hm
  have e := q1.ints
  subst e
  refine ⟨p, _, rfl, .inl (.inl (.inl h1)), rfl, flat_ints ns, ?_⟩
  rw [if_neg (by decide), inV_ints]
  exact hq _ _ _ _ h o (Kp.refl H) (.bl _)
theorem we_din {ta tb : TE} (h : WE Γ ta env M fun x M1 => WE Γ tb env M1 fun y M2 => ∃ n kvs, x = .int n ∧ y = .dk kvs ∧ k (.bl (valV kvs (Sum.inl n)).isSome) M2) : WE Γ (tDIn ta tb) env M k := fun σ H o Q hq =>
  h σ H o _ fun x M1 u H1 h1 o1 k1 r1 => h1 σ H1 o1 _ fun y M2 w H2 ⟨n, kvs, e1, e2, q⟩ o2 k2 r2 => by
    subst e1 e2
    cases r1
    cases r2 with
    | dk hd => exact ⟨_, _, rfl, DGet.k (k := Sum.inl n) hd, hq _ _ _ _ q o2 (k1.trans k2) (.bl _)⟩
/-! slices -/
theorem we_slT {te : TE} {tl th : TO} (h : WE Γ te env M fun x M1 => WO Γ tl env M1 fun lo M2 => WO Γ th env M2 fun hi M3 => ∃ xs, x = .tup xs ∧ k (.tup (cutD xs lo hi)) M3) : WE Γ (tSl (rSlX K) te tl th) env M k := fun σ H o Q hq =>
  h σ H o _ fun x M1 u H1 h1 o1 k1 r1 => h1 σ H1 o1 _ fun lo M2 H2 h2 o2 k2 => h2 σ H2 o2 _ fun hi M3 H3 ⟨xs, e, q⟩ o3 k3 => by
    subst e
    cases (r1.mono k2).mono k3 with
    | @tup a vs _ hv qv =>
      refine .inr ⟨a, vs, rfl, .inl (.inl hv), fun w => ?_, fun w p hp => ?_⟩
      · refine hq _ _ _ _ q o3 ((k1.trans k2).trans k3) (.tup hv ?_)
        have e : cutD xs lo hi = xs := by
          unfold cutD
          rw [← qv.length, w.1, w.2, List.drop_zero, Nat.sub_zero, qv.length]
          exact List.take_length
        rw [e]
        exact qv
      · exact hq _ _ _ _ q (o3.new hp) (((k1.trans k2).trans k3).trans (Kp.new hp)) (.tup upd_same ((qv.cut lo hi).mono (Kp.new hp)))
theorem we_slL {te : TE} {tl th : TO} (h : WE Γ te env M fun x M1 => WO Γ tl env M1 fun lo M2 => WO Γ th env M2 fun hi M3 => ∃ (a : Nat) (p : Addr) (xs : List D), x = .obj p ∧ M3[a]? = some (p, xs) ∧ ∀ r, k (.obj r) (M3 ++ [(r, cutD xs lo hi)])) : WE Γ (tSl (rSlX K) te tl th) env M k := fun σ H o Q hq =>
  h σ H o _ fun x M1 u H1 h1 o1 k1 r1 => h1 σ H1 o1 _ fun lo M2 H2 h2 o2 k2 => h2 σ H2 o2 _ fun hi M3 H3 ⟨a, p, xs, e, hm, q⟩ o3 k3 => by
    subst e
    cases r1
    obtain ⟨vs, hv, qv⟩ := o3.at_ hm
    exact .inl ⟨p, vs, rfl, .inl (.inl hv), fun r hr => hq _ _ _ _ (q r) (o3.newl hr (qv.cut lo hi)) (((k1.trans k2).trans k3).trans (Kp.new hr)) (.obj r)⟩
theorem we_sl {te : TE} {tl th : TO} (h : WE Γ te env M fun x M1 => WO Γ tl env M1 fun lo M2 => WO Γ th env M2 fun hi M3 => (∃ xs, x = .tup xs ∧ k (.tup (cutD xs lo hi)) M3) ∨ (∃ (a : Nat) (p : Addr) (xs : List D), x = .obj p ∧ M3[a]? = some (p, xs) ∧ ∀ r, k (.obj r) (M3 ++ [(r, cutD xs lo hi)]))) : WE Γ (tSl (rSlX K) te tl th) env M k := fun σ H o Q hq =>
  h σ H o _ fun x M1 u H1 h1 o1 k1 r1 => h1 σ H1 o1 _ fun lo M2 H2 h2 o2 k2 => h2 σ H2 o2 _ fun hi M3 H3 q o3 k3 => by
    rcases q with ⟨xs, e, q⟩ | ⟨a, p, xs, e, hm, q⟩
    · subst e
      cases (r1.mono k2).mono k3 with
      | @tup a vs _ hv qv =>
        refine .inr ⟨a, vs, rfl, .inl (.inl hv), fun w => ?_, fun w p hp => ?_⟩
        · have e : cutD xs lo hi = xs := by
            unfold cutD
            rw [← qv.length, w.1, w.2, List.drop_zero, Nat.sub_zero, qv.length]
            exact List.take_length
          rw [e] at q
          exact hq _ _ _ _ q o3 ((k1.trans k2).trans k3) (.tup hv qv)
        · exact hq _ _ _ _ q (o3.new hp) (((k1.trans k2).trans k3).trans (Kp.new hp)) (.tup upd_same ((qv.cut lo hi).mono (Kp.new hp)))
    · subst e
      cases r1
      obtain ⟨vs, hv, qv⟩ := o3.at_ hm
      exact .inl ⟨p, vs, rfl, .inl (.inl hv), fun r hr => hq _ _ _ _ (q r) (o3.newl hr (qv.cut lo hi)) (((k1.trans k2).trans k3).trans (Kp.new hr)) (.obj r)⟩
/-! ### built-ins -/
theorem wc_lenT (h : k (.int xs.length) M) : WC Γ (rLenX K) [.tup xs] env M k := fun σ H us o r Q hq => by
  cases r with
  | cons r1 r2 =>
    cases r2
    cases r1 with
    | @tup a vs _ hv qv =>
      refine ⟨a, vs, rfl, .inr (.inl (.inl hv)), ?_⟩
      rw [qv.length]
      exact hq _ _ _ _ h o (Kp.refl H) (.int _)
theorem wc_lenL {a : Nat} (hm : M[a]? = some (p, xs)) (h : k (.int xs.length) M) : WC Γ (rLenX K) [.obj p] env M k := fun σ H us o r Q hq => by
  cases r with
  | cons r1 r2 =>
    cases r2
    cases r1
    obtain ⟨vs, hv, qv⟩ := o.at_ hm
    refine ⟨p, vs, rfl, .inl (.inl (.inl hv)), ?_⟩
    rw [qv.length]
    exact hq _ _ _ _ h o (Kp.refl H) (.int _)
theorem wc_lenS {ns : List Int} (hw : Γ.W = []) (hs : SqL K Γ.H0 p (ns.map V.int)) (h : k (.int ns.length) M) : WC Γ (rLenX K) [.obj p] env M k := fun σ H us o r Q hq => by
  cases r with
  | cons r1 r2 =>
    cases r2
    cases r1
    have s : Same Γ.H0 H := fun a o' e => by
      rcases o.fr a o' e with h1 | ⟨h1, _⟩
      · exact h1
      · rw [hw] at h1
        cases h1
    refine ⟨p, _, rfl, .inl (s.seq hs), ?_⟩
    rw [List.length_map]
    exact hq _ _ _ _ h o (Kp.refl H) (.int _)
theorem wc_listT (h : ∀ r, k (.obj r) (M ++ [(r, xs)])) : WC Γ (rListX K) [.tup xs] env M k := fun σ H us o r Q hq => by
  cases r with
  | cons r1 r2 =>
    cases r2
    cases r1 with
    | @tup a vs _ hv qv => exact ⟨a, vs, rfl, .inr (.inl (.inl hv)), fun l hl => hq _ _ _ _ (h l) (o.newl hl qv) (Kp.new hl) (.obj l)⟩
theorem wc_listL {a : Nat} (hm : M[a]? = some (p, xs)) (h : ∀ r, k (.obj r) (M ++ [(r, xs)])) : WC Γ (rListX K) [.obj p] env M k := fun σ H us o r Q hq => by
  cases r with
  | cons r1 r2 =>
    cases r2
    cases r1
    obtain ⟨vs, hv, qv⟩ := o.at_ hm
    exact ⟨p, vs, rfl, .inl (.inl (.inl hv)), fun l hl => hq _ _ _ _ (h l) (o.newl hl qv) (Kp.new hl) (.obj l)⟩
theorem wc_tupT (h : k (.tup xs) M) : WC Γ (rTupX K) [.tup xs] env M k := fun σ H us o r Q hq => by
  cases r with
  | cons r1 r2 =>
    cases r2
    cases r1 with
    | @tup a vs _ hv qv => exact ⟨a, vs, rfl, .inr ⟨.inl (.inl hv), hq _ _ _ _ h o (Kp.refl H) (.tup hv qv)⟩⟩
theorem wc_tupL {a : Nat} (hm : M[a]? = some (p, xs)) (h : k (.tup xs) M) : WC Γ (rTupX K) [.obj p] env M k := fun σ H us o r Q hq => by
  cases r with
  | cons r1 r2 =>
    cases r2
    cases r1
    obtain ⟨vs, hv, qv⟩ := o.at_ hm
    exact ⟨p, vs, rfl, .inl ⟨.inl (.inl hv), fun l hl => hq _ _ _ _ h (o.new hl) (Kp.new hl) (.tup upd_same (qv.mono (Kp.new hl)))⟩⟩
theorem RepL.bls {H : Hp} : ∀ {vs : List V} {bs : List Bool}, RepL H vs (bs.map D.bl) → vs = bs.map V.bl
  | [], [], _ => rfl
  | _ :: _, [], h => by cases h
  | [], _ :: _, h => by cases h
  | _ :: _, n :: ns, h => by
    cases h with
    | cons h r =>
      cases h
      rw [RepL.bls r] <;> rfl
theorem wc_all {a : Nat} {bs : List Bool} (hm : M[a]? = some (p, bs.map D.bl)) (h : k (.bl (bs.all id)) M) : WC Γ (rAll K) [.obj p] env M k := fun σ H us o r Q hq => by
  cases r with
  | cons r1 r2 =>
    cases r2
    cases r1
    obtain ⟨vs, hv, qv⟩ := o.at_ hm
    have e := qv.bls
    subst e
    exact ⟨p, bs, rfl, .inl (.inl hv), hq _ _ _ _ h o (Kp.refl H) (.bl _)⟩
theorem wc_isiB {b : Bool} (h : k (.bl true) M) : WC Γ (rIsi K) [.bl b, .ty "bool"] env M k := fun σ H us o r Q hq => by
  cases r with
  | cons r1 r2 =>
    cases r2 with
    | cons r2 r3 =>
      cases r3
      cases r1
      cases r2
      exact ⟨.bl b, .ty "bool", _, _, true, rfl, .ty "bool", .base (.bl b), kit_ty (by decide +kernel), hq _ _ _ _ h o (Kp.refl H) (.bl true)⟩
/-! ### methods of lists -/
theorem we_app {ta te : TE} (h : WE Γ ta env M fun x M1 => ∃ p, x = .obj p ∧ (∃ (a : Nat) (ds : List D), M1[a]? = some (p, ds)) ∧ WE Γ te env M1 fun y M2 => ∃ (b : Nat) (es : List D), M2[b]? = some (p, es) ∧ es.length < sizeLine ∧ k .non (M2.set b (p, es ++ [y]))) :
    WE Γ (tBM K "list" rAppend ta (tCons te tNil)) env M k := fun σ H o Q hq =>
  h σ H o _ fun x M1 u H1 ⟨p, e, ⟨a, ds, hm⟩, h1⟩ o1 k1 r1 => by
    subst e
    cases r1
    obtain ⟨vs, hv, qv⟩ := o1.at_ hm
    refine ⟨.inl ⟨rfl, _, .inl (.inl hv)⟩, h1 σ H1 o1 _ fun y M2 w H2 ⟨b, es, hm2, hz, q⟩ o2 k2 r2 => ?_⟩
    obtain ⟨us, hu, qu⟩ := o2.at_ hm2
    refine ⟨p, us, w, rfl, rfl, hu, by rw [qu.length]; exact hz, hq _ _ _ _ q (o2.set hm2 (qu.append (.cons r2 .nil))) ((k1.trans k2).trans (Kp.lst hu)) .non⟩
/-- xs.pop(0) -/
theorem we_pop0 {ta : TE} (h : WE Γ ta env M fun x M1 => ∃ (p : Addr) (a : Nat) (d : D) (ds : List D), x = .obj p ∧ M1[a]? = some (p, d :: ds) ∧ k d (M1.set a (p, ds))) :
    WE Γ (tBM K "list" rPopAt ta (tCons (tC (.int 0)) tNil)) env M k := fun σ H o Q hq =>
  h σ H o _ fun x M1 u H1 ⟨p, a, d, ds, e, hm, q⟩ o1 k1 r1 => by
    subst e
    cases r1
    obtain ⟨vs, hv, qv⟩ := o1.at_ hm
    refine ⟨.inl ⟨rfl, _, .inl (.inl hv)⟩, ?_⟩
    cases qv with
    | @cons v _ vs _ r rs =>
      refine ⟨p, v :: vs, 0, 0, v, rfl, rfl, hv, by decide, by decide, ?_, rfl, ?_⟩
      · have := PySem.seqIndex_of (k := 0) (n := (v :: vs).length) (by decide) (by simp)
        exact this
      · exact hq _ _ _ _ q (o1.set hm rs) (k1.trans (Kp.lst hv)) (r.mono (Kp.lst hv))
end
end A

set_option Elab.async false
set_option linter.all false
set_option maxRecDepth 100000
set_option maxHeartbeats 4000000
/-! The calculus: calls, statements, loops, comprehensions. -/
namespace A
open PySem PySem.Spec PyProof.Rows L2

/-! ### promises -/
/-- S ds F k: called with ds over the lists F, all ends are in k -/
def spOf (S : List D → Mm → (D → Mm → Prop) → Prop) : Sp := fun vs H Q _ => ∃ (ds : List D) (F : Mm) (k : D → Mm → Prop), RepL H vs ds ∧ MOk H F ∧ S ds F k ∧
  ∀ d F' v H', k d F' → MOk H' F' → Rep H' v d → Fr (F.map (·.1)) H H' → (∀ e ∈ F', e.1 ∈ F.map (·.1) ∨ H e.1 = none) → Q v H'
inductive Split : Mm → Mm → Mm → Prop
  | nil : Split [] [] []
  | take {M F R : Mm} {e : Addr × List D} (s : Split M F R) : Split (e :: M) (e :: F) R
  | leave {M F R : Mm} {e : Addr × List D} (s : Split M F R) : Split (e :: M) F (e :: R)
theorem Split.perm : ∀ {M F R : Mm}, Split M F R → (R ++ F).Perm M
  | _, _, _, .nil => .nil
  | _, _, _, .take s => List.perm_middle.trans ((Split.perm s).cons _)
  | _, _, _, .leave s => (Split.perm s).cons _
theorem Split.none : ∀ M : Mm, Split M [] M
  | [] => .nil
  | _ :: M => .leave (Split.none M)
theorem Split.all : ∀ M : Mm, Split M M []
  | [] => .nil
  | _ :: M => .take (Split.all M)
section
variable {Γ : G} {env : Env} {M : Mm} {σ : L2.St} {H H' : Hp}
theorem MOk.perm {M' : Mm} (m : MOk H M) (s : M'.Perm M) : MOk H M' := ⟨fun e he => m.at_ e (s.mem_iff.mp he), ((s.map (·.1)).nodup_iff).mpr m.nd⟩
/-- behind a call that may have changed the lists F -/
theorem Ok.call {F R F' : Mm} (o : Ok Γ env M σ H) (s : Split M F R) (m : MOk H' F') (f : Fr (F.map (·.1)) H H') (n : ∀ e ∈ F', e.1 ∈ F.map (·.1) ∨ H e.1 = none) : Ok Γ env (R ++ F') σ H' := by
  have p := s.perm
  have m0 := o.mem.perm p
  have nd := m0.nd
  rw [List.map_append, List.nodup_append] at nd
  have kp := f.kp
  have keepR : ∀ e ∈ R, ∀ vs, H e.1 = some (.lst vs) → H' e.1 = some (.lst vs) := fun e he vs h => by
    rcases f _ _ h with h1 | ⟨w, _⟩
    · exact h1
    · exact absurd rfl (nd.2.2 _ (List.mem_map.mpr ⟨e, he, rfl⟩) _ w)
  refine ⟨o.env.mono kp, ⟨fun e he => ?_, ?_⟩, fun e he => ?_, fun a u h => ?_⟩
  · rcases List.mem_append.mp he with he | he
    · obtain ⟨vs, h, r⟩ := m0.at_ e (List.mem_append_left _ he)
      exact ⟨vs, keepR e he vs h, r.mono kp⟩
    · exact m.at_ e he
  · rw [List.map_append, List.nodup_append]
    refine ⟨nd.1, m.nd, fun a ha b hb => ?_⟩
    rintro rfl
    obtain ⟨e, he, e1⟩ := List.mem_map.mp hb
    rcases n e he with w | w
    · rw [e1] at w
      exact nd.2.2 _ ha _ w rfl
    · obtain ⟨e', he', e2⟩ := List.mem_map.mp ha
      obtain ⟨vs, h, _⟩ := m0.at_ e' (List.mem_append_left _ he')
      rw [e2, ← e1, w] at h
      cases h
  · rcases List.mem_append.mp he with he | he
    · exact o.own e (p.mem_iff.mp (List.mem_append_left _ he))
    · rcases n e he with w | w
      · obtain ⟨e', he', e2⟩ := List.mem_map.mp w
        rw [← e2]
        exact o.own e' (p.mem_iff.mp (List.mem_append_right _ he'))
      · exact .inr (o.free0 w)
  · have inW : ∀ a, a ∈ F.map (·.1) → Γ.H0 a = some u → a ∈ Γ.W := fun a w h => by
      obtain ⟨e', he', e2⟩ := List.mem_map.mp w
      rcases o.own e' (p.mem_iff.mp (List.mem_append_right _ he')) with z | z
      · rw [← e2]
        exact z
      · rw [e2, h] at z
        cases z
    rcases o.fr a u h with h1 | ⟨w, xs, ys, e, h1⟩
    · rcases f a u h1 with h2 | ⟨w, xs, ys, e, h2⟩
      · exact .inl h2
      · exact .inr ⟨inW a w h, xs, ys, e, h2⟩
    · rcases f a _ h1 with h2 | ⟨_, xs', ys', e', h2⟩
      · exact .inr ⟨w, xs, ys, e, h2⟩
      · exact .inr ⟨w, xs, ys', e, h2⟩
end
section
variable {Γ : G} {env : Env} {M : Mm} {k : D → Mm → Prop} {K : PySem.W.Frag} {ta te : TE} {tl : TA} {E : XK} {S : List D → Mm → (D → Mm → Prop) → Prop}
theorem we_call (h : WA Γ tl env M fun ds M1 => ∃ F R, Split M1 F R ∧ S ds F fun d F' => k d (R ++ F')) : WE Γ (tCall (spOf S) [] E tl) env M k := fun σ H o Q hq =>
  h σ H o _ fun ds M1 vs H1 ⟨F, R, s, hs⟩ o1 k1 r1 => by
    rw [List.append_nil]
    refine ⟨ds, F, _, r1, (o1.mem.perm s.perm).sub (List.sublist_append_right _ _), hs, fun d F' v H' q m r f n => ?_⟩
    exact hq _ _ _ _ q (o1.call s m f n) (k1.trans f.kp) r
theorem we_meth {C : Addr} {m : Str} (h : WE Γ ta env M fun x M1 => ∃ gs, x = .ins C gs ∧ gs.lookup m = none ∧ WA Γ tl env M1 fun ds M2 => ∃ F R, Split M2 F R ∧ S (.ins C gs :: ds) F fun d F' => k d (R ++ F')) : WE Γ (tMeth C m (spOf S) [] E ta tl) env M k := fun σ H o Q hq =>
  h σ H o _ fun x M1 u H1 ⟨gs, e, l, h1⟩ o1 k1 r1 => by
    subst e
    have r0 := r1
    cases r1 with
    | @ins a _ dx fs _ ha rf =>
      refine ⟨a, dx, fs, rfl, ha, rf.lookN l, h1 _ H1 o1 _ fun ds M2 vs H2 ⟨F, R, s, hs⟩ o2 k2 r2 => ?_⟩
      rw [List.append_nil]
      refine ⟨_, F, _, .cons (r0.mono k2) r2, (o2.mem.perm s.perm).sub (List.sublist_append_right _ _), hs, fun d F' v H' q m r f n => ?_⟩
      exact hq _ _ _ _ q (o2.call s m f n) ((k1.trans k2).trans f.kp) r
/-- all but the new instance and the lists W stay -/
def FrX (x : Addr) (W : List Addr) (H H' : Hp) : Prop := ∀ b o, H b = some o → b ≠ x → H' b = some o ∨ (b ∈ W ∧ ∃ xs ys, o = .lst xs ∧ H' b = some (.lst ys))
/-- C(..): what __init__ promises of the raw instance -/
def spInit (C : Addr) (nargs : Nat) (pre : List D → Mm → (List (Str × D) → Mm → Prop) → Prop) : Sp := fun vs H Q _ => ∃ (x dx : Addr) (us : List V) (ds : List D) (F : Mm) (kf : List (Str × D) → Mm → Prop), vs = .ref x :: us ∧ us.length = nargs ∧ H x = some (.ins C dx []) ∧
  RepL H us ds ∧ (∀ W H', FrX x W H H' → RepL H' us ds) ∧ pre ds F kf ∧ MOk H F ∧
  ∀ gs F' fs H', kf gs F' → H' x = some (.ins C dx fs) → RepF H' fs gs → FrX x (F.map (·.1)) H H' → MOk H' F' → (∀ e ∈ F', e.1 ∈ F.map (·.1) ∨ H e.1 = none) → Q .non H'
theorem we_make {C : Addr} {n : Nat} {pre : List D → Mm → (List (Str × D) → Mm → Prop) → Prop} {dvs : List V} {es : List D} (hdv : ∀ H, RepL H dvs es) (h : WA Γ tl env M fun ds M1 => (ds ++ es).length = n ∧ ∃ F R, Split M1 F R ∧ pre (ds ++ es) F fun gs F' => k (.ins C gs) (R ++ F')) : WE Γ (tMake C (spInit C n pre) dvs E tl) env M k := fun σ H o Q hq =>
  h σ H o _ fun ds M1 vs H1 ⟨hl, F, R, sp, hp⟩ o1 k1 r1 => fun x dx hx hdx ne => by
    have s1 : Same H1 (upd (upd H1 dx (.own x)) x (.ins C dx [])) := fun b u e => by
      rw [upd_ne (ne_of_none e hx), upd_ne (ne_of_none e hdx)]
      exact e
    have rl := r1.append (hdv H1)
    have toF : ∀ {W H'}, FrX x W (upd (upd H1 dx (.own x)) x (.ins C dx [])) H' → Fr W H1 H' := fun {W H'} f b u e => f b u (s1 b u e) (ne_of_none e hx)
    refine ⟨x, dx, vs ++ dvs, ds ++ es, F, _, rfl, by rw [rl.length]; exact hl, upd_same, rl.mono (Kp.same s1), fun W H' f => rl.mono (toF f).kp, hp, ((o1.mem.perm sp.perm).sub (List.sublist_append_right _ _)).same s1, fun gs F' fs H' q hx' rf f m nw => ⟨rfl, ?_⟩⟩
    have fr := toF f
    have o2 := o1.call sp m fr fun e he => (nw e he).imp id fun z => by
      cases y : H1 e.1 with
      | none => rfl
      | some u =>
        rw [s1 _ _ y] at z
        cases z
    exact hq _ _ _ _ q o2 (k1.trans fr.kp) (.ins hx' rf)
end

/-! ### statements -/
section
variable {Γ : G} {env : Env} {M : Mm} {K : PySem.W.Frag} {te : TE} {tt : TT} {t u : TS} {E : AE} {g : TG} {d : D}
theorem ws_seq (h : WS Γ t { E with nx := fun env' M' => WS Γ u E env' M' } env M) : WS Γ (tSeq t u) E env M := fun σ H Dn o l =>
  h σ H { Dn with nx := u Dn } o ⟨fun env' M' σ' H' w o' k' => w σ' H' Dn o' (l.step k'), l.rt, l.bk, l.ct⟩
/-- with a word between -/
theorem ws_mid (I : Env → Mm → Prop) (h : WS Γ t { E with nx := I } env M) (h2 : ∀ env' M', I env' M' → WS Γ u E env' M') : WS Γ (tSeq t u) E env M := fun σ H Dn o l =>
  h σ H { Dn with nx := u Dn } o ⟨fun env' M' σ' H' w o' k' => h2 env' M' w σ' H' Dn o' (l.step k'), l.rt, l.bk, l.ct⟩
theorem ws_nx (h : E.nx env M) : WS Γ tNext E env M := fun σ H Dn o l => l.nx _ _ _ _ h o (Kp.refl H)
theorem ws_drop (h : WE Γ te env M fun _ M' => E.nx env M') : WS Γ (tDrop te) E env M := fun σ H Dn o l => h σ H o _ fun x M1 v H1 q o1 k1 r1 => l.nx _ _ _ _ q o1 k1
theorem ws_ret (h : WE Γ te env M fun d M' => E.rt d M') : WS Γ (tRet te) E env M := fun σ H Dn o l => h σ H o _ fun x M1 v H1 q o1 k1 r1 => l.rt _ _ _ _ _ _ q o1 r1
theorem ws_asg (h : WE Γ te env M fun d M' => WG Γ g d env M' E.nx) : WS Γ (tAsg te g) E env M := fun σ H Dn o l => h σ H o _ fun x M1 v H1 q o1 k1 r1 => q σ H1 v o1 r1 _ fun env' M' σ' H' q' o' k' => l.nx _ _ _ _ q' o' (k1.trans k')
theorem ws_if (h : WT Γ tt env M fun b M' => (b = true → WS Γ t E env M') ∧ (b = false → WS Γ u E env M')) : WS Γ (tIfS tt t u) E env M := fun σ H Dn o l => h σ H o _ fun b M1 H1 ⟨q1, q2⟩ o1 k1 => by
  cases b with
  | true => exact iteT (q1 rfl σ H1 Dn o1 (l.step k1))
  | false => exact iteF (q2 rfl σ H1 Dn o1 (l.step k1))
theorem ws_weak {env' : Env} {M' : Mm} (w : Weak env' env) (s : M'.Sublist M) (h : WS Γ t E env' M') : WS Γ t E env M := fun σ H Dn o l => h σ H Dn ((o.weak w).sub s) l
theorem wg_name {i : Nat} {k : Env → Mm → Prop} (h : k (env.set i (some d)) M) : WG Γ (gName i) d env M k := fun σ H v o r Q hq => hq _ _ _ _ h (o.put r) (Kp.refl H)
theorem wg_tup {n : Nat} {gs : TGs} {ds : List D} {k : Env → Mm → Prop} (hn : ds.length = n) (h : WGs Γ gs ds env M k) : WG Γ (gTup K n gs) (.tup ds) env M k := fun σ H v o r Q hq => by
  cases r with
  | @tup a vs _ hv qv => exact ⟨a, vs, rfl, .inl (.inl hv), by rw [qv.length]; exact hn, h σ H vs o qv Q hq⟩
theorem wgs_nil {k : Env → Mm → Prop} (h : k env M) : WGs Γ gNil [] env M k := fun σ H vs o r Q hq => by
  cases r
  exact ⟨rfl, hq _ _ _ _ h o (Kp.refl H)⟩
theorem wgs_cons {gs : TGs} {x : D} {xs : List D} {k : Env → Mm → Prop} (h : WG Γ g x env M fun env' M' => WGs Γ gs xs env' M' k) : WGs Γ (gCons g gs) (x :: xs) env M k := fun σ H vs o r Q hq => by
  cases r with
  | cons r rs => exact ⟨_, _, rfl, h σ H _ o r _ fun env' M' σ' H' q o' k' => q σ' H' _ o' (rs.mono k') Q fun env2 M2 σ2 H2 q2 o2 k2 => hq _ _ _ _ q2 o2 (k'.trans k2)⟩
/-- xs[i] = d -/
theorem wg_set {ta ti : TE} {k : Env → Mm → Prop} (h : WE Γ ta env M fun x M1 => WE Γ ti env M1 fun y M2 => ∃ (a : Nat) (p : Addr) (xs : List D) (i : Int) (j : Nat), x = .obj p ∧ y = .int i ∧ M2[a]? = some (p, xs) ∧ ixN xs.length i = some j ∧ k env (M2.set a (p, xs.set j d))) : WG Γ (gSub ta ti rSetL) d env M k := fun σ H v o r Q hq =>
  h σ H o _ fun x M1 u H1 h1 o1 k1 r1 => h1 σ H1 o1 _ fun y M2 w H2 ⟨a, p, xs, i, j, e1, e2, hm, hj, q⟩ o2 k2 r2 => by
    subst e1 e2
    cases r1
    cases r2
    obtain ⟨vs, hv, qv⟩ := o2.at_ hm
    exact ⟨p, vs, i, j, rfl, rfl, hv, by rw [qv.length]; exact hj, hq _ _ _ _ q (o2.set hm (RepL.set ((r.mono k1).mono k2) j qv)) ((k1.trans k2).trans (Kp.lst hv))⟩
end
/-! ### a def's body -/
theorem enter {S : List D → Mm → (D → Mm → Prop) → Prop} {t : TS} {N : List Str} {vs : List V} {H : Hp} {Q : VK} {X : XK} (h : spOf S vs H Q X)
    (body : ∀ (ds : List D) (F : Mm) (k : D → Mm → Prop) (Γ : G), S ds F k → Γ.W = F.map (·.1) → WS Γ t { nx := fun _ M => k .non M, rt := k } (ds.map some ++ List.replicate (N.length - ds.length) none) F) : t { nx := fun _ H' => Q .non H', rt := Q } (L2.start N vs) H := by
  obtain ⟨ds, F, k, r, m, hs, q⟩ := h
  refine body ds F k ⟨H, F.map (·.1)⟩ hs rfl _ H _ ⟨?_, m, fun e he => .inl (List.mem_map.mpr ⟨e, he, rfl⟩), Fr.refl _ H⟩ ⟨fun env M σ H' z o _ => ?_, fun d M env v σ H' z o r' => ?_, fun _ _ _ _ z _ _ => z.elim, fun _ _ _ _ z _ _ => z.elim⟩
  · unfold L2.start
    rw [r.length]
    exact RepE.start _ r
  · exact q _ _ _ _ z o.mem .non o.fr o.own
  · exact q _ _ _ _ z o.mem r' o.fr o.own
theorem enterG {S : List D → Mm → (D → Mm → Prop) → Prop} {t : TS} {N : List Str} {vs : List V} {H : Hp} {Q : VK} {X : XK} (h : spOf S vs H Q X)
    (body : ∀ (ds : List D) (F : Mm) (k : D → Mm → Prop) (Γ : G), S ds F k → Γ.W = F.map (·.1) → WS Γ t { nx := fun _ M => ∃ M2, M2.Sublist M ∧ k .non M2, rt := fun d M => ∃ M2, M2.Sublist M ∧ k d M2 } (ds.map some ++ List.replicate (N.length - ds.length) none) F) : t { nx := fun _ H' => Q .non H', rt := Q } (L2.start N vs) H := by
  obtain ⟨ds, F, k, r, m, hs, q⟩ := h
  refine body ds F k ⟨H, F.map (·.1)⟩ hs rfl _ H _ ⟨?_, m, fun e he => .inl (List.mem_map.mpr ⟨e, he, rfl⟩), Fr.refl _ H⟩ ⟨fun env M σ H' z o _ => ?_, fun d M env v σ H' z o r' => ?_, fun _ _ _ _ z _ _ => z.elim, fun _ _ _ _ z _ _ => z.elim⟩
  · unfold L2.start
    rw [r.length]
    exact RepE.start _ r
  · obtain ⟨M2, s, z⟩ := z
    exact q _ _ _ _ z (o.mem.sub s) .non o.fr (o.sub s).own
  · obtain ⟨M2, s, z⟩ := z
    exact q _ _ _ _ z (o.mem.sub s) r' o.fr (o.sub s).own
theorem spOf_len {S : List D → Mm → (D → Mm → Prop) → Prop} {n : Nat} (h : ∀ ds F k, S ds F k → ds.length = n) : ∀ vs H Q E, spOf S vs H Q E → vs.length = n := fun vs H Q E ⟨ds, F, k, r, _, hs, _⟩ => by
  rw [r.length]
  exact h ds F k hs

/-! ### loops -/
section
variable {Γ : G} {env : Env} {M : Mm} {K : PySem.W.Frag} {te : TE} {ta : TA} {tb : TS} {E : AE} {g : TG}
/-- what a turn is to reach -/
abbrev AE.turn (E : AE) (I : Env → Mm → Prop) : AE := { nx := I, rt := E.rt, bk := E.nx, ct := I }
theorem ws_forT (Inv : Nat → Env → Mm → Prop)
    (h : WE Γ te env M fun d M1 => ∃ xs, d = .tup xs ∧ Inv 0 env M1 ∧ (∀ i x env' M', xs[i]? = some x → Inv i env' M' → WG Γ g x env' M' fun env2 M2 => WS Γ tb (E.turn (Inv (i + 1))) env2 M2) ∧ (∀ env' M', Inv xs.length env' M' → E.nx env' M')) :
    WS Γ (tFor (iSeqX K te) g tb) E env M := fun σ H Dn o l => Or.inr (h σ H o _ fun d M1 v H1 ⟨xs, e, i0, step, fin⟩ o1 k1 r1 => by
  subst e
  cases r1 with
  | @tup a vs _ hv qv =>
    refine ⟨a, rfl, ⟨vs, .inl (.inl hv)⟩, for_tup (xs := vs) (fun i σ' H' => ∃ env' M', Inv i env' M' ∧ Ok Γ env' M' σ' H' ∧ Kp H1 H') ⟨env, M1, i0, o1, Kp.refl H1⟩ (fun i σ' H' _ ⟨_, _, _, _, kk⟩ => .inl (.inl (kk.keep hv fun _ z => nomatch z))) (fun i x σ' H' hx ⟨env', M', inv, o', kk⟩ => ?_) (fun σ' H' ⟨env', M', inv, o', kk⟩ => ?_)⟩
    · obtain ⟨d, hd, rd⟩ := qv.get' hx
      refine step i d env' M' hd inv σ' H' x o' (rd.mono kk) _ fun env2 M2 σ2 H2 ws o2 k2 => ws σ2 H2 _ o2 ⟨?_, l.rt, ?_, ?_⟩
      · exact fun env3 M3 σ3 H3 q o3 k3 => ⟨env3, M3, q, o3, (kk.trans k2).trans k3⟩
      · exact fun env3 M3 σ3 H3 q o3 k3 => l.nx _ _ _ _ q o3 (((k1.trans kk).trans k2).trans k3)
      · exact fun env3 M3 σ3 H3 q o3 k3 => ⟨env3, M3, q, o3, (kk.trans k2).trans k3⟩
    · rw [qv.length] at inv
      exact l.nx _ _ _ _ (fin env' M' inv) o' (k1.trans kk))
theorem ws_forL (Inv : Nat → Env → Mm → Prop)
    (h : WE Γ te env M fun d M1 => ∃ p xs, d = .obj p ∧ Inv 0 env M1 ∧ (∀ i env' M', Inv i env' M' → ∃ a : Nat, M'[a]? = some (p, xs)) ∧ (∀ i x env' M', xs[i]? = some x → Inv i env' M' → WG Γ g x env' M' fun env2 M2 => WS Γ tb (E.turn (Inv (i + 1))) env2 M2) ∧ (∀ env' M', Inv xs.length env' M' → E.nx env' M')) :
    WS Γ (tFor (iSeqX K te) g tb) E env M := fun σ H Dn o l => Or.inl (h σ H o _ fun d M1 v H1 ⟨p, xs, e, i0, at_, step, fin⟩ o1 k1 r1 => by
  subst e
  cases r1
  obtain ⟨a, ha⟩ := at_ 0 env M1 i0
  obtain ⟨vs, hv, qv⟩ := o1.at_ ha
  refine ⟨p, rfl, ⟨vs, .inl (.inl hv)⟩, ?_⟩
  refine ⟨fun i m σ' H' => m = xs.length - i ∧ i ≤ xs.length ∧ ∃ env' M', Inv i env' M' ∧ Ok Γ env' M' σ' H' ∧ Kp H1 H', ⟨xs.length, by simp, Nat.zero_le _, env, M1, i0, o1, Kp.refl H1⟩, ?_⟩
  rintro i m σ' H' ⟨rfl, hi, env', M', inv, o', kk⟩
  obtain ⟨b, hb⟩ := at_ i env' M' inv
  obtain ⟨us, hu, qu⟩ := o'.at_ hb
  by_cases hlt : i < xs.length
  · have hlt2 : i < us.length := by rw [qu.length]; exact hlt
    refine .inr ⟨⟨us, us[i], .inl (.inl hu), by simp [hlt2]⟩, fun σ2 H2 => ∃ env' M', Inv (i + 1) env' M' ∧ Ok Γ env' M' σ2 H2 ∧ Kp H1 H2, fun σ2 H2 p' => ⟨xs.length - (i + 1), by omega, rfl, hlt, p'⟩, fun x H2 y => ?_⟩
    obtain ⟨e, y⟩ := y
    subst e
    have hx := y us (.inl (.inl hu))
    obtain ⟨d, hd, rd⟩ := qu.get' hx
    refine step i d env' M' hd inv σ' _ x o' rd _ fun env2 M2 σ2 H2 ws o2 k2 => ws σ2 H2 _ o2 ⟨?_, l.rt, ?_, ?_⟩
    · exact fun env3 M3 σ3 H3 q o3 k3 => ⟨env3, M3, q, o3, (kk.trans k2).trans k3⟩
    · exact fun env3 M3 σ3 H3 q o3 k3 => l.nx _ _ _ _ q o3 (((k1.trans kk).trans k2).trans k3)
    · exact fun env3 M3 σ3 H3 q o3 k3 => ⟨env3, M3, q, o3, (kk.trans k2).trans k3⟩
  · have e : i = xs.length := by omega
    subst e
    exact .inl ⟨⟨us, .inl (.inl hu), by rw [qu.length]; exact Nat.le_refl _⟩, l.nx _ _ _ _ (fin env' M' inv) o' (k1.trans kk)⟩)
theorem ws_forR (Inv : Nat → Env → Mm → Prop)
    (h : WA Γ ta env M fun ds M1 => ∃ n : Int, ds = [.int n] ∧ -(2 ^ 62) ≤ n ∧ n < 2 ^ 62 ∧ Inv 0 env M1 ∧ (∀ (i : Nat) env' M', (i : Int) < n → Inv i env' M' → WG Γ g (.int i) env' M' fun env2 M2 => WS Γ tb (E.turn (Inv (i + 1))) env2 M2) ∧ (∀ env' M', Inv n.toNat env' M' → E.nx env' M')) :
    WS Γ (tFor (iRng1 ta) g tb) E env M := fun σ H Dn o l => h σ H o _ fun ds M1 vs H1 ⟨n, e, b1, b2, i0, step, fin⟩ o1 k1 r1 => by
  subst e
  cases r1 with
  | cons r1 r2 =>
    cases r2
    cases r1
    refine ⟨n, rfl, b1, b2, for_range (lo := 0) (n := n.toNat) (fun i σ' H' => ∃ env' M', Inv i env' M' ∧ Ok Γ env' M' σ' H' ∧ Kp H1 H') ⟨env, M1, i0, o1, Kp.refl H1⟩ (fun i σ' H' hi ⟨env', M', inv, o', kk⟩ => ?_) (fun σ' H' ⟨env', M', inv, o', kk⟩ => l.nx _ _ _ _ (fin env' M' inv) o' (k1.trans kk))⟩
    rw [Int.zero_add]
    refine step i env' M' (by omega) inv σ' H' _ o' (.int _) _ fun env2 M2 σ2 H2 ws o2 k2 => ws σ2 H2 _ o2 ⟨?_, l.rt, ?_, ?_⟩
    · exact fun env3 M3 σ3 H3 q o3 k3 => ⟨env3, M3, q, o3, (kk.trans k2).trans k3⟩
    · exact fun env3 M3 σ3 H3 q o3 k3 => l.nx _ _ _ _ q o3 (((k1.trans kk).trans k2).trans k3)
    · exact fun env3 M3 σ3 H3 q o3 k3 => ⟨env3, M3, q, o3, (kk.trans k2).trans k3⟩
/-- zip of two tuples -/
theorem ws_forZ (Inv : Nat → Env → Mm → Prop)
    (h : WA Γ ta env M fun ds M1 => ∃ xs ys, ds = [.tup xs, .tup ys] ∧ Inv 0 env M1 ∧ (∀ i x y env' M', xs[i]? = some x → ys[i]? = some y → Inv i env' M' → WG Γ g (.tup [x, y]) env' M' fun env2 M2 => WS Γ tb (E.turn (Inv (i + 1))) env2 M2) ∧ (∀ env' M', Inv (min xs.length ys.length) env' M' → E.nx env' M')) :
    WS Γ (tFor (RZ.iZipA K ta) g tb) E env M := fun σ H Dn o l => h σ H o _ fun ds M1 vs H1 ⟨xs, ys, e, i0, step, fin⟩ o1 k1 r1 => by
  subst e
  cases r1 with
  | cons r1 r2 =>
    cases r2 with
    | cons r2 r3 =>
      cases r3
      cases r1 with
      | @tup a vs _ hv qv =>
        cases r2 with
        | @tup b us _ hu qu =>
          refine ⟨a, b, vs, us, rfl, .inr ⟨.inl (.inl hv), .inl (.inl hu), ?_⟩⟩
          refine ⟨fun i m σ' H' => m = min xs.length ys.length - i ∧ i ≤ min xs.length ys.length ∧ ∃ env' M', Inv i env' M' ∧ Ok Γ env' M' σ' H' ∧ Kp H1 H', ⟨_, rfl, Nat.zero_le _, env, M1, i0, o1, Kp.refl H1⟩, ?_⟩
          rintro i m σ' H' ⟨rfl, hi, env', M', inv, o', kk⟩
          have sv : SqT K H' a vs := .inl (.inl (kk.keep hv fun _ z => nomatch z))
          have su : SqT K H' b us := .inl (.inl (kk.keep hu fun _ z => nomatch z))
          have lv := qv.length
          have lu := qu.length
          by_cases hlt : i < min xs.length ys.length
          · have h1 : i < vs.length := by omega
            have h2 : i < us.length := by omega
            refine .inr ⟨⟨vs, us, vs[i], us[i], sv, su, by simp [h1], by simp [h2]⟩, fun σ2 H2 => ∃ env' M', Inv (i + 1) env' M' ∧ Ok Γ env' M' σ2 H2 ∧ Kp H1 H2, fun σ2 H2 p' => ⟨_, by omega, rfl, hlt, p'⟩, fun v H2 y => ?_⟩
            obtain ⟨T, x', y', rfl, hT, rfl, f1, f2⟩ := y
            obtain ⟨d1, e1, rd1⟩ := qv.get' (f1 vs sv)
            obtain ⟨d2, e2, rd2⟩ := qu.get' (f2 us su)
            have kT : Kp H' (upd H' T (.tup [x', y'])) := Kp.new hT
            refine step i d1 d2 env' M' e1 e2 inv σ' _ _ (o'.new hT) (.tup upd_same (.cons ((rd1.mono kk).mono kT) (.cons ((rd2.mono kk).mono kT) .nil))) _ fun env2 M2 σ2 H2 ws o2 k2 => ws σ2 H2 _ o2 ⟨?_, l.rt, ?_, ?_⟩
            · exact fun env3 M3 σ3 H3 q o3 k3 => ⟨env3, M3, q, o3, ((kk.trans kT).trans k2).trans k3⟩
            · exact fun env3 M3 σ3 H3 q o3 k3 => l.nx _ _ _ _ q o3 ((((k1.trans kk).trans kT).trans k2).trans k3)
            · exact fun env3 M3 σ3 H3 q o3 k3 => ⟨env3, M3, q, o3, ((kk.trans kT).trans k2).trans k3⟩
          · have e : i = min xs.length ys.length := by omega
            subst e
            refine .inl ⟨⟨vs, us, sv, su, ?_⟩, l.nx _ _ _ _ (fin env' M' inv) o' (k1.trans kk)⟩
            by_cases q : xs.length ≤ ys.length
            · exact .inl (by omega)
            · exact .inr (by omega)
end
end A

set_option Elab.async false
set_option linter.all false
set_option maxRecDepth 100000
set_option maxHeartbeats 4000000
/-! The calculus: comprehensions, the marks' dict, sorted(set(..)). -/
namespace A
open PySem PySem.Spec PyProof.Rows L2

section
variable {Γ : G} {env : Env} {M : Mm} {K : PySem.W.Frag} {te tl : TE} {tt : TT} {ta : TA} {j : Nat} {k : D → Mm → Prop}
/-- one turn of a comprehension: the test, the element -/
def Turn1 (Γ : G) (tt : TT) (te : TE) (env : Env) (j : Nat) (I : List D → Mm → Prop) (x : D) (acc : List D) (M' : Mm) (p : Addr) : Prop :=
  WT Γ tt (env.set j (some x)) (M' ++ [(p, acc)]) fun b M2 => (b = true → WE Γ te (env.set j (some x)) M2 fun y M3 => ∃ M4, (M4 ++ [(p, acc)]).Sublist M3 ∧ acc.length < sizeLine ∧ I (acc ++ [y]) M4) ∧
    (b = false → ∃ M4, (M4 ++ [(p, acc)]).Sublist M2 ∧ I acc M4)
/-- the state between two turns -/
def Lp (Γ : G) (env : Env) (σ : L2.St) (p : Addr) (I : List D → Mm → Prop) (H1 H' : Hp) : Prop := ∃ acc M', I acc M' ∧ Ok Γ env (M' ++ [(p, acc)]) σ H' ∧ Kp H1 H'
theorem turn_ok {σ : L2.St} {H1 H' : Hp} {p : Addr} {I I' : List D → Mm → Prop} {x : V} {d : D} {acc : List D} {M' : Mm} (o1 : RepE H1 env σ) (o' : Ok Γ env (M' ++ [(p, acc)]) σ H') (kk : Kp H1 H') (rd : Rep H' x d) (t : Turn1 Γ tt te env j I' d acc M' p) :
    gName j x (wipe σ [j]) H' fun σ2 H2 => wipe σ2 [j] = wipe σ [j] ∧ tt σ2 H2 fun b H3 =>
      if b = true then te σ2 H3 fun y H4 => ∃ acc, H4 p = some (.lst acc) ∧ acc.length < sizeLine ∧ Lp Γ env σ p I' H1 (upd H4 p (.lst (acc ++ [y]))) else Lp Γ env σ p I' H1 H3 := by
  have hw : List.set (wipe σ [j]) j (some x) = σ.set j (some x) := by
    show (σ.set j none).set j (some x) = σ.set j (some x)
    rw [List.set_set]
  unfold gName
  rw [hw]
  refine ⟨?_, ?_⟩
  · show (σ.set j (some x)).set j none = σ.set j none
    rw [List.set_set]
  · have o2 : Ok Γ (env.set j (some d)) (M' ++ [(p, acc)]) (σ.set j (some x)) H' := o'.put rd
    refine t _ H' o2 _ fun b M2 H3 ⟨q1, q2⟩ o3 k3 => ?_
    cases b with
    | false =>
      refine iteF ?_
      obtain ⟨M4, s, q⟩ := q2 rfl
      exact ⟨acc, M4, q, (o3.sub s).env_of (o1.mono (kk.trans k3)) (o3.sub s).mem (o3.sub s).own, kk.trans k3⟩
    | true =>
      refine iteT (q1 rfl _ H3 o3 _ fun y M3 w H4 ⟨M4, s, hz, q⟩ o4 k4 r4 => ?_)
      have o5 := o4.sub s
      have hm : (M4 ++ [(p, acc)])[M4.length]? = some (p, acc) := by simp
      obtain ⟨vs, hv, qv⟩ := o5.at_ hm
      refine ⟨vs, hv, by rw [qv.length]; exact hz, acc ++ [y], M4, q, ?_, ((kk.trans k3).trans k4).trans (Kp.lst hv)⟩
      have o6 := o5.set hm (qv.append (.cons r4 .nil))
      have e : (M4 ++ [(p, acc)]).set M4.length (p, acc ++ [y]) = M4 ++ [(p, acc ++ [y])] := by simp
      rw [e] at o6
      exact o6.env_of (o1.mono (((kk.trans k3).trans k4).trans (Kp.lst hv))) o6.mem o6.own
/-- [e for x in range(n) ..] -/
theorem we_lcR (Inv : Nat → List D → Mm → Prop)
    (h : WA Γ ta env M fun ds M1 => ∃ n : Int, ds = [.int n] ∧ -(2 ^ 62) ≤ n ∧ n < 2 ^ 62 ∧ Inv 0 [] M1 ∧ (∀ (i : Nat) acc M' p, (i : Int) < n → Inv i acc M' → Turn1 Γ tt te env j (Inv (i + 1)) (.int i) acc M' p) ∧ (∀ acc M' p, Inv n.toNat acc M' → k (.obj p) (M' ++ [(p, acc)]))) :
    WE Γ (tLc (iRng1 ta) (gName j) tt te [j]) env M k := fun σ H o Q hq => h σ H o _ fun ds M1 vs H1 ⟨n, e, b1, b2, i0, step, fin⟩ o1 k1 r1 => by
  subst e
  cases r1 with
  | cons r1 r2 =>
    cases r2
    cases r1
    refine ⟨n, rfl, b1, b2, fun p hp => lc_range (lo := 0) (n := n.toNat) (fun i H' => Lp Γ env σ p (Inv i) (upd H1 p (.lst [])) H') ⟨[], M1, i0, o1.newl hp .nil, Kp.refl _⟩ (fun i H' hi ⟨acc, M', inv, o', kk⟩ => ?_) (fun H' ⟨acc, M', inv, o', kk⟩ => hq _ _ _ _ (fin acc M' p inv) o' ((k1.trans (Kp.new hp)).trans kk) (.obj p))⟩
    rw [Int.zero_add]
    exact turn_ok (I := Inv i) (o1.env.mono (Kp.new hp)) o' kk (.int _) (step i acc M' p (by omega) inv)
/-- over a tuple -/
theorem we_lcT (Inv : Nat → List D → Mm → Prop)
    (h : WE Γ tl env M fun d M1 => ∃ xs, d = .tup xs ∧ Inv 0 [] M1 ∧ (∀ (i : Nat) x acc M' p, xs[i]? = some x → Inv i acc M' → Turn1 Γ tt te env j (Inv (i + 1)) x acc M' p) ∧ (∀ acc M' p, Inv xs.length acc M' → k (.obj p) (M' ++ [(p, acc)]))) :
    WE Γ (tLc (iSeqX K tl) (gName j) tt te [j]) env M k := fun σ H o Q hq => Or.inr (h σ H o _ fun d M1 v H1 ⟨xs, e, i0, step, fin⟩ o1 k1 r1 => by
  subst e
  cases r1 with
  | @tup a vs _ hv qv =>
    refine ⟨a, rfl, ⟨vs, .inl (.inl hv)⟩, fun p hp => lc_tup (xs := vs) (fun i H' => Lp Γ env σ p (Inv i) (upd H1 p (.lst [])) H') ⟨[], M1, i0, o1.newl hp .nil, Kp.refl _⟩ (fun i H' _ ⟨_, _, _, _, kk⟩ => .inl (.inl (((Kp.new hp).trans kk).keep hv fun _ z => nomatch z))) (fun i x H' hx ⟨acc, M', inv, o', kk⟩ => ?_) (fun H' ⟨acc, M', inv, o', kk⟩ => ?_)⟩
    · obtain ⟨d, hd, rd⟩ := qv.get' hx
      exact turn_ok (I := Inv i) (o1.env.mono (Kp.new hp)) o' kk (rd.mono ((Kp.new hp).trans kk)) (step i d acc M' p hd inv)
    · rw [qv.length] at inv
      exact hq _ _ _ _ (fin acc M' p inv) o' ((k1.trans (Kp.new hp)).trans kk) (.obj p))
/-- over a list -/
theorem we_lcL (Inv : Nat → List D → Mm → Prop)
    (h : WE Γ tl env M fun d M1 => ∃ q xs, d = .obj q ∧ Inv 0 [] M1 ∧ (∀ i acc M', Inv i acc M' → ∃ a : Nat, M'[a]? = some (q, xs)) ∧ (∀ (i : Nat) x acc M' p, xs[i]? = some x → Inv i acc M' → Turn1 Γ tt te env j (Inv (i + 1)) x acc M' p) ∧ (∀ acc M' p, Inv xs.length acc M' → k (.obj p) (M' ++ [(p, acc)]))) :
    WE Γ (tLc (iSeqX K tl) (gName j) tt te [j]) env M k := fun σ H o Q hq => Or.inl (h σ H o _ fun d M1 v H1 ⟨q, xs, e, i0, at_, step, fin⟩ o1 k1 r1 => by
  subst e
  cases r1
  obtain ⟨a, ha⟩ := at_ 0 [] M1 i0
  obtain ⟨vs, hv, qv⟩ := o1.at_ ha
  refine ⟨q, rfl, ⟨vs, .inl (.inl hv)⟩, fun p hp => ?_⟩
  refine ⟨fun i m H' => m = xs.length - i ∧ i ≤ xs.length ∧ Lp Γ env σ p (Inv i) (upd H1 p (.lst [])) H', ⟨xs.length, by simp, Nat.zero_le _, [], M1, i0, o1.newl hp .nil, Kp.refl _⟩, ?_⟩
  rintro i m H' ⟨rfl, hi, acc, M', inv, o', kk⟩
  obtain ⟨b, hb⟩ := at_ i acc M' inv
  have hb2 : (M' ++ [(p, acc)])[b]? = some (q, xs) := by
    rw [List.getElem?_append_left (List.getElem?_eq_some_iff.mp hb).1]
    exact hb
  obtain ⟨us, hu, qu⟩ := o'.at_ hb2
  by_cases hlt : i < xs.length
  · have hlt2 : i < us.length := by rw [qu.length]; exact hlt
    refine .inr ⟨⟨us, us[i], .inl (.inl hu), by simp [hlt2]⟩, fun H2 => Lp Γ env σ p (Inv (i + 1)) (upd H1 p (.lst [])) H2, fun H2 p' => ⟨xs.length - (i + 1), by omega, rfl, hlt, p'⟩, fun x H2 y => ?_⟩
    obtain ⟨e, y⟩ := y
    subst e
    have hx := y us (.inl (.inl hu))
    obtain ⟨d, hd, rd⟩ := qu.get' hx
    exact turn_ok (I := Inv i) (o1.env.mono (Kp.new hp)) o' kk rd (step i d acc M' p hd inv)
  · have e : i = xs.length := by omega
    subst e
    exact .inl ⟨⟨us, .inl (.inl hu), by rw [qu.length]; exact Nat.le_refl _⟩, hq _ _ _ _ (fin acc M' p inv) o' ((k1.trans (Kp.new hp)).trans kk) (.obj p)⟩)
theorem RepE.length {H : Hp} : ∀ {env : Env} {σ : L2.St}, RepE H env σ → env.length = σ.length
  | [], [], _ => rfl
  | _ :: _, _ :: _, ⟨_, r⟩ => congrArg Nat.succ (RepE.length r)
  | [], _ :: _, h => h.elim
  | _ :: _, [], h => h.elim
/-- {x: True for x in t}, t a tuple of ints -/
theorem we_marks (hj : j < env.length) (h : WE Γ tl env M fun d M1 => ∃ ns : List Int, d = .tup (ns.map D.int) ∧ ns.length < sizeLine ∧ ∀ kvs, (∀ n : Int, (valV kvs (Sum.inl n)).isSome = decide (n ∈ ns)) → k (.dk kvs) M1) :
    WE Γ (tDc (iSeqX K tl) (gName j) tYes (tVar j) (tC (.bl true)) [j]) env M k := fun σ H o Q hq => Or.inr (h σ H o _ fun d M1 v H1 ⟨ns, e, hz, fin⟩ o1 k1 r1 => by
  subst e
  cases r1 with
  | @tup a vs _ hv qv =>
    have ev := qv.ints
    subst ev
    have hjl : j < σ.length := by rw [← o.env.length]; exact hj
    refine ⟨a, rfl, ⟨_, .inl (.inl hv)⟩, fun p hp => dc_tup (xs := ns.map V.int) (fun i H' => Same H1 H' ∧ ∃ kvs, H' p = some (.dK kvs) ∧ kvs.length ≤ i ∧ ∀ n : Int, (valV kvs (Sum.inl n)).isSome = decide (n ∈ ns.take i)) ⟨same_new hp, [], upd_same, Nat.le_refl _, fun n => by simp [valV]⟩ (fun i H' _ ⟨s, _⟩ => .inl (.inl (s _ _ hv))) (fun i x H' hx ⟨s, kvs, hd, hl, hs⟩ => ?_) (fun H' ⟨s, kvs, hd, hl, hs⟩ => ?_)⟩
    · rw [List.getElem?_map] at hx
      cases en : ns[i]? with
      | none =>
        rw [en] at hx
        cases hx
      | some n =>
        rw [en] at hx
        cases hx
        have hi : i < ns.length := (List.getElem?_eq_some_iff.mp en).1
        have hw : List.set (wipe σ [j]) j (some (V.int n)) = σ.set j (some (V.int n)) := by
          show (σ.set j none).set j (some (V.int n)) = σ.set j (some (V.int n))
          rw [List.set_set]
        unfold gName
        rw [hw]
        refine ⟨?_, ?_⟩
        · show (σ.set j (some (V.int n))).set j none = σ.set j none
          rw [List.set_set]
        · have hg : (σ.set j (some (V.int n)))[j]? = some (some (V.int n)) := List.getElem?_set_self hjl
          unfold tYes
          dsimp only
          rw [if_pos rfl]
          refine ⟨_, hg, kvs, Sum.inl n, rfl, hd, by omega, fun b u e => ?_, _, upd_same, ?_, fun m => ?_⟩
          · rw [upd_ne (ne_of_none e hp)]
            exact s b u e
          · have := length_putK kvs (Sum.inl n : Key) (V.bl true)
            omega
          · rw [valV_put]
            have ht : ns.take (i + 1) = ns.take i ++ [n] := by
              rw [List.take_add_one, en] <;> rfl
            rw [ht]
            by_cases q : m = n
            · subst q
              simp
            · have q2 : ¬ (Sum.inl m : Key) = Sum.inl n := fun z => q (Sum.inl.inj z)
              rw [if_neg q2, hs m]
              simp [q]
    · rw [List.length_map, List.take_length] at hs
      exact hq _ _ _ _ (fin kvs hs) (o1.same s) (k1.trans (Kp.same s)) (.dk hd))
end
/-! ### d = {..} at a local name -/
section
variable {X : Cx}
theorem ps_setDc {i : Nat} {y : Str} {py : Pos} {kx vx tg iter : Expr} {ifs : List Expr} {scope : Scope} {own : List (Str × Nat)} {pos spos : Pos} {wi : TI} {g : TG} {tt : TT} {tk tv : TE} (hc : X.calm = true) (hN : X.N.Nodup) (hy : X.N[i]? = some y) (hyl : X.env.scope.names.lookup y = some .local)
    (hsw : swapsWith (.DictComp kx vx [⟨tg, iter, ifs, 0⟩] scope pos) (some (.Name y py)) spos.line X.env = pure true) (hi : PI X tg iter wi) (ok : BlkOk X.N X.env.scope scope own)
    (hg : ∀ (s : Shared) (H : Hp) (C : Addr) (cl : List (Str × Addr)) (fp : List Addr), PG (X.blk s H scope (compEnvC scope cl C X.env) fp) tg g) (ht : ∀ (s : Shared) (H : Hp) (C : Addr) (cl : List (Str × Addr)) (fp : List Addr), PTs (X.blk s H scope (compEnvC scope cl C X.env) fp) ifs tt)
    (hk : ∀ (s : Shared) (H : Hp) (C : Addr) (cl : List (Str × Addr)) (fp : List Addr), PE (X.blk s H scope (compEnvC scope cl C X.env) fp) kx tk)
    (he : ∀ (s : Shared) (H : Hp) (C : Addr) (cl : List (Str × Addr)) (fp : List Addr), PE (X.blk s H scope (compEnvC scope cl C X.env) fp) vx tv) (hs : ∀ x, foldedSetIterable iter X.env x = pure x := by intro _; rfl) :
    PS X (.Assign [.Name y py] (.DictComp kx vx [⟨tg, iter, ifs, 0⟩] scope pos) spos) (tAsg (tDc wi g tt tk tv (own.map (·.2))) (gName i)) := by
  constructor
  intro pins s σ H Dn I h
  rw [exec_Assign_Name_used _ _ _ _ hsw]
  refine wpAny_bind (wpAny_standAt (wpAny_bind ?_))
  show wpAny _ X.A (do let _ ← comprehension (.DictComp kx vx [⟨tg, iter, ifs, 0⟩] scope pos) scope X.env (firstIterPos [⟨tg, iter, ifs, 0⟩] pos) newDict false (eval iter X.env) (some (assign (.Name y py) X.env))) _ _ s
  have h : tDc wi g tt tk tv (own.map (·.2)) σ H (fun x H1 => gName i x σ H1 Dn.nx) := h
  refine wpAny_bind (thn (dc_core (Qf := fun _ s' => SP X pins Dn .next s') hc hN I hi ok hg ht hk he hs h ?_) fun _ s' hq => wpAny_pure (wpAny_pure hq))
  intro L C s' m H' I' q hn f
  obtain ⟨f0, f1, f2, f3, f4, f5⟩ := f
  show wpAny _ _ (assign (.Name y py) X.env (.ref L)) _ _ _
  refine wpAny_assign_Name (store_ok2 (v := V.ref L) I' hN hy (.inl hyl) rfl ?_ (.inr hyl))
  intro s2 I2 ha
  obtain ⟨a, sb, ha⟩ := ha
  have haC : C ≠ a := ha.elim (fun z => z ▸ f1) (fun z e => f4 y a z e.symm)
  exact ⟨m, hn.sameBut sb haC, fun h3 sb3 => ⟨_, H', I2.turned (t' := s2.toks) (fun b o hb e => (sb3.2 b hb).trans e) f0 f1 f3 f4 f5, q⟩⟩
theorem sw_trueD {kx vx : Expr} {gs : List Comprehension} {scope : Scope} {pos py : Pos} {y : Str} {l : Nat} {env : PySem.Env} (hk : env.scope.kind = .function) (hy : env.scope.names.lookup y = some .local) (hl : (py.line == pos.line) = true)
    (ha : (scope.names.any fun (n, k) => n == y && (k == .local || k == .cell)) = false) : swapsWith (.DictComp kx vx gs scope pos) (some (.Name y py)) l env = pure true := by
  have ky : env.kindOf y = some .local := hy
  have hb : env.blockKind = .function := by rw [Env.blockKind, hk]; rfl
  unfold swapsWith
  simp only [hb, ky, ha, Expr.pos, hl]
  rfl
end
/-! ### sorted(set(l)) -/
def rSetL (K : PySem.W.Frag) (w : World) : List V → Hp → VK → Prop := fun xs H Q => ∃ (a : Addr) (ns : List Int), xs = [.ref a] ∧ H a = some (.lst (ns.map V.int)) ∧ ns.length < 60 ∧ ∀ (p : Addr) (c : Nat), c < 64 → H p = none → Q (.ref p) (upd H p (SetO w p (fun j => decide (j ∈ ns)) c))
section
variable {Γ : G} {env : Env} {M : Mm} {K : PySem.W.Frag} {te : TE} {k : D → Mm → Prop} {w : World}
theorem we_sortedSet (h : WE Γ te env M fun d M1 => ∃ (a : Nat) (q : Addr) (ns : List Int), d = .obj q ∧ M1[a]? = some (q, ns.map D.int) ∧ ns.length < 60 ∧ ∀ (p : Addr) (ms : List Int), ms.Pairwise (· < ·) → (∀ n, n ∈ ms ↔ n ∈ ns) → ms.length < 64 → k (.obj p) (M1 ++ [(p, ms.map D.int)])) :
    WE Γ (tCB (rSortedSet w) (tCons (tCB (rSetL K w) (tCons te tNil)) tNil)) env M k := fun σ H o Q hq =>
  h σ H o _ fun d M1 v H1 ⟨a, q, ns, e, hm, hz, fin⟩ o1 k1 r1 => by
    subst e
    cases r1
    obtain ⟨vs, hv, qv⟩ := o1.at_ hm
    have ev := qv.ints
    subst ev
    refine ⟨q, ns, rfl, hv, hz, fun p c hc hp => ⟨p, _, c, rfl, upd_same, hc, fun ms r pw mem hl hr => ?_⟩⟩
    have s1 : Same H1 (upd H1 p (SetO w p (fun j => decide (j ∈ ns)) c)) := same_new hp
    exact hq _ _ _ _ (fin r ms pw (fun n => (mem n).trans (by simp)) (by omega)) ((o1.same s1).newl hr (RepL.of_ints ms)) ((k1.trans (Kp.same s1)).trans (Kp.new hr)) (.obj r)
end
end A

set_option Elab.async false
set_option linter.all false
set_option maxRecDepth 100000
set_option maxHeartbeats 0
namespace K69
open PySem PySem.Spec PyProof.Rows L2
def top (i : Nat) : Stmt := PySem.Challenge.pw_pilereach_k69_whole_ever_run_goes_on.main.body.getD i (.Pass ⟨0, 0, 0, 0⟩)
abbrev sTakingsInit : Stmt := inClass (top 1) 0
abbrev sTakingsStepAt : Stmt := inClass (top 1) 1
abbrev sTakingsEntry : Stmt := inClass (top 1) 2
abbrev sTakingsRead : Stmt := inClass (top 1) 3
abbrev sTakingsMove : Stmt := inClass (top 1) 4
abbrev sTakingsOf : Stmt := top 2
abbrev sHeadBehind : Stmt := top 3
abbrev sWalk : Stmt := top 4
abbrev sShowsEver : Stmt := top 13
abbrev sTakesEndless : Stmt := top 15
abbrev sStepInit : Stmt := inClass (top 20) 0
abbrev sFits : Stmt := top 21
abbrev sMachineInit : Stmt := inClass (top 22) 0
abbrev sLawNumbers : Stmt := top 24
abbrev sLawTake : Stmt := top 25
abbrev sLawMove : Stmt := top 26
abbrev sLawHeads : Stmt := top 27
abbrev sLawWorld : Stmt := top 28
abbrev sLawRowSteps : Stmt := top 29
abbrev sLawRingSteps : Stmt := top 30
abbrev sLawTurned : Stmt := top 31
abbrev sLawFarSteps : Stmt := top 32
abbrev sLawQuestion : Stmt := top 33
abbrev sLawMade : Stmt := top 34
abbrev sLawChangedRow : Stmt := top 35
abbrev sLawChangedRows : Stmt := top 36
abbrev sLawChangedMove : Stmt := top 37
abbrev sLawChangedMoves : Stmt := top 38
abbrev sLawChangedDescent : Stmt := top 39
abbrev sLawChanged : Stmt := top 40
abbrev sLawRuns : Stmt := top 41
abbrev sLawRunOf : Stmt := top 42
abbrev sLawFollowed : Stmt := top 43
abbrev sLawBehind : Stmt := top 44
abbrev sLawGoesOn : Stmt := top 45
abbrev sLaw : Stmt := top 46
def dTakingsInit : He.DefD := ⟨("Takings", some "__init__"), "__init__", "Takings.__init__", defArgs sTakingsInit, defBody sTakingsInit, defScope sTakingsInit, [], []⟩
def dTakingsStepAt : He.DefD := ⟨("Takings", some "step_at"), "step_at", "Takings.step_at", defArgs sTakingsStepAt, defBody sTakingsStepAt, defScope sTakingsStepAt, [], []⟩
def dTakingsEntry : He.DefD := ⟨("Takings", some "entry"), "entry", "Takings.entry", defArgs sTakingsEntry, defBody sTakingsEntry, defScope sTakingsEntry, [], []⟩
def dTakingsRead : He.DefD := ⟨("Takings", some "read"), "read", "Takings.read", defArgs sTakingsRead, defBody sTakingsRead, defScope sTakingsRead, [], []⟩
def dTakingsMove : He.DefD := ⟨("Takings", some "move"), "move", "Takings.move", defArgs sTakingsMove, defBody sTakingsMove, defScope sTakingsMove, [], []⟩
def dTakingsOf : He.DefD := ⟨("takings_of", none), "takings_of", "takings_of", defArgs sTakingsOf, defBody sTakingsOf, defScope sTakingsOf, [], []⟩
def dHeadBehind : He.DefD := ⟨("head_behind", none), "head_behind", "head_behind", defArgs sHeadBehind, defBody sHeadBehind, defScope sHeadBehind, [], []⟩
def dWalk : He.DefD := ⟨("walk", none), "walk", "walk", defArgs sWalk, defBody sWalk, defScope sWalk, [], []⟩
def dShowsEver : He.DefD := ⟨("shows_ever", none), "shows_ever", "shows_ever", defArgs sShowsEver, defBody sShowsEver, defScope sShowsEver, [], []⟩
def dTakesEndless : He.DefD := ⟨("takes_endless", none), "takes_endless", "takes_endless", defArgs sTakesEndless, defBody sTakesEndless, defScope sTakesEndless, [], []⟩
def dStepInit : He.DefD := ⟨("Step", some "__init__"), "__init__", "Step.__init__", defArgs sStepInit, defBody sStepInit, defScope sStepInit, [.adr (He.dflAt ("Step", some "__init__") 0), .int 1], []⟩
def dFits : He.DefD := ⟨("fits", none), "fits", "fits", defArgs sFits, defBody sFits, defScope sFits, [], []⟩
def dMachineInit : He.DefD := ⟨("Machine", some "__init__"), "__init__", "Machine.__init__", defArgs sMachineInit, defBody sMachineInit, defScope sMachineInit, [], []⟩
def dLawNumbers : He.DefD := ⟨("_law_numbers", none), "_law_numbers", "_law_numbers", defArgs sLawNumbers, defBody sLawNumbers, defScope sLawNumbers, [], []⟩
def dLawTake : He.DefD := ⟨("_law_take", none), "_law_take", "_law_take", defArgs sLawTake, defBody sLawTake, defScope sLawTake, [], []⟩
def dLawMove : He.DefD := ⟨("_law_move", none), "_law_move", "_law_move", defArgs sLawMove, defBody sLawMove, defScope sLawMove, [], []⟩
def dLawHeads : He.DefD := ⟨("_law_heads", none), "_law_heads", "_law_heads", defArgs sLawHeads, defBody sLawHeads, defScope sLawHeads, [], []⟩
def dLawWorld : He.DefD := ⟨("_law_world", none), "_law_world", "_law_world", defArgs sLawWorld, defBody sLawWorld, defScope sLawWorld, [], []⟩
def dLawRowSteps : He.DefD := ⟨("_law_row_steps", none), "_law_row_steps", "_law_row_steps", defArgs sLawRowSteps, defBody sLawRowSteps, defScope sLawRowSteps, [], []⟩
def dLawRingSteps : He.DefD := ⟨("_law_ring_steps", none), "_law_ring_steps", "_law_ring_steps", defArgs sLawRingSteps, defBody sLawRingSteps, defScope sLawRingSteps, [], []⟩
def dLawTurned : He.DefD := ⟨("_law_turned", none), "_law_turned", "_law_turned", defArgs sLawTurned, defBody sLawTurned, defScope sLawTurned, [], []⟩
def dLawFarSteps : He.DefD := ⟨("_law_far_steps", none), "_law_far_steps", "_law_far_steps", defArgs sLawFarSteps, defBody sLawFarSteps, defScope sLawFarSteps, [], []⟩
def dLawQuestion : He.DefD := ⟨("_law_question", none), "_law_question", "_law_question", defArgs sLawQuestion, defBody sLawQuestion, defScope sLawQuestion, [], []⟩
def dLawMade : He.DefD := ⟨("_law_made", none), "_law_made", "_law_made", defArgs sLawMade, defBody sLawMade, defScope sLawMade, [], []⟩
def dLawChangedRow : He.DefD := ⟨("_law_changed_row", none), "_law_changed_row", "_law_changed_row", defArgs sLawChangedRow, defBody sLawChangedRow, defScope sLawChangedRow, [], []⟩
def dLawChangedRows : He.DefD := ⟨("_law_changed_rows", none), "_law_changed_rows", "_law_changed_rows", defArgs sLawChangedRows, defBody sLawChangedRows, defScope sLawChangedRows, [], []⟩
def dLawChangedMove : He.DefD := ⟨("_law_changed_move", none), "_law_changed_move", "_law_changed_move", defArgs sLawChangedMove, defBody sLawChangedMove, defScope sLawChangedMove, [], []⟩
def dLawChangedMoves : He.DefD := ⟨("_law_changed_moves", none), "_law_changed_moves", "_law_changed_moves", defArgs sLawChangedMoves, defBody sLawChangedMoves, defScope sLawChangedMoves, [], []⟩
def dLawChangedDescent : He.DefD := ⟨("_law_changed_descent", none), "_law_changed_descent", "_law_changed_descent", defArgs sLawChangedDescent, defBody sLawChangedDescent, defScope sLawChangedDescent, [], []⟩
def dLawChanged : He.DefD := ⟨("_law_changed", none), "_law_changed", "_law_changed", defArgs sLawChanged, defBody sLawChanged, defScope sLawChanged, [], []⟩
def dLawRuns : He.DefD := ⟨("_law_runs", none), "_law_runs", "_law_runs", defArgs sLawRuns, defBody sLawRuns, defScope sLawRuns, [], []⟩
def dLawRunOf : He.DefD := ⟨("_law_run_of", none), "_law_run_of", "_law_run_of", defArgs sLawRunOf, defBody sLawRunOf, defScope sLawRunOf, [], []⟩
def dLawFollowed : He.DefD := ⟨("_law_followed", none), "_law_followed", "_law_followed", defArgs sLawFollowed, defBody sLawFollowed, defScope sLawFollowed, [], []⟩
def dLawBehind : He.DefD := ⟨("_law_behind", none), "_law_behind", "_law_behind", defArgs sLawBehind, defBody sLawBehind, defScope sLawBehind, [], []⟩
def dLawGoesOn : He.DefD := ⟨("_law_goes_on", none), "_law_goes_on", "_law_goes_on", defArgs sLawGoesOn, defBody sLawGoesOn, defScope sLawGoesOn, [], []⟩
def dLaw : He.DefD := ⟨("law", none), "law", "law", defArgs sLaw, defBody sLaw, defScope sLaw, [], []⟩
def fn : List He.DefD := [dTakingsInit, dTakingsStepAt, dTakingsEntry, dTakingsRead, dTakingsMove, dTakingsOf, dHeadBehind, dWalk, dShowsEver, dTakesEndless, dStepInit, dFits, dMachineInit, dLawNumbers, dLawTake, dLawMove, dLawHeads, dLawWorld, dLawRowSteps, dLawRingSteps, dLawTurned, dLawFarSteps, dLawQuestion, dLawMade, dLawChangedRow, dLawChangedRows, dLawChangedMove, dLawChangedMoves, dLawChangedDescent, dLawChanged, dLawRuns, dLawRunOf, dLawFollowed, dLawBehind, dLawGoesOn, dLaw]
def fa : List He.Fa := [.glo "takings_of", .glo "head_behind", .glo "walk", .glo "shows_ever", .glo "takes_endless", .glo "fits", .glo "_law_numbers", .glo "_law_take", .glo "_law_move", .glo "_law_heads", .glo "_law_world", .glo "_law_row_steps", .glo "_law_ring_steps", .glo "_law_turned", .glo "_law_far_steps", .glo "_law_question", .glo "_law_made", .glo "_law_changed_row", .glo "_law_changed_rows", .glo "_law_changed_move", .glo "_law_changed_moves", .glo "_law_changed_descent", .glo "_law_changed", .glo "_law_runs", .glo "_law_run_of", .glo "_law_followed", .glo "_law_behind", .glo "_law_goes_on", .glo "law", .glo "Takings", .cls "Takings", .mkr "Takings", .glo "Step", .cls "Step", .mkr "Step", .glo "Machine", .cls "Machine", .mkr "Machine", .noat "Takings" "steps", .noat "Takings" "marks", .noat "Takings" "entries", .noat "Step" "state", .noat "Step" "letter", .noat "Step" "goal", .noat "Step" "laid", .noat "Step" "weight", .noat "Machine" "states", .noat "Machine" "letters", .noat "Machine" "steps", .meth "Takings" "step_at", .meth "Takings" "entry", .meth "Takings" "read", .meth "Takings" "move", .free "len", .free "list", .free "tuple", .free "range", .free "sorted", .free "set", .free "zip", .free "all", .free "isinstance", .free "bool"]
def names1 : List Str := ["Takings", "takings_of", "head_behind", "walk", "Table", "is_head", "are_entries", "are_ranks", "falls", "has_starts", "shows_ever", "shows_not", "takes_endless", "PileError", "InvalidMachine", "Step", "fits", "Machine", "_law_numbers", "_law_take", "_law_move", "_law_heads", "_law_world", "_law_row_steps", "_law_ring_steps", "_law_turned", "_law_far_steps", "_law_question", "_law_made", "_law_changed_row"]
def names2 : List Str := ["_law_changed_rows", "_law_changed_move", "_law_changed_moves", "_law_changed_descent", "_law_changed", "_law_runs", "_law_run_of", "_law_followed", "_law_behind", "_law_goes_on"]
def names : List Str := names1 ++ names2
abbrev R : PySem.W.OpenRow := PySem.W.OpenLaw.row PySem.Challenge.rw_pilereach_k69_whole_ever_run_goes_on
abbrev hk : PySem.W.Hook := He.hookD 5 fa fn
def ob (s : PySem.W.SharedT) : He.AlD := He.obsDG 5 fa fn (HandSHeadRun.getT s)
theorem ob_eq (s : PySem.W.SharedT) : ob s = hk.obs s.abs := He.obsDG_eq (HandSHeadRun.getT_eq s)
theorem run (w : World) : HandSHeadRun.RunEq R (PySem.W.view R.prog [46]) hk ob 6000 names w := by
  intro os
  kernel_rfl
end K69

set_option Elab.async false
set_option linter.all false
set_option maxRecDepth 100000
set_option maxHeartbeats 4000000
/-! What the top has written, by names; a def's promise; calls by it. -/
namespace A
open PySem PySem.Spec PyProof.Rows L2

structure Txt (K : PySem.W.Frag) (mg : Str → Option Value) : Prop where
  ex : ∃ h : Heap, K.In h ∧ h.Ns mainGlobals mg
  c : He.SaysD K69.fa K69.fn K
section
variable {K : PySem.W.Frag} {mg : Str → Option Value}
theorem Txt.glo (T : Txt K mg) (i : Nat) {x : Str} (h : K69.fa[i]? = some (.glo x) := by rfl) : mg x = some (.ref (He.ga K x)) := by
  obtain ⟨h0, X, G⟩ := T.ex
  exact He.glo_ok X G (T.c.fact i h)
theorem Txt.free (T : Txt K mg) (i : Nat) {x : Str} (h : K69.fa[i]? = some (.free x) := by rfl) : mg x = none := by
  obtain ⟨h0, X, G⟩ := T.ex
  exact He.free_ok X G (T.c.fact i h)
theorem Txt.cls (T : Txt K mg) (i : Nat) {x : Str} (h : K69.fa[i]? = some (.cls x) := by rfl) : Cls K (He.ga K x) := He.cls_ok (T.c.fact i h)
theorem Txt.noat (T : Txt K mg) (i : Nat) {x f : Str} (h : K69.fa[i]? = some (.noat x f) := by rfl) : NoAttr K (He.ga K x) f := He.noat_ok (T.c.fact i h)
theorem Txt.meth (T : Txt K mg) (i : Nat) {x m : Str} (h : K69.fa[i]? = some (.meth x m) := by rfl) : Meth K (He.ga K x) m (He.ma K (He.ga K x) m) := He.meth_ok (T.c.fact i h)
theorem Txt.mkr (T : Txt K mg) (i : Nat) {x : Str} (h : K69.fa[i]? = some (.mkr x) := by rfl) : Mk K (He.ga K x) (He.ma K (He.ga K x) "__init__") := He.mkr_ok (T.c.fact i h)
end
abbrev FnDof (K : PySem.W.Frag) (d : He.DefD) (fd : FuncData) : Prop := FunD K d.name d.qual d.params d.body d.scope (d.dvs K) (d.kws K) (He.fAd K d.at_) fd
/-- the def d, called with all its arguments, keeps sp -/
def Ok1 (P : Program) (w : World) (K : PySem.W.Frag) (mg : Str → Option Value) (base : Heap) (d : He.DefD) (k : Nat) (ps : List Str) (sp : Sp) : Prop :=
  ∃ fd, FnDof K d fd ∧ FnOk P w K mg base CX0 k (He.fAd K d.at_) fd ps sp ∧ Binds K fd ps []
/-- with the defaults dvs filled in -/
def OkI (P : Program) (w : World) (K : PySem.W.Frag) (mg : Str → Option Value) (base : Heap) (d : He.DefD) (k : Nat) (ps : List Str) (dvs : List V) (sp : Sp) : Prop :=
  ∃ fd ds, FnDof K d fd ∧ FnOk P w K mg base CX0 k (He.fAd K d.at_) fd ps sp ∧ Vals dvs ds ∧ Binds K fd ps ds
theorem Ok1.mono {P : Program} {w : World} {K : PySem.W.Frag} {mg : Str → Option Value} {base : Heap} {d : He.DefD} {j k : Nat} {ps : List Str} {sp : Sp} (o : Ok1 P w K mg base d j ps sp) (h : j ≤ k) : Ok1 P w K mg base d k ps sp := by
  obtain ⟨fd, F, G, B⟩ := o
  exact ⟨fd, F, G.mono h, B⟩
theorem mk_ok {P : Program} {w : World} {K : PySem.W.Frag} {mg : Str → Option Value} {base : Heap} {d : He.DefD} {k : Nat} {N ps : List Str} {S : List D → Mm → (D → Mm → Prop) → Prop} (F : ∃ fd, FnDof K d fd) (sc : FnScope N ps d.scope) (hd : d.dvs K = []) (hb : ∀ (kV doc pm : Value) (an : Option Addr) (cdv ct : Value) (us : List Value), us.length = ps.length → bindArgs (PySem.W.fnOf d.name d.qual d.params d.body d.scope .none kV doc pm an cdv ct) ⟨us, []⟩ = pure (ps.zip us))
    (len : ∀ ds F k, S ds F k → ds.length = ps.length)
    (body : ∀ (cdv : Value) (A : Around) (outer : List PySem.Env) (s : Shared) (H : Hp) (E : XK), Room k (A.deeper (envOfC d.qual d.scope s.heap.objs.size (He.fAd K d.at_) cdv)) →
      ∃ t, PSs (cxOf CX0 P w K mg base N d.qual d.scope (He.fAd K d.at_) cdv A outer s H E).nox d.body t ∧ ∀ (ds : List D) (F : Mm) (k : D → Mm → Prop) (Γ : G), S ds F k → Γ.W = F.map (·.1) → WS Γ t { nx := fun _ M => k .non M, rt := k } (ds.map some ++ List.replicate (N.length - ds.length) none) F) :
    Ok1 P w K mg base d (k + 1) ps (spOf S) := by
  obtain ⟨fd, F⟩ := F
  have F' := F
  rw [FnDof, hd] at F'
  refine ⟨fd, F, FunD.ok F sc (spOf_len len) (fun cdv A outer s H vs Q E hr h => ?_), FunD.bindsN F' hb⟩
  obtain ⟨t, ht, hw⟩ := body cdv A outer s H E hr
  exact ⟨t, PSs.nox ht, enter h hw⟩
theorem mk_okG {P : Program} {w : World} {K : PySem.W.Frag} {mg : Str → Option Value} {base : Heap} {d : He.DefD} {k : Nat} {N ps : List Str} {S : List D → Mm → (D → Mm → Prop) → Prop} (F : ∃ fd, FnDof K d fd) (sc : FnScope N ps d.scope) (hd : d.dvs K = []) (hb : ∀ (kV doc pm : Value) (an : Option Addr) (cdv ct : Value) (us : List Value), us.length = ps.length → bindArgs (PySem.W.fnOf d.name d.qual d.params d.body d.scope .none kV doc pm an cdv ct) ⟨us, []⟩ = pure (ps.zip us))
    (len : ∀ ds F k, S ds F k → ds.length = ps.length)
    (body : ∀ (cdv : Value) (A : Around) (outer : List PySem.Env) (s : Shared) (H : Hp) (E : XK), Room k (A.deeper (envOfC d.qual d.scope s.heap.objs.size (He.fAd K d.at_) cdv)) →
      ∃ t, PSs (cxOf CX0 P w K mg base N d.qual d.scope (He.fAd K d.at_) cdv A outer s H E).nox d.body t ∧ ∀ (ds : List D) (F : Mm) (k : D → Mm → Prop) (Γ : G), S ds F k → Γ.W = F.map (·.1) → WS Γ t { nx := fun _ M => ∃ M2, M2.Sublist M ∧ k .non M2, rt := fun d M => ∃ M2, M2.Sublist M ∧ k d M2 } (ds.map some ++ List.replicate (N.length - ds.length) none) F) :
    Ok1 P w K mg base d (k + 1) ps (spOf S) := by
  obtain ⟨fd, F⟩ := F
  have F' := F
  rw [FnDof, hd] at F'
  refine ⟨fd, F, FunD.ok F sc (spOf_len len) (fun cdv A outer s H vs Q E hr h => ?_), FunD.bindsN F' hb⟩
  obtain ⟨t, ht, hw⟩ := body cdv A outer s H E hr
  exact ⟨t, PSs.nox ht, enterG h hw⟩
theorem mk_never {P : Program} {w : World} {K : PySem.W.Frag} {mg : Str → Option Value} {base : Heap} {d : He.DefD} {ps : List Str} {sp : Sp} (F : ∃ fd, FnDof K d fd) (hd : d.dvs K = []) (hb : ∀ (kV doc pm : Value) (an : Option Addr) (cdv ct : Value) (us : List Value), us.length = ps.length → bindArgs (PySem.W.fnOf d.name d.qual d.params d.body d.scope .none kV doc pm an cdv ct) ⟨us, []⟩ = pure (ps.zip us))
    (h : ∀ vs H Q E, ¬ sp vs H Q E) : Ok1 P w K mg base d 0 ps sp := by
  obtain ⟨fd, F⟩ := F
  have F' := F
  rw [FnDof, hd] at F'
  exact ⟨fd, F, ⟨fun vs H Q E z => (h _ _ _ _ z).elim, fun A outer s H args us vs Q E _ _ _ _ z => (h _ _ _ _ z).elim⟩, FunD.bindsN F' hb⟩
section
variable {X : Cx} {d : He.DefD} {k : Nat} {ps : List Str} {sp : Sp} {x m cn : Str} {p pos apos : Pos} {e o : Expr} {es : List Expr} {t : TA} {ta : TE} {dvs : List V}
theorem pe_fn (q : Ok1 X.prog X.w X.K X.mg X.base d k ps sp) (hn : d.at_ = (x, none)) (hr : Room k X.A) (hg : Gl X x) (hm : X.mg x = some (.ref (He.ga X.K x))) (ha : PA X (e :: es) t) (hdb : (x == ("__debug__" : Str)) = false := by decide)
    (he : starEach (e :: es) X.env = (false, eval e X.env) :: starEach es X.env := by rfl) (hpl : (backTo pos (starEach es X.env)).any (·.1) = false := by rfl) : PE X (.Call (.Name x p) (e :: es) [] pos) (tCall sp [] E0 t) := by
  obtain ⟨fd, F, G, B⟩ := q
  have e1 : He.fAd X.K d.at_ = He.ga X.K x := by rw [hn]; rfl
  have kp := F.kp
  rw [e1] at G kp
  exact pe_call G hr hg hm kp B .nil pass0 ha hdb he hpl
theorem pe_mt {pl : Sem Bool} (q : Ok1 X.prog X.w X.K X.mg X.base d k ps sp) (hn : d.at_ = (cn, some m)) (hr : Room k X.A) (c : Cls X.K (He.ga X.K cn)) (hm : Meth X.K (He.ga X.K cn) m (He.ma X.K (He.ga X.K cn) m)) (ho : PE X o ta) (ha : PA X (e :: es) t)
    (hst : starEach (e :: es) X.env = (false, eval e X.env) :: starEach es X.env := by rfl) (hpl : (backTo pos (starEach es X.env)).any (·.1) = false := by rfl)
    (ht : eval (.Call (.Attribute o m apos) (e :: es) [] pos) X.env = (do
      let ov ← eval o X.env
      standAt apos.atName
      let (f, first) ← holding [ov] (getMethod ov m pl)
      callWith pos f first (backTo pos (starEach (e :: es) X.env)) (backToKw pos (keywordEach [] X.env))) := by rfl) : PE X (.Call (.Attribute o m apos) (e :: es) [] pos) (tMeth (He.ga X.K cn) m sp [] E0 ta t) := by
  obtain ⟨fd, F, G, B⟩ := q
  have e1 : He.fAd X.K d.at_ = He.ma X.K (He.ga X.K cn) m := by rw [hn]; rfl
  rw [e1] at G
  exact pe_meth ho c hm G hr B .nil pass0 ha hst hpl ht
theorem pe_mkI (q : OkI X.prog X.w X.K X.mg X.base d k ps dvs sp) (hn : d.at_ = (cn, some ("__init__" : Str))) (hr : Room (k + 1) X.A) (M : Mk X.K (He.ga X.K cn) (He.ma X.K (He.ga X.K cn) "__init__")) (hg : Gl X cn) (hm : X.mg cn = some (.ref (He.ga X.K cn))) (ha : PA X (e :: es) t) (hdb : (cn == ("__debug__" : Str)) = false := by decide)
    (he : starEach (e :: es) X.env = (false, eval e X.env) :: starEach es X.env := by rfl) (hpl : (backTo pos (starEach es X.env)).any (·.1) = false := by rfl) : PE X (.Call (.Name cn p) (e :: es) [] pos) (tMake (He.ga X.K cn) sp dvs E0 t) := by
  obtain ⟨fd, ds, F, G, Vd, B⟩ := q
  have e1 : He.fAd X.K d.at_ = He.ma X.K (He.ga X.K cn) "__init__" := by rw [hn]; rfl
  rw [e1] at G
  exact pe_make M G hr hg hm B Vd pass0 ha hdb he hpl
end
/-! the same with the written part named (within a comprehension) -/
section
variable {X : Cx} (K : PySem.W.Frag)
theorem op_addK (h : X.K = K := by rfl) : OpR X (binaryOp .Add) (rAddX K) := h ▸ op_addX
theorem op_eqK (hu : X.A.units + 64 < cLine) (h : X.K = K := by rfl) : OpR X (compareOp .Eq) (rEqX K) := h ▸ op_eqX hu
theorem op_neK (hu : X.A.units + 64 < cLine) (h : X.K = K := by rfl) : OpR X (compareOp .NotEq) (rNeX K) := h ▸ op_neX hu
theorem op_inK (h : X.K = K := by rfl) : OpR X (compareOp .In) (rIn K false) := h ▸ op_in_seq
theorem ix_K (h : X.K = K := by rfl) : IxR X (rIx K) := h ▸ ix_seq
theorem sl_K (h : X.K = K := by rfl) : SlR X (rSlX K) := h ▸ sl_X
theorem call_lenK (h : X.K = K := by rfl) : CallR X (.builtin "len") (rLenX K) := h ▸ call_lenX
theorem call_tupK (h : X.K = K := by rfl) : CallR X (.type "tuple") (rTupX K) := h ▸ call_tupX
theorem pe_fldK {e : Expr} {ta : TE} {f : Str} {pos : Pos} (he : PE X e ta) (hb : attributeBase e f X.env (eval e X.env) = eval e X.env) (h : X.K = K := by rfl) : PE X (.Attribute e f pos) (tFld K ta f) := h ▸ pe_fld he hb
theorem pe_mkIK {d : He.DefD} {k : Nat} {ps : List Str} {sp : Sp} {cn : Str} {p pos : Pos} {e : Expr} {es : List Expr} {t : TA} {dvs : List V} (q : OkI X.prog X.w X.K X.mg X.base d k ps dvs sp) (hn : d.at_ = (cn, some ("__init__" : Str))) (hr : Room (k + 1) X.A) (M : Mk X.K (He.ga X.K cn) (He.ma X.K (He.ga X.K cn) "__init__")) (hg : Gl X cn) (hm : X.mg cn = some (.ref (He.ga X.K cn))) (ha : PA X (e :: es) t)
    (h : X.K = K := by rfl) (hdb : (cn == ("__debug__" : Str)) = false := by decide)
    (he : starEach (e :: es) X.env = (false, eval e X.env) :: starEach es X.env := by rfl) (hpl : (backTo pos (starEach es X.env)).any (·.1) = false := by rfl) : PE X (.Call (.Name cn p) (e :: es) [] pos) (tMake (He.ga K cn) sp dvs E0 t) := h ▸ pe_mkI q hn hr M hg hm ha hdb he hpl
end
end A

set_option Elab.async false
set_option linter.all false
set_option maxRecDepth 100000
set_option maxHeartbeats 4000000
/-! The data of the program and what its defs compute, plainly. -/
namespace A
open PySem PySem.Spec PyProof.Rows L2

/-! ### data -/
structure Stp where
  state : Int
  letter : Int
  goal : Int
  laid : List Int
  deriving DecidableEq
structure En where
  s : Int
  l : Int
  g : Int
  f : Bool
  deriving DecidableEq
abbrev Row := Int × List Int
abbrev Mv := Int × Option Int
abbrev Hd := Int × Int
def tupI (ns : List Int) : D := .tup (ns.map D.int)
def rowD (r : Row) : D := .tup [.int r.1, tupI r.2]
def optD : Option Int → D
  | none => .non
  | some i => .int i
def mvD (m : Mv) : D := .tup [.int m.1, optD m.2]
def hdD (h : Hd) : D := .tup [.int h.1, .int h.2]
def enD (e : En) : D := .tup [.int e.s, .int e.l, .int e.g, .bl e.f]
def stD (K : PySem.W.Frag) (s : Stp) : D := .ins (He.ga K "Step") [("state", .int s.state), ("letter", .int s.letter), ("goal", .int s.goal), ("laid", tupI s.laid), ("weight", .int 1)]
def takD (K : PySem.W.Frag) (steps : List Stp) (kvs : List (Key × V)) (pe : Addr) : D := .ins (He.ga K "Takings") [("steps", .tup (steps.map (stD K))), ("marks", .dk kvs), ("entries", .obj pe)]
def macD (K : PySem.W.Frag) (ns nl : Int) (steps : List Stp) : D := .ins (He.ga K "Machine") [("states", .int ns), ("letters", .int nl), ("steps", .tup (steps.map (stD K)))]
def Marks (kvs : List (Key × V)) (ms : List Int) : Prop := ∀ n : Int, (valV kvs (Sum.inl n)).isSome = decide (n ∈ ms)
structure Paper where
  rows : List Row
  descent : List Int
  way : List Mv
  ring : List Mv
def papD (p : Paper) : D := .tup [.str "ever", .tup (p.rows.map rowD), tupI p.descent, .tup (p.way.map mvD), .tup (p.ring.map mvD)]

/-! ### what the judge computes -/
def stepAt (steps : List Stp) (i : Int) : Option Stp := if 0 ≤ i ∧ i < steps.length then steps[i.toNat]? else none
def entryAt (es : List En) (i st l : Int) : Option En := if 0 ≤ i ∧ i < es.length then (es[i.toNat]?).bind fun e => if e.s = st ∧ e.l = l then some e else none else none
def readGo (es : List En) : Int → Bool → List (Int × Int) → Option (Int × Bool)
  | st, f, [] => some (st, f)
  | st, f, (l, p) :: r => (entryAt es p st l).bind fun e => readGo es e.g (f || e.f) r
def readRow (steps : List Stp) (ms : List Int) (es : List En) (row : Row) : Option En := (stepAt steps row.1).bind fun s =>
  if row.2.length = s.laid.length then (readGo es s.goal (decide (row.1 ∈ ms)) (s.laid.zip row.2)).map fun r => ⟨s.state, s.letter, r.1, r.2⟩ else none
def takGo (steps : List Stp) (ms : List Int) : List En → List Row → Option (List En)
  | es, [] => some es
  | es, r :: rs => (readRow steps ms es r).bind fun e => takGo steps ms (es ++ [e]) rs
def moveOf (steps : List Stp) (ms : List Int) (es : List En) (m : Mv) : Option (Hd × Hd × Bool) := (stepAt steps m.1).bind fun s =>
  match s.laid with
  | [] => none
  | l0 :: ls => match m.2 with
    | none => some ((s.state, s.letter), (s.goal, l0), decide (m.1 ∈ ms))
    | some p => (entryAt es p s.goal l0).bind fun e => match ls with
      | [l1] => some ((s.state, s.letter), (e.g, l1), decide (m.1 ∈ ms) || e.f)
      | _ => none
def walkGo (steps : List Stp) (ms : List Int) (es : List En) : Hd → Bool → List Mv → Option (Hd × Bool)
  | h, f, [] => some (h, f)
  | h, f, m :: r => (moveOf steps ms es m).bind fun t => if t.1 = h then walkGo steps ms es t.2.1 (f || t.2.2) r else none
def descGo (es : List En) : Int → List (Int × Int) → Option Int
  | st, [] => some st
  | st, (l, i) :: r => (entryAt es i st l).bind fun e => descGo es e.g r
def headBehind (es : List En) (st : Int) (pile : List Int) (descent : List Int) : Option Hd :=
  match pile[descent.length]? with
  | none => none
  | some l => (descGo es st (pile.zip descent)).map fun g => (g, l)
def shows (steps : List Stp) (ms : List Int) (st : Int) (pile : List Int) (p : Paper) : Bool :=
  match takGo steps ms [] p.rows with
  | none => false
  | some es => match headBehind es st pile p.descent with
    | none => false
    | some h => match walkGo steps ms es h false p.way with
      | none => false
      | some r => decide (walkGo steps ms es r.1 false p.ring = some (r.1, true))

/-! ### fields -/
section
variable {K : PySem.W.Frag} {mg : Str → Option Value} {k : D → Mm → Prop} {M : Mm}
def FldP (K : PySem.W.Frag) (x : D) (f : Str) (k : D → Mm → Prop) (M : Mm) : Prop := ∃ C gs z, x = .ins C gs ∧ Cls K C ∧ NoAttr K C f ∧ gs.lookup f = some z ∧ k z M
theorem look0 {f : Str} {z : D} {r : List (Str × D)} : ((f, z) :: r).lookup f = some z := by simp
theorem lookS {f g : Str} {y : D} {r : List (Str × D)} {z : Option D} (h : f ≠ g) (q : r.lookup f = z) : ((g, y) :: r).lookup f = z := by
  rw [List.lookup_cons]
  have e : (f == g) = false := by simpa using h
  rw [e]
  exact q
theorem fl_state (T : Txt K mg) {s : Stp} (h : k (.int s.state) M) : FldP K (stD K s) "state" k M := ⟨_, _, _, rfl, T.cls 33, T.noat 41, look0, h⟩
theorem fl_letter (T : Txt K mg) {s : Stp} (h : k (.int s.letter) M) : FldP K (stD K s) "letter" k M := ⟨_, _, _, rfl, T.cls 33, T.noat 42, (lookS (by decide +kernel) look0), h⟩
theorem fl_goal (T : Txt K mg) {s : Stp} (h : k (.int s.goal) M) : FldP K (stD K s) "goal" k M := ⟨_, _, _, rfl, T.cls 33, T.noat 43, (lookS (by decide +kernel) (lookS (by decide +kernel) look0)), h⟩
theorem fl_laid (T : Txt K mg) {s : Stp} (h : k (tupI s.laid) M) : FldP K (stD K s) "laid" k M := ⟨_, _, _, rfl, T.cls 33, T.noat 44, (lookS (by decide +kernel) (lookS (by decide +kernel) (lookS (by decide +kernel) look0))), h⟩
theorem fl_weight (T : Txt K mg) {s : Stp} (h : k (.int 1) M) : FldP K (stD K s) "weight" k M := ⟨_, _, _, rfl, T.cls 33, T.noat 45, (lookS (by decide +kernel) (lookS (by decide +kernel) (lookS (by decide +kernel) (lookS (by decide +kernel) look0)))), h⟩
theorem fl_steps (T : Txt K mg) {steps : List Stp} {kvs : List (Key × V)} {pe : Addr} (h : k (.tup (steps.map (stD K))) M) : FldP K (takD K steps kvs pe) "steps" k M := ⟨_, _, _, rfl, T.cls 30, T.noat 38, look0, h⟩
theorem fl_marks (T : Txt K mg) {steps : List Stp} {kvs : List (Key × V)} {pe : Addr} (h : k (.dk kvs) M) : FldP K (takD K steps kvs pe) "marks" k M := ⟨_, _, _, rfl, T.cls 30, T.noat 39, (lookS (by decide +kernel) look0), h⟩
theorem fl_entries (T : Txt K mg) {steps : List Stp} {kvs : List (Key × V)} {pe : Addr} (h : k (.obj pe) M) : FldP K (takD K steps kvs pe) "entries" k M := ⟨_, _, _, rfl, T.cls 30, T.noat 40, (lookS (by decide +kernel) (lookS (by decide +kernel) look0)), h⟩
theorem fl_msteps (T : Txt K mg) {steps : List Stp} {ns nl : Int} (h : k (.tup (steps.map (stD K))) M) : FldP K (macD K ns nl steps) "steps" k M := ⟨_, _, _, rfl, T.cls 36, T.noat 48, (lookS (by decide +kernel) (lookS (by decide +kernel) look0)), h⟩
theorem we_fldP {Γ : G} {env : Env} {ta : TE} {f : Str} (h : WE Γ ta env M fun x M1 => FldP K x f k M1) : WE Γ (tFld K ta f) env M k := we_fld h
theorem ix_en0 {Γ : G} {env : Env} {x : En} (h : k (.int x.s) M) : WR Γ (rIx K) (enD x) (.int 0) env M k := wr_ixT (d := (.int x.s)) rfl h
theorem ix_en1 {Γ : G} {env : Env} {x : En} (h : k (.int x.l) M) : WR Γ (rIx K) (enD x) (.int 1) env M k := wr_ixT (d := (.int x.l)) rfl h
theorem ix_en2 {Γ : G} {env : Env} {x : En} (h : k (.int x.g) M) : WR Γ (rIx K) (enD x) (.int 2) env M k := wr_ixT (d := (.int x.g)) rfl h
theorem ix_en3 {Γ : G} {env : Env} {x : En} (h : k (.bl x.f) M) : WR Γ (rIx K) (enD x) (.int 3) env M k := wr_ixT (d := (.bl x.f)) rfl h
theorem ix_row0 {Γ : G} {env : Env} {x : Row} (h : k (.int x.1) M) : WR Γ (rIx K) (rowD x) (.int 0) env M k := wr_ixT (d := (.int x.1)) rfl h
theorem ix_row1 {Γ : G} {env : Env} {x : Row} (h : k (tupI x.2) M) : WR Γ (rIx K) (rowD x) (.int 1) env M k := wr_ixT (d := (tupI x.2)) rfl h
theorem ix_mv0 {Γ : G} {env : Env} {x : Mv} (h : k (.int x.1) M) : WR Γ (rIx K) (mvD x) (.int 0) env M k := wr_ixT (d := (.int x.1)) rfl h
theorem ix_mv1 {Γ : G} {env : Env} {x : Mv} (h : k (optD x.2) M) : WR Γ (rIx K) (mvD x) (.int 1) env M k := wr_ixT (d := (optD x.2)) rfl h
theorem ix_hd0 {Γ : G} {env : Env} {x : Hd} (h : k (.int x.1) M) : WR Γ (rIx K) (hdD x) (.int 0) env M k := wr_ixT (d := (.int x.1)) rfl h
theorem ix_hd1 {Γ : G} {env : Env} {x : Hd} (h : k (.int x.2) M) : WR Γ (rIx K) (hdD x) (.int 1) env M k := wr_ixT (d := (.int x.2)) rfl h
theorem ix_mvS {Γ : G} {env : Env} {a q : Int} (h : k (.int q) M) : WR Γ (rIx K) (mvD (a, some q)) (.int 1) env M k := wr_ixT rfl h
theorem ix_mvN {Γ : G} {env : Env} {a : Int} (h : k .non M) : WR Γ (rIx K) (mvD (a, none)) (.int 1) env M k := wr_ixT rfl h
theorem wg_row {Γ : G} {env : Env} {x : Row} {gs : TGs} {k : Env → Mm → Prop} (h : WGs Γ gs [.int x.1, tupI x.2] env M k) : WG Γ (gTup K 2 gs) (rowD x) env M k := wg_tup rfl h
theorem wg_mv {Γ : G} {env : Env} {x : Mv} {gs : TGs} {k : Env → Mm → Prop} (h : WGs Γ gs [.int x.1, optD x.2] env M k) : WG Γ (gTup K 2 gs) (mvD x) env M k := wg_tup rfl h
theorem wc_lenI {Γ : G} {env : Env} {ns : List Int} (h : k (.int ns.length) M) : WC Γ (rLenX K) [tupI ns] env M k := wc_lenT (by rw [List.length_map]; exact h)
theorem isn0 {Γ : G} {env : Env} {x : D} (hx : isNon x = false) (h : k (.bl false) M) : WR Γ rIsN x .non env M k := wr_isN (by rw [hx]; exact h)
theorem isn1 {Γ : G} {env : Env} {x : D} (hx : isNon x = true) (h : k (.bl true) M) : WR Γ rIsN x .non env M k := wr_isN (by rw [hx]; exact h)
theorem ntn0 {Γ : G} {env : Env} {x : D} (hx : isNon x = false) (h : k (.bl true) M) : WR Γ rNotN x .non env M k := wr_notN (by rw [hx]; exact h)
theorem ntn1 {Γ : G} {env : Env} {x : D} (hx : isNon x = true) (h : k (.bl false) M) : WR Γ rNotN x .non env M k := wr_notN (by rw [hx]; exact h)
theorem tk_intro {steps : List Stp} {kvs : List (Key × V)} {pe : Addr} {m : Str} {Q : List (Str × D) → Prop} (hm : m ≠ "steps" ∧ m ≠ "marks" ∧ m ≠ "entries") (h : Q [("steps", .tup (steps.map (stD K))), ("marks", .dk kvs), ("entries", .obj pe)]) : ∃ gs, takD K steps kvs pe = .ins (He.ga K "Takings") gs ∧ gs.lookup m = none ∧ Q gs := ⟨_, rfl, lookS hm.1 (lookS hm.2.1 (lookS hm.2.2 rfl)), h⟩
theorem at0 {α : Type} {x : α} {r : List α} : (x :: r)[0]? = some x := rfl
theorem at1 {α : Type} {x a : α} {r : List α} : (a :: x :: r)[1]? = some x := rfl
theorem at2 {α : Type} {x a b : α} {r : List α} : (a :: b :: x :: r)[2]? = some x := rfl
theorem at3 {α : Type} {x a b c : α} {r : List α} : (a :: b :: c :: x :: r)[3]? = some x := rfl
theorem at4 {α : Type} {x a b c d : α} {r : List α} : (a :: b :: c :: d :: x :: r)[4]? = some x := rfl
theorem at5 {α : Type} {x a b c d e : α} {r : List α} : (a :: b :: c :: d :: e :: x :: r)[5]? = some x := rfl
theorem at6 {α : Type} {x a b c d e f : α} {r : List α} : (a :: b :: c :: d :: e :: f :: x :: r)[6]? = some x := rfl
theorem at7 {α : Type} {x a b c d e f g : α} {r : List α} : (a :: b :: c :: d :: e :: f :: g :: x :: r)[7]? = some x := rfl
theorem len_le {α : Type} {xs : List α} (h : Nat.ble xs.length 1000 = true) : xs.length ≤ sizeLine := Nat.le_trans (Nat.le_of_ble_eq_true h) (by decide)
theorem bl_intro {b : Bool} {Q : Bool → Prop} (h : Q b) : ∃ c, D.bl b = D.bl c ∧ Q c := ⟨b, rfl, h⟩
theorem int_intro {n : Int} {Q : Int → Prop} (h : Q n) : ∃ i, D.int n = D.int i ∧ Q i := ⟨n, rfl, h⟩
theorem di {p : Prop} [Decidable p] {A B : Prop} (h1 : p → A) (h2 : ¬ p → B) : (decide p = true → A) ∧ (decide p = false → B) := ⟨fun e => h1 (of_decide_eq_true e), fun e => h2 (of_decide_eq_false e)⟩
theorem din {p : Prop} [Decidable p] {A B : Prop} (h1 : ¬ p → A) (h2 : p → B) : ((!decide p) = true → A) ∧ ((!decide p) = false → B) := ⟨fun e => h1 (of_decide_eq_false (by simpa using e)), fun e => h2 (of_decide_eq_true (by simpa using e))⟩
theorem d1n {A B : Prop} (h : A) : ((!false) = true → A) ∧ ((!false) = false → B) := ⟨fun _ => h, fun z => nomatch z⟩
theorem d0n {A B : Prop} (h : B) : ((!true) = true → A) ∧ ((!true) = false → B) := ⟨fun z => (nomatch z), fun _ => h⟩
theorem d1 {b : Bool} {A B : Prop} (e : b = true) (h : A) : (b = true → A) ∧ (b = false → B) := ⟨fun _ => h, fun z => by rw [e] at z; cases z⟩
theorem d0 {b : Bool} {A B : Prop} (e : b = false) (h : B) : (b = true → A) ∧ (b = false → B) := ⟨fun z => by (rw [e] at z; cases z), fun _ => h⟩
/-- statements, as they stand in a block -/
theorem ws_seqA {Γ : G} {env : Env} {te : TE} {i : Nat} {u : TS} {E : AE} (h : WE Γ te env M fun d M' => WS Γ u E (env.set i (some d)) M') : WS Γ (tSeq (tAsg te (gName i)) u) E env M := ws_seq (ws_asg (we_mono h fun d M' q => wg_name q))
theorem ws_asgN {Γ : G} {env : Env} {te : TE} {i : Nat} {E : AE} (h : WE Γ te env M fun d M' => E.nx (env.set i (some d)) M') : WS Γ (tAsg te (gName i)) E env M := ws_asg (we_mono h fun d M' q => wg_name q)
theorem ws_seqD {Γ : G} {env : Env} {te : TE} {u : TS} {E : AE} (h : WE Γ te env M fun _ M' => WS Γ u E env M') : WS Γ (tSeq (tDrop te) u) E env M := ws_seq (ws_drop h)
theorem ws_seqG {Γ : G} {env : Env} {te : TE} {g : TG} {u : TS} {E : AE} (h : WE Γ te env M fun d M' => WG Γ g d env M' fun env' M2 => WS Γ u E env' M2) : WS Γ (tSeq (tAsg te g) u) E env M := ws_seq (ws_asg h)
theorem ws_seqJ {Γ : G} {env : Env} {tt : TT} {t t2 u : TS} {E : AE} (h : WT Γ tt env M fun b M' => (b = true → WS Γ t { E with nx := fun env' M' => WS Γ u E env' M' } env M') ∧ (b = false → WS Γ t2 { E with nx := fun env' M' => WS Γ u E env' M' } env M')) : WS Γ (tSeq (tIfS tt t t2) u) E env M := ws_seq (ws_if h)
/-- if c: .. (no else) then the rest -/
theorem ws_seqI {Γ : G} {env : Env} {tt : TT} {t u : TS} {E : AE} (h : WT Γ tt env M fun b M' => (b = true → WS Γ t { E with nx := fun env' M' => WS Γ u E env' M' } env M') ∧ (b = false → WS Γ u E env M')) : WS Γ (tSeq (tIfS tt t tNext) u) E env M :=
  ws_seq (ws_if fun σ H o Q hq => h σ H o Q fun b M' H' ⟨q1, q2⟩ => hq b M' H' ⟨q1, fun e => ws_nx (q2 e)⟩)
end
/-! ### calls that read or change one list -/
theorem Ok.perm {Γ : G} {env : Env} {M M' : Mm} {σ : L2.St} {H : Hp} (o : Ok Γ env M σ H) (p : M'.Perm M) : Ok Γ env M' σ H := ⟨o.env, o.mem.perm p, fun e he => o.own e (p.mem_iff.mp he), o.fr⟩
theorem we_perm {Γ : G} {env : Env} {M : Mm} {te : TE} {k : D → Mm → Prop} (h : WE Γ te env M fun d M1 => ∃ M2, M2.Perm M1 ∧ k d M2) : WE Γ te env M k := fun σ H o Q hq =>
  h σ H o Q fun d M1 v H1 ⟨M2, s, q⟩ o1 k1 r1 => hq d M2 v H1 q (o1.perm s) k1 r1
theorem split_at : ∀ {M : Mm} {a : Nat} {p : Addr} {xs : List D}, M[a]? = some (p, xs) → Split M [(p, xs)] (M.eraseIdx a)
  | [], _, _, _, h => by simp at h
  | e :: M, 0, p, xs, h => by
    cases (show some e = some (p, xs) from h)
    exact .take (Split.none M)
  | e :: M, a + 1, p, xs, h => .leave (split_at (M := M) (a := a) h)
theorem perm_set : ∀ {M : Mm} {a : Nat} {e e' : Addr × List D}, M[a]? = some e → (M.set a e').Perm (M.eraseIdx a ++ [e'])
  | [], _, _, _, h => by simp at h
  | e :: M, 0, _, e', _ => (List.perm_append_comm (l₁ := [e']) (l₂ := M))
  | e :: M, a + 1, _, e', h => (perm_set (M := M) (a := a) h).cons e
theorem set_self {α : Type} : ∀ {M : List α} {a : Nat} {e : α}, M[a]? = some e → M.set a e = M
  | [], _, _, h => by simp at h
  | x :: M, 0, e, h => by
    cases (show some x = some e from h)
    rfl
  | x :: M, a + 1, e, h => congrArg (x :: ·) (set_self (M := M) (a := a) h)
section
variable {Γ : G} {env : Env} {M : Mm} {K : PySem.W.Frag} {k : D → Mm → Prop} {ta : TE} {tl : TA} {E : XK} {S : List D → Mm → (D → Mm → Prop) → Prop}
/-- a call that touches no list -/
theorem we_call0 (h : WA Γ tl env M fun ds M1 => S ds [] fun d F' => F' = [] ∧ k d M1) (hm : ∀ ds F k k', (∀ d F', k d F' → k' d F') → S ds F k → S ds F k') : WE Γ (tCall (spOf S) [] E tl) env M k :=
  we_call fun σ H o Q hq => h σ H o Q fun ds M1 vs H' q o' k' r' => hq ds M1 vs H' ⟨[], M1, Split.none M1, hm _ _ _ _ (fun d F' ⟨e, z⟩ => by rw [e, List.append_nil]; exact z) q⟩ o' k' r'
end
end A

set_option Elab.async false
set_option linter.all false
set_option maxRecDepth 100000
set_option maxHeartbeats 4000000
/-! The judge's defs: Takings. -/
namespace A
open PySem PySem.Spec PyProof.Rows L2
local macro_rules | `(tactic| walk_at "at") => `(tactic| first | exact at0 | exact at1 | exact at2 | exact at3 | exact at4 | exact at5 | exact at6 | exact at7)
local macro_rules | `(tactic| walk_at "fl") => `(tactic| first
  | (with_reducible refine' fl_laid (by assumption) ?_) | (with_reducible refine' fl_goal (by assumption) ?_) | (with_reducible refine' fl_state (by assumption) ?_) | (with_reducible refine' fl_letter (by assumption) ?_)
  | (with_reducible refine' fl_steps (by assumption) ?_) | (with_reducible refine' fl_marks (by assumption) ?_) | (with_reducible refine' fl_entries (by assumption) ?_) | (with_reducible refine' fl_weight (by assumption) ?_) | (with_reducible refine' fl_msteps (by assumption) ?_))
local macro_rules | `(tactic| walk_at "ix") => `(tactic| first
  | (with_reducible refine' ix_en0 ?_) | (with_reducible refine' ix_en1 ?_) | (with_reducible refine' ix_en2 ?_) | (with_reducible refine' ix_en3 ?_) | (with_reducible refine' ix_row0 ?_) | (with_reducible refine' ix_row1 ?_) | (with_reducible refine' ix_mv0 ?_) | (with_reducible refine' ix_mvS ?_) | (with_reducible refine' ix_mvN ?_) | (with_reducible refine' ix_mv1 ?_) | (with_reducible refine' ix_hd0 ?_) | (with_reducible refine' ix_hd1 ?_))
local macro_rules | `(tactic| walk_at "w") => `(tactic| first
  | ((with_reducible refine' we_var ?hvar ?_); (case hvar => rfl))
  | (with_reducible refine' we_int ?_)
  | (with_reducible refine' we_op ?_)
  | (with_reducible refine' wr_add ?_) | (with_reducible refine' wr_sub ?_)
  | ((with_reducible refine' wr_ixT ?hix ?_); (case hix => rfl))
  | ((with_reducible refine' wr_mod ?hmod ?_); (case hmod => first | decide | omega | assumption))
  | ((with_reducible refine' wr_div ?hdiv ?_); (case hdiv => exact ⟨by decide, by decide⟩))
  | (with_reducible refine' wr_eqI ?_) | (with_reducible refine' wr_neI ?_) | (with_reducible refine' wr_lt ?_) | (with_reducible refine' wr_le ?_) | (with_reducible refine' wr_gt ?_) | (with_reducible refine' wr_ge ?_)
  | ((with_reducible refine' isn0 ?hisn ?_); (case hisn => rfl)) | ((with_reducible refine' isn1 ?hisn ?_); (case hisn => rfl)) | ((with_reducible refine' ntn0 ?hisn ?_); (case hisn => rfl)) | ((with_reducible refine' ntn1 ?hisn ?_); (case hisn => rfl))
  | (with_reducible refine' wr_isN ?_) | (with_reducible refine' wr_notN ?_) | (with_reducible refine' wr_eqS ?_)
  | (with_reducible refine' d0n ?_) | (with_reducible refine' d1n ?_) | (with_reducible refine' d0 rfl ?_) | (with_reducible refine' d1 rfl ?_) | (with_reducible refine' bl_intro ?_) | (with_reducible refine' int_intro ?_) | ((with_reducible refine' And.intro ?hlen ?_); (case hlen => exact len_le rfl); try (with_reducible intro _))
  | (walk_at "ix")
  | (with_reducible refine' we_fldP ?_) | (walk_at "fl")
  | (with_reducible refine' we_tup ?_) | (with_reducible refine' we_lst ?_)
  | (with_reducible refine' wa_nil ?_) | (with_reducible refine' wa_cons ?_)
  | (with_reducible refine' we_non ?_) | (with_reducible refine' we_bl ?_) | (with_reducible refine' we_str ?_) | (with_reducible refine' we_ty ?_)
  | (with_reducible refine' we_cb ?_) | (with_reducible refine' wc_lenI ?_) | (with_reducible refine' wc_lenT ?_) | ((with_reducible refine' wc_lenL ?hat ?_); (case hat => walk_at "at"))
  | (with_reducible refine' wc_tupT ?_) | ((with_reducible refine' wc_tupL ?hat ?_); (case hat => walk_at "at"))
  | (with_reducible refine' wc_listT (fun _ => ?_)) | ((with_reducible refine' wc_listL ?hat (fun _ => ?_)); (case hat => walk_at "at"))
  | (with_reducible refine' wt_test ?_) | (with_reducible refine' wt_B ?_) | (with_reducible refine' wt_and ?_) | (with_reducible refine' wt_or ?_) | (with_reducible refine' wt_not ?_) | (with_reducible refine' wt_yes ?_)
  | (with_reducible refine' we_chain ?_) | (with_reducible refine' we_orV ?_) | (with_reducible refine' we_andV ?_) | (with_reducible refine' we_din ?_) | (with_reducible refine' we_neg ?_)
  | (with_reducible refine' we_sl ?_) | (with_reducible refine' wo_no ?_) | (with_reducible refine' wo_part ?_)
  | (with_reducible refine' we_meth ?_) | ((with_reducible refine' tk_intro ?htk ?_); (case htk => decide +kernel)) | (with_reducible refine' we_call ?_)
  | (with_reducible refine' we_app ?_) | (with_reducible refine' we_pop0 ?_)
  | (with_reducible refine' ws_seqA ?_) | (with_reducible refine' ws_seqI ?_) | (with_reducible refine' ws_seqD ?_) | (with_reducible refine' ws_ret ?_) | (with_reducible refine' ws_asgN ?_) | (with_reducible refine' ws_asg ?_) | (with_reducible refine' ws_drop ?_) | (with_reducible refine' ws_if ?_) | (with_reducible refine' ws_nx ?_)
  | (with_reducible refine' ws_seqG ?_) | (with_reducible refine' ws_seqJ ?_)
  | (with_reducible refine' wg_name ?_) | (with_reducible refine' wg_tup rfl ?_) | (with_reducible refine' wg_row ?_) | (with_reducible refine' wg_mv ?_) | (with_reducible refine' wgs_cons ?_) | (with_reducible refine' wgs_nil ?_))
local macro_rules | `(tactic| walk_at "W") => `(tactic| repeat walk_at "w")
local macro_rules | `(tactic| walk_at "sp") => `(tactic| repeat first | exact Split.nil | refine' Split.take ?_ | refine' Split.leave ?_)
def optE {α : Type} (f : α → D) : Option α → D
  | none => .non
  | some x => f x
theorem atI_map {α : Type} {xs : List α} {f : α → D} {i : Int} {x : α} (h0 : 0 ≤ i) (h : xs[i.toNat]? = some x) : atI (xs.map f) i = some (f x) := by
  have e : (i.toNat : Int) = i := by omega
  rw [← e]
  refine atI_nat ?_
  rw [List.getElem?_map, h] <;> rfl
theorem map_get {α : Type} {xs : List α} {f : α → D} {i : Nat} {d : D} (h : (xs.map f)[i]? = some d) : ∃ x, xs[i]? = some x ∧ d = f x := by
  rw [List.getElem?_map] at h
  cases e : xs[i]? with
  | none =>
    rw [e] at h
    cases h
  | some x =>
    rw [e] at h
    exact ⟨x, rfl, (Option.some.inj h).symm⟩
theorem get_in {α : Type} {xs : List α} {i : Int} (h0 : 0 ≤ i) (h1 : i < xs.length) : ∃ x, xs[i.toNat]? = some x := ⟨xs[i.toNat]'(by omega), List.getElem?_eq_getElem (by omega)⟩
section
variable {P : Program} {w : World} {K : PySem.W.Frag} {mg : Str → Option Value} {base : Heap}
def sStepAt (K : PySem.W.Frag) : List D → Mm → (D → Mm → Prop) → Prop := fun ds F k => ∃ (steps : List Stp) (kvs : List (Key × V)) (pe : Addr) (i : Int), ds = [takD K steps kvs pe, .int i] ∧ F = [] ∧ k (optE (stD K) (stepAt steps i)) []
theorem scTakingsStepAt : FnScope ["self", "index"] ["self", "index"] K69.dTakingsStepAt.scope := ⟨rfl, rfl, rfl, by decide +kernel, rfl, by decide +kernel, by decide +kernel⟩
theorem ok_step_at (T : Txt K mg) : Ok1 P w K mg base K69.dTakingsStepAt 1 ["self", "index"] (spOf (sStepAt K)) := by
  refine mk_ok (N := ["self", "index"]) (T.c.def_ 1 (d := K69.dTakingsStepAt) rfl) scTakingsStepAt rfl (fun _ _ _ _ _ _ us hl => match us, hl with | [_, _], _ => rfl) ?_ (fun cdv A outer s H E hr => ⟨_, (pss_cons (ps_if (pt_chain op_le op_lt pe_int (pv 1) (pe_callB call_lenX (by rfl) (T.free 53) (by decide +kernel) (pa_cons (pe_fld (pv 0) rfl) pa_nil))) (pss_one (ps_ret (pe_ix ix_seq (pe_fld (pv 0) rfl) (pv 1) (fun _ _ => rfl)))) pss_nil)
  (pss_one (ps_ret (pe_non)))), fun ds F k Γ hs hw => ?_⟩)
  · rintro _ _ _ ⟨_, _, _, _, rfl, _⟩
    rfl
  · obtain ⟨steps, kvs, pe, i, rfl, rfl, hk⟩ := hs
    change WS _ _ _ [_, _] _; dsimp only [cxOf, Cx.nox, Cx.wish]
    walk_at "W"
    refine di (fun h0 => ?_) (fun h0 => ?_)
    · walk_at "W"
      refine di (fun h1 => ?_) (fun h1 => ?_)
      · walk_at "W"
        rw [List.length_map] at h1
        obtain ⟨x, hx⟩ := get_in h0 h1
        refine wr_ixT (atI_map h0 hx) ?_
        unfold stepAt at hk
        rw [if_pos ⟨h0, h1⟩, hx] at hk
        exact hk
      · walk_at "W"
        rw [List.length_map] at h1
        unfold stepAt at hk
        rw [if_neg (fun z => h1 z.2)] at hk
        exact hk
    · walk_at "W"
      unfold stepAt at hk
      rw [if_neg (fun z => h0 z.1)] at hk
      exact hk
def sEntry (K : PySem.W.Frag) : List D → Mm → (D → Mm → Prop) → Prop := fun ds F k => ∃ (steps : List Stp) (kvs : List (Key × V)) (pe : Addr) (es : List En) (i st l : Int), ds = [takD K steps kvs pe, .int i, .int st, .int l] ∧ F = [(pe, es.map enD)] ∧ k (optE enD (entryAt es i st l)) F
theorem scTakingsEntry : FnScope ["self", "index", "state", "letter", "found"] ["self", "index", "state", "letter"] K69.dTakingsEntry.scope := ⟨rfl, rfl, rfl, by decide +kernel, rfl, by decide +kernel, by decide +kernel⟩
theorem ok_entry (T : Txt K mg) : Ok1 P w K mg base K69.dTakingsEntry 1 ["self", "index", "state", "letter"] (spOf (sEntry K)) := by
  refine mk_ok (N := ["self", "index", "state", "letter", "found"]) (T.c.def_ 2 (d := K69.dTakingsEntry) rfl) scTakingsEntry rfl (fun _ _ _ _ _ _ us hl => match us, hl with | [_, _, _, _], _ => rfl) ?_ (fun cdv A outer s H E hr => ⟨_, (pss_cons (ps_if (pt_not (pt_chain op_le op_lt pe_int (pv 1) (pe_callB call_lenX (by rfl) (T.free 53) (by decide +kernel) (pa_cons (pe_fld (pv 0) rfl) pa_nil)))) (pss_one (ps_ret (pe_non))) pss_nil)
  (pss_cons (ps_set (i := 4) scTakingsEntry.nd rfl (by first | exact Or.inl rfl | exact Or.inr rfl) (pe_ix ix_seq (pe_fld (pv 0) rfl) (pv 1) (fun _ _ => rfl)))
  (pss_cons (ps_if (PW.pt (pw_or (pt_cmpR (op_neX hr.units) (pe_ix ix_seq (pv 4) pe_int (fun _ _ => rfl)) (pv 2) (nomark _)) (pw_or1 (pt_cmpR (op_neX hr.units) (pe_ix ix_seq (pv 4) pe_int (fun _ _ => rfl)) (pv 3) (nomark _))))) (pss_one (ps_ret (pe_non))) pss_nil)
  (pss_one (ps_ret (pv 4)))))), fun ds F k Γ hs hw => ?_⟩)
  · rintro _ _ _ ⟨_, _, _, _, _, _, _, rfl, _⟩
    rfl
  · obtain ⟨steps, kvs, pe, es, i, st, l, rfl, rfl, hk⟩ := hs
    change WS _ _ _ [_, _, _, _, _] _; dsimp only [cxOf, Cx.nox, Cx.wish]
    unfold entryAt at hk
    walk_at "W"
    refine di (fun h0 => ?_) (fun h0 => ?_)
    · walk_at "W"
      rw [List.length_map]
      refine din (fun h1 => ?_) (fun h1 => ?_)
      · rw [if_neg (fun z => h1 z.2)] at hk
        walk_at "W"
        exact hk
      · rw [if_pos ⟨h0, h1⟩] at hk
        obtain ⟨x, hx⟩ := get_in h0 h1
        rw [hx] at hk
        walk_at "W"
        refine wr_ixL at0 (atI_map h0 hx) ?_
        walk_at "W"
        refine din (fun h2 => ?_) (fun h2 => ?_)
        · walk_at "W"
          have e : (Option.bind (some x) fun e => if e.s = st ∧ e.l = l then some e else none) = none := by
            show (if x.s = st ∧ x.l = l then some x else none) = none
            rw [if_neg (fun z => h2 z.1)]
          rw [e] at hk
          exact hk
        · walk_at "W"
          refine din (fun h3 => ?_) (fun h3 => ?_)
          · walk_at "W"
            have e : (Option.bind (some x) fun e => if e.s = st ∧ e.l = l then some e else none) = none := by
              show (if x.s = st ∧ x.l = l then some x else none) = none
              rw [if_neg (fun z => h3 z.2)]
            rw [e] at hk
            exact hk
          · walk_at "W"
            have e : (Option.bind (some x) fun e => if e.s = st ∧ e.l = l then some e else none) = some x := by
              show (if x.s = st ∧ x.l = l then some x else none) = some x
              rw [if_pos ⟨h2, h3⟩]
            rw [e] at hk
            exact hk
    · rw [if_neg (fun z => h0 z.1)] at hk
      walk_at "W"
      exact hk
def sRead (K : PySem.W.Frag) : List D → Mm → (D → Mm → Prop) → Prop := fun ds F k => ∃ (steps : List Stp) (kvs : List (Key × V)) (ms : List Int) (pe : Addr) (es : List En) (row : Row), ds = [takD K steps kvs pe, rowD row] ∧ F = [(pe, es.map enD)] ∧ Marks kvs ms ∧ es.length < 1000 ∧
  (match readRow steps ms es row with
    | none => k (.bl false) F
    | some e => k (.bl true) [(pe, (es ++ [e]).map enD)])
theorem readGo_snoc {es : List En} : ∀ {zs : List (Int × Int)} {st : Int} {f : Bool} {l p : Int}, readGo es st f (zs ++ [(l, p)]) = (readGo es st f zs).bind fun r => (entryAt es p r.1 l).map fun e => (e.g, r.2 || e.f)
  | [], st, f, l, p => by
    show (entryAt es p st l).bind (fun e => some (e.g, f || e.f)) = (entryAt es p st l).map fun e => (e.g, f || e.f)
    cases entryAt es p st l <;> rfl
  | (l', p') :: zs, st, f, l, p => by
    show (entryAt es p' st l').bind (fun e => readGo es e.g (f || e.f) (zs ++ [(l, p)])) = ((entryAt es p' st l').bind fun e => readGo es e.g (f || e.f) zs).bind _
    cases entryAt es p' st l' with
    | none => rfl
    | some e => exact readGo_snoc (zs := zs)
theorem readGo_none {es : List En} : ∀ {zs ys : List (Int × Int)} {st : Int} {f : Bool}, readGo es st f zs = none → readGo es st f (zs ++ ys) = none
  | [], _, _, _, h => nomatch h
  | (l, p) :: zs, ys, st, f, h => by
    show (entryAt es p st l).bind (fun e => readGo es e.g (f || e.f) (zs ++ ys)) = none
    have h : (entryAt es p st l).bind (fun e => readGo es e.g (f || e.f) zs) = none := h
    cases q : entryAt es p st l with
    | none => rfl
    | some e =>
      rw [q] at h
      exact readGo_none (zs := zs) h
theorem zip_at {xs ys : List Int} {i : Nat} {l p : Int} (hx : xs[i]? = some l) (hy : ys[i]? = some p) : (xs.zip ys).take (i + 1) = (xs.zip ys).take i ++ [(l, p)] := by
  have e : (xs.zip ys)[i]? = some (l, p) := List.getElem?_zip_eq_some.mpr ⟨hx, hy⟩
  rw [List.take_add_one, e] <;> rfl
theorem isNon_opt {α : Type} {f : α → D} (h : ∀ x, isNon (f x) = false) : ∀ o : Option α, isNon (optE f o) = o.isNone
  | none => rfl
  | some x => h x
end
end A

set_option Elab.async false
set_option linter.all false
set_option maxRecDepth 100000
set_option maxHeartbeats 4000000
namespace A
open PySem PySem.Spec PyProof.Rows L2
local macro_rules | `(tactic| walk_at "at") => `(tactic| first | exact at0 | exact at1 | exact at2 | exact at3 | exact at4 | exact at5 | exact at6 | exact at7)
local macro_rules | `(tactic| walk_at "fl") => `(tactic| first
  | (with_reducible refine' fl_laid (by assumption) ?_) | (with_reducible refine' fl_goal (by assumption) ?_) | (with_reducible refine' fl_state (by assumption) ?_) | (with_reducible refine' fl_letter (by assumption) ?_)
  | (with_reducible refine' fl_steps (by assumption) ?_) | (with_reducible refine' fl_marks (by assumption) ?_) | (with_reducible refine' fl_entries (by assumption) ?_) | (with_reducible refine' fl_weight (by assumption) ?_) | (with_reducible refine' fl_msteps (by assumption) ?_))
local macro_rules | `(tactic| walk_at "ix") => `(tactic| first
  | (with_reducible refine' ix_en0 ?_) | (with_reducible refine' ix_en1 ?_) | (with_reducible refine' ix_en2 ?_) | (with_reducible refine' ix_en3 ?_) | (with_reducible refine' ix_row0 ?_) | (with_reducible refine' ix_row1 ?_) | (with_reducible refine' ix_mv0 ?_) | (with_reducible refine' ix_mvS ?_) | (with_reducible refine' ix_mvN ?_) | (with_reducible refine' ix_mv1 ?_) | (with_reducible refine' ix_hd0 ?_) | (with_reducible refine' ix_hd1 ?_))
local macro_rules | `(tactic| walk_at "w") => `(tactic| first
  | ((with_reducible refine' we_var ?hvar ?_); (case hvar => rfl))
  | (with_reducible refine' we_int ?_)
  | (with_reducible refine' we_op ?_)
  | (with_reducible refine' wr_add ?_) | (with_reducible refine' wr_sub ?_)
  | ((with_reducible refine' wr_ixT ?hix ?_); (case hix => rfl))
  | ((with_reducible refine' wr_mod ?hmod ?_); (case hmod => first | decide | omega | assumption))
  | ((with_reducible refine' wr_div ?hdiv ?_); (case hdiv => exact ⟨by decide, by decide⟩))
  | (with_reducible refine' wr_eqI ?_) | (with_reducible refine' wr_neI ?_) | (with_reducible refine' wr_lt ?_) | (with_reducible refine' wr_le ?_) | (with_reducible refine' wr_gt ?_) | (with_reducible refine' wr_ge ?_)
  | ((with_reducible refine' isn0 ?hisn ?_); (case hisn => rfl)) | ((with_reducible refine' isn1 ?hisn ?_); (case hisn => rfl)) | ((with_reducible refine' ntn0 ?hisn ?_); (case hisn => rfl)) | ((with_reducible refine' ntn1 ?hisn ?_); (case hisn => rfl))
  | (with_reducible refine' wr_isN ?_) | (with_reducible refine' wr_notN ?_) | (with_reducible refine' wr_eqS ?_)
  | (with_reducible refine' d0n ?_) | (with_reducible refine' d1n ?_) | (with_reducible refine' d0 rfl ?_) | (with_reducible refine' d1 rfl ?_) | (with_reducible refine' bl_intro ?_) | (with_reducible refine' int_intro ?_) | ((with_reducible refine' And.intro ?hlen ?_); (case hlen => exact len_le rfl); try (with_reducible intro _))
  | (walk_at "ix")
  | (with_reducible refine' we_fldP ?_) | (walk_at "fl")
  | (with_reducible refine' we_tup ?_) | (with_reducible refine' we_lst ?_)
  | (with_reducible refine' wa_nil ?_) | (with_reducible refine' wa_cons ?_)
  | (with_reducible refine' we_non ?_) | (with_reducible refine' we_bl ?_) | (with_reducible refine' we_str ?_) | (with_reducible refine' we_ty ?_)
  | (with_reducible refine' we_cb ?_) | (with_reducible refine' wc_lenI ?_) | (with_reducible refine' wc_lenT ?_) | ((with_reducible refine' wc_lenL ?hat ?_); (case hat => walk_at "at"))
  | (with_reducible refine' wc_tupT ?_) | ((with_reducible refine' wc_tupL ?hat ?_); (case hat => walk_at "at"))
  | (with_reducible refine' wc_listT (fun _ => ?_)) | ((with_reducible refine' wc_listL ?hat (fun _ => ?_)); (case hat => walk_at "at"))
  | (with_reducible refine' wt_test ?_) | (with_reducible refine' wt_B ?_) | (with_reducible refine' wt_and ?_) | (with_reducible refine' wt_or ?_) | (with_reducible refine' wt_not ?_) | (with_reducible refine' wt_yes ?_)
  | (with_reducible refine' we_chain ?_) | (with_reducible refine' we_orV ?_) | (with_reducible refine' we_andV ?_) | (with_reducible refine' we_din ?_) | (with_reducible refine' we_neg ?_)
  | (with_reducible refine' we_sl ?_) | (with_reducible refine' wo_no ?_) | (with_reducible refine' wo_part ?_)
  | (with_reducible refine' we_meth ?_) | ((with_reducible refine' tk_intro ?htk ?_); (case htk => decide +kernel)) | (with_reducible refine' we_call ?_)
  | (with_reducible refine' we_app ?_) | (with_reducible refine' we_pop0 ?_)
  | (with_reducible refine' ws_seqA ?_) | (with_reducible refine' ws_seqI ?_) | (with_reducible refine' ws_seqD ?_) | (with_reducible refine' ws_ret ?_) | (with_reducible refine' ws_asgN ?_) | (with_reducible refine' ws_asg ?_) | (with_reducible refine' ws_drop ?_) | (with_reducible refine' ws_if ?_) | (with_reducible refine' ws_nx ?_)
  | (with_reducible refine' ws_seqG ?_) | (with_reducible refine' ws_seqJ ?_)
  | (with_reducible refine' wg_name ?_) | (with_reducible refine' wg_tup rfl ?_) | (with_reducible refine' wg_row ?_) | (with_reducible refine' wg_mv ?_) | (with_reducible refine' wgs_cons ?_) | (with_reducible refine' wgs_nil ?_))
local macro_rules | `(tactic| walk_at "W") => `(tactic| repeat walk_at "w")
local macro_rules | `(tactic| walk_at "sp") => `(tactic| repeat first | exact Split.nil | refine' Split.take ?_ | refine' Split.leave ?_)
section
variable {P : Program} {w : World} {K : PySem.W.Frag} {mg : Str → Option Value} {base : Heap}
theorem scTakingsRead : FnScope ["self", "row", "index", "parts", "step", "state", "flag", "letter", "part", "found"] ["self", "row"] K69.dTakingsRead.scope := ⟨rfl, rfl, rfl, by decide +kernel, rfl, by decide +kernel, by decide +kernel⟩
theorem ok_read (T : Txt K mg) (oTakingsStepAt : Ok1 P w K mg base K69.dTakingsStepAt 1 ["self", "index"] (spOf (sStepAt K))) (oTakingsEntry : Ok1 P w K mg base K69.dTakingsEntry 1 ["self", "index", "state", "letter"] (spOf (sEntry K))) :
    Ok1 P w K mg base K69.dTakingsRead 2 ["self", "row"] (spOf (sRead K)) := by
  refine mk_ok (N := ["self", "row", "index", "parts", "step", "state", "flag", "letter", "part", "found"]) (T.c.def_ 3 (d := K69.dTakingsRead) rfl) scTakingsRead rfl (fun _ _ _ _ _ _ us hl => match us, hl with | [_, _], _ => rfl) ?_ (fun cdv A outer s H E hr => ⟨_, (pss_cons (ps_asg (pv 1) (pg_tup (n := 2) rfl (pgs_cons (pg_name (i := 2) scTakingsRead.nd rfl (by first | exact Or.inl rfl | exact Or.inr rfl)) (pgs_cons (pg_name (i := 3) scTakingsRead.nd rfl (by first | exact Or.inl rfl | exact Or.inr rfl)) pgs_nil))))
  (pss_cons (ps_set (i := 4) scTakingsRead.nd rfl (by first | exact Or.inl rfl | exact Or.inr rfl) (pe_mt oTakingsStepAt rfl hr (T.cls 30) (T.meth 49) (pv 0) (pa_cons (pv 2) pa_nil)))
  (pss_cons (ps_if (PW.pt (pw_or (pt_cmpR op_isN (pv 4) pe_non (nomark _)) (pw_or1 (pt_cmpR (op_neX hr.units) (pe_callB call_lenX (by rfl) (T.free 53) (by decide +kernel) (pa_cons (pv 3) pa_nil)) (pe_callB call_lenX (by rfl) (T.free 53) (by decide +kernel) (pa_cons (pe_fld (pv 4) rfl) pa_nil)) (nomark _))))) (pss_one (ps_ret (pe_bl))) pss_nil)
  (pss_cons (ps_set (i := 5) scTakingsRead.nd rfl (by first | exact Or.inl rfl | exact Or.inr rfl) (pe_fld (pv 4) rfl))
  (pss_cons (ps_set (i := 6) scTakingsRead.nd rfl (by first | exact Or.inl rfl | exact Or.inr rfl) (pe_cmp (pc_din (hu_of hr) (pv 2) (pe_fld (pv 0) rfl))))
  (pss_cons (ps_for PassesOwn.never rfl (RZ.pi_zipA (by rfl) (T.free 59) (pa_cons (pe_fld (pv 4) rfl) (pa_cons (pv 3) pa_nil))) (pg_tup (n := 2) rfl (pgs_cons (pg_name (i := 7) scTakingsRead.nd rfl (by first | exact Or.inl rfl | exact Or.inr rfl)) (pgs_cons (pg_name (i := 8) scTakingsRead.nd rfl (by first | exact Or.inl rfl | exact Or.inr rfl)) pgs_nil))) (pss_cons (ps_set (i := 9) scTakingsRead.nd rfl (by first | exact Or.inl rfl | exact Or.inr rfl) (pe_mt oTakingsEntry rfl hr (T.cls 30) (T.meth 50) (pv 0) (pa_cons (pv 8) (pa_cons (pv 5) (pa_cons (pv 7) pa_nil)))))
  (pss_cons (ps_if (pt_cmpR op_isN (pv 9) pe_non (nomark _)) (pss_one (ps_ret (pe_bl))) pss_nil)
  (pss_cons (ps_set (i := 5) scTakingsRead.nd rfl (by first | exact Or.inl rfl | exact Or.inr rfl) (pe_ix ix_seq (pv 9) pe_int (fun _ _ => rfl)))
  (pss_one (ps_set (i := 6) scTakingsRead.nd rfl (by first | exact Or.inl rfl | exact Or.inr rfl) (pe_or (pv 6) (pe_one (pe_ix ix_seq (pv 9) pe_int (fun _ _ => rfl))))))))))
  (pss_cons (ps_expr (pe_bm PySem.F.plainAttrs_list PySem.F.slot_list_append PySem.F.type_list_append mt_append (pe_fld (pv 0) rfl) (pa_cons (pe_tup (pa_cons (pe_fld (pv 4) rfl) (pa_cons (pe_fld (pv 4) rfl) (pa_cons (pv 5) (pa_cons (pv 6) pa_nil))))) pa_nil)))
  (pss_one (ps_ret (pe_bl)))))))))), fun ds F k Γ hs hw => ?_⟩)
  · rintro _ _ _ ⟨_, _, _, _, _, _, rfl, _⟩
    rfl
  · obtain ⟨steps, kvs, ms, pe, es, row, rfl, rfl, hm, hz, hk⟩ := hs
    change WS _ _ _ [_, _, _, _, _, _, _, _, _, _] _; dsimp only [cxOf, Cx.nox, Cx.wish]
    unfold readRow at hk
    walk_at "W"
    refine ⟨[], _, Split.none _, steps, kvs, pe, row.1, rfl, rfl, ?_⟩
    cases hs : stepAt steps row.1 with
    | none =>
      rw [hs] at hk
      dsimp only [optE]
      walk_at "W"
      exact hk
    | some st =>
      rw [hs] at hk
      have hk : (match (if row.2.length = st.laid.length then (readGo es st.goal (decide (row.1 ∈ ms)) (st.laid.zip row.2)).map fun r => (⟨st.state, st.letter, r.1, r.2⟩ : En) else none) with
        | none => k (.bl false) [(pe, es.map enD)]
        | some e => k (.bl true) [(pe, (es ++ [e]).map enD)]) := hk
      dsimp only [optE]
      walk_at "W"
      refine din (fun h0 => ?_) (fun h0 => ?_)
      · walk_at "W"
        rw [if_neg (by omega)] at hk
        exact hk
      · rw [if_pos (by omega)] at hk
        walk_at "W"
        refine ⟨_, _, rfl, rfl, ?_⟩
        rw [hm row.1]
        refine ws_seq (ws_forZ (fun i env M => ∃ (z : Int) (f : Bool) (a b c : Option D), readGo es st.goal (decide (row.1 ∈ ms)) ((st.laid.zip row.2).take i) = some (z, f) ∧ M = [(pe, es.map enD)] ∧
          env = [some (takD K steps kvs pe), some (rowD row), some (.int row.1), some (tupI row.2), some (stD K st), some (.int z), some (.bl f), a, b, c]) ?_)
        walk_at "W"
        refine ⟨_, _, rfl, ⟨st.goal, _, none, none, none, rfl, rfl, rfl⟩, ?_, ?_⟩
        · rintro i x y env M hx hy ⟨z, f, a, b, c, hz2, rfl, rfl⟩
          obtain ⟨l, hl, rfl⟩ := map_get hx
          obtain ⟨p, hp, rfl⟩ := map_get hy
          walk_at "W"
          refine ⟨[(pe, es.map enD)], [], .take .nil, steps, kvs, pe, es, p, z, l, rfl, rfl, ?_⟩
          cases he : entryAt es p z l with
          | none =>
            have hn : readGo es st.goal (decide (row.1 ∈ ms)) (st.laid.zip row.2) = none := by
              have e := readGo_none (ys := (st.laid.zip row.2).drop (i + 1)) (show readGo es st.goal (decide (row.1 ∈ ms)) ((st.laid.zip row.2).take (i + 1)) = none by
                rw [zip_at hl hp, readGo_snoc, hz2]
                show (entryAt es p z l).map _ = none
                rw [he] <;> rfl)
              rw [List.take_append_drop] at e
              exact e
            rw [hn] at hk
            dsimp only [optE]
            walk_at "W"
            exact hk
          | some e =>
            dsimp only [optE]
            walk_at "W"
            have hn : readGo es st.goal (decide (row.1 ∈ ms)) ((st.laid.zip row.2).take (i + 1)) = some (e.g, f || e.f) := by
              rw [zip_at hl hp, readGo_snoc, hz2]
              show (entryAt es p z l).map _ = _
              rw [he] <;> rfl
            refine ⟨fun hf => ?_, fun hf => ?_⟩
            · subst hf
              exact ⟨_, _, _, _, _, hn, rfl, rfl⟩
            · subst hf
              walk_at "W"
              exact ⟨_, _, _, _, _, hn, rfl, rfl⟩
        · rintro env M ⟨z, f, a, b, c, hz2, rfl, rfl⟩
          have hl : min (st.laid.map D.int).length (row.2.map D.int).length = (st.laid.zip row.2).length := by simp
          rw [hl, List.take_length] at hz2
          rw [hz2] at hk
          walk_at "W"
          refine ⟨pe, rfl, ⟨0, _, rfl⟩, ?_⟩
          walk_at "W"
          refine ⟨0, _, rfl, ?_, ?_⟩
          · rw [List.length_map]
            exact Nat.lt_of_lt_of_le hz (by decide)
          · walk_at "W"
            have e : (es ++ [(⟨st.state, st.letter, z, f⟩ : En)]).map enD = es.map enD ++ [.tup [.int st.state, .int st.letter, .int z, .bl f]] := by
              rw [List.map_append] <;> rfl
            have hk : k (.bl true) [(pe, (es ++ [(⟨st.state, st.letter, z, f⟩ : En)]).map enD)] := hk
            rw [e] at hk
            exact hk
end
end A

set_option Elab.async false
set_option linter.all false
set_option maxRecDepth 100000
set_option maxHeartbeats 4000000
namespace A
open PySem PySem.Spec PyProof.Rows L2
local macro_rules | `(tactic| walk_at "at") => `(tactic| first | exact at0 | exact at1 | exact at2 | exact at3 | exact at4 | exact at5 | exact at6 | exact at7)
local macro_rules | `(tactic| walk_at "fl") => `(tactic| first
  | (with_reducible refine' fl_laid (by assumption) ?_) | (with_reducible refine' fl_goal (by assumption) ?_) | (with_reducible refine' fl_state (by assumption) ?_) | (with_reducible refine' fl_letter (by assumption) ?_)
  | (with_reducible refine' fl_steps (by assumption) ?_) | (with_reducible refine' fl_marks (by assumption) ?_) | (with_reducible refine' fl_entries (by assumption) ?_) | (with_reducible refine' fl_weight (by assumption) ?_) | (with_reducible refine' fl_msteps (by assumption) ?_))
local macro_rules | `(tactic| walk_at "ix") => `(tactic| first
  | (with_reducible refine' ix_en0 ?_) | (with_reducible refine' ix_en1 ?_) | (with_reducible refine' ix_en2 ?_) | (with_reducible refine' ix_en3 ?_) | (with_reducible refine' ix_row0 ?_) | (with_reducible refine' ix_row1 ?_) | (with_reducible refine' ix_mv0 ?_) | (with_reducible refine' ix_mvS ?_) | (with_reducible refine' ix_mvN ?_) | (with_reducible refine' ix_mv1 ?_) | (with_reducible refine' ix_hd0 ?_) | (with_reducible refine' ix_hd1 ?_))
local macro_rules | `(tactic| walk_at "w") => `(tactic| first
  | ((with_reducible refine' we_var ?hvar ?_); (case hvar => rfl))
  | (with_reducible refine' we_int ?_)
  | (with_reducible refine' we_op ?_)
  | (with_reducible refine' wr_add ?_) | (with_reducible refine' wr_sub ?_)
  | ((with_reducible refine' wr_ixT ?hix ?_); (case hix => rfl))
  | ((with_reducible refine' wr_mod ?hmod ?_); (case hmod => first | decide | omega | assumption))
  | ((with_reducible refine' wr_div ?hdiv ?_); (case hdiv => exact ⟨by decide, by decide⟩))
  | (with_reducible refine' wr_eqI ?_) | (with_reducible refine' wr_neI ?_) | (with_reducible refine' wr_lt ?_) | (with_reducible refine' wr_le ?_) | (with_reducible refine' wr_gt ?_) | (with_reducible refine' wr_ge ?_)
  | ((with_reducible refine' isn0 ?hisn ?_); (case hisn => rfl)) | ((with_reducible refine' isn1 ?hisn ?_); (case hisn => rfl)) | ((with_reducible refine' ntn0 ?hisn ?_); (case hisn => rfl)) | ((with_reducible refine' ntn1 ?hisn ?_); (case hisn => rfl))
  | (with_reducible refine' wr_isN ?_) | (with_reducible refine' wr_notN ?_) | (with_reducible refine' wr_eqS ?_)
  | (with_reducible refine' d0n ?_) | (with_reducible refine' d1n ?_) | (with_reducible refine' d0 rfl ?_) | (with_reducible refine' d1 rfl ?_) | (with_reducible refine' bl_intro ?_) | (with_reducible refine' int_intro ?_) | ((with_reducible refine' And.intro ?hlen ?_); (case hlen => exact len_le rfl); try (with_reducible intro _))
  | (walk_at "ix")
  | (with_reducible refine' we_fldP ?_) | (walk_at "fl")
  | (with_reducible refine' we_tup ?_) | (with_reducible refine' we_lst ?_)
  | (with_reducible refine' wa_nil ?_) | (with_reducible refine' wa_cons ?_)
  | (with_reducible refine' we_non ?_) | (with_reducible refine' we_bl ?_) | (with_reducible refine' we_str ?_) | (with_reducible refine' we_ty ?_)
  | (with_reducible refine' we_cb ?_) | (with_reducible refine' wc_lenI ?_) | (with_reducible refine' wc_lenT ?_) | ((with_reducible refine' wc_lenL ?hat ?_); (case hat => walk_at "at"))
  | (with_reducible refine' wc_tupT ?_) | ((with_reducible refine' wc_tupL ?hat ?_); (case hat => walk_at "at"))
  | (with_reducible refine' wc_listT (fun _ => ?_)) | ((with_reducible refine' wc_listL ?hat (fun _ => ?_)); (case hat => walk_at "at"))
  | (with_reducible refine' wt_test ?_) | (with_reducible refine' wt_B ?_) | (with_reducible refine' wt_and ?_) | (with_reducible refine' wt_or ?_) | (with_reducible refine' wt_not ?_) | (with_reducible refine' wt_yes ?_)
  | (with_reducible refine' we_chain ?_) | (with_reducible refine' we_orV ?_) | (with_reducible refine' we_andV ?_) | (with_reducible refine' we_din ?_) | (with_reducible refine' we_neg ?_)
  | (with_reducible refine' we_sl ?_) | (with_reducible refine' wo_no ?_) | (with_reducible refine' wo_part ?_)
  | (with_reducible refine' we_meth ?_) | ((with_reducible refine' tk_intro ?htk ?_); (case htk => decide +kernel)) | (with_reducible refine' we_call ?_)
  | (with_reducible refine' we_app ?_) | (with_reducible refine' we_pop0 ?_)
  | (with_reducible refine' ws_seqA ?_) | (with_reducible refine' ws_seqI ?_) | (with_reducible refine' ws_seqD ?_) | (with_reducible refine' ws_ret ?_) | (with_reducible refine' ws_asgN ?_) | (with_reducible refine' ws_asg ?_) | (with_reducible refine' ws_drop ?_) | (with_reducible refine' ws_if ?_) | (with_reducible refine' ws_nx ?_)
  | (with_reducible refine' ws_seqG ?_) | (with_reducible refine' ws_seqJ ?_)
  | (with_reducible refine' wg_name ?_) | (with_reducible refine' wg_tup rfl ?_) | (with_reducible refine' wg_row ?_) | (with_reducible refine' wg_mv ?_) | (with_reducible refine' wgs_cons ?_) | (with_reducible refine' wgs_nil ?_))
local macro_rules | `(tactic| walk_at "W") => `(tactic| repeat walk_at "w")
local macro_rules | `(tactic| walk_at "sp") => `(tactic| repeat first | exact Split.nil | refine' Split.take ?_ | refine' Split.leave ?_)
section
variable {P : Program} {w : World} {K : PySem.W.Frag} {mg : Str → Option Value} {base : Heap}
def optM : Option (Hd × Hd × Bool) → D := optE fun t => .tup [hdD t.1, hdD t.2.1, .bl t.2.2]
def sMove (K : PySem.W.Frag) : List D → Mm → (D → Mm → Prop) → Prop := fun ds F k => ∃ (steps : List Stp) (kvs : List (Key × V)) (ms : List Int) (pe : Addr) (es : List En) (m : Mv), ds = [takD K steps kvs pe, mvD m] ∧ F = [(pe, es.map enD)] ∧ Marks kvs ms ∧ k (optM (moveOf steps ms es m)) F
theorem scTakingsMove : FnScope ["self", "pair", "index", "part", "step", "head", "found"] ["self", "pair"] K69.dTakingsMove.scope := ⟨rfl, rfl, rfl, by decide +kernel, rfl, by decide +kernel, by decide +kernel⟩
theorem ok_move (T : Txt K mg) (oTakingsStepAt : Ok1 P w K mg base K69.dTakingsStepAt 1 ["self", "index"] (spOf (sStepAt K))) (oTakingsEntry : Ok1 P w K mg base K69.dTakingsEntry 1 ["self", "index", "state", "letter"] (spOf (sEntry K))) :
    Ok1 P w K mg base K69.dTakingsMove 2 ["self", "pair"] (spOf (sMove K)) := by
  refine mk_ok (N := ["self", "pair", "index", "part", "step", "head", "found"]) (T.c.def_ 4 (d := K69.dTakingsMove) rfl) scTakingsMove rfl (fun _ _ _ _ _ _ us hl => match us, hl with | [_, _], _ => rfl) ?_ (fun cdv A outer s H E hr => ⟨_, (pss_cons (ps_asg (pv 1) (pg_tup (n := 2) rfl (pgs_cons (pg_name (i := 2) scTakingsMove.nd rfl (by first | exact Or.inl rfl | exact Or.inr rfl)) (pgs_cons (pg_name (i := 3) scTakingsMove.nd rfl (by first | exact Or.inl rfl | exact Or.inr rfl)) pgs_nil))))
  (pss_cons (ps_set (i := 4) scTakingsMove.nd rfl (by first | exact Or.inl rfl | exact Or.inr rfl) (pe_mt oTakingsStepAt rfl hr (T.cls 30) (T.meth 49) (pv 0) (pa_cons (pv 2) pa_nil)))
  (pss_cons (ps_if (PW.pt (pw_or (pt_cmpR op_isN (pv 4) pe_non (nomark _)) (pw_or1 (pt_cmpR (op_eqX hr.units) (pe_callB call_lenX (by rfl) (T.free 53) (by decide +kernel) (pa_cons (pe_fld (pv 4) rfl) pa_nil)) pe_int (nomark _))))) (pss_one (ps_ret (pe_non))) pss_nil)
  (pss_cons (ps_set (i := 5) scTakingsMove.nd rfl (by first | exact Or.inl rfl | exact Or.inr rfl) (pe_tup (pa_cons (pe_fld (pv 4) rfl) (pa_cons (pe_fld (pv 4) rfl) pa_nil))))
  (pss_cons (ps_if (pt_cmpR op_isN (pv 3) pe_non (nomark _)) (pss_one (ps_ret (pe_tup (pa_cons (pv 5) (pa_cons (pe_tup (pa_cons (pe_fld (pv 4) rfl) (pa_cons (pe_ix ix_seq (pe_fld (pv 4) rfl) pe_int (fun _ _ => rfl)) pa_nil))) (pa_cons (pe_cmp (pc_din (hu_of hr) (pv 2) (pe_fld (pv 0) rfl))) pa_nil)))))) pss_nil)
  (pss_cons (ps_set (i := 6) scTakingsMove.nd rfl (by first | exact Or.inl rfl | exact Or.inr rfl) (pe_mt oTakingsEntry rfl hr (T.cls 30) (T.meth 50) (pv 0) (pa_cons (pv 3) (pa_cons (pe_fld (pv 4) rfl) (pa_cons (pe_ix ix_seq (pe_fld (pv 4) rfl) pe_int (fun _ _ => rfl)) pa_nil)))))
  (pss_cons (ps_if (PW.pt (pw_or (pt_cmpR op_isN (pv 6) pe_non (nomark _)) (pw_or1 (pt_cmpR (op_neX hr.units) (pe_callB call_lenX (by rfl) (T.free 53) (by decide +kernel) (pa_cons (pe_fld (pv 4) rfl) pa_nil)) pe_int (nomark _))))) (pss_one (ps_ret (pe_non))) pss_nil)
  (pss_one (ps_ret (pe_tup (pa_cons (pv 5) (pa_cons (pe_tup (pa_cons (pe_ix ix_seq (pv 6) pe_int (fun _ _ => rfl)) (pa_cons (pe_ix ix_seq (pe_fld (pv 4) rfl) pe_int (fun _ _ => rfl)) pa_nil))) (pa_cons (pe_or (pe_cmp (pc_din (hu_of hr) (pv 2) (pe_fld (pv 0) rfl))) (pe_one (pe_ix ix_seq (pv 6) pe_int (fun _ _ => rfl)))) pa_nil))))))))))))), fun ds F k Γ hs hw => ?_⟩)
  · rintro _ _ _ ⟨_, _, _, _, _, _, rfl, _⟩
    rfl
  · obtain ⟨steps, kvs, ms, pe, es, m, rfl, rfl, hm, hk⟩ := hs
    change WS _ _ _ [_, _, _, _, _, _, _] _; dsimp only [cxOf, Cx.nox, Cx.wish]
    unfold moveOf at hk
    walk_at "W"
    refine ⟨[], _, Split.none _, steps, kvs, pe, m.1, rfl, rfl, ?_⟩
    cases hs : stepAt steps m.1 with
    | none =>
      rw [hs] at hk
      dsimp only [optE]
      walk_at "W"
      exact hk
    | some st =>
      rw [hs, Option.bind_some] at hk
      dsimp only [optE]
      walk_at "W"
      refine di (fun h0 => ?_) (fun h0 => ?_)
      · have e : st.laid = [] := List.length_eq_zero_iff.mp (by omega)
        rw [e] at hk
        walk_at "W"
        exact hk
      · cases e : st.laid with
        | nil =>
          rw [e] at h0
          exact absurd rfl h0
        | cons l0 ls =>
          rw [e] at hk
          dsimp only at hk
          have e0 : atI (st.laid.map D.int) 0 = some (.int l0) := by rw [e]; exact atI_nat (j := 0) rfl
          walk_at "W"
          cases hp : m.2 with
          | none =>
            rw [hp] at hk
            dsimp only at hk
            dsimp only [optD]
            walk_at "W"
            refine wr_ixT e0 ?_
            walk_at "W"
            refine ⟨_, _, rfl, rfl, ?_⟩
            rw [hm m.1]
            walk_at "W"
            exact hk
          | some p =>
            rw [hp] at hk
            dsimp only at hk
            dsimp only [optD]
            walk_at "W"
            refine wr_ixT e0 ?_
            walk_at "W"
            refine ⟨[(pe, es.map enD)], [], .take .nil, steps, kvs, pe, es, p, st.goal, l0, rfl, rfl, ?_⟩
            cases he : entryAt es p st.goal l0 with
            | none =>
              rw [he] at hk
              dsimp only [optE]
              walk_at "W"
              exact hk
            | some en =>
              rw [he] at hk
              dsimp only [Option.bind_some] at hk
              dsimp only [optE]
              walk_at "W"
              rw [e]
              refine din (fun h1 => ?_) (fun h1 => ?_)
              · walk_at "W"
                match ls, h1, hk with
                | [], _, hk => exact hk
                | [l1], h1, _ => exact absurd rfl h1
                | _ :: _ :: _, _, hk => exact hk
              · match ls, h1, hk, e with
                | [], h1, _, _ => exact absurd h1 (by simp)
                | _ :: _ :: _, h1, _, _ => exact absurd h1 (by simp; omega)
                | [l1], h1, hk, e =>
                  have e1 : atI (st.laid.map D.int) 1 = some (.int l1) := by rw [e]; exact atI_nat (j := 1) rfl
                  walk_at "W"
                  refine wr_ixT e1 ?_
                  walk_at "W"
                  refine ⟨_, _, rfl, rfl, ?_⟩
                  rw [hm m.1]
                  refine ⟨_, rfl, fun hb => ?_, fun hb => ?_⟩
                  · rw [hb] at hk
                    walk_at "W"
                    exact hk
                  · rw [hb] at hk
                    walk_at "W"
                    exact hk
end
end A

set_option Elab.async false
set_option linter.all false
set_option maxRecDepth 100000
set_option maxHeartbeats 4000000
namespace A
open PySem PySem.Spec PyProof.Rows L2
local macro_rules | `(tactic| walk_at "at") => `(tactic| first | exact at0 | exact at1 | exact at2 | exact at3 | exact at4 | exact at5 | exact at6 | exact at7)
local macro_rules | `(tactic| walk_at "fl") => `(tactic| first
  | (with_reducible refine' fl_laid (by assumption) ?_) | (with_reducible refine' fl_goal (by assumption) ?_) | (with_reducible refine' fl_state (by assumption) ?_) | (with_reducible refine' fl_letter (by assumption) ?_)
  | (with_reducible refine' fl_steps (by assumption) ?_) | (with_reducible refine' fl_marks (by assumption) ?_) | (with_reducible refine' fl_entries (by assumption) ?_) | (with_reducible refine' fl_weight (by assumption) ?_) | (with_reducible refine' fl_msteps (by assumption) ?_))
local macro_rules | `(tactic| walk_at "ix") => `(tactic| first
  | (with_reducible refine' ix_en0 ?_) | (with_reducible refine' ix_en1 ?_) | (with_reducible refine' ix_en2 ?_) | (with_reducible refine' ix_en3 ?_) | (with_reducible refine' ix_row0 ?_) | (with_reducible refine' ix_row1 ?_) | (with_reducible refine' ix_mv0 ?_) | (with_reducible refine' ix_mvS ?_) | (with_reducible refine' ix_mvN ?_) | (with_reducible refine' ix_mv1 ?_) | (with_reducible refine' ix_hd0 ?_) | (with_reducible refine' ix_hd1 ?_))
local macro_rules | `(tactic| walk_at "w") => `(tactic| first
  | ((with_reducible refine' we_var ?hvar ?_); (case hvar => rfl))
  | (with_reducible refine' we_int ?_)
  | (with_reducible refine' we_op ?_)
  | (with_reducible refine' wr_add ?_) | (with_reducible refine' wr_sub ?_)
  | ((with_reducible refine' wr_ixT ?hix ?_); (case hix => rfl))
  | ((with_reducible refine' wr_mod ?hmod ?_); (case hmod => first | decide | omega | assumption))
  | ((with_reducible refine' wr_div ?hdiv ?_); (case hdiv => exact ⟨by decide, by decide⟩))
  | (with_reducible refine' wr_eqI ?_) | (with_reducible refine' wr_neI ?_) | (with_reducible refine' wr_lt ?_) | (with_reducible refine' wr_le ?_) | (with_reducible refine' wr_gt ?_) | (with_reducible refine' wr_ge ?_)
  | ((with_reducible refine' isn0 ?hisn ?_); (case hisn => rfl)) | ((with_reducible refine' isn1 ?hisn ?_); (case hisn => rfl)) | ((with_reducible refine' ntn0 ?hisn ?_); (case hisn => rfl)) | ((with_reducible refine' ntn1 ?hisn ?_); (case hisn => rfl))
  | (with_reducible refine' wr_isN ?_) | (with_reducible refine' wr_notN ?_) | (with_reducible refine' wr_eqS ?_)
  | (with_reducible refine' d0n ?_) | (with_reducible refine' d1n ?_) | (with_reducible refine' d0 rfl ?_) | (with_reducible refine' d1 rfl ?_) | (with_reducible refine' bl_intro ?_) | (with_reducible refine' int_intro ?_) | ((with_reducible refine' And.intro ?hlen ?_); (case hlen => exact len_le rfl); try (with_reducible intro _))
  | (walk_at "ix")
  | (with_reducible refine' we_fldP ?_) | (walk_at "fl")
  | (with_reducible refine' we_tup ?_) | (with_reducible refine' we_lst ?_)
  | (with_reducible refine' wa_nil ?_) | (with_reducible refine' wa_cons ?_)
  | (with_reducible refine' we_non ?_) | (with_reducible refine' we_bl ?_) | (with_reducible refine' we_str ?_) | (with_reducible refine' we_ty ?_)
  | (with_reducible refine' we_cb ?_) | (with_reducible refine' wc_lenI ?_) | (with_reducible refine' wc_lenT ?_) | ((with_reducible refine' wc_lenL ?hat ?_); (case hat => walk_at "at"))
  | (with_reducible refine' wc_tupT ?_) | ((with_reducible refine' wc_tupL ?hat ?_); (case hat => walk_at "at"))
  | (with_reducible refine' wc_listT (fun _ => ?_)) | ((with_reducible refine' wc_listL ?hat (fun _ => ?_)); (case hat => walk_at "at"))
  | (with_reducible refine' wt_test ?_) | (with_reducible refine' wt_B ?_) | (with_reducible refine' wt_and ?_) | (with_reducible refine' wt_or ?_) | (with_reducible refine' wt_not ?_) | (with_reducible refine' wt_yes ?_)
  | (with_reducible refine' we_chain ?_) | (with_reducible refine' we_orV ?_) | (with_reducible refine' we_andV ?_) | (with_reducible refine' we_din ?_) | (with_reducible refine' we_neg ?_)
  | (with_reducible refine' we_sl ?_) | (with_reducible refine' wo_no ?_) | (with_reducible refine' wo_part ?_)
  | (with_reducible refine' we_meth ?_) | ((with_reducible refine' tk_intro ?htk ?_); (case htk => decide +kernel)) | (with_reducible refine' we_call ?_)
  | (with_reducible refine' we_app ?_) | (with_reducible refine' we_pop0 ?_)
  | (with_reducible refine' ws_seqA ?_) | (with_reducible refine' ws_seqI ?_) | (with_reducible refine' ws_seqD ?_) | (with_reducible refine' ws_ret ?_) | (with_reducible refine' ws_asgN ?_) | (with_reducible refine' ws_asg ?_) | (with_reducible refine' ws_drop ?_) | (with_reducible refine' ws_if ?_) | (with_reducible refine' ws_nx ?_)
  | (with_reducible refine' ws_seqG ?_) | (with_reducible refine' ws_seqJ ?_)
  | (with_reducible refine' wg_name ?_) | (with_reducible refine' wg_tup rfl ?_) | (with_reducible refine' wg_row ?_) | (with_reducible refine' wg_mv ?_) | (with_reducible refine' wgs_cons ?_) | (with_reducible refine' wgs_nil ?_))
local macro_rules | `(tactic| walk_at "W") => `(tactic| repeat walk_at "w")
local macro_rules | `(tactic| walk_at "sp") => `(tactic| repeat first | exact Split.nil | refine' Split.take ?_ | refine' Split.leave ?_)
section
variable {P : Program} {w : World} {K : PySem.W.Frag} {mg : Str → Option Value} {base : Heap}
def preTak (K : PySem.W.Frag) : List D → Mm → (List (Str × D) → Mm → Prop) → Prop := fun ds F kf => ∃ (ns nl : Int) (steps : List Stp) (kvs : List (Key × V)), ds = [macD K ns nl steps, .dk kvs] ∧ F = [] ∧
  ∀ pe, kf [("steps", .tup (steps.map (stD K))), ("marks", .dk kvs), ("entries", .obj pe)] [(pe, [])]
theorem scTakingsInit : FnScope ["self", "machine", "marks"] ["self", "machine", "marks"] K69.dTakingsInit.scope := ⟨rfl, rfl, rfl, by decide +kernel, rfl, by decide +kernel, by decide +kernel⟩
theorem putF_new {f : Str} {v : V} : ∀ {fs : List (Str × V)}, (∀ p ∈ fs, p.1 ≠ f) → putF f v fs = fs ++ [(f, v)]
  | [], _ => rfl
  | (g, x) :: r, h => by
    show (if g = f then (g, v) :: r else (g, x) :: putF f v r) = (g, x) :: (r ++ [(f, v)])
    rw [if_neg (h (g, x) List.mem_cons_self), putF_new fun p hp => h p (List.mem_cons_of_mem _ hp)]
theorem ok_takInit (T : Txt K mg) : OkI P w K mg base K69.dTakingsInit 1 ["self", "machine", "marks"] [] (spInit (He.ga K "Takings") 2 (preTak K)) := by
  obtain ⟨fd, F⟩ := T.c.def_ 0 (d := K69.dTakingsInit) rfl
  have F' : FunD K K69.dTakingsInit.name K69.dTakingsInit.qual K69.dTakingsInit.params K69.dTakingsInit.body K69.dTakingsInit.scope [] (K69.dTakingsInit.kws K) (He.fAd K K69.dTakingsInit.at_) fd := F
  refine ⟨fd, [], F, FunD.ok F scTakingsInit (fun vs H Q E h => ?_) (fun cdv A outer s H vs Q E hr h => ?_), .nil, FunD.bindsN F' (fun _ _ _ _ _ _ us hl => match us, hl with | [_, _, _], _ => rfl)⟩
  · obtain ⟨x, dx, us, ds, F, kf, rfl, hl, _⟩ := h
    show us.length + 1 = 3
    rw [hl]
  · refine ⟨_, PSs.nox (pss_cons (ps_fld (pv 0) (pe_fld (pv 1) rfl) rfl)
  (pss_cons (ps_fld (pv 0) (pv 2) rfl)
  (pss_one (ps_fld (pv 0) (pe_lst pa_nil) rfl)))), ?_⟩
    obtain ⟨x, dx, us, ds, F, kf, rfl, hl, hx, r0, rk, ⟨ns, nl, steps, kvs, rfl, rfl, hk⟩, m, q⟩ := h
    cases r0 with
    | @cons um _ us2 _ rm rs =>
      cases rs with
      | @cons uk _ us3 _ rd rn =>
        cases rn
        cases rm with
        | @ins am _ dxm fsm _ hm rf =>
          obtain ⟨v, lv, rv⟩ := rf.look (f := "steps") (d := .tup (steps.map (stD K))) (lookS (by decide +kernel) (lookS (by decide +kernel) look0))
          have nmx : am ≠ x := fun z => by
            subst z
            rw [hx] at hm
            have e := (HO.ins.inj (Option.some.inj hm)).2.2
            rw [← e] at rf
            nomatch rf
          have T1 := T.cls 30 (x := "Takings")
          refine ⟨_, rfl, am, _, dxm, fsm, v, rfl, hm, T.cls 36 (x := "Machine"), T.noat 48 (x := "Machine") (f := "steps"), lv, _, rfl, x, _, dx, [], rfl, hx, T1, T.noat 38 (x := "Takings") (f := "steps"), by decide, ?_⟩
          refine ⟨_, rfl, _, rfl, x, _, dx, _, rfl, upd_same, T1, T.noat 39 (x := "Takings") (f := "marks"), by show 1 < 1000; decide, ?_⟩
          refine ⟨Nat.zero_le _, fun l hl => ?_⟩
          have nlx : x ≠ l := fun z => by
            subst z
            rw [upd_same] at hl
            cases hl
          have hl0 : H l = none := by
            rw [upd_ne nlx.symm, upd_ne nlx.symm] at hl
            exact hl
          have e2 : putF "marks" uk (putF "steps" v []) = ([("steps", v), ("marks", uk)] : List (Str × V)) := putF_new (fs := [(("steps" : Str), v)]) (by
            intro p hp
            rw [List.mem_singleton.mp hp]
            show ("steps" : Str) ≠ "marks"
            decide +kernel)
          have e3 : putF "entries" (.ref l) (putF "marks" uk (putF "steps" v [])) = ([("steps", v), ("marks", uk), ("entries", .ref l)] : List (Str × V)) := by
            rw [e2]
            refine putF_new (fs := [(("steps" : Str), v), (("marks" : Str), uk)]) ?_
            intro p hp
            rcases List.mem_cons.mp hp with e | hp
            · rw [e]
              show ("steps" : Str) ≠ "entries"
              decide +kernel
            · rw [List.mem_singleton.mp hp]
              show ("marks" : Str) ≠ "entries"
              decide +kernel
          refine ⟨_, rfl, x, _, dx, _, rfl, (by rw [upd_ne nlx]; exact upd_same), T1, T.noat 40 (x := "Takings") (f := "entries"), by rw [e2]; show 2 < 1000; decide, ?_⟩
          have keep : ∀ b o, H b = some o → b ≠ x → (upd (upd (upd (upd H x (.ins (He.ga K "Takings") dx (putF "steps" v []))) x (.ins (He.ga K "Takings") dx (putF "marks" uk (putF "steps" v [])))) l (.lst [])) x (.ins (He.ga K "Takings") dx (putF "entries" (.ref l) (putF "marks" uk (putF "steps" v []))))) b = some o := fun b o hb nb => by
            rw [upd_ne nb, upd_ne (ne_of_none hb hl0), upd_ne nb, upd_ne nb]
            exact hb
          refine q _ _ _ _ (hk l) upd_same ?_ (fun b o e nb => .inl (keep b o e nb)) ⟨fun e he => ?_, by simp⟩ (fun e he => .inr ?_)
          · rw [e3]
            cases rk [] _ (fun b o e nb => .inl (keep b o e nb)) with
            | cons r1 r2 =>
              cases r2 with
              | cons r2 r3 =>
                refine .cons ?_ (.cons r2 (.cons (.obj l) .nil))
                cases r1 with
                | ins h1 rf1 =>
                  have e4 := keep am _ hm nmx
                  rw [e4] at h1
                  have e5 := (HO.ins.inj (Option.some.inj h1)).2.2
                  obtain ⟨v', lv', rv'⟩ := rf1.look (f := "steps") (d := .tup (steps.map (stD K))) (lookS (by decide +kernel) (lookS (by decide +kernel) look0))
                  rw [← e5, lv] at lv'
                  cases lv'
                  exact rv'
          · rw [List.mem_singleton.mp he]
            exact ⟨[], by rw [upd_ne nlx.symm]; exact upd_same, .nil⟩
          · rw [List.mem_singleton.mp he]
            exact hl0
end
end A

set_option Elab.async false
set_option linter.all false
set_option maxRecDepth 100000
set_option maxHeartbeats 4000000
namespace A
open PySem PySem.Spec PyProof.Rows L2
local macro_rules | `(tactic| walk_at "at") => `(tactic| first | exact at0 | exact at1 | exact at2 | exact at3 | exact at4 | exact at5 | exact at6 | exact at7)
local macro_rules | `(tactic| walk_at "fl") => `(tactic| first
  | (with_reducible refine' fl_laid (by assumption) ?_) | (with_reducible refine' fl_goal (by assumption) ?_) | (with_reducible refine' fl_state (by assumption) ?_) | (with_reducible refine' fl_letter (by assumption) ?_)
  | (with_reducible refine' fl_steps (by assumption) ?_) | (with_reducible refine' fl_marks (by assumption) ?_) | (with_reducible refine' fl_entries (by assumption) ?_) | (with_reducible refine' fl_weight (by assumption) ?_) | (with_reducible refine' fl_msteps (by assumption) ?_))
local macro_rules | `(tactic| walk_at "ix") => `(tactic| first
  | (with_reducible refine' ix_en0 ?_) | (with_reducible refine' ix_en1 ?_) | (with_reducible refine' ix_en2 ?_) | (with_reducible refine' ix_en3 ?_) | (with_reducible refine' ix_row0 ?_) | (with_reducible refine' ix_row1 ?_) | (with_reducible refine' ix_mv0 ?_) | (with_reducible refine' ix_mvS ?_) | (with_reducible refine' ix_mvN ?_) | (with_reducible refine' ix_mv1 ?_) | (with_reducible refine' ix_hd0 ?_) | (with_reducible refine' ix_hd1 ?_))
local macro_rules | `(tactic| walk_at "w") => `(tactic| first
  | ((with_reducible refine' we_var ?hvar ?_); (case hvar => rfl))
  | (with_reducible refine' we_int ?_)
  | (with_reducible refine' we_op ?_)
  | (with_reducible refine' wr_add ?_) | (with_reducible refine' wr_sub ?_)
  | ((with_reducible refine' wr_ixT ?hix ?_); (case hix => rfl))
  | ((with_reducible refine' wr_mod ?hmod ?_); (case hmod => first | decide | omega | assumption))
  | ((with_reducible refine' wr_div ?hdiv ?_); (case hdiv => exact ⟨by decide, by decide⟩))
  | (with_reducible refine' wr_eqI ?_) | (with_reducible refine' wr_neI ?_) | (with_reducible refine' wr_lt ?_) | (with_reducible refine' wr_le ?_) | (with_reducible refine' wr_gt ?_) | (with_reducible refine' wr_ge ?_)
  | ((with_reducible refine' isn0 ?hisn ?_); (case hisn => rfl)) | ((with_reducible refine' isn1 ?hisn ?_); (case hisn => rfl)) | ((with_reducible refine' ntn0 ?hisn ?_); (case hisn => rfl)) | ((with_reducible refine' ntn1 ?hisn ?_); (case hisn => rfl))
  | (with_reducible refine' wr_isN ?_) | (with_reducible refine' wr_notN ?_) | (with_reducible refine' wr_eqS ?_)
  | (with_reducible refine' d0n ?_) | (with_reducible refine' d1n ?_) | (with_reducible refine' d0 rfl ?_) | (with_reducible refine' d1 rfl ?_) | (with_reducible refine' bl_intro ?_) | (with_reducible refine' int_intro ?_) | ((with_reducible refine' And.intro ?hlen ?_); (case hlen => exact len_le rfl); try (with_reducible intro _))
  | (walk_at "ix")
  | (with_reducible refine' we_fldP ?_) | (walk_at "fl")
  | (with_reducible refine' we_tup ?_) | (with_reducible refine' we_lst ?_)
  | (with_reducible refine' wa_nil ?_) | (with_reducible refine' wa_cons ?_)
  | (with_reducible refine' we_non ?_) | (with_reducible refine' we_bl ?_) | (with_reducible refine' we_str ?_) | (with_reducible refine' we_ty ?_)
  | (with_reducible refine' we_cb ?_) | (with_reducible refine' wc_lenI ?_) | (with_reducible refine' wc_lenT ?_) | ((with_reducible refine' wc_lenL ?hat ?_); (case hat => walk_at "at"))
  | (with_reducible refine' wc_tupT ?_) | ((with_reducible refine' wc_tupL ?hat ?_); (case hat => walk_at "at"))
  | (with_reducible refine' wc_listT (fun _ => ?_)) | ((with_reducible refine' wc_listL ?hat (fun _ => ?_)); (case hat => walk_at "at"))
  | (with_reducible refine' wt_test ?_) | (with_reducible refine' wt_B ?_) | (with_reducible refine' wt_and ?_) | (with_reducible refine' wt_or ?_) | (with_reducible refine' wt_not ?_) | (with_reducible refine' wt_yes ?_)
  | (with_reducible refine' we_chain ?_) | (with_reducible refine' we_orV ?_) | (with_reducible refine' we_andV ?_) | (with_reducible refine' we_din ?_) | (with_reducible refine' we_neg ?_)
  | (with_reducible refine' we_sl ?_) | (with_reducible refine' wo_no ?_) | (with_reducible refine' wo_part ?_)
  | (with_reducible refine' we_meth ?_) | ((with_reducible refine' tk_intro ?htk ?_); (case htk => decide +kernel)) | (with_reducible refine' we_call ?_)
  | (with_reducible refine' we_app ?_) | (with_reducible refine' we_pop0 ?_)
  | (with_reducible refine' ws_seqA ?_) | (with_reducible refine' ws_seqI ?_) | (with_reducible refine' ws_seqD ?_) | (with_reducible refine' ws_ret ?_) | (with_reducible refine' ws_asgN ?_) | (with_reducible refine' ws_asg ?_) | (with_reducible refine' ws_drop ?_) | (with_reducible refine' ws_if ?_) | (with_reducible refine' ws_nx ?_)
  | (with_reducible refine' ws_seqG ?_) | (with_reducible refine' ws_seqJ ?_)
  | (with_reducible refine' wg_name ?_) | (with_reducible refine' wg_tup rfl ?_) | (with_reducible refine' wg_row ?_) | (with_reducible refine' wg_mv ?_) | (with_reducible refine' wgs_cons ?_) | (with_reducible refine' wgs_nil ?_))
local macro_rules | `(tactic| walk_at "W") => `(tactic| repeat walk_at "w")
local macro_rules | `(tactic| walk_at "sp") => `(tactic| repeat first | exact Split.nil | refine' Split.take ?_ | refine' Split.leave ?_)
theorem Weak.refl : ∀ env : Env, Weak env env
  | [] => True.intro
  | _ :: env => ⟨fun _ h => h, Weak.refl env⟩
theorem ws_drop0 {Γ : G} {t : TS} {E : AE} {env : Env} {M : Mm} (h : WS Γ t E env []) : WS Γ t E env M := ws_weak (Weak.refl env) (List.nil_sublist _) h
section
variable {P : Program} {w : World} {K : PySem.W.Frag} {mg : Str → Option Value} {base : Heap}
theorem we_mkTak {Γ : G} {env : Env} {M : Mm} {tl : TA} {E : XK} {k : D → Mm → Prop} (h : WA Γ tl env M fun ds M1 => ∃ (ns nl : Int) (steps : List Stp) (kvs : List (Key × V)), ds = [macD K ns nl steps, .dk kvs] ∧ ∀ pe, k (takD K steps kvs pe) (M1 ++ [(pe, [])])) :
    WE Γ (tMake (He.ga K "Takings") (spInit (He.ga K "Takings") 2 (preTak K)) [] E tl) env M k := we_make (es := []) (fun _ => .nil) fun σ H o Q hq => h σ H o Q fun ds M1 vs H1 ⟨ns, nl, steps, kvs, e, q⟩ o1 k1 r1 =>
  hq ds M1 vs H1 (by
    subst e
    exact ⟨rfl, [], _, Split.none _, ns, nl, steps, kvs, rfl, rfl, q⟩) o1 k1 r1
theorem takGo_snoc {steps : List Stp} {ms : List Int} : ∀ {rs : List Row} {es : List En} {r : Row}, takGo steps ms es (rs ++ [r]) = (takGo steps ms es rs).bind fun es' => (readRow steps ms es' r).map fun e => es' ++ [e]
  | [], es, r => by
    show (readRow steps ms es r).bind (fun e => some (es ++ [e])) = (readRow steps ms es r).map fun e => es ++ [e]
    cases readRow steps ms es r <;> rfl
  | q :: rs, es, r => by
    show (readRow steps ms es q).bind (fun e => takGo steps ms (es ++ [e]) (rs ++ [r])) = ((readRow steps ms es q).bind fun e => takGo steps ms (es ++ [e]) rs).bind _
    cases readRow steps ms es q with
    | none => rfl
    | some e => exact takGo_snoc (rs := rs)
theorem takGo_none {steps : List Stp} {ms : List Int} : ∀ {rs qs : List Row} {es : List En}, takGo steps ms es rs = none → takGo steps ms es (rs ++ qs) = none
  | [], _, _, h => nomatch h
  | q :: rs, qs, es, h => by
    show (readRow steps ms es q).bind (fun e => takGo steps ms (es ++ [e]) (rs ++ qs)) = none
    have h : (readRow steps ms es q).bind (fun e => takGo steps ms (es ++ [e]) rs) = none := h
    cases z : readRow steps ms es q with
    | none => rfl
    | some e =>
      rw [z] at h
      exact takGo_none (rs := rs) h
theorem take_succ' {α : Type} {xs : List α} {i : Nat} {x : α} (h : xs[i]? = some x) : xs.take (i + 1) = xs.take i ++ [x] := by
  rw [List.take_add_one, h] <;> rfl
def sTakingsOf (K : PySem.W.Frag) : List D → Mm → (D → Mm → Prop) → Prop := fun ds F k => ∃ (ns nl : Int) (steps : List Stp) (kvs : List (Key × V)) (ms : List Int) (rows : List Row), ds = [macD K ns nl steps, .dk kvs, .tup (rows.map rowD)] ∧ F = [] ∧ Marks kvs ms ∧ rows.length < 1000 ∧
  (match takGo steps ms [] rows with
    | none => k .non []
    | some es => ∀ pe, k (takD K steps kvs pe) [(pe, es.map enD)])
theorem scTakingsOf : FnScope ["machine", "marks", "rows", "takings", "row"] ["machine", "marks", "rows"] K69.dTakingsOf.scope := ⟨rfl, rfl, rfl, by decide +kernel, rfl, by decide +kernel, by decide +kernel⟩
theorem ok_takings_of (T : Txt K mg) (oTakingsInit : OkI P w K mg base K69.dTakingsInit 1 ["self", "machine", "marks"] [] (spInit (He.ga K "Takings") 2 (preTak K))) (oTakingsRead : Ok1 P w K mg base K69.dTakingsRead 2 ["self", "row"] (spOf (sRead K))) :
    Ok1 P w K mg base K69.dTakingsOf 3 ["machine", "marks", "rows"] (spOf (sTakingsOf K)) := by
  refine mk_okG (N := ["machine", "marks", "rows", "takings", "row"]) (T.c.def_ 5 (d := K69.dTakingsOf) rfl) scTakingsOf rfl (fun _ _ _ _ _ _ us hl => match us, hl with | [_, _, _], _ => rfl) ?_ (fun cdv A outer s H E hr => ⟨_, (pss_cons (ps_set (i := 3) scTakingsOf.nd rfl (by first | exact Or.inl rfl | exact Or.inr rfl) (pe_mkI oTakingsInit rfl (hr.mono (by decide)) (T.mkr 31) rfl (T.glo 29) (pa_cons (pv 0) (pa_cons (pv 1) pa_nil))))
  (pss_cons (ps_for PassesOwn.never rfl (pi_X (pi_list (pv 2)) (pi_tup (pv 2))) (pg_name (i := 4) scTakingsOf.nd rfl (by first | exact Or.inl rfl | exact Or.inr rfl)) (pss_one (ps_if (pt_not (pt_val (pe_mt oTakingsRead rfl hr (T.cls 30) (T.meth 51) (pv 3) (pa_cons (pv 4) pa_nil)))) (pss_one (ps_ret (pe_non))) pss_nil)))
  (pss_one (ps_ret (pv 3))))), fun ds F k Γ hs hw => ?_⟩)
  · rintro _ _ _ ⟨_, _, _, _, _, _, rfl, _⟩
    rfl
  · obtain ⟨ns, nl, steps, kvs, ms, rows, rfl, rfl, hm, hz, hk⟩ := hs
    change WS _ _ _ [_, _, _, _, _] _; dsimp only [cxOf, Cx.nox, Cx.wish]
    walk_at "W"
    refine we_mkTak ?_
    walk_at "W"
    refine ⟨ns, nl, steps, kvs, rfl, fun pe => ?_⟩
    refine ws_seq (ws_forT (fun i env M => ∃ (es : List En) (a : Option D), takGo steps ms [] (rows.take i) = some es ∧ es.length = i ∧ M = [(pe, es.map enD)] ∧ env = [some (macD K ns nl steps), some (.dk kvs), some (.tup (rows.map rowD)), some (takD K steps kvs pe), a]) ?_)
    walk_at "W"
    refine ⟨_, rfl, ⟨[], none, rfl, rfl, rfl, rfl⟩, ?_, ?_⟩
    · rintro i x env M hx ⟨es, a, he, hl, rfl, rfl⟩
      obtain ⟨r, hr, rfl⟩ := map_get hx
      have hil := (List.getElem?_eq_some_iff.mp hr).1
      walk_at "W"
      refine ⟨[(pe, es.map enD)], [], .take .nil, steps, kvs, ms, pe, es, r, rfl, rfl, hm, by omega, ?_⟩
      cases hr2 : readRow steps ms es r with
      | none =>
        have hn : takGo steps ms [] rows = none := by
          have e := takGo_none (qs := rows.drop (i + 1)) (show takGo steps ms [] (rows.take (i + 1)) = none by
            rw [take_succ' hr, takGo_snoc, he]
            show (readRow steps ms es r).map _ = none
            rw [hr2] <;> rfl)
          rw [List.take_append_drop] at e
          exact e
        rw [hn] at hk
        walk_at "W"
        exact ⟨[], List.nil_sublist _, hk⟩
      | some e =>
        walk_at "W"
        refine ⟨es ++ [e], _, ?_, by simp [hl], rfl, rfl⟩
        rw [take_succ' hr, takGo_snoc, he]
        show (readRow steps ms es r).map _ = _
        rw [hr2] <;> rfl
    · rintro env M ⟨es, a, he, hl, rfl, rfl⟩
      rw [List.length_map, List.take_length] at he
      rw [he] at hk
      walk_at "W"
      exact ⟨_, List.Sublist.refl _, hk pe⟩
theorem walkGo_snoc {steps : List Stp} {ms : List Int} {es : List En} : ∀ {xs : List Mv} {h : Hd} {f : Bool} {m : Mv}, walkGo steps ms es h f (xs ++ [m]) = (walkGo steps ms es h f xs).bind fun r => (moveOf steps ms es m).bind fun t => if t.1 = r.1 then some (t.2.1, r.2 || t.2.2) else none
  | [], h, f, m => rfl
  | q :: xs, h, f, m => by
    show (moveOf steps ms es q).bind (fun t => if t.1 = h then walkGo steps ms es t.2.1 (f || t.2.2) (xs ++ [m]) else none) = ((moveOf steps ms es q).bind fun t => if t.1 = h then walkGo steps ms es t.2.1 (f || t.2.2) xs else none).bind _
    cases moveOf steps ms es q with
    | none => rfl
    | some t =>
      show (if t.1 = h then walkGo steps ms es t.2.1 (f || t.2.2) (xs ++ [m]) else none) = (if t.1 = h then walkGo steps ms es t.2.1 (f || t.2.2) xs else none).bind _
      by_cases e : t.1 = h
      · rw [if_pos e, if_pos e]
        exact walkGo_snoc (xs := xs)
      · rw [if_neg e, if_neg e] <;> rfl
theorem walkGo_none {steps : List Stp} {ms : List Int} {es : List En} : ∀ {xs ys : List Mv} {h : Hd} {f : Bool}, walkGo steps ms es h f xs = none → walkGo steps ms es h f (xs ++ ys) = none
  | [], _, _, _, h => nomatch h
  | q :: xs, ys, h, f, z => by
    show (moveOf steps ms es q).bind (fun t => if t.1 = h then walkGo steps ms es t.2.1 (f || t.2.2) (xs ++ ys) else none) = none
    have z : (moveOf steps ms es q).bind (fun t => if t.1 = h then walkGo steps ms es t.2.1 (f || t.2.2) xs else none) = none := z
    cases hq : moveOf steps ms es q with
    | none => rfl
    | some t =>
      rw [hq] at z
      have z : (if t.1 = h then walkGo steps ms es t.2.1 (f || t.2.2) xs else none) = none := z
      show (if t.1 = h then walkGo steps ms es t.2.1 (f || t.2.2) (xs ++ ys) else none) = none
      by_cases e : t.1 = h
      · rw [if_pos e] at z ⊢
        exact walkGo_none (xs := xs) z
      · rw [if_neg e]
def optW : Option (Hd × Bool) → D := optE fun t => .tup [hdD t.1, .bl t.2]
def sWalk (K : PySem.W.Frag) : List D → Mm → (D → Mm → Prop) → Prop := fun ds F k => ∃ (steps : List Stp) (kvs : List (Key × V)) (ms : List Int) (pe : Addr) (es : List En) (h : Hd) (mv : List Mv), ds = [takD K steps kvs pe, hdD h, .tup (mv.map mvD)] ∧ F = [(pe, es.map enD)] ∧ Marks kvs ms ∧ k (optW (walkGo steps ms es h false mv)) F
theorem wr_neH {Γ : G} {env : Env} {M : Mm} {k : D → Mm → Prop} {a b : Hd} (h : k (.bl (!decide (a = b))) M) : WR Γ (rNeX K) (hdD a) (hdD b) env M k := by
  have e : decide (a = b) = decide ([a.1, a.2] = [b.1, b.2]) := by
    obtain ⟨a1, a2⟩ := a
    obtain ⟨b1, b2⟩ := b
    simp
  rw [e] at h
  exact wr_neT (ns := [a.1, a.2]) (ms := [b.1, b.2]) h
theorem scWalk : FnScope ["takings", "head", "moves", "flag", "pair", "found"] ["takings", "head", "moves"] K69.dWalk.scope := ⟨rfl, rfl, rfl, by decide +kernel, rfl, by decide +kernel, by decide +kernel⟩
theorem ok_walk (T : Txt K mg) (oTakingsMove : Ok1 P w K mg base K69.dTakingsMove 2 ["self", "pair"] (spOf (sMove K))) :
    Ok1 P w K mg base K69.dWalk 3 ["takings", "head", "moves"] (spOf (sWalk K)) := by
  refine mk_ok (N := ["takings", "head", "moves", "flag", "pair", "found"]) (T.c.def_ 7 (d := K69.dWalk) rfl) scWalk rfl (fun _ _ _ _ _ _ us hl => match us, hl with | [_, _, _], _ => rfl) ?_ (fun cdv A outer s H E hr => ⟨_, (pss_cons (ps_set (i := 3) scWalk.nd rfl (by first | exact Or.inl rfl | exact Or.inr rfl) (pe_bl))
  (pss_cons (ps_for PassesOwn.never rfl (pi_X (pi_list (pv 2)) (pi_tup (pv 2))) (pg_name (i := 4) scWalk.nd rfl (by first | exact Or.inl rfl | exact Or.inr rfl)) (pss_cons (ps_set (i := 5) scWalk.nd rfl (by first | exact Or.inl rfl | exact Or.inr rfl) (pe_mt oTakingsMove rfl hr (T.cls 30) (T.meth 52) (pv 0) (pa_cons (pv 4) pa_nil)))
  (pss_cons (ps_if (PW.pt (pw_or (pt_cmpR op_isN (pv 5) pe_non (nomark _)) (pw_or1 (pt_cmpR (op_neX hr.units) (pe_ix ix_seq (pv 5) pe_int (fun _ _ => rfl)) (pv 1) (nomark _))))) (pss_one (ps_ret (pe_non))) pss_nil)
  (pss_cons (ps_set (i := 1) scWalk.nd rfl (by first | exact Or.inl rfl | exact Or.inr rfl) (pe_ix ix_seq (pv 5) pe_int (fun _ _ => rfl)))
  (pss_one (ps_set (i := 3) scWalk.nd rfl (by first | exact Or.inl rfl | exact Or.inr rfl) (pe_or (pv 3) (pe_one (pe_ix ix_seq (pv 5) pe_int (fun _ _ => rfl))))))))))
  (pss_one (ps_ret (pe_tup (pa_cons (pv 1) (pa_cons (pv 3) pa_nil))))))), fun ds F k Γ hs hw => ?_⟩)
  · rintro _ _ _ ⟨_, _, _, _, _, _, _, rfl, _⟩
    rfl
  · obtain ⟨steps, kvs, ms, pe, es, h, mv, rfl, rfl, hm, hk⟩ := hs
    change WS _ _ _ [_, _, _, _, _, _] _; dsimp only [cxOf, Cx.nox, Cx.wish]
    walk_at "W"
    refine ws_seq (ws_forT (fun i env M => ∃ (r : Hd × Bool) (a b : Option D), walkGo steps ms es h false (mv.take i) = some r ∧ M = [(pe, es.map enD)] ∧ env = [some (takD K steps kvs pe), some (hdD r.1), some (.tup (mv.map mvD)), some (.bl r.2), a, b]) ?_)
    walk_at "W"
    refine ⟨_, rfl, ⟨(h, false), none, none, rfl, rfl, rfl⟩, ?_, ?_⟩
    · rintro i x env M hx ⟨r, a, b, he, rfl, rfl⟩
      obtain ⟨m, hmv, rfl⟩ := map_get hx
      have hs := walkGo_snoc (steps := steps) (ms := ms) (es := es) (xs := mv.take i) (h := h) (f := false) (m := m)
      rw [← take_succ' hmv, he, Option.bind_some] at hs
      walk_at "W"
      refine ⟨[(pe, es.map enD)], [], .take .nil, steps, kvs, ms, pe, es, m, rfl, rfl, hm, ?_⟩
      have hn : walkGo steps ms es h false (mv.take (i + 1)) = none → walkGo steps ms es h false mv = none := fun z => by
        have e := walkGo_none (ys := mv.drop (i + 1)) z
        rw [List.take_append_drop] at e
        exact e
      cases hq : moveOf steps ms es m with
      | none =>
        rw [hq] at hs
        rw [hn hs] at hk
        dsimp only [optM, optE]
        walk_at "W"
        exact hk
      | some t =>
        rw [hq, Option.bind_some] at hs
        dsimp only [optM, optE]
        walk_at "W"
        refine wr_neH ?_
        walk_at "W"
        refine din (fun h0 => ?_) (fun h0 => ?_)
        · rw [if_neg h0] at hs
          rw [hn hs] at hk
          walk_at "W"
          exact hk
        · rw [if_pos h0] at hs
          walk_at "W"
          refine ⟨fun hb => ?_, fun hb => ?_⟩
          · exact ⟨_, _, _, hs, rfl, by rw [hb]; rfl⟩
          · walk_at "W"
            exact ⟨_, _, _, hs, rfl, by rw [hb]; rfl⟩
    · rintro env M ⟨r, a, b, he, rfl, rfl⟩
      rw [List.length_map, List.take_length] at he
      rw [he] at hk
      walk_at "W"
      exact hk
end
end A

set_option Elab.async false
set_option linter.all false
set_option maxRecDepth 100000
set_option maxHeartbeats 4000000
namespace A
open PySem PySem.Spec PyProof.Rows L2
local macro_rules | `(tactic| walk_at "at") => `(tactic| first | exact at0 | exact at1 | exact at2 | exact at3 | exact at4 | exact at5 | exact at6 | exact at7)
local macro_rules | `(tactic| walk_at "fl") => `(tactic| first
  | (with_reducible refine' fl_laid (by assumption) ?_) | (with_reducible refine' fl_goal (by assumption) ?_) | (with_reducible refine' fl_state (by assumption) ?_) | (with_reducible refine' fl_letter (by assumption) ?_)
  | (with_reducible refine' fl_steps (by assumption) ?_) | (with_reducible refine' fl_marks (by assumption) ?_) | (with_reducible refine' fl_entries (by assumption) ?_) | (with_reducible refine' fl_weight (by assumption) ?_) | (with_reducible refine' fl_msteps (by assumption) ?_))
local macro_rules | `(tactic| walk_at "ix") => `(tactic| first
  | (with_reducible refine' ix_en0 ?_) | (with_reducible refine' ix_en1 ?_) | (with_reducible refine' ix_en2 ?_) | (with_reducible refine' ix_en3 ?_) | (with_reducible refine' ix_row0 ?_) | (with_reducible refine' ix_row1 ?_) | (with_reducible refine' ix_mv0 ?_) | (with_reducible refine' ix_mvS ?_) | (with_reducible refine' ix_mvN ?_) | (with_reducible refine' ix_mv1 ?_) | (with_reducible refine' ix_hd0 ?_) | (with_reducible refine' ix_hd1 ?_))
local macro_rules | `(tactic| walk_at "w") => `(tactic| first
  | ((with_reducible refine' we_var ?hvar ?_); (case hvar => rfl))
  | (with_reducible refine' we_int ?_)
  | (with_reducible refine' we_op ?_)
  | (with_reducible refine' wr_add ?_) | (with_reducible refine' wr_sub ?_)
  | ((with_reducible refine' wr_ixT ?hix ?_); (case hix => rfl))
  | ((with_reducible refine' wr_mod ?hmod ?_); (case hmod => first | decide | omega | assumption))
  | ((with_reducible refine' wr_div ?hdiv ?_); (case hdiv => exact ⟨by decide, by decide⟩))
  | (with_reducible refine' wr_eqI ?_) | (with_reducible refine' wr_neI ?_) | (with_reducible refine' wr_lt ?_) | (with_reducible refine' wr_le ?_) | (with_reducible refine' wr_gt ?_) | (with_reducible refine' wr_ge ?_)
  | ((with_reducible refine' isn0 ?hisn ?_); (case hisn => rfl)) | ((with_reducible refine' isn1 ?hisn ?_); (case hisn => rfl)) | ((with_reducible refine' ntn0 ?hisn ?_); (case hisn => rfl)) | ((with_reducible refine' ntn1 ?hisn ?_); (case hisn => rfl))
  | (with_reducible refine' wr_isN ?_) | (with_reducible refine' wr_notN ?_) | (with_reducible refine' wr_eqS ?_)
  | (with_reducible refine' d0n ?_) | (with_reducible refine' d1n ?_) | (with_reducible refine' d0 rfl ?_) | (with_reducible refine' d1 rfl ?_) | (with_reducible refine' bl_intro ?_) | (with_reducible refine' int_intro ?_) | ((with_reducible refine' And.intro ?hlen ?_); (case hlen => exact len_le rfl); try (with_reducible intro _))
  | (walk_at "ix")
  | (with_reducible refine' we_fldP ?_) | (walk_at "fl")
  | (with_reducible refine' we_tup ?_) | (with_reducible refine' we_lst ?_)
  | (with_reducible refine' wa_nil ?_) | (with_reducible refine' wa_cons ?_)
  | (with_reducible refine' we_non ?_) | (with_reducible refine' we_bl ?_) | (with_reducible refine' we_str ?_) | (with_reducible refine' we_ty ?_)
  | (with_reducible refine' we_cb ?_) | (with_reducible refine' wc_lenI ?_) | (with_reducible refine' wc_lenT ?_) | ((with_reducible refine' wc_lenL ?hat ?_); (case hat => walk_at "at"))
  | (with_reducible refine' wc_tupT ?_) | ((with_reducible refine' wc_tupL ?hat ?_); (case hat => walk_at "at"))
  | (with_reducible refine' wc_listT (fun _ => ?_)) | ((with_reducible refine' wc_listL ?hat (fun _ => ?_)); (case hat => walk_at "at"))
  | (with_reducible refine' wt_test ?_) | (with_reducible refine' wt_B ?_) | (with_reducible refine' wt_and ?_) | (with_reducible refine' wt_or ?_) | (with_reducible refine' wt_not ?_) | (with_reducible refine' wt_yes ?_)
  | (with_reducible refine' we_chain ?_) | (with_reducible refine' we_orV ?_) | (with_reducible refine' we_andV ?_) | (with_reducible refine' we_din ?_) | (with_reducible refine' we_neg ?_)
  | (with_reducible refine' we_sl ?_) | (with_reducible refine' wo_no ?_) | (with_reducible refine' wo_part ?_)
  | (with_reducible refine' we_meth ?_) | ((with_reducible refine' tk_intro ?htk ?_); (case htk => decide +kernel)) | (with_reducible refine' we_call ?_)
  | (with_reducible refine' we_app ?_) | (with_reducible refine' we_pop0 ?_)
  | (with_reducible refine' ws_seqA ?_) | (with_reducible refine' ws_seqI ?_) | (with_reducible refine' ws_seqD ?_) | (with_reducible refine' ws_ret ?_) | (with_reducible refine' ws_asgN ?_) | (with_reducible refine' ws_asg ?_) | (with_reducible refine' ws_drop ?_) | (with_reducible refine' ws_if ?_) | (with_reducible refine' ws_nx ?_)
  | (with_reducible refine' ws_seqG ?_) | (with_reducible refine' ws_seqJ ?_)
  | (with_reducible refine' wg_name ?_) | (with_reducible refine' wg_tup rfl ?_) | (with_reducible refine' wg_row ?_) | (with_reducible refine' wg_mv ?_) | (with_reducible refine' wgs_cons ?_) | (with_reducible refine' wgs_nil ?_))
local macro_rules | `(tactic| walk_at "W") => `(tactic| repeat walk_at "w")
local macro_rules | `(tactic| walk_at "sp") => `(tactic| repeat first | exact Split.nil | refine' Split.take ?_ | refine' Split.leave ?_)
section
variable {P : Program} {w : World} {K : PySem.W.Frag} {mg : Str → Option Value} {base : Heap}
theorem descGo_snoc {es : List En} : ∀ {zs : List (Int × Int)} {st : Int} {l p : Int}, descGo es st (zs ++ [(l, p)]) = (descGo es st zs).bind fun r => (entryAt es p r l).map fun e => e.g
  | [], st, l, p => by
    show (entryAt es p st l).bind (fun e => some e.g) = (entryAt es p st l).map fun e => e.g
    cases entryAt es p st l <;> rfl
  | (l', p') :: zs, st, l, p => by
    show (entryAt es p' st l').bind (fun e => descGo es e.g (zs ++ [(l, p)])) = ((entryAt es p' st l').bind fun e => descGo es e.g zs).bind _
    cases entryAt es p' st l' with
    | none => rfl
    | some e => exact descGo_snoc (zs := zs)
theorem descGo_none {es : List En} : ∀ {zs ys : List (Int × Int)} {st : Int}, descGo es st zs = none → descGo es st (zs ++ ys) = none
  | [], _, _, h => nomatch h
  | (l, p) :: zs, ys, st, h => by
    show (entryAt es p st l).bind (fun e => descGo es e.g (zs ++ ys)) = none
    have h : (entryAt es p st l).bind (fun e => descGo es e.g zs) = none := h
    cases q : entryAt es p st l with
    | none => rfl
    | some e =>
      rw [q] at h
      exact descGo_none (zs := zs) h
def cfD (st : Int) (pile : List Int) : D := .tup [.int st, tupI pile]
theorem wg_cf {Γ : G} {env : Env} {M : Mm} {st : Int} {pile : List Int} {gs : TGs} {k : Env → Mm → Prop} (h : WGs Γ gs [.int st, tupI pile] env M k) : WG Γ (gTup K 2 gs) (cfD st pile) env M k := wg_tup rfl h
theorem wg_pap {Γ : G} {env : Env} {M : Mm} {p : Paper} {gs : TGs} {k : Env → Mm → Prop} (h : WGs Γ gs [.str "ever", .tup (p.rows.map rowD), tupI p.descent, .tup (p.way.map mvD), .tup (p.ring.map mvD)] env M k) : WG Γ (gTup K 5 gs) (papD p) env M k := wg_tup rfl h
def sHeadBehind (K : PySem.W.Frag) : List D → Mm → (D → Mm → Prop) → Prop := fun ds F k => ∃ (steps : List Stp) (kvs : List (Key × V)) (pe : Addr) (es : List En) (st : Int) (pile dsc : List Int), ds = [takD K steps kvs pe, cfD st pile, tupI dsc] ∧ F = [(pe, es.map enD)] ∧ k (optE hdD (headBehind es st pile dsc)) F
theorem scHeadBehind : FnScope ["takings", "configuration", "descent", "state", "pile", "letter", "index", "found"] ["takings", "configuration", "descent"] K69.dHeadBehind.scope := ⟨rfl, rfl, rfl, by decide +kernel, rfl, by decide +kernel, by decide +kernel⟩
theorem ok_head_behind (T : Txt K mg) (oTakingsEntry : Ok1 P w K mg base K69.dTakingsEntry 1 ["self", "index", "state", "letter"] (spOf (sEntry K))) :
    Ok1 P w K mg base K69.dHeadBehind 2 ["takings", "configuration", "descent"] (spOf (sHeadBehind K)) := by
  refine mk_ok (N := ["takings", "configuration", "descent", "state", "pile", "letter", "index", "found"]) (T.c.def_ 6 (d := K69.dHeadBehind) rfl) scHeadBehind rfl (fun _ _ _ _ _ _ us hl => match us, hl with | [_, _, _], _ => rfl) ?_ (fun cdv A outer s H E hr => ⟨_, (pss_cons (ps_asg (pv 1) (pg_tup (n := 2) rfl (pgs_cons (pg_name (i := 3) scHeadBehind.nd rfl (by first | exact Or.inl rfl | exact Or.inr rfl)) (pgs_cons (pg_name (i := 4) scHeadBehind.nd rfl (by first | exact Or.inl rfl | exact Or.inr rfl)) pgs_nil))))
  (pss_cons (ps_if (pt_cmpR op_ge (pe_callB call_lenX (by rfl) (T.free 53) (by decide +kernel) (pa_cons (pv 2) pa_nil)) (pe_callB call_lenX (by rfl) (T.free 53) (by decide +kernel) (pa_cons (pv 4) pa_nil)) (nomark _)) (pss_one (ps_ret (pe_non))) pss_nil)
  (pss_cons (ps_for PassesOwn.never rfl (RZ.pi_zipA (by rfl) (T.free 59) (pa_cons (pv 4) (pa_cons (pv 2) pa_nil))) (pg_tup (n := 2) rfl (pgs_cons (pg_name (i := 5) scHeadBehind.nd rfl (by first | exact Or.inl rfl | exact Or.inr rfl)) (pgs_cons (pg_name (i := 6) scHeadBehind.nd rfl (by first | exact Or.inl rfl | exact Or.inr rfl)) pgs_nil))) (pss_cons (ps_set (i := 7) scHeadBehind.nd rfl (by first | exact Or.inl rfl | exact Or.inr rfl) (pe_mt oTakingsEntry rfl hr (T.cls 30) (T.meth 50) (pv 0) (pa_cons (pv 6) (pa_cons (pv 3) (pa_cons (pv 5) pa_nil)))))
  (pss_cons (ps_if (pt_cmpR op_isN (pv 7) pe_non (nomark _)) (pss_one (ps_ret (pe_non))) pss_nil)
  (pss_one (ps_set (i := 3) scHeadBehind.nd rfl (by first | exact Or.inl rfl | exact Or.inr rfl) (pe_ix ix_seq (pv 7) pe_int (fun _ _ => rfl)))))))
  (pss_one (ps_ret (pe_tup (pa_cons (pv 3) (pa_cons (pe_ix ix_seq (pv 4) (pe_callB call_lenX (by rfl) (T.free 53) (by decide +kernel) (pa_cons (pv 2) pa_nil)) (fun _ _ => rfl)) pa_nil)))))))), fun ds F k Γ hs hw => ?_⟩)
  · rintro _ _ _ ⟨_, _, _, _, _, _, _, rfl, _⟩
    rfl
  · obtain ⟨steps, kvs, pe, es, st, pile, dsc, rfl, rfl, hk⟩ := hs
    change WS _ _ _ [_, _, _, _, _, _, _, _] _; dsimp only [cxOf, Cx.nox, Cx.wish]
    unfold headBehind at hk
    walk_at "W"
    refine wg_cf ?_
    walk_at "W"
    refine di (fun h0 => ?_) (fun h0 => ?_)
    · walk_at "W"
      rw [List.getElem?_eq_none (by omega)] at hk
      exact hk
    · have hl : dsc.length < pile.length := by omega
      have hp : pile[dsc.length]? = some pile[dsc.length] := List.getElem?_eq_getElem hl
      rw [hp] at hk
      dsimp only at hk
      refine ws_seq (ws_forZ (fun i env M => ∃ (z : Int) (a b c : Option D), descGo es st ((pile.zip dsc).take i) = some z ∧ M = [(pe, es.map enD)] ∧
          env = [some (takD K steps kvs pe), some (cfD st pile), some (tupI dsc), some (.int z), some (tupI pile), a, b, c]) ?_)
      walk_at "W"
      refine ⟨_, _, rfl, ⟨st, none, none, none, rfl, rfl, rfl⟩, ?_, ?_⟩
      · rintro i x y env M hx hy ⟨z, a, b, c, hz, rfl, rfl⟩
        obtain ⟨l, hl, rfl⟩ := map_get hx
        obtain ⟨p, hp, rfl⟩ := map_get hy
        have hs := descGo_snoc (es := es) (zs := (pile.zip dsc).take i) (st := st) (l := l) (p := p)
        rw [← zip_at hl hp, hz, Option.bind_some] at hs
        walk_at "W"
        refine ⟨[(pe, es.map enD)], [], .take .nil, steps, kvs, pe, es, p, z, l, rfl, rfl, ?_⟩
        cases he : entryAt es p z l with
        | none =>
          rw [he] at hs
          have hn : descGo es st (pile.zip dsc) = none := by
            have e := descGo_none (ys := (pile.zip dsc).drop (i + 1)) hs
            rw [List.take_append_drop] at e
            exact e
          rw [hn] at hk
          dsimp only [optE]
          walk_at "W"
          exact hk
        | some e =>
          rw [he] at hs
          dsimp only [optE]
          walk_at "W"
          exact ⟨_, _, _, _, hs, rfl, rfl⟩
      · rintro env M ⟨z, a, b, c, hz, rfl, rfl⟩
        have hl2 : min (pile.map D.int).length (dsc.map D.int).length = (pile.zip dsc).length := by simp
        rw [hl2, List.take_length] at hz
        rw [hz] at hk
        walk_at "W"
        refine wr_ixT (d := .int pile[dsc.length]) (atI_map (by omega) (by rw [Int.toNat_natCast]; exact hp)) ?_
        walk_at "W"
        exact hk
theorem wr_eqW {Γ : G} {env : Env} {M : Mm} {k : D → Mm → Prop} {o : Option (Hd × Bool)} {h : Hd} (q : k (.bl (decide (o = some (h, true)))) M) : WR Γ (rEqX K) (optW o) (.tup [hdD h, .bl true]) env M k := by
  cases o with
  | none => exact wr_eqD (x := .non) rfl rfl rfl rfl q
  | some t =>
    obtain ⟨⟨a, b⟩, f⟩ := t
    obtain ⟨c, d⟩ := h
    refine wr_eqD rfl rfl rfl rfl ?_
    have e : decide (some ((a, b), f) = some ((c, d), true)) = (((a == c) && ((b == d) && true)) && ((f == true) && true)) := by
      by_cases h1 : a = c <;> by_cases h2 : b = d <;> cases f <;> simp [h1, h2]
    rw [e] at q
    exact q
def sShowsEver (K : PySem.W.Frag) : List D → Mm → (D → Mm → Prop) → Prop := fun ds F k => ∃ (ns nl : Int) (steps : List Stp) (kvs : List (Key × V)) (ms : List Int) (st : Int) (pile : List Int) (p : Paper), ds = [macD K ns nl steps, .dk kvs, cfD st pile, papD p] ∧ F = [] ∧ Marks kvs ms ∧ p.rows.length < 1000 ∧ k (.bl (shows steps ms st pile p)) []
theorem scShowsEver : FnScope ["machine", "marks", "configuration", "paper", "_", "rows", "descent", "way", "ring", "takings", "head", "reached"] ["machine", "marks", "configuration", "paper"] K69.dShowsEver.scope := ⟨rfl, rfl, rfl, by decide +kernel, rfl, by decide +kernel, by decide +kernel⟩
theorem ok_shows_ever (T : Txt K mg) (oTakingsOf : Ok1 P w K mg base K69.dTakingsOf 3 ["machine", "marks", "rows"] (spOf (sTakingsOf K))) (oHeadBehind : Ok1 P w K mg base K69.dHeadBehind 2 ["takings", "configuration", "descent"] (spOf (sHeadBehind K)))
    (oWalk : Ok1 P w K mg base K69.dWalk 3 ["takings", "head", "moves"] (spOf (sWalk K))) :
    Ok1 P w K mg base K69.dShowsEver 4 ["machine", "marks", "configuration", "paper"] (spOf (sShowsEver K)) := by
  refine mk_okG (N := ["machine", "marks", "configuration", "paper", "_", "rows", "descent", "way", "ring", "takings", "head", "reached"]) (T.c.def_ 8 (d := K69.dShowsEver) rfl) scShowsEver rfl (fun _ _ _ _ _ _ us hl => match us, hl with | [_, _, _, _], _ => rfl) ?_ (fun cdv A outer s H E hr => ⟨_, (pss_cons (ps_asg (pv 3) (pg_tup (n := 5) rfl (pgs_cons (pg_name (i := 4) scShowsEver.nd rfl (by first | exact Or.inl rfl | exact Or.inr rfl)) (pgs_cons (pg_name (i := 5) scShowsEver.nd rfl (by first | exact Or.inl rfl | exact Or.inr rfl)) (pgs_cons (pg_name (i := 6) scShowsEver.nd rfl (by first | exact Or.inl rfl | exact Or.inr rfl)) (pgs_cons (pg_name (i := 7) scShowsEver.nd rfl (by first | exact Or.inl rfl | exact Or.inr rfl)) (pgs_cons (pg_name (i := 8) scShowsEver.nd rfl (by first | exact Or.inl rfl | exact Or.inr rfl)) pgs_nil)))))))
  (pss_cons (ps_set (i := 9) scShowsEver.nd rfl (by first | exact Or.inl rfl | exact Or.inr rfl) (pe_fn oTakingsOf rfl hr rfl (T.glo 0) (pa_cons (pv 0) (pa_cons (pv 1) (pa_cons (pv 5) pa_nil)))))
  (pss_cons (ps_if (pt_cmpR op_isN (pv 9) pe_non (nomark _)) (pss_one (ps_ret (pe_bl))) pss_nil)
  (pss_cons (ps_set (i := 10) scShowsEver.nd rfl (by first | exact Or.inl rfl | exact Or.inr rfl) (pe_fn oHeadBehind rfl (hr.mono (by decide)) rfl (T.glo 1) (pa_cons (pv 9) (pa_cons (pv 2) (pa_cons (pv 6) pa_nil)))))
  (pss_cons (ps_if (pt_cmpR op_isN (pv 10) pe_non (nomark _)) (pss_one (ps_ret (pe_bl))) pss_nil)
  (pss_cons (ps_set (i := 11) scShowsEver.nd rfl (by first | exact Or.inl rfl | exact Or.inr rfl) (pe_fn oWalk rfl hr rfl (T.glo 2) (pa_cons (pv 9) (pa_cons (pv 10) (pa_cons (pv 7) pa_nil)))))
  (pss_cons (ps_if (pt_cmpR op_isN (pv 11) pe_non (nomark _)) (pss_one (ps_ret (pe_bl))) pss_nil)
  (pss_one (ps_ret (pe_cmpR (op_eqX hr.units) (pe_fn oWalk rfl hr rfl (T.glo 2) (pa_cons (pv 9) (pa_cons (pe_ix ix_seq (pv 11) pe_int (fun _ _ => rfl)) (pa_cons (pv 8) pa_nil)))) (pe_tup (pa_cons (pe_ix ix_seq (pv 11) pe_int (fun _ _ => rfl)) (pa_cons pe_bl pa_nil))) (nomark _))))))))))), fun ds F k Γ hs hw => ?_⟩)
  · rintro _ _ _ ⟨_, _, _, _, _, _, _, _, rfl, _⟩
    rfl
  · obtain ⟨ns, nl, steps, kvs, ms, st, pile, p, rfl, rfl, hm, hz, hk⟩ := hs
    change WS _ _ _ [_, _, _, _, _, _, _, _, _, _, _, _] _; dsimp only [cxOf, Cx.nox, Cx.wish]
    unfold shows at hk
    walk_at "W"
    refine wg_pap ?_
    walk_at "W"
    refine ⟨[], _, Split.none _, ns, nl, steps, kvs, ms, p.rows, rfl, rfl, hm, hz, ?_⟩
    cases ht : takGo steps ms [] p.rows with
    | none =>
      rw [ht] at hk
      dsimp only
      walk_at "W"
      exact ⟨_, List.Sublist.refl _, hk⟩
    | some es =>
      rw [ht] at hk
      dsimp only at hk ⊢
      intro pe
      walk_at "W"
      refine ⟨[(pe, es.map enD)], [], .take .nil, steps, kvs, pe, es, st, pile, p.descent, rfl, rfl, ?_⟩
      cases hh : headBehind es st pile p.descent with
      | none =>
        rw [hh] at hk
        dsimp only [optE]
        walk_at "W"
        exact ⟨_, List.nil_sublist _, hk⟩
      | some h =>
        rw [hh] at hk
        dsimp only [optE] at hk ⊢
        walk_at "W"
        refine ⟨[(pe, es.map enD)], [], .take .nil, steps, kvs, ms, pe, es, h, p.way, rfl, rfl, hm, ?_⟩
        cases hw2 : walkGo steps ms es h false p.way with
        | none =>
          rw [hw2] at hk
          dsimp only [optW, optE]
          walk_at "W"
          exact ⟨_, List.nil_sublist _, hk⟩
        | some r =>
          rw [hw2] at hk
          dsimp only [optW, optE] at hk ⊢
          walk_at "W"
          refine ⟨[(pe, es.map enD)], [], .take .nil, steps, kvs, ms, pe, es, r.1, p.ring, rfl, rfl, hm, ?_⟩
          walk_at "W"
          refine wr_eqW ?_
          exact ⟨_, List.nil_sublist _, hk⟩
end
end A

set_option Elab.async false
set_option linter.all false
set_option maxRecDepth 100000
set_option maxHeartbeats 4000000
namespace A
open PySem PySem.Spec PyProof.Rows L2
local macro_rules | `(tactic| walk_at "at") => `(tactic| first | exact at0 | exact at1 | exact at2 | exact at3 | exact at4 | exact at5 | exact at6 | exact at7)
local macro_rules | `(tactic| walk_at "fl") => `(tactic| first
  | (with_reducible refine' fl_laid (by assumption) ?_) | (with_reducible refine' fl_goal (by assumption) ?_) | (with_reducible refine' fl_state (by assumption) ?_) | (with_reducible refine' fl_letter (by assumption) ?_)
  | (with_reducible refine' fl_steps (by assumption) ?_) | (with_reducible refine' fl_marks (by assumption) ?_) | (with_reducible refine' fl_entries (by assumption) ?_) | (with_reducible refine' fl_weight (by assumption) ?_) | (with_reducible refine' fl_msteps (by assumption) ?_))
local macro_rules | `(tactic| walk_at "ix") => `(tactic| first
  | (with_reducible refine' ix_en0 ?_) | (with_reducible refine' ix_en1 ?_) | (with_reducible refine' ix_en2 ?_) | (with_reducible refine' ix_en3 ?_) | (with_reducible refine' ix_row0 ?_) | (with_reducible refine' ix_row1 ?_) | (with_reducible refine' ix_mv0 ?_) | (with_reducible refine' ix_mvS ?_) | (with_reducible refine' ix_mvN ?_) | (with_reducible refine' ix_mv1 ?_) | (with_reducible refine' ix_hd0 ?_) | (with_reducible refine' ix_hd1 ?_))
local macro_rules | `(tactic| walk_at "w") => `(tactic| first
  | ((with_reducible refine' we_var ?hvar ?_); (case hvar => rfl))
  | (with_reducible refine' we_int ?_)
  | (with_reducible refine' we_op ?_)
  | (with_reducible refine' wr_add ?_) | (with_reducible refine' wr_sub ?_)
  | ((with_reducible refine' wr_ixT ?hix ?_); (case hix => rfl))
  | ((with_reducible refine' wr_mod ?hmod ?_); (case hmod => first | decide | omega | assumption))
  | ((with_reducible refine' wr_div ?hdiv ?_); (case hdiv => exact ⟨by decide, by decide⟩))
  | (with_reducible refine' wr_eqI ?_) | (with_reducible refine' wr_neI ?_) | (with_reducible refine' wr_lt ?_) | (with_reducible refine' wr_le ?_) | (with_reducible refine' wr_gt ?_) | (with_reducible refine' wr_ge ?_)
  | ((with_reducible refine' isn0 ?hisn ?_); (case hisn => rfl)) | ((with_reducible refine' isn1 ?hisn ?_); (case hisn => rfl)) | ((with_reducible refine' ntn0 ?hisn ?_); (case hisn => rfl)) | ((with_reducible refine' ntn1 ?hisn ?_); (case hisn => rfl))
  | (with_reducible refine' wr_isN ?_) | (with_reducible refine' wr_notN ?_) | (with_reducible refine' wr_eqS ?_)
  | (with_reducible refine' d0n ?_) | (with_reducible refine' d1n ?_) | (with_reducible refine' d0 rfl ?_) | (with_reducible refine' d1 rfl ?_) | (with_reducible refine' bl_intro ?_) | (with_reducible refine' int_intro ?_) | ((with_reducible refine' And.intro ?hlen ?_); (case hlen => exact len_le rfl); try (with_reducible intro _))
  | (walk_at "ix")
  | (with_reducible refine' we_fldP ?_) | (walk_at "fl")
  | (with_reducible refine' we_tup ?_) | (with_reducible refine' we_lst ?_)
  | (with_reducible refine' wa_nil ?_) | (with_reducible refine' wa_cons ?_)
  | (with_reducible refine' we_non ?_) | (with_reducible refine' we_bl ?_) | (with_reducible refine' we_str ?_) | (with_reducible refine' we_ty ?_)
  | (with_reducible refine' we_cb ?_) | (with_reducible refine' wc_lenI ?_) | (with_reducible refine' wc_lenT ?_) | ((with_reducible refine' wc_lenL ?hat ?_); (case hat => walk_at "at"))
  | (with_reducible refine' wc_tupT ?_) | ((with_reducible refine' wc_tupL ?hat ?_); (case hat => walk_at "at"))
  | (with_reducible refine' wc_listT (fun _ => ?_)) | ((with_reducible refine' wc_listL ?hat (fun _ => ?_)); (case hat => walk_at "at"))
  | (with_reducible refine' wt_test ?_) | (with_reducible refine' wt_B ?_) | (with_reducible refine' wt_and ?_) | (with_reducible refine' wt_or ?_) | (with_reducible refine' wt_not ?_) | (with_reducible refine' wt_yes ?_)
  | (with_reducible refine' we_chain ?_) | (with_reducible refine' we_orV ?_) | (with_reducible refine' we_andV ?_) | (with_reducible refine' we_din ?_) | (with_reducible refine' we_neg ?_)
  | (with_reducible refine' we_sl ?_) | (with_reducible refine' wo_no ?_) | (with_reducible refine' wo_part ?_)
  | (with_reducible refine' we_meth ?_) | ((with_reducible refine' tk_intro ?htk ?_); (case htk => decide +kernel)) | (with_reducible refine' we_call ?_)
  | (with_reducible refine' we_app ?_) | (with_reducible refine' we_pop0 ?_)
  | (with_reducible refine' ws_seqA ?_) | (with_reducible refine' ws_seqI ?_) | (with_reducible refine' ws_seqD ?_) | (with_reducible refine' ws_ret ?_) | (with_reducible refine' ws_asgN ?_) | (with_reducible refine' ws_asg ?_) | (with_reducible refine' ws_drop ?_) | (with_reducible refine' ws_if ?_) | (with_reducible refine' ws_nx ?_)
  | (with_reducible refine' ws_seqG ?_) | (with_reducible refine' ws_seqJ ?_)
  | (with_reducible refine' wg_name ?_) | (with_reducible refine' wg_tup rfl ?_) | (with_reducible refine' wg_row ?_) | (with_reducible refine' wg_mv ?_) | (with_reducible refine' wgs_cons ?_) | (with_reducible refine' wgs_nil ?_))
local macro_rules | `(tactic| walk_at "W") => `(tactic| repeat walk_at "w")
local macro_rules | `(tactic| walk_at "sp") => `(tactic| repeat first | exact Split.nil | refine' Split.take ?_ | refine' Split.leave ?_)
section
variable {P : Program} {w : World} {K : PySem.W.Frag} {mg : Str → Option Value} {base : Heap}
def sTakesEndless (K : PySem.W.Frag) : List D → Mm → (D → Mm → Prop) → Prop := fun ds F k => ∃ (ns nl : Int) (steps : List Stp) (ms : List Int) (st : Int) (pile : List Int) (p : Paper), ds = [macD K ns nl steps, tupI ms, cfD st pile, .bl true, papD p] ∧ F = [] ∧ ms.length < 1000 ∧ p.rows.length < 1000 ∧ k (.bl (shows steps ms st pile p)) []
theorem ix_pap0 {Γ : G} {env : Env} {M : Mm} {k : D → Mm → Prop} {p : Paper} (h : k (.str "ever") M) : WR Γ (rIx K) (papD p) (.int 0) env M k := wr_ixT rfl h
theorem scTakesEndless : FnScope ["machine", "marked", "configuration", "verdict", "paper", "marks", "index"] ["machine", "marked", "configuration", "verdict", "paper"] K69.dTakesEndless.scope := ⟨rfl, rfl, rfl, by decide +kernel, rfl, by decide +kernel, by decide +kernel⟩
theorem ok_takes_endless (T : Txt K mg) (oShowsEver : Ok1 P w K mg base K69.dShowsEver 4 ["machine", "marks", "configuration", "paper"] (spOf (sShowsEver K))) :
    Ok1 P w K mg base K69.dTakesEndless 5 ["machine", "marked", "configuration", "verdict", "paper"] (spOf (sTakesEndless K)) := by
  refine mk_ok (N := ["machine", "marked", "configuration", "verdict", "paper", "marks", "index"]) (T.c.def_ 9 (d := K69.dTakesEndless) rfl) scTakesEndless rfl (fun _ _ _ _ _ _ us hl => match us, hl with | [_, _, _, _, _], _ => rfl) ?_ (fun cdv A outer s H E hr => ⟨_, (pss_cons (ps_setDc (i := 5) (own := [("index", 6)]) (g := gName 6) rfl scTakesEndless.nd rfl rfl (sw_trueD rfl rfl rfl (by decide +kernel)) (pi_X (pi_list (pv 1)) (pi_tup (pv 1))) (blkOk_by (own := [("index", 6)]) (N := ["machine", "marked", "configuration", "verdict", "paper", "marks", "index"]) (sc := K69.dTakesEndless.scope) (by decide +kernel)) (fun _ _ _ _ _ => pg_name (i := 6) scTakesEndless.nd rfl (Or.inl rfl)) (fun _ _ _ _ _ => pts_nil) (fun _ _ _ _ _ => pv 6) (fun _ _ _ _ _ => pe_bl)) (pss_cons (ps_if (pt_cmpR (op_eqX hr.units) (pe_ix ix_seq (pv 4) pe_int (fun _ _ => rfl)) pe_str (nomark _)) (pss_one (ps_ret (pe_and (pv 3) (pe_one (pe_fn oShowsEver rfl hr rfl (T.glo 3) (pa_cons (pv 0) (pa_cons (pv 5) (pa_cons (pv 2) (pa_cons (pv 4) pa_nil))))))))) pss_nil) pss_never)), fun ds F k Γ hs hw => ?_⟩)
  · rintro _ _ _ ⟨_, _, _, _, _, _, _, rfl, _⟩
    rfl
  · obtain ⟨ns, nl, steps, ms, st, pile, p, rfl, rfl, hz, hz2, hk⟩ := hs
    change WS _ _ _ [_, _, _, _, _, _, _] _; dsimp only [cxOf, Cx.nox, Cx.wish]
    walk_at "W"
    refine we_marks (by show 6 < 7; decide) ?_
    walk_at "W"
    refine ⟨ms, rfl, Nat.lt_trans hz (by decide), fun kvs hm => ?_⟩
    walk_at "W"
    refine ix_pap0 ?_
    walk_at "W"
    refine ⟨[], _, Split.none _, ns, nl, steps, kvs, ms, st, pile, p, rfl, rfl, hm, hz2, ?_⟩
    exact hk
end
end A

set_option Elab.async false
set_option linter.all false
set_option maxRecDepth 100000
set_option maxHeartbeats 4000000
/-! Choosing and ordering the lists that are kept in view. -/
namespace A
open PySem PySem.Spec PyProof.Rows L2
def pickM (idx : List Nat) (M : Mm) : Mm := idx.filterMap fun i => M[i]?
theorem pick_mem {idx : List Nat} {M : Mm} {e : Addr × List D} (h : e ∈ pickM idx M) : e ∈ M := by
  obtain ⟨i, _, hi⟩ := List.mem_filterMap.mp h
  exact List.mem_of_getElem? hi
theorem pick_nd {idx : List Nat} {M : Mm} (hn : idx.Nodup) (hm : (M.map (·.1)).Nodup) : ((pickM idx M).map (·.1)).Nodup := by
  unfold pickM List.Nodup
  rw [List.pairwise_map, List.pairwise_filterMap]
  refine List.Pairwise.imp ?_ hn
  intro i j hij a ha b hb e
  have h1 : (M.map (·.1))[i]? = some a.1 := by rw [List.getElem?_map, ha] <;> rfl
  have h2 : (M.map (·.1))[j]? = some b.1 := by rw [List.getElem?_map, hb] <;> rfl
  obtain ⟨l1, e1⟩ := List.getElem?_eq_some_iff.mp h1
  obtain ⟨l2, e2⟩ := List.getElem?_eq_some_iff.mp h2
  exact hij ((List.getElem_inj hm).mp (e1.trans (e.trans e2.symm)))
theorem Ok.pick {Γ : G} {env : Env} {M : Mm} {σ : L2.St} {H : Hp} {idx : List Nat} (o : Ok Γ env M σ H) (hn : idx.Nodup) : Ok Γ env (pickM idx M) σ H :=
  ⟨o.env, ⟨fun e he => o.mem.at_ e (pick_mem he), pick_nd hn o.mem.nd⟩, fun e he => o.own e (pick_mem he), o.fr⟩
theorem ws_pick (idx : List Nat) {Γ : G} {t : TS} {E : AE} {env : Env} {M : Mm} (hn : idx.Nodup) (h : WS Γ t E env (pickM idx M)) : WS Γ t E env M := fun σ H Dn o l => h σ H Dn (o.pick hn) l
theorem we_pick (idx : List Nat) {Γ : G} {env : Env} {M : Mm} {te : TE} {k : D → Mm → Prop} (hn : idx.Nodup) (h : WE Γ te env (pickM idx M) k) : WE Γ te env M k := fun σ H o Q hq => h σ H (o.pick hn) Q hq
theorem we_pickE {Γ : G} {env : Env} {M : Mm} {te : TE} {k : D → Mm → Prop} (h : WE Γ te env M fun d M1 => ∃ idx : List Nat, idx.Nodup ∧ k d (pickM idx M1)) : WE Γ te env M k := fun σ H o Q hq =>
  h σ H o Q fun d M1 v H1 ⟨idx, hn, q⟩ o1 k1 r1 => hq d _ v H1 q (o1.pick hn) k1 r1
theorem ws_pickE {Γ : G} {t : TS} {E : AE} {env : Env} {M : Mm} (h : WS Γ t { E with nx := fun env' M' => ∃ idx : List Nat, idx.Nodup ∧ E.nx env' (pickM idx M') } env M) : WS Γ t E env M := fun σ H Dn o l =>
  h σ H Dn o ⟨fun env' M' σ' H' ⟨idx, hn, q⟩ o' k' => l.nx _ _ _ _ q (o'.pick hn) k', l.rt, l.bk, l.ct⟩
theorem atI_nat {α : Type} {xs : List α} {f : α → D} {i : Int} {j : Nat} {x : α} (e : i = (j : Int)) (h : xs[j]? = some x) : atI (xs.map f) i = some (f x) := by
  subst e
  exact atI_map (by omega) (by rw [Int.toNat_natCast]; exact h)
theorem get_lt {α : Type} {xs : List α} {i : Nat} (h : i < xs.length) : ∃ x, xs[i]? = some x := ⟨_, List.getElem?_eq_getElem h⟩
end A

set_option Elab.async false
set_option linter.all false
set_option maxRecDepth 100000
set_option maxHeartbeats 4000000
/-! What the law's own look computes, plainly. -/
namespace A
open PySem PySem.Spec PyProof.Rows L2
def Bd : Nat := 4194303
def runParts (acc : List (List Int)) : List Int → List Int → Option (List Int)
  | run, [] => some run
  | run, p :: ps => if 0 ≤ p ∧ p < acc.length then (acc[p.toNat]?).bind fun u => runParts acc (run ++ u) ps else none
def runsGo : List (List Int) → List Row → Option (List (List Int))
  | acc, [] => some acc
  | acc, r :: rs => (runParts acc [r.1] r.2).bind fun u => runsGo (acc ++ [u]) rs
def runOf (R : List (List Int)) : List Int → List Mv → Option (List Int)
  | run, [] => some run
  | run, m :: ms => match m.2 with
    | none => runOf R (run ++ [m.1]) ms
    | some p => if 0 ≤ p ∧ p < R.length then (R[p.toNat]?).bind fun u => runOf R (run ++ [m.1] ++ u) ms else none
def folGo (steps : List Stp) : Int → List Int → List Int → Option (Int × List Int)
  | st, pile, [] => some (st, pile)
  | st, pile, i :: r => (stepAt steps i).bind fun s => match pile with
    | [] => none
    | l :: rest => if s.state = st ∧ s.letter = l then folGo steps s.goal (s.laid ++ rest) r else none
def behGo (steps : List Stp) (R : List (List Int)) : Int → List Int → List Int → Option (Int × List Int)
  | st, pile, [] => some (st, pile)
  | st, pile, i :: r => if 0 ≤ i ∧ i < R.length then (R[i.toNat]?).bind fun u => (folGo steps st pile u).bind fun c => behGo steps R c.1 c.2 r else none
def lsD (s : Stp) : D := .tup [.int s.state, .int s.letter, .int s.goal, tupI s.laid]
theorem runParts_snoc {acc : List (List Int)} : ∀ {ps run : List Int} {p : Int}, runParts acc run (ps ++ [p]) = (runParts acc run ps).bind fun r => if 0 ≤ p ∧ p < acc.length then (acc[p.toNat]?).map fun u => r ++ u else none
  | [], run, p => by
    show (if 0 ≤ p ∧ p < acc.length then (acc[p.toNat]?).bind fun u => some (run ++ u) else none) = _
    show _ = if 0 ≤ p ∧ p < acc.length then (acc[p.toNat]?).map fun u => run ++ u else none
    cases acc[p.toNat]? <;> rfl
  | q :: ps, run, p => by
    show (if 0 ≤ q ∧ q < acc.length then (acc[q.toNat]?).bind fun u => runParts acc (run ++ u) (ps ++ [p]) else none) = (if 0 ≤ q ∧ q < acc.length then (acc[q.toNat]?).bind fun u => runParts acc (run ++ u) ps else none).bind _
    by_cases h : 0 ≤ q ∧ q < acc.length
    · rw [if_pos h, if_pos h]
      cases acc[q.toNat]? with
      | none => rfl
      | some u => exact runParts_snoc (ps := ps)
    · rw [if_neg h, if_neg h] <;> rfl
theorem runParts_none {acc : List (List Int)} : ∀ {ps qs run : List Int}, runParts acc run ps = none → runParts acc run (ps ++ qs) = none
  | [], _, _, h => nomatch h
  | q :: ps, qs, run, z => by
    show (if 0 ≤ q ∧ q < acc.length then (acc[q.toNat]?).bind fun u => runParts acc (run ++ u) (ps ++ qs) else none) = none
    have z : (if 0 ≤ q ∧ q < acc.length then (acc[q.toNat]?).bind fun u => runParts acc (run ++ u) ps else none) = none := z
    by_cases h : 0 ≤ q ∧ q < acc.length
    · rw [if_pos h] at z ⊢
      cases e : acc[q.toNat]? with
      | none => rfl
      | some u =>
        rw [e] at z
        exact runParts_none (ps := ps) z
    · rw [if_neg h]
theorem runsGo_snoc : ∀ {rs : List Row} {acc : List (List Int)} {r : Row}, runsGo acc (rs ++ [r]) = (runsGo acc rs).bind fun a => (runParts a [r.1] r.2).map fun u => a ++ [u]
  | [], acc, r => by
    show (runParts acc [r.1] r.2).bind (fun u => some (acc ++ [u])) = _
    show _ = (runParts acc [r.1] r.2).map fun u => acc ++ [u]
    cases runParts acc [r.1] r.2 <;> rfl
  | q :: rs, acc, r => by
    show (runParts acc [q.1] q.2).bind (fun u => runsGo (acc ++ [u]) (rs ++ [r])) = ((runParts acc [q.1] q.2).bind fun u => runsGo (acc ++ [u]) rs).bind _
    cases runParts acc [q.1] q.2 with
    | none => rfl
    | some u => exact runsGo_snoc (rs := rs)
theorem runsGo_none : ∀ {rs qs : List Row} {acc : List (List Int)}, runsGo acc rs = none → runsGo acc (rs ++ qs) = none
  | [], _, _, h => nomatch h
  | q :: rs, qs, acc, z => by
    show (runParts acc [q.1] q.2).bind (fun u => runsGo (acc ++ [u]) (rs ++ qs)) = none
    have z : (runParts acc [q.1] q.2).bind (fun u => runsGo (acc ++ [u]) rs) = none := z
    cases e : runParts acc [q.1] q.2 with
    | none => rfl
    | some u =>
      rw [e] at z
      exact runsGo_none (rs := rs) z
theorem runOf_snoc {R : List (List Int)} : ∀ {xs : List Mv} {run : List Int} {m : Mv}, runOf R run (xs ++ [m]) = (runOf R run xs).bind fun r => runOf R r [m]
  | [], run, m => rfl
  | q :: xs, run, m => by
    show (match q.2 with
      | none => runOf R (run ++ [q.1]) (xs ++ [m])
      | some p => if 0 ≤ p ∧ p < R.length then (R[p.toNat]?).bind fun u => runOf R (run ++ [q.1] ++ u) (xs ++ [m]) else none) = (match q.2 with
      | none => runOf R (run ++ [q.1]) xs
      | some p => if 0 ≤ p ∧ p < R.length then (R[p.toNat]?).bind fun u => runOf R (run ++ [q.1] ++ u) xs else none).bind _
    cases q.2 with
    | none => exact runOf_snoc (xs := xs)
    | some p =>
      dsimp only
      by_cases h : 0 ≤ p ∧ p < R.length
      · rw [if_pos h, if_pos h]
        cases R[p.toNat]? with
        | none => rfl
        | some u => exact runOf_snoc (xs := xs)
      · rw [if_neg h, if_neg h] <;> rfl
theorem runOf_none {R : List (List Int)} {xs ys : List Mv} {run : List Int} (h : runOf R run xs = none) : runOf R run (xs ++ ys) = none := by
  induction ys generalizing xs with
  | nil =>
    rw [List.append_nil]
    exact h
  | cons y ys ih =>
    have e : xs ++ y :: ys = (xs ++ [y]) ++ ys := by simp
    rw [e]
    refine ih ?_
    rw [runOf_snoc, h] <;> rfl
theorem folGo_snoc {steps : List Stp} : ∀ {xs : List Int} {st : Int} {pile : List Int} {i : Int}, folGo steps st pile (xs ++ [i]) = (folGo steps st pile xs).bind fun c => folGo steps c.1 c.2 [i]
  | [], st, pile, i => rfl
  | q :: xs, st, pile, i => by
    show ((stepAt steps q).bind fun s => match pile with
      | [] => none
      | l :: rest => if s.state = st ∧ s.letter = l then folGo steps s.goal (s.laid ++ rest) (xs ++ [i]) else none) = ((stepAt steps q).bind fun s => match pile with
      | [] => none
      | l :: rest => if s.state = st ∧ s.letter = l then folGo steps s.goal (s.laid ++ rest) xs else none).bind _
    cases stepAt steps q with
    | none => rfl
    | some s =>
      cases pile with
      | nil => rfl
      | cons l rest =>
        show (if s.state = st ∧ s.letter = l then folGo steps s.goal (s.laid ++ rest) (xs ++ [i]) else none) = (if s.state = st ∧ s.letter = l then folGo steps s.goal (s.laid ++ rest) xs else none).bind _
        by_cases h : s.state = st ∧ s.letter = l
        · rw [if_pos h, if_pos h]
          exact folGo_snoc (xs := xs)
        · rw [if_neg h, if_neg h] <;> rfl
theorem folGo_none {steps : List Stp} {xs ys : List Int} {st : Int} {pile : List Int} (h : folGo steps st pile xs = none) : folGo steps st pile (xs ++ ys) = none := by
  induction ys generalizing xs with
  | nil =>
    rw [List.append_nil]
    exact h
  | cons y ys ih =>
    have e : xs ++ y :: ys = (xs ++ [y]) ++ ys := by simp
    rw [e]
    refine ih ?_
    rw [folGo_snoc, h] <;> rfl
theorem behGo_snoc {steps : List Stp} {R : List (List Int)} : ∀ {xs : List Int} {st : Int} {pile : List Int} {i : Int}, behGo steps R st pile (xs ++ [i]) = (behGo steps R st pile xs).bind fun c => behGo steps R c.1 c.2 [i]
  | [], st, pile, i => rfl
  | q :: xs, st, pile, i => by
    show (if 0 ≤ q ∧ q < R.length then (R[q.toNat]?).bind fun u => (folGo steps st pile u).bind fun c => behGo steps R c.1 c.2 (xs ++ [i]) else none) = (if 0 ≤ q ∧ q < R.length then (R[q.toNat]?).bind fun u => (folGo steps st pile u).bind fun c => behGo steps R c.1 c.2 xs else none).bind _
    by_cases h : 0 ≤ q ∧ q < R.length
    · rw [if_pos h, if_pos h]
      cases R[q.toNat]? with
      | none => rfl
      | some u =>
        show (folGo steps st pile u).bind (fun c => behGo steps R c.1 c.2 (xs ++ [i])) = ((folGo steps st pile u).bind fun c => behGo steps R c.1 c.2 xs).bind _
        cases folGo steps st pile u with
        | none => rfl
        | some c => exact behGo_snoc (xs := xs)
    · rw [if_neg h, if_neg h] <;> rfl
theorem behGo_none {steps : List Stp} {R : List (List Int)} {xs ys : List Int} {st : Int} {pile : List Int} (h : behGo steps R st pile xs = none) : behGo steps R st pile (xs ++ ys) = none := by
  induction ys generalizing xs with
  | nil =>
    rw [List.append_nil]
    exact h
  | cons y ys ih =>
    have e : xs ++ y :: ys = (xs ++ [y]) ++ ys := by simp
    rw [e]
    refine ih ?_
    rw [behGo_snoc, h] <;> rfl
theorem runsGo_append : ∀ {xs ys : List Row} {acc : List (List Int)}, runsGo acc (xs ++ ys) = (runsGo acc xs).bind fun b => runsGo b ys
  | [], _, _ => rfl
  | q :: xs, ys, acc => by
    show (runParts acc [q.1] q.2).bind (fun u => runsGo (acc ++ [u]) (xs ++ ys)) = ((runParts acc [q.1] q.2).bind fun u => runsGo (acc ++ [u]) xs).bind _
    cases runParts acc [q.1] q.2 with
    | none => rfl
    | some u => exact runsGo_append (xs := xs)
theorem runsGo_prefix : ∀ {xs : List Row} {acc R : List (List Int)}, runsGo acc xs = some R → ∃ t, R = acc ++ t
  | [], acc, R, h => ⟨[], by cases h; simp⟩
  | q :: xs, acc, R, h => by
    have h : (runParts acc [q.1] q.2).bind (fun u => runsGo (acc ++ [u]) xs) = some R := h
    cases e : runParts acc [q.1] q.2 with
    | none =>
      rw [e] at h
      cases h
    | some u =>
      rw [e] at h
      obtain ⟨t, ht⟩ := runsGo_prefix (xs := xs) h
      exact ⟨u :: t, by rw [ht]; simp⟩
theorem runsGo_take {rows : List Row} {R : List (List Int)} (h : runsGo [] rows = some R) (i : Nat) : ∃ acc, runsGo [] (rows.take i) = some acc ∧ ∀ u ∈ acc, u ∈ R := by
  have e : runsGo [] (rows.take i ++ rows.drop i) = some R := by rw [List.take_append_drop]; exact h
  rw [runsGo_append] at e
  cases z : runsGo [] (rows.take i) with
  | none =>
    rw [z] at e
    cases e
  | some acc =>
    rw [z] at e
    obtain ⟨t, ht⟩ := runsGo_prefix (show runsGo acc (rows.drop i) = some R from e)
    exact ⟨acc, rfl, fun u hu => by rw [ht]; exact List.mem_append_left _ hu⟩
end A

set_option Elab.async false
set_option linter.all false
set_option maxRecDepth 100000
set_option maxHeartbeats 4000000
namespace A
open PySem PySem.Spec PyProof.Rows L2
local macro_rules | `(tactic| walk_at "at") => `(tactic| first | exact at0 | exact at1 | exact at2 | exact at3 | exact at4 | exact at5 | exact at6 | exact at7)
local macro_rules | `(tactic| walk_at "fl") => `(tactic| first
  | (with_reducible refine' fl_laid (by assumption) ?_) | (with_reducible refine' fl_goal (by assumption) ?_) | (with_reducible refine' fl_state (by assumption) ?_) | (with_reducible refine' fl_letter (by assumption) ?_)
  | (with_reducible refine' fl_steps (by assumption) ?_) | (with_reducible refine' fl_marks (by assumption) ?_) | (with_reducible refine' fl_entries (by assumption) ?_) | (with_reducible refine' fl_weight (by assumption) ?_) | (with_reducible refine' fl_msteps (by assumption) ?_))
local macro_rules | `(tactic| walk_at "ix") => `(tactic| first
  | (with_reducible refine' ix_en0 ?_) | (with_reducible refine' ix_en1 ?_) | (with_reducible refine' ix_en2 ?_) | (with_reducible refine' ix_en3 ?_) | (with_reducible refine' ix_row0 ?_) | (with_reducible refine' ix_row1 ?_) | (with_reducible refine' ix_mv0 ?_) | (with_reducible refine' ix_mvS ?_) | (with_reducible refine' ix_mvN ?_) | (with_reducible refine' ix_mv1 ?_) | (with_reducible refine' ix_hd0 ?_) | (with_reducible refine' ix_hd1 ?_))
local macro_rules | `(tactic| walk_at "w") => `(tactic| first
  | ((with_reducible refine' we_var ?hvar ?_); (case hvar => rfl))
  | (with_reducible refine' we_int ?_)
  | (with_reducible refine' we_op ?_)
  | (with_reducible refine' wr_add ?_) | (with_reducible refine' wr_sub ?_)
  | ((with_reducible refine' wr_ixT ?hix ?_); (case hix => rfl))
  | ((with_reducible refine' wr_mod ?hmod ?_); (case hmod => first | decide | omega | assumption))
  | ((with_reducible refine' wr_div ?hdiv ?_); (case hdiv => exact ⟨by decide, by decide⟩))
  | (with_reducible refine' wr_eqI ?_) | (with_reducible refine' wr_neI ?_) | (with_reducible refine' wr_lt ?_) | (with_reducible refine' wr_le ?_) | (with_reducible refine' wr_gt ?_) | (with_reducible refine' wr_ge ?_)
  | ((with_reducible refine' isn0 ?hisn ?_); (case hisn => rfl)) | ((with_reducible refine' isn1 ?hisn ?_); (case hisn => rfl)) | ((with_reducible refine' ntn0 ?hisn ?_); (case hisn => rfl)) | ((with_reducible refine' ntn1 ?hisn ?_); (case hisn => rfl))
  | (with_reducible refine' wr_isN ?_) | (with_reducible refine' wr_notN ?_) | (with_reducible refine' wr_eqS ?_)
  | (with_reducible refine' d0n ?_) | (with_reducible refine' d1n ?_) | (with_reducible refine' d0 rfl ?_) | (with_reducible refine' d1 rfl ?_) | (with_reducible refine' bl_intro ?_) | (with_reducible refine' int_intro ?_) | ((with_reducible refine' And.intro ?hlen ?_); (case hlen => exact len_le rfl); try (with_reducible intro _))
  | (walk_at "ix")
  | (with_reducible refine' we_fldP ?_) | (walk_at "fl")
  | (with_reducible refine' we_tup ?_) | (with_reducible refine' we_lst ?_)
  | (with_reducible refine' wa_nil ?_) | (with_reducible refine' wa_cons ?_)
  | (with_reducible refine' we_non ?_) | (with_reducible refine' we_bl ?_) | (with_reducible refine' we_str ?_) | (with_reducible refine' we_ty ?_)
  | (with_reducible refine' we_cb ?_) | (with_reducible refine' wc_lenI ?_) | (with_reducible refine' wc_lenT ?_) | ((with_reducible refine' wc_lenL ?hat ?_); (case hat => walk_at "at"))
  | (with_reducible refine' wc_tupT ?_) | ((with_reducible refine' wc_tupL ?hat ?_); (case hat => walk_at "at"))
  | (with_reducible refine' wc_listT (fun _ => ?_)) | ((with_reducible refine' wc_listL ?hat (fun _ => ?_)); (case hat => walk_at "at"))
  | (with_reducible refine' wt_test ?_) | (with_reducible refine' wt_B ?_) | (with_reducible refine' wt_and ?_) | (with_reducible refine' wt_or ?_) | (with_reducible refine' wt_not ?_) | (with_reducible refine' wt_yes ?_)
  | (with_reducible refine' we_chain ?_) | (with_reducible refine' we_orV ?_) | (with_reducible refine' we_andV ?_) | (with_reducible refine' we_din ?_) | (with_reducible refine' we_neg ?_)
  | (with_reducible refine' we_sl ?_) | (with_reducible refine' wo_no ?_) | (with_reducible refine' wo_part ?_)
  | (with_reducible refine' we_meth ?_) | ((with_reducible refine' tk_intro ?htk ?_); (case htk => decide +kernel)) | (with_reducible refine' we_call ?_)
  | (with_reducible refine' we_app ?_) | (with_reducible refine' we_pop0 ?_)
  | (with_reducible refine' ws_seqA ?_) | (with_reducible refine' ws_seqI ?_) | (with_reducible refine' ws_seqD ?_) | (with_reducible refine' ws_ret ?_) | (with_reducible refine' ws_asgN ?_) | (with_reducible refine' ws_asg ?_) | (with_reducible refine' ws_drop ?_) | (with_reducible refine' ws_if ?_) | (with_reducible refine' ws_nx ?_)
  | (with_reducible refine' ws_seqG ?_) | (with_reducible refine' ws_seqJ ?_)
  | (with_reducible refine' wg_name ?_) | (with_reducible refine' wg_tup rfl ?_) | (with_reducible refine' wg_row ?_) | (with_reducible refine' wg_mv ?_) | (with_reducible refine' wgs_cons ?_) | (with_reducible refine' wgs_nil ?_))
local macro_rules | `(tactic| walk_at "W") => `(tactic| repeat walk_at "w")
local macro_rules | `(tactic| walk_at "sp") => `(tactic| repeat first | exact Split.nil | refine' Split.take ?_ | refine' Split.leave ?_)
section
variable {P : Program} {w : World} {K : PySem.W.Frag} {mg : Str → Option Value} {base : Heap}
theorem wr_catI {Γ : G} {env : Env} {M : Mm} {k : D → Mm → Prop} {xs ys : List Int} (hz : xs.length + ys.length ≤ sizeLine) (h : k (tupI (xs ++ ys)) M) : WR Γ (rAddX K) (tupI xs) (tupI ys) env M k := by
  refine wr_catT (by rw [List.length_map, List.length_map]; exact hz) ?_
  have e : D.tup (xs.map D.int ++ ys.map D.int) = tupI (xs ++ ys) := by rw [← List.map_append]; rfl
  rw [e]
  exact h
def sRuns : List D → Mm → (D → Mm → Prop) → Prop := fun ds F k => ∃ (rows : List Row) (R : List (List Int)), ds = [.tup (rows.map rowD)] ∧ F = [] ∧ rows.length < 1000 ∧ runsGo [] rows = some R ∧ (∀ u ∈ R, u.length ≤ Bd) ∧ (∀ r ∈ rows, r.2.length ≤ 3) ∧ ∀ p, k (.obj p) [(p, R.map tupI)]
theorem scLawRuns : FnScope ["_law_rows", "_law_runs_here", "_law_row", "_law_run", "_law_part"] ["_law_rows"] K69.dLawRuns.scope := ⟨rfl, rfl, rfl, by decide +kernel, rfl, by decide +kernel, by decide +kernel⟩
theorem ok_runs (T : Txt K mg) : Ok1 P w K mg base K69.dLawRuns 1 ["_law_rows"] (spOf sRuns) := by
  refine mk_okG (N := ["_law_rows", "_law_runs_here", "_law_row", "_law_run", "_law_part"]) (T.c.def_ 30 (d := K69.dLawRuns) rfl) scLawRuns rfl (fun _ _ _ _ _ _ us hl => match us, hl with | [_], _ => rfl) ?_ (fun cdv A outer s H E hr => ⟨_, (pss_cons (ps_set (i := 1) scLawRuns.nd rfl (by first | exact Or.inl rfl | exact Or.inr rfl) (pe_lst pa_nil))
  (pss_cons (ps_for PassesOwn.never rfl (pi_X (pi_list (pv 0)) (pi_tup (pv 0))) (pg_name (i := 2) scLawRuns.nd rfl (by first | exact Or.inl rfl | exact Or.inr rfl)) (pss_cons (ps_set (i := 3) scLawRuns.nd rfl (by first | exact Or.inl rfl | exact Or.inr rfl) (pe_tup (pa_cons (pe_ix ix_seq (pv 2) pe_int (fun _ _ => rfl)) pa_nil)))
  (pss_cons (ps_for PassesOwn.never rfl (pi_X (pi_list (pe_ix ix_seq (pv 2) pe_int (fun _ _ => rfl))) (pi_tup (pe_ix ix_seq (pv 2) pe_int (fun _ _ => rfl)))) (pg_name (i := 4) scLawRuns.nd rfl (by first | exact Or.inl rfl | exact Or.inr rfl)) (pss_cons (ps_if (pt_not (pt_chain op_le op_lt pe_int (pv 4) (pe_callB call_lenX (by rfl) (T.free 53) (by decide +kernel) (pa_cons (pv 1) pa_nil)))) (pss_one (ps_ret (pe_non))) pss_nil)
  (pss_one (ps_set (i := 3) scLawRuns.nd rfl (by first | exact Or.inl rfl | exact Or.inr rfl) (pe_op op_addX (pv 3) (pe_ix ix_seq (pv 1) (pv 4) (fun _ _ => rfl)))))))
  (pss_one (ps_expr (pe_bm PySem.F.plainAttrs_list PySem.F.slot_list_append PySem.F.type_list_append mt_append (pv 1) (pa_cons (pv 3) pa_nil)))))))
  (pss_one (ps_ret (pv 1))))), fun ds F k Γ hs hw => ?_⟩)
  · rintro _ _ _ ⟨_, _, rfl, _⟩
    rfl
  · obtain ⟨rows, R, rfl, rfl, hz, hR, hB, hp, hk⟩ := hs
    change WS _ _ _ [_, _, _, _, _] _; dsimp only [cxOf, Cx.nox, Cx.wish]
    walk_at "W"
    rename_i pr
    refine ws_seq (ws_forT (fun i env M => ∃ (acc : List (List Int)) (a b c : Option D), runsGo [] (rows.take i) = some acc ∧ acc.length = i ∧ (∀ u ∈ acc, u ∈ R) ∧ M = [(pr, acc.map tupI)] ∧ env = [some (.tup (rows.map rowD)), some (.obj pr), a, b, c]) ?_)
    walk_at "W"
    refine ⟨_, rfl, ⟨[], none, none, none, rfl, rfl, fun u hu => (nomatch hu), rfl, rfl⟩, ?_, ?_⟩
    · rintro i x env M hx ⟨acc, a, b, c, ha, hl, hm, rfl, rfl⟩
      obtain ⟨r, hr, rfl⟩ := map_get hx
      have hil := (List.getElem?_eq_some_iff.mp hr).1
      have hp3 := hp r (List.mem_of_getElem? hr)
      obtain ⟨acc2, h2, hm2⟩ := runsGo_take hR (i + 1)
      rw [take_succ' hr, runsGo_snoc, ha, Option.bind_some] at h2
      walk_at "W"
      refine ws_seq (ws_forT (fun j env M => ∃ (run : List Int) (a : Option D), runParts acc [r.1] (r.2.take j) = some run ∧ run.length ≤ 1 + j * Bd ∧ M = [(pr, acc.map tupI)] ∧ env = [some (.tup (rows.map rowD)), some (.obj pr), some (rowD r), some (tupI run), a]) ?_)
      walk_at "W"
      refine ⟨_, rfl, ⟨[r.1], c, rfl, by simp, rfl, rfl⟩, ?_, ?_⟩
      · rintro j x env M hx ⟨run, a, hrun, hlr, rfl, rfl⟩
        obtain ⟨p, hpj, rfl⟩ := map_get hx
        have hjl := (List.getElem?_eq_some_iff.mp hpj).1
        have hs := runParts_snoc (acc := acc) (ps := r.2.take j) (run := [r.1]) (p := p)
        rw [← take_succ' hpj, hrun, Option.bind_some] at hs
        have hne : runParts acc [r.1] (r.2.take (j + 1)) ≠ none := fun z => by
          have e := runParts_none (qs := r.2.drop (j + 1)) z
          rw [List.take_append_drop] at e
          rw [e] at h2
          cases h2
        walk_at "W"
        refine di (fun h0 => ?_) (fun h0 => ?_)
        · walk_at "W"
          rw [List.length_map]
          refine din (fun h1 => ?_) (fun h1 => ?_)
          · rw [if_neg (fun z => h1 z.2)] at hs
            exact absurd hs hne
          · rw [if_pos ⟨h0, h1⟩] at hs
            obtain ⟨u, hu⟩ := get_in h0 h1
            rw [hu] at hs
            have hub := hB u (hm u (List.mem_of_getElem? hu))
            walk_at "W"
            refine wr_ixL at0 (atI_map h0 hu) ?_
            have hj1 : (j + 1) * Bd ≤ 3 * Bd := Nat.mul_le_mul_right _ (by omega)
            have hj2 : (j + 1) * Bd = j * Bd + Bd := by rw [Nat.add_mul, Nat.one_mul]
            have hB3 : 1 + 3 * Bd ≤ sizeLine := by decide
            refine wr_catI (by omega) ?_
            walk_at "W"
            refine ⟨_, _, hs, ?_, rfl, rfl⟩
            rw [List.length_append]
            omega
        · rw [if_neg (fun z => h0 z.1)] at hs
          exact absurd hs hne
      · rintro env M ⟨run, a, hrun, hlr, rfl, rfl⟩
        rw [List.length_map, List.take_length] at hrun
        rw [hrun] at h2
        walk_at "W"
        refine ⟨pr, rfl, ⟨0, _, rfl⟩, ?_⟩
        walk_at "W"
        refine ⟨0, _, rfl, ?_, ?_⟩
        · rw [List.length_map, hl]
          exact Nat.lt_of_lt_of_le (Nat.lt_trans hil hz) (by decide)
        · refine ⟨acc ++ [run], _, _, _, ?_, by simp [hl], ?_, ?_, rfl⟩
          · rw [take_succ' hr, runsGo_snoc, ha, Option.bind_some, hrun] <;> rfl
          · cases h2
            exact hm2
          · show [(pr, acc.map tupI ++ [tupI run])] = [(pr, (acc ++ [run]).map tupI)]
            rw [List.map_append] <;> rfl
    · rintro env M ⟨acc, a, b, c, ha, hl, hm, rfl, rfl⟩
      rw [List.length_map, List.take_length, hR] at ha
      cases ha
      walk_at "W"
      exact ⟨_, List.Sublist.refl _, hk pr⟩
def sRunOf : List D → Mm → (D → Mm → Prop) → Prop := fun ds F k => ∃ (p : Addr) (R : List (List Int)) (mv : List Mv) (g : List Int) (B : Nat), ds = [.obj p, .tup (mv.map mvD)] ∧ F = [(p, R.map tupI)] ∧ runOf R [] mv = some g ∧ (∀ u ∈ R, u.length ≤ B) ∧ mv.length * (B + 1) ≤ sizeLine ∧ k (tupI g) F
theorem scLawRunOf : FnScope ["_law_runs_here", "_law_moves", "_law_run", "_law_move_here"] ["_law_runs_here", "_law_moves"] K69.dLawRunOf.scope := ⟨rfl, rfl, rfl, by decide +kernel, rfl, by decide +kernel, by decide +kernel⟩
theorem ok_run_of (T : Txt K mg) : Ok1 P w K mg base K69.dLawRunOf 1 ["_law_runs_here", "_law_moves"] (spOf sRunOf) := by
  refine mk_ok (N := ["_law_runs_here", "_law_moves", "_law_run", "_law_move_here"]) (T.c.def_ 31 (d := K69.dLawRunOf) rfl) scLawRunOf rfl (fun _ _ _ _ _ _ us hl => match us, hl with | [_, _], _ => rfl) ?_ (fun cdv A outer s H E hr => ⟨_, (pss_cons (ps_set (i := 2) scLawRunOf.nd rfl (by first | exact Or.inl rfl | exact Or.inr rfl) (pe_tup pa_nil))
  (pss_cons (ps_for PassesOwn.never rfl (pi_X (pi_list (pv 1)) (pi_tup (pv 1))) (pg_name (i := 3) scLawRunOf.nd rfl (by first | exact Or.inl rfl | exact Or.inr rfl)) (pss_cons (ps_set (i := 2) scLawRunOf.nd rfl (by first | exact Or.inl rfl | exact Or.inr rfl) (pe_op op_addX (pv 2) (pe_tup (pa_cons (pe_ix ix_seq (pv 3) pe_int (fun _ _ => rfl)) pa_nil))))
  (pss_one (ps_if (pt_cmpR op_notN (pe_ix ix_seq (pv 3) pe_int (fun _ _ => rfl)) pe_non (nomark _)) (pss_cons (ps_if (pt_not (pt_chain op_le op_lt pe_int (pe_ix ix_seq (pv 3) pe_int (fun _ _ => rfl)) (pe_callB call_lenX (by rfl) (T.free 53) (by decide +kernel) (pa_cons (pv 0) pa_nil)))) (pss_one (ps_ret (pe_non))) pss_nil)
  (pss_one (ps_set (i := 2) scLawRunOf.nd rfl (by first | exact Or.inl rfl | exact Or.inr rfl) (pe_op op_addX (pv 2) (pe_ix ix_seq (pv 0) (pe_ix ix_seq (pv 3) pe_int (fun _ _ => rfl)) (fun _ _ => rfl)))))) pss_nil))))
  (pss_one (ps_ret (pv 2))))), fun ds F k Γ hs hw => ?_⟩)
  · rintro _ _ _ ⟨_, _, _, _, _, rfl, _⟩
    rfl
  · obtain ⟨p, R, mv, g, B, rfl, rfl, hg, hB, hz, hk⟩ := hs
    change WS _ _ _ [_, _, _, _] _; dsimp only [cxOf, Cx.nox, Cx.wish]
    walk_at "W"
    refine ws_seq (ws_forT (fun i env M => ∃ (run : List Int) (a : Option D), runOf R [] (mv.take i) = some run ∧ run.length ≤ i * (B + 1) ∧ M = [(p, R.map tupI)] ∧ env = [some (.obj p), some (.tup (mv.map mvD)), some (tupI run), a]) ?_)
    walk_at "W"
    refine ⟨_, rfl, ⟨[], none, rfl, Nat.zero_le _, rfl, rfl⟩, ?_, ?_⟩
    · rintro i x env M hx ⟨run, a, hr, hl, rfl, rfl⟩
      obtain ⟨m, hmv, rfl⟩ := map_get hx
      have hil := (List.getElem?_eq_some_iff.mp hmv).1
      have hs := runOf_snoc (R := R) (xs := mv.take i) (run := []) (m := m)
      rw [← take_succ' hmv, hr, Option.bind_some] at hs
      have hne : runOf R [] (mv.take (i + 1)) ≠ none := fun z => by
        have e := runOf_none (ys := mv.drop (i + 1)) z
        rw [List.take_append_drop, hg] at e
        cases e
      have h1 : (i + 1) * (B + 1) ≤ mv.length * (B + 1) := Nat.mul_le_mul_right _ (by omega)
      have h2 : (i + 1) * (B + 1) = i * (B + 1) + (B + 1) := by rw [Nat.add_mul, Nat.one_mul]
      obtain ⟨m1, m2⟩ := m
      walk_at "W"
      refine wr_catI (ys := [m1]) (by show run.length + 1 ≤ sizeLine; omega) ?_
      walk_at "W"
      cases m2 with
      | none =>
        have hs : runOf R [] (mv.take (i + 1)) = some (run ++ [m1]) := hs
        walk_at "W"
        refine ⟨_, _, hs, ?_, rfl, rfl⟩
        rw [List.length_append]
        show run.length + 1 ≤ _
        omega
      | some q =>
        have hs : runOf R [] (mv.take (i + 1)) = if 0 ≤ q ∧ q < R.length then (R[q.toNat]?).bind fun u => some (run ++ [m1] ++ u) else none := hs
        walk_at "W"
        refine di (fun h0 => ?_) (fun h0 => ?_)
        · walk_at "W"
          rw [List.length_map]
          refine din (fun h3 => ?_) (fun h3 => ?_)
          · rw [if_neg (fun z => h3 z.2)] at hs
            exact absurd hs hne
          · rw [if_pos ⟨h0, h3⟩] at hs
            obtain ⟨u, hu⟩ := get_in h0 h3
            rw [hu] at hs
            have hub := hB u (List.mem_of_getElem? hu)
            walk_at "W"
            refine wr_ixL at0 (atI_map h0 hu) ?_
            have hl1 : (run ++ [m1]).length = run.length + 1 := by simp
            refine wr_catI (by omega) ?_
            walk_at "W"
            refine ⟨_, _, hs, ?_, rfl, rfl⟩
            rw [List.length_append]
            omega
        · rw [if_neg (fun z => h0 z.1)] at hs
          exact absurd hs hne
    · rintro env M ⟨run, a, hr, hl, rfl, rfl⟩
      rw [List.length_map, List.take_length, hg] at hr
      cases hr
      walk_at "W"
      exact hk
end
end A

set_option Elab.async false
set_option linter.all false
set_option maxRecDepth 100000
set_option maxHeartbeats 4000000
namespace A
open PySem PySem.Spec PyProof.Rows L2
local macro_rules | `(tactic| walk_at "at") => `(tactic| first | exact at0 | exact at1 | exact at2 | exact at3 | exact at4 | exact at5 | exact at6 | exact at7)
local macro_rules | `(tactic| walk_at "fl") => `(tactic| first
  | (with_reducible refine' fl_laid (by assumption) ?_) | (with_reducible refine' fl_goal (by assumption) ?_) | (with_reducible refine' fl_state (by assumption) ?_) | (with_reducible refine' fl_letter (by assumption) ?_)
  | (with_reducible refine' fl_steps (by assumption) ?_) | (with_reducible refine' fl_marks (by assumption) ?_) | (with_reducible refine' fl_entries (by assumption) ?_) | (with_reducible refine' fl_weight (by assumption) ?_) | (with_reducible refine' fl_msteps (by assumption) ?_))
local macro_rules | `(tactic| walk_at "ix") => `(tactic| first
  | (with_reducible refine' ix_en0 ?_) | (with_reducible refine' ix_en1 ?_) | (with_reducible refine' ix_en2 ?_) | (with_reducible refine' ix_en3 ?_) | (with_reducible refine' ix_row0 ?_) | (with_reducible refine' ix_row1 ?_) | (with_reducible refine' ix_mv0 ?_) | (with_reducible refine' ix_mvS ?_) | (with_reducible refine' ix_mvN ?_) | (with_reducible refine' ix_mv1 ?_) | (with_reducible refine' ix_hd0 ?_) | (with_reducible refine' ix_hd1 ?_))
local macro_rules | `(tactic| walk_at "w") => `(tactic| first
  | ((with_reducible refine' we_var ?hvar ?_); (case hvar => rfl))
  | (with_reducible refine' we_int ?_)
  | (with_reducible refine' we_op ?_)
  | (with_reducible refine' wr_add ?_) | (with_reducible refine' wr_sub ?_)
  | ((with_reducible refine' wr_ixT ?hix ?_); (case hix => rfl))
  | ((with_reducible refine' wr_mod ?hmod ?_); (case hmod => first | decide | omega | assumption))
  | ((with_reducible refine' wr_div ?hdiv ?_); (case hdiv => exact ⟨by decide, by decide⟩))
  | (with_reducible refine' wr_eqI ?_) | (with_reducible refine' wr_neI ?_) | (with_reducible refine' wr_lt ?_) | (with_reducible refine' wr_le ?_) | (with_reducible refine' wr_gt ?_) | (with_reducible refine' wr_ge ?_)
  | ((with_reducible refine' isn0 ?hisn ?_); (case hisn => rfl)) | ((with_reducible refine' isn1 ?hisn ?_); (case hisn => rfl)) | ((with_reducible refine' ntn0 ?hisn ?_); (case hisn => rfl)) | ((with_reducible refine' ntn1 ?hisn ?_); (case hisn => rfl))
  | (with_reducible refine' wr_isN ?_) | (with_reducible refine' wr_notN ?_) | (with_reducible refine' wr_eqS ?_)
  | (with_reducible refine' d0n ?_) | (with_reducible refine' d1n ?_) | (with_reducible refine' d0 rfl ?_) | (with_reducible refine' d1 rfl ?_) | (with_reducible refine' bl_intro ?_) | (with_reducible refine' int_intro ?_) | ((with_reducible refine' And.intro ?hlen ?_); (case hlen => exact len_le rfl); try (with_reducible intro _))
  | (walk_at "ix")
  | (with_reducible refine' we_fldP ?_) | (walk_at "fl")
  | (with_reducible refine' we_tup ?_) | (with_reducible refine' we_lst ?_)
  | (with_reducible refine' wa_nil ?_) | (with_reducible refine' wa_cons ?_)
  | (with_reducible refine' we_non ?_) | (with_reducible refine' we_bl ?_) | (with_reducible refine' we_str ?_) | (with_reducible refine' we_ty ?_)
  | (with_reducible refine' we_cb ?_) | (with_reducible refine' wc_lenI ?_) | (with_reducible refine' wc_lenT ?_) | ((with_reducible refine' wc_lenL ?hat ?_); (case hat => walk_at "at"))
  | (with_reducible refine' wc_tupT ?_) | ((with_reducible refine' wc_tupL ?hat ?_); (case hat => walk_at "at"))
  | (with_reducible refine' wc_listT (fun _ => ?_)) | ((with_reducible refine' wc_listL ?hat (fun _ => ?_)); (case hat => walk_at "at"))
  | (with_reducible refine' wt_test ?_) | (with_reducible refine' wt_B ?_) | (with_reducible refine' wt_and ?_) | (with_reducible refine' wt_or ?_) | (with_reducible refine' wt_not ?_) | (with_reducible refine' wt_yes ?_)
  | (with_reducible refine' we_chain ?_) | (with_reducible refine' we_orV ?_) | (with_reducible refine' we_andV ?_) | (with_reducible refine' we_din ?_) | (with_reducible refine' we_neg ?_)
  | (with_reducible refine' we_sl ?_) | (with_reducible refine' wo_no ?_) | (with_reducible refine' wo_part ?_)
  | (with_reducible refine' we_meth ?_) | ((with_reducible refine' tk_intro ?htk ?_); (case htk => decide +kernel)) | (with_reducible refine' we_call ?_)
  | (with_reducible refine' we_app ?_) | (with_reducible refine' we_pop0 ?_)
  | (with_reducible refine' ws_seqA ?_) | (with_reducible refine' ws_seqI ?_) | (with_reducible refine' ws_seqD ?_) | (with_reducible refine' ws_ret ?_) | (with_reducible refine' ws_asgN ?_) | (with_reducible refine' ws_asg ?_) | (with_reducible refine' ws_drop ?_) | (with_reducible refine' ws_if ?_) | (with_reducible refine' ws_nx ?_)
  | (with_reducible refine' ws_seqG ?_) | (with_reducible refine' ws_seqJ ?_)
  | (with_reducible refine' wg_name ?_) | (with_reducible refine' wg_tup rfl ?_) | (with_reducible refine' wg_row ?_) | (with_reducible refine' wg_mv ?_) | (with_reducible refine' wgs_cons ?_) | (with_reducible refine' wgs_nil ?_))
local macro_rules | `(tactic| walk_at "W") => `(tactic| repeat walk_at "w")
local macro_rules | `(tactic| walk_at "sp") => `(tactic| repeat first | exact Split.nil | refine' Split.take ?_ | refine' Split.leave ?_)
section
variable {P : Program} {w : World} {K : PySem.W.Frag} {mg : Str → Option Value} {base : Heap}
def cgD (st : Int) (pile : List Int) : D := .tup [.int st, tupI pile]
theorem ix_cg0 {Γ : G} {env : Env} {M : Mm} {k : D → Mm → Prop} {st : Int} {pile : List Int} (h : k (.int st) M) : WR Γ (rIx K) (cgD st pile) (.int 0) env M k := wr_ixT rfl h
theorem ix_cg1 {Γ : G} {env : Env} {M : Mm} {k : D → Mm → Prop} {st : Int} {pile : List Int} (h : k (tupI pile) M) : WR Γ (rIx K) (cgD st pile) (.int 1) env M k := wr_ixT rfl h
theorem ix_ls2 {Γ : G} {env : Env} {M : Mm} {k : D → Mm → Prop} {s : Stp} (h : k (.int s.goal) M) : WR Γ (rIx K) (lsD s) (.int 2) env M k := wr_ixT rfl h
theorem ix_ls3 {Γ : G} {env : Env} {M : Mm} {k : D → Mm → Prop} {s : Stp} (h : k (tupI s.laid) M) : WR Γ (rIx K) (lsD s) (.int 3) env M k := wr_ixT rfl h
theorem cut_take (xs : List Int) (n : Nat) : cutD (xs.map D.int) none (some (n : Int)) = (xs.take n).map D.int := by
  unfold cutD
  rw [HT.sIx_none, HT.sIx_nat, List.drop_zero, List.length_map, Nat.sub_zero, List.map_take]
  by_cases h : n ≤ xs.length
  · rw [Nat.min_eq_left h]
  · rw [Nat.min_eq_right (by omega), List.take_of_length_le (by simp), List.take_of_length_le (by simp; omega)]
theorem cut_drop (xs : List Int) (n : Nat) : cutD (xs.map D.int) (some (n : Int)) none = (xs.drop n).map D.int := by
  unfold cutD
  rw [HT.sIx_none, HT.sIx_nat, List.length_map, List.map_drop]
  by_cases h : n ≤ xs.length
  · rw [Nat.min_eq_left h, List.take_of_length_le (by simp)]
  · rw [Nat.min_eq_right (by omega), List.drop_of_length_le (by simp), List.drop_of_length_le (by simp; omega)]
    simp
theorem cut_take1 (xs : List Int) : cutD (xs.map D.int) none (some 1) = (xs.take 1).map D.int := cut_take xs 1
theorem cut_drop1 (xs : List Int) : cutD (xs.map D.int) (some 1) none = (xs.drop 1).map D.int := cut_drop xs 1
def sFollowed : List D → Mm → (D → Mm → Prop) → Prop := fun ds F k => ∃ (ps : Addr) (steps : List Stp) (st : Int) (pile run : List Int), ds = [.obj ps, cgD st pile, tupI run] ∧ F = [(ps, steps.map lsD)] ∧ (∀ s ∈ steps, s.laid.length ≤ 2) ∧ pile.length + run.length + 10 ≤ sizeLine ∧
  k (optE (fun c => cgD c.1 c.2) (folGo steps st pile run)) F
theorem scLawFollowed : FnScope ["_law_steps", "_law_configuration", "_law_run", "_law_state", "_law_pile", "_law_index"] ["_law_steps", "_law_configuration", "_law_run"] K69.dLawFollowed.scope := ⟨rfl, rfl, rfl, by decide +kernel, rfl, by decide +kernel, by decide +kernel⟩
theorem ok_followed (T : Txt K mg) : Ok1 P w K mg base K69.dLawFollowed 1 ["_law_steps", "_law_configuration", "_law_run"] (spOf sFollowed) := by
  refine mk_ok (N := ["_law_steps", "_law_configuration", "_law_run", "_law_state", "_law_pile", "_law_index"]) (T.c.def_ 32 (d := K69.dLawFollowed) rfl) scLawFollowed rfl (fun _ _ _ _ _ _ us hl => match us, hl with | [_, _, _], _ => rfl) ?_ (fun cdv A outer s H E hr => ⟨_, (pss_cons (ps_set (i := 3) scLawFollowed.nd rfl (by first | exact Or.inl rfl | exact Or.inr rfl) (pe_ix ix_seq (pv 1) pe_int (fun _ _ => rfl)))
  (pss_cons (ps_set (i := 4) scLawFollowed.nd rfl (by first | exact Or.inl rfl | exact Or.inr rfl) (pe_ix ix_seq (pv 1) pe_int (fun _ _ => rfl)))
  (pss_cons (ps_for PassesOwn.never rfl (pi_X (pi_list (pv 2)) (pi_tup (pv 2))) (pg_name (i := 5) scLawFollowed.nd rfl (by first | exact Or.inl rfl | exact Or.inr rfl)) (pss_cons (ps_if (PW.pt (pw_or (pt_not (pt_chain op_le op_lt pe_int (pv 5) (pe_callB call_lenX (by rfl) (T.free 53) (by decide +kernel) (pa_cons (pv 0) pa_nil)))) (pw_or1 (pt_cmpR (op_neX hr.units) (pe_slice sl_X (pe_ix ix_seq (pv 0) (pv 5) (fun _ _ => rfl)) po_none (po_some pe_int)) (pe_op op_addX (pe_tup (pa_cons (pv 3) pa_nil)) (pe_slice sl_X (pv 4) po_none (po_some pe_int))) (nomark _))))) (pss_one (ps_ret (pe_non))) pss_nil)
  (pss_cons (ps_set (i := 3) scLawFollowed.nd rfl (by first | exact Or.inl rfl | exact Or.inr rfl) (pe_ix ix_seq (pe_ix ix_seq (pv 0) (pv 5) (fun _ _ => rfl)) pe_int (fun _ _ => rfl)))
  (pss_one (ps_set (i := 4) scLawFollowed.nd rfl (by first | exact Or.inl rfl | exact Or.inr rfl) (pe_op op_addX (pe_ix ix_seq (pe_ix ix_seq (pv 0) (pv 5) (fun _ _ => rfl)) pe_int (fun _ _ => rfl)) (pe_slice sl_X (pv 4) (po_some pe_int) po_none)))))))
  (pss_one (ps_ret (pe_tup (pa_cons (pv 3) (pa_cons (pv 4) pa_nil)))))))), fun ds F k Γ hs hw => ?_⟩)
  · rintro _ _ _ ⟨_, _, _, _, _, rfl, _⟩
    rfl
  · obtain ⟨ps, steps, st, pile, run, rfl, rfl, h2, hz, hk⟩ := hs
    change WS _ _ _ [_, _, _, _, _, _] _; dsimp only [cxOf, Cx.nox, Cx.wish]
    walk_at "W"
    refine ix_cg0 ?_
    walk_at "W"
    refine ix_cg1 ?_
    refine ws_seq (ws_forT (fun i env M => ∃ (c : Int × List Int) (a : Option D), folGo steps st pile (run.take i) = some c ∧ c.2.length ≤ pile.length + i ∧ M = [(ps, steps.map lsD)] ∧ env = [some (.obj ps), some (cgD st pile), some (tupI run), some (.int c.1), some (tupI c.2), a]) ?_)
    walk_at "W"
    refine ⟨_, rfl, ⟨(st, pile), none, rfl, Nat.le_refl _, rfl, rfl⟩, ?_, ?_⟩
    · rintro i x env M hx ⟨c, a, hc, hl, rfl, rfl⟩
      obtain ⟨q, hq, rfl⟩ := map_get hx
      have hil := (List.getElem?_eq_some_iff.mp hq).1
      have hs := folGo_snoc (steps := steps) (xs := run.take i) (st := st) (pile := pile) (i := q)
      rw [← take_succ' hq, hc, Option.bind_some] at hs
      have hn : folGo steps st pile (run.take (i + 1)) = none → folGo steps st pile run = none := fun z => by
        have e := folGo_none (ys := run.drop (i + 1)) z
        rw [List.take_append_drop] at e
        exact e
      have hs : folGo steps st pile (run.take (i + 1)) = (stepAt steps q).bind fun s => match c.2 with
          | [] => none
          | l :: rest => if s.state = c.1 ∧ s.letter = l then some (s.goal, s.laid ++ rest) else none := hs
      unfold stepAt at hs
      walk_at "W"
      refine di (fun h0 => ?_) (fun h0 => ?_)
      · walk_at "W"
        rw [List.length_map]
        refine din (fun h1 => ?_) (fun h1 => ?_)
        · rw [if_neg (fun z => h1 z.2)] at hs
          rw [hn hs] at hk
          walk_at "W"
          exact hk
        · rw [if_pos ⟨h0, h1⟩] at hs
          obtain ⟨s, hs1⟩ := get_in h0 h1
          rw [hs1, Option.bind_some] at hs
          have hs2 := h2 s (List.mem_of_getElem? hs1)
          walk_at "W"
          refine wr_ixL at0 (atI_map h0 hs1) ?_
          walk_at "W"
          refine .inl ⟨_, rfl, ?_⟩
          walk_at "W"
          refine .inl ⟨_, rfl, ?_⟩
          rw [cut_take1]
          refine wr_catT (by rw [List.length_map, List.length_take]; show 1 + min 1 c.2.length ≤ sizeLine; omega) ?_
          refine wr_neT (ns := [s.state, s.letter]) (ms := c.1 :: c.2.take 1) ?_
          walk_at "W"
          refine din (fun h3 => ?_) (fun h3 => ?_)
          · have e : folGo steps st pile (run.take (i + 1)) = none := by
              rw [hs]
              match hc2 : c.2, h3 with
              | [], _ => rfl
              | l :: rest, h3 =>
                have h3 : ¬ [s.state, s.letter] = [c.1, l] := h3
                show (if s.state = c.1 ∧ s.letter = l then some (s.goal, s.laid ++ rest) else none) = none
                rw [if_neg (fun z => h3 (by rw [z.1, z.2]))]
            rw [hn e] at hk
            walk_at "W"
            exact hk
          · match hc2 : c.2, h3 with
            | [], h3 => exact absurd h3 (by simp)
            | l :: rest, h3 =>
              have h3 : [s.state, s.letter] = [c.1, l] := h3
              have e1 : s.state = c.1 ∧ s.letter = l := by simpa using h3
              rw [hc2] at hs
              have hs : _ = (if s.state = c.1 ∧ s.letter = l then some (s.goal, s.laid ++ rest) else none) := hs
              rw [if_pos e1] at hs
              have hl2 : rest.length + 1 ≤ pile.length + i := by rw [hc2] at hl; exact hl
              walk_at "W"
              refine wr_ixL at0 (atI_map h0 hs1) ?_
              walk_at "W"
              refine ix_ls2 ?_
              walk_at "W"
              refine wr_ixL at0 (atI_map h0 hs1) ?_
              walk_at "W"
              refine ix_ls3 ?_
              walk_at "W"
              refine .inl ⟨_, rfl, ?_⟩
              rw [cut_drop1]
              refine wr_catI (ys := rest) (by omega) ?_
              walk_at "W"
              refine ⟨_, _, hs, ?_, rfl, rfl⟩
              rw [List.length_append]
              omega
      · rw [if_neg (fun z => h0 z.1)] at hs
        rw [hn hs] at hk
        walk_at "W"
        exact hk
    · rintro env M ⟨c, a, hc, hl, rfl, rfl⟩
      rw [List.length_map, List.take_length] at hc
      rw [hc] at hk
      walk_at "W"
      exact hk
end
end A

set_option Elab.async false
set_option linter.all false
set_option maxRecDepth 100000
set_option maxHeartbeats 4000000
namespace A
open PySem PySem.Spec PyProof.Rows L2
local macro_rules | `(tactic| walk_at "at") => `(tactic| first | exact at0 | exact at1 | exact at2 | exact at3 | exact at4 | exact at5 | exact at6 | exact at7)
local macro_rules | `(tactic| walk_at "fl") => `(tactic| first
  | (with_reducible refine' fl_laid (by assumption) ?_) | (with_reducible refine' fl_goal (by assumption) ?_) | (with_reducible refine' fl_state (by assumption) ?_) | (with_reducible refine' fl_letter (by assumption) ?_)
  | (with_reducible refine' fl_steps (by assumption) ?_) | (with_reducible refine' fl_marks (by assumption) ?_) | (with_reducible refine' fl_entries (by assumption) ?_) | (with_reducible refine' fl_weight (by assumption) ?_) | (with_reducible refine' fl_msteps (by assumption) ?_))
local macro_rules | `(tactic| walk_at "ix") => `(tactic| first
  | (with_reducible refine' ix_en0 ?_) | (with_reducible refine' ix_en1 ?_) | (with_reducible refine' ix_en2 ?_) | (with_reducible refine' ix_en3 ?_) | (with_reducible refine' ix_row0 ?_) | (with_reducible refine' ix_row1 ?_) | (with_reducible refine' ix_mv0 ?_) | (with_reducible refine' ix_mvS ?_) | (with_reducible refine' ix_mvN ?_) | (with_reducible refine' ix_mv1 ?_) | (with_reducible refine' ix_hd0 ?_) | (with_reducible refine' ix_hd1 ?_))
local macro_rules | `(tactic| walk_at "w") => `(tactic| first
  | ((with_reducible refine' we_var ?hvar ?_); (case hvar => rfl))
  | (with_reducible refine' we_int ?_)
  | (with_reducible refine' we_op ?_)
  | (with_reducible refine' wr_add ?_) | (with_reducible refine' wr_sub ?_)
  | ((with_reducible refine' wr_ixT ?hix ?_); (case hix => rfl))
  | ((with_reducible refine' wr_mod ?hmod ?_); (case hmod => first | decide | omega | assumption))
  | ((with_reducible refine' wr_div ?hdiv ?_); (case hdiv => exact ⟨by decide, by decide⟩))
  | (with_reducible refine' wr_eqI ?_) | (with_reducible refine' wr_neI ?_) | (with_reducible refine' wr_lt ?_) | (with_reducible refine' wr_le ?_) | (with_reducible refine' wr_gt ?_) | (with_reducible refine' wr_ge ?_)
  | ((with_reducible refine' isn0 ?hisn ?_); (case hisn => rfl)) | ((with_reducible refine' isn1 ?hisn ?_); (case hisn => rfl)) | ((with_reducible refine' ntn0 ?hisn ?_); (case hisn => rfl)) | ((with_reducible refine' ntn1 ?hisn ?_); (case hisn => rfl))
  | (with_reducible refine' wr_isN ?_) | (with_reducible refine' wr_notN ?_) | (with_reducible refine' wr_eqS ?_)
  | (with_reducible refine' d0n ?_) | (with_reducible refine' d1n ?_) | (with_reducible refine' d0 rfl ?_) | (with_reducible refine' d1 rfl ?_) | (with_reducible refine' bl_intro ?_) | (with_reducible refine' int_intro ?_) | ((with_reducible refine' And.intro ?hlen ?_); (case hlen => exact len_le rfl); try (with_reducible intro _))
  | (walk_at "ix")
  | (with_reducible refine' we_fldP ?_) | (walk_at "fl")
  | (with_reducible refine' we_tup ?_) | (with_reducible refine' we_lst ?_)
  | (with_reducible refine' wa_nil ?_) | (with_reducible refine' wa_cons ?_)
  | (with_reducible refine' we_non ?_) | (with_reducible refine' we_bl ?_) | (with_reducible refine' we_str ?_) | (with_reducible refine' we_ty ?_)
  | (with_reducible refine' we_cb ?_) | (with_reducible refine' wc_lenI ?_) | (with_reducible refine' wc_lenT ?_) | ((with_reducible refine' wc_lenL ?hat ?_); (case hat => walk_at "at"))
  | (with_reducible refine' wc_tupT ?_) | ((with_reducible refine' wc_tupL ?hat ?_); (case hat => walk_at "at"))
  | (with_reducible refine' wc_listT (fun _ => ?_)) | ((with_reducible refine' wc_listL ?hat (fun _ => ?_)); (case hat => walk_at "at"))
  | (with_reducible refine' wt_test ?_) | (with_reducible refine' wt_B ?_) | (with_reducible refine' wt_and ?_) | (with_reducible refine' wt_or ?_) | (with_reducible refine' wt_not ?_) | (with_reducible refine' wt_yes ?_)
  | (with_reducible refine' we_chain ?_) | (with_reducible refine' we_orV ?_) | (with_reducible refine' we_andV ?_) | (with_reducible refine' we_din ?_) | (with_reducible refine' we_neg ?_)
  | (with_reducible refine' we_sl ?_) | (with_reducible refine' wo_no ?_) | (with_reducible refine' wo_part ?_)
  | (with_reducible refine' we_meth ?_) | ((with_reducible refine' tk_intro ?htk ?_); (case htk => decide +kernel)) | (with_reducible refine' we_call ?_)
  | (with_reducible refine' we_app ?_) | (with_reducible refine' we_pop0 ?_)
  | (with_reducible refine' ws_seqA ?_) | (with_reducible refine' ws_seqI ?_) | (with_reducible refine' ws_seqD ?_) | (with_reducible refine' ws_ret ?_) | (with_reducible refine' ws_asgN ?_) | (with_reducible refine' ws_asg ?_) | (with_reducible refine' ws_drop ?_) | (with_reducible refine' ws_if ?_) | (with_reducible refine' ws_nx ?_)
  | (with_reducible refine' ws_seqG ?_) | (with_reducible refine' ws_seqJ ?_)
  | (with_reducible refine' wg_name ?_) | (with_reducible refine' wg_tup rfl ?_) | (with_reducible refine' wg_row ?_) | (with_reducible refine' wg_mv ?_) | (with_reducible refine' wgs_cons ?_) | (with_reducible refine' wgs_nil ?_))
local macro_rules | `(tactic| walk_at "W") => `(tactic| repeat walk_at "w")
local macro_rules | `(tactic| walk_at "sp") => `(tactic| repeat first | exact Split.nil | refine' Split.take ?_ | refine' Split.leave ?_)
theorem ws_perm {Γ : G} {t : TS} {E : AE} {env : Env} {M M' : Mm} (p : M'.Perm M) (h : WS Γ t E env M') : WS Γ t E env M := fun σ H Dn o l => h σ H Dn (o.perm p) l
section
variable {P : Program} {w : World} {K : PySem.W.Frag} {mg : Str → Option Value} {base : Heap}
def sBehind : List D → Mm → (D → Mm → Prop) → Prop := fun ds F k => ∃ (ps pR : Addr) (steps : List Stp) (R : List (List Int)) (st : Int) (pile dsc : List Int) (z : Int), ds = [.obj ps, cgD st pile, .obj pR, tupI dsc] ∧ F = [(ps, steps.map lsD), (pR, R.map tupI)] ∧ (∀ s ∈ steps, s.laid.length ≤ 2) ∧ (∀ u ∈ R, u.length ≤ Bd) ∧
  behGo steps R st pile dsc = some (z, pile.drop dsc.length) ∧ dsc.length < pile.length ∧ (∀ i c, behGo steps R st pile (dsc.take i) = some c → c.2.length ≤ 1000) ∧ k (cgD z (pile.drop dsc.length)) F
theorem scLawBehind : FnScope ["_law_steps", "_law_configuration", "_law_runs_here", "_law_descent", "_law_reached", "_law_index"] ["_law_steps", "_law_configuration", "_law_runs_here", "_law_descent"] K69.dLawBehind.scope := ⟨rfl, rfl, rfl, by decide +kernel, rfl, by decide +kernel, by decide +kernel⟩
theorem ok_behind (T : Txt K mg) (oLawFollowed : Ok1 P w K mg base K69.dLawFollowed 1 ["_law_steps", "_law_configuration", "_law_run"] (spOf sFollowed)) : Ok1 P w K mg base K69.dLawBehind 2 ["_law_steps", "_law_configuration", "_law_runs_here", "_law_descent"] (spOf sBehind) := by
  refine mk_ok (N := ["_law_steps", "_law_configuration", "_law_runs_here", "_law_descent", "_law_reached", "_law_index"]) (T.c.def_ 33 (d := K69.dLawBehind) rfl) scLawBehind rfl (fun _ _ _ _ _ _ us hl => match us, hl with | [_, _, _, _], _ => rfl) ?_ (fun cdv A outer s H E hr => ⟨_, (pss_cons (ps_set (i := 4) scLawBehind.nd rfl (by first | exact Or.inl rfl | exact Or.inr rfl) (pv 1))
  (pss_cons (ps_for PassesOwn.never rfl (pi_X (pi_list (pv 3)) (pi_tup (pv 3))) (pg_name (i := 5) scLawBehind.nd rfl (by first | exact Or.inl rfl | exact Or.inr rfl)) (pss_cons (ps_if (pt_not (pt_chain op_le op_lt pe_int (pv 5) (pe_callB call_lenX (by rfl) (T.free 53) (by decide +kernel) (pa_cons (pv 2) pa_nil)))) (pss_one (ps_ret (pe_non))) pss_nil)
  (pss_cons (ps_set (i := 4) scLawBehind.nd rfl (by first | exact Or.inl rfl | exact Or.inr rfl) (pe_fn oLawFollowed rfl hr rfl (T.glo 25) (pa_cons (pv 0) (pa_cons (pv 4) (pa_cons (pe_ix ix_seq (pv 2) (pv 5) (fun _ _ => rfl)) pa_nil)))))
  (pss_one (ps_if (pt_cmpR op_isN (pv 4) pe_non (nomark _)) (pss_one (ps_ret (pe_non))) pss_nil)))))
  (pss_cons (ps_if (PW.pt (pw_or (pt_cmpR (op_neX hr.units) (pe_ix ix_seq (pv 4) pe_int (fun _ _ => rfl)) (pe_slice sl_X (pe_ix ix_seq (pv 1) pe_int (fun _ _ => rfl)) (po_some (pe_callB call_lenX (by rfl) (T.free 53) (by decide +kernel) (pa_cons (pv 3) pa_nil))) po_none) (nomark _)) (pw_or1 (pt_cmpR (op_eqX hr.units) (pe_callB call_lenX (by rfl) (T.free 53) (by decide +kernel) (pa_cons (pe_ix ix_seq (pv 4) pe_int (fun _ _ => rfl)) pa_nil)) pe_int (nomark _))))) (pss_one (ps_ret (pe_non))) pss_nil)
  (pss_one (ps_ret (pv 4)))))), fun ds F k Γ hs hw => ?_⟩)
  · rintro _ _ _ ⟨_, _, _, _, _, _, _, _, rfl, _⟩
    rfl
  · obtain ⟨ps, pR, steps, R, st, pile, dsc, z, rfl, rfl, h2, hB, hg, hl, hb, hk⟩ := hs
    change WS _ _ _ [_, _, _, _, _, _] _; dsimp only [cxOf, Cx.nox, Cx.wish]
    walk_at "W"
    refine ws_seq (ws_forT (fun i env M => ∃ (c : Int × List Int) (a : Option D), behGo steps R st pile (dsc.take i) = some c ∧ M = [(ps, steps.map lsD), (pR, R.map tupI)] ∧ env = [some (.obj ps), some (cgD st pile), some (.obj pR), some (tupI dsc), some (cgD c.1 c.2), a]) ?_)
    walk_at "W"
    refine ⟨_, rfl, ⟨(st, pile), none, rfl, rfl, rfl⟩, ?_, ?_⟩
    · rintro i x env M hx ⟨c, a, hc, rfl, rfl⟩
      obtain ⟨q, hq, rfl⟩ := map_get hx
      have hs := behGo_snoc (steps := steps) (R := R) (xs := dsc.take i) (st := st) (pile := pile) (i := q)
      rw [← take_succ' hq, hc, Option.bind_some] at hs
      have hn : behGo steps R st pile (dsc.take (i + 1)) ≠ none := fun z => by
        have e := behGo_none (ys := dsc.drop (i + 1)) z
        rw [List.take_append_drop, hg] at e
        cases e
      have hs : behGo steps R st pile (dsc.take (i + 1)) = if 0 ≤ q ∧ q < R.length then (R[q.toNat]?).bind fun u => (folGo steps c.1 c.2 u).bind fun c => some (c.1, c.2) else none := hs
      walk_at "W"
      refine di (fun h0 => ?_) (fun h0 => ?_)
      · walk_at "W"
        rw [List.length_map]
        refine din (fun h1 => ?_) (fun h1 => ?_)
        · rw [if_neg (fun z => h1 z.2)] at hs
          exact absurd hs hn
        · rw [if_pos ⟨h0, h1⟩] at hs
          obtain ⟨u, hu⟩ := get_in h0 h1
          rw [hu, Option.bind_some] at hs
          have hub := hB u (List.mem_of_getElem? hu)
          have hcb := hb i c hc
          walk_at "W"
          refine wr_ixL at1 (atI_map h0 hu) ?_
          walk_at "W"
          refine ⟨[(ps, steps.map lsD)], [(pR, R.map tupI)], .take (.leave .nil), ps, steps, c.1, c.2, u, rfl, rfl, h2, ?_, ?_⟩
          · have : Bd + 1010 ≤ sizeLine := by decide
            omega
          · cases hf : folGo steps c.1 c.2 u with
            | none =>
              rw [hf] at hs
              exact absurd hs hn
            | some c2 =>
              rw [hf, Option.bind_some] at hs
              dsimp only [optE]
              refine ws_perm (List.Perm.swap _ _ _) ?_
              walk_at "W"
              exact ⟨c2, _, hs, rfl, rfl⟩
      · rw [if_neg (fun z => h0 z.1)] at hs
        exact absurd hs hn
    · rintro env M ⟨c, a, hc, rfl, rfl⟩
      rw [List.length_map, List.take_length, hg] at hc
      cases hc
      walk_at "W"
      refine ix_cg1 ?_
      walk_at "W"
      refine ix_cg1 ?_
      walk_at "W"
      refine .inl ⟨_, rfl, ?_⟩
      rw [cut_drop]
      refine wr_neT (ns := pile.drop dsc.length) ?_
      walk_at "W"
      refine din (fun h3 => absurd rfl h3) (fun _ => ?_)
      walk_at "W"
      refine ix_cg1 ?_
      walk_at "W"
      refine di (fun h3 => ?_) (fun _ => ?_)
      · rw [List.length_drop] at h3
        omega
      · walk_at "W"
        exact hk
end
end A

set_option Elab.async false
set_option linter.all false
set_option maxRecDepth 100000
set_option maxHeartbeats 8000000
namespace A
open PySem PySem.Spec PyProof.Rows L2
local macro_rules | `(tactic| walk_at "at") => `(tactic| first | exact at0 | exact at1 | exact at2 | exact at3 | exact at4 | exact at5 | exact at6 | exact at7)
local macro_rules | `(tactic| walk_at "fl") => `(tactic| first
  | (with_reducible refine' fl_laid (by assumption) ?_) | (with_reducible refine' fl_goal (by assumption) ?_) | (with_reducible refine' fl_state (by assumption) ?_) | (with_reducible refine' fl_letter (by assumption) ?_)
  | (with_reducible refine' fl_steps (by assumption) ?_) | (with_reducible refine' fl_marks (by assumption) ?_) | (with_reducible refine' fl_entries (by assumption) ?_) | (with_reducible refine' fl_weight (by assumption) ?_) | (with_reducible refine' fl_msteps (by assumption) ?_))
local macro_rules | `(tactic| walk_at "ix") => `(tactic| first
  | (with_reducible refine' ix_en0 ?_) | (with_reducible refine' ix_en1 ?_) | (with_reducible refine' ix_en2 ?_) | (with_reducible refine' ix_en3 ?_) | (with_reducible refine' ix_row0 ?_) | (with_reducible refine' ix_row1 ?_) | (with_reducible refine' ix_mv0 ?_) | (with_reducible refine' ix_mvS ?_) | (with_reducible refine' ix_mvN ?_) | (with_reducible refine' ix_mv1 ?_) | (with_reducible refine' ix_hd0 ?_) | (with_reducible refine' ix_hd1 ?_))
local macro_rules | `(tactic| walk_at "w") => `(tactic| first
  | ((with_reducible refine' we_var ?hvar ?_); (case hvar => rfl))
  | (with_reducible refine' we_int ?_)
  | (with_reducible refine' we_op ?_)
  | (with_reducible refine' wr_add ?_) | (with_reducible refine' wr_sub ?_)
  | ((with_reducible refine' wr_ixT ?hix ?_); (case hix => rfl))
  | ((with_reducible refine' wr_mod ?hmod ?_); (case hmod => first | decide | omega | assumption))
  | ((with_reducible refine' wr_div ?hdiv ?_); (case hdiv => exact ⟨by decide, by decide⟩))
  | (with_reducible refine' wr_eqI ?_) | (with_reducible refine' wr_neI ?_) | (with_reducible refine' wr_lt ?_) | (with_reducible refine' wr_le ?_) | (with_reducible refine' wr_gt ?_) | (with_reducible refine' wr_ge ?_)
  | ((with_reducible refine' isn0 ?hisn ?_); (case hisn => rfl)) | ((with_reducible refine' isn1 ?hisn ?_); (case hisn => rfl)) | ((with_reducible refine' ntn0 ?hisn ?_); (case hisn => rfl)) | ((with_reducible refine' ntn1 ?hisn ?_); (case hisn => rfl))
  | (with_reducible refine' wr_isN ?_) | (with_reducible refine' wr_notN ?_) | (with_reducible refine' wr_eqS ?_)
  | (with_reducible refine' d0n ?_) | (with_reducible refine' d1n ?_) | (with_reducible refine' d0 rfl ?_) | (with_reducible refine' d1 rfl ?_) | (with_reducible refine' bl_intro ?_) | (with_reducible refine' int_intro ?_) | ((with_reducible refine' And.intro ?hlen ?_); (case hlen => exact len_le rfl); try (with_reducible intro _))
  | (walk_at "ix")
  | (with_reducible refine' we_fldP ?_) | (walk_at "fl")
  | (with_reducible refine' we_tup ?_) | (with_reducible refine' we_lst ?_)
  | (with_reducible refine' wa_nil ?_) | (with_reducible refine' wa_cons ?_)
  | (with_reducible refine' we_non ?_) | (with_reducible refine' we_bl ?_) | (with_reducible refine' we_str ?_) | (with_reducible refine' we_ty ?_)
  | (with_reducible refine' we_cb ?_) | (with_reducible refine' wc_lenI ?_) | (with_reducible refine' wc_lenT ?_) | ((with_reducible refine' wc_lenL ?hat ?_); (case hat => walk_at "at"))
  | (with_reducible refine' wc_tupT ?_) | ((with_reducible refine' wc_tupL ?hat ?_); (case hat => walk_at "at"))
  | (with_reducible refine' wc_listT (fun _ => ?_)) | ((with_reducible refine' wc_listL ?hat (fun _ => ?_)); (case hat => walk_at "at"))
  | (with_reducible refine' wt_test ?_) | (with_reducible refine' wt_B ?_) | (with_reducible refine' wt_and ?_) | (with_reducible refine' wt_or ?_) | (with_reducible refine' wt_not ?_) | (with_reducible refine' wt_yes ?_)
  | (with_reducible refine' we_chain ?_) | (with_reducible refine' we_orV ?_) | (with_reducible refine' we_andV ?_) | (with_reducible refine' we_din ?_) | (with_reducible refine' we_neg ?_)
  | (with_reducible refine' we_sl ?_) | (with_reducible refine' wo_no ?_) | (with_reducible refine' wo_part ?_)
  | (with_reducible refine' we_meth ?_) | ((with_reducible refine' tk_intro ?htk ?_); (case htk => decide +kernel)) | (with_reducible refine' we_call ?_)
  | (with_reducible refine' we_app ?_) | (with_reducible refine' we_pop0 ?_)
  | (with_reducible refine' ws_seqA ?_) | (with_reducible refine' ws_seqI ?_) | (with_reducible refine' ws_seqD ?_) | (with_reducible refine' ws_ret ?_) | (with_reducible refine' ws_asgN ?_) | (with_reducible refine' ws_asg ?_) | (with_reducible refine' ws_drop ?_) | (with_reducible refine' ws_if ?_) | (with_reducible refine' ws_nx ?_)
  | (with_reducible refine' ws_seqG ?_) | (with_reducible refine' ws_seqJ ?_)
  | (with_reducible refine' wg_name ?_) | (with_reducible refine' wg_tup rfl ?_) | (with_reducible refine' wg_row ?_) | (with_reducible refine' wg_mv ?_) | (with_reducible refine' wgs_cons ?_) | (with_reducible refine' wgs_nil ?_))
local macro_rules | `(tactic| walk_at "W") => `(tactic| repeat walk_at "w")
local macro_rules | `(tactic| walk_at "sp") => `(tactic| repeat first | exact Split.nil | refine' Split.take ?_ | refine' Split.leave ?_)
/-- all that the law looks at -/
structure GoesOn (steps : List Stp) (ms : List Int) (st : Int) (pile : List Int) (p : Paper) : Prop where
  rows : p.rows.length < 1000
  parts : ∀ r ∈ p.rows, r.2.length ≤ 3
  laid : ∀ s ∈ steps, s.laid.length ≤ 2
  ex : ∃ (R : List (List Int)) (z : Int) (w g : List Int) (B : Nat) (c : Nat → Int × List Int), runsGo [] p.rows = some R ∧ (∀ u ∈ R, u.length ≤ B) ∧ B ≤ Bd ∧
    behGo steps R st pile p.descent = some (z, pile.drop p.descent.length) ∧ p.descent.length < pile.length ∧ (∀ i c, behGo steps R st pile (p.descent.take i) = some c → c.2.length ≤ 1000) ∧
    runOf R [] p.way = some w ∧ runOf R [] p.ring = some g ∧ p.way.length * (B + 1) ≤ 16000000 ∧ p.ring.length * (B + 1) ≤ 16000000 ∧ w.length ≤ 16000000 ∧ g.length ≤ 16000000 ∧ pile.length ≤ 1000 ∧ (∃ i ∈ g, i ∈ ms) ∧
    folGo steps z (pile.drop p.descent.length) w = some (c 0) ∧ (∀ i, i < 3 → folGo steps (c i).1 (c i).2 g = some (c (i + 1))) ∧ (∀ i, i ≤ 3 → (c i).2.length ≤ 1000 ∧ (c i).2 ≠ []) ∧
    (∀ i, i < 3 → (c (i + 1)).1 = (c i).1 ∧ (c (i + 1)).2.take 1 = (c i).2.take 1 ∧ (c i).2.length ≤ (c (i + 1)).2.length ∧ (c (i + 1)).2.drop ((c (i + 1)).2.length - (c i).2.length + 1) = (c i).2.drop 1)
section
variable {P : Program} {w : World} {K : PySem.W.Frag} {mg : Str → Option Value} {base : Heap}
theorem ix_papP1 {Γ : G} {env : Env} {M : Mm} {k : D → Mm → Prop} {p : Paper} (h : k (.tup (p.rows.map rowD)) M) : WR Γ (rIx K) (papD p) (.int 1) env M k := wr_ixT rfl h
theorem ix_papP2 {Γ : G} {env : Env} {M : Mm} {k : D → Mm → Prop} {p : Paper} (h : k (tupI p.descent) M) : WR Γ (rIx K) (papD p) (.int 2) env M k := wr_ixT rfl h
theorem ix_papP3 {Γ : G} {env : Env} {M : Mm} {k : D → Mm → Prop} {p : Paper} (h : k (.tup (p.way.map mvD)) M) : WR Γ (rIx K) (papD p) (.int 3) env M k := wr_ixT rfl h
theorem ix_papP4 {Γ : G} {env : Env} {M : Mm} {k : D → Mm → Prop} {p : Paper} (h : k (.tup (p.ring.map mvD)) M) : WR Γ (rIx K) (papD p) (.int 4) env M k := wr_ixT rfl h
def sGoesOn : List D → Mm → (D → Mm → Prop) → Prop := fun ds F k => ∃ (ps pm : Addr) (steps : List Stp) (ms : List Int) (st : Int) (pile : List Int) (p : Paper), ds = [.obj ps, .obj pm, cgD st pile, papD p] ∧ F = [(ps, steps.map lsD), (pm, ms.map D.int)] ∧ GoesOn steps ms st pile p ∧ k (.bl true) F
theorem scLawGoesOn : FnScope ["_law_steps", "_law_marked", "_law_configuration", "_law_paper", "_law_runs_here", "_law_reached", "_law_way", "_law_ring", "_law_index", "_law_k", "_law_after"] ["_law_steps", "_law_marked", "_law_configuration", "_law_paper"] K69.dLawGoesOn.scope := ⟨rfl, rfl, rfl, by decide +kernel, rfl, by decide +kernel, by decide +kernel⟩
theorem ok_goes_on (T : Txt K mg) (oLawRuns : Ok1 P w K mg base K69.dLawRuns 1 ["_law_rows"] (spOf sRuns)) (oLawRunOf : Ok1 P w K mg base K69.dLawRunOf 1 ["_law_runs_here", "_law_moves"] (spOf sRunOf)) (oLawFollowed : Ok1 P w K mg base K69.dLawFollowed 1 ["_law_steps", "_law_configuration", "_law_run"] (spOf sFollowed)) (oLawBehind : Ok1 P w K mg base K69.dLawBehind 2 ["_law_steps", "_law_configuration", "_law_runs_here", "_law_descent"] (spOf sBehind)) :
    Ok1 P w K mg base K69.dLawGoesOn 3 ["_law_steps", "_law_marked", "_law_configuration", "_law_paper"] (spOf sGoesOn) := by
  refine mk_okG (N := ["_law_steps", "_law_marked", "_law_configuration", "_law_paper", "_law_runs_here", "_law_reached", "_law_way", "_law_ring", "_law_index", "_law_k", "_law_after"]) (T.c.def_ 34 (d := K69.dLawGoesOn) rfl) scLawGoesOn rfl (fun _ _ _ _ _ _ us hl => match us, hl with | [_, _, _, _], _ => rfl) ?_ (fun cdv A outer s H E hr => ⟨_, (pss_cons (ps_set (i := 4) scLawGoesOn.nd rfl (by first | exact Or.inl rfl | exact Or.inr rfl) (pe_fn oLawRuns rfl (hr.mono (by decide)) rfl (T.glo 23) (pa_cons (pe_ix ix_seq (pv 3) pe_int (fun _ _ => rfl)) pa_nil)))
  (pss_cons (ps_if (pt_cmpR op_isN (pv 4) pe_non (nomark _)) (pss_one (ps_ret (pe_bl))) pss_nil)
  (pss_cons (ps_set (i := 5) scLawGoesOn.nd rfl (by first | exact Or.inl rfl | exact Or.inr rfl) (pe_fn oLawBehind rfl hr rfl (T.glo 26) (pa_cons (pv 0) (pa_cons (pv 2) (pa_cons (pv 4) (pa_cons (pe_ix ix_seq (pv 3) pe_int (fun _ _ => rfl)) pa_nil))))))
  (pss_cons (ps_set (i := 6) scLawGoesOn.nd rfl (by first | exact Or.inl rfl | exact Or.inr rfl) (pe_fn oLawRunOf rfl (hr.mono (by decide)) rfl (T.glo 24) (pa_cons (pv 4) (pa_cons (pe_ix ix_seq (pv 3) pe_int (fun _ _ => rfl)) pa_nil))))
  (pss_cons (ps_set (i := 7) scLawGoesOn.nd rfl (by first | exact Or.inl rfl | exact Or.inr rfl) (pe_fn oLawRunOf rfl (hr.mono (by decide)) rfl (T.glo 24) (pa_cons (pv 4) (pa_cons (pe_ix ix_seq (pv 3) pe_int (fun _ _ => rfl)) pa_nil))))
  (pss_cons (ps_if (PW.pt (pw_or (pt_cmpR op_isN (pv 5) pe_non (nomark _)) (pw_or (pt_cmpR op_isN (pv 6) pe_non (nomark _)) (pw_or (pt_cmpR op_isN (pv 7) pe_non (nomark _)) (pw_or1 (pt_cmpR (op_eqX hr.units) (pe_callB call_lenX (by rfl) (T.free 53) (by decide +kernel) (pa_cons (pe_lc (own := [("_law_index", 8)]) (g := gName 8) rfl scLawGoesOn.nd (pi_X (pi_list (pv 7)) (pi_tup (pv 7))) (blkOk_by (own := [("_law_index", 8)]) (N := ["_law_steps", "_law_marked", "_law_configuration", "_law_paper", "_law_runs_here", "_law_reached", "_law_way", "_law_ring", "_law_index", "_law_k", "_law_after"]) (sc := K69.dLawGoesOn.scope) (by decide +kernel)) (fun _ _ _ _ _ => pg_name (i := 8) scLawGoesOn.nd rfl (Or.inl rfl)) (fun _ _ _ _ _ => pts_one (pt_cmpR (op_inK K) (pv 8) (pv 1) (by with_unfolding_all rfl))) (fun _ _ _ _ _ => pv 8)) pa_nil)) pe_int (nomark _))))))) (pss_one (ps_ret (pe_bl))) pss_nil)
  (pss_cons (ps_set (i := 5) scLawGoesOn.nd rfl (by first | exact Or.inl rfl | exact Or.inr rfl) (pe_fn oLawFollowed rfl (hr.mono (by decide)) rfl (T.glo 25) (pa_cons (pv 0) (pa_cons (pv 5) (pa_cons (pv 6) pa_nil)))))
  (pss_cons (ps_for PassesOwn.never rfl (pi_range1 (by rfl) (T.free 56) (pa_cons pe_int pa_nil)) (pg_name (i := 9) scLawGoesOn.nd rfl (by first | exact Or.inl rfl | exact Or.inr rfl)) (pss_cons (ps_if (PW.pt (pw_or (pt_cmpR op_isN (pv 5) pe_non (nomark _)) (pw_or1 (pt_cmpR (op_eqX hr.units) (pe_callB call_lenX (by rfl) (T.free 53) (by decide +kernel) (pa_cons (pe_ix ix_seq (pv 5) pe_int (fun _ _ => rfl)) pa_nil)) pe_int (nomark _))))) (pss_one (ps_ret (pe_bl))) pss_nil)
  (pss_cons (ps_set (i := 10) scLawGoesOn.nd rfl (by first | exact Or.inl rfl | exact Or.inr rfl) (pe_fn oLawFollowed rfl (hr.mono (by decide)) rfl (T.glo 25) (pa_cons (pv 0) (pa_cons (pv 5) (pa_cons (pv 7) pa_nil)))))
  (pss_cons (ps_if (PW.pt (pw_or (pt_cmpR op_isN (pv 10) pe_non (nomark _)) (pw_or (pt_cmpR (op_neX hr.units) (pe_ix ix_seq (pv 10) pe_int (fun _ _ => rfl)) (pe_ix ix_seq (pv 5) pe_int (fun _ _ => rfl)) (nomark _)) (pw_or1 (pt_cmpR (op_neX hr.units) (pe_slice sl_X (pe_ix ix_seq (pv 10) pe_int (fun _ _ => rfl)) po_none (po_some pe_int)) (pe_slice sl_X (pe_ix ix_seq (pv 5) pe_int (fun _ _ => rfl)) po_none (po_some pe_int)) (nomark _)))))) (pss_one (ps_ret (pe_bl))) pss_nil)
  (pss_cons (ps_if (PW.pt (pw_or (pt_cmpR op_lt (pe_callB call_lenX (by rfl) (T.free 53) (by decide +kernel) (pa_cons (pe_ix ix_seq (pv 10) pe_int (fun _ _ => rfl)) pa_nil)) (pe_callB call_lenX (by rfl) (T.free 53) (by decide +kernel) (pa_cons (pe_ix ix_seq (pv 5) pe_int (fun _ _ => rfl)) pa_nil)) (nomark _)) (pw_or1 (pt_cmpR (op_neX hr.units) (pe_slice sl_X (pe_ix ix_seq (pv 10) pe_int (fun _ _ => rfl)) (po_some (pe_op op_addX (pe_op op_sub (pe_callB call_lenX (by rfl) (T.free 53) (by decide +kernel) (pa_cons (pe_ix ix_seq (pv 10) pe_int (fun _ _ => rfl)) pa_nil)) (pe_callB call_lenX (by rfl) (T.free 53) (by decide +kernel) (pa_cons (pe_ix ix_seq (pv 5) pe_int (fun _ _ => rfl)) pa_nil))) pe_int)) po_none) (pe_slice sl_X (pe_ix ix_seq (pv 5) pe_int (fun _ _ => rfl)) (po_some pe_int) po_none) (nomark _))))) (pss_one (ps_ret (pe_bl))) pss_nil)
  (pss_one (ps_set (i := 5) scLawGoesOn.nd rfl (by first | exact Or.inl rfl | exact Or.inr rfl) (pv 10))))))))
  (pss_one (ps_ret (pe_bl))))))))))), fun ds F k Γ hs hw => ?_⟩)
  · rintro _ _ _ ⟨_, _, _, _, _, _, _, rfl, _⟩
    rfl
  · obtain ⟨ps, pm, steps, ms, st, pile, p, rfl, rfl, ⟨g1, g2, g3, R, z, w, g, B, c, hR, hB, hBd, hb, hdl, hbl, hw1, hg, hwl, hgl, hwn, hgn, hpl, hmk, hc0, hcs, hcl, hck⟩, hk⟩ := hs
    change WS _ _ _ [_, _, _, _, _, _, _, _, _, _, _] _; dsimp only [cxOf, Cx.nox, Cx.wish]
    walk_at "W"
    refine ix_papP1 ?_
    walk_at "W"
    refine ⟨[], _, Split.none _, p.rows, R, rfl, rfl, g1, hR, fun u hu => Nat.le_trans (hB u hu) hBd, g2, fun pR => ?_⟩
    walk_at "W"
    refine ix_papP2 ?_
    walk_at "W"
    refine ⟨[(ps, steps.map lsD), (pR, R.map tupI)], [(pm, ms.map D.int)], .take (.leave (.take .nil)), ps, pR, steps, R, st, pile, p.descent, z, rfl, rfl, g3, fun u hu => Nat.le_trans (hB u hu) hBd, hb, hdl, hbl, ?_⟩
    walk_at "W"
    refine ix_papP3 ?_
    walk_at "W"
    refine ⟨[(pR, R.map tupI)], [(pm, ms.map D.int), (ps, steps.map lsD)], .leave (.leave (.take .nil)), pR, R, p.way, w, B, rfl, rfl, hw1, hB, Nat.le_trans hwl (by decide), ?_⟩
    walk_at "W"
    refine ix_papP4 ?_
    walk_at "W"
    refine ⟨[(pR, R.map tupI)], [(pm, ms.map D.int), (ps, steps.map lsD)], .leave (.leave (.take .nil)), pR, R, p.ring, g, B, rfl, rfl, hg, hB, Nat.le_trans hgl (by decide), ?_⟩
    walk_at "W"
    refine we_lcT (fun i acc M => M = [(pm, ms.map D.int), (ps, steps.map lsD), (pR, R.map tupI)] ∧ acc.length ≤ i ∧ ∀ x ∈ g.take i, x ∈ ms → acc ≠ []) ?_
    walk_at "W"
    refine ⟨_, rfl, ⟨rfl, Nat.le_refl _, fun x hx => nomatch hx⟩, ?_, ?_⟩
    · rintro i x acc M pl hx ⟨rfl, hal, ham⟩
      obtain ⟨q, hq, rfl⟩ := map_get hx
      have hil := (List.getElem?_eq_some_iff.mp hq).1
      unfold Turn1
      walk_at "W"
      refine wr_inL at0 ?_
      walk_at "W"
      refine di (fun h0 => ?_) (fun h0 => ?_)
      · walk_at "W"
        refine ⟨_, List.Sublist.refl _, Nat.lt_of_le_of_lt hal (Nat.lt_of_lt_of_le hil (Nat.le_trans hgn (by decide))), rfl, by simp; omega, fun _ _ _ => by simp⟩
      · refine ⟨_, List.Sublist.refl _, rfl, by omega, ?_⟩
        rw [take_succ' hq]
        intro y hy hm
        rcases List.mem_append.mp hy with hy | hy
        · exact ham y hy hm
        · rw [List.mem_singleton.mp hy] at hm
          exact absurd hm h0
    · rintro acc M pl ⟨rfl, hal, ham⟩
      rw [List.length_map, List.take_length] at ham
      have hne : acc ≠ [] := by
        obtain ⟨i, hi, him⟩ := hmk
        exact ham i hi him
      walk_at "W"
      refine di (fun h0 => ?_) (fun _ => ?_)
      · exact absurd (List.length_eq_zero_iff.mp (by omega)) hne
      · refine ws_weak (Weak.refl _) (List.sublist_append_left _ _) ?_
        walk_at "W"
        refine ⟨[(ps, steps.map lsD)], [(pm, ms.map D.int), (pR, R.map tupI)], .leave (.take (.leave .nil)), ps, steps, z, pile.drop p.descent.length, w, rfl, rfl, g3, ?_, ?_⟩
        · rw [List.length_drop]
          have : 16000000 + 1010 ≤ sizeLine := by decide
          omega
        · rw [hc0]
          dsimp only [optE]
          refine ws_seq (ws_forR (fun i env M => i ≤ 3 → ∃ (a b : Option D), M = [(pm, ms.map D.int), (pR, R.map tupI), (ps, steps.map lsD)] ∧ env = [some (.obj ps), some (.obj pm), some (cgD st pile), some (papD p), some (.obj pR), some (cgD (c i).1 (c i).2), some (tupI w), some (tupI g), none, a, b]) ?_)
          walk_at "W"
          refine ⟨3, rfl, by decide, by decide, fun _ => ⟨none, none, rfl, rfl⟩, ?_, ?_⟩
          · intro i env M hi3 hinv
            have hi : i < 3 := by omega
            obtain ⟨a, b, rfl, rfl⟩ := hinv (by omega)
            obtain ⟨l1, n1⟩ := hcl i (by omega)
            obtain ⟨l2, n2⟩ := hcl (i + 1) (by omega)
            obtain ⟨k1, k2, k3, k4⟩ := hck i hi
            walk_at "W"
            refine ix_cg1 ?_
            walk_at "W"
            refine di (fun h0 => absurd (List.length_eq_zero_iff.mp (by omega)) n1) (fun _ => ?_)
            walk_at "W"
            refine ⟨[(ps, steps.map lsD)], [(pm, ms.map D.int), (pR, R.map tupI)], .leave (.leave (.take .nil)), ps, steps, (c i).1, (c i).2, g, rfl, rfl, g3, ?_, ?_⟩
            · have : 16000000 + 1010 ≤ sizeLine := by decide
              omega
            · rw [hcs i hi]
              dsimp only [optE]
              walk_at "W"
              refine ix_cg0 ?_
              walk_at "W"
              refine ix_cg0 ?_
              walk_at "W"
              refine din (fun h0 => absurd k1 h0) (fun _ => ?_)
              walk_at "W"
              refine ix_cg1 ?_
              walk_at "W"
              refine .inl ⟨_, rfl, ?_⟩
              rw [cut_take1]
              walk_at "W"
              refine ix_cg1 ?_
              walk_at "W"
              refine .inl ⟨_, rfl, ?_⟩
              rw [cut_take1]
              refine wr_neT ?_
              walk_at "W"
              refine din (fun h0 => absurd k2 h0) (fun _ => ?_)
              walk_at "W"
              refine ix_cg1 ?_
              walk_at "W"
              refine ix_cg1 ?_
              walk_at "W"
              refine di (fun h0 => absurd h0 (by omega)) (fun _ => ?_)
              walk_at "W"
              refine ix_cg1 ?_
              walk_at "W"
              refine ix_cg1 ?_
              walk_at "W"
              refine ix_cg1 ?_
              walk_at "W"
              have e1 : ((c (i + 1)).2.length : Int) - ((c i).2.length : Int) + 1 = (((c (i + 1)).2.length - (c i).2.length + 1 : Nat) : Int) := by omega
              rw [e1]
              refine .inl ⟨_, rfl, ?_⟩
              rw [cut_drop, k4]
              walk_at "W"
              refine ix_cg1 ?_
              walk_at "W"
              refine .inl ⟨_, rfl, ?_⟩
              rw [cut_drop1]
              refine wr_neT ?_
              walk_at "W"
              refine din (fun h0 => absurd rfl h0) (fun _ => ?_)
              walk_at "W"
              exact fun _ => ⟨_, _, rfl, rfl⟩
          · intro env M hinv
            obtain ⟨a, b, rfl, rfl⟩ := hinv (by decide)
            refine ws_perm (List.perm_append_comm (l₁ := [(ps, steps.map lsD)]) (l₂ := [(pm, ms.map D.int), (pR, R.map tupI)])) ?_
            walk_at "W"
            exact ⟨[(ps, steps.map lsD), (pm, ms.map D.int)], List.sublist_append_left [(ps, steps.map lsD), (pm, ms.map D.int)] [(pR, R.map tupI)], hk⟩
end
end A

set_option Elab.async false
set_option linter.all false
set_option maxRecDepth 100000
set_option maxHeartbeats 4000000
namespace A
open PySem PySem.Spec PyProof.Rows L2
local macro_rules | `(tactic| walk_at "at") => `(tactic| first | exact at0 | exact at1 | exact at2 | exact at3 | exact at4 | exact at5 | exact at6 | exact at7)
local macro_rules | `(tactic| walk_at "fl") => `(tactic| first
  | (with_reducible refine' fl_laid (by assumption) ?_) | (with_reducible refine' fl_goal (by assumption) ?_) | (with_reducible refine' fl_state (by assumption) ?_) | (with_reducible refine' fl_letter (by assumption) ?_)
  | (with_reducible refine' fl_steps (by assumption) ?_) | (with_reducible refine' fl_marks (by assumption) ?_) | (with_reducible refine' fl_entries (by assumption) ?_) | (with_reducible refine' fl_weight (by assumption) ?_) | (with_reducible refine' fl_msteps (by assumption) ?_))
local macro_rules | `(tactic| walk_at "ix") => `(tactic| first
  | (with_reducible refine' ix_en0 ?_) | (with_reducible refine' ix_en1 ?_) | (with_reducible refine' ix_en2 ?_) | (with_reducible refine' ix_en3 ?_) | (with_reducible refine' ix_row0 ?_) | (with_reducible refine' ix_row1 ?_) | (with_reducible refine' ix_mv0 ?_) | (with_reducible refine' ix_mvS ?_) | (with_reducible refine' ix_mvN ?_) | (with_reducible refine' ix_mv1 ?_) | (with_reducible refine' ix_hd0 ?_) | (with_reducible refine' ix_hd1 ?_))
local macro_rules | `(tactic| walk_at "w") => `(tactic| first
  | ((with_reducible refine' we_var ?hvar ?_); (case hvar => rfl))
  | (with_reducible refine' we_int ?_)
  | (with_reducible refine' we_op ?_)
  | (with_reducible refine' wr_add ?_) | (with_reducible refine' wr_sub ?_)
  | ((with_reducible refine' wr_ixT ?hix ?_); (case hix => rfl))
  | ((with_reducible refine' wr_mod ?hmod ?_); (case hmod => first | decide | omega | assumption))
  | ((with_reducible refine' wr_div ?hdiv ?_); (case hdiv => exact ⟨by decide, by decide⟩))
  | (with_reducible refine' wr_eqI ?_) | (with_reducible refine' wr_neI ?_) | (with_reducible refine' wr_lt ?_) | (with_reducible refine' wr_le ?_) | (with_reducible refine' wr_gt ?_) | (with_reducible refine' wr_ge ?_)
  | ((with_reducible refine' isn0 ?hisn ?_); (case hisn => rfl)) | ((with_reducible refine' isn1 ?hisn ?_); (case hisn => rfl)) | ((with_reducible refine' ntn0 ?hisn ?_); (case hisn => rfl)) | ((with_reducible refine' ntn1 ?hisn ?_); (case hisn => rfl))
  | (with_reducible refine' wr_isN ?_) | (with_reducible refine' wr_notN ?_) | (with_reducible refine' wr_eqS ?_)
  | (with_reducible refine' d0n ?_) | (with_reducible refine' d1n ?_) | (with_reducible refine' d0 rfl ?_) | (with_reducible refine' d1 rfl ?_) | (with_reducible refine' bl_intro ?_) | (with_reducible refine' int_intro ?_) | ((with_reducible refine' And.intro ?hlen ?_); (case hlen => exact len_le rfl); try (with_reducible intro _))
  | (walk_at "ix")
  | (with_reducible refine' we_fldP ?_) | (walk_at "fl")
  | (with_reducible refine' we_tup ?_) | (with_reducible refine' we_lst ?_)
  | (with_reducible refine' wa_nil ?_) | (with_reducible refine' wa_cons ?_)
  | (with_reducible refine' we_non ?_) | (with_reducible refine' we_bl ?_) | (with_reducible refine' we_str ?_) | (with_reducible refine' we_ty ?_)
  | (with_reducible refine' we_cb ?_) | (with_reducible refine' wc_lenI ?_) | (with_reducible refine' wc_lenT ?_) | ((with_reducible refine' wc_lenL ?hat ?_); (case hat => walk_at "at"))
  | (with_reducible refine' wc_tupT ?_) | ((with_reducible refine' wc_tupL ?hat ?_); (case hat => walk_at "at"))
  | (with_reducible refine' wc_listT (fun _ => ?_)) | ((with_reducible refine' wc_listL ?hat (fun _ => ?_)); (case hat => walk_at "at"))
  | (with_reducible refine' wt_test ?_) | (with_reducible refine' wt_B ?_) | (with_reducible refine' wt_and ?_) | (with_reducible refine' wt_or ?_) | (with_reducible refine' wt_not ?_) | (with_reducible refine' wt_yes ?_)
  | (with_reducible refine' we_chain ?_) | (with_reducible refine' we_orV ?_) | (with_reducible refine' we_andV ?_) | (with_reducible refine' we_din ?_) | (with_reducible refine' we_neg ?_)
  | (with_reducible refine' we_sl ?_) | (with_reducible refine' wo_no ?_) | (with_reducible refine' wo_part ?_)
  | (with_reducible refine' we_meth ?_) | ((with_reducible refine' tk_intro ?htk ?_); (case htk => decide +kernel)) | (with_reducible refine' we_call ?_)
  | (with_reducible refine' we_app ?_) | (with_reducible refine' we_pop0 ?_)
  | (with_reducible refine' ws_seqA ?_) | (with_reducible refine' ws_seqI ?_) | (with_reducible refine' ws_seqD ?_) | (with_reducible refine' ws_ret ?_) | (with_reducible refine' ws_asgN ?_) | (with_reducible refine' ws_asg ?_) | (with_reducible refine' ws_drop ?_) | (with_reducible refine' ws_if ?_) | (with_reducible refine' ws_nx ?_)
  | (with_reducible refine' ws_seqG ?_) | (with_reducible refine' ws_seqJ ?_)
  | (with_reducible refine' wg_name ?_) | (with_reducible refine' wg_tup rfl ?_) | (with_reducible refine' wg_row ?_) | (with_reducible refine' wg_mv ?_) | (with_reducible refine' wgs_cons ?_) | (with_reducible refine' wgs_nil ?_))
local macro_rules | `(tactic| walk_at "W") => `(tactic| repeat walk_at "w")
local macro_rules | `(tactic| walk_at "sp") => `(tactic| repeat first | exact Split.nil | refine' Split.take ?_ | refine' Split.leave ?_)
section
variable {P : Program} {w : World} {K : PySem.W.Frag} {mg : Str → Option Value} {base : Heap}
def preStep (K : PySem.W.Frag) : List D → Mm → (List (Str × D) → Mm → Prop) → Prop := fun ds F kf => ∃ (st l g : Int) (ld : List Int), ds = [.int st, .int l, .int g, tupI ld, .int 1] ∧ F = [] ∧
  kf [("state", .int st), ("letter", .int l), ("goal", .int g), ("laid", tupI ld), ("weight", .int 1)] []
theorem nk1 : ¬ (("state" : Str) = "letter") := by decide +kernel
theorem nk2 : ¬ (("state" : Str) = "goal") := by decide +kernel
theorem nk3 : ¬ (("state" : Str) = "laid") := by decide +kernel
theorem nk4 : ¬ (("state" : Str) = "weight") := by decide +kernel
theorem nk5 : ¬ (("letter" : Str) = "goal") := by decide +kernel
theorem nk6 : ¬ (("letter" : Str) = "laid") := by decide +kernel
theorem nk7 : ¬ (("letter" : Str) = "weight") := by decide +kernel
theorem nk8 : ¬ (("goal" : Str) = "laid") := by decide +kernel
theorem nk9 : ¬ (("goal" : Str) = "weight") := by decide +kernel
theorem nk10 : ¬ (("laid" : Str) = "weight") := by decide +kernel
theorem nk11 : ¬ (("states" : Str) = "letters") := by decide +kernel
theorem nk12 : ¬ (("states" : Str) = "steps") := by decide +kernel
theorem nk13 : ¬ (("letters" : Str) = "steps") := by decide +kernel
def sf1 (a : V) : List (Str × V) := [("state", a)]
def sf2 (a b : V) : List (Str × V) := [("state", a), ("letter", b)]
def sf3 (a b c : V) : List (Str × V) := [("state", a), ("letter", b), ("goal", c)]
def sf4 (a b c d : V) : List (Str × V) := [("state", a), ("letter", b), ("goal", c), ("laid", d)]
def sf5 (a b c d e : V) : List (Str × V) := [("state", a), ("letter", b), ("goal", c), ("laid", d), ("weight", e)]
theorem putF_1 (a b : V) : putF "letter" b (sf1 a) = sf2 a b := by simp only [sf1, sf2, putF, if_neg nk1]
theorem putF_2 (a b c : V) : putF "goal" c (sf2 a b) = sf3 a b c := by simp only [sf2, sf3, putF, if_neg nk2, if_neg nk5]
theorem putF_3 (a b c d : V) : putF "laid" d (sf3 a b c) = sf4 a b c d := by simp only [sf3, sf4, putF, if_neg nk3, if_neg nk6, if_neg nk8]
theorem putF_4 (a b c d e : V) : putF "weight" e (sf4 a b c d) = sf5 a b c d e := by simp only [sf4, sf5, putF, if_neg nk4, if_neg nk7, if_neg nk9, if_neg nk10]
theorem scStepInit : FnScope ["self", "state", "letter", "goal", "laid", "weight"] ["self", "state", "letter", "goal", "laid", "weight"] K69.dStepInit.scope := ⟨rfl, rfl, rfl, by decide +kernel, rfl, by decide +kernel, by decide +kernel⟩
theorem ok_stepInit (T : Txt K mg) : OkI P w K mg base K69.dStepInit 1 ["self", "state", "letter", "goal", "laid", "weight"] [.int 1] (spInit (He.ga K "Step") 5 (preStep K)) := by
  obtain ⟨fd, F⟩ := T.c.def_ 10 (d := K69.dStepInit) rfl
  obtain ⟨ds, hv, hb⟩ := FunD.binds1 (ps := ["self", "state", "letter", "goal", "laid", "weight"]) F 5 1 (by simp [He.DefD.dvs, K69.dStepInit]) rfl (fun T kV doc pm an cdv ct us its h1 h2 => by
    match us, h1, its, h2 with
    | [_, _, _, _, _], _, [_, _], _ => exact ⟨_, rfl, rfl⟩)
  refine ⟨fd, ds, F, FunD.ok F scStepInit (fun vs H Q E h => ?_) (fun cdv A outer s H vs Q E hr h => ?_), hv, hb⟩
  · obtain ⟨x, dx, us, ds, F, kf, rfl, hl, _⟩ := h
    show us.length + 1 = 6
    rw [hl]
  · refine ⟨_, PSs.nox (pss_cons (ps_fld (pv 0) (pv 1) rfl)
  (pss_cons (ps_fld (pv 0) (pv 2) rfl)
  (pss_cons (ps_fld (pv 0) (pv 3) rfl)
  (pss_cons (ps_fld (pv 0) (pe_callTy call_tupX (by rfl) (T.free 55) (by decide +kernel) (pa_cons (pv 4) pa_nil)) rfl)
  (pss_one (ps_fld (pv 0) (pv 5) rfl)))))), ?_⟩
    obtain ⟨x, dx, us, ds, F, kf, rfl, hl, hx, r0, rk, ⟨st, l, g, ld, rfl, rfl, hk⟩, m, q⟩ := h
    cases r0 with
    | cons r1 r0 =>
      cases r0 with
      | cons r2 r0 =>
        cases r0 with
        | cons r3 r0 =>
          cases r0 with
          | @cons ul _ _ _ r4 r0 =>
            cases r0 with
            | cons r5 r0 =>
              cases r0
              cases r1; cases r2; cases r3; cases r5
              cases r4 with
              | @tup a vs _ ha ra =>
                have T1 := T.cls 33 (x := "Step")
                have nax : a ≠ x := ne_of ha hx (fun z => nomatch z)
                refine ⟨_, rfl, _, rfl, x, _, dx, [], rfl, hx, T1, T.noat 41 (x := "Step") (f := "state"), by decide, ?_⟩
                show tSeq _ _ _ _ (upd H x (.ins (He.ga K "Step") dx (sf1 (.int st))))
                refine ⟨_, rfl, _, rfl, x, _, dx, _, rfl, upd_same, T1, T.noat 42 (x := "Step") (f := "letter"), by show 1 < 1000; decide, ?_⟩
                rw [upd_upd, putF_1]
                refine ⟨_, rfl, _, rfl, x, _, dx, _, rfl, upd_same, T1, T.noat 43 (x := "Step") (f := "goal"), by show 2 < 1000; decide, ?_⟩
                rw [upd_upd, putF_2]
                refine ⟨_, rfl, a, vs, rfl, .inr ⟨.inl (.inl (by rw [upd_ne nax]; exact ha)), _, rfl, x, _, dx, _, rfl, upd_same, T1, T.noat 44 (x := "Step") (f := "laid"), by show 3 < 1000; decide, ?_⟩⟩
                rw [upd_upd, putF_3]
                refine ⟨_, rfl, _, rfl, x, _, dx, _, rfl, upd_same, T1, T.noat 45 (x := "Step") (f := "weight"), by show 4 < 1000; decide, ?_⟩
                rw [upd_upd, putF_4]
                have keep : FrX x [] H (upd H x (.ins (He.ga K "Step") dx (sf5 (.int st) (.int l) (.int g) (.ref a) (.int 1)))) := fun b o e nb => .inl (by rw [upd_ne nb]; exact e)
                refine q _ _ _ _ hk upd_same ?_ keep ⟨fun e he => (nomatch he), List.nodup_nil⟩ (fun e he => (nomatch he))
                cases rk [] _ keep with
                | cons _ r0 =>
                  cases r0 with
                  | cons _ r0 =>
                    cases r0 with
                    | cons _ r0 =>
                      cases r0 with
                      | cons r4 r0 => exact .cons (.int _) (.cons (.int _) (.cons (.int _) (.cons r4 (.cons (.int _) .nil))))
end
end A

set_option Elab.async false
set_option linter.all false
set_option maxRecDepth 100000
set_option maxHeartbeats 4000000
namespace A
open PySem PySem.Spec PyProof.Rows L2
local macro_rules | `(tactic| walk_at "at") => `(tactic| first | exact at0 | exact at1 | exact at2 | exact at3 | exact at4 | exact at5 | exact at6 | exact at7)
local macro_rules | `(tactic| walk_at "fl") => `(tactic| first
  | (with_reducible refine' fl_laid (by assumption) ?_) | (with_reducible refine' fl_goal (by assumption) ?_) | (with_reducible refine' fl_state (by assumption) ?_) | (with_reducible refine' fl_letter (by assumption) ?_)
  | (with_reducible refine' fl_steps (by assumption) ?_) | (with_reducible refine' fl_marks (by assumption) ?_) | (with_reducible refine' fl_entries (by assumption) ?_) | (with_reducible refine' fl_weight (by assumption) ?_) | (with_reducible refine' fl_msteps (by assumption) ?_))
local macro_rules | `(tactic| walk_at "ix") => `(tactic| first
  | (with_reducible refine' ix_en0 ?_) | (with_reducible refine' ix_en1 ?_) | (with_reducible refine' ix_en2 ?_) | (with_reducible refine' ix_en3 ?_) | (with_reducible refine' ix_row0 ?_) | (with_reducible refine' ix_row1 ?_) | (with_reducible refine' ix_mv0 ?_) | (with_reducible refine' ix_mvS ?_) | (with_reducible refine' ix_mvN ?_) | (with_reducible refine' ix_mv1 ?_) | (with_reducible refine' ix_hd0 ?_) | (with_reducible refine' ix_hd1 ?_))
local macro_rules | `(tactic| walk_at "w") => `(tactic| first
  | ((with_reducible refine' we_var ?hvar ?_); (case hvar => rfl))
  | (with_reducible refine' we_int ?_)
  | (with_reducible refine' we_op ?_)
  | (with_reducible refine' wr_add ?_) | (with_reducible refine' wr_sub ?_)
  | ((with_reducible refine' wr_ixT ?hix ?_); (case hix => rfl))
  | ((with_reducible refine' wr_mod ?hmod ?_); (case hmod => first | decide | omega | assumption))
  | ((with_reducible refine' wr_div ?hdiv ?_); (case hdiv => exact ⟨by decide, by decide⟩))
  | (with_reducible refine' wr_eqI ?_) | (with_reducible refine' wr_neI ?_) | (with_reducible refine' wr_lt ?_) | (with_reducible refine' wr_le ?_) | (with_reducible refine' wr_gt ?_) | (with_reducible refine' wr_ge ?_)
  | ((with_reducible refine' isn0 ?hisn ?_); (case hisn => rfl)) | ((with_reducible refine' isn1 ?hisn ?_); (case hisn => rfl)) | ((with_reducible refine' ntn0 ?hisn ?_); (case hisn => rfl)) | ((with_reducible refine' ntn1 ?hisn ?_); (case hisn => rfl))
  | (with_reducible refine' wr_isN ?_) | (with_reducible refine' wr_notN ?_) | (with_reducible refine' wr_eqS ?_)
  | (with_reducible refine' d0n ?_) | (with_reducible refine' d1n ?_) | (with_reducible refine' d0 rfl ?_) | (with_reducible refine' d1 rfl ?_) | (with_reducible refine' bl_intro ?_) | (with_reducible refine' int_intro ?_) | ((with_reducible refine' And.intro ?hlen ?_); (case hlen => exact len_le rfl); try (with_reducible intro _))
  | (walk_at "ix")
  | (with_reducible refine' we_fldP ?_) | (walk_at "fl")
  | (with_reducible refine' we_tup ?_) | (with_reducible refine' we_lst ?_)
  | (with_reducible refine' wa_nil ?_) | (with_reducible refine' wa_cons ?_)
  | (with_reducible refine' we_non ?_) | (with_reducible refine' we_bl ?_) | (with_reducible refine' we_str ?_) | (with_reducible refine' we_ty ?_)
  | (with_reducible refine' we_cb ?_) | (with_reducible refine' wc_lenI ?_) | (with_reducible refine' wc_lenT ?_) | ((with_reducible refine' wc_lenL ?hat ?_); (case hat => walk_at "at"))
  | (with_reducible refine' wc_tupT ?_) | ((with_reducible refine' wc_tupL ?hat ?_); (case hat => walk_at "at"))
  | (with_reducible refine' wc_listT (fun _ => ?_)) | ((with_reducible refine' wc_listL ?hat (fun _ => ?_)); (case hat => walk_at "at"))
  | (with_reducible refine' wt_test ?_) | (with_reducible refine' wt_B ?_) | (with_reducible refine' wt_and ?_) | (with_reducible refine' wt_or ?_) | (with_reducible refine' wt_not ?_) | (with_reducible refine' wt_yes ?_)
  | (with_reducible refine' we_chain ?_) | (with_reducible refine' we_orV ?_) | (with_reducible refine' we_andV ?_) | (with_reducible refine' we_din ?_) | (with_reducible refine' we_neg ?_)
  | (with_reducible refine' we_sl ?_) | (with_reducible refine' wo_no ?_) | (with_reducible refine' wo_part ?_)
  | (with_reducible refine' we_meth ?_) | ((with_reducible refine' tk_intro ?htk ?_); (case htk => decide +kernel)) | (with_reducible refine' we_call ?_)
  | (with_reducible refine' we_app ?_) | (with_reducible refine' we_pop0 ?_)
  | (with_reducible refine' ws_seqA ?_) | (with_reducible refine' ws_seqI ?_) | (with_reducible refine' ws_seqD ?_) | (with_reducible refine' ws_ret ?_) | (with_reducible refine' ws_asgN ?_) | (with_reducible refine' ws_asg ?_) | (with_reducible refine' ws_drop ?_) | (with_reducible refine' ws_if ?_) | (with_reducible refine' ws_nx ?_)
  | (with_reducible refine' ws_seqG ?_) | (with_reducible refine' ws_seqJ ?_)
  | (with_reducible refine' wg_name ?_) | (with_reducible refine' wg_tup rfl ?_) | (with_reducible refine' wg_row ?_) | (with_reducible refine' wg_mv ?_) | (with_reducible refine' wgs_cons ?_) | (with_reducible refine' wgs_nil ?_))
local macro_rules | `(tactic| walk_at "W") => `(tactic| repeat walk_at "w")
local macro_rules | `(tactic| walk_at "sp") => `(tactic| repeat first | exact Split.nil | refine' Split.take ?_ | refine' Split.leave ?_)
structure Fits (ns nl : Int) (s : Stp) : Prop where
  s0 : 0 ≤ s.state
  s1 : s.state < ns
  g0 : 0 ≤ s.goal
  g1 : s.goal < ns
  l0 : 0 ≤ s.letter
  l1 : s.letter < nl
  n : s.laid.length ≤ 2
  d : ∀ x ∈ s.laid, 0 ≤ x ∧ x < nl
section
variable {P : Program} {w : World} {K : PySem.W.Frag} {mg : Str → Option Value} {base : Heap}
def sFits (K : PySem.W.Frag) : List D → Mm → (D → Mm → Prop) → Prop := fun ds F k => ∃ (ns nl : Int) (s : Stp), ds = [stD K s, .int ns, .int nl] ∧ F = [] ∧ Fits ns nl s ∧ k (.bl true) []
theorem scFits : FnScope ["step", "states", "letters", "letter"] ["step", "states", "letters"] K69.dFits.scope := ⟨rfl, rfl, rfl, by decide +kernel, rfl, by decide +kernel, by decide +kernel⟩
theorem ok_fits (T : Txt K mg) : Ok1 P w K mg base K69.dFits 1 ["step", "states", "letters"] (spOf (sFits K)) := by
  refine mk_okG (N := ["step", "states", "letters", "letter"]) (T.c.def_ 11 (d := K69.dFits) rfl) scFits rfl (fun _ _ _ _ _ _ us hl => match us, hl with | [_, _, _], _ => rfl) ?_ (fun cdv A outer s H E hr => ⟨_, (pss_cons (ps_if (PW.pt (pw_or (pt_not (pt_chain op_le op_lt pe_int (pe_fld (pv 0) rfl) (pv 1))) (pw_or (pt_not (pt_chain op_le op_lt pe_int (pe_fld (pv 0) rfl) (pv 1))) (pw_or1 (pt_not (pt_chain op_le op_lt pe_int (pe_fld (pv 0) rfl) (pv 2))))))) (pss_one (ps_ret (pe_bl))) pss_nil)
  (pss_cons (ps_if (PW.pt (pw_or (pt_cmpR op_gt (pe_callB call_lenX (by rfl) (T.free 53) (by decide +kernel) (pa_cons (pe_fld (pv 0) rfl) pa_nil)) pe_int (nomark _)) (pw_or1 (pt_cmpR op_lt (pe_fld (pv 0) rfl) pe_int (nomark _))))) (pss_one (ps_ret (pe_bl))) pss_nil)
  (pss_one (ps_ret (pe_callB (cr_all rfl) (by rfl) (T.free 60) (by decide +kernel) (pa_cons (pe_lc (own := [("letter", 3)]) (g := gName 3) rfl scFits.nd (pi_X (pi_list (pe_fld (pv 0) rfl)) (pi_tup (pe_fld (pv 0) rfl))) (blkOk_by (own := [("letter", 3)]) (N := ["step", "states", "letters", "letter"]) (sc := K69.dFits.scope) (by decide +kernel)) (fun _ _ _ _ _ => pg_name (i := 3) scFits.nd rfl (Or.inl rfl)) (fun _ _ _ _ _ => pts_nil) (fun _ _ _ _ _ => pe_chain op_le op_lt pe_int (pv 3) (pv 2))) pa_nil)))))), fun ds F k Γ hs hw => ?_⟩)
  · rintro _ _ _ ⟨_, _, _, rfl, _⟩
    rfl
  · obtain ⟨ns, nl, s, rfl, rfl, ⟨s0, s1, g0, g1, l0, l1, n, d⟩, hk⟩ := hs
    change WS _ _ _ [_, _, _, _] _; dsimp only [cxOf, Cx.nox, Cx.wish]
    walk_at "W"
    refine di (fun _ => ?_) (fun h => absurd s0 h)
    walk_at "W"
    refine din (fun h => absurd s1 h) (fun _ => ?_)
    walk_at "W"
    refine di (fun _ => ?_) (fun h => absurd g0 h)
    walk_at "W"
    refine din (fun h => absurd g1 h) (fun _ => ?_)
    walk_at "W"
    refine di (fun _ => ?_) (fun h => absurd l0 h)
    walk_at "W"
    refine din (fun h => absurd l1 h) (fun _ => ?_)
    walk_at "W"
    refine di (fun h => absurd h (by omega)) (fun _ => ?_)
    walk_at "W"
    refine we_lcT (fun i acc M => M = [] ∧ acc = List.replicate i (D.bl true)) ?_
    walk_at "W"
    refine ⟨_, rfl, ⟨rfl, rfl⟩, ?_, ?_⟩
    · rintro i x acc M p hx ⟨rfl, rfl⟩
      obtain ⟨l, hl, rfl⟩ := map_get hx
      obtain ⟨d0, d1⟩ := d l (List.mem_of_getElem? hl)
      have hil := (List.getElem?_eq_some_iff.mp hl).1
      unfold Turn1
      walk_at "W"
      refine di (fun _ => ?_) (fun h => absurd d0 h)
      walk_at "W"
      refine ⟨[], List.Sublist.refl _, ?_, rfl, ?_⟩
      · rw [List.length_replicate]
        exact Nat.lt_of_lt_of_le (Nat.lt_of_lt_of_le hil n) (by decide)
      · rw [decide_eq_true d1, List.replicate_succ'] <;> rfl
    · rintro acc M p ⟨rfl, rfl⟩
      walk_at "W"
      refine wc_all (bs := List.replicate (s.laid.map D.int).length true) (a := 0) (by rw [List.map_replicate]; rfl) ?_
      have e : (List.replicate (s.laid.map D.int).length true).all id = true := by
        rw [List.all_eq_true]
        intro b hb
        rw [List.eq_of_mem_replicate hb] <;> rfl
      rw [e]
      exact ⟨_, List.nil_sublist _, hk⟩
theorem rep_st {H H' : Hp} {x C dx : Addr} {s : Stp} {v : V} (hx : H x = some (.ins C dx [])) (k : ∀ b o, H b = some o → b ≠ x → (∀ xs, o ≠ .lst xs) → H' b = some o) (r : Rep H v (stD K s)) : Rep H' v (stD K s) := by
  cases r with
  | @ins a _ dy fs _ h rf =>
    have na : a ≠ x := fun z => by
      subst z
      rw [hx] at h
      have e := (HO.ins.inj (Option.some.inj h)).2.2
      rw [← e] at rf
      nomatch rf
    refine .ins (k a _ h na fun _ z => nomatch z) ?_
    cases rf with
    | cons r1 rf =>
      cases rf with
      | cons r2 rf =>
        cases rf with
        | cons r3 rf =>
          cases rf with
          | cons r4 rf =>
            cases rf with
            | cons r5 rf =>
              cases rf
              cases r1; cases r2; cases r3; cases r5
              cases r4 with
              | @tup b vs _ hb rb =>
                have nb : b ≠ x := ne_of hb hx (fun z => nomatch z)
                have e := rb.ints
                subst e
                exact .cons (.int _) (.cons (.int _) (.cons (.int _) (.cons (.tup (k b _ hb nb fun _ z => nomatch z) (RepL.of_ints _)) (.cons (.int _) .nil))))
theorem repL_st {H H' : Hp} {x C dx : Addr} (hx : H x = some (.ins C dx [])) (k : ∀ b o, H b = some o → b ≠ x → (∀ xs, o ≠ .lst xs) → H' b = some o) : ∀ {steps : List Stp} {vs : List V}, RepL H vs (steps.map (stD K)) → RepL H' vs (steps.map (stD K))
  | [], _, .nil => .nil
  | _ :: _, _, .cons h r => .cons (rep_st hx k h) (repL_st hx k r)
def preMac (K : PySem.W.Frag) : List D → Mm → (List (Str × D) → Mm → Prop) → Prop := fun ds F kf => ∃ (ns nl : Int) (pst : Addr) (steps : List Stp), ds = [.int ns, .int nl, .obj pst] ∧ F = [(pst, steps.map (stD K))] ∧ 1 ≤ ns ∧ 1 ≤ nl ∧ steps.length ≤ 1000 ∧ (∀ s ∈ steps, Fits ns nl s) ∧
  kf [("states", .int ns), ("letters", .int nl), ("steps", .tup (steps.map (stD K)))] [(pst, steps.map (stD K))]
def mf1 (a : V) : List (Str × V) := [("states", a)]
def mf2 (a b : V) : List (Str × V) := [("states", a), ("letters", b)]
def mf3 (a b c : V) : List (Str × V) := [("states", a), ("letters", b), ("steps", c)]
theorem putF_5 (a b : V) : putF "letters" b (mf1 a) = mf2 a b := by simp only [mf1, mf2, putF, if_neg nk11]
theorem putF_6 (a b c : V) : putF "steps" c (mf2 a b) = mf3 a b c := by simp only [mf2, mf3, putF, if_neg nk12, if_neg nk13]
theorem scMachineInit : FnScope ["self", "states", "letters", "steps", "step"] ["self", "states", "letters", "steps"] K69.dMachineInit.scope := ⟨rfl, rfl, rfl, by decide +kernel, rfl, by decide +kernel, by decide +kernel⟩
theorem ok_macInit (T : Txt K mg) (oFits : Ok1 P w K mg base K69.dFits 1 ["step", "states", "letters"] (spOf (sFits K))) : OkI P w K mg base K69.dMachineInit 2 ["self", "states", "letters", "steps"] [] (spInit (He.ga K "Machine") 3 (preMac K)) := by
  obtain ⟨fd, F⟩ := T.c.def_ 12 (d := K69.dMachineInit) rfl
  have F' : FunD K K69.dMachineInit.name K69.dMachineInit.qual K69.dMachineInit.params K69.dMachineInit.body K69.dMachineInit.scope [] (K69.dMachineInit.kws K) (He.fAd K K69.dMachineInit.at_) fd := F
  refine ⟨fd, [], F, FunD.ok F scMachineInit (fun vs H Q E h => ?_) (fun cdv A outer s H vs Q E hr h => ?_), .nil, FunD.bindsN F' (fun _ _ _ _ _ _ us hl => match us, hl with | [_, _, _, _], _ => rfl)⟩
  · obtain ⟨x, dx, us, ds, F, kf, rfl, hl, _⟩ := h
    show us.length + 1 = 4
    rw [hl]
  · refine ⟨_, PSs.nox (pss_cons (ps_if (PW.pt (pw_or (pt_cmpR op_lt (pv 1) pe_int (nomark _)) (pw_or (pt_cmpR op_lt (pv 2) pe_int (nomark _)) (pw_or1 (pt_not (pt_val (pe_callB (cr_all rfl) (by rfl) (T.free 60) (by decide +kernel) (pa_cons (pe_lc (own := [("step", 4)]) (g := gName 4) rfl scMachineInit.nd (pi_X (pi_list (pv 3)) (pi_tup (pv 3))) (blkOk_by (own := [("step", 4)]) (N := ["self", "states", "letters", "steps", "step"]) (sc := K69.dMachineInit.scope) (by decide +kernel)) (fun _ _ _ _ _ => pg_name (i := 4) scMachineInit.nd rfl (Or.inl rfl)) (fun _ _ _ _ _ => pts_nil) (fun _ _ _ _ _ => pe_fn oFits rfl hr rfl (T.glo 5) (pa_cons (pv 4) (pa_cons (pv 1) (pa_cons (pv 2) pa_nil))))) pa_nil)))))))) (pss_one (ps_never)) pss_nil)
  (pss_cons (ps_fld (pv 0) (pv 1) rfl)
  (pss_cons (ps_fld (pv 0) (pv 2) rfl)
  (pss_one (ps_fld (pv 0) (pe_callTy call_tupX (by rfl) (T.free 55) (by decide +kernel) (pa_cons (pv 3) pa_nil)) rfl))))), ?_⟩
    obtain ⟨x, dx, us, ds, F, kf, rfl, hl, hx, r0, rk, ⟨ns, nl, pst, steps, rfl, rfl, hns, hnl, hsz, hfit, hk⟩, m, q⟩ := h
    dsimp only [cxOf, Cx.nox, Cx.wish]
    cases r0 with
    | cons r1 r0 =>
      cases r0 with
      | cons r2 r0 =>
        cases r0 with
        | cons r3 r0 =>
          cases r0
          cases r1; cases r2; cases r3
          have ok0 : Ok ⟨H, [pst]⟩ [some (.obj x), some (.int ns), some (.int nl), some (.obj pst), none] [(pst, steps.map (stD K))] (L2.start ["self", "states", "letters", "steps", "step"] [.ref x, .int ns, .int nl, .ref pst]) H :=
            ⟨RepE.start 1 (.cons (.obj x) (.cons (.int ns) (.cons (.int nl) (.cons (.obj pst) .nil)))), m, fun e he => .inl (by rw [List.mem_singleton.mp he]; exact List.mem_singleton.mpr rfl), Fr.refl _ H⟩
          show (tIfS _ _ _) { nx := (tSeq _ _) _, rt := Q } _ H
          refine (show WS ⟨H, [pst]⟩ _ { nx := fun env M => env = [some (.obj x), some (.int ns), some (.int nl), some (.obj pst), none] ∧ [(pst, steps.map (stD K))].Sublist M, rt := fun _ _ => False } [some (.obj x), some (.int ns), some (.int nl), some (.obj pst), none] [(pst, steps.map (stD K))] from ?_) _ H _ ok0 ⟨fun env M σ H1 z o1 k1 => ?_, fun _ _ _ _ _ _ z => z.elim, fun _ _ _ _ z => z.elim, fun _ _ _ _ z => z.elim⟩
          · walk_at "W"
            refine di (fun h => absurd h (by omega)) (fun _ => ?_)
            walk_at "W"
            refine di (fun h => absurd h (by omega)) (fun _ => ?_)
            walk_at "W"
            refine we_lcL (fun i acc M => M = [(pst, steps.map (stD K))] ∧ acc = List.replicate i (D.bl true)) ?_
            walk_at "W"
            refine ⟨pst, steps.map (stD K), rfl, ⟨rfl, rfl⟩, fun i acc M h => ⟨0, by rw [h.1]; rfl⟩, ?_, ?_⟩
            · rintro i x acc M p hx ⟨rfl, rfl⟩
              obtain ⟨sp, hl, rfl⟩ := map_get hx
              have hil := (List.getElem?_eq_some_iff.mp hl).1
              unfold Turn1
              walk_at "W"
              refine ⟨[], _, Split.none _, ns, nl, sp, rfl, rfl, hfit sp (List.mem_of_getElem? hl), ?_⟩
              refine ⟨[(pst, steps.map (stD K))], List.Sublist.refl _, ?_, rfl, ?_⟩
              · rw [List.length_replicate]
                exact Nat.lt_of_lt_of_le (Nat.lt_of_lt_of_le hil hsz) (by decide)
              · rw [List.replicate_succ'] <;> rfl
            · rintro acc M p ⟨rfl, rfl⟩
              walk_at "W"
              refine wc_all (bs := List.replicate (steps.map (stD K)).length true) (a := 1) (by rw [List.map_replicate]; rfl) ?_
              have e : (List.replicate (steps.map (stD K)).length true).all id = true := by
                rw [List.all_eq_true]
                intro b hb
                rw [List.eq_of_mem_replicate hb] <;> rfl
              rw [e]
              walk_at "W"
              exact ⟨rfl, List.sublist_append_left _ _⟩
          · obtain ⟨rfl, sb⟩ := z
            have o2 := o1.sub sb
            have T1 := T.cls 36 (x := "Machine")
            have hx1 : H1 x = some (.ins (He.ga K "Machine") dx []) := k1.keep hx fun _ z => nomatch z
            obtain ⟨v0, e0, r0⟩ := o1.env.get (i := 0) rfl
            obtain ⟨v1, e1, r1⟩ := o1.env.get (i := 1) rfl
            obtain ⟨v2, e2, r2⟩ := o1.env.get (i := 2) rfl
            obtain ⟨v3, e3, r3⟩ := o1.env.get (i := 3) rfl
            cases r0; cases r1; cases r2; cases r3
            obtain ⟨vs, hv, qv⟩ := o2.at_ (j := 0) rfl
            have nax : pst ≠ x := ne_of hv hx1 (fun z => nomatch z)
            refine ⟨_, e1, _, e0, x, _, dx, [], rfl, hx1, T1, T.noat 46 (x := "Machine") (f := "states"), by decide, ?_⟩
            show tSeq _ _ _ _ (upd H1 x (.ins (He.ga K "Machine") dx (mf1 (.int ns))))
            refine ⟨_, e2, _, e0, x, _, dx, _, rfl, upd_same, T1, T.noat 47 (x := "Machine") (f := "letters"), by show 1 < 1000; decide, ?_⟩
            rw [upd_upd, putF_5]
            refine ⟨_, e3, pst, vs, rfl, .inl ⟨.inl (.inl (by rw [upd_ne nax]; exact hv)), fun t ht => ?_⟩⟩
            have ntx : x ≠ t := fun z => by
              subst z
              rw [upd_same] at ht
              cases ht
            have ht0 : H1 t = none := by
              rw [upd_ne ntx.symm] at ht
              exact ht
            refine ⟨_, e0, x, _, dx, _, rfl, (by rw [upd_ne ntx]; exact upd_same), T1, T.noat 48 (x := "Machine") (f := "steps"), by show 2 < 1000; decide, ?_⟩
            rw [putF_6]
            have fr : FrX x [pst] H (upd (upd (upd H1 x (.ins (He.ga K "Machine") dx (mf2 (.int ns) (.int nl)))) t (.tup vs)) x (.ins (He.ga K "Machine") dx (mf3 (.int ns) (.int nl) (.ref t)))) := fun b o e nb => by
              have nbt : b ≠ t := fun z => by
                subst z
                rcases o1.fr b o e with h1 | ⟨_, _, _, _, h1⟩ <;> (rw [ht0] at h1; cases h1)
              rw [upd_ne nb, upd_ne nbt, upd_ne nb]
              exact o1.fr b o e
            have keep1 : ∀ b o, H1 b = some o → b ≠ x → (upd (upd (upd H1 x (.ins (He.ga K "Machine") dx (mf2 (.int ns) (.int nl)))) t (.tup vs)) x (.ins (He.ga K "Machine") dx (mf3 (.int ns) (.int nl) (.ref t)))) b = some o := fun b o e nb => by
              rw [upd_ne nb, upd_ne (ne_of_none e ht0), upd_ne nb]
              exact e
            have rs := repL_st (K := K) hx1 (fun b o e nb _ => keep1 b o e nb) qv
            refine q _ _ _ _ hk upd_same (.cons (.int _) (.cons (.int _) (.cons (.tup (by rw [upd_ne ntx.symm]; exact upd_same) rs) .nil))) fr ⟨fun e he => ?_, by simp⟩ (fun e he => .inl (by rw [List.mem_singleton.mp he]; exact List.mem_singleton.mpr rfl))
            · rw [List.mem_singleton.mp he]
              exact ⟨vs, keep1 _ _ hv nax, rs⟩
end
end A

set_option Elab.async false
set_option linter.all false
set_option maxRecDepth 100000
set_option maxHeartbeats 4000000
namespace A
open PySem PySem.Spec PyProof.Rows L2
local macro_rules | `(tactic| walk_at "at") => `(tactic| first | exact at0 | exact at1 | exact at2 | exact at3 | exact at4 | exact at5 | exact at6 | exact at7)
local macro_rules | `(tactic| walk_at "fl") => `(tactic| first
  | (with_reducible refine' fl_laid (by assumption) ?_) | (with_reducible refine' fl_goal (by assumption) ?_) | (with_reducible refine' fl_state (by assumption) ?_) | (with_reducible refine' fl_letter (by assumption) ?_)
  | (with_reducible refine' fl_steps (by assumption) ?_) | (with_reducible refine' fl_marks (by assumption) ?_) | (with_reducible refine' fl_entries (by assumption) ?_) | (with_reducible refine' fl_weight (by assumption) ?_) | (with_reducible refine' fl_msteps (by assumption) ?_))
local macro_rules | `(tactic| walk_at "ix") => `(tactic| first
  | (with_reducible refine' ix_en0 ?_) | (with_reducible refine' ix_en1 ?_) | (with_reducible refine' ix_en2 ?_) | (with_reducible refine' ix_en3 ?_) | (with_reducible refine' ix_row0 ?_) | (with_reducible refine' ix_row1 ?_) | (with_reducible refine' ix_mv0 ?_) | (with_reducible refine' ix_mvS ?_) | (with_reducible refine' ix_mvN ?_) | (with_reducible refine' ix_mv1 ?_) | (with_reducible refine' ix_hd0 ?_) | (with_reducible refine' ix_hd1 ?_))
local macro_rules | `(tactic| walk_at "w") => `(tactic| first
  | ((with_reducible refine' we_var ?hvar ?_); (case hvar => rfl))
  | (with_reducible refine' we_int ?_)
  | (with_reducible refine' we_op ?_)
  | (with_reducible refine' wr_add ?_) | (with_reducible refine' wr_sub ?_)
  | ((with_reducible refine' wr_ixT ?hix ?_); (case hix => rfl))
  | ((with_reducible refine' wr_mod ?hmod ?_); (case hmod => first | decide | omega | assumption))
  | ((with_reducible refine' wr_div ?hdiv ?_); (case hdiv => exact ⟨by decide, by decide⟩))
  | (with_reducible refine' wr_eqI ?_) | (with_reducible refine' wr_neI ?_) | (with_reducible refine' wr_lt ?_) | (with_reducible refine' wr_le ?_) | (with_reducible refine' wr_gt ?_) | (with_reducible refine' wr_ge ?_)
  | ((with_reducible refine' isn0 ?hisn ?_); (case hisn => rfl)) | ((with_reducible refine' isn1 ?hisn ?_); (case hisn => rfl)) | ((with_reducible refine' ntn0 ?hisn ?_); (case hisn => rfl)) | ((with_reducible refine' ntn1 ?hisn ?_); (case hisn => rfl))
  | (with_reducible refine' wr_isN ?_) | (with_reducible refine' wr_notN ?_) | (with_reducible refine' wr_eqS ?_)
  | (with_reducible refine' d0n ?_) | (with_reducible refine' d1n ?_) | (with_reducible refine' d0 rfl ?_) | (with_reducible refine' d1 rfl ?_) | (with_reducible refine' bl_intro ?_) | (with_reducible refine' int_intro ?_) | ((with_reducible refine' And.intro ?hlen ?_); (case hlen => exact len_le rfl); try (with_reducible intro _))
  | (walk_at "ix")
  | (with_reducible refine' we_fldP ?_) | (walk_at "fl")
  | (with_reducible refine' we_tup ?_) | (with_reducible refine' we_lst ?_)
  | (with_reducible refine' wa_nil ?_) | (with_reducible refine' wa_cons ?_)
  | (with_reducible refine' we_non ?_) | (with_reducible refine' we_bl ?_) | (with_reducible refine' we_str ?_) | (with_reducible refine' we_ty ?_)
  | (with_reducible refine' we_cb ?_) | (with_reducible refine' wc_lenI ?_) | (with_reducible refine' wc_lenT ?_) | ((with_reducible refine' wc_lenL ?hat ?_); (case hat => walk_at "at"))
  | (with_reducible refine' wc_tupT ?_) | ((with_reducible refine' wc_tupL ?hat ?_); (case hat => walk_at "at"))
  | (with_reducible refine' wc_listT (fun _ => ?_)) | ((with_reducible refine' wc_listL ?hat (fun _ => ?_)); (case hat => walk_at "at"))
  | (with_reducible refine' wt_test ?_) | (with_reducible refine' wt_B ?_) | (with_reducible refine' wt_and ?_) | (with_reducible refine' wt_or ?_) | (with_reducible refine' wt_not ?_) | (with_reducible refine' wt_yes ?_)
  | (with_reducible refine' we_chain ?_) | (with_reducible refine' we_orV ?_) | (with_reducible refine' we_andV ?_) | (with_reducible refine' we_din ?_) | (with_reducible refine' we_neg ?_)
  | (with_reducible refine' we_sl ?_) | (with_reducible refine' wo_no ?_) | (with_reducible refine' wo_part ?_)
  | (with_reducible refine' we_meth ?_) | ((with_reducible refine' tk_intro ?htk ?_); (case htk => decide +kernel)) | (with_reducible refine' we_call ?_)
  | (with_reducible refine' we_app ?_) | (with_reducible refine' we_pop0 ?_)
  | (with_reducible refine' ws_seqA ?_) | (with_reducible refine' ws_seqI ?_) | (with_reducible refine' ws_seqD ?_) | (with_reducible refine' ws_ret ?_) | (with_reducible refine' ws_asgN ?_) | (with_reducible refine' ws_asg ?_) | (with_reducible refine' ws_drop ?_) | (with_reducible refine' ws_if ?_) | (with_reducible refine' ws_nx ?_)
  | (with_reducible refine' ws_seqG ?_) | (with_reducible refine' ws_seqJ ?_)
  | (with_reducible refine' wg_name ?_) | (with_reducible refine' wg_tup rfl ?_) | (with_reducible refine' wg_row ?_) | (with_reducible refine' wg_mv ?_) | (with_reducible refine' wgs_cons ?_) | (with_reducible refine' wgs_nil ?_))
local macro_rules | `(tactic| walk_at "W") => `(tactic| repeat walk_at "w")
local macro_rules | `(tactic| walk_at "sp") => `(tactic| repeat first | exact Split.nil | refine' Split.take ?_ | refine' Split.leave ?_)
section
variable {P : Program} {w : World} {K : PySem.W.Frag} {mg : Str → Option Value} {base : Heap}
theorem we_mkStep {Γ : G} {env : Env} {M : Mm} {tl : TA} {E : XK} {k : D → Mm → Prop} (h : WA Γ tl env M fun ds M1 => ∃ s : Stp, ds = [.int s.state, .int s.letter, .int s.goal, tupI s.laid] ∧ k (stD K s) M1) :
    WE Γ (tMake (He.ga K "Step") (spInit (He.ga K "Step") 5 (preStep K)) [.int 1] E tl) env M k := we_make (es := [.int 1]) (fun _ => .cons (.int 1) .nil) fun σ H o Q hq => h σ H o Q fun ds M1 vs H1 ⟨s, e, q⟩ o1 k1 r1 =>
  hq ds M1 vs H1 (by
    subst e
    refine ⟨rfl, [], _, Split.none _, s.state, s.letter, s.goal, s.laid, rfl, rfl, ?_⟩
    show k (stD K s) (M1 ++ [])
    rw [List.append_nil]
    exact q) o1 k1 r1
theorem we_mkMac {Γ : G} {env : Env} {M : Mm} {tl : TA} {E : XK} {k : D → Mm → Prop} (h : WA Γ tl env M fun ds M1 => ∃ (ns nl : Int) (pst : Addr) (steps : List Stp) (R : Mm), ds = [.int ns, .int nl, .obj pst] ∧ Split M1 [(pst, steps.map (stD K))] R ∧ 1 ≤ ns ∧ 1 ≤ nl ∧ steps.length ≤ 1000 ∧ (∀ s ∈ steps, Fits ns nl s) ∧ k (macD K ns nl steps) (R ++ [(pst, steps.map (stD K))])) :
    WE Γ (tMake (He.ga K "Machine") (spInit (He.ga K "Machine") 3 (preMac K)) [] E tl) env M k := we_make (es := []) (fun _ => .nil) fun σ H o Q hq => h σ H o Q fun ds M1 vs H1 ⟨ns, nl, pst, steps, R, e, sp, h1, h2, h3, h4, q⟩ o1 k1 r1 =>
  hq ds M1 vs H1 (by
    subst e
    exact ⟨rfl, _, R, sp, ns, nl, pst, steps, rfl, rfl, h1, h2, h3, h4, q⟩) o1 k1 r1
theorem ix_ls0 {Γ : G} {env : Env} {M : Mm} {k : D → Mm → Prop} {s : Stp} (h : k (.int s.state) M) : WR Γ (rIx K) (lsD s) (.int 0) env M k := wr_ixT rfl h
theorem ix_ls1 {Γ : G} {env : Env} {M : Mm} {k : D → Mm → Prop} {s : Stp} (h : k (.int s.letter) M) : WR Γ (rIx K) (lsD s) (.int 1) env M k := wr_ixT rfl h
def sMade (K : PySem.W.Frag) : List D → Mm → (D → Mm → Prop) → Prop := fun ds F k => ∃ (ns nl : Int) (ps : Addr) (steps : List Stp), ds = [.int ns, .int nl, .obj ps] ∧ F = [(ps, steps.map lsD)] ∧ 1 ≤ ns ∧ 1 ≤ nl ∧ steps.length ≤ 1000 ∧ (∀ s ∈ steps, Fits ns nl s) ∧ k (macD K ns nl steps) F
theorem scLawMade : FnScope ["_law_states", "_law_letters", "_law_steps", "_law_step"] ["_law_states", "_law_letters", "_law_steps"] K69.dLawMade.scope := ⟨rfl, rfl, rfl, by decide +kernel, rfl, by decide +kernel, by decide +kernel⟩
theorem ok_made (T : Txt K mg) (oStepInit : OkI P w K mg base K69.dStepInit 1 ["self", "state", "letter", "goal", "laid", "weight"] [.int 1] (spInit (He.ga K "Step") 5 (preStep K))) (oMachineInit : OkI P w K mg base K69.dMachineInit 2 ["self", "states", "letters", "steps"] [] (spInit (He.ga K "Machine") 3 (preMac K))) :
    Ok1 P w K mg base K69.dLawMade 4 ["_law_states", "_law_letters", "_law_steps"] (spOf (sMade K)) := by
  refine mk_okG (N := ["_law_states", "_law_letters", "_law_steps", "_law_step"]) (T.c.def_ 23 (d := K69.dLawMade) rfl) scLawMade rfl (fun _ _ _ _ _ _ us hl => match us, hl with | [_, _, _], _ => rfl) ?_ (fun cdv A outer s H E hr => ⟨_, (pss_one (ps_ret (pe_mkI oMachineInit rfl (hr.mono (by decide)) (T.mkr 37) rfl (T.glo 35) (pa_cons (pv 0) (pa_cons (pv 1) (pa_cons (pe_lc (own := [("_law_step", 3)]) (g := gName 3) rfl scLawMade.nd (pi_X (pi_list (pv 2)) (pi_tup (pv 2))) (blkOk_by (own := [("_law_step", 3)]) (N := ["_law_states", "_law_letters", "_law_steps", "_law_step"]) (sc := K69.dLawMade.scope) (by decide +kernel)) (fun _ _ _ _ _ => pg_name (i := 3) scLawMade.nd rfl (Or.inl rfl)) (fun _ _ _ _ _ => pts_nil) (fun _ _ _ _ _ => pe_mkIK K oStepInit rfl (hr.mono (by decide)) (T.mkr 34) rfl (T.glo 32) (pa_cons (pe_ix (ix_K K) (pv 3) pe_int (fun _ _ => rfl)) (pa_cons (pe_ix (ix_K K) (pv 3) pe_int (fun _ _ => rfl)) (pa_cons (pe_ix (ix_K K) (pv 3) pe_int (fun _ _ => rfl)) (pa_cons (pe_ix (ix_K K) (pv 3) pe_int (fun _ _ => rfl)) pa_nil)))))) pa_nil)))))), fun ds F k Γ hs hw => ?_⟩)
  · rintro _ _ _ ⟨_, _, _, _, rfl, _⟩
    rfl
  · obtain ⟨ns, nl, ps, steps, rfl, rfl, h1, h2, h3, h4, hk⟩ := hs
    change WS _ _ _ [_, _, _, _] _; dsimp only [cxOf, Cx.nox, Cx.wish]
    walk_at "W"
    refine we_mkMac ?_
    walk_at "W"
    refine we_lcL (fun i acc M => M = [(ps, steps.map lsD)] ∧ acc = (steps.take i).map (stD K)) ?_
    walk_at "W"
    refine ⟨ps, steps.map lsD, rfl, ⟨rfl, rfl⟩, fun i acc M h => ⟨0, by rw [h.1]; rfl⟩, ?_, ?_⟩
    · rintro i x acc M p hx ⟨rfl, rfl⟩
      obtain ⟨s, hl, rfl⟩ := map_get hx
      have hil := (List.getElem?_eq_some_iff.mp hl).1
      unfold Turn1
      walk_at "W"
      refine we_mkStep ?_
      walk_at "W"
      refine ix_ls0 ?_
      walk_at "W"
      refine ix_ls1 ?_
      walk_at "W"
      refine ix_ls2 ?_
      walk_at "W"
      refine ix_ls3 ?_
      walk_at "W"
      refine ⟨s, rfl, [(ps, steps.map lsD)], List.Sublist.refl _, ?_, rfl, ?_⟩
      · rw [List.length_map]
        exact Nat.lt_of_le_of_lt (List.length_take_le _ _) (Nat.lt_of_lt_of_le (Nat.lt_of_lt_of_le hil h3) (by decide))
      · rw [take_succ' hl, List.map_append] <;> rfl
    · rintro acc M p ⟨rfl, rfl⟩
      rw [List.length_map, List.take_length]
      walk_at "W"
      refine ⟨ns, nl, p, steps, [(ps, steps.map lsD)], rfl, .leave (.take .nil), h1, h2, h3, h4, ?_⟩
      exact ⟨_, List.sublist_append_left _ _, hk⟩
end
end A

set_option Elab.async false
set_option linter.all false
set_option maxRecDepth 100000
set_option maxHeartbeats 4000000
namespace A
open PySem PySem.Spec PyProof.Rows L2
/-! the changed papers: what may come out -/
def RowChg (r r' : Row) : Prop := r'.2.length = r.2.length ∨ (r'.1 = r.1 ∧ r'.2.length + 1 = r.2.length) ∨ (r'.1 = r.1 ∧ r'.2.length = r.2.length + 1)
def RowsChg (rows rows' : List Row) : Prop := (∃ x, rows' = [(x, [])]) ∨ (∃ i r r', rows[i]? = some r ∧ RowChg r r' ∧ rows' = rows.set i r') ∨ (∃ i, rows' = rows.take i ++ rows.drop (i + 1)) ∨
  (∃ i r, rows[i]? = some r ∧ rows' = rows.take i ++ (rows.drop (i + 1)).take 1 ++ [r] ++ rows.drop (i + 2)) ∨ (∃ i r, rows[i]? = some r ∧ rows' = rows.take i ++ [r] ++ rows.drop i)
def PapChg (p p' : Paper) : Prop := (p'.way = p.way ∧ p'.ring = p.ring ∧ p'.descent = p.descent ∧ RowsChg p.rows p'.rows) ∨
  (p'.rows = p.rows ∧ p'.way.length ≤ p.way.length + 1 ∧ p'.ring.length ≤ p.ring.length + 1 ∧ p'.descent.length ≤ p.descent.length + 1)
section
variable {K : PySem.W.Frag} {Γ : G} {env : Env} {M : Mm} {k : D → Mm → Prop}
theorem wc_listI {ns : List Int} (h : ∀ r, k (.obj r) (M ++ [(r, ns.map D.int)])) : WC Γ (rListX K) [tupI ns] env M k := wc_listT h
theorem cut_takeI {xs : List D} {i : Int} (h : 0 ≤ i) : cutD xs none (some i) = xs.take i.toNat := by
  unfold cutD
  rw [HT.sIx_none, show i = ((i.toNat : Nat) : Int) by omega, HT.sIx_nat, List.drop_zero, Nat.sub_zero, Int.toNat_natCast]
  by_cases h : i.toNat ≤ xs.length
  · rw [Nat.min_eq_left h]
  · rw [Nat.min_eq_right (by omega), List.take_of_length_le (by omega), List.take_of_length_le (by omega)]
theorem cut_dropI {xs : List D} {i : Int} (h : 0 ≤ i) : cutD xs (some i) none = xs.drop i.toNat := by
  unfold cutD
  rw [HT.sIx_none, show i = ((i.toNat : Nat) : Int) by omega, HT.sIx_nat, Int.toNat_natCast]
  by_cases h : i.toNat ≤ xs.length
  · rw [Nat.min_eq_left h, List.take_of_length_le (by simp)]
  · rw [Nat.min_eq_right (by omega), List.drop_of_length_le (by omega), List.drop_of_length_le (by omega), List.take_nil]
theorem cut_midI {xs : List D} {i j : Int} (h : 0 ≤ i) (hj : i ≤ j) : cutD xs (some i) (some j) = (xs.drop i.toNat).take (j.toNat - i.toNat) := by
  unfold cutD
  rw [show i = ((i.toNat : Nat) : Int) by omega, show j = ((j.toNat : Nat) : Int) by omega, HT.sIx_nat, HT.sIx_nat, Int.toNat_natCast, Int.toNat_natCast]
  by_cases h : i.toNat ≤ xs.length
  · rw [Nat.min_eq_left h]
    by_cases h2 : j.toNat ≤ xs.length
    · rw [Nat.min_eq_left h2]
    · rw [Nat.min_eq_right (by omega), List.take_of_length_le (by simp), List.take_of_length_le (by simp; omega)]
  · rw [Nat.min_eq_right (by omega), List.drop_of_length_le (by omega), List.drop_of_length_le (by omega), List.take_nil, List.take_nil]
theorem cut_m1 {xs : List D} : cutD xs none (some (-1)) = xs.take (xs.length - 1) := by
  unfold cutD
  rw [HT.sIx_none, List.drop_zero, Nat.sub_zero]
  have e : HT.sIx xs.length xs.length (some (-1)) = xs.length - 1 := by
    unfold HT.sIx
    dsimp only
    rw [if_pos (by decide)]
    omega
  rw [e]
theorem ixN_in {n : Nat} {i : Int} (h0 : 0 ≤ i) (h1 : i < n) : ixN n i = some i.toNat := by
  unfold ixN
  rw [if_pos h0, if_pos h1]
theorem mod_in {a : Int} {n : Nat} (h : 0 < n) : 0 ≤ a % (n : Int) ∧ a % (n : Int) < n := ⟨Int.emod_nonneg _ (by omega), Int.emod_lt_of_pos _ (by omega)⟩
theorem map_set' {α : Type} {f : α → D} {xs : List α} {i : Nat} {x : α} : (xs.map f).set i (f x) = (xs.set i x).map f := by rw [List.map_set]
end
end A

set_option Elab.async false
set_option linter.all false
set_option maxRecDepth 100000
set_option maxHeartbeats 4000000
namespace A
open PySem PySem.Spec PyProof.Rows L2
local macro_rules | `(tactic| walk_at "at") => `(tactic| first | exact at0 | exact at1 | exact at2 | exact at3 | exact at4 | exact at5 | exact at6 | exact at7)
local macro_rules | `(tactic| walk_at "fl") => `(tactic| first
  | (with_reducible refine' fl_laid (by assumption) ?_) | (with_reducible refine' fl_goal (by assumption) ?_) | (with_reducible refine' fl_state (by assumption) ?_) | (with_reducible refine' fl_letter (by assumption) ?_)
  | (with_reducible refine' fl_steps (by assumption) ?_) | (with_reducible refine' fl_marks (by assumption) ?_) | (with_reducible refine' fl_entries (by assumption) ?_) | (with_reducible refine' fl_weight (by assumption) ?_) | (with_reducible refine' fl_msteps (by assumption) ?_))
local macro_rules | `(tactic| walk_at "ix") => `(tactic| first
  | (with_reducible refine' ix_en0 ?_) | (with_reducible refine' ix_en1 ?_) | (with_reducible refine' ix_en2 ?_) | (with_reducible refine' ix_en3 ?_) | (with_reducible refine' ix_row0 ?_) | (with_reducible refine' ix_row1 ?_) | (with_reducible refine' ix_mv0 ?_) | (with_reducible refine' ix_mvS ?_) | (with_reducible refine' ix_mvN ?_) | (with_reducible refine' ix_mv1 ?_) | (with_reducible refine' ix_hd0 ?_) | (with_reducible refine' ix_hd1 ?_))
local macro_rules | `(tactic| walk_at "w") => `(tactic| first
  | ((with_reducible refine' we_var ?hvar ?_); (case hvar => rfl))
  | (with_reducible refine' we_int ?_)
  | (with_reducible refine' we_op ?_)
  | (with_reducible refine' wr_add ?_) | (with_reducible refine' wr_sub ?_)
  | ((with_reducible refine' wr_ixT ?hix ?_); (case hix => rfl))
  | ((with_reducible refine' wr_mod ?hmod ?_); (case hmod => first | decide | omega | assumption))
  | ((with_reducible refine' wr_div ?hdiv ?_); (case hdiv => exact ⟨by decide, by decide⟩))
  | (with_reducible refine' wr_eqI ?_) | (with_reducible refine' wr_neI ?_) | (with_reducible refine' wr_lt ?_) | (with_reducible refine' wr_le ?_) | (with_reducible refine' wr_gt ?_) | (with_reducible refine' wr_ge ?_)
  | ((with_reducible refine' isn0 ?hisn ?_); (case hisn => rfl)) | ((with_reducible refine' isn1 ?hisn ?_); (case hisn => rfl)) | ((with_reducible refine' ntn0 ?hisn ?_); (case hisn => rfl)) | ((with_reducible refine' ntn1 ?hisn ?_); (case hisn => rfl))
  | (with_reducible refine' wr_isN ?_) | (with_reducible refine' wr_notN ?_) | (with_reducible refine' wr_eqS ?_)
  | (with_reducible refine' d0n ?_) | (with_reducible refine' d1n ?_) | (with_reducible refine' d0 rfl ?_) | (with_reducible refine' d1 rfl ?_) | (with_reducible refine' bl_intro ?_) | (with_reducible refine' int_intro ?_) | ((with_reducible refine' And.intro ?hlen ?_); (case hlen => exact len_le rfl); try (with_reducible intro _))
  | (walk_at "ix")
  | (with_reducible refine' we_fldP ?_) | (walk_at "fl")
  | (with_reducible refine' we_tup ?_) | (with_reducible refine' we_lst ?_)
  | (with_reducible refine' wa_nil ?_) | (with_reducible refine' wa_cons ?_)
  | (with_reducible refine' we_non ?_) | (with_reducible refine' we_bl ?_) | (with_reducible refine' we_str ?_) | (with_reducible refine' we_ty ?_)
  | (with_reducible refine' we_cb ?_) | (with_reducible refine' wc_lenI ?_) | (with_reducible refine' wc_lenT ?_) | ((with_reducible refine' wc_lenL ?hat ?_); (case hat => walk_at "at"))
  | (with_reducible refine' wc_tupT ?_) | ((with_reducible refine' wc_tupL ?hat ?_); (case hat => walk_at "at"))
  | (with_reducible refine' wc_listI (fun _ => ?_)) | (with_reducible refine' wc_listT (fun _ => ?_)) | ((with_reducible refine' wc_listL ?hat (fun _ => ?_)); (case hat => walk_at "at"))
  | (with_reducible refine' wt_test ?_) | (with_reducible refine' wt_B ?_) | (with_reducible refine' wt_and ?_) | (with_reducible refine' wt_or ?_) | (with_reducible refine' wt_not ?_) | (with_reducible refine' wt_yes ?_)
  | (with_reducible refine' we_chain ?_) | (with_reducible refine' we_orV ?_) | (with_reducible refine' we_andV ?_) | (with_reducible refine' we_din ?_) | (with_reducible refine' we_neg ?_)
  | (with_reducible refine' we_sl ?_) | (with_reducible refine' wo_no ?_) | (with_reducible refine' wo_part ?_)
  | (with_reducible refine' we_meth ?_) | ((with_reducible refine' tk_intro ?htk ?_); (case htk => decide +kernel)) | (with_reducible refine' we_call ?_)
  | (with_reducible refine' we_app ?_) | (with_reducible refine' we_pop0 ?_)
  | (with_reducible refine' ws_seqA ?_) | (with_reducible refine' ws_seqI ?_) | (with_reducible refine' ws_seqD ?_) | (with_reducible refine' ws_ret ?_) | (with_reducible refine' ws_asgN ?_) | (with_reducible refine' ws_asg ?_) | (with_reducible refine' ws_drop ?_) | (with_reducible refine' ws_if ?_) | (with_reducible refine' ws_nx ?_)
  | (with_reducible refine' ws_seqG ?_) | (with_reducible refine' ws_seqJ ?_)
  | (with_reducible refine' wg_name ?_) | (with_reducible refine' wg_tup rfl ?_) | (with_reducible refine' wg_row ?_) | (with_reducible refine' wg_mv ?_) | (with_reducible refine' wgs_cons ?_) | (with_reducible refine' wgs_nil ?_))
local macro_rules | `(tactic| walk_at "W") => `(tactic| repeat walk_at "w")
local macro_rules | `(tactic| walk_at "sp") => `(tactic| repeat first | exact Split.nil | refine' Split.take ?_ | refine' Split.leave ?_)
section
variable {P : Program} {w : World} {K : PySem.W.Frag} {mg : Str → Option Value} {base : Heap}
def sChangedRow : List D → Mm → (D → Mm → Prop) → Prop := fun ds F k => ∃ (kd n at_ ct ix : Int) (row : Row), ds = [.int kd, .int n, rowD row, .int at_, .int ct, .int ix] ∧ F = [] ∧ 0 ≤ ct ∧ row.2.length ≤ 2 ∧ ∀ r', RowChg row r' → k (rowD r') []
theorem scLawChangedRow : FnScope ["_law_kind", "_law_number", "_law_row", "_law_at", "_law_count", "_law_index", "_law_parts", "_law_place"] ["_law_kind", "_law_number", "_law_row", "_law_at", "_law_count", "_law_index"] K69.dLawChangedRow.scope := ⟨rfl, rfl, rfl, by decide +kernel, rfl, by decide +kernel, by decide +kernel⟩
theorem ok_changed_row (T : Txt K mg) : Ok1 P w K mg base K69.dLawChangedRow 1 ["_law_kind", "_law_number", "_law_row", "_law_at", "_law_count", "_law_index"] (spOf sChangedRow) := by
  refine mk_okG (N := ["_law_kind", "_law_number", "_law_row", "_law_at", "_law_count", "_law_index", "_law_parts", "_law_place"]) (T.c.def_ 24 (d := K69.dLawChangedRow) rfl) scLawChangedRow rfl (fun _ _ _ _ _ _ us hl => match us, hl with | [_, _, _, _, _, _], _ => rfl) ?_ (fun cdv A outer s H E hr => ⟨_, (pss_cons (ps_set (i := 6) scLawChangedRow.nd rfl (by first | exact Or.inl rfl | exact Or.inr rfl) (pe_callTy call_listX (by rfl) (T.free 54) (by decide +kernel) (pa_cons (pe_ix ix_seq (pv 2) pe_int (fun _ _ => rfl)) pa_nil)))
  (pss_cons (ps_if (PW.pt (pw_and (pt_cmpR (op_eqX hr.units) (pv 0) pe_int (nomark _)) (pw_and1 (pt_cmpR (op_eqX hr.units) (pe_op op_mod (pv 1) pe_int) pe_int (nomark _))))) (pss_one (ps_ret (pe_tup (pa_cons (pe_op op_sub (pe_ix ix_seq (pv 2) pe_int (fun _ _ => rfl)) (pv 4)) (pa_cons (pe_ix ix_seq (pv 2) pe_int (fun _ _ => rfl)) pa_nil))))) pss_nil)
  (pss_cons (ps_if (pt_cmpR (op_eqX hr.units) (pv 0) pe_int (nomark _)) (pss_one (ps_ret (pe_tup (pa_cons (pe_op op_sub (pe_op op_mod (pe_op op_fdiv (pv 1) pe_int) (pe_op op_addX (pv 4) pe_int)) pe_int) (pa_cons (pe_ix ix_seq (pv 2) pe_int (fun _ _ => rfl)) pa_nil))))) pss_nil)
  (pss_cons (ps_if (PW.pt (pw_and (pt_cmpR (op_eqX hr.units) (pv 0) pe_int (nomark _)) (pw_and1 (pt_cmpR op_gt (pe_callB call_lenX (by rfl) (T.free 53) (by decide +kernel) (pa_cons (pv 6) pa_nil)) pe_int (nomark _))))) (pss_cons (ps_set (i := 7) scLawChangedRow.nd rfl (by first | exact Or.inl rfl | exact Or.inr rfl) (pe_op op_mod (pe_op op_fdiv (pv 1) pe_int) (pe_callB call_lenX (by rfl) (T.free 53) (by decide +kernel) (pa_cons (pv 6) pa_nil))))
  (pss_cons (ps_if (pt_cmpR (op_eqX hr.units) (pe_op op_mod (pv 1) pe_int) pe_int (nomark _)) (pss_one (ps_set (i := 5) scLawChangedRow.nd rfl (by first | exact Or.inl rfl | exact Or.inr rfl) (pe_op op_sub (pe_ix ix_seq (pv 6) (pv 7) (fun _ _ => rfl)) (pv 3)))) pss_nil)
  (pss_one (ps_asg (pv 5) (pg_sub (pv 6) (pv 7) set_list))))) (pss_one (ps_if (pt_cmpR (op_eqX hr.units) (pv 0) pe_int (nomark _)) (pss_one (ps_set (i := 6) scLawChangedRow.nd rfl (by first | exact Or.inl rfl | exact Or.inr rfl) (pe_slice sl_X (pv 6) po_none (po_some (pe_un un_neg pe_int))))) (pss_one (ps_if (pt_cmpR (op_eqX hr.units) (pv 0) pe_int (nomark _)) (pss_one (ps_set (i := 6) scLawChangedRow.nd rfl (by first | exact Or.inl rfl | exact Or.inr rfl) (pe_op op_addX (pv 6) (pe_lst (pa_cons (pv 5) pa_nil))))) pss_nil)))))
  (pss_one (ps_ret (pe_tup (pa_cons (pe_ix ix_seq (pv 2) pe_int (fun _ _ => rfl)) (pa_cons (pe_callTy call_tupX (by rfl) (T.free 55) (by decide +kernel) (pa_cons (pv 6) pa_nil)) pa_nil))))))))), fun ds F k Γ hs hw => ?_⟩)
  · rintro _ _ _ ⟨_, _, _, _, _, _, rfl, _⟩
    rfl
  · obtain ⟨kd, n, at_, ct, ix, row, rfl, rfl, hct, hl, hk⟩ := hs
    change WS _ _ _ [_, _, _, _, _, _, _, _] _; dsimp only [cxOf, Cx.nox, Cx.wish]
    walk_at "W"
    refine di (fun h0 => ?_) (fun h0 => ?_)
    · walk_at "W"
      refine di (fun h1 => ?_) (fun h1 => ?_)
      · walk_at "W"
        exact ⟨_, List.nil_sublist _, hk (_, row.2) (.inl rfl)⟩
      · walk_at "W"
        refine d1 (decide_eq_true h0) ?_
        walk_at "W"
        refine ⟨_, List.nil_sublist _, hk (_, row.2) (.inl rfl)⟩
    · walk_at "W"
      refine d0 (decide_eq_false h0) ?_
      walk_at "W"
      refine di (fun h1 => ?_) (fun h1 => ?_)
      · walk_at "W"
        rw [List.length_map]
        refine di (fun h2 => ?_) (fun h2 => ?_)
        · have hp : 0 < row.2.length := by omega
          obtain ⟨m0, m1⟩ := mod_in (a := n / 3) hp
          obtain ⟨x, hx⟩ := get_in m0 m1
          walk_at "W"
          rw [List.length_map]
          refine wr_mod (by omega) ?_
          walk_at "W"
          refine di (fun h3 => ?_) (fun h3 => ?_)
          · walk_at "W"
            refine wr_ixL at0 (atI_map m0 hx) ?_
            walk_at "W"
            refine wg_set ?_
            walk_at "W"
            refine ⟨0, _, _, _, _, rfl, rfl, at0, ixN_in m0 (by rw [List.length_map]; exact m1), ?_⟩
            walk_at "W"
            rw [map_set']
            exact ⟨_, List.nil_sublist _, hk (_, _) (.inl (List.length_set ..))⟩
          · walk_at "W"
            refine wg_set ?_
            walk_at "W"
            refine ⟨0, _, _, _, _, rfl, rfl, at0, ixN_in m0 (by rw [List.length_map]; exact m1), ?_⟩
            walk_at "W"
            rw [map_set']
            exact ⟨_, List.nil_sublist _, hk (_, _) (.inl (List.length_set ..))⟩
        · walk_at "W"
          refine d0 (decide_eq_false (by omega)) ?_
          walk_at "W"
          refine d0 (decide_eq_false (by omega)) ?_
          walk_at "W"
          exact ⟨_, List.nil_sublist _, hk (_, _) (.inl rfl)⟩
      · walk_at "W"
        refine di (fun h2 => ?_) (fun h2 => ?_)
        · walk_at "W"
          refine .inr ⟨0, _, _, rfl, at0, fun r => ?_⟩
          rw [cut_m1, List.length_map, ← List.map_take]
          walk_at "W"
          refine ⟨_, List.nil_sublist _, hk (_, row.2.take (row.2.length - 1)) ?_⟩
          by_cases h4 : row.2.length = 0
          · exact .inl (by simp; omega)
          · exact .inr (.inl ⟨rfl, by simp; omega⟩)
        · walk_at "W"
          refine di (fun h3 => ?_) (fun h3 => ?_)
          · walk_at "W"
            refine wr_catL at0 at1 ?_ (fun r => ?_)
            · rw [List.length_map]
              show row.2.length + 1 ≤ sizeLine
              exact Nat.le_trans (by omega : _ ≤ 3) (by decide)
            · have e : row.2.map D.int ++ [D.int ix] = (row.2 ++ [ix]).map D.int := by rw [List.map_append] <;> rfl
              rw [e]
              walk_at "W"
              exact ⟨_, List.nil_sublist _, hk (_, row.2 ++ [ix]) (.inr (.inr ⟨rfl, by simp⟩))⟩
          · walk_at "W"
            exact ⟨_, List.nil_sublist _, hk (_, _) (.inl rfl)⟩
end
end A

set_option Elab.async false
set_option linter.all false
set_option maxRecDepth 100000
set_option maxHeartbeats 8000000
namespace A
open PySem PySem.Spec PyProof.Rows L2
local macro_rules | `(tactic| walk_at "at") => `(tactic| first | exact at0 | exact at1 | exact at2 | exact at3 | exact at4 | exact at5 | exact at6 | exact at7)
local macro_rules | `(tactic| walk_at "fl") => `(tactic| first
  | (with_reducible refine' fl_laid (by assumption) ?_) | (with_reducible refine' fl_goal (by assumption) ?_) | (with_reducible refine' fl_state (by assumption) ?_) | (with_reducible refine' fl_letter (by assumption) ?_)
  | (with_reducible refine' fl_steps (by assumption) ?_) | (with_reducible refine' fl_marks (by assumption) ?_) | (with_reducible refine' fl_entries (by assumption) ?_) | (with_reducible refine' fl_weight (by assumption) ?_) | (with_reducible refine' fl_msteps (by assumption) ?_))
local macro_rules | `(tactic| walk_at "ix") => `(tactic| first
  | (with_reducible refine' ix_en0 ?_) | (with_reducible refine' ix_en1 ?_) | (with_reducible refine' ix_en2 ?_) | (with_reducible refine' ix_en3 ?_) | (with_reducible refine' ix_row0 ?_) | (with_reducible refine' ix_row1 ?_) | (with_reducible refine' ix_mv0 ?_) | (with_reducible refine' ix_mvS ?_) | (with_reducible refine' ix_mvN ?_) | (with_reducible refine' ix_mv1 ?_) | (with_reducible refine' ix_hd0 ?_) | (with_reducible refine' ix_hd1 ?_))
local macro_rules | `(tactic| walk_at "w") => `(tactic| first
  | ((with_reducible refine' we_var ?hvar ?_); (case hvar => rfl))
  | (with_reducible refine' we_int ?_)
  | (with_reducible refine' we_op ?_)
  | (with_reducible refine' wr_add ?_) | (with_reducible refine' wr_sub ?_)
  | ((with_reducible refine' wr_ixT ?hix ?_); (case hix => rfl))
  | ((with_reducible refine' wr_mod ?hmod ?_); (case hmod => first | decide | omega | assumption))
  | ((with_reducible refine' wr_div ?hdiv ?_); (case hdiv => exact ⟨by decide, by decide⟩))
  | (with_reducible refine' wr_eqI ?_) | (with_reducible refine' wr_neI ?_) | (with_reducible refine' wr_lt ?_) | (with_reducible refine' wr_le ?_) | (with_reducible refine' wr_gt ?_) | (with_reducible refine' wr_ge ?_)
  | ((with_reducible refine' isn0 ?hisn ?_); (case hisn => rfl)) | ((with_reducible refine' isn1 ?hisn ?_); (case hisn => rfl)) | ((with_reducible refine' ntn0 ?hisn ?_); (case hisn => rfl)) | ((with_reducible refine' ntn1 ?hisn ?_); (case hisn => rfl))
  | (with_reducible refine' wr_isN ?_) | (with_reducible refine' wr_notN ?_) | (with_reducible refine' wr_eqS ?_)
  | (with_reducible refine' d0n ?_) | (with_reducible refine' d1n ?_) | (with_reducible refine' d0 rfl ?_) | (with_reducible refine' d1 rfl ?_) | (with_reducible refine' bl_intro ?_) | (with_reducible refine' int_intro ?_) | ((with_reducible refine' And.intro ?hlen ?_); (case hlen => exact len_le rfl); try (with_reducible intro _))
  | (walk_at "ix")
  | (with_reducible refine' we_fldP ?_) | (walk_at "fl")
  | (with_reducible refine' we_tup ?_) | (with_reducible refine' we_lst ?_)
  | (with_reducible refine' wa_nil ?_) | (with_reducible refine' wa_cons ?_)
  | (with_reducible refine' we_non ?_) | (with_reducible refine' we_bl ?_) | (with_reducible refine' we_str ?_) | (with_reducible refine' we_ty ?_)
  | (with_reducible refine' we_cb ?_) | (with_reducible refine' wc_lenI ?_) | (with_reducible refine' wc_lenT ?_) | ((with_reducible refine' wc_lenL ?hat ?_); (case hat => walk_at "at"))
  | (with_reducible refine' wc_tupT ?_) | ((with_reducible refine' wc_tupL ?hat ?_); (case hat => walk_at "at"))
  | (with_reducible refine' wc_listI (fun _ => ?_)) | (with_reducible refine' wc_listT (fun _ => ?_)) | ((with_reducible refine' wc_listL ?hat (fun _ => ?_)); (case hat => walk_at "at"))
  | (with_reducible refine' wt_test ?_) | (with_reducible refine' wt_B ?_) | (with_reducible refine' wt_and ?_) | (with_reducible refine' wt_or ?_) | (with_reducible refine' wt_not ?_) | (with_reducible refine' wt_yes ?_)
  | (with_reducible refine' we_chain ?_) | (with_reducible refine' we_orV ?_) | (with_reducible refine' we_andV ?_) | (with_reducible refine' we_din ?_) | (with_reducible refine' we_neg ?_)
  | (with_reducible refine' we_sl ?_) | (with_reducible refine' wo_no ?_) | (with_reducible refine' wo_part ?_)
  | (with_reducible refine' we_meth ?_) | ((with_reducible refine' tk_intro ?htk ?_); (case htk => decide +kernel)) | (with_reducible refine' we_call ?_)
  | (with_reducible refine' we_app ?_) | (with_reducible refine' we_pop0 ?_)
  | (with_reducible refine' ws_seqA ?_) | (with_reducible refine' ws_seqI ?_) | (with_reducible refine' ws_seqD ?_) | (with_reducible refine' ws_ret ?_) | (with_reducible refine' ws_asgN ?_) | (with_reducible refine' ws_asg ?_) | (with_reducible refine' ws_drop ?_) | (with_reducible refine' ws_if ?_) | (with_reducible refine' ws_nx ?_)
  | (with_reducible refine' ws_seqG ?_) | (with_reducible refine' ws_seqJ ?_)
  | (with_reducible refine' wg_name ?_) | (with_reducible refine' wg_tup rfl ?_) | (with_reducible refine' wg_row ?_) | (with_reducible refine' wg_mv ?_) | (with_reducible refine' wgs_cons ?_) | (with_reducible refine' wgs_nil ?_))
local macro_rules | `(tactic| walk_at "W") => `(tactic| repeat walk_at "w")
local macro_rules | `(tactic| walk_at "sp") => `(tactic| repeat first | exact Split.nil | refine' Split.take ?_ | refine' Split.leave ?_)
section
variable {P : Program} {w : World} {K : PySem.W.Frag} {mg : Str → Option Value} {base : Heap}
theorem map_app {α : Type} {f : α → D} {xs ys : List α} : xs.map f ++ ys.map f = (xs ++ ys).map f := by rw [List.map_append]
def sChangedRows : List D → Mm → (D → Mm → Prop) → Prop := fun ds F k => ∃ (kd n ct ix : Int) (rows : List Row), ds = [.int kd, .int n, .tup (rows.map rowD), .int ct, .int ix] ∧ F = [] ∧ 0 ≤ kd ∧ kd < 7 ∧ 0 ≤ ct ∧ rows.length ≤ 900 ∧ (∀ r ∈ rows, r.2.length ≤ 2) ∧ ∀ rows', RowsChg rows rows' → k (.tup (rows'.map rowD)) []
theorem scLawChangedRows : FnScope ["_law_kind", "_law_number", "_law_rows", "_law_count", "_law_index", "_law_rest", "_law_at"] ["_law_kind", "_law_number", "_law_rows", "_law_count", "_law_index"] K69.dLawChangedRows.scope := ⟨rfl, rfl, rfl, by decide +kernel, rfl, by decide +kernel, by decide +kernel⟩
theorem ok_changed_rows (T : Txt K mg) (oLawChangedRow : Ok1 P w K mg base K69.dLawChangedRow 1 ["_law_kind", "_law_number", "_law_row", "_law_at", "_law_count", "_law_index"] (spOf sChangedRow)) : Ok1 P w K mg base K69.dLawChangedRows 2 ["_law_kind", "_law_number", "_law_rows", "_law_count", "_law_index"] (spOf sChangedRows) := by
  refine mk_okG (N := ["_law_kind", "_law_number", "_law_rows", "_law_count", "_law_index", "_law_rest", "_law_at"]) (T.c.def_ 25 (d := K69.dLawChangedRows) rfl) scLawChangedRows rfl (fun _ _ _ _ _ _ us hl => match us, hl with | [_, _, _, _, _], _ => rfl) ?_ (fun cdv A outer s H E hr => ⟨_, (pss_cons (ps_set (i := 2) scLawChangedRows.nd rfl (by first | exact Or.inl rfl | exact Or.inr rfl) (pe_callTy call_listX (by rfl) (T.free 54) (by decide +kernel) (pa_cons (pv 2) pa_nil)))
  (pss_cons (ps_set (i := 5) scLawChangedRows.nd rfl (by first | exact Or.inl rfl | exact Or.inr rfl) (pe_op op_fdiv (pv 1) pe_int))
  (pss_cons (ps_if (pt_cmpR (op_eqX hr.units) (pe_callB call_lenX (by rfl) (T.free 53) (by decide +kernel) (pa_cons (pv 2) pa_nil)) pe_int (nomark _)) (pss_one (ps_ret (pe_tup (pa_cons (pe_tup (pa_cons (pe_op op_sub (pe_op op_mod (pv 5) (pe_op op_addX (pv 3) pe_int)) pe_int) (pa_cons (pe_tup pa_nil) pa_nil))) pa_nil)))) pss_nil)
  (pss_cons (ps_set (i := 6) scLawChangedRows.nd rfl (by first | exact Or.inl rfl | exact Or.inr rfl) (pe_op op_mod (pv 1) (pe_callB call_lenX (by rfl) (T.free 53) (by decide +kernel) (pa_cons (pv 2) pa_nil))))
  (pss_cons (ps_if (pt_cmpR op_lt (pv 0) pe_int (nomark _)) (pss_one (ps_asg (pe_fn oLawChangedRow rfl hr rfl (T.glo 17) (pa_cons (pv 0) (pa_cons (pv 5) (pa_cons (pe_ix ix_seq (pv 2) (pv 6) (fun _ _ => rfl)) (pa_cons (pv 6) (pa_cons (pv 3) (pa_cons (pv 4) pa_nil))))))) (pg_sub (pv 2) (pv 6) set_list))) (pss_one (ps_if (pt_cmpR (op_eqX hr.units) (pv 0) pe_int (nomark _)) (pss_one (ps_set (i := 2) scLawChangedRows.nd rfl (by first | exact Or.inl rfl | exact Or.inr rfl) (pe_op op_addX (pe_slice sl_X (pv 2) po_none (po_some (pv 6))) (pe_slice sl_X (pv 2) (po_some (pe_op op_addX (pv 6) pe_int)) po_none)))) (pss_one (ps_if (pt_cmpR (op_eqX hr.units) (pv 0) pe_int (nomark _)) (pss_one (ps_set (i := 2) scLawChangedRows.nd rfl (by first | exact Or.inl rfl | exact Or.inr rfl) (pe_op op_addX (pe_op op_addX (pe_op op_addX (pe_slice sl_X (pv 2) po_none (po_some (pv 6))) (pe_slice sl_X (pv 2) (po_some (pe_op op_addX (pv 6) pe_int)) (po_some (pe_op op_addX (pv 6) pe_int)))) (pe_lst (pa_cons (pe_ix ix_seq (pv 2) (pv 6) (fun _ _ => rfl)) pa_nil))) (pe_slice sl_X (pv 2) (po_some (pe_op op_addX (pv 6) pe_int)) po_none)))) (pss_one (ps_if (pt_cmpR (op_eqX hr.units) (pv 0) pe_int (nomark _)) (pss_one (ps_set (i := 2) scLawChangedRows.nd rfl (by first | exact Or.inl rfl | exact Or.inr rfl) (pe_op op_addX (pe_op op_addX (pe_slice sl_X (pv 2) po_none (po_some (pv 6))) (pe_lst (pa_cons (pe_ix ix_seq (pv 2) (pv 6) (fun _ _ => rfl)) pa_nil))) (pe_slice sl_X (pv 2) (po_some (pv 6)) po_none)))) pss_nil)))))))
  (pss_one (ps_ret (pe_callTy call_tupX (by rfl) (T.free 55) (by decide +kernel) (pa_cons (pv 2) pa_nil))))))))), fun ds F k Γ hs hw => ?_⟩)
  · rintro _ _ _ ⟨_, _, _, _, _, rfl, _⟩
    rfl
  · obtain ⟨kd, n, ct, ix, rows, rfl, rfl, hk0, hk7, hct, hz, hl, hk⟩ := hs
    change WS _ _ _ [_, _, _, _, _, _, _] _; dsimp only [cxOf, Cx.nox, Cx.wish]
    walk_at "W"
    rw [List.length_map]
    refine di (fun h0 => ?_) (fun h0 => ?_)
    · walk_at "W"
      exact ⟨_, List.nil_sublist _, hk [(_, [])] (.inl ⟨_, rfl⟩)⟩
    · have hp : 0 < rows.length := by omega
      obtain ⟨m0, m1⟩ := mod_in (a := n) hp
      obtain ⟨x, hx⟩ := get_in m0 m1
      have hxl := hl x (List.mem_of_getElem? hx)
      have zz : ∀ {a : Nat}, a ≤ 4000 → a ≤ sizeLine := fun {a} h => Nat.le_trans h (by decide)
      walk_at "W"
      rw [List.length_map]
      refine wr_mod (by omega) ?_
      walk_at "W"
      refine di (fun h1 => ?_) (fun h1 => ?_)
      · walk_at "W"
        refine wr_ixL at0 (atI_map m0 hx) ?_
        walk_at "W"
        refine ⟨[], _, Split.none _, kd, n / 60, _, ct, ix, x, rfl, rfl, hct, hxl, fun r' hr' => ?_⟩
        refine wg_set ?_
        walk_at "W"
        refine ⟨0, _, _, _, _, rfl, rfl, at0, ixN_in m0 (by rw [List.length_map]; exact m1), ?_⟩
        walk_at "W"
        rw [map_set']
        exact ⟨_, List.nil_sublist _, hk _ (.inr (.inl ⟨_, x, r', hx, hr', rfl⟩))⟩
      · walk_at "W"
        refine di (fun h2 => ?_) (fun h2 => ?_)
        · walk_at "W"
          refine .inr ⟨0, _, _, rfl, at0, fun r => ?_⟩
          walk_at "W"
          refine .inr ⟨0, _, _, rfl, at0, fun r => ?_⟩
          rw [cut_takeI m0, cut_dropI (by omega), ← List.map_take, ← List.map_drop]
          refine wr_catL at1 at2 (by rw [List.length_map, List.length_map, List.length_take, List.length_drop]; exact zz (by omega)) (fun r => ?_)
          rw [map_app]
          walk_at "W"
          refine ⟨_, List.nil_sublist _, hk _ (.inr (.inr (.inl ⟨(n % (rows.length : Int)).toNat, ?_⟩)))⟩
          rw [show (n % (rows.length : Int) + 1).toNat = (n % (rows.length : Int)).toNat + 1 by omega]
        · walk_at "W"
          refine di (fun h3 => ?_) (fun h3 => ?_)
          · walk_at "W"
            refine .inr ⟨0, _, _, rfl, at0, fun r => ?_⟩
            walk_at "W"
            refine .inr ⟨0, _, _, rfl, at0, fun r => ?_⟩
            rw [cut_takeI m0, cut_midI (by omega) (by omega), ← List.map_take, ← List.map_drop, ← List.map_take]
            refine wr_catL at1 at2 (by rw [List.length_map, List.length_map, List.length_take, List.length_take, List.length_drop]; exact zz (by omega)) (fun r => ?_)
            rw [map_app]
            walk_at "W"
            refine wr_ixL at0 (atI_map m0 hx) ?_
            walk_at "W"
            refine wr_catL at3 at4 (by rw [List.length_map, List.length_append, List.length_take, List.length_take, List.length_drop]; exact zz (by show _ + 1 ≤ _; omega)) (fun r => ?_)
            rw [show ([rowD x] : List D) = [x].map rowD from rfl, map_app]
            walk_at "W"
            refine .inr ⟨0, _, _, rfl, at0, fun r => ?_⟩
            rw [cut_dropI (by omega), ← List.map_drop]
            refine wr_catL at5 at6 (by rw [List.length_map, List.length_map, List.length_append, List.length_append, List.length_take, List.length_take, List.length_drop, List.length_drop]; exact zz (by show _ + 1 + _ ≤ _; omega)) (fun r => ?_)
            rw [map_app]
            walk_at "W"
            refine ⟨_, List.nil_sublist _, hk _ (.inr (.inr (.inr (.inl ⟨(n % (rows.length : Int)).toNat, x, hx, ?_⟩))))⟩
            rw [show (n % (rows.length : Int) + 1).toNat = (n % (rows.length : Int)).toNat + 1 by omega, show (n % (rows.length : Int) + 2).toNat = (n % (rows.length : Int)).toNat + 2 by omega, show (n % (rows.length : Int)).toNat + 2 - ((n % (rows.length : Int)).toNat + 1) = 1 by omega]
          · walk_at "W"
            refine di (fun h4 => ?_) (fun h4 => ?_)
            · walk_at "W"
              refine .inr ⟨0, _, _, rfl, at0, fun r => ?_⟩
              rw [cut_takeI m0, ← List.map_take]
              walk_at "W"
              refine wr_ixL at0 (atI_map m0 hx) ?_
              walk_at "W"
              refine wr_catL at1 at2 (by rw [List.length_map, List.length_take]; exact zz (by show _ + 1 ≤ _; omega)) (fun r => ?_)
              rw [show ([rowD x] : List D) = [x].map rowD from rfl, map_app]
              walk_at "W"
              refine .inr ⟨0, _, _, rfl, at0, fun r => ?_⟩
              rw [cut_dropI (by omega), ← List.map_drop]
              refine wr_catL at3 at4 (by rw [List.length_map, List.length_map, List.length_append, List.length_take, List.length_drop]; exact zz (by show _ + 1 + _ ≤ _; omega)) (fun r => ?_)
              rw [map_app]
              walk_at "W"
              exact ⟨_, List.nil_sublist _, hk _ (.inr (.inr (.inr (.inr ⟨_, x, hx, rfl⟩))))⟩
            · exfalso
              omega
end
end A

set_option Elab.async false
set_option linter.all false
set_option maxRecDepth 100000
set_option maxHeartbeats 8000000
namespace A
open PySem PySem.Spec PyProof.Rows L2
local macro_rules | `(tactic| walk_at "at") => `(tactic| first | exact at0 | exact at1 | exact at2 | exact at3 | exact at4 | exact at5 | exact at6 | exact at7)
local macro_rules | `(tactic| walk_at "fl") => `(tactic| first
  | (with_reducible refine' fl_laid (by assumption) ?_) | (with_reducible refine' fl_goal (by assumption) ?_) | (with_reducible refine' fl_state (by assumption) ?_) | (with_reducible refine' fl_letter (by assumption) ?_)
  | (with_reducible refine' fl_steps (by assumption) ?_) | (with_reducible refine' fl_marks (by assumption) ?_) | (with_reducible refine' fl_entries (by assumption) ?_) | (with_reducible refine' fl_weight (by assumption) ?_) | (with_reducible refine' fl_msteps (by assumption) ?_))
local macro_rules | `(tactic| walk_at "ix") => `(tactic| first
  | (with_reducible refine' ix_en0 ?_) | (with_reducible refine' ix_en1 ?_) | (with_reducible refine' ix_en2 ?_) | (with_reducible refine' ix_en3 ?_) | (with_reducible refine' ix_row0 ?_) | (with_reducible refine' ix_row1 ?_) | (with_reducible refine' ix_mv0 ?_) | (with_reducible refine' ix_mvS ?_) | (with_reducible refine' ix_mvN ?_) | (with_reducible refine' ix_mv1 ?_) | (with_reducible refine' ix_hd0 ?_) | (with_reducible refine' ix_hd1 ?_))
local macro_rules | `(tactic| walk_at "w") => `(tactic| first
  | ((with_reducible refine' we_var ?hvar ?_); (case hvar => rfl))
  | (with_reducible refine' we_int ?_)
  | (with_reducible refine' we_op ?_)
  | (with_reducible refine' wr_add ?_) | (with_reducible refine' wr_sub ?_)
  | ((with_reducible refine' wr_ixT ?hix ?_); (case hix => rfl))
  | ((with_reducible refine' wr_mod ?hmod ?_); (case hmod => first | decide | omega | assumption))
  | ((with_reducible refine' wr_div ?hdiv ?_); (case hdiv => exact ⟨by decide, by decide⟩))
  | (with_reducible refine' wr_eqI ?_) | (with_reducible refine' wr_neI ?_) | (with_reducible refine' wr_lt ?_) | (with_reducible refine' wr_le ?_) | (with_reducible refine' wr_gt ?_) | (with_reducible refine' wr_ge ?_)
  | ((with_reducible refine' isn0 ?hisn ?_); (case hisn => rfl)) | ((with_reducible refine' isn1 ?hisn ?_); (case hisn => rfl)) | ((with_reducible refine' ntn0 ?hisn ?_); (case hisn => rfl)) | ((with_reducible refine' ntn1 ?hisn ?_); (case hisn => rfl))
  | (with_reducible refine' wr_isN ?_) | (with_reducible refine' wr_notN ?_) | (with_reducible refine' wr_eqS ?_)
  | (with_reducible refine' d0n ?_) | (with_reducible refine' d1n ?_) | (with_reducible refine' d0 rfl ?_) | (with_reducible refine' d1 rfl ?_) | (with_reducible refine' bl_intro ?_) | (with_reducible refine' int_intro ?_) | ((with_reducible refine' And.intro ?hlen ?_); (case hlen => exact len_le rfl); try (with_reducible intro _))
  | (walk_at "ix")
  | (with_reducible refine' we_fldP ?_) | (walk_at "fl")
  | (with_reducible refine' we_tup ?_) | (with_reducible refine' we_lst ?_)
  | (with_reducible refine' wa_nil ?_) | (with_reducible refine' wa_cons ?_)
  | (with_reducible refine' we_non ?_) | (with_reducible refine' we_bl ?_) | (with_reducible refine' we_str ?_) | (with_reducible refine' we_ty ?_)
  | (with_reducible refine' we_cb ?_) | (with_reducible refine' wc_lenI ?_) | (with_reducible refine' wc_lenT ?_) | ((with_reducible refine' wc_lenL ?hat ?_); (case hat => walk_at "at"))
  | (with_reducible refine' wc_tupT ?_) | ((with_reducible refine' wc_tupL ?hat ?_); (case hat => walk_at "at"))
  | (with_reducible refine' wc_listI (fun _ => ?_)) | (with_reducible refine' wc_listT (fun _ => ?_)) | ((with_reducible refine' wc_listL ?hat (fun _ => ?_)); (case hat => walk_at "at"))
  | (with_reducible refine' wt_test ?_) | (with_reducible refine' wt_B ?_) | (with_reducible refine' wt_and ?_) | (with_reducible refine' wt_or ?_) | (with_reducible refine' wt_not ?_) | (with_reducible refine' wt_yes ?_)
  | (with_reducible refine' we_chain ?_) | (with_reducible refine' we_orV ?_) | (with_reducible refine' we_andV ?_) | (with_reducible refine' we_din ?_) | (with_reducible refine' we_neg ?_)
  | (with_reducible refine' we_sl ?_) | (with_reducible refine' wo_no ?_) | (with_reducible refine' wo_part ?_)
  | (with_reducible refine' we_meth ?_) | ((with_reducible refine' tk_intro ?htk ?_); (case htk => decide +kernel)) | (with_reducible refine' we_call ?_)
  | (with_reducible refine' we_app ?_) | (with_reducible refine' we_pop0 ?_)
  | (with_reducible refine' ws_seqA ?_) | (with_reducible refine' ws_seqI ?_) | (with_reducible refine' ws_seqD ?_) | (with_reducible refine' ws_ret ?_) | (with_reducible refine' ws_asgN ?_) | (with_reducible refine' ws_asg ?_) | (with_reducible refine' ws_drop ?_) | (with_reducible refine' ws_if ?_) | (with_reducible refine' ws_nx ?_)
  | (with_reducible refine' ws_seqG ?_) | (with_reducible refine' ws_seqJ ?_)
  | (with_reducible refine' wg_name ?_) | (with_reducible refine' wg_tup rfl ?_) | (with_reducible refine' wg_row ?_) | (with_reducible refine' wg_mv ?_) | (with_reducible refine' wgs_cons ?_) | (with_reducible refine' wgs_nil ?_))
local macro_rules | `(tactic| walk_at "W") => `(tactic| repeat walk_at "w")
local macro_rules | `(tactic| walk_at "sp") => `(tactic| repeat first | exact Split.nil | refine' Split.take ?_ | refine' Split.leave ?_)
section
variable {P : Program} {w : World} {K : PySem.W.Frag} {mg : Str → Option Value} {base : Heap}
theorem map_appM {α : Type} {f : α → D} {xs ys : List α} : xs.map f ++ ys.map f = (xs ++ ys).map f := by rw [List.map_append]
def sChangedMove : List D → Mm → (D → Mm → Prop) → Prop := fun ds F k => ∃ (kd n ct sz ix : Int) (m : Mv), ds = [.int kd, .int n, mvD m, .int ct, .int sz, .int ix] ∧ F = [] ∧ 0 ≤ ct ∧ ∀ m' : Mv, k (mvD m') []
theorem scLawChangedMove : FnScope ["_law_kind", "_law_number", "_law_move_here", "_law_count", "_law_size", "_law_index"] ["_law_kind", "_law_number", "_law_move_here", "_law_count", "_law_size", "_law_index"] K69.dLawChangedMove.scope := ⟨rfl, rfl, rfl, by decide +kernel, rfl, by decide +kernel, by decide +kernel⟩
theorem ok_changed_move (T : Txt K mg) : Ok1 P w K mg base K69.dLawChangedMove 1 ["_law_kind", "_law_number", "_law_move_here", "_law_count", "_law_size", "_law_index"] (spOf sChangedMove) := by
  refine mk_okG (N := ["_law_kind", "_law_number", "_law_move_here", "_law_count", "_law_size", "_law_index"]) (T.c.def_ 26 (d := K69.dLawChangedMove) rfl) scLawChangedMove rfl (fun _ _ _ _ _ _ us hl => match us, hl with | [_, _, _, _, _, _], _ => rfl) ?_ (fun cdv A outer s H E hr => ⟨_, (pss_cons (ps_if (PW.pt (pw_and (pt_cmpR (op_eqX hr.units) (pv 0) pe_int (nomark _)) (pw_and1 (pt_cmpR (op_eqX hr.units) (pe_op op_mod (pv 1) pe_int) pe_int (nomark _))))) (pss_one (ps_ret (pe_tup (pa_cons (pe_op op_sub (pe_ix ix_seq (pv 2) pe_int (fun _ _ => rfl)) (pv 3)) (pa_cons (pe_ix ix_seq (pv 2) pe_int (fun _ _ => rfl)) pa_nil))))) pss_nil)
  (pss_cons (ps_if (pt_cmpR (op_eqX hr.units) (pv 0) pe_int (nomark _)) (pss_one (ps_ret (pe_tup (pa_cons (pe_op op_sub (pe_op op_mod (pe_op op_fdiv (pv 1) pe_int) (pe_op op_addX (pv 3) pe_int)) pe_int) (pa_cons (pe_ix ix_seq (pv 2) pe_int (fun _ _ => rfl)) pa_nil))))) pss_nil)
  (pss_cons (ps_if (PW.pt (pw_and (pt_cmpR (op_eqX hr.units) (pv 0) pe_int (nomark _)) (pw_and (pt_cmpR (op_eqX hr.units) (pe_op op_mod (pv 1) pe_int) pe_int (nomark _)) (pw_and1 (pt_cmpR op_notN (pe_ix ix_seq (pv 2) pe_int (fun _ _ => rfl)) pe_non (nomark _)))))) (pss_one (ps_ret (pe_tup (pa_cons (pe_ix ix_seq (pv 2) pe_int (fun _ _ => rfl)) (pa_cons (pe_op op_sub (pe_ix ix_seq (pv 2) pe_int (fun _ _ => rfl)) (pv 4)) pa_nil))))) pss_nil)
  (pss_cons (ps_if (pt_cmpR (op_eqX hr.units) (pv 0) pe_int (nomark _)) (pss_one (ps_ret (pe_tup (pa_cons (pe_ix ix_seq (pv 2) pe_int (fun _ _ => rfl)) (pa_cons (pv 5) pa_nil))))) pss_nil)
  (pss_one (ps_ret (pe_tup (pa_cons (pe_ix ix_seq (pv 2) pe_int (fun _ _ => rfl)) (pa_cons pe_non pa_nil))))))))), fun ds F k Γ hs hw => ?_⟩)
  · rintro _ _ _ ⟨_, _, _, _, _, _, rfl, _⟩
    rfl
  · obtain ⟨kd, n, ct, sz, ix, ⟨ma, mb⟩, rfl, rfl, hct, hk⟩ := hs
    change WS _ _ _ [_, _, _, _, _, _] _; dsimp only [cxOf, Cx.nox, Cx.wish]
    walk_at "W"
    refine di (fun h0 => ?_) (fun h0 => ?_)
    · walk_at "W"
      refine di (fun h1 => ?_) (fun h1 => ?_)
      · cases mb with
        | none =>
          walk_at "W"
          exact ⟨_, List.nil_sublist _, hk (_, none)⟩
        | some q =>
          walk_at "W"
          exact ⟨_, List.nil_sublist _, hk (_, some q)⟩
      · walk_at "W"
        refine d1 (decide_eq_true h0) ?_
        cases mb with
        | none =>
          walk_at "W"
          exact ⟨_, List.nil_sublist _, hk (_, none)⟩
        | some q =>
          walk_at "W"
          exact ⟨_, List.nil_sublist _, hk (_, some q)⟩
    · walk_at "W"
      refine d0 (decide_eq_false h0) ?_
      walk_at "W"
      refine di (fun h1 => ?_) (fun h1 => ?_)
      · walk_at "W"
        refine di (fun h2 => ?_) (fun h2 => ?_)
        · cases mb with
          | none =>
            walk_at "W"
            refine d1 (decide_eq_true h1) ?_
            walk_at "W"
            exact ⟨_, List.nil_sublist _, hk (_, some ix)⟩
          | some q =>
            walk_at "W"
            exact ⟨_, List.nil_sublist _, hk (_, some (q - sz))⟩
        · walk_at "W"
          refine d1 (decide_eq_true h1) ?_
          walk_at "W"
          exact ⟨_, List.nil_sublist _, hk (_, some ix)⟩
      · walk_at "W"
        refine d0 (decide_eq_false h1) ?_
        walk_at "W"
        exact ⟨_, List.nil_sublist _, hk (_, none)⟩
def sChangedMoves : List D → Mm → (D → Mm → Prop) → Prop := fun ds F k => ∃ (kd n ct sz ix : Int) (mv : List Mv), ds = [.int kd, .int n, .tup (mv.map mvD), .int ct, .int sz, .int ix] ∧ F = [] ∧ 0 ≤ kd ∧ kd < 6 ∧ 0 ≤ ct ∧ mv.length ≤ 900 ∧ ∀ mv' : List Mv, mv'.length ≤ mv.length + 1 → k (.tup (mv'.map mvD)) []
theorem scLawChangedMoves : FnScope ["_law_kind", "_law_number", "_law_moves", "_law_count", "_law_size", "_law_index", "_law_rest", "_law_at"] ["_law_kind", "_law_number", "_law_moves", "_law_count", "_law_size", "_law_index"] K69.dLawChangedMoves.scope := ⟨rfl, rfl, rfl, by decide +kernel, rfl, by decide +kernel, by decide +kernel⟩
theorem ok_changed_moves (T : Txt K mg) (oLawChangedMove : Ok1 P w K mg base K69.dLawChangedMove 1 ["_law_kind", "_law_number", "_law_move_here", "_law_count", "_law_size", "_law_index"] (spOf sChangedMove)) : Ok1 P w K mg base K69.dLawChangedMoves 2 ["_law_kind", "_law_number", "_law_moves", "_law_count", "_law_size", "_law_index"] (spOf sChangedMoves) := by
  refine mk_okG (N := ["_law_kind", "_law_number", "_law_moves", "_law_count", "_law_size", "_law_index", "_law_rest", "_law_at"]) (T.c.def_ 27 (d := K69.dLawChangedMoves) rfl) scLawChangedMoves rfl (fun _ _ _ _ _ _ us hl => match us, hl with | [_, _, _, _, _, _], _ => rfl) ?_ (fun cdv A outer s H E hr => ⟨_, (pss_cons (ps_set (i := 2) scLawChangedMoves.nd rfl (by first | exact Or.inl rfl | exact Or.inr rfl) (pe_callTy call_listX (by rfl) (T.free 54) (by decide +kernel) (pa_cons (pv 2) pa_nil)))
  (pss_cons (ps_set (i := 6) scLawChangedMoves.nd rfl (by first | exact Or.inl rfl | exact Or.inr rfl) (pe_op op_fdiv (pv 1) pe_int))
  (pss_cons (ps_if (pt_cmpR (op_eqX hr.units) (pe_callB call_lenX (by rfl) (T.free 53) (by decide +kernel) (pa_cons (pv 2) pa_nil)) pe_int (nomark _)) (pss_one (ps_ret (pe_tup (pa_cons (pe_tup (pa_cons (pe_op op_sub (pe_op op_mod (pv 6) (pe_op op_addX (pv 3) pe_int)) pe_int) (pa_cons pe_non pa_nil))) pa_nil)))) pss_nil)
  (pss_cons (ps_set (i := 7) scLawChangedMoves.nd rfl (by first | exact Or.inl rfl | exact Or.inr rfl) (pe_op op_mod (pv 1) (pe_callB call_lenX (by rfl) (T.free 53) (by decide +kernel) (pa_cons (pv 2) pa_nil))))
  (pss_cons (ps_if (pt_cmpR op_lt (pv 0) pe_int (nomark _)) (pss_one (ps_asg (pe_fn oLawChangedMove rfl hr rfl (T.glo 19) (pa_cons (pv 0) (pa_cons (pv 6) (pa_cons (pe_ix ix_seq (pv 2) (pv 7) (fun _ _ => rfl)) (pa_cons (pv 3) (pa_cons (pv 4) (pa_cons (pv 5) pa_nil))))))) (pg_sub (pv 2) (pv 7) set_list))) (pss_one (ps_if (pt_cmpR (op_eqX hr.units) (pv 0) pe_int (nomark _)) (pss_one (ps_set (i := 2) scLawChangedMoves.nd rfl (by first | exact Or.inl rfl | exact Or.inr rfl) (pe_op op_addX (pe_slice sl_X (pv 2) po_none (po_some (pv 7))) (pe_slice sl_X (pv 2) (po_some (pe_op op_addX (pv 7) pe_int)) po_none)))) (pss_one (ps_if (pt_cmpR (op_eqX hr.units) (pv 0) pe_int (nomark _)) (pss_one (ps_set (i := 2) scLawChangedMoves.nd rfl (by first | exact Or.inl rfl | exact Or.inr rfl) (pe_op op_addX (pe_slice sl_X (pv 2) (po_some (pv 7)) po_none) (pe_slice sl_X (pv 2) po_none (po_some (pv 7)))))) (pss_one (ps_if (pt_cmpR (op_eqX hr.units) (pv 0) pe_int (nomark _)) (pss_one (ps_set (i := 2) scLawChangedMoves.nd rfl (by first | exact Or.inl rfl | exact Or.inr rfl) (pe_op op_addX (pv 2) (pe_lst (pa_cons (pe_ix ix_seq (pv 2) (pv 7) (fun _ _ => rfl)) pa_nil))))) pss_nil)))))))
  (pss_one (ps_ret (pe_callTy call_tupX (by rfl) (T.free 55) (by decide +kernel) (pa_cons (pv 2) pa_nil))))))))), fun ds F k Γ hs hw => ?_⟩)
  · rintro _ _ _ ⟨_, _, _, _, _, _, rfl, _⟩
    rfl
  · obtain ⟨kd, n, ct, sz, ix, mv, rfl, rfl, hk0, hk6, hct, hz, hk⟩ := hs
    change WS _ _ _ [_, _, _, _, _, _, _, _] _; dsimp only [cxOf, Cx.nox, Cx.wish]
    walk_at "W"
    rw [List.length_map]
    refine di (fun h0 => ?_) (fun h0 => ?_)
    · walk_at "W"
      exact ⟨_, List.nil_sublist _, hk [(_, none)] (by simp)⟩
    · have hp : 0 < mv.length := by omega
      obtain ⟨m0, m1⟩ := mod_in (a := n) hp
      obtain ⟨x, hx⟩ := get_in m0 m1
      have zz : ∀ {a : Nat}, a ≤ 4000 → a ≤ sizeLine := fun {a} h => Nat.le_trans h (by decide)
      walk_at "W"
      rw [List.length_map]
      refine wr_mod (by omega) ?_
      walk_at "W"
      refine di (fun h1 => ?_) (fun h1 => ?_)
      · walk_at "W"
        refine wr_ixL at0 (atI_map m0 hx) ?_
        walk_at "W"
        refine ⟨[], _, Split.none _, kd, n / 10, ct, sz, ix, x, rfl, rfl, hct, fun m' => ?_⟩
        refine wg_set ?_
        walk_at "W"
        refine ⟨0, _, _, _, _, rfl, rfl, at0, ixN_in m0 (by rw [List.length_map]; exact m1), ?_⟩
        walk_at "W"
        rw [map_set']
        exact ⟨_, List.nil_sublist _, hk _ (by rw [List.length_set]; omega)⟩
      · walk_at "W"
        refine di (fun h2 => ?_) (fun h2 => ?_)
        · walk_at "W"
          refine .inr ⟨0, _, _, rfl, at0, fun r => ?_⟩
          walk_at "W"
          refine .inr ⟨0, _, _, rfl, at0, fun r => ?_⟩
          rw [cut_takeI m0, cut_dropI (by omega), ← List.map_take, ← List.map_drop]
          refine wr_catL at1 at2 (by rw [List.length_map, List.length_map, List.length_take, List.length_drop]; exact zz (by omega)) (fun r => ?_)
          rw [map_appM]
          walk_at "W"
          exact ⟨_, List.nil_sublist _, hk _ (by rw [List.length_append, List.length_take, List.length_drop]; omega)⟩
        · walk_at "W"
          refine di (fun h3 => ?_) (fun h3 => ?_)
          · walk_at "W"
            refine .inr ⟨0, _, _, rfl, at0, fun r => ?_⟩
            walk_at "W"
            refine .inr ⟨0, _, _, rfl, at0, fun r => ?_⟩
            rw [cut_takeI m0, cut_dropI m0, ← List.map_take, ← List.map_drop]
            refine wr_catL at1 at2 (by rw [List.length_map, List.length_map, List.length_take, List.length_drop]; exact zz (by omega)) (fun r => ?_)
            rw [map_appM]
            walk_at "W"
            exact ⟨_, List.nil_sublist _, hk _ (by rw [List.length_append, List.length_take, List.length_drop]; omega)⟩
          · walk_at "W"
            refine di (fun h4 => ?_) (fun h4 => ?_)
            · walk_at "W"
              refine wr_ixL at0 (atI_map m0 hx) ?_
              walk_at "W"
              refine wr_catL at0 at1 (by rw [List.length_map]; exact zz (by show _ + 1 ≤ _; omega)) (fun r => ?_)
              rw [show ([mvD x] : List D) = [x].map mvD from rfl, map_appM]
              walk_at "W"
              exact ⟨_, List.nil_sublist _, hk _ (by rw [List.length_append]; show _ + 1 ≤ _; omega)⟩
            · exfalso
              omega
end
end A

set_option Elab.async false
set_option linter.all false
set_option maxRecDepth 100000
set_option maxHeartbeats 8000000
namespace A
open PySem PySem.Spec PyProof.Rows L2
local macro_rules | `(tactic| walk_at "at") => `(tactic| first | exact at0 | exact at1 | exact at2 | exact at3 | exact at4 | exact at5 | exact at6 | exact at7)
local macro_rules | `(tactic| walk_at "fl") => `(tactic| first
  | (with_reducible refine' fl_laid (by assumption) ?_) | (with_reducible refine' fl_goal (by assumption) ?_) | (with_reducible refine' fl_state (by assumption) ?_) | (with_reducible refine' fl_letter (by assumption) ?_)
  | (with_reducible refine' fl_steps (by assumption) ?_) | (with_reducible refine' fl_marks (by assumption) ?_) | (with_reducible refine' fl_entries (by assumption) ?_) | (with_reducible refine' fl_weight (by assumption) ?_) | (with_reducible refine' fl_msteps (by assumption) ?_))
local macro_rules | `(tactic| walk_at "ix") => `(tactic| first
  | (with_reducible refine' ix_en0 ?_) | (with_reducible refine' ix_en1 ?_) | (with_reducible refine' ix_en2 ?_) | (with_reducible refine' ix_en3 ?_) | (with_reducible refine' ix_row0 ?_) | (with_reducible refine' ix_row1 ?_) | (with_reducible refine' ix_mv0 ?_) | (with_reducible refine' ix_mvS ?_) | (with_reducible refine' ix_mvN ?_) | (with_reducible refine' ix_mv1 ?_) | (with_reducible refine' ix_hd0 ?_) | (with_reducible refine' ix_hd1 ?_))
local macro_rules | `(tactic| walk_at "w") => `(tactic| first
  | ((with_reducible refine' we_var ?hvar ?_); (case hvar => rfl))
  | (with_reducible refine' we_int ?_)
  | (with_reducible refine' we_op ?_)
  | (with_reducible refine' wr_add ?_) | (with_reducible refine' wr_sub ?_)
  | ((with_reducible refine' wr_ixT ?hix ?_); (case hix => rfl))
  | ((with_reducible refine' wr_mod ?hmod ?_); (case hmod => first | decide | omega | assumption))
  | ((with_reducible refine' wr_div ?hdiv ?_); (case hdiv => exact ⟨by decide, by decide⟩))
  | (with_reducible refine' wr_eqI ?_) | (with_reducible refine' wr_neI ?_) | (with_reducible refine' wr_lt ?_) | (with_reducible refine' wr_le ?_) | (with_reducible refine' wr_gt ?_) | (with_reducible refine' wr_ge ?_)
  | ((with_reducible refine' isn0 ?hisn ?_); (case hisn => rfl)) | ((with_reducible refine' isn1 ?hisn ?_); (case hisn => rfl)) | ((with_reducible refine' ntn0 ?hisn ?_); (case hisn => rfl)) | ((with_reducible refine' ntn1 ?hisn ?_); (case hisn => rfl))
  | (with_reducible refine' wr_isN ?_) | (with_reducible refine' wr_notN ?_) | (with_reducible refine' wr_eqS ?_)
  | (with_reducible refine' d0n ?_) | (with_reducible refine' d1n ?_) | (with_reducible refine' d0 rfl ?_) | (with_reducible refine' d1 rfl ?_) | (with_reducible refine' bl_intro ?_) | (with_reducible refine' int_intro ?_) | ((with_reducible refine' And.intro ?hlen ?_); (case hlen => exact len_le rfl); try (with_reducible intro _))
  | (walk_at "ix")
  | (with_reducible refine' we_fldP ?_) | (walk_at "fl")
  | (with_reducible refine' we_tup ?_) | (with_reducible refine' we_lst ?_)
  | (with_reducible refine' wa_nil ?_) | (with_reducible refine' wa_cons ?_)
  | (with_reducible refine' we_non ?_) | (with_reducible refine' we_bl ?_) | (with_reducible refine' we_str ?_) | (with_reducible refine' we_ty ?_)
  | (with_reducible refine' we_cb ?_) | (with_reducible refine' wc_lenI ?_) | (with_reducible refine' wc_lenT ?_) | ((with_reducible refine' wc_lenL ?hat ?_); (case hat => walk_at "at"))
  | (with_reducible refine' wc_tupT ?_) | ((with_reducible refine' wc_tupL ?hat ?_); (case hat => walk_at "at"))
  | (with_reducible refine' wc_listI (fun _ => ?_)) | (with_reducible refine' wc_listT (fun _ => ?_)) | ((with_reducible refine' wc_listL ?hat (fun _ => ?_)); (case hat => walk_at "at"))
  | (with_reducible refine' wt_test ?_) | (with_reducible refine' wt_B ?_) | (with_reducible refine' wt_and ?_) | (with_reducible refine' wt_or ?_) | (with_reducible refine' wt_not ?_) | (with_reducible refine' wt_yes ?_)
  | (with_reducible refine' we_chain ?_) | (with_reducible refine' we_orV ?_) | (with_reducible refine' we_andV ?_) | (with_reducible refine' we_din ?_) | (with_reducible refine' we_neg ?_)
  | (with_reducible refine' we_sl ?_) | (with_reducible refine' wo_no ?_) | (with_reducible refine' wo_part ?_)
  | (with_reducible refine' we_meth ?_) | ((with_reducible refine' tk_intro ?htk ?_); (case htk => decide +kernel)) | (with_reducible refine' we_call ?_)
  | (with_reducible refine' we_app ?_) | (with_reducible refine' we_pop0 ?_)
  | (with_reducible refine' ws_seqA ?_) | (with_reducible refine' ws_seqI ?_) | (with_reducible refine' ws_seqD ?_) | (with_reducible refine' ws_ret ?_) | (with_reducible refine' ws_asgN ?_) | (with_reducible refine' ws_asg ?_) | (with_reducible refine' ws_drop ?_) | (with_reducible refine' ws_if ?_) | (with_reducible refine' ws_nx ?_)
  | (with_reducible refine' ws_seqG ?_) | (with_reducible refine' ws_seqJ ?_)
  | (with_reducible refine' wg_name ?_) | (with_reducible refine' wg_tup rfl ?_) | (with_reducible refine' wg_row ?_) | (with_reducible refine' wg_mv ?_) | (with_reducible refine' wgs_cons ?_) | (with_reducible refine' wgs_nil ?_))
local macro_rules | `(tactic| walk_at "W") => `(tactic| repeat walk_at "w")
local macro_rules | `(tactic| walk_at "sp") => `(tactic| repeat first | exact Split.nil | refine' Split.take ?_ | refine' Split.leave ?_)
section
variable {P : Program} {w : World} {K : PySem.W.Frag} {mg : Str → Option Value} {base : Heap}
def sChangedDescent : List D → Mm → (D → Mm → Prop) → Prop := fun ds F k => ∃ (kd n sz ix : Int) (dsc : List Int), ds = [.int kd, .int n, tupI dsc, .int sz, .int ix] ∧ F = [] ∧ dsc.length ≤ 900 ∧ ∀ dsc' : List Int, dsc'.length ≤ dsc.length + 1 → k (tupI dsc') []
theorem scLawChangedDescent : FnScope ["_law_kind", "_law_number", "_law_descent", "_law_size", "_law_index", "_law_at"] ["_law_kind", "_law_number", "_law_descent", "_law_size", "_law_index"] K69.dLawChangedDescent.scope := ⟨rfl, rfl, rfl, by decide +kernel, rfl, by decide +kernel, by decide +kernel⟩
theorem ok_changed_descent (T : Txt K mg) : Ok1 P w K mg base K69.dLawChangedDescent 1 ["_law_kind", "_law_number", "_law_descent", "_law_size", "_law_index"] (spOf sChangedDescent) := by
  refine mk_okG (N := ["_law_kind", "_law_number", "_law_descent", "_law_size", "_law_index", "_law_at"]) (T.c.def_ 28 (d := K69.dLawChangedDescent) rfl) scLawChangedDescent rfl (fun _ _ _ _ _ _ us hl => match us, hl with | [_, _, _, _, _], _ => rfl) ?_ (fun cdv A outer s H E hr => ⟨_, (pss_cons (ps_set (i := 2) scLawChangedDescent.nd rfl (by first | exact Or.inl rfl | exact Or.inr rfl) (pe_callTy call_listX (by rfl) (T.free 54) (by decide +kernel) (pa_cons (pv 2) pa_nil)))
  (pss_cons (ps_if (PW.pt (pw_and (pt_cmpR (op_eqX hr.units) (pv 0) pe_int (nomark _)) (pw_and1 (pt_cmpR op_gt (pe_callB call_lenX (by rfl) (T.free 53) (by decide +kernel) (pa_cons (pv 2) pa_nil)) pe_int (nomark _))))) (pss_cons (ps_set (i := 5) scLawChangedDescent.nd rfl (by first | exact Or.inl rfl | exact Or.inr rfl) (pe_op op_mod (pv 1) (pe_callB call_lenX (by rfl) (T.free 53) (by decide +kernel) (pa_cons (pv 2) pa_nil))))
  (pss_cons (ps_if (pt_cmpR (op_eqX hr.units) (pe_op op_mod (pe_op op_fdiv (pv 1) pe_int) pe_int) pe_int (nomark _)) (pss_one (ps_set (i := 4) scLawChangedDescent.nd rfl (by first | exact Or.inl rfl | exact Or.inr rfl) (pe_op op_sub (pe_ix ix_seq (pv 2) (pv 5) (fun _ _ => rfl)) (pv 3)))) pss_nil)
  (pss_one (ps_asg (pv 4) (pg_sub (pv 2) (pv 5) set_list))))) (pss_one (ps_if (pt_cmpR (op_eqX hr.units) (pv 0) pe_int (nomark _)) (pss_one (ps_set (i := 2) scLawChangedDescent.nd rfl (by first | exact Or.inl rfl | exact Or.inr rfl) (pe_slice sl_X (pv 2) po_none (po_some (pe_un un_neg pe_int))))) (pss_one (ps_set (i := 2) scLawChangedDescent.nd rfl (by first | exact Or.inl rfl | exact Or.inr rfl) (pe_op op_addX (pv 2) (pe_lst (pa_cons (pv 4) pa_nil))))))))
  (pss_one (ps_ret (pe_callTy call_tupX (by rfl) (T.free 55) (by decide +kernel) (pa_cons (pv 2) pa_nil)))))), fun ds F k Γ hs hw => ?_⟩)
  · rintro _ _ _ ⟨_, _, _, _, _, rfl, _⟩
    rfl
  · obtain ⟨kd, n, sz, ix, dsc, rfl, rfl, hz, hk⟩ := hs
    have zz : ∀ {a : Nat}, a ≤ 4000 → a ≤ sizeLine := fun {a} h => Nat.le_trans h (by decide)
    have tail : ∀ (ix : Int), dsc.map D.int ++ [D.int ix] = (dsc ++ [ix]).map D.int := fun ix => by rw [List.map_append] <;> rfl
    change WS _ _ _ [_, _, _, _, _, _] _; dsimp only [cxOf, Cx.nox, Cx.wish]
    walk_at "W"
    refine di (fun h0 => ?_) (fun h0 => ?_)
    · walk_at "W"
      rw [List.length_map]
      refine di (fun h1 => ?_) (fun h1 => ?_)
      · have hp : 0 < dsc.length := by omega
        obtain ⟨m0, m1⟩ := mod_in (a := n) hp
        obtain ⟨x, hx⟩ := get_in m0 m1
        walk_at "W"
        rw [List.length_map]
        refine wr_mod (by omega) ?_
        walk_at "W"
        refine di (fun h2 => ?_) (fun h2 => ?_)
        · walk_at "W"
          refine wr_ixL at0 (atI_map m0 hx) ?_
          walk_at "W"
          refine wg_set ?_
          walk_at "W"
          refine ⟨0, _, _, _, _, rfl, rfl, at0, ixN_in m0 (by rw [List.length_map]; exact m1), ?_⟩
          walk_at "W"
          rw [map_set']
          exact ⟨_, List.nil_sublist _, hk _ (by rw [List.length_set]; omega)⟩
        · walk_at "W"
          refine wg_set ?_
          walk_at "W"
          refine ⟨0, _, _, _, _, rfl, rfl, at0, ixN_in m0 (by rw [List.length_map]; exact m1), ?_⟩
          walk_at "W"
          rw [map_set']
          exact ⟨_, List.nil_sublist _, hk _ (by rw [List.length_set]; omega)⟩
      · walk_at "W"
        refine d0 (decide_eq_false (by omega)) ?_
        walk_at "W"
        refine wr_catL at0 at1 (by rw [List.length_map]; exact zz (by show _ + 1 ≤ _; omega)) (fun r => ?_)
        rw [tail]
        walk_at "W"
        exact ⟨_, List.nil_sublist _, hk _ (by rw [List.length_append]; show _ + 1 ≤ _; omega)⟩
    · walk_at "W"
      refine di (fun h1 => ?_) (fun h1 => ?_)
      · walk_at "W"
        refine .inr ⟨0, _, _, rfl, at0, fun r => ?_⟩
        rw [cut_m1, ← List.map_take]
        walk_at "W"
        exact ⟨_, List.nil_sublist _, hk _ (by rw [List.length_take]; omega)⟩
      · walk_at "W"
        refine wr_catL at0 at1 (by rw [List.length_map]; exact zz (by show _ + 1 ≤ _; omega)) (fun r => ?_)
        rw [tail]
        walk_at "W"
        exact ⟨_, List.nil_sublist _, hk _ (by rw [List.length_append]; show _ + 1 ≤ _; omega)⟩
theorem ix_papH1 {Γ : G} {env : Env} {M : Mm} {k : D → Mm → Prop} {p : Paper} (h : k (.tup (p.rows.map rowD)) M) : WR Γ (rIx K) (papD p) (.int 1) env M k := wr_ixT rfl h
theorem ix_papH2 {Γ : G} {env : Env} {M : Mm} {k : D → Mm → Prop} {p : Paper} (h : k (tupI p.descent) M) : WR Γ (rIx K) (papD p) (.int 2) env M k := wr_ixT rfl h
theorem ix_papH3 {Γ : G} {env : Env} {M : Mm} {k : D → Mm → Prop} {p : Paper} (h : k (.tup (p.way.map mvD)) M) : WR Γ (rIx K) (papD p) (.int 3) env M k := wr_ixT rfl h
theorem ix_papH4 {Γ : G} {env : Env} {M : Mm} {k : D → Mm → Prop} {p : Paper} (h : k (.tup (p.ring.map mvD)) M) : WR Γ (rIx K) (papD p) (.int 4) env M k := wr_ixT rfl h
def sChanged : List D → Mm → (D → Mm → Prop) → Prop := fun ds F k => ∃ (kd n ct : Int) (p : Paper), ds = [.int kd, .int n, papD p, .int ct] ∧ F = [] ∧ 0 ≤ kd ∧ kd < 22 ∧ 0 ≤ ct ∧ p.rows.length ≤ 900 ∧ (∀ r ∈ p.rows, r.2.length ≤ 2) ∧ p.way.length ≤ 900 ∧ p.ring.length ≤ 900 ∧ p.descent.length ≤ 900 ∧ ∀ p', PapChg p p' → k (papD p') []
theorem scLawChanged : FnScope ["_law_kind", "_law_number", "_law_paper", "_law_count", "_law_rows", "_law_descent", "_law_way", "_law_ring", "_law_size", "_law_index"] ["_law_kind", "_law_number", "_law_paper", "_law_count"] K69.dLawChanged.scope := ⟨rfl, rfl, rfl, by decide +kernel, rfl, by decide +kernel, by decide +kernel⟩
theorem ok_changed (T : Txt K mg) (oLawChangedRows : Ok1 P w K mg base K69.dLawChangedRows 2 ["_law_kind", "_law_number", "_law_rows", "_law_count", "_law_index"] (spOf sChangedRows)) (oLawChangedDescent : Ok1 P w K mg base K69.dLawChangedDescent 1 ["_law_kind", "_law_number", "_law_descent", "_law_size", "_law_index"] (spOf sChangedDescent)) (oLawChangedMoves : Ok1 P w K mg base K69.dLawChangedMoves 2 ["_law_kind", "_law_number", "_law_moves", "_law_count", "_law_size", "_law_index"] (spOf sChangedMoves)) :
    Ok1 P w K mg base K69.dLawChanged 3 ["_law_kind", "_law_number", "_law_paper", "_law_count"] (spOf sChanged) := by
  refine mk_okG (N := ["_law_kind", "_law_number", "_law_paper", "_law_count", "_law_rows", "_law_descent", "_law_way", "_law_ring", "_law_size", "_law_index"]) (T.c.def_ 29 (d := K69.dLawChanged) rfl) scLawChanged rfl (fun _ _ _ _ _ _ us hl => match us, hl with | [_, _, _, _], _ => rfl) ?_ (fun cdv A outer s H E hr => ⟨_, (pss_cons (ps_set (i := 4) scLawChanged.nd rfl (by first | exact Or.inl rfl | exact Or.inr rfl) (pe_ix ix_seq (pv 2) pe_int (fun _ _ => rfl)))
  (pss_cons (ps_set (i := 5) scLawChanged.nd rfl (by first | exact Or.inl rfl | exact Or.inr rfl) (pe_ix ix_seq (pv 2) pe_int (fun _ _ => rfl)))
  (pss_cons (ps_set (i := 6) scLawChanged.nd rfl (by first | exact Or.inl rfl | exact Or.inr rfl) (pe_ix ix_seq (pv 2) pe_int (fun _ _ => rfl)))
  (pss_cons (ps_set (i := 7) scLawChanged.nd rfl (by first | exact Or.inl rfl | exact Or.inr rfl) (pe_ix ix_seq (pv 2) pe_int (fun _ _ => rfl)))
  (pss_cons (ps_set (i := 8) scLawChanged.nd rfl (by first | exact Or.inl rfl | exact Or.inr rfl) (pe_callB call_lenX (by rfl) (T.free 53) (by decide +kernel) (pa_cons (pv 4) pa_nil)))
  (pss_cons (ps_set (i := 9) scLawChanged.nd rfl (by first | exact Or.inl rfl | exact Or.inr rfl) (pe_op op_sub (pe_op op_mod (pe_op op_fdiv (pv 1) pe_int) (pe_op op_addX (pv 8) pe_int)) pe_int))
  (pss_cons (ps_if (pt_cmpR op_lt (pv 0) pe_int (nomark _)) (pss_one (ps_set (i := 4) scLawChanged.nd rfl (by first | exact Or.inl rfl | exact Or.inr rfl) (pe_fn oLawChangedRows rfl hr rfl (T.glo 18) (pa_cons (pv 0) (pa_cons (pv 1) (pa_cons (pv 4) (pa_cons (pv 3) (pa_cons (pv 9) pa_nil)))))))) (pss_one (ps_if (pt_cmpR op_lt (pv 0) pe_int (nomark _)) (pss_one (ps_set (i := 5) scLawChanged.nd rfl (by first | exact Or.inl rfl | exact Or.inr rfl) (pe_fn oLawChangedDescent rfl (hr.mono (by decide)) rfl (T.glo 21) (pa_cons (pe_op op_sub (pv 0) pe_int) (pa_cons (pv 1) (pa_cons (pv 5) (pa_cons (pv 8) (pa_cons (pv 9) pa_nil)))))))) (pss_one (ps_if (pt_cmpR op_lt (pv 0) pe_int (nomark _)) (pss_one (ps_set (i := 6) scLawChanged.nd rfl (by first | exact Or.inl rfl | exact Or.inr rfl) (pe_fn oLawChangedMoves rfl hr rfl (T.glo 20) (pa_cons (pe_op op_sub (pv 0) pe_int) (pa_cons (pv 1) (pa_cons (pv 6) (pa_cons (pv 3) (pa_cons (pv 8) (pa_cons (pv 9) pa_nil))))))))) (pss_one (ps_if (pt_cmpR op_lt (pv 0) pe_int (nomark _)) (pss_one (ps_set (i := 7) scLawChanged.nd rfl (by first | exact Or.inl rfl | exact Or.inr rfl) (pe_fn oLawChangedMoves rfl hr rfl (T.glo 20) (pa_cons (pe_op op_sub (pv 0) pe_int) (pa_cons (pv 1) (pa_cons (pv 7) (pa_cons (pv 3) (pa_cons (pv 8) (pa_cons (pv 9) pa_nil))))))))) pss_nil)))))))
  (pss_one (ps_ret (pe_tup (pa_cons pe_str (pa_cons (pv 4) (pa_cons (pv 5) (pa_cons (pv 6) (pa_cons (pv 7) pa_nil))))))))))))))), fun ds F k Γ hs hw => ?_⟩)
  · rintro _ _ _ ⟨_, _, _, _, rfl, _⟩
    rfl
  · obtain ⟨kd, n, ct, p, rfl, rfl, hk0, hk22, hct, z1, z2, z3, z4, z5, hk⟩ := hs
    change WS _ _ _ [_, _, _, _, _, _, _, _, _, _] _; dsimp only [cxOf, Cx.nox, Cx.wish]
    walk_at "W"
    refine ix_papH1 ?_
    walk_at "W"
    refine ix_papH2 ?_
    walk_at "W"
    refine ix_papH3 ?_
    walk_at "W"
    refine ix_papH4 ?_
    walk_at "W"
    refine di (fun h0 => ?_) (fun h0 => ?_)
    · walk_at "W"
      refine ⟨[], _, Split.none _, kd, n, ct, _, p.rows, rfl, rfl, hk0, h0, hct, z1, z2, fun rows' hc => ?_⟩
      walk_at "W"
      exact ⟨_, List.nil_sublist _, hk ⟨rows', p.descent, p.way, p.ring⟩ (.inl ⟨rfl, rfl, rfl, hc⟩)⟩
    · walk_at "W"
      refine di (fun h1 => ?_) (fun h1 => ?_)
      · walk_at "W"
        refine ⟨[], _, Split.none _, _, n, _, _, p.descent, rfl, rfl, z5, fun dsc' hc => ?_⟩
        walk_at "W"
        exact ⟨_, List.nil_sublist _, hk ⟨p.rows, dsc', p.way, p.ring⟩ (.inr ⟨rfl, Nat.le_succ _, Nat.le_succ _, hc⟩)⟩
      · walk_at "W"
        refine di (fun h2 => ?_) (fun h2 => ?_)
        · walk_at "W"
          refine ⟨[], _, Split.none _, _, n, ct, _, _, p.way, rfl, rfl, by omega, by omega, hct, z3, fun mv' hc => ?_⟩
          walk_at "W"
          exact ⟨_, List.nil_sublist _, hk ⟨p.rows, p.descent, mv', p.ring⟩ (.inr ⟨rfl, hc, Nat.le_succ _, Nat.le_succ _⟩)⟩
        · walk_at "W"
          refine di (fun h3 => ?_) (fun h3 => absurd hk22 h3)
          walk_at "W"
          refine ⟨[], _, Split.none _, _, n, ct, _, _, p.ring, rfl, rfl, by omega, by omega, hct, z4, fun mv' hc => ?_⟩
          walk_at "W"
          exact ⟨_, List.nil_sublist _, hk ⟨p.rows, p.descent, p.way, mv'⟩ (.inr ⟨rfl, Nat.le_succ _, hc, Nat.le_succ _⟩)⟩
end
end A

set_option Elab.async false
set_option linter.all false
set_option maxRecDepth 100000
set_option maxHeartbeats 4000000
/-! What is planted, plainly. -/
namespace A
open PySem PySem.Spec PyProof.Rows L2
def rowAt (rows : List Row) (i : Int) : Option Row := if 0 ≤ i ∧ i < rows.length then rows[i.toNat]? else none
def OffP (O : Int → Int → Int → Int → Prop) : Int → List Int → List Int → Int → Prop
  | st, [], [], g => st = g
  | st, l :: ls, p :: ps, g => ∃ m, O p st l m ∧ OffP O m ls ps g
  | _, _, _, _ => False
/-- row i takes l off from st, ending in g; d bounds its depth -/
def Off (steps : List Stp) (rows : List Row) : Nat → Int → Int → Int → Int → Prop
  | 0, _, _, _, _ => False
  | d + 1, i, st, l, g => ∃ r s, rowAt rows i = some r ∧ stepAt steps r.1 = some s ∧ s.state = st ∧ s.letter = l ∧ OffP (fun p st l g => p < i ∧ Off steps rows d p st l g) s.goal s.laid r.2 g
theorem OffP.imp {O O' : Int → Int → Int → Int → Prop} (h : ∀ p st l g, O p st l g → O' p st l g) : ∀ {ls ps : List Int} {st g : Int}, OffP O st ls ps g → OffP O' st ls ps g
  | [], [], _, _, q => q
  | _ :: _, _ :: _, _, _, ⟨m, q, r⟩ => ⟨m, h _ _ _ _ q, OffP.imp h r⟩
  | [], _ :: _, _, _, q => q.elim
  | _ :: _, [], _, _, q => q.elim
theorem OffP.len {O : Int → Int → Int → Int → Prop} : ∀ {ls ps : List Int} {st g : Int}, OffP O st ls ps g → ps.length = ls.length
  | [], [], _, _, _ => rfl
  | _ :: _, _ :: _, _, _, ⟨_, _, r⟩ => congrArg Nat.succ (OffP.len r)
  | [], _ :: _, _, _, q => q.elim
  | _ :: _, [], _, _, q => q.elim
theorem stepAt_app {steps s2 : List Stp} {i : Int} {s : Stp} (h : stepAt steps i = some s) : stepAt (steps ++ s2) i = some s := by
  unfold stepAt at h ⊢
  by_cases c : 0 ≤ i ∧ i < steps.length
  · rw [if_pos c] at h
    rw [if_pos ⟨c.1, by rw [List.length_append]; omega⟩, List.getElem?_append_left (by omega)]
    exact h
  · rw [if_neg c] at h
    cases h
theorem rowAt_app {rows r2 : List Row} {i : Int} {r : Row} (h : rowAt rows i = some r) : rowAt (rows ++ r2) i = some r := by
  unfold rowAt at h ⊢
  by_cases c : 0 ≤ i ∧ i < rows.length
  · rw [if_pos c] at h
    rw [if_pos ⟨c.1, by rw [List.length_append]; omega⟩, List.getElem?_append_left (by omega)]
    exact h
  · rw [if_neg c] at h
    cases h
theorem stepAt_last {steps : List Stp} {s : Stp} : stepAt (steps ++ [s]) (steps.length : Int) = some s := by
  unfold stepAt
  rw [if_pos ⟨by omega, by rw [List.length_append, List.length_singleton]; omega⟩, Int.toNat_natCast]
  simp
theorem rowAt_last {rows : List Row} {r : Row} : rowAt (rows ++ [r]) (rows.length : Int) = some r := by
  unfold rowAt
  rw [if_pos ⟨by omega, by rw [List.length_append, List.length_singleton]; omega⟩, Int.toNat_natCast]
  simp
theorem Off.app {steps s2 : List Stp} {rows r2 : List Row} : ∀ {d : Nat} {i st l g : Int}, Off steps rows d i st l g → Off (steps ++ s2) (rows ++ r2) d i st l g
  | 0, _, _, _, _, h => h.elim
  | d + 1, _, _, _, _, ⟨r, s, h1, h2, h3, h4, h5⟩ => ⟨r, s, rowAt_app h1, stepAt_app h2, h3, h4, h5.imp fun _ _ _ _ q => ⟨q.1, q.2.app⟩⟩
theorem Off.succ {steps : List Stp} {rows : List Row} : ∀ {d : Nat} {i st l g : Int}, Off steps rows d i st l g → Off steps rows (d + 1) i st l g
  | 0, _, _, _, _, h => h.elim
  | d + 1, _, _, _, _, ⟨r, s, h1, h2, h3, h4, h5⟩ => ⟨r, s, h1, h2, h3, h4, h5.imp fun _ _ _ _ q => ⟨q.1, q.2.succ⟩⟩
theorem Off.le {steps : List Stp} {rows : List Row} {d e : Nat} (h : d ≤ e) {i st l g : Int} (q : Off steps rows d i st l g) : Off steps rows e i st l g := by
  induction h with
  | refl => exact q
  | step _ ih => exact ih.succ
def nl (rows : List Row) : Nat := rows.countP fun r => decide (r.2 ≠ [])
theorem nl_app {a b : List Row} : nl (a ++ b) = nl a + nl b := by unfold nl; rw [List.countP_append]
/-- what a row planted gives -/
structure Taken (S L : Int) (steps : List Stp) (rows : List Row) (d : Nat) (steps' : List Stp) (rows' : List Row) : Prop where
  st : ∃ s2, steps' = steps ++ s2 ∧ s2.length + 1 ≤ 2 ^ (d + 1) ∧ ∀ s ∈ s2, Fits S L s
  ro : ∃ r2, rows' = rows ++ r2 ∧ r2.length + 1 ≤ 2 ^ (d + 1) ∧ nl r2 + 1 ≤ 2 ^ d
  all : ∀ i : Nat, rows.length ≤ i → i < rows'.length → ∃ st l g, Off steps' rows' (d + 1) i st l g
theorem Taken.le {S L : Int} {steps steps' : List Stp} {rows rows' : List Row} {d e : Nat} (h : d ≤ e) (t : Taken S L steps rows d steps' rows') : Taken S L steps rows e steps' rows' := by
  obtain ⟨⟨s2, h1, h2, h3⟩, ⟨r2, h4, h5, h6⟩, h7⟩ := t
  have p1 : 2 ^ (d + 1) ≤ 2 ^ (e + 1) := Nat.pow_le_pow_right (by decide) (by omega)
  have p2 : 2 ^ d ≤ 2 ^ e := Nat.pow_le_pow_right (by decide) h
  exact ⟨⟨s2, h1, by omega, h3⟩, ⟨r2, h4, by omega, by omega⟩, fun i a b => let ⟨st, l, g, q⟩ := h7 i a b; ⟨st, l, g, q.le (by omega)⟩⟩
/-- the leaf -/
theorem Taken.leaf {S L : Int} {steps : List Stp} {rows : List Row} {st l g : Int} (d : Nat) (hf : Fits S L ⟨st, l, g, []⟩) :
    Taken S L steps rows d (steps ++ [⟨st, l, g, []⟩]) (rows ++ [((steps.length : Int), [])]) ∧ Off (steps ++ [⟨st, l, g, []⟩]) (rows ++ [((steps.length : Int), [])]) (d + 1) rows.length st l g := by
  have p : 1 ≤ 2 ^ d := Nat.one_le_two_pow
  have p2 : 2 ^ (d + 1) = 2 * 2 ^ d := by rw [Nat.pow_succ, Nat.mul_comm]
  have o : Off (steps ++ [⟨st, l, g, []⟩]) (rows ++ [((steps.length : Int), [])]) (d + 1) rows.length st l g := ⟨_, _, rowAt_last, stepAt_last, rfl, rfl, rfl⟩
  refine ⟨⟨⟨_, rfl, by show 1 + 1 ≤ _; omega, fun s hs => by rw [List.mem_singleton.mp hs]; exact hf⟩, ⟨_, rfl, by show 1 + 1 ≤ _; omega, ?_⟩, fun i h1 h2 => ?_⟩, o⟩
  · show 0 + 1 ≤ _
    omega
  · rw [List.length_append] at h2
    have e : i = rows.length := by
      have h2 : i < rows.length + 1 := h2
      omega
    rw [e]
    exact ⟨_, _, _, o⟩
/-- one part -/
theorem Taken.one {S L : Int} {steps s1 : List Stp} {rows r1 : List Row} {st l g mid f : Int} {d : Nat} (t : Taken S L steps rows d s1 r1) (hl : rows.length < r1.length) (o : Off s1 r1 (d + 1) ((r1.length : Int) - 1) mid f g) (hf : Fits S L ⟨st, l, mid, [f]⟩) :
    Taken S L steps rows (d + 1) (s1 ++ [⟨st, l, mid, [f]⟩]) (r1 ++ [((s1.length : Int), [(r1.length : Int) - 1])]) ∧ Off (s1 ++ [⟨st, l, mid, [f]⟩]) (r1 ++ [((s1.length : Int), [(r1.length : Int) - 1])]) (d + 2) r1.length st l g := by
  obtain ⟨⟨s2, rfl, h2, h3⟩, ⟨r2, rfl, h5, h6⟩, h7⟩ := t
  have p : 1 ≤ 2 ^ d := Nat.one_le_two_pow
  have p2 : 2 ^ (d + 1) = 2 * 2 ^ d := by rw [Nat.pow_succ, Nat.mul_comm]
  have p3 : 2 ^ (d + 1 + 1) = 2 * 2 ^ (d + 1) := by rw [Nat.pow_succ, Nat.mul_comm]
  have o2 : Off ((steps ++ s2) ++ [⟨st, l, mid, [f]⟩]) ((rows ++ r2) ++ [(((steps ++ s2).length : Int), [((rows ++ r2).length : Int) - 1])]) (d + 2) (rows ++ r2).length st l g :=
    ⟨_, _, rowAt_last, stepAt_last, rfl, rfl, g, ⟨by omega, o.app⟩, rfl⟩
  refine ⟨⟨⟨s2 ++ [⟨st, l, mid, [f]⟩], by rw [List.append_assoc], by rw [List.length_append]; show s2.length + 1 + 1 ≤ _; omega, fun s hs => ?_⟩, ⟨r2 ++ [(((steps ++ s2).length : Int), [((rows ++ r2).length : Int) - 1])], by rw [List.append_assoc], by rw [List.length_append]; show r2.length + 1 + 1 ≤ _; omega, ?_⟩, fun i a b => ?_⟩, o2⟩
  · rcases List.mem_append.mp hs with hs | hs
    · exact h3 s hs
    · rw [List.mem_singleton.mp hs]
      exact hf
  · rw [nl_app]
    show nl r2 + 1 + 1 ≤ _
    omega
  · by_cases c : i < (rows ++ r2).length
    · obtain ⟨a1, a2, a3, q⟩ := h7 i a c
      exact ⟨a1, a2, a3, q.app.succ⟩
    · rw [List.length_append] at b
      have b : i < (rows ++ r2).length + 1 := b
      have e : i = (rows ++ r2).length := by omega
      rw [e]
      exact ⟨_, _, _, o2⟩
/-- two parts -/
theorem Taken.two {S L : Int} {steps s1 s3 : List Stp} {rows r1 r3 : List Row} {st l g mid f inn sec : Int} {d : Nat} (t : Taken S L steps rows d s1 r1) (hl : rows.length < r1.length) (o : Off s1 r1 (d + 1) ((r1.length : Int) - 1) mid f inn) (t2 : Taken S L s1 r1 d s3 r3) (hl2 : r1.length < r3.length)
    (o3 : Off s3 r3 (d + 1) ((r3.length : Int) - 1) inn sec g) (hf : Fits S L ⟨st, l, mid, [f, sec]⟩) :
    Taken S L steps rows (d + 1) (s3 ++ [⟨st, l, mid, [f, sec]⟩]) (r3 ++ [((s3.length : Int), [(r1.length : Int) - 1, (r3.length : Int) - 1])]) ∧ Off (s3 ++ [⟨st, l, mid, [f, sec]⟩]) (r3 ++ [((s3.length : Int), [(r1.length : Int) - 1, (r3.length : Int) - 1])]) (d + 2) r3.length st l g := by
  obtain ⟨⟨s2, rfl, h2, h3⟩, ⟨r2, rfl, h5, h6⟩, h7⟩ := t
  obtain ⟨⟨s4, rfl, k2, k3⟩, ⟨r4, rfl, k5, k6⟩, k7⟩ := t2
  have p : 1 ≤ 2 ^ d := Nat.one_le_two_pow
  have p2 : 2 ^ (d + 1) = 2 * 2 ^ d := by rw [Nat.pow_succ, Nat.mul_comm]
  have p3 : 2 ^ (d + 1 + 1) = 2 * 2 ^ (d + 1) := by rw [Nat.pow_succ, Nat.mul_comm]
  have lr : (rows ++ r2 ++ r4).length = (rows ++ r2).length + r4.length := List.length_append
  have o2 : Off ((steps ++ s2 ++ s4) ++ [⟨st, l, mid, [f, sec]⟩]) ((rows ++ r2 ++ r4) ++ [(((steps ++ s2 ++ s4).length : Int), [((rows ++ r2).length : Int) - 1, ((rows ++ r2 ++ r4).length : Int) - 1])]) (d + 2) (rows ++ r2 ++ r4).length st l g :=
    ⟨_, _, rowAt_last, stepAt_last, rfl, rfl, inn, ⟨by omega, o.app.app⟩, g, ⟨by omega, o3.app⟩, rfl⟩
  refine ⟨⟨⟨s2 ++ s4 ++ [⟨st, l, mid, [f, sec]⟩], by simp [List.append_assoc], by rw [List.length_append, List.length_append]; show s2.length + s4.length + 1 + 1 ≤ _; omega, fun s hs => ?_⟩,
    ⟨r2 ++ r4 ++ [(((steps ++ s2 ++ s4).length : Int), [((rows ++ r2).length : Int) - 1, ((rows ++ r2 ++ r4).length : Int) - 1])], by simp [List.append_assoc], by rw [List.length_append, List.length_append]; show r2.length + r4.length + 1 + 1 ≤ _; omega, ?_⟩, fun i a b => ?_⟩, o2⟩
  · rcases List.mem_append.mp hs with hs | hs
    · rcases List.mem_append.mp hs with hs | hs
      · exact h3 s hs
      · exact k3 s hs
    · rw [List.mem_singleton.mp hs]
      exact hf
  · rw [nl_app, nl_app]
    show nl r2 + nl r4 + 1 + 1 ≤ _
    omega
  · by_cases c : i < (rows ++ r2 ++ r4).length
    · by_cases c2 : i < (rows ++ r2).length
      · obtain ⟨a1, a2, a3, q⟩ := h7 i a c2
        exact ⟨a1, a2, a3, q.app.app.succ⟩
      · obtain ⟨a1, a2, a3, q⟩ := k7 i (by omega) c
        exact ⟨a1, a2, a3, q.app.succ⟩
    · rw [List.length_append] at b
      have b : i < (rows ++ r2 ++ r4).length + 1 := b
      have e : i = (rows ++ r2 ++ r4).length := by omega
      rw [e]
      exact ⟨_, _, _, o2⟩
theorem Taken.grow {S L : Int} {steps s1 : List Stp} {rows r1 : List Row} {d : Nat} (t : Taken S L steps rows d s1 r1) : steps.length ≤ s1.length ∧ rows.length ≤ r1.length ∧ s1.length ≤ steps.length + 2 ^ (d + 1) ∧ r1.length ≤ rows.length + 2 ^ (d + 1) := by
  obtain ⟨⟨s2, rfl, h2, h3⟩, ⟨r2, rfl, h5, h6⟩, h7⟩ := t
  rw [List.length_append, List.length_append]
  omega
end A

set_option Elab.async false
set_option linter.all false
set_option maxRecDepth 100000
set_option maxHeartbeats 4000000
/-! Moves, heads and the world planted, plainly. -/
namespace A
open PySem PySem.Spec PyProof.Rows L2
/-- what was planted on the way from one state of the lists to another -/
structure Grew (S L : Int) (steps : List Stp) (rows : List Row) (a b c : Nat) (steps' : List Stp) (rows' : List Row) : Prop where
  st : ∃ s2, steps' = steps ++ s2 ∧ s2.length ≤ a ∧ ∀ s ∈ s2, Fits S L s
  ro : ∃ r2, rows' = rows ++ r2 ∧ r2.length ≤ b ∧ nl r2 ≤ c
  all : ∀ i : Nat, rows.length ≤ i → i < rows'.length → ∃ st l g, Off steps' rows' 3 i st l g
theorem Grew.refl {S L : Int} {steps : List Stp} {rows : List Row} : Grew S L steps rows 0 0 0 steps rows :=
  ⟨⟨[], by simp, Nat.le_refl _, fun s h => (nomatch h)⟩, ⟨[], by simp, Nat.le_refl _, Nat.le_refl _⟩, fun i h1 h2 => absurd h2 (Nat.not_lt.mpr h1)⟩
theorem Grew.trans {S L : Int} {steps s1 s2 : List Stp} {rows r1 r2 : List Row} {a b c a2 b2 c2 : Nat} (g : Grew S L steps rows a b c s1 r1) (h : Grew S L s1 r1 a2 b2 c2 s2 r2) : Grew S L steps rows (a + a2) (b + b2) (c + c2) s2 r2 := by
  obtain ⟨⟨t1, rfl, h2, h3⟩, ⟨u1, rfl, h5, h6⟩, h7⟩ := g
  obtain ⟨⟨t2, rfl, k2, k3⟩, ⟨u2, rfl, k5, k6⟩, k7⟩ := h
  refine ⟨⟨t1 ++ t2, by rw [List.append_assoc], by rw [List.length_append]; omega, fun s hs => ?_⟩, ⟨u1 ++ u2, by rw [List.append_assoc], by rw [List.length_append]; omega, by rw [nl_app]; omega⟩, fun i x y => ?_⟩
  · rcases List.mem_append.mp hs with hs | hs
    · exact h3 s hs
    · exact k3 s hs
  · by_cases z : i < (rows ++ u1).length
    · obtain ⟨a1, a2, a3, q⟩ := h7 i x z
      exact ⟨a1, a2, a3, q.app⟩
    · exact k7 i (by omega) y
theorem Grew.mono {S L : Int} {steps s1 : List Stp} {rows r1 : List Row} {a b c a2 b2 c2 : Nat} (g : Grew S L steps rows a b c s1 r1) (h1 : a ≤ a2) (h2 : b ≤ b2) (h3 : c ≤ c2) : Grew S L steps rows a2 b2 c2 s1 r1 := by
  obtain ⟨⟨t1, e1, q2, q3⟩, ⟨u1, e2, q5, q6⟩, q7⟩ := g
  exact ⟨⟨t1, e1, by omega, q3⟩, ⟨u1, e2, by omega, by omega⟩, q7⟩
theorem Grew.step {S L : Int} {steps : List Stp} {rows : List Row} {s : Stp} (h : Fits S L s) : Grew S L steps rows 1 0 0 (steps ++ [s]) rows :=
  ⟨⟨[s], rfl, Nat.le_refl _, fun x hx => by rw [List.mem_singleton.mp hx]; exact h⟩, ⟨[], by simp, Nat.le_refl _, Nat.le_refl _⟩, fun i h1 h2 => absurd h2 (Nat.not_lt.mpr h1)⟩
theorem Taken.grew {S L : Int} {steps s1 : List Stp} {rows r1 : List Row} {d : Nat} (hd : d ≤ 2) (t : Taken S L steps rows d s1 r1) : Grew S L steps rows 7 7 3 s1 r1 := by
  obtain ⟨⟨t1, e1, q2, q3⟩, ⟨u1, e2, q5, q6⟩, q7⟩ := t.le hd
  exact ⟨⟨t1, e1, by omega, q3⟩, ⟨u1, e2, by omega, by omega⟩, q7⟩
theorem Grew.apps {S L : Int} {steps s1 : List Stp} {rows r1 : List Row} {a b c : Nat} (g : Grew S L steps rows a b c s1 r1) : (∃ s2, s1 = steps ++ s2) ∧ ∃ r2, r1 = rows ++ r2 := by
  obtain ⟨⟨t1, e1, _, _⟩, ⟨u1, e2, _, _⟩, _⟩ := g
  exact ⟨⟨t1, e1⟩, ⟨u1, e2⟩⟩
theorem Grew.len {S L : Int} {steps s1 : List Stp} {rows r1 : List Row} {a b c : Nat} (g : Grew S L steps rows a b c s1 r1) : s1.length ≤ steps.length + a ∧ r1.length ≤ rows.length + b := by
  obtain ⟨⟨t1, rfl, _, _⟩, ⟨u1, rfl, _, _⟩, _⟩ := g
  rw [List.length_append, List.length_append]
  omega
/-- a move from head h to head a -/
def MoveOk (steps : List Stp) (rows : List Row) (m : Mv) (h a : Hd) : Prop := ∃ s, stepAt steps m.1 = some s ∧ s.state = h.1 ∧ s.letter = h.2 ∧ match m.2 with
  | none => ∃ rest, s.laid = a.2 :: rest ∧ rest.length ≤ 1 ∧ s.goal = a.1
  | some p => ∃ l0, s.laid = [l0, a.2] ∧ Off steps rows 3 p s.goal l0 a.1
theorem MoveOk.app {steps s2 : List Stp} {rows r2 : List Row} {m : Mv} {h a : Hd} (q : MoveOk steps rows m h a) : MoveOk (steps ++ s2) (rows ++ r2) m h a := by
  obtain ⟨s, e1, e2, e3, e4⟩ := q
  refine ⟨s, stepAt_app e1, e2, e3, ?_⟩
  obtain ⟨m1, m2⟩ := m
  cases m2 with
  | none => exact e4
  | some p =>
    obtain ⟨l0, e5, e6⟩ := e4
    exact ⟨l0, e5, e6.app⟩
def PathOk (steps : List Stp) (rows : List Row) : List Mv → List Hd → Prop
  | [], [_] => True
  | m :: ms, h :: a :: hs => MoveOk steps rows m h a ∧ PathOk steps rows ms (a :: hs)
  | _, _ => False
theorem PathOk.app {steps s2 : List Stp} {rows r2 : List Row} : ∀ {ms : List Mv} {hs : List Hd}, PathOk steps rows ms hs → PathOk (steps ++ s2) (rows ++ r2) ms hs
  | [], [_], _ => trivial
  | _ :: _, _ :: _ :: _, ⟨h1, h2⟩ => ⟨h1.app, PathOk.app h2⟩
  | [], [], q => q.elim
  | [], _ :: _ :: _, q => q.elim
  | _ :: _, [], q => q.elim
  | _ :: _, [_], q => q.elim
theorem PathOk.snoc {steps : List Stp} {rows : List Row} {m : Mv} {a b : Hd} : ∀ {ms : List Mv} {hs : List Hd}, PathOk steps rows ms (hs ++ [a]) → MoveOk steps rows m a b → PathOk steps rows (ms ++ [m]) (hs ++ [a, b])
  | [], [], _, h => ⟨h, trivial⟩
  | [], [_], q, _ => q.elim
  | [], _ :: _ :: _, q, _ => q.elim
  | _ :: _, [], q, _ => q.elim
  | _ :: ms, [x], q, h => ⟨q.1, PathOk.snoc (hs := []) q.2 h⟩
  | _ :: ms, x :: y :: hs, q, h => ⟨q.1, PathOk.snoc (hs := y :: hs) q.2 h⟩
/-- the descent, from head to head -/
def DescOk (steps : List Stp) (rows : List Row) : List Int → List Hd → Prop
  | [], [_] => True
  | p :: ps, h :: a :: hs => Off steps rows 3 p h.1 h.2 a.1 ∧ DescOk steps rows ps (a :: hs)
  | _, _ => False
theorem DescOk.app {steps s2 : List Stp} {rows r2 : List Row} : ∀ {ms : List Int} {hs : List Hd}, DescOk steps rows ms hs → DescOk (steps ++ s2) (rows ++ r2) ms hs
  | [], [_], _ => trivial
  | _ :: _, _ :: _ :: _, ⟨h1, h2⟩ => ⟨h1.app, DescOk.app h2⟩
  | [], [], q => q.elim
  | [], _ :: _ :: _, q => q.elim
  | _ :: _, [], q => q.elim
  | _ :: _, [_], q => q.elim
theorem DescOk.snoc {steps : List Stp} {rows : List Row} {p : Int} {a b : Hd} : ∀ {ms : List Int} {hs : List Hd}, DescOk steps rows ms (hs ++ [a]) → Off steps rows 3 p a.1 a.2 b.1 → DescOk steps rows (ms ++ [p]) (hs ++ [a, b])
  | [], [], _, h => ⟨h, trivial⟩
  | [], [_], q, _ => q.elim
  | [], _ :: _ :: _, q, _ => q.elim
  | _ :: _, [], q, _ => q.elim
  | _ :: ms, [x], q, h => ⟨q.1, DescOk.snoc (hs := []) q.2 h⟩
  | _ :: ms, x :: y :: hs, q, h => ⟨q.1, DescOk.snoc (hs := y :: hs) q.2 h⟩
def HdIn (S L : Int) (h : Hd) : Prop := 0 ≤ h.1 ∧ h.1 < S ∧ 0 ≤ h.2 ∧ h.2 < L
end A

set_option Elab.async false
set_option linter.all false
set_option maxRecDepth 100000
set_option maxHeartbeats 4000000
/-! The steps of a row, of a ring; the far steps; the turning. -/
namespace A
open PySem PySem.Spec PyProof.Rows L2
/-- the steps that row i runs, down to depth n -/
def stp (rows : List Row) : Nat → Int → List Int
  | 0, _ => []
  | n + 1, i => match rowAt rows i with
    | none => []
    | some r => r.1 :: r.2.flatMap (stp rows n)
def Dep (rows : List Row) : Nat → Int → Prop
  | 0, _ => False
  | n + 1, i => ∃ r, rowAt rows i = some r ∧ r.2.length ≤ 2 ∧ ∀ p ∈ r.2, Dep rows n p
def pw2 : Nat → Nat
  | 0 => 0
  | n + 1 => 1 + 2 * pw2 n
theorem flat_len {α : Type} {f : Int → List α} {b : Nat} : ∀ {ps : List Int}, (∀ p ∈ ps, (f p).length ≤ b) → (ps.flatMap f).length ≤ ps.length * b
  | [], _ => by simp
  | p :: ps, h => by
    have h1 := h p (List.mem_cons_self ..)
    have h2 := flat_len (ps := ps) fun q hq => h q (List.mem_cons_of_mem _ hq)
    rw [List.flatMap_cons, List.length_append, List.length_cons, Nat.add_mul]
    omega
theorem stp_len {rows : List Row} : ∀ {n : Nat} {i : Int}, Dep rows n i → (stp rows n i).length ≤ pw2 n
  | 0, _, h => h.elim
  | n + 1, i, ⟨r, h1, h2, h3⟩ => by
    unfold stp
    rw [h1]
    have := flat_len (ps := r.2) (f := stp rows n) (b := pw2 n) fun p hp => stp_len (h3 p hp)
    have h5 : r.2.length * pw2 n ≤ 2 * pw2 n := Nat.mul_le_mul_right _ h2
    show (r.2.flatMap (stp rows n)).length + 1 ≤ 1 + 2 * pw2 n
    omega
def mvStp (rows : List Row) (m : Mv) : List Int := m.1 :: match m.2 with
  | none => []
  | some p => stp rows 3 p
def ringStp (rows : List Row) (ms : List Mv) : List Int := ms.flatMap (mvStp rows)
def DepM (rows : List Row) (m : Mv) : Prop := match m.2 with
  | none => True
  | some p => Dep rows 3 p
theorem mvStp_len {rows : List Row} {m : Mv} (h : DepM rows m) : (mvStp rows m).length ≤ 8 := by
  obtain ⟨m1, m2⟩ := m
  cases m2 with
  | none => show 1 ≤ 8; decide
  | some p =>
    have : (stp rows 3 p).length ≤ 7 := stp_len h
    show (stp rows 3 p).length + 1 ≤ 8
    omega
theorem ringStp_len {rows : List Row} : ∀ {ms : List Mv}, (∀ m ∈ ms, DepM rows m) → (ringStp rows ms).length ≤ ms.length * 8
  | [], _ => by simp [ringStp]
  | m :: ms, h => by
    have h1 := mvStp_len (h m (List.mem_cons_self ..))
    have h2 := ringStp_len (ms := ms) fun q hq => h q (List.mem_cons_of_mem _ hq)
    unfold ringStp at h2 ⊢
    rw [List.flatMap_cons, List.length_append, List.length_cons, Nat.add_mul]
    omega
def far (m n : Int) (s : Stp) : Stp := ⟨s.state * m + m - 1, s.letter * n + n - 1, s.goal * m + m - 1, s.laid.map fun l => l * n + n - 1⟩
theorem rowAt_get {rows : List Row} {i : Int} {r : Row} (h : rowAt rows i = some r) : 0 ≤ i ∧ i < rows.length ∧ rows[i.toNat]? = some r := by
  unfold rowAt at h
  by_cases c : 0 ≤ i ∧ i < rows.length
  · rw [if_pos c] at h
    exact ⟨c.1, c.2, h⟩
  · rw [if_neg c] at h
    cases h
theorem stepAt_get {rows : List Stp} {i : Int} {r : Stp} (h : stepAt rows i = some r) : 0 ≤ i ∧ i < rows.length ∧ rows[i.toNat]? = some r := by
  unfold stepAt at h
  by_cases c : 0 ≤ i ∧ i < rows.length
  · rw [if_pos c] at h
    exact ⟨c.1, c.2, h⟩
  · rw [if_neg c] at h
    cases h
end A

set_option Elab.async false
set_option linter.all false
set_option maxRecDepth 100000
set_option maxHeartbeats 4000000
/-! The world planted; turned and stretched. -/
namespace A
open PySem PySem.Spec PyProof.Rows L2
/-- the world planted -/
structure Worlds (S L : Int) (steps : List Stp) (rows : List Row) (st : Int) (pile dsc : List Int) (way ring : List Mv) : Prop where
  hS : 1 ≤ S ∧ S ≤ 3
  hL : 1 ≤ L ∧ L ≤ 3
  gr : Grew S L [] [] 54 49 21 steps rows
  ex : ∃ (ds ws rs : List Hd) (h0 h1 : Hd), DescOk steps rows dsc (ds ++ [h0]) ∧ pile = (ds ++ [h0]).map (·.2) ∧ (ds ++ [h0]).head?.map (·.1) = some st ∧
    PathOk steps rows way (h0 :: ws) ∧ (h0 :: ws).getLast? = some h1 ∧ PathOk steps rows ring (h1 :: (rs ++ [h1])) ∧ ds.length ≤ 2
  dsc : dsc.length ≤ 2
  way : way.length ≤ 2
  ring : 1 ≤ ring.length ∧ ring.length ≤ 3
theorem OffP.mem {O : Int → Int → Int → Int → Prop} : ∀ {ls ps : List Int} {st g : Int}, OffP O st ls ps g → ∀ p ∈ ps, ∃ st l g, O p st l g
  | [], [], _, _, _, p, hp => nomatch hp
  | l :: _, q :: _, st, _, ⟨m, h, r⟩, p, hp => by
    rcases List.mem_cons.mp hp with e | hp
    · rw [e]; exact ⟨_, _, _, h⟩
    · exact OffP.mem r p hp
  | [], _ :: _, _, _, q, _, _ => q.elim
  | _ :: _, [], _, _, q, _, _ => q.elim
theorem stepAt_mem {steps : List Stp} {i : Int} {s : Stp} (h : stepAt steps i = some s) : s ∈ steps := List.mem_of_getElem? (stepAt_get h).2.2
theorem rowAt_mem {rows : List Row} {i : Int} {s : Row} (h : rowAt rows i = some s) : s ∈ rows := List.mem_of_getElem? (rowAt_get h).2.2
theorem off_dep {steps : List Stp} {rows : List Row} (h2 : ∀ s ∈ steps, s.laid.length ≤ 2) : ∀ {d : Nat} {i st l g : Int}, Off steps rows d i st l g → Dep rows d i
  | 0, _, _, _, _, h => h.elim
  | d + 1, i, _, _, _, ⟨r, s, h1, hs, _, _, h5⟩ => ⟨r, h1, by rw [h5.len]; exact h2 s (stepAt_mem hs), fun p hp => let ⟨_, _, _, q⟩ := h5.mem p hp; off_dep h2 q.2⟩
theorem move_dep {steps : List Stp} {rows : List Row} (h2 : ∀ s ∈ steps, s.laid.length ≤ 2) {m : Mv} {h a : Hd} (q : MoveOk steps rows m h a) : DepM rows m := by
  obtain ⟨s, _, _, _, q⟩ := q
  obtain ⟨m1, m2⟩ := m
  cases m2 with
  | none => trivial
  | some p =>
    obtain ⟨l0, _, o⟩ := q
    exact off_dep h2 o
theorem PathOk.mem {steps : List Stp} {rows : List Row} : ∀ {ms : List Mv} {hs : List Hd}, PathOk steps rows ms hs → ∀ m ∈ ms, ∃ h a, MoveOk steps rows m h a
  | [], [_], _, m, hm => nomatch hm
  | m0 :: _, _ :: _ :: _, ⟨h1, h2⟩, m, hm => by
    rcases List.mem_cons.mp hm with e | hm
    · rw [e]; exact ⟨_, _, h1⟩
    · exact PathOk.mem h2 m hm
  | [], [], q, _, _ => q.elim
  | [], _ :: _ :: _, q, _, _ => q.elim
  | _ :: _, [], q, _, _ => q.elim
  | _ :: _, [_], q, _, _ => q.elim
def tn (sh ct i : Int) : Int := (i + sh) % ct
def rowT (sh ct : Int) (r : Row) : Row := (tn sh ct r.1, r.2)
def mvT (sh ct : Int) (m : Mv) : Mv := (tn sh ct m.1, m.2)
theorem rowAt_map {rows : List Row} {f : Row → Row} {i : Int} {r : Row} (h : rowAt rows i = some r) : rowAt (rows.map f) i = some (f r) := by
  obtain ⟨h0, h1, h2⟩ := rowAt_get h
  unfold rowAt
  rw [List.length_map, if_pos ⟨h0, h1⟩, List.getElem?_map, h2] <;> rfl
theorem Dep.turn {rows : List Row} {sh ct : Int} : ∀ {d : Nat} {i : Int}, Dep rows d i → Dep (rows.map (rowT sh ct)) d i
  | 0, _, h => h.elim
  | d + 1, i, ⟨r, h1, h2, h3⟩ => ⟨_, rowAt_map h1, h2, fun p hp => Dep.turn (h3 p hp)⟩
theorem DepM.turn {rows : List Row} {sh ct : Int} {m : Mv} (h : DepM rows m) : DepM (rows.map (rowT sh ct)) (mvT sh ct m) := by
  obtain ⟨m1, m2⟩ := m
  cases m2 with
  | none => trivial
  | some p => exact Dep.turn (show Dep rows 3 p from h)
structure RotOf (steps : List Stp) (sh : Int) (steps' : List Stp) : Prop where
  len : steps'.length = steps.length
  at_ : ∀ k : Nat, k < steps.length → steps'[k]? = steps[(((k : Int) + ((steps.length : Int) - sh)) % (steps.length : Int)).toNat]?
/-- what a question gives -/
structure Quest (ns nl : Int) (steps : List Stp) (ms : List Int) (st : Int) (pile : List Int) (p : Paper) : Prop where
  ex : ∃ (S L : Int) (steps0 : List Stp) (rows0 : List Row) (st0 : Int) (pile0 : List Int) (way0 ring0 : List Mv) (ext steps1 : List Stp) (sh m n : Int), Worlds S L steps0 rows0 st0 pile0 p.descent way0 ring0 ∧ ext.length ≤ 4 ∧ (∀ s ∈ ext, Fits S L s) ∧
    0 ≤ sh ∧ sh < ((steps0 ++ ext).length : Int) ∧ RotOf (steps0 ++ ext) sh steps1 ∧ 1 ≤ m ∧ m ≤ 21 ∧ 1 ≤ n ∧ n ≤ 40 ∧ steps = steps1.map (far m n) ∧ ns = S * m ∧ nl = L * n ∧ st = st0 * m + m - 1 ∧ pile = pile0.map (fun l => l * n + n - 1) ∧
    p.rows = rows0.map (rowT sh (steps0 ++ ext).length) ∧ p.way = way0.map (mvT sh (steps0 ++ ext).length) ∧ p.ring = ring0.map (mvT sh (steps0 ++ ext).length)
  ms1 : ms.length < 64
  hit : ∃ x ∈ ringStp p.rows p.ring, x ∈ ms
theorem Worlds.two {S L : Int} {steps : List Stp} {rows : List Row} {st : Int} {pile dsc : List Int} {way ring : List Mv} (h : Worlds S L steps rows st pile dsc way ring) : ∀ s ∈ steps, Fits S L s := by
  obtain ⟨⟨s2, e, _, hf⟩, _, _⟩ := h.gr
  intro s hs
  rw [e] at hs
  exact hf s (by simpa using hs)
theorem Worlds.lens {S L : Int} {steps : List Stp} {rows : List Row} {st : Int} {pile dsc : List Int} {way ring : List Mv} (h : Worlds S L steps rows st pile dsc way ring) : steps.length ≤ 54 ∧ rows.length ≤ 49 ∧ 0 < steps.length := by
  have g := h.gr.len
  refine ⟨by simpa using g.1, by simpa using g.2, ?_⟩
  obtain ⟨_, _, rs, _, h1, _, _, _, _, _, hr, _⟩ := h.ex
  have hl := h.ring.1
  cases ring with
  | nil => exact absurd hl (by simp)
  | cons m ms =>
    obtain ⟨_, _, s, hs, _⟩ := hr.mem m (List.mem_cons_self ..)
    exact List.length_pos_of_mem (stepAt_mem hs)
theorem Worlds.ringdep {S L : Int} {steps : List Stp} {rows : List Row} {st : Int} {pile dsc : List Int} {way ring : List Mv} (h : Worlds S L steps rows st pile dsc way ring) : ∀ m ∈ ring, DepM rows m := by
  obtain ⟨_, _, rs, _, h1, _, _, _, _, _, hr, _⟩ := h.ex
  intro m hm
  obtain ⟨_, _, q⟩ := hr.mem m hm
  exact move_dep (fun s hs => (h.two s hs).n) q
theorem Worlds.rowdep {S L : Int} {steps : List Stp} {rows : List Row} {st : Int} {pile dsc : List Int} {way ring : List Mv} (h : Worlds S L steps rows st pile dsc way ring) : ∀ r ∈ rows, r.2.length ≤ 2 := by
  intro r hr
  obtain ⟨i, hi, e⟩ := List.mem_iff_getElem.mp hr
  obtain ⟨_, _, _, q⟩ := h.gr.all i (Nat.zero_le _) hi
  obtain ⟨r2, h1, h2, _⟩ := off_dep (fun s hs => (h.two s hs).n) q
  have := (rowAt_get h1).2.2
  rw [Int.toNat_natCast, List.getElem?_eq_getElem hi, e] at this
  cases this
  exact h2
theorem ringStp_ne {rows : List Row} {ms : List Mv} (h : 1 ≤ ms.length) : 0 < (ringStp rows ms).length := by
  cases ms with
  | nil => exact absurd h (by simp)
  | cons m ms =>
    unfold ringStp
    rw [List.flatMap_cons, List.length_append]
    show 0 < _ + 1 + _
    omega
end A

set_option Elab.async false
set_option linter.all false
set_option maxRecDepth 100000
set_option maxHeartbeats 4000000
/-! A def whose first argument is the script: a list of whole numbers that stands as it is. -/
namespace A
open PySem PySem.Spec PyProof.Rows L2
def spF (K : PySem.W.Frag) (S : List Int → List D → (D → Mm → Prop) → Prop) : Sp := fun vs H Q _ => ∃ (p : Addr) (ns : List Int) (ds : List D) (k : D → Mm → Prop), RepL H vs (.obj p :: ds) ∧ SqL K H p (ns.map V.int) ∧ S ns ds k ∧
  ∀ d F' v H', k d F' → MOk H' F' → Rep H' v d → Fr [] H H' → (∀ e ∈ F', H e.1 = none) → Q v H'
theorem mm_none {F' : Mm} {H : Hp} (h : ∀ e ∈ F', e.1 ∈ ([] : List Addr) ∨ H e.1 = none) : ∀ e ∈ F', H e.1 = none := fun e he => (h e he).elim (fun z => nomatch z) id
theorem enterF {K : PySem.W.Frag} {S : List Int → List D → (D → Mm → Prop) → Prop} {t : TS} {N : List Str} {vs : List V} {H : Hp} {Q : VK} {X : XK} (h : spF K S vs H Q X)
    (body : ∀ (p : Addr) (ns : List Int) (ds : List D) (k : D → Mm → Prop) (Γ : G), S ns ds k → Γ.W = [] → SqL K Γ.H0 p (ns.map V.int) → WS Γ t { nx := fun _ M => ∃ M2, M2.Sublist M ∧ k .non M2, rt := fun d M => ∃ M2, M2.Sublist M ∧ k d M2 } ((D.obj p :: ds).map some ++ List.replicate (N.length - (D.obj p :: ds).length) none) []) : t { nx := fun _ H' => Q .non H', rt := Q } (L2.start N vs) H := by
  obtain ⟨p, ns, ds, k, r, sq, hs, q⟩ := h
  refine body p ns ds k ⟨H, []⟩ hs rfl sq _ H _ ⟨?_, ⟨fun e he => (nomatch he), List.nodup_nil⟩, fun e he => (nomatch he), Fr.refl _ H⟩ ⟨fun env M σ H' z o _ => ?_, fun d M env v σ H' z o r' => ?_, fun _ _ _ _ z _ _ => z.elim, fun _ _ _ _ z _ _ => z.elim⟩
  · unfold L2.start
    rw [r.length]
    exact RepE.start _ r
  · obtain ⟨M2, s, z⟩ := z
    exact q _ _ _ _ z (o.mem.sub s) .non o.fr (mm_none (o.sub s).own)
  · obtain ⟨M2, s, z⟩ := z
    exact q _ _ _ _ z (o.mem.sub s) r' o.fr (mm_none (o.sub s).own)
theorem we_callF {Γ : G} {env : Env} {M : Mm} {k : D → Mm → Prop} {K : PySem.W.Frag} {tl : TA} {E : XK} {S : List Int → List D → (D → Mm → Prop) → Prop}
    (h : WA Γ tl env M fun ds M1 => ∃ p ns ds', ds = .obj p :: ds' ∧ Γ.W = [] ∧ SqL K Γ.H0 p (ns.map V.int) ∧ S ns ds' fun d F' => k d (M1 ++ F')) : WE Γ (tCall (spF K S) [] E tl) env M k := fun σ H o Q hq =>
  h σ H o _ fun ds M1 vs H1 ⟨p, ns, ds', e, hw, sq, hs⟩ o1 k1 r1 => by
    rw [List.append_nil]
    subst e
    have s : Same Γ.H0 H1 := fun a o' e => by
      rcases o1.fr a o' e with h1 | ⟨h1, _⟩
      · exact h1
      · rw [hw] at h1
        cases h1
    refine ⟨p, ns, ds', _, r1, s.seq sq, hs, fun d F' v H' q m r f n => ?_⟩
    exact hq _ _ _ _ q (o1.call (Split.none _) m f fun e he => .inr (n e he)) (k1.trans f.kp) r
theorem mk_okF {P : Program} {w : World} {K : PySem.W.Frag} {mg : Str → Option Value} {base : Heap} {d : He.DefD} {k : Nat} {N ps : List Str} {S : List Int → List D → (D → Mm → Prop) → Prop} (F : ∃ fd, FnDof K d fd) (sc : FnScope N ps d.scope) (hd : d.dvs K = []) (hb : ∀ (kV doc pm : Value) (an : Option Addr) (cdv ct : Value) (us : List Value), us.length = ps.length → bindArgs (PySem.W.fnOf d.name d.qual d.params d.body d.scope .none kV doc pm an cdv ct) ⟨us, []⟩ = pure (ps.zip us))
    (len : ∀ ns ds k, S ns ds k → ds.length + 1 = ps.length)
    (body : ∀ (cdv : Value) (A : Around) (outer : List PySem.Env) (s : Shared) (H : Hp) (E : XK), Room k (A.deeper (envOfC d.qual d.scope s.heap.objs.size (He.fAd K d.at_) cdv)) →
      ∃ t, PSs (cxOf CX0 P w K mg base N d.qual d.scope (He.fAd K d.at_) cdv A outer s H E).nox d.body t ∧ ∀ (p : Addr) (ns : List Int) (ds : List D) (k : D → Mm → Prop) (Γ : G), S ns ds k → Γ.W = [] → SqL K Γ.H0 p (ns.map V.int) → WS Γ t { nx := fun _ M => ∃ M2, M2.Sublist M ∧ k .non M2, rt := fun d M => ∃ M2, M2.Sublist M ∧ k d M2 } ((D.obj p :: ds).map some ++ List.replicate (N.length - (D.obj p :: ds).length) none) []) :
    Ok1 P w K mg base d (k + 1) ps (spF K S) := by
  obtain ⟨fd, F⟩ := F
  have F' := F
  rw [FnDof, hd] at F'
  refine ⟨fd, F, FunD.ok F sc (fun vs H Q E ⟨p, ns, ds, k, r, _, hs, _⟩ => ?_) (fun cdv A outer s H vs Q E hr h => ?_), FunD.bindsN F' hb⟩
  · rw [r.length]
    exact len ns ds k hs
  · obtain ⟨t, ht, hw⟩ := body cdv A outer s H E hr
    exact ⟨t, PSs.nox ht, enterF h hw⟩
end A

set_option Elab.async false
set_option linter.all false
set_option maxRecDepth 100000
set_option maxHeartbeats 4000000
/-! set(l) of a list of whole numbers: by set_update_ints, over the list's own walk. -/
namespace A
open PySem PySem.Spec PyProof.Rows L2
section
variable {P : Program} {w : World} {A : Around} {E : Value → Shared → Prop} {s : Shared}
abbrev emptySet (w : World) : Obj := { cls := .type "set", dict := none, data := .set #[] 0 (.fresh 0 0 (!w.params.followText "set-order")) }
/-- what the set's own filling leaves -/
def Filled (w : World) (s : Shared) (ns : List Int) (s2 : Shared) : Prop := ∃ h' tk c, s2 = { s with heap := h', toks := tk } ∧ SetR w h' s.heap.objs.size (fun j => decide (j ∈ ns)) c ∧ c ≤ ns.length ∧ ∀ b o, s.heap.get? b = some o → h'.get? b = some o
theorem set_listI {l : Addr} {items : Array Value} (ns : List Int) {Q : Value → Shared → Prop} (hh : A.handled = none) (hl : s.heap.IsList l items) (hit : IntsAre items.toList ns) (hb : ns.length + 1 < scanBound)
    (h : ∀ s2, Filled w s ns s2 → Q (.ref s.heap.objs.size) s2) : wpAny (model P w) A (call (.type "set") [.ref l]) Q E s := by
  have hsz : items.size = ns.length := by rw [← Array.length_toList]; exact IntsAre.length hit
  obtain ⟨c, tl, hmro⟩ := F.called_set.mro
  have hmade := F.called_set.made
  have hsub := F.called_set.sub
  have h1 := F.called_set.notType
  have h2 := F.called_set.canCreate
  have hct := F.typeCall_set_1 (.ref l)
  refine wpAny_call (codeAny_of_tree ?_)
  show wpAny _ _ (callAny (.type "set") _) _ _ _
  refine wpAny_pure ⟨Code.quiet_builtin _ (by decide +kernel), codeAny_builtin F.entry_type_call ?_⟩
  rw [Around.under_plain (weight_type_call_type "set" [.ref l] []) rfl]
  repeat (any_goals (first | assumption | wp_step))
  refine codeAny_mono (code_set_led1 (.ref l) (E := E) (Q₁ := fun obj s1 => obj = .ref s.heap.objs.size ∧ s1 = { s with heap := s.heap.push (emptySet w) }) ⟨rfl, rfl⟩) fun r s1 hr => ?_
  rcases r with e | fl
  · exact hr
  · cases fl with
    | ret obj =>
      obtain ⟨rfl, rfl⟩ := hr
      have hS : (s.heap.push (emptySet w)).get? s.heap.objs.size = some (emptySet w) := Heap.get?_push_size _ rfl
      have hT : Shared.TypeIs { s with heap := s.heap.push (emptySet w) } (.ref s.heap.objs.size) "set" := ⟨_, hS, rfl⟩
      have hli := F.called_set.init.lookup
      have hbi := F.called_set.init.bind (.ref s.heap.objs.size)
      repeat (any_goals (first | assumption | wp_step))
      refine codeAny_mono (codeAny_call_builtin (R := wants (fun r s2 => r = .none ∧ Filled w s ns s2) E) F.called_set.init.plain F.entry_set_init (check_set_init_1 hT ?_)) fun r2 s2 hr2 => ?_
      · obtain ⟨⟨cl, dc, dt, sl⟩, ho, hc, nl, hd⟩ := hl
        simp only at hc hd
        subst hc hd
        have ho1 : (s.heap.push (emptySet w)).get? l = some { cls := .type "list", dict := dc, data := .seq items nl, slots := sl } := Heap.get?_push_of_some _ ho
        have lt := Heap.lt_size ho
        have k1 := F.sub_list_set
        have k2 := F.sub_list_frozenset
        have k3 : (Value.type "list" == Value.type "dict") = false := by decide
        have L1 : (s.heap.push (emptySet w)).IsList l items := ⟨_, ho1, rfl, nl, rfl⟩
        have zI : (s.heap.push (emptySet w)).objs.size = s.heap.objs.size + 1 := Heap.size_push ..
        unfold Builtin.«set.__init__» noKeywords Builtin.Frozenset.updateFrom
        generalize hg : pyIter = g
        wp_walk
        subst hg
        refine wpAny_pyIter_list L1 (wpAny_bind (wpAny_runValue ?_))
        have nI : l ≠ (s.heap.push (emptySet w)).objs.size := by rw [zI]; exact Nat.ne_of_lt (Nat.lt_succ_of_lt lt)
        have nS : s.heap.objs.size ∉ [(s.heap.push (emptySet w)).objs.size, l] := by
          rw [zI]
          intro z
          rcases List.mem_cons.mp z with z | z
          · exact Nat.ne_of_lt (Nat.lt_succ_self _) z
          · exact Nat.ne_of_gt lt (List.mem_singleton.mp z)
        refine set_update_ints ((Walks.list (by simp [hh]) _ l nI items).toS) s.heap.objs.size nS ns hsz hb (fun i v hv => ?_) (items.size - 0) 0 _ rfl (Nat.zero_le _) ⟨⟨_, Heap.get?_push_size _ rfl, rfl, rfl⟩, L1.push _⟩
          ⟨0, Nat.le_refl 0, setR_new_at (Heap.get?_push_of_some _ hS)⟩ ?_
        · have hi : i < ns.length := by rw [← hsz]; exact (Array.getElem?_eq_some_iff.mp hv).1
          obtain ⟨t, e⟩ := IntsAre.int_at hit i v (by rw [Array.getElem?_toList]; exact hv)
          refine ⟨ns[i], t, List.getElem?_eq_getElem hi, ?_⟩
          rw [e, List.getD_eq_getElem?_getD, List.getElem?_eq_getElem hi] <;> rfl
        · intro s3 c3 hm h3 hR
          obtain ⟨h', g', d', tk', o'⟩ := s3
          have eg : g' = s.gens := hm.gens
          have ed : d' = s.drawn := hm.drawn
          have eo : o' = s.os := hm.os
          subst eg ed eo
          show wpAny _ _ _ _ _ _
          refine wpAny_pure ?_
          show wpAny _ _ (ret Value.none) _ _ _
          refine wpAny_pure ⟨rfl, h', tk', c3, rfl, hR, by rw [← hsz]; exact h3, fun b o e => ?_⟩
          have bl := Heap.lt_size e
          refine hm.heap b o (fun z => ?_) (Heap.get?_push_of_some _ (Heap.get?_push_of_some _ e))
          rcases List.mem_cons.mp z with z | z
          · exact Nat.ne_of_lt bl z
          · have z := List.mem_singleton.mp z
            rw [zI] at z
            exact Nat.ne_of_lt (Nat.lt_succ_of_lt bl) z
      · rcases r2 with e2 | fl2
        · exact hr2
        · cases fl2 with
          | ret r3 =>
            obtain ⟨rfl, hF⟩ := hr2
            obtain ⟨h', tk, c4, rfl, rest⟩ := id hF
            repeat (any_goals (first | assumption | wp_step))
            exact h _ hF
          | _ => exact hr2.elim
    | _ => exact hr.elim
end
section
variable {X : Cx}
theorem call_setL (hc : X.calm = true) : CallR X (.type "set") (rSetL X.K X.w) := by
  intro pins s σ H xs us Q I r h
  obtain ⟨a, ns, rfl, ha, hz, q⟩ := h
  rw [Vals.ref1 r]
  obtain ⟨its, rv, pl, _⟩ := I.list (show SqL X.K H a (ns.map V.int) from .inl (.inl ha))
  refine set_listI ns (I.ok.hd hc) (items := its.toArray) pl.isList (ints_of_vals rv) (by unfold scanBound; omega) fun s2 hF => ?_
  obtain ⟨h', tk, c, rfl, R, hc2, kp⟩ := hF
  exact ⟨.ref _, upd H s.heap.objs.size (SetO X.w s.heap.objs.size (fun j => decide (j ∈ ns)) c), I.laid (t' := tk) kp (Nat.le_refl _) (setO_new R), rfl, q _ c (by omega) (I.hok.fresh (Nat.le_refl _))⟩
end
end A

set_option Elab.async false
set_option linter.all false
set_option maxRecDepth 100000
set_option maxHeartbeats 8000000
namespace A
open PySem PySem.Spec PyProof.Rows L2
local macro_rules | `(tactic| walk_at "at") => `(tactic| first | exact at0 | exact at1 | exact at2 | exact at3 | exact at4 | exact at5 | exact at6 | exact at7)
local macro_rules | `(tactic| walk_at "fl") => `(tactic| first
  | (with_reducible refine' fl_laid (by assumption) ?_) | (with_reducible refine' fl_goal (by assumption) ?_) | (with_reducible refine' fl_state (by assumption) ?_) | (with_reducible refine' fl_letter (by assumption) ?_)
  | (with_reducible refine' fl_steps (by assumption) ?_) | (with_reducible refine' fl_marks (by assumption) ?_) | (with_reducible refine' fl_entries (by assumption) ?_) | (with_reducible refine' fl_weight (by assumption) ?_) | (with_reducible refine' fl_msteps (by assumption) ?_))
local macro_rules | `(tactic| walk_at "ix") => `(tactic| first
  | (with_reducible refine' ix_en0 ?_) | (with_reducible refine' ix_en1 ?_) | (with_reducible refine' ix_en2 ?_) | (with_reducible refine' ix_en3 ?_) | (with_reducible refine' ix_row0 ?_) | (with_reducible refine' ix_row1 ?_) | (with_reducible refine' ix_mv0 ?_) | (with_reducible refine' ix_mvS ?_) | (with_reducible refine' ix_mvN ?_) | (with_reducible refine' ix_mv1 ?_) | (with_reducible refine' ix_hd0 ?_) | (with_reducible refine' ix_hd1 ?_))
local macro_rules | `(tactic| walk_at "v") => `(tactic| first
  | ((with_reducible refine' we_var ?hvar ?_); (case hvar => rfl))
  | (with_reducible refine' we_int ?_)
  | (with_reducible refine' we_op ?_)
  | (with_reducible refine' wr_add ?_) | (with_reducible refine' wr_sub ?_)
  | ((with_reducible refine' wr_ixT ?hix ?_); (case hix => rfl))
  | ((with_reducible refine' wr_mod ?hmod ?_); (case hmod => first | decide | omega | assumption))
  | ((with_reducible refine' wr_div ?hdiv ?_); (case hdiv => exact ⟨by decide, by decide⟩))
  | (with_reducible refine' wr_eqI ?_) | (with_reducible refine' wr_neI ?_) | (with_reducible refine' wr_lt ?_) | (with_reducible refine' wr_le ?_) | (with_reducible refine' wr_gt ?_) | (with_reducible refine' wr_ge ?_)
  | ((with_reducible refine' isn0 ?hisn ?_); (case hisn => rfl)) | ((with_reducible refine' isn1 ?hisn ?_); (case hisn => rfl)) | ((with_reducible refine' ntn0 ?hisn ?_); (case hisn => rfl)) | ((with_reducible refine' ntn1 ?hisn ?_); (case hisn => rfl))
  | (with_reducible refine' wr_isN ?_) | (with_reducible refine' wr_notN ?_) | (with_reducible refine' wr_eqS ?_)
  | (with_reducible refine' d0n ?_) | (with_reducible refine' d1n ?_) | (with_reducible refine' d0 rfl ?_) | (with_reducible refine' d1 rfl ?_) | (with_reducible refine' bl_intro ?_) | (with_reducible refine' int_intro ?_) | ((with_reducible refine' And.intro ?hlen ?_); (case hlen => exact len_le rfl); try (with_reducible intro _))
  | (walk_at "ix")
  | ((with_reducible refine' wr_ixL ?hm ?ha ?_); (case hm => walk_at "at"); (case ha => rfl))
  | (with_reducible refine' we_fldP ?_) | (walk_at "fl")
  | (with_reducible refine' we_tup ?_) | (with_reducible refine' we_lst ?_)
  | (with_reducible refine' wa_nil ?_) | (with_reducible refine' wa_cons ?_)
  | (with_reducible refine' we_non ?_) | (with_reducible refine' we_bl ?_) | (with_reducible refine' we_str ?_) | (with_reducible refine' we_ty ?_)
  | (with_reducible refine' we_cb ?_) | (with_reducible refine' wc_lenI ?_) | (with_reducible refine' wc_lenT ?_) | ((with_reducible refine' wc_lenL ?hat ?_); (case hat => walk_at "at"))
  | (with_reducible refine' wc_tupT ?_) | ((with_reducible refine' wc_tupL ?hat ?_); (case hat => walk_at "at"))
  | (with_reducible refine' wc_listI (fun _ => ?_)) | (with_reducible refine' wc_listT (fun _ => ?_)) | ((with_reducible refine' wc_listL ?hat (fun _ => ?_)); (case hat => walk_at "at"))
  | (with_reducible refine' wt_test ?_) | (with_reducible refine' wt_B ?_) | (with_reducible refine' wt_and ?_) | (with_reducible refine' wt_or ?_) | (with_reducible refine' wt_not ?_) | (with_reducible refine' wt_yes ?_)
  | (with_reducible refine' we_chain ?_) | (with_reducible refine' we_orV ?_) | (with_reducible refine' we_andV ?_) | (with_reducible refine' we_din ?_) | (with_reducible refine' we_neg ?_)
  | (with_reducible refine' we_sl ?_) | (with_reducible refine' wo_no ?_) | (with_reducible refine' wo_part ?_)
  | (with_reducible refine' we_meth ?_) | ((with_reducible refine' tk_intro ?htk ?_); (case htk => decide +kernel)) | (with_reducible refine' we_call ?_)
  | (with_reducible refine' we_app ?_) | (with_reducible refine' we_pop0 ?_)
  | (with_reducible refine' ws_seqA ?_) | (with_reducible refine' ws_seqD ?_) | (with_reducible refine' ws_ret ?_) | (with_reducible refine' ws_asgN ?_) | (with_reducible refine' ws_asg ?_) | (with_reducible refine' ws_drop ?_) | (with_reducible refine' ws_nx ?_)
  | (with_reducible refine' ws_seqG ?_)
  | (with_reducible refine' wg_name ?_) | (with_reducible refine' wg_tup rfl ?_) | (with_reducible refine' wg_row ?_) | (with_reducible refine' wg_mv ?_) | (with_reducible refine' wgs_cons ?_) | (with_reducible refine' wgs_nil ?_))
local macro_rules | `(tactic| walk_at "w") => `(tactic| first | (walk_at "v") | (with_reducible refine' ws_seqI ?_) | (with_reducible refine' ws_seqJ ?_) | (with_reducible refine' ws_if ?_))
local macro_rules | `(tactic| walk_at "W") => `(tactic| repeat walk_at "w")
local macro_rules | `(tactic| walk_at "V") => `(tactic| repeat walk_at "v")
local macro_rules | `(tactic| walk_at "sp") => `(tactic| repeat first | exact Split.nil | refine' Split.take ?_ | refine' Split.leave ?_)
section
variable {P : Program} {w : World} {K : PySem.W.Frag} {mg : Str → Option Value} {base : Heap}
/-- the lists of the world: cells, steps, rows, the world itself -/
def wM (pc ps pr pw : Addr) (cs : List Int) (steps : List Stp) (rows : List Row) (S L : Int) : Mm := [(pc, cs.map D.int), (ps, steps.map lsD), (pr, rows.map rowD), (pw, [.int S, .int L, .obj ps, .obj pr])]
def sTake (n : Nat) : List D → Mm → (D → Mm → Prop) → Prop := fun ds F k => ∃ (pc ps pr pw : Addr) (cs : List Int) (steps : List Stp) (rows : List Row) (S L st l g : Int) (d : Nat), d < n ∧ d ≤ 2 ∧ ds = [.obj pc, .obj pw, .int st, .int l, .int g, .int d] ∧ F = wM pc ps pr pw cs steps rows S L ∧
  0 < S ∧ 0 < L ∧ 0 ≤ st ∧ st < S ∧ 0 ≤ g ∧ g < S ∧ 0 ≤ l ∧ l < L ∧ 2 ^ (d + 2) ≤ cs.length + 2 ∧ steps.length + 2 ^ (d + 2) ≤ 900 ∧ rows.length + 2 ^ (d + 2) ≤ 900 ∧
  ∀ cs' s' r', cs.length + 2 ≤ cs'.length + 2 ^ (d + 2) → rows.length < r'.length → Taken S L steps rows d s' r' → Off s' r' (d + 1) ((r'.length : Int) - 1) st l g → k (.int ((r'.length : Int) - 1)) (wM pc ps pr pw cs' s' r' S L)
theorem scLawTake : FnScope ["_law_cells", "_law_world_here", "_law_state", "_law_letter", "_law_goal", "_law_depth", "_law_kind", "_law_number", "_law_middle", "_law_first", "_law_inner", "_law_second", "_law_parts", "_law_laid", "_law_below"] ["_law_cells", "_law_world_here", "_law_state", "_law_letter", "_law_goal", "_law_depth"] K69.dLawTake.scope := ⟨rfl, rfl, rfl, by decide +kernel, rfl, by decide +kernel, by decide +kernel⟩
theorem ok_take_step (T : Txt K mg) (n : Nat) (oRec : Ok1 P w K mg base K69.dLawTake n ["_law_cells", "_law_world_here", "_law_state", "_law_letter", "_law_goal", "_law_depth"] (spOf (sTake n))) : Ok1 P w K mg base K69.dLawTake (n + 1) ["_law_cells", "_law_world_here", "_law_state", "_law_letter", "_law_goal", "_law_depth"] (spOf (sTake (n + 1))) := by
  refine mk_ok (N := ["_law_cells", "_law_world_here", "_law_state", "_law_letter", "_law_goal", "_law_depth", "_law_kind", "_law_number", "_law_middle", "_law_first", "_law_inner", "_law_second", "_law_parts", "_law_laid", "_law_below"]) (T.c.def_ 14 (d := K69.dLawTake) rfl) scLawTake rfl (fun _ _ _ _ _ _ us hl => match us, hl with | [_, _, _, _, _, _], _ => rfl) ?_ (fun cdv A outer s H E hr => ⟨_, (pss_cons (ps_set (i := 6) scLawTake.nd rfl (by first | exact Or.inl rfl | exact Or.inr rfl) (pe_op op_mod (pe_bm PySem.F.plainAttrs_list PySem.F.slot_list_pop PySem.F.type_list_pop mt_popAt (pv 0) (pa_cons pe_int pa_nil)) pe_int))
  (pss_cons (ps_set (i := 7) scLawTake.nd rfl (by first | exact Or.inl rfl | exact Or.inr rfl) (pe_bm PySem.F.plainAttrs_list PySem.F.slot_list_pop PySem.F.type_list_pop mt_popAt (pv 0) (pa_cons pe_int pa_nil)))
  (pss_cons (ps_set (i := 8) scLawTake.nd rfl (by first | exact Or.inl rfl | exact Or.inr rfl) (pe_op op_mod (pv 7) (pe_ix ix_seq (pv 1) pe_int (fun _ _ => rfl))))
  (pss_cons (ps_set (i := 9) scLawTake.nd rfl (by first | exact Or.inl rfl | exact Or.inr rfl) (pe_op op_mod (pe_op op_fdiv (pv 7) pe_int) (pe_ix ix_seq (pv 1) pe_int (fun _ _ => rfl))))
  (pss_cons (ps_set (i := 10) scLawTake.nd rfl (by first | exact Or.inl rfl | exact Or.inr rfl) (pe_op op_mod (pe_op op_fdiv (pv 7) pe_int) (pe_ix ix_seq (pv 1) pe_int (fun _ _ => rfl))))
  (pss_cons (ps_set (i := 11) scLawTake.nd rfl (by first | exact Or.inl rfl | exact Or.inr rfl) (pe_op op_mod (pe_op op_fdiv (pv 7) pe_int) (pe_ix ix_seq (pv 1) pe_int (fun _ _ => rfl))))
  (pss_cons (ps_set (i := 12) scLawTake.nd rfl (by first | exact Or.inl rfl | exact Or.inr rfl) (pe_tup pa_nil))
  (pss_cons (ps_set (i := 13) scLawTake.nd rfl (by first | exact Or.inl rfl | exact Or.inr rfl) (pe_tup pa_nil))
  (pss_cons (ps_if (PW.pt (pw_or (pt_cmpR (op_eqX hr.units) (pv 5) pe_int (nomark _)) (pw_or1 (pt_cmpR (op_eqX hr.units) (pv 6) pe_int (nomark _))))) (pss_one (ps_set (i := 8) scLawTake.nd rfl (by first | exact Or.inl rfl | exact Or.inr rfl) (pv 4))) (pss_one (ps_if (pt_cmpR (op_eqX hr.units) (pv 6) pe_int (nomark _)) (pss_cons (ps_set (i := 12) scLawTake.nd rfl (by first | exact Or.inl rfl | exact Or.inr rfl) (pe_tup (pa_cons (pe_fn oRec rfl hr rfl (T.glo 7) (pa_cons (pv 0) (pa_cons (pv 1) (pa_cons (pv 8) (pa_cons (pv 9) (pa_cons (pv 4) (pa_cons (pe_op op_sub (pv 5) pe_int) pa_nil))))))) pa_nil)))
  (pss_one (ps_set (i := 13) scLawTake.nd rfl (by first | exact Or.inl rfl | exact Or.inr rfl) (pe_tup (pa_cons (pv 9) pa_nil))))) (pss_cons (ps_set (i := 14) scLawTake.nd rfl (by first | exact Or.inl rfl | exact Or.inr rfl) (pe_fn oRec rfl hr rfl (T.glo 7) (pa_cons (pv 0) (pa_cons (pv 1) (pa_cons (pv 8) (pa_cons (pv 9) (pa_cons (pv 10) (pa_cons (pe_op op_sub (pv 5) pe_int) pa_nil))))))))
  (pss_cons (ps_set (i := 12) scLawTake.nd rfl (by first | exact Or.inl rfl | exact Or.inr rfl) (pe_tup (pa_cons (pv 14) (pa_cons (pe_fn oRec rfl hr rfl (T.glo 7) (pa_cons (pv 0) (pa_cons (pv 1) (pa_cons (pv 10) (pa_cons (pv 11) (pa_cons (pv 4) (pa_cons (pe_op op_sub (pv 5) pe_int) pa_nil))))))) pa_nil))))
  (pss_one (ps_set (i := 13) scLawTake.nd rfl (by first | exact Or.inl rfl | exact Or.inr rfl) (pe_tup (pa_cons (pv 9) (pa_cons (pv 11) pa_nil))))))))))
  (pss_cons (ps_expr (pe_bm PySem.F.plainAttrs_list PySem.F.slot_list_append PySem.F.type_list_append mt_append (pe_ix ix_seq (pv 1) pe_int (fun _ _ => rfl)) (pa_cons (pe_tup (pa_cons (pv 2) (pa_cons (pv 3) (pa_cons (pv 8) (pa_cons (pv 13) pa_nil))))) pa_nil)))
  (pss_cons (ps_expr (pe_bm PySem.F.plainAttrs_list PySem.F.slot_list_append PySem.F.type_list_append mt_append (pe_ix ix_seq (pv 1) pe_int (fun _ _ => rfl)) (pa_cons (pe_tup (pa_cons (pe_op op_sub (pe_callB call_lenX (by rfl) (T.free 53) (by decide +kernel) (pa_cons (pe_ix ix_seq (pv 1) pe_int (fun _ _ => rfl)) pa_nil)) pe_int) (pa_cons (pv 12) pa_nil))) pa_nil)))
  (pss_one (ps_ret (pe_op op_sub (pe_callB call_lenX (by rfl) (T.free 53) (by decide +kernel) (pa_cons (pe_ix ix_seq (pv 1) pe_int (fun _ _ => rfl)) pa_nil)) pe_int)))))))))))))), fun ds F k Γ hs hw => ?_⟩)
  · rintro _ _ _ ⟨_, _, _, _, _, _, _, _, _, _, _, _, _, _, _, rfl, _⟩
    rfl
  · obtain ⟨pc, ps, pr, pw, cs, steps, rows, S, L, st, l, g, d, hdn, hd2, rfl, rfl, hS, hL, st0, st1, g0, g1, l0, l1, hcs, hz1, hz2, hk⟩ := hs
    change WS _ _ _ [_, _, _, _, _, _, _, _, _, _, _, _, _, _, _] _; dsimp only [cxOf, Cx.nox, Cx.wish]
    have p4 : 4 ≤ 2 ^ (d + 2) := Nat.pow_le_pow_right (n := 2) (by decide) (by omega : 2 ≤ d + 2)
    obtain ⟨c1, cs, rfl⟩ : ∃ c r, cs = c :: r := by
      cases cs with
      | nil => exact absurd hcs (by simp; omega)
      | cons c r => exact ⟨c, r, rfl⟩
    obtain ⟨c2, cs, rfl⟩ : ∃ c r, cs = c :: r := by
      cases cs with
      | nil => exact absurd hcs (by simp; omega)
      | cons c r => exact ⟨c, r, rfl⟩
    unfold wM
    have hcs' : 2 ^ (d + 2) ≤ cs.length + 4 := hcs
    walk_at "V"
    refine ⟨_, 0, _, _, rfl, rfl, ?_⟩
    walk_at "V"
    refine ⟨_, 0, _, _, rfl, rfl, ?_⟩
    walk_at "V"
    have m0 : 0 ≤ c2 % S := Int.emod_nonneg _ (by omega)
    have m1 : c2 % S < S := Int.emod_lt_of_pos _ hS
    have f0 : 0 ≤ c2 / 3 % L := Int.emod_nonneg _ (by omega)
    have f1 : c2 / 3 % L < L := Int.emod_lt_of_pos _ hL
    have i0 : 0 ≤ c2 / 9 % S := Int.emod_nonneg _ (by omega)
    have i1 : c2 / 9 % S < S := Int.emod_lt_of_pos _ hS
    have s0 : 0 ≤ c2 / 27 % L := Int.emod_nonneg _ (by omega)
    have s1 : c2 / 27 % L < L := Int.emod_lt_of_pos _ hL
    have hlen : (c1 :: c2 :: cs).length = cs.length + 2 := rfl
    have p3 : 2 ^ (d + 2) = 2 * 2 ^ (d + 1) := by rw [Nat.pow_succ, Nat.mul_comm]
    have p1 : 2 ≤ 2 ^ (d + 1) := Nat.pow_le_pow_right (n := 2) (by decide) (by omega : 1 ≤ d + 1)
    have p8 : 2 ^ (d + 1) ≤ 8 := Nat.pow_le_pow_right (n := 2) (by decide) (by omega : d + 1 ≤ 3)
    refine ws_mid (fun env M => ∃ (mid : Int) (ld pt : List Int) (cs1 : List Int) (s1 : List Stp) (r1 : List Row) (a b c e f h : Option D), env = [some (.obj pc), some (.obj pw), some (.int st), some (.int l), some (.int g), some (.int d), a, b, some (.int mid), c, e, f, some (tupI pt), some (tupI ld), h] ∧ M = wM pc ps pr pw cs1 s1 r1 S L ∧
      cs.length + 4 ≤ cs1.length + 2 ^ (d + 2) ∧ s1.length ≤ 950 ∧ r1.length ≤ 950 ∧ rows.length ≤ r1.length ∧ Taken S L steps rows d (s1 ++ [⟨st, l, mid, ld⟩]) (r1 ++ [((s1.length : Int), pt)]) ∧ Off (s1 ++ [⟨st, l, mid, ld⟩]) (r1 ++ [((s1.length : Int), pt)]) (d + 1) r1.length st l g) ?_ ?_
    · have leaf := Taken.leaf (S := S) (L := L) (steps := steps) (rows := rows) (st := st) (l := l) (g := g) d ⟨st0, st1, g0, g1, l0, l1, by show 0 ≤ 2; decide, fun x hx => nomatch hx⟩
      walk_at "W"
      refine di (fun h0 => ?_) (fun h0 => ?_)
      · walk_at "W"
        exact ⟨g, [], [], cs, steps, rows, _, _, _, _, _, _, rfl, rfl, by omega, by omega, by omega, Nat.le_refl _, leaf.1, leaf.2⟩
      · walk_at "W"
        refine di (fun h1 => ?_) (fun h1 => ?_)
        · walk_at "W"
          exact ⟨g, [], [], cs, steps, rows, _, _, _, _, _, _, rfl, rfl, by omega, by omega, by omega, Nat.le_refl _, leaf.1, leaf.2⟩
        · obtain ⟨d, rfl⟩ : ∃ e, d = e + 1 := ⟨d - 1, by omega⟩
          have ed : ((d + 1 : Nat) : Int) - 1 = (d : Int) := by omega
          have q3 : 2 ^ (d + 1 + 1) = 2 ^ (d + 2) := rfl
          walk_at "W"
          refine di (fun h2 => ?_) (fun h2 => ?_)
          · walk_at "W"
            rw [ed]
            refine ⟨_, [], Split.all _, pc, ps, pr, pw, cs, steps, rows, S, L, _, _, g, d, by omega, by omega, rfl, rfl, hS, hL, m0, m1, g0, g1, f0, f1, by omega, by omega, by omega, fun cs' s' r' hc hl tk of => ?_⟩
            have gr := tk.grow
            have one := Taken.one (st := st) (l := l) (mid := c2 % S) (f := c2 / 3 % L) tk hl of ⟨st0, st1, m0, m1, l0, l1, by show 1 ≤ 2; decide, fun x hx => by rw [List.mem_singleton.mp hx]; exact ⟨f0, f1⟩⟩
            walk_at "W"
            exact ⟨c2 % S, [c2 / 3 % L], [(r'.length : Int) - 1], cs', s', r', _, _, _, _, _, _, rfl, rfl, by omega, by omega, by omega, by omega, one.1, one.2⟩
          · walk_at "W"
            rw [ed]
            refine ⟨_, [], Split.all _, pc, ps, pr, pw, cs, steps, rows, S, L, _, _, _, d, by omega, by omega, rfl, rfl, hS, hL, m0, m1, i0, i1, f0, f1, by omega, by omega, by omega, fun cs' s' r' hc hl tk of => ?_⟩
            have gr := tk.grow
            unfold wM
            walk_at "W"
            rw [ed]
            refine ⟨_, [], Split.all _, pc, ps, pr, pw, cs', s', r', S, L, _, _, g, d, by omega, by omega, rfl, rfl, hS, hL, i0, i1, g0, g1, s0, s1, by omega, by omega, by omega, fun cs2 s2 r2 hc2 hl2 tk2 of2 => ?_⟩
            have gr2 := tk2.grow
            have two := Taken.two (st := st) (l := l) (mid := c2 % S) (f := c2 / 3 % L) (sec := c2 / 27 % L) tk hl of tk2 hl2 of2 ⟨st0, st1, m0, m1, l0, l1, by show 2 ≤ 2; decide, fun x hx => by
              rcases List.mem_cons.mp hx with e | hx
              · rw [e]; exact ⟨f0, f1⟩
              · rw [List.mem_singleton.mp hx]; exact ⟨s0, s1⟩⟩
            walk_at "W"
            exact ⟨c2 % S, [c2 / 3 % L, c2 / 27 % L], [(r'.length : Int) - 1, (r2.length : Int) - 1], cs2, s2, r2, _, _, _, _, _, _, rfl, rfl, by omega, by omega, by omega, by omega, two.1, two.2⟩
    · rintro env M ⟨mid, ld, pt, cs1, s1, r1, a, b, c, e, f, h, rfl, rfl, hcl, hsl, hrl, hrr, tk, of⟩
      have zz : ∀ {a : Nat}, a ≤ 4000 → a < sizeLine := fun {a} h => Nat.lt_of_le_of_lt h (by decide)
      unfold wM
      walk_at "W"
      refine ⟨ps, rfl, ⟨1, _, rfl⟩, ?_⟩
      walk_at "W"
      refine ⟨1, _, rfl, zz (by rw [List.length_map]; omega), ?_⟩
      walk_at "W"
      refine ⟨pr, rfl, ⟨2, _, rfl⟩, ?_⟩
      walk_at "W"
      refine ⟨2, _, rfl, zz (by rw [List.length_map]; omega), ?_⟩
      walk_at "W"
      have e1 : List.map lsD s1 ++ [D.tup [.int st, .int l, .int mid, tupI ld]] = (s1 ++ [(⟨st, l, mid, ld⟩ : Stp)]).map lsD := by rw [List.map_append] <;> rfl
      have e2 : ((((s1 ++ [(⟨st, l, mid, ld⟩ : Stp)]).map lsD).length : Nat) : Int) - 1 = (s1.length : Int) := by
        rw [List.length_map, List.length_append]
        show ((s1.length + 1 : Nat) : Int) - 1 = _
        omega
      have e3 : List.map rowD r1 ++ [D.tup [.int (s1.length : Int), tupI pt]] = (r1 ++ [(((s1.length : Int), pt) : Row)]).map rowD := by rw [List.map_append] <;> rfl
      have e4 : (((((r1 ++ [(((s1.length : Int), pt) : Row)]).map rowD).length : Nat) : Int) - 1) = ((r1 ++ [(((s1.length : Int), pt) : Row)]).length : Int) - 1 := by rw [List.length_map]
      have e5 : ((r1 ++ [(((s1.length : Int), pt) : Row)]).length : Int) - 1 = (r1.length : Int) := by
        rw [List.length_append]
        show ((r1.length + 1 : Nat) : Int) - 1 = _
        omega
      rw [e1, e2, e3, e4]
      refine hk cs1 _ _ (by omega) (by rw [List.length_append]; show _ < _ + 1; omega) tk ?_
      rw [e5]
      exact of
theorem ok_take0 (T : Txt K mg) : Ok1 P w K mg base K69.dLawTake 0 ["_law_cells", "_law_world_here", "_law_state", "_law_letter", "_law_goal", "_law_depth"] (spOf (sTake 0)) := by
  refine mk_never (T.c.def_ 14 (d := K69.dLawTake) rfl) rfl (fun _ _ _ _ _ _ us hl => match us, hl with | [_, _, _, _, _, _], _ => rfl) (fun vs H Q E z => ?_)
  obtain ⟨ds, F, k, _, _, h, _⟩ := z
  obtain ⟨_, _, _, _, _, _, _, _, _, _, _, _, _, h, _⟩ := h
  exact absurd h (Nat.not_lt_zero _)
theorem ok_take (T : Txt K mg) : Ok1 P w K mg base K69.dLawTake 3 ["_law_cells", "_law_world_here", "_law_state", "_law_letter", "_law_goal", "_law_depth"] (spOf (sTake 3)) :=
  ok_take_step T 2 (ok_take_step T 1 (ok_take_step T 0 (ok_take0 T)))
end
end A

set_option Elab.async false
set_option linter.all false
set_option maxRecDepth 100000
set_option maxHeartbeats 8000000
namespace A
open PySem PySem.Spec PyProof.Rows L2
local macro_rules | `(tactic| walk_at "at") => `(tactic| first | exact at0 | exact at1 | exact at2 | exact at3 | exact at4 | exact at5 | exact at6 | exact at7)
local macro_rules | `(tactic| walk_at "fl") => `(tactic| first
  | (with_reducible refine' fl_laid (by assumption) ?_) | (with_reducible refine' fl_goal (by assumption) ?_) | (with_reducible refine' fl_state (by assumption) ?_) | (with_reducible refine' fl_letter (by assumption) ?_)
  | (with_reducible refine' fl_steps (by assumption) ?_) | (with_reducible refine' fl_marks (by assumption) ?_) | (with_reducible refine' fl_entries (by assumption) ?_) | (with_reducible refine' fl_weight (by assumption) ?_) | (with_reducible refine' fl_msteps (by assumption) ?_))
local macro_rules | `(tactic| walk_at "ix") => `(tactic| first
  | (with_reducible refine' ix_en0 ?_) | (with_reducible refine' ix_en1 ?_) | (with_reducible refine' ix_en2 ?_) | (with_reducible refine' ix_en3 ?_) | (with_reducible refine' ix_row0 ?_) | (with_reducible refine' ix_row1 ?_) | (with_reducible refine' ix_mv0 ?_) | (with_reducible refine' ix_mvS ?_) | (with_reducible refine' ix_mvN ?_) | (with_reducible refine' ix_mv1 ?_) | (with_reducible refine' ix_hd0 ?_) | (with_reducible refine' ix_hd1 ?_))
local macro_rules | `(tactic| walk_at "v") => `(tactic| first
  | ((with_reducible refine' we_var ?hvar ?_); (case hvar => rfl))
  | (with_reducible refine' we_int ?_)
  | (with_reducible refine' we_op ?_)
  | (with_reducible refine' wr_add ?_) | (with_reducible refine' wr_sub ?_)
  | ((with_reducible refine' wr_ixT ?hix ?_); (case hix => rfl))
  | ((with_reducible refine' wr_mod ?hmod ?_); (case hmod => first | decide | omega | assumption))
  | ((with_reducible refine' wr_div ?hdiv ?_); (case hdiv => exact ⟨by decide, by decide⟩))
  | (with_reducible refine' wr_eqI ?_) | (with_reducible refine' wr_neI ?_) | (with_reducible refine' wr_lt ?_) | (with_reducible refine' wr_le ?_) | (with_reducible refine' wr_gt ?_) | (with_reducible refine' wr_ge ?_)
  | ((with_reducible refine' isn0 ?hisn ?_); (case hisn => rfl)) | ((with_reducible refine' isn1 ?hisn ?_); (case hisn => rfl)) | ((with_reducible refine' ntn0 ?hisn ?_); (case hisn => rfl)) | ((with_reducible refine' ntn1 ?hisn ?_); (case hisn => rfl))
  | (with_reducible refine' wr_isN ?_) | (with_reducible refine' wr_notN ?_) | (with_reducible refine' wr_eqS ?_)
  | (with_reducible refine' d0n ?_) | (with_reducible refine' d1n ?_) | (with_reducible refine' d0 rfl ?_) | (with_reducible refine' d1 rfl ?_) | (with_reducible refine' bl_intro ?_) | (with_reducible refine' int_intro ?_) | ((with_reducible refine' And.intro ?hlen ?_); (case hlen => exact len_le rfl); try (with_reducible intro _))
  | (walk_at "ix")
  | ((with_reducible refine' wr_ixL ?hm ?ha ?_); (case hm => walk_at "at"); (case ha => rfl))
  | (with_reducible refine' we_fldP ?_) | (walk_at "fl")
  | (with_reducible refine' we_tup ?_) | (with_reducible refine' we_lst ?_)
  | (with_reducible refine' wa_nil ?_) | (with_reducible refine' wa_cons ?_)
  | (with_reducible refine' we_non ?_) | (with_reducible refine' we_bl ?_) | (with_reducible refine' we_str ?_) | (with_reducible refine' we_ty ?_)
  | (with_reducible refine' we_cb ?_) | (with_reducible refine' wc_lenI ?_) | (with_reducible refine' wc_lenT ?_) | ((with_reducible refine' wc_lenL ?hat ?_); (case hat => walk_at "at"))
  | (with_reducible refine' wc_tupT ?_) | ((with_reducible refine' wc_tupL ?hat ?_); (case hat => walk_at "at"))
  | (with_reducible refine' wc_listI (fun _ => ?_)) | (with_reducible refine' wc_listT (fun _ => ?_)) | ((with_reducible refine' wc_listL ?hat (fun _ => ?_)); (case hat => walk_at "at"))
  | (with_reducible refine' wt_test ?_) | (with_reducible refine' wt_B ?_) | (with_reducible refine' wt_and ?_) | (with_reducible refine' wt_or ?_) | (with_reducible refine' wt_not ?_) | (with_reducible refine' wt_yes ?_)
  | (with_reducible refine' we_chain ?_) | (with_reducible refine' we_orV ?_) | (with_reducible refine' we_andV ?_) | (with_reducible refine' we_din ?_) | (with_reducible refine' we_neg ?_)
  | (with_reducible refine' we_sl ?_) | (with_reducible refine' wo_no ?_) | (with_reducible refine' wo_part ?_)
  | (with_reducible refine' we_meth ?_) | ((with_reducible refine' tk_intro ?htk ?_); (case htk => decide +kernel)) | (with_reducible refine' we_call ?_)
  | (with_reducible refine' we_app ?_) | (with_reducible refine' we_pop0 ?_)
  | (with_reducible refine' ws_seqA ?_) | (with_reducible refine' ws_seqD ?_) | (with_reducible refine' ws_ret ?_) | (with_reducible refine' ws_asgN ?_) | (with_reducible refine' ws_asg ?_) | (with_reducible refine' ws_drop ?_) | (with_reducible refine' ws_nx ?_)
  | (with_reducible refine' ws_seqG ?_)
  | (with_reducible refine' wg_name ?_) | (with_reducible refine' wg_tup rfl ?_) | (with_reducible refine' wg_row ?_) | (with_reducible refine' wg_mv ?_) | (with_reducible refine' wgs_cons ?_) | (with_reducible refine' wgs_nil ?_))
local macro_rules | `(tactic| walk_at "w") => `(tactic| first | (walk_at "v") | (with_reducible refine' ws_seqI ?_) | (with_reducible refine' ws_seqJ ?_) | (with_reducible refine' ws_if ?_))
local macro_rules | `(tactic| walk_at "W") => `(tactic| repeat walk_at "w")
local macro_rules | `(tactic| walk_at "V") => `(tactic| repeat walk_at "v")
local macro_rules | `(tactic| walk_at "sp") => `(tactic| repeat first | exact Split.nil | refine' Split.take ?_ | refine' Split.leave ?_)
section
variable {P : Program} {w : World} {K : PySem.W.Frag} {mg : Str → Option Value} {base : Heap}
def sLawHeads : List D → Mm → (D → Mm → Prop) → Prop := fun ds F k => ∃ (pc ps pr pw : Addr) (cs : List Int) (steps : List Stp) (rows : List Row) (S L n : Int), ds = [.obj pc, .obj pw, .int n] ∧ F = wM pc ps pr pw cs steps rows S L ∧
  0 < S ∧ 0 < L ∧ 0 ≤ n ∧ n ≤ cs.length ∧ n ≤ 100 ∧
  ∀ (cs' : List Int) (hs : List Hd) (p : Addr), (cs.length : Int) = cs'.length + n → (hs.length : Int) = n → (∀ h ∈ hs, HdIn S L h) → k (.obj p) (wM pc ps pr pw cs' steps rows S L ++ [(p, hs.map hdD)])
theorem scLawHeads : FnScope ["_law_cells", "_law_world_here", "_law_count", "_law_heads_here", "_law_k", "_law_number"] ["_law_cells", "_law_world_here", "_law_count"] K69.dLawHeads.scope := ⟨rfl, rfl, rfl, by decide +kernel, rfl, by decide +kernel, by decide +kernel⟩
theorem ok_heads (T : Txt K mg) : Ok1 P w K mg base K69.dLawHeads 1 ["_law_cells", "_law_world_here", "_law_count"] (spOf sLawHeads) := by
  refine mk_ok (N := ["_law_cells", "_law_world_here", "_law_count", "_law_heads_here", "_law_k", "_law_number"]) (T.c.def_ 16 (d := K69.dLawHeads) rfl) scLawHeads rfl (fun _ _ _ _ _ _ us hl => match us, hl with | [_, _, _], _ => rfl) ?_ (fun cdv A outer s H E hr => ⟨_, (pss_cons (ps_set (i := 3) scLawHeads.nd rfl (by first | exact Or.inl rfl | exact Or.inr rfl) (pe_lst pa_nil))
  (pss_cons (ps_for PassesOwn.never rfl (pi_range1 (by rfl) (T.free 56) (pa_cons (pv 2) pa_nil)) (pg_name (i := 4) scLawHeads.nd rfl (by first | exact Or.inl rfl | exact Or.inr rfl)) (pss_cons (ps_set (i := 5) scLawHeads.nd rfl (by first | exact Or.inl rfl | exact Or.inr rfl) (pe_bm PySem.F.plainAttrs_list PySem.F.slot_list_pop PySem.F.type_list_pop mt_popAt (pv 0) (pa_cons pe_int pa_nil)))
  (pss_one (ps_expr (pe_bm PySem.F.plainAttrs_list PySem.F.slot_list_append PySem.F.type_list_append mt_append (pv 3) (pa_cons (pe_tup (pa_cons (pe_op op_mod (pv 5) (pe_ix ix_seq (pv 1) pe_int (fun _ _ => rfl))) (pa_cons (pe_op op_mod (pe_op op_fdiv (pv 5) pe_int) (pe_ix ix_seq (pv 1) pe_int (fun _ _ => rfl))) pa_nil))) pa_nil))))))
  (pss_one (ps_ret (pv 3))))), fun ds F k Γ hs hw => ?_⟩)
  · rintro _ _ _ ⟨_, _, _, _, _, _, _, _, _, _, rfl, _⟩
    rfl
  · obtain ⟨pc, ps, pr, pw, cs, steps, rows, S, L, n, rfl, rfl, hS, hL, hn0, hnc, hn1, hk⟩ := hs
    change WS _ _ _ [_, _, _, _, _, _] _; dsimp only [cxOf, Cx.nox, Cx.wish]
    unfold wM
    walk_at "W"
    rename_i p
    refine ws_seq (ws_forR (fun i env M => ∃ (cs' : List Int) (hs : List Hd) (a b : Option D), M = [(pc, cs'.map D.int), (ps, steps.map lsD), (pr, rows.map rowD), (pw, [.int S, .int L, .obj ps, .obj pr]), (p, hs.map hdD)] ∧ env = [some (.obj pc), some (.obj pw), some (.int n), some (.obj p), a, b] ∧ cs.length = cs'.length + i ∧ hs.length = i ∧ ∀ h ∈ hs, HdIn S L h) ?_)
    walk_at "W"
    refine ⟨n, rfl, by omega, by omega, ⟨cs, [], none, none, rfl, rfl, rfl, rfl, fun h z => (nomatch z)⟩, ?_, ?_⟩
    · rintro i env M hi ⟨cs', hs, a, b, rfl, rfl, hcl, hhl, hin⟩
      obtain ⟨c1, cs', rfl⟩ : ∃ c r, cs' = c :: r := by
        cases cs' with
        | nil => exact absurd hnc (by simp at hcl; omega)
        | cons c r => exact ⟨c, r, rfl⟩
      walk_at "W"
      refine ⟨_, 0, _, _, rfl, rfl, ?_⟩
      walk_at "W"
      refine ⟨p, rfl, ⟨4, _, rfl⟩, ?_⟩
      walk_at "W"
      refine ⟨4, _, rfl, Nat.lt_of_le_of_lt (by rw [List.length_map]; omega : _ ≤ 4000) (by decide), ?_⟩
      refine ⟨cs', hs ++ [(c1 % S, c1 / 3 % L)], _, _, ?_, rfl, ?_, ?_, ?_⟩
      · show [(pc, cs'.map D.int), (ps, steps.map lsD), (pr, rows.map rowD), (pw, _), (p, hs.map hdD ++ [hdD (c1 % S, c1 / 3 % L)])] = _
        rw [List.map_append] <;> rfl
      · have : (c1 :: cs').length = cs'.length + 1 := rfl
        omega
      · rw [List.length_append]
        show _ + 1 = _
        omega
      · intro h z
        rcases List.mem_append.mp z with z | z
        · exact hin h z
        · rw [List.mem_singleton.mp z]
          exact ⟨Int.emod_nonneg _ (by omega), Int.emod_lt_of_pos _ hS, Int.emod_nonneg _ (by omega), Int.emod_lt_of_pos _ hL⟩
    · rintro env M ⟨cs', hs, a, b, rfl, rfl, hcl, hhl, hin⟩
      walk_at "W"
      exact hk cs' hs p (by omega) (by omega) hin
def sLawMove : List D → Mm → (D → Mm → Prop) → Prop := fun ds F k => ∃ (pc ps pr pw : Addr) (cs : List Int) (steps : List Stp) (rows : List Row) (S L : Int) (h a : Hd), ds = [.obj pc, .obj pw, hdD h, hdD a] ∧ F = wM pc ps pr pw cs steps rows S L ∧
  0 < S ∧ 0 < L ∧ HdIn S L h ∧ HdIn S L a ∧ 16 ≤ cs.length ∧ steps.length ≤ 800 ∧ rows.length ≤ 800 ∧
  ∀ cs' s' r' m, cs.length ≤ cs'.length + 16 → Grew S L steps rows 8 7 3 s' r' → MoveOk s' r' m h a → k (mvD m) (wM pc ps pr pw cs' s' r' S L)
theorem scLawMove : FnScope ["_law_cells", "_law_world_here", "_law_head", "_law_after", "_law_kind", "_law_number", "_law_letter", "_law_state", "_law_part"] ["_law_cells", "_law_world_here", "_law_head", "_law_after"] K69.dLawMove.scope := ⟨rfl, rfl, rfl, by decide +kernel, rfl, by decide +kernel, by decide +kernel⟩
theorem ok_move0 (T : Txt K mg) (oLawTake : Ok1 P w K mg base K69.dLawTake 3 ["_law_cells", "_law_world_here", "_law_state", "_law_letter", "_law_goal", "_law_depth"] (spOf (sTake 3))) : Ok1 P w K mg base K69.dLawMove 4 ["_law_cells", "_law_world_here", "_law_head", "_law_after"] (spOf sLawMove) := by
  refine mk_ok (N := ["_law_cells", "_law_world_here", "_law_head", "_law_after", "_law_kind", "_law_number", "_law_letter", "_law_state", "_law_part"]) (T.c.def_ 15 (d := K69.dLawMove) rfl) scLawMove rfl (fun _ _ _ _ _ _ us hl => match us, hl with | [_, _, _, _], _ => rfl) ?_ (fun cdv A outer s H E hr => ⟨_, (pss_cons (ps_set (i := 4) scLawMove.nd rfl (by first | exact Or.inl rfl | exact Or.inr rfl) (pe_op op_mod (pe_bm PySem.F.plainAttrs_list PySem.F.slot_list_pop PySem.F.type_list_pop mt_popAt (pv 0) (pa_cons pe_int pa_nil)) pe_int))
  (pss_cons (ps_set (i := 5) scLawMove.nd rfl (by first | exact Or.inl rfl | exact Or.inr rfl) (pe_bm PySem.F.plainAttrs_list PySem.F.slot_list_pop PySem.F.type_list_pop mt_popAt (pv 0) (pa_cons pe_int pa_nil)))
  (pss_cons (ps_set (i := 6) scLawMove.nd rfl (by first | exact Or.inl rfl | exact Or.inr rfl) (pe_op op_mod (pv 5) (pe_ix ix_seq (pv 1) pe_int (fun _ _ => rfl))))
  (pss_cons (ps_set (i := 7) scLawMove.nd rfl (by first | exact Or.inl rfl | exact Or.inr rfl) (pe_op op_mod (pe_op op_fdiv (pv 5) pe_int) (pe_ix ix_seq (pv 1) pe_int (fun _ _ => rfl))))
  (pss_cons (ps_set (i := 8) scLawMove.nd rfl (by first | exact Or.inl rfl | exact Or.inr rfl) (pe_non))
  (pss_cons (ps_if (pt_cmpR (op_eqX hr.units) (pv 4) pe_int (nomark _)) (pss_one (ps_expr (pe_bm PySem.F.plainAttrs_list PySem.F.slot_list_append PySem.F.type_list_append mt_append (pe_ix ix_seq (pv 1) pe_int (fun _ _ => rfl)) (pa_cons (pe_tup (pa_cons (pe_ix ix_seq (pv 2) pe_int (fun _ _ => rfl)) (pa_cons (pe_ix ix_seq (pv 2) pe_int (fun _ _ => rfl)) (pa_cons (pe_ix ix_seq (pv 3) pe_int (fun _ _ => rfl)) (pa_cons (pe_tup (pa_cons (pe_ix ix_seq (pv 3) pe_int (fun _ _ => rfl)) pa_nil)) pa_nil))))) pa_nil)))) (pss_one (ps_if (pt_cmpR (op_eqX hr.units) (pv 4) pe_int (nomark _)) (pss_one (ps_expr (pe_bm PySem.F.plainAttrs_list PySem.F.slot_list_append PySem.F.type_list_append mt_append (pe_ix ix_seq (pv 1) pe_int (fun _ _ => rfl)) (pa_cons (pe_tup (pa_cons (pe_ix ix_seq (pv 2) pe_int (fun _ _ => rfl)) (pa_cons (pe_ix ix_seq (pv 2) pe_int (fun _ _ => rfl)) (pa_cons (pe_ix ix_seq (pv 3) pe_int (fun _ _ => rfl)) (pa_cons (pe_tup (pa_cons (pe_ix ix_seq (pv 3) pe_int (fun _ _ => rfl)) (pa_cons (pv 6) pa_nil))) pa_nil))))) pa_nil)))) (pss_cons (ps_set (i := 8) scLawMove.nd rfl (by first | exact Or.inl rfl | exact Or.inr rfl) (pe_fn oLawTake rfl hr rfl (T.glo 7) (pa_cons (pv 0) (pa_cons (pv 1) (pa_cons (pv 7) (pa_cons (pv 6) (pa_cons (pe_ix ix_seq (pv 3) pe_int (fun _ _ => rfl)) (pa_cons (pe_op op_mod (pe_op op_fdiv (pv 5) pe_int) pe_int) pa_nil))))))))
  (pss_one (ps_expr (pe_bm PySem.F.plainAttrs_list PySem.F.slot_list_append PySem.F.type_list_append mt_append (pe_ix ix_seq (pv 1) pe_int (fun _ _ => rfl)) (pa_cons (pe_tup (pa_cons (pe_ix ix_seq (pv 2) pe_int (fun _ _ => rfl)) (pa_cons (pe_ix ix_seq (pv 2) pe_int (fun _ _ => rfl)) (pa_cons (pv 7) (pa_cons (pe_tup (pa_cons (pv 6) (pa_cons (pe_ix ix_seq (pv 3) pe_int (fun _ _ => rfl)) pa_nil))) pa_nil))))) pa_nil))))))))
  (pss_one (ps_ret (pe_tup (pa_cons (pe_op op_sub (pe_callB call_lenX (by rfl) (T.free 53) (by decide +kernel) (pa_cons (pe_ix ix_seq (pv 1) pe_int (fun _ _ => rfl)) pa_nil)) pe_int) (pa_cons (pv 8) pa_nil))))))))))), fun ds F k Γ hs hw => ?_⟩)
  · rintro _ _ _ ⟨_, _, _, _, _, _, _, _, _, _, _, rfl, _⟩
    rfl
  · obtain ⟨pc, ps, pr, pw, cs, steps, rows, S, L, h, a, rfl, rfl, hS, hL, ⟨h0, h1, h2, h3⟩, ⟨a0, a1, a2, a3⟩, hcs, hz1, hz2, hk⟩ := hs
    change WS _ _ _ [_, _, _, _, _, _, _, _, _] _; dsimp only [cxOf, Cx.nox, Cx.wish]
    obtain ⟨c1, cs, rfl⟩ : ∃ c r, cs = c :: r := by
      cases cs with
      | nil => exact absurd hcs (by simp)
      | cons c r => exact ⟨c, r, rfl⟩
    obtain ⟨c2, cs, rfl⟩ : ∃ c r, cs = c :: r := by
      cases cs with
      | nil => exact absurd hcs (by simp)
      | cons c r => exact ⟨c, r, rfl⟩
    unfold wM
    have hcs' : 16 ≤ cs.length + 2 := hcs
    have hlen : (c1 :: c2 :: cs).length = cs.length + 2 := rfl
    have zz : ∀ {a : Nat}, a ≤ 4000 → a < sizeLine := fun {a} h => Nat.lt_of_le_of_lt h (by decide)
    have m0 : 0 ≤ c2 % L := Int.emod_nonneg _ (by omega)
    have m1 : c2 % L < L := Int.emod_lt_of_pos _ hL
    have f0 : 0 ≤ c2 / 3 % S := Int.emod_nonneg _ (by omega)
    have f1 : c2 / 3 % S < S := Int.emod_lt_of_pos _ hS
    have t0 : 0 ≤ c2 / 9 % 3 := Int.emod_nonneg _ (by omega)
    have t1 : c2 / 9 % 3 < 3 := Int.emod_lt_of_pos _ (by omega)
    have ee : ∀ (s1 : List Stp) (s : Stp), s1.map lsD ++ [lsD s] = (s1 ++ [s]).map lsD := fun s1 s => by rw [List.map_append] <;> rfl
    have el : ∀ (s1 : List Stp) (s : Stp), (((s1 ++ [s]).map lsD).length : Int) - 1 = s1.length := fun s1 s => by
      rw [List.length_map, List.length_append]
      show ((s1.length + 1 : Nat) : Int) - 1 = _
      omega
    walk_at "V"
    refine ⟨_, 0, _, _, rfl, rfl, ?_⟩
    walk_at "V"
    refine ⟨_, 0, _, _, rfl, rfl, ?_⟩
    walk_at "V"
    refine ws_mid (fun env M => ∃ (m2 : Option Int) (cs1 : List Int) (s1 : List Stp) (r1 : List Row) (s : Stp) (a1 a2 a3 a4 a5 a6 : Option D), env = [some (.obj pc), some (.obj pw), a1, a2, a3, a4, a5, a6, some (optD m2)] ∧ M = wM pc ps pr pw cs1 (s1 ++ [s]) r1 S L ∧
      cs.length ≤ cs1.length + 14 ∧ Grew S L steps rows 8 7 3 (s1 ++ [s]) r1 ∧ MoveOk (s1 ++ [s]) r1 ((s1.length : Int), m2) h a) ?_ ?_
    · walk_at "W"
      refine di (fun k0 => ?_) (fun k0 => ?_)
      · walk_at "W"
        refine ⟨ps, rfl, ⟨1, _, rfl⟩, ?_⟩
        walk_at "W"
        refine ⟨1, _, rfl, zz (by rw [List.length_map]; omega), ?_⟩
        refine ⟨none, cs, steps, rows, ⟨h.1, h.2, a.1, [a.2]⟩, _, _, _, _, _, _, rfl, ?_, by omega, (Grew.step ⟨h0, h1, a0, a1, h2, h3, by show 1 ≤ 2; decide, fun x hx => by rw [List.mem_singleton.mp hx]; exact ⟨a2, a3⟩⟩).mono (by decide) (by decide) (by decide), ⟨_, stepAt_last, rfl, rfl, [], rfl, by decide, rfl⟩⟩
        unfold wM
        rw [← ee] <;> rfl
      · walk_at "W"
        refine di (fun k1 => ?_) (fun k1 => ?_)
        · walk_at "W"
          refine ⟨ps, rfl, ⟨1, _, rfl⟩, ?_⟩
          walk_at "W"
          refine ⟨1, _, rfl, zz (by rw [List.length_map]; omega), ?_⟩
          refine ⟨none, cs, steps, rows, ⟨h.1, h.2, a.1, [a.2, c2 % L]⟩, _, _, _, _, _, _, rfl, ?_, by omega, (Grew.step ⟨h0, h1, a0, a1, h2, h3, by show 2 ≤ 2; decide, fun x hx => by
            rcases List.mem_cons.mp hx with e | hx
            · rw [e]; exact ⟨a2, a3⟩
            · rw [List.mem_singleton.mp hx]; exact ⟨m0, m1⟩⟩).mono (by decide) (by decide) (by decide), ⟨_, stepAt_last, rfl, rfl, [c2 % L], rfl, by show 1 ≤ 1; decide, rfl⟩⟩
          unfold wM
          rw [← ee] <;> rfl
        · obtain ⟨d, hd⟩ : ∃ d : Nat, c2 / 9 % 3 = d := ⟨(c2 / 9 % 3).toNat, by omega⟩
          have p16 : 2 ^ (d + 2) ≤ 16 := Nat.pow_le_pow_right (n := 2) (by decide) (by omega : d + 2 ≤ 4)
          walk_at "W"
          rw [hd]
          refine ⟨_, [], Split.all _, pc, ps, pr, pw, cs, steps, rows, S, L, _, _, a.1, d, by omega, by omega, rfl, rfl, hS, hL, f0, f1, a0, a1, m0, m1, by omega, by omega, by omega, fun cs' s' r' hc hl tk of => ?_⟩
          have gr := (tk.grew (by omega)).len
          have gr1 := tk.grew (by omega : d ≤ 2)
          unfold wM
          walk_at "W"
          refine ⟨ps, rfl, ⟨1, _, rfl⟩, ?_⟩
          walk_at "W"
          refine ⟨1, _, rfl, zz (by rw [List.length_map]; omega), ?_⟩
          refine ⟨some ((r'.length : Int) - 1), cs', s', r', ⟨h.1, h.2, c2 / 3 % S, [c2 % L, a.2]⟩, _, _, _, _, _, _, rfl, ?_, by omega, gr1.trans (Grew.step ⟨h0, h1, f0, f1, h2, h3, by show 2 ≤ 2; decide, fun x hx => by
            rcases List.mem_cons.mp hx with e | hx
            · rw [e]; exact ⟨m0, m1⟩
            · rw [List.mem_singleton.mp hx]; exact ⟨a2, a3⟩⟩), ⟨_, stepAt_last, rfl, rfl, _, rfl, ?_⟩⟩
          · rw [← ee] <;> rfl
          · have o := (of.le (by omega : d + 1 ≤ 3)).app (s2 := [⟨h.1, h.2, c2 / 3 % S, [c2 % L, a.2]⟩]) (r2 := [])
            rw [List.append_nil] at o
            exact o
    · rintro env M ⟨m2, cs1, s1, r1, s, b1, b2, b3, b4, b5, b6, rfl, rfl, hcl, gr, mo⟩
      unfold wM
      walk_at "W"
      rw [el]
      exact hk cs1 _ _ _ (by omega) gr mo
end
end A

set_option Elab.async false
set_option linter.all false
set_option maxRecDepth 100000
set_option maxHeartbeats 8000000
namespace A
open PySem PySem.Spec PyProof.Rows L2
local macro_rules | `(tactic| walk_at "at") => `(tactic| first | exact at0 | exact at1 | exact at2 | exact at3 | exact at4 | exact at5 | exact at6 | exact at7)
local macro_rules | `(tactic| walk_at "fl") => `(tactic| first
  | (with_reducible refine' fl_laid (by assumption) ?_) | (with_reducible refine' fl_goal (by assumption) ?_) | (with_reducible refine' fl_state (by assumption) ?_) | (with_reducible refine' fl_letter (by assumption) ?_)
  | (with_reducible refine' fl_steps (by assumption) ?_) | (with_reducible refine' fl_marks (by assumption) ?_) | (with_reducible refine' fl_entries (by assumption) ?_) | (with_reducible refine' fl_weight (by assumption) ?_) | (with_reducible refine' fl_msteps (by assumption) ?_))
local macro_rules | `(tactic| walk_at "ix") => `(tactic| first
  | (with_reducible refine' ix_en0 ?_) | (with_reducible refine' ix_en1 ?_) | (with_reducible refine' ix_en2 ?_) | (with_reducible refine' ix_en3 ?_) | (with_reducible refine' ix_row0 ?_) | (with_reducible refine' ix_row1 ?_) | (with_reducible refine' ix_mv0 ?_) | (with_reducible refine' ix_mvS ?_) | (with_reducible refine' ix_mvN ?_) | (with_reducible refine' ix_mv1 ?_) | (with_reducible refine' ix_hd0 ?_) | (with_reducible refine' ix_hd1 ?_))
local macro_rules | `(tactic| walk_at "v") => `(tactic| first
  | ((with_reducible refine' we_var ?hvar ?_); (case hvar => rfl))
  | (with_reducible refine' we_int ?_)
  | (with_reducible refine' we_op ?_)
  | (with_reducible refine' wr_add ?_) | (with_reducible refine' wr_sub ?_)
  | ((with_reducible refine' wr_ixT ?hix ?_); (case hix => rfl))
  | ((with_reducible refine' wr_mod ?hmod ?_); (case hmod => first | decide | omega | assumption))
  | ((with_reducible refine' wr_div ?hdiv ?_); (case hdiv => exact ⟨by decide, by decide⟩))
  | (with_reducible refine' wr_eqI ?_) | (with_reducible refine' wr_neI ?_) | (with_reducible refine' wr_lt ?_) | (with_reducible refine' wr_le ?_) | (with_reducible refine' wr_gt ?_) | (with_reducible refine' wr_ge ?_)
  | ((with_reducible refine' isn0 ?hisn ?_); (case hisn => rfl)) | ((with_reducible refine' isn1 ?hisn ?_); (case hisn => rfl)) | ((with_reducible refine' ntn0 ?hisn ?_); (case hisn => rfl)) | ((with_reducible refine' ntn1 ?hisn ?_); (case hisn => rfl))
  | (with_reducible refine' wr_isN ?_) | (with_reducible refine' wr_notN ?_) | (with_reducible refine' wr_eqS ?_)
  | (with_reducible refine' d0n ?_) | (with_reducible refine' d1n ?_) | (with_reducible refine' d0 rfl ?_) | (with_reducible refine' d1 rfl ?_) | (with_reducible refine' bl_intro ?_) | (with_reducible refine' int_intro ?_) | ((with_reducible refine' And.intro ?hlen ?_); (case hlen => exact len_le rfl); try (with_reducible intro _))
  | (walk_at "ix")
  | ((with_reducible refine' wr_ixL ?hm ?ha ?_); (case hm => walk_at "at"); (case ha => rfl))
  | (with_reducible refine' we_fldP ?_) | (walk_at "fl")
  | (with_reducible refine' we_tup ?_) | (with_reducible refine' we_lst ?_)
  | (with_reducible refine' wa_nil ?_) | (with_reducible refine' wa_cons ?_)
  | (with_reducible refine' we_non ?_) | (with_reducible refine' we_bl ?_) | (with_reducible refine' we_str ?_) | (with_reducible refine' we_ty ?_)
  | (with_reducible refine' we_cb ?_) | (with_reducible refine' wc_lenI ?_) | (with_reducible refine' wc_lenT ?_) | ((with_reducible refine' wc_lenL ?hat ?_); (case hat => walk_at "at"))
  | (with_reducible refine' wc_tupT ?_) | ((with_reducible refine' wc_tupL ?hat ?_); (case hat => walk_at "at"))
  | (with_reducible refine' wc_listI (fun _ => ?_)) | (with_reducible refine' wc_listT (fun _ => ?_)) | ((with_reducible refine' wc_listL ?hat (fun _ => ?_)); (case hat => walk_at "at"))
  | (with_reducible refine' wt_test ?_) | (with_reducible refine' wt_B ?_) | (with_reducible refine' wt_and ?_) | (with_reducible refine' wt_or ?_) | (with_reducible refine' wt_not ?_) | (with_reducible refine' wt_yes ?_)
  | (with_reducible refine' we_chain ?_) | (with_reducible refine' we_orV ?_) | (with_reducible refine' we_andV ?_) | (with_reducible refine' we_din ?_) | (with_reducible refine' we_neg ?_)
  | (with_reducible refine' we_sl ?_) | (with_reducible refine' wo_no ?_) | (with_reducible refine' wo_part ?_)
  | (with_reducible refine' we_meth ?_) | ((with_reducible refine' tk_intro ?htk ?_); (case htk => decide +kernel)) | (with_reducible refine' we_call ?_)
  | (with_reducible refine' we_app ?_) | (with_reducible refine' we_pop0 ?_)
  | (with_reducible refine' ws_seqA ?_) | (with_reducible refine' ws_seqD ?_) | (with_reducible refine' ws_ret ?_) | (with_reducible refine' ws_asgN ?_) | (with_reducible refine' ws_asg ?_) | (with_reducible refine' ws_drop ?_) | (with_reducible refine' ws_nx ?_)
  | (with_reducible refine' ws_seqG ?_)
  | (with_reducible refine' wg_name ?_) | (with_reducible refine' wg_tup rfl ?_) | (with_reducible refine' wg_row ?_) | (with_reducible refine' wg_mv ?_) | (with_reducible refine' wgs_cons ?_) | (with_reducible refine' wgs_nil ?_))
local macro_rules | `(tactic| walk_at "w") => `(tactic| first | (walk_at "v") | (with_reducible refine' ws_seqI ?_) | (with_reducible refine' ws_seqJ ?_) | (with_reducible refine' ws_if ?_))
local macro_rules | `(tactic| walk_at "W") => `(tactic| repeat walk_at "w")
local macro_rules | `(tactic| walk_at "V") => `(tactic| repeat walk_at "v")
local macro_rules | `(tactic| walk_at "sp") => `(tactic| repeat first | exact Split.nil | refine' Split.take ?_ | refine' Split.leave ?_)
section
variable {P : Program} {w : World} {K : PySem.W.Frag} {mg : Str → Option Value} {base : Heap}
def sLawWorld : List D → Mm → (D → Mm → Prop) → Prop := fun ds F k => ∃ (pc : Addr) (cs : List Int), ds = [.obj pc] ∧ F = [(pc, cs.map D.int)] ∧ 118 ≤ cs.length ∧
  ∀ (cs' : List Int) (S L : Int) (steps : List Stp) (rows : List Row) (st : Int) (pile dsc : List Int) (way ring : List Mv) (ps pr pw p : Addr), cs.length ≤ cs'.length + 118 → Worlds S L steps rows st pile dsc way ring →
    k (.obj p) (wM pc ps pr pw cs' steps rows S L ++ [(p, [.obj pw, cgD st pile, tupI dsc, .tup (way.map mvD), .tup (ring.map mvD)])])
theorem scLawWorld : FnScope ["_law_cells", "_law_number", "_law_world_here", "_law_count", "_law_heads_here", "_law_pile", "_law_descent", "_law_k", "_law_depth", "_law_configuration", "_law_moves", "_law_way", "_law_around", "_law_ring"] ["_law_cells"] K69.dLawWorld.scope := ⟨rfl, rfl, rfl, by decide +kernel, rfl, by decide +kernel, by decide +kernel⟩
theorem ok_world (T : Txt K mg) (oLawTake : Ok1 P w K mg base K69.dLawTake 3 ["_law_cells", "_law_world_here", "_law_state", "_law_letter", "_law_goal", "_law_depth"] (spOf (sTake 3))) (oLawHeads : Ok1 P w K mg base K69.dLawHeads 1 ["_law_cells", "_law_world_here", "_law_count"] (spOf sLawHeads)) (oLawMove : Ok1 P w K mg base K69.dLawMove 4 ["_law_cells", "_law_world_here", "_law_head", "_law_after"] (spOf sLawMove)) :
    Ok1 P w K mg base K69.dLawWorld 5 ["_law_cells"] (spOf sLawWorld) := by
  refine mk_okG (N := ["_law_cells", "_law_number", "_law_world_here", "_law_count", "_law_heads_here", "_law_pile", "_law_descent", "_law_k", "_law_depth", "_law_configuration", "_law_moves", "_law_way", "_law_around", "_law_ring"]) (T.c.def_ 17 (d := K69.dLawWorld) rfl) scLawWorld rfl (fun _ _ _ _ _ _ us hl => match us, hl with | [_], _ => rfl) ?_ (fun cdv A outer s H E hr => ⟨_, (pss_cons (ps_set (i := 1) scLawWorld.nd rfl (by first | exact Or.inl rfl | exact Or.inr rfl) (pe_bm PySem.F.plainAttrs_list PySem.F.slot_list_pop PySem.F.type_list_pop mt_popAt (pv 0) (pa_cons pe_int pa_nil)))
  (pss_cons (ps_set (i := 2) scLawWorld.nd rfl (by first | exact Or.inl rfl | exact Or.inr rfl) (pe_lst (pa_cons (pe_op op_addX (pe_op op_mod (pv 1) pe_int) pe_int) (pa_cons (pe_op op_addX (pe_op op_mod (pe_op op_fdiv (pv 1) pe_int) pe_int) pe_int) (pa_cons (pe_lst pa_nil) (pa_cons (pe_lst pa_nil) pa_nil))))))
  (pss_cons (ps_set (i := 3) scLawWorld.nd rfl (by first | exact Or.inl rfl | exact Or.inr rfl) (pe_op op_mod (pe_op op_fdiv (pv 1) pe_int) pe_int))
  (pss_cons (ps_set (i := 4) scLawWorld.nd rfl (by first | exact Or.inl rfl | exact Or.inr rfl) (pe_fn oLawHeads rfl (hr.mono (by decide)) rfl (T.glo 9) (pa_cons (pv 0) (pa_cons (pv 2) (pa_cons (pe_op op_addX (pv 3) pe_int) pa_nil)))))
  (pss_cons (ps_set (i := 5) scLawWorld.nd rfl (by first | exact Or.inl rfl | exact Or.inr rfl) (pe_lst pa_nil))
  (pss_cons (ps_set (i := 6) scLawWorld.nd rfl (by first | exact Or.inl rfl | exact Or.inr rfl) (pe_lst pa_nil))
  (pss_cons (ps_for PassesOwn.never rfl (pi_range1 (by rfl) (T.free 56) (pa_cons (pv 3) pa_nil)) (pg_name (i := 7) scLawWorld.nd rfl (by first | exact Or.inl rfl | exact Or.inr rfl)) (pss_cons (ps_set (i := 8) scLawWorld.nd rfl (by first | exact Or.inl rfl | exact Or.inr rfl) (pe_op op_mod (pe_bm PySem.F.plainAttrs_list PySem.F.slot_list_pop PySem.F.type_list_pop mt_popAt (pv 0) (pa_cons pe_int pa_nil)) pe_int))
  (pss_cons (ps_expr (pe_bm PySem.F.plainAttrs_list PySem.F.slot_list_append PySem.F.type_list_append mt_append (pv 6) (pa_cons (pe_fn oLawTake rfl (hr.mono (by decide)) rfl (T.glo 7) (pa_cons (pv 0) (pa_cons (pv 2) (pa_cons (pe_ix ix_seq (pe_ix ix_seq (pv 4) (pv 7) (fun _ _ => rfl)) pe_int (fun _ _ => rfl)) (pa_cons (pe_ix ix_seq (pe_ix ix_seq (pv 4) (pv 7) (fun _ _ => rfl)) pe_int (fun _ _ => rfl)) (pa_cons (pe_ix ix_seq (pe_ix ix_seq (pv 4) (pe_op op_addX (pv 7) pe_int) (fun _ _ => rfl)) pe_int (fun _ _ => rfl)) (pa_cons (pv 8) pa_nil))))))) pa_nil)))
  (pss_one (ps_expr (pe_bm PySem.F.plainAttrs_list PySem.F.slot_list_append PySem.F.type_list_append mt_append (pv 5) (pa_cons (pe_ix ix_seq (pe_ix ix_seq (pv 4) (pv 7) (fun _ _ => rfl)) pe_int (fun _ _ => rfl)) pa_nil)))))))
  (pss_cons (ps_set (i := 9) scLawWorld.nd rfl (by first | exact Or.inl rfl | exact Or.inr rfl) (pe_tup (pa_cons (pe_ix ix_seq (pe_ix ix_seq (pv 4) pe_int (fun _ _ => rfl)) pe_int (fun _ _ => rfl)) (pa_cons (pe_callTy call_tupX (by rfl) (T.free 55) (by decide +kernel) (pa_cons (pe_op op_addX (pv 5) (pe_lst (pa_cons (pe_ix ix_seq (pe_ix ix_seq (pv 4) (pv 3) (fun _ _ => rfl)) pe_int (fun _ _ => rfl)) pa_nil))) pa_nil)) pa_nil))))
  (pss_cons (ps_set (i := 10) scLawWorld.nd rfl (by first | exact Or.inl rfl | exact Or.inr rfl) (pe_op op_addX (pe_lst (pa_cons (pe_ix ix_seq (pv 4) (pv 3) (fun _ _ => rfl)) pa_nil)) (pe_fn oLawHeads rfl (hr.mono (by decide)) rfl (T.glo 9) (pa_cons (pv 0) (pa_cons (pv 2) (pa_cons (pe_op op_mod (pe_op op_fdiv (pv 1) pe_int) pe_int) pa_nil))))))
  (pss_cons (ps_setLc (i := 11) (own := [("_law_k", 7)]) (g := gName 7) rfl scLawWorld.nd rfl rfl (sw_true rfl rfl rfl (by decide +kernel)) (pi_range1 (by rfl) (T.free 56) (pa_cons (pe_op op_sub (pe_callB call_lenX (by rfl) (T.free 53) (by decide +kernel) (pa_cons (pv 10) pa_nil)) pe_int) pa_nil)) (blkOk_by (own := [("_law_k", 7)]) (N := ["_law_cells", "_law_number", "_law_world_here", "_law_count", "_law_heads_here", "_law_pile", "_law_descent", "_law_k", "_law_depth", "_law_configuration", "_law_moves", "_law_way", "_law_around", "_law_ring"]) (sc := K69.dLawWorld.scope) (by decide +kernel)) (fun _ _ _ _ _ => pg_name (i := 7) scLawWorld.nd rfl (Or.inl rfl)) (fun _ _ _ _ _ => pts_nil) (fun _ _ _ _ _ => pe_fn oLawMove rfl hr rfl (T.glo 8) (pa_cons (pv 0) (pa_cons (pv 2) (pa_cons (pe_ix (ix_K K) (pv 10) (pv 7) (fun _ _ => rfl)) (pa_cons (pe_ix (ix_K K) (pv 10) (pe_op (op_addK K) (pv 7) pe_int) (fun _ _ => rfl)) pa_nil))))))
  (pss_cons (ps_set (i := 12) scLawWorld.nd rfl (by first | exact Or.inl rfl | exact Or.inr rfl) (pe_op op_addX (pe_lst (pa_cons (pe_ix ix_seq (pv 10) (pe_op op_sub (pe_callB call_lenX (by rfl) (T.free 53) (by decide +kernel) (pa_cons (pv 10) pa_nil)) pe_int) (fun _ _ => rfl)) pa_nil)) (pe_fn oLawHeads rfl (hr.mono (by decide)) rfl (T.glo 9) (pa_cons (pv 0) (pa_cons (pv 2) (pa_cons (pe_op op_mod (pe_op op_fdiv (pv 1) pe_int) pe_int) pa_nil))))))
  (pss_cons (ps_expr (pe_bm PySem.F.plainAttrs_list PySem.F.slot_list_append PySem.F.type_list_append mt_append (pv 12) (pa_cons (pe_ix ix_seq (pv 12) pe_int (fun _ _ => rfl)) pa_nil)))
  (pss_cons (ps_setLc (i := 13) (own := [("_law_k", 7)]) (g := gName 7) rfl scLawWorld.nd rfl rfl (sw_true rfl rfl rfl (by decide +kernel)) (pi_range1 (by rfl) (T.free 56) (pa_cons (pe_op op_sub (pe_callB call_lenX (by rfl) (T.free 53) (by decide +kernel) (pa_cons (pv 12) pa_nil)) pe_int) pa_nil)) (blkOk_by (own := [("_law_k", 7)]) (N := ["_law_cells", "_law_number", "_law_world_here", "_law_count", "_law_heads_here", "_law_pile", "_law_descent", "_law_k", "_law_depth", "_law_configuration", "_law_moves", "_law_way", "_law_around", "_law_ring"]) (sc := K69.dLawWorld.scope) (by decide +kernel)) (fun _ _ _ _ _ => pg_name (i := 7) scLawWorld.nd rfl (Or.inl rfl)) (fun _ _ _ _ _ => pts_nil) (fun _ _ _ _ _ => pe_fn oLawMove rfl hr rfl (T.glo 8) (pa_cons (pv 0) (pa_cons (pv 2) (pa_cons (pe_ix (ix_K K) (pv 12) (pv 7) (fun _ _ => rfl)) (pa_cons (pe_ix (ix_K K) (pv 12) (pe_op (op_addK K) (pv 7) pe_int) (fun _ _ => rfl)) pa_nil))))))
  (pss_one (ps_ret (pe_lst (pa_cons (pv 2) (pa_cons (pv 9) (pa_cons (pe_callTy call_tupX (by rfl) (T.free 55) (by decide +kernel) (pa_cons (pv 6) pa_nil)) (pa_cons (pe_callTy call_tupX (by rfl) (T.free 55) (by decide +kernel) (pa_cons (pv 11) pa_nil)) (pa_cons (pe_callTy call_tupX (by rfl) (T.free 55) (by decide +kernel) (pa_cons (pv 13) pa_nil)) pa_nil))))))))))))))))))))), fun ds F k Γ hs hw => ?_⟩)
  · rintro _ _ _ ⟨_, _, rfl, _⟩
    rfl
  · obtain ⟨pc, cs, rfl, rfl, hcs, hk⟩ := hs
    change WS _ _ _ [_, _, _, _, _, _, _, _, _, _, _, _, _, _] _; dsimp only [cxOf, Cx.nox, Cx.wish]
    obtain ⟨c1, cs, rfl⟩ : ∃ c r, cs = c :: r := by
      cases cs with
      | nil => exact absurd hcs (by simp)
      | cons c r => exact ⟨c, r, rfl⟩
    have hcs0 : 118 ≤ cs.length + 1 := hcs
    have hlen : (c1 :: cs).length = cs.length + 1 := rfl
    have zz : ∀ {a : Nat}, a ≤ 4000 → a < sizeLine := fun {a} h => Nat.lt_of_le_of_lt h (by decide)
    walk_at "W"
    refine ⟨_, 0, _, _, rfl, rfl, ?_⟩
    walk_at "W"
    rename_i ps pr pw
    obtain ⟨S, eS⟩ : ∃ S, S = c1 % 3 + 1 := ⟨_, rfl⟩
    obtain ⟨L, eL⟩ : ∃ S, S = c1 / 3 % 3 + 1 := ⟨_, rfl⟩
    obtain ⟨n, en⟩ : ∃ n : Nat, c1 / 9 % 3 = n := ⟨(c1 / 9 % 3).toNat, by omega⟩
    obtain ⟨n2, en2⟩ : ∃ n : Nat, c1 / 27 % 3 = n := ⟨(c1 / 27 % 3).toNat, by omega⟩
    obtain ⟨n3, en3⟩ : ∃ n : Nat, c1 / 81 % 3 = n := ⟨(c1 / 81 % 3).toNat, by omega⟩
    rw [← eS, ← eL, en]
    have hS1 : 1 ≤ S ∧ S ≤ 3 := by omega
    have hL1 : 1 ≤ L ∧ L ≤ 3 := by omega
    refine ⟨_, [], Split.all _, pc, ps, pr, pw, cs, [], [], S, L, _, rfl, rfl, by omega, by omega, by omega, by omega, by omega, fun cs1 hs1 p1 hc1 hl1 hin1 => ?_⟩
    unfold wM
    walk_at "W"
    rename_i p2 p3
    refine ws_pick [4, 5, 6, 0, 1, 2, 3] (by decide) ?_
    refine ws_seq (ws_forR (fun i env M => ∃ (cs' : List Int) (s' : List Stp) (r' : List Row) (dsc : List Int) (b c : Option D), M = [(p1, hs1.map hdD), (p2, ((hs1.take i).map (·.2)).map D.int), (p3, dsc.map D.int)] ++ wM pc ps pr pw cs' s' r' S L ∧
      env = [some (.obj pc), some (.int c1), some (.obj pw), some (.int n), some (.obj p1), some (.obj p2), some (.obj p3), b, c, none, none, none, none, none] ∧ cs1.length ≤ cs'.length + 15 * i ∧ Grew S L [] [] (7 * i) (7 * i) (3 * i) s' r' ∧ DescOk s' r' dsc (hs1.take (i + 1)) ∧ dsc.length = i) ?_)
    walk_at "W"
    refine ⟨_, rfl, by omega, by omega, ⟨cs1, [], [], [], none, none, rfl, rfl, by omega, Grew.refl, ?_, rfl⟩, ?_, ?_⟩
    · cases hs1 with
      | nil => exact absurd hl1 (by simp; omega)
      | cons a r => exact trivial
    · rintro i env M hi ⟨cs', s', r', dsc, b, c, rfl, rfl, hc', gr, dk, dl⟩
      have hi : i < n := by omega
      obtain ⟨ha, hha⟩ := get_lt (xs := hs1) (i := i) (by omega)
      obtain ⟨hb, hhb⟩ := get_lt (xs := hs1) (i := i + 1) (by omega)
      have hain := hin1 ha (List.mem_of_getElem? hha)
      have hbin := hin1 hb (List.mem_of_getElem? hhb)
      obtain ⟨x, cs', rfl⟩ : ∃ c r, cs' = c :: r := by
        cases cs' with
        | nil => exact absurd hc' (by simp; omega)
        | cons c r => exact ⟨c, r, rfl⟩
      have hc2 : cs1.length ≤ cs'.length + 1 + 15 * i := hc'
      obtain ⟨d, hd⟩ : ∃ d : Nat, x % 3 = d := ⟨(x % 3).toNat, by omega⟩
      have p16 : 2 ^ (d + 2) ≤ 16 := Nat.pow_le_pow_right (n := 2) (by decide) (by omega : d + 2 ≤ 4)
      have gl := gr.len
      have gl1 : s'.length ≤ 7 * i := by simpa using gl.1
      have gl2 : r'.length ≤ 7 * i := by simpa using gl.2
      walk_at "W"
      refine ⟨_, 3, _, _, rfl, rfl, ?_⟩
      walk_at "W"
      refine ⟨p3, rfl, ⟨2, _, rfl⟩, ?_⟩
      walk_at "W"
      refine wr_ixL at0 (atI_nat rfl hha) ?_
      walk_at "W"
      refine wr_ixL at0 (atI_nat rfl hha) ?_
      walk_at "W"
      refine wr_ixL at0 (atI_nat (by omega) hhb) ?_
      walk_at "W"
      rw [hd]
      refine ⟨_, _, .leave (.leave (.leave (Split.all _))), pc, ps, pr, pw, cs', s', r', S, L, _, _, hb.1, d, by omega, by omega, rfl, rfl, by omega, by omega, hain.1, hain.2.1, hbin.1, hbin.2.1, hain.2.2.1, hain.2.2.2, by omega, by omega, by omega, fun cs2 s2 r2 hcc hll tk of => ?_⟩
      walk_at "W"
      refine ⟨2, _, rfl, zz (by rw [List.length_map]; omega), ?_⟩
      walk_at "W"
      refine ⟨p2, rfl, ⟨1, _, rfl⟩, ?_⟩
      walk_at "W"
      refine wr_ixL at0 (atI_nat rfl hha) ?_
      walk_at "W"
      refine ⟨1, _, rfl, zz (by rw [List.length_map, List.length_map]; exact Nat.le_trans (List.length_take_le _ _) (by omega)), ?_⟩
      refine ⟨cs2, s2, r2, dsc ++ [(r2.length : Int) - 1], _, _, ?_, rfl, by omega, (gr.trans (tk.grew (by omega))).mono (by omega) (by omega) (by omega), ?_, by rw [List.length_append, dl]; rfl⟩
      · show [(p1, hs1.map hdD), (p2, ((hs1.take i).map (·.2)).map D.int ++ [D.int ha.2]), (p3, dsc.map D.int ++ [D.int ((r2.length : Int) - 1)])] ++ wM pc ps pr pw cs2 s2 r2 S L = _
        rw [take_succ' hha, List.map_append, List.map_append, List.map_append] <;> rfl
      · obtain ⟨⟨s3, e3⟩, ⟨r3, e4⟩⟩ := (tk.grew (by omega : d ≤ 2)).apps
        rw [take_succ' hhb, take_succ' hha, List.append_assoc]
        rw [take_succ' hha] at dk
        refine DescOk.snoc ?_ (of.le (by omega))
        rw [e3, e4]
        exact dk.app
    · rintro env M ⟨cs2, s2, r2, dsc, b, c, rfl, rfl, hc2, gr, dk, dl⟩
      have hn1 : ((n : Int)).toNat = n := rfl
      rw [hn1] at hc2 gr dk dl
      have gl := gr.len
      have gl1 : s2.length ≤ 7 * n := by simpa using gl.1
      have gl2 : r2.length ≤ 7 * n := by simpa using gl.2
      obtain ⟨h0, hh0⟩ := get_lt (xs := hs1) (i := 0) (by omega)
      obtain ⟨hl, hhl⟩ := get_lt (xs := hs1) (i := n) (by omega)
      rw [hn1]
      walk_at "W"
      refine wr_ixL at0 (atI_nat rfl hh0) ?_
      walk_at "W"
      refine wr_ixL at0 (atI_nat rfl hhl) ?_
      walk_at "W"
      refine wr_catL at1 at7 (by rw [List.length_map, List.length_map]; exact Nat.le_of_lt (zz (by have := List.length_take_le n hs1; show _ + 1 ≤ _; omega))) (fun r => ?_)
      have eP : D.tup ((List.map (fun x => x.2) (List.take n hs1)).map D.int ++ [D.int hl.2]) = tupI (((hs1.take n) ++ [hl]).map (·.2)) := by
        rw [List.map_append]
        show _ = D.tup ((_ ++ [hl.2]).map D.int)
        rw [List.map_append] <;> rfl
      walk_at "W"
      refine wc_tupL (a := 8) rfl ?_
      rw [eP]
      walk_at "W"
      refine wr_ixL at0 (atI_nat rfl hhl) ?_
      walk_at "W"
      rw [en2]
      refine ⟨_, _, .leave (.leave (.leave (.take (.take (.take (.take (.leave (.leave (.leave .nil))))))))), pc, ps, pr, pw, cs2, s2, r2, S, L, _, rfl, rfl, by omega, by omega, by omega, by omega, by omega, fun cs3 hs3 p4 hc3 hl3 hin3 => ?_⟩
      refine wr_catL (a := 5) (b := 10) rfl rfl (by rw [List.length_map]; exact Nat.le_of_lt (zz (by show 1 + _ ≤ _; omega))) (fun pm => ?_)
      have em : [hdD hl] ++ hs3.map hdD = (hl :: hs3).map hdD := rfl
      rw [em]
      walk_at "W"
      refine we_pick [2, 11, 6, 7, 8, 9] (by decide) ?_
      refine we_lcR (fun i acc M' => ∃ (cs' : List Int) (s' : List Stp) (r' : List Row) (way : List Mv), acc = way.map mvD ∧ M' = [(p3, dsc.map D.int), (pm, (hl :: hs3).map hdD)] ++ wM pc ps pr pw cs' s' r' S L ∧
        cs3.length ≤ cs'.length + 16 * i ∧ Grew S L s2 r2 (8 * i) (7 * i) (3 * i) s' r' ∧ PathOk s' r' way ((hl :: hs3).take (i + 1)) ∧ way.length = i) ?_
      have hn3 : (hl :: hs3).length = n2 + 1 := by show _ + 1 = _; omega
      have hin3' : ∀ h ∈ hl :: hs3, HdIn S L h := fun h z => by
        rcases List.mem_cons.mp z with e | z
        · rw [e]; exact hin1 hl (List.mem_of_getElem? hhl)
        · exact hin3 h z
      have e3 : (((hl :: hs3).map hdD).length : Int) - 1 = n2 := by rw [List.length_map, hn3]; omega
      walk_at "W"
      rw [e3]
      refine ⟨_, rfl, by omega, by omega, ⟨cs3, s2, r2, [], rfl, rfl, by omega, Grew.refl, trivial, rfl⟩, ?_, ?_⟩
      · rintro i acc M' p hi ⟨cs', s', r', way, rfl, rfl, hc', gr', pk, wl⟩
        have hi : i < n2 := by omega
        obtain ⟨ha, hha⟩ := get_lt (xs := hl :: hs3) (i := i) (by omega)
        obtain ⟨hb, hhb⟩ := get_lt (xs := hl :: hs3) (i := i + 1) (by omega)
        have gl' := gr'.len
        unfold Turn1
        refine wt_yes ⟨fun _ => ?_, fun z => nomatch z⟩
        refine we_pickE ?_
        walk_at "W"
        refine wr_ixL at1 (atI_nat rfl hha) ?_
        walk_at "W"
        refine wr_ixL at1 (atI_nat (by omega) hhb) ?_
        walk_at "W"
        refine ⟨_, _, .leave (.leave (.take (.take (.take (.take (.leave .nil)))))), pc, ps, pr, pw, cs', s', r', S, L, ha, hb, rfl, rfl, by omega, by omega, hin3' _ (List.mem_of_getElem? hha), hin3' _ (List.mem_of_getElem? hhb), by omega, by omega, by omega, fun cs4 s4 r4 m hc4 gr4 mo => ?_⟩
        refine ⟨[0, 1, 3, 4, 5, 6, 2], by decide, [(p3, dsc.map D.int), (pm, (hl :: hs3).map hdD)] ++ wM pc ps pr pw cs4 s4 r4 S L, List.Sublist.refl _, zz (by rw [List.length_map]; omega), cs4, s4, r4, way ++ [m], by rw [List.map_append] <;> rfl, rfl, by omega, gr'.trans gr4 |>.mono (by omega) (by omega) (by omega), ?_, by rw [List.length_append, wl]; rfl⟩
        obtain ⟨⟨s5, e4⟩, ⟨r5, e5⟩⟩ := gr4.apps
        rw [take_succ' hhb, take_succ' hha, List.append_assoc]
        rw [take_succ' hha] at pk
        refine PathOk.snoc ?_ mo
        rw [e4, e5]
        exact pk.app
      · rintro acc M' p5 ⟨cs4, s4, r4, way, rfl, rfl, hc4, gr4, pk, wl⟩
        have hn2 : ((n2 : Int)).toNat = n2 := rfl
        rw [hn2] at hc4 gr4 pk wl
        have gl4 := gr4.len
        obtain ⟨ha, hha⟩ := get_lt (xs := hl :: hs3) (i := n2) (by omega)
        have hain := hin3' ha (List.mem_of_getElem? hha)
        walk_at "W"
        rw [e3]
        refine wr_ixL at1 (atI_nat rfl hha) ?_
        walk_at "W"
        rw [en3]
        refine ⟨_, _, .leave (.leave (.take (.take (.take (.take (.leave (.leave .nil))))))), pc, ps, pr, pw, cs4, s4, r4, S, L, _, rfl, rfl, by omega, by omega, by omega, by omega, by omega, fun cs5 hs5 p6 hc5 hl5 hin5 => ?_⟩
        refine wr_catL (a := 3) (b := 8) rfl rfl (by rw [List.length_map]; exact Nat.le_of_lt (zz (by show 1 + _ ≤ _; omega))) (fun pa => ?_)
        have em5 : [hdD ha] ++ hs5.map hdD = (ha :: hs5).map hdD := rfl
        rw [em5]
        walk_at "W"
        refine ⟨pa, rfl, ⟨9, _, rfl⟩, ?_⟩
        walk_at "W"
        refine wr_ixL (a := 9) rfl (atI_nat (j := 0) (x := ha) rfl rfl) ?_
        walk_at "W"
        refine ⟨9, _, rfl, zz (by rw [List.length_map]; show _ + 1 ≤ _; omega), ?_⟩
        have em6 : (ha :: hs5).map hdD ++ [hdD ha] = (ha :: (hs5 ++ [ha])).map hdD := by
          show hdD ha :: (hs5.map hdD ++ [hdD ha]) = hdD ha :: (hs5 ++ [ha]).map hdD
          rw [List.map_append] <;> rfl
        rw [em6]
        walk_at "W"
        refine we_pick [0, 2, 9, 4, 5, 6, 7] (by decide) ?_
        refine we_lcR (fun i acc M' => ∃ (cs' : List Int) (s' : List Stp) (r' : List Row) (ring : List Mv), acc = ring.map mvD ∧ M' = [(p3, dsc.map D.int), (p5, way.map mvD), (pa, (ha :: (hs5 ++ [ha])).map hdD)] ++ wM pc ps pr pw cs' s' r' S L ∧
          cs5.length ≤ cs'.length + 16 * i ∧ Grew S L s4 r4 (8 * i) (7 * i) (3 * i) s' r' ∧ PathOk s' r' ring ((ha :: (hs5 ++ [ha])).take (i + 1)) ∧ ring.length = i) ?_
        have hn5 : (ha :: (hs5 ++ [ha])).length = n3 + 2 := by
          rw [List.length_cons, List.length_append]
          show _ + 1 + 1 = _
          omega
        have hin5' : ∀ h ∈ ha :: (hs5 ++ [ha]), HdIn S L h := fun h z => by
          rcases List.mem_cons.mp z with e | z
          · rw [e]; exact hain
          · rcases List.mem_append.mp z with z | z
            · exact hin5 h z
            · rw [List.mem_singleton.mp z]; exact hain
        have e5 : (((ha :: (hs5 ++ [ha])).map hdD).length : Int) - 1 = ((n3 + 1 : Nat) : Int) := by rw [List.length_map, hn5]; omega
        walk_at "W"
        rw [e5]
        refine ⟨_, rfl, by omega, by omega, ⟨cs5, s4, r4, [], rfl, rfl, by omega, Grew.refl, trivial, rfl⟩, ?_, ?_⟩
        · rintro i acc M' p hi ⟨cs', s', r', ring, rfl, rfl, hc', gr', pk', wl'⟩
          have hi : i < n3 + 1 := by omega
          obtain ⟨hA, hhA⟩ := get_lt (xs := ha :: (hs5 ++ [ha])) (i := i) (by omega)
          obtain ⟨hb, hhb⟩ := get_lt (xs := ha :: (hs5 ++ [ha])) (i := i + 1) (by omega)
          have gl' := gr'.len
          unfold Turn1
          refine wt_yes ⟨fun _ => ?_, fun z => nomatch z⟩
          refine we_pickE ?_
          walk_at "W"
          refine wr_ixL at2 (atI_nat rfl hhA) ?_
          walk_at "W"
          refine wr_ixL at2 (atI_nat (by omega) hhb) ?_
          walk_at "W"
          refine ⟨_, _, .leave (.leave (.leave (.take (.take (.take (.take (.leave .nil))))))), pc, ps, pr, pw, cs', s', r', S, L, hA, hb, rfl, rfl, by omega, by omega, hin5' _ (List.mem_of_getElem? hhA), hin5' _ (List.mem_of_getElem? hhb), by omega, by omega, by omega, fun cs6 s6 r6 m hc6 gr6 mo => ?_⟩
          refine ⟨[0, 1, 2, 4, 5, 6, 7, 3], by decide, [(p3, dsc.map D.int), (p5, way.map mvD), (pa, (ha :: (hs5 ++ [ha])).map hdD)] ++ wM pc ps pr pw cs6 s6 r6 S L, List.Sublist.refl _, zz (by rw [List.length_map]; omega), cs6, s6, r6, ring ++ [m], by rw [List.map_append] <;> rfl, rfl, by omega, gr'.trans gr6 |>.mono (by omega) (by omega) (by omega), ?_, by rw [List.length_append, wl']; rfl⟩
          obtain ⟨⟨s7, e6⟩, ⟨r7, e7⟩⟩ := gr6.apps
          rw [take_succ' hhb, take_succ' hhA, List.append_assoc]
          rw [take_succ' hhA] at pk'
          refine PathOk.snoc ?_ mo
          rw [e6, e7]
          exact pk'.app
        · rintro acc M' p7 ⟨cs6, s6, r6, ring, rfl, rfl, hc6, gr6, pk6, wl6⟩
          have hn6 : (((n3 + 1 : Nat) : Int)).toNat = n3 + 1 := rfl
          rw [hn6] at hc6 gr6 pk6 wl6
          walk_at "W"
          refine ⟨_, .cons _ (.cons _ (.cons _ (.cons₂ _ (.cons₂ _ (.cons₂ _ (.cons₂ _ (.cons _ (.cons₂ _ .slnil)))))))), ?_⟩
          refine hk cs6 S L s6 r6 h0.1 (((hs1.take n) ++ [hl]).map (·.2)) dsc way ring ps pr pw _ (by omega) ⟨hS1, hL1, ((gr.trans gr4).trans gr6).mono (by omega) (by omega) (by omega), ⟨hs1.take n, hs3, hs5, hl, ha, ?_, rfl, ?_, ?_, ?_, ?_, ?_⟩, by omega, by omega, by omega⟩
          · obtain ⟨⟨s7, e6⟩, ⟨r7, e7⟩⟩ := (gr4.trans gr6).apps
            rw [← take_succ' hhl, e6, e7]
            exact dk.app
          · cases hs1 with
            | nil => cases hh0
            | cons a rest =>
              cases hh0
              cases n with
              | zero => cases hhl; rfl
              | succ n => rfl
          · obtain ⟨⟨s7, e6⟩, ⟨r7, e7⟩⟩ := gr6.apps
            rw [List.take_of_length_le (by omega)] at pk
            rw [e6, e7]
            exact pk.app
          · rw [List.getLast?_eq_getElem?, hn3]
            exact hha
          · rw [List.take_of_length_le (by omega)] at pk6
            exact pk6
          · exact Nat.le_trans (List.length_take_le _ _) (by omega)
end
end A

set_option Elab.async false
set_option linter.all false
set_option maxRecDepth 100000
set_option maxHeartbeats 8000000
namespace A
open PySem PySem.Spec PyProof.Rows L2
local macro_rules | `(tactic| walk_at "at") => `(tactic| first | exact at0 | exact at1 | exact at2 | exact at3 | exact at4 | exact at5 | exact at6 | exact at7)
local macro_rules | `(tactic| walk_at "fl") => `(tactic| first
  | (with_reducible refine' fl_laid (by assumption) ?_) | (with_reducible refine' fl_goal (by assumption) ?_) | (with_reducible refine' fl_state (by assumption) ?_) | (with_reducible refine' fl_letter (by assumption) ?_)
  | (with_reducible refine' fl_steps (by assumption) ?_) | (with_reducible refine' fl_marks (by assumption) ?_) | (with_reducible refine' fl_entries (by assumption) ?_) | (with_reducible refine' fl_weight (by assumption) ?_) | (with_reducible refine' fl_msteps (by assumption) ?_))
local macro_rules | `(tactic| walk_at "ix") => `(tactic| first
  | (with_reducible refine' ix_en0 ?_) | (with_reducible refine' ix_en1 ?_) | (with_reducible refine' ix_en2 ?_) | (with_reducible refine' ix_en3 ?_) | (with_reducible refine' ix_row0 ?_) | (with_reducible refine' ix_row1 ?_) | (with_reducible refine' ix_mv0 ?_) | (with_reducible refine' ix_mvS ?_) | (with_reducible refine' ix_mvN ?_) | (with_reducible refine' ix_mv1 ?_) | (with_reducible refine' ix_hd0 ?_) | (with_reducible refine' ix_hd1 ?_))
local macro_rules | `(tactic| walk_at "v") => `(tactic| first
  | ((with_reducible refine' we_var ?hvar ?_); (case hvar => rfl))
  | (with_reducible refine' we_int ?_)
  | (with_reducible refine' we_op ?_)
  | (with_reducible refine' wr_add ?_) | (with_reducible refine' wr_sub ?_)
  | ((with_reducible refine' wr_ixT ?hix ?_); (case hix => rfl))
  | ((with_reducible refine' wr_mod ?hmod ?_); (case hmod => first | decide | omega | assumption))
  | ((with_reducible refine' wr_div ?hdiv ?_); (case hdiv => exact ⟨by decide, by decide⟩))
  | (with_reducible refine' wr_eqI ?_) | (with_reducible refine' wr_neI ?_) | (with_reducible refine' wr_lt ?_) | (with_reducible refine' wr_le ?_) | (with_reducible refine' wr_gt ?_) | (with_reducible refine' wr_ge ?_)
  | ((with_reducible refine' isn0 ?hisn ?_); (case hisn => rfl)) | ((with_reducible refine' isn1 ?hisn ?_); (case hisn => rfl)) | ((with_reducible refine' ntn0 ?hisn ?_); (case hisn => rfl)) | ((with_reducible refine' ntn1 ?hisn ?_); (case hisn => rfl))
  | (with_reducible refine' wr_isN ?_) | (with_reducible refine' wr_notN ?_) | (with_reducible refine' wr_eqS ?_)
  | (with_reducible refine' d0n ?_) | (with_reducible refine' d1n ?_) | (with_reducible refine' d0 rfl ?_) | (with_reducible refine' d1 rfl ?_) | (with_reducible refine' bl_intro ?_) | (with_reducible refine' int_intro ?_) | ((with_reducible refine' And.intro ?hlen ?_); (case hlen => exact len_le rfl); try (with_reducible intro _))
  | (walk_at "ix")
  | ((with_reducible refine' wr_ixL ?hm ?ha ?_); (case hm => walk_at "at"); (case ha => rfl))
  | (with_reducible refine' we_fldP ?_) | (walk_at "fl")
  | (with_reducible refine' we_tup ?_) | (with_reducible refine' we_lst ?_)
  | (with_reducible refine' wa_nil ?_) | (with_reducible refine' wa_cons ?_)
  | (with_reducible refine' we_non ?_) | (with_reducible refine' we_bl ?_) | (with_reducible refine' we_str ?_) | (with_reducible refine' we_ty ?_)
  | (with_reducible refine' we_cb ?_) | (with_reducible refine' wc_lenI ?_) | (with_reducible refine' wc_lenT ?_) | ((with_reducible refine' wc_lenL ?hat ?_); (case hat => walk_at "at"))
  | (with_reducible refine' wc_tupT ?_) | ((with_reducible refine' wc_tupL ?hat ?_); (case hat => walk_at "at"))
  | (with_reducible refine' wc_listI (fun _ => ?_)) | (with_reducible refine' wc_listT (fun _ => ?_)) | ((with_reducible refine' wc_listL ?hat (fun _ => ?_)); (case hat => walk_at "at"))
  | (with_reducible refine' wt_test ?_) | (with_reducible refine' wt_B ?_) | (with_reducible refine' wt_and ?_) | (with_reducible refine' wt_or ?_) | (with_reducible refine' wt_not ?_) | (with_reducible refine' wt_yes ?_)
  | (with_reducible refine' we_chain ?_) | (with_reducible refine' we_orV ?_) | (with_reducible refine' we_andV ?_) | (with_reducible refine' we_din ?_) | (with_reducible refine' we_neg ?_)
  | (with_reducible refine' we_sl ?_) | (with_reducible refine' wo_no ?_) | (with_reducible refine' wo_part ?_)
  | (with_reducible refine' we_meth ?_) | ((with_reducible refine' tk_intro ?htk ?_); (case htk => decide +kernel)) | (with_reducible refine' we_call ?_)
  | (with_reducible refine' we_app ?_) | (with_reducible refine' we_pop0 ?_)
  | (with_reducible refine' ws_seqA ?_) | (with_reducible refine' ws_seqD ?_) | (with_reducible refine' ws_ret ?_) | (with_reducible refine' ws_asgN ?_) | (with_reducible refine' ws_asg ?_) | (with_reducible refine' ws_drop ?_) | (with_reducible refine' ws_nx ?_)
  | (with_reducible refine' ws_seqG ?_)
  | (with_reducible refine' wg_name ?_) | (with_reducible refine' wg_tup rfl ?_) | (with_reducible refine' wg_row ?_) | (with_reducible refine' wg_mv ?_) | (with_reducible refine' wgs_cons ?_) | (with_reducible refine' wgs_nil ?_))
local macro_rules | `(tactic| walk_at "w") => `(tactic| first | (walk_at "v") | (with_reducible refine' ws_seqI ?_) | (with_reducible refine' ws_seqJ ?_) | (with_reducible refine' ws_if ?_))
local macro_rules | `(tactic| walk_at "W") => `(tactic| repeat walk_at "w")
local macro_rules | `(tactic| walk_at "V") => `(tactic| repeat walk_at "v")
local macro_rules | `(tactic| walk_at "sp") => `(tactic| repeat first | exact Split.nil | refine' Split.take ?_ | refine' Split.leave ?_)
section
variable {P : Program} {w : World} {K : PySem.W.Frag} {mg : Str → Option Value} {base : Heap}
def sRowSteps (n : Nat) : List D → Mm → (D → Mm → Prop) → Prop := fun ds F k => ∃ (rows : List Row) (i : Int), n ≤ 3 ∧ ds = [.tup (rows.map rowD), .int i] ∧ F = [] ∧ Dep rows n i ∧ ∀ p, k (.obj p) [(p, (stp rows n i).map D.int)]
theorem scLawRowSteps : FnScope ["_law_rows", "_law_index", "_law_found", "_law_part"] ["_law_rows", "_law_index"] K69.dLawRowSteps.scope := ⟨rfl, rfl, rfl, by decide +kernel, rfl, by decide +kernel, by decide +kernel⟩
theorem ok_row_steps_step (T : Txt K mg) (n : Nat) (oRec : Ok1 P w K mg base K69.dLawRowSteps n ["_law_rows", "_law_index"] (spOf (sRowSteps n))) : Ok1 P w K mg base K69.dLawRowSteps (n + 1) ["_law_rows", "_law_index"] (spOf (sRowSteps (n + 1))) := by
  refine mk_ok (N := ["_law_rows", "_law_index", "_law_found", "_law_part"]) (T.c.def_ 18 (d := K69.dLawRowSteps) rfl) scLawRowSteps rfl (fun _ _ _ _ _ _ us hl => match us, hl with | [_, _], _ => rfl) ?_ (fun cdv A outer s H E hr => ⟨_, (pss_cons (ps_set (i := 2) scLawRowSteps.nd rfl (by first | exact Or.inl rfl | exact Or.inr rfl) (pe_lst (pa_cons (pe_ix ix_seq (pe_ix ix_seq (pv 0) (pv 1) (fun _ _ => rfl)) pe_int (fun _ _ => rfl)) pa_nil)))
  (pss_cons (ps_for PassesOwn.never rfl (pi_X (pi_list (pe_ix ix_seq (pe_ix ix_seq (pv 0) (pv 1) (fun _ _ => rfl)) pe_int (fun _ _ => rfl))) (pi_tup (pe_ix ix_seq (pe_ix ix_seq (pv 0) (pv 1) (fun _ _ => rfl)) pe_int (fun _ _ => rfl)))) (pg_name (i := 3) scLawRowSteps.nd rfl (by first | exact Or.inl rfl | exact Or.inr rfl)) (pss_one (ps_set (i := 2) scLawRowSteps.nd rfl (by first | exact Or.inl rfl | exact Or.inr rfl) (pe_op op_addX (pv 2) (pe_fn oRec rfl hr rfl (T.glo 11) (pa_cons (pv 0) (pa_cons (pv 3) pa_nil)))))))
  (pss_one (ps_ret (pv 2))))), fun ds F k Γ hs hw => ?_⟩)
  · rintro _ _ _ ⟨_, _, _, rfl, _⟩
    rfl
  · obtain ⟨rows, i, hn3, rfl, rfl, ⟨r, hr1, hr2, hr3⟩, hk⟩ := hs
    change WS _ _ _ [_, _, _, _] _; dsimp only [cxOf, Cx.nox, Cx.wish]
    have zz : ∀ {a : Nat}, a ≤ 4000 → a ≤ sizeLine := fun {a} h => Nat.le_trans h (by decide)
    obtain ⟨i0, i1, hget⟩ := rowAt_get hr1
    have hstp : stp rows (n + 1) i = r.1 :: r.2.flatMap (stp rows n) := by
      show (match rowAt rows i with | none => [] | some r => r.1 :: r.2.flatMap (stp rows n)) = _
      rw [hr1]
    rw [hstp] at hk
    have pwn : ∀ m, m ≤ 2 → pw2 m ≤ 3 := fun m h => by
      rcases m with _ | _ | _ | m
      · decide
      · decide
      · decide
      · omega
    have hpw := pwn n (by omega)
    walk_at "W"
    refine wr_ixT (atI_map i0 hget) ?_
    walk_at "W"
    rename_i p0
    refine ws_seq (ws_forT (fun j env M => ∃ (x : Addr) (a : Option D), M = [(x, (r.1 :: (r.2.take j).flatMap (stp rows n)).map D.int)] ∧ env = [some (.tup (rows.map rowD)), some (.int i), some (.obj x), a]) ?_)
    walk_at "W"
    refine wr_ixT (atI_map i0 hget) ?_
    walk_at "W"
    refine ⟨_, rfl, ⟨p0, none, rfl, rfl⟩, ?_, ?_⟩
    · rintro j y env M hy ⟨x, a, rfl, rfl⟩
      obtain ⟨p, hp, rfl⟩ := map_get hy
      have hj := (List.getElem?_eq_some_iff.mp hp).1
      have hd := hr3 p (List.mem_of_getElem? hp)
      have hl1 := stp_len hd
      have hl2 := flat_len (ps := r.2.take j) (f := stp rows n) (b := pw2 n) fun q hq => stp_len (hr3 q (List.mem_of_mem_take hq))
      have hl3 : (r.2.take j).length * pw2 n ≤ 2 * 3 := Nat.mul_le_mul (by rw [List.length_take]; omega) hpw
      refine wg_name (ws_pickE ?_)
      walk_at "V"
      refine ⟨[], _, Split.none _, rows, p, by omega, rfl, rfl, hd, fun q => ?_⟩
      refine wr_catL (a := 0) (b := 1) rfl rfl (by rw [List.length_map, List.length_map]; exact zz (by show _ + 1 + _ ≤ _; omega)) (fun z => ?_)
      walk_at "V"
      refine ⟨[2], by decide, z, _, ?_, rfl⟩
      show [(z, _)] = _
      rw [take_succ' hp, List.flatMap_append, ← List.map_append] <;> simp
    · rintro env M ⟨x, a, rfl, rfl⟩
      rw [List.length_map, List.take_length]
      walk_at "W"
      exact hk x
theorem ok_row_steps0 (T : Txt K mg) : Ok1 P w K mg base K69.dLawRowSteps 0 ["_law_rows", "_law_index"] (spOf (sRowSteps 0)) := by
  refine mk_never (T.c.def_ 18 (d := K69.dLawRowSteps) rfl) rfl (fun _ _ _ _ _ _ us hl => match us, hl with | [_, _], _ => rfl) (fun vs H Q E z => ?_)
  obtain ⟨ds, F, k, _, _, h, _⟩ := z
  obtain ⟨_, _, _, _, _, h, _⟩ := h
  exact h
theorem ok_row_steps (T : Txt K mg) : Ok1 P w K mg base K69.dLawRowSteps 3 ["_law_rows", "_law_index"] (spOf (sRowSteps 3)) :=
  ok_row_steps_step T 2 (ok_row_steps_step T 1 (ok_row_steps_step T 0 (ok_row_steps0 T)))
def sRingSteps : List D → Mm → (D → Mm → Prop) → Prop := fun ds F k => ∃ (rows : List Row) (ring : List Mv), ds = [.tup (rows.map rowD), .tup (ring.map mvD)] ∧ F = [] ∧ ring.length ≤ 3 ∧ (∀ m ∈ ring, DepM rows m) ∧ ∀ p, k (.obj p) [(p, (ringStp rows ring).map D.int)]
theorem scLawRingSteps : FnScope ["_law_rows", "_law_ring", "_law_found", "_law_move_here"] ["_law_rows", "_law_ring"] K69.dLawRingSteps.scope := ⟨rfl, rfl, rfl, by decide +kernel, rfl, by decide +kernel, by decide +kernel⟩
theorem ok_ring_steps (T : Txt K mg) (oLawRowSteps : Ok1 P w K mg base K69.dLawRowSteps 3 ["_law_rows", "_law_index"] (spOf (sRowSteps 3))) : Ok1 P w K mg base K69.dLawRingSteps 4 ["_law_rows", "_law_ring"] (spOf sRingSteps) := by
  refine mk_ok (N := ["_law_rows", "_law_ring", "_law_found", "_law_move_here"]) (T.c.def_ 19 (d := K69.dLawRingSteps) rfl) scLawRingSteps rfl (fun _ _ _ _ _ _ us hl => match us, hl with | [_, _], _ => rfl) ?_ (fun cdv A outer s H E hr => ⟨_, (pss_cons (ps_set (i := 2) scLawRingSteps.nd rfl (by first | exact Or.inl rfl | exact Or.inr rfl) (pe_lst pa_nil))
  (pss_cons (ps_for PassesOwn.never rfl (pi_X (pi_list (pv 1)) (pi_tup (pv 1))) (pg_name (i := 3) scLawRingSteps.nd rfl (by first | exact Or.inl rfl | exact Or.inr rfl)) (pss_cons (ps_expr (pe_bm PySem.F.plainAttrs_list PySem.F.slot_list_append PySem.F.type_list_append mt_append (pv 2) (pa_cons (pe_ix ix_seq (pv 3) pe_int (fun _ _ => rfl)) pa_nil)))
  (pss_one (ps_if (pt_cmpR op_notN (pe_ix ix_seq (pv 3) pe_int (fun _ _ => rfl)) pe_non (nomark _)) (pss_one (ps_set (i := 2) scLawRingSteps.nd rfl (by first | exact Or.inl rfl | exact Or.inr rfl) (pe_op op_addX (pv 2) (pe_fn oLawRowSteps rfl hr rfl (T.glo 11) (pa_cons (pv 0) (pa_cons (pe_ix ix_seq (pv 3) pe_int (fun _ _ => rfl)) pa_nil)))))) pss_nil))))
  (pss_one (ps_ret (pv 2))))), fun ds F k Γ hs hw => ?_⟩)
  · rintro _ _ _ ⟨_, _, rfl, _⟩
    rfl
  · obtain ⟨rows, ring, rfl, rfl, hl, hd, hk⟩ := hs
    change WS _ _ _ [_, _, _, _] _; dsimp only [cxOf, Cx.nox, Cx.wish]
    have zz : ∀ {a : Nat}, a ≤ 4000 → a < sizeLine := fun {a} h => Nat.lt_of_le_of_lt h (by decide)
    walk_at "W"
    rename_i p0
    refine ws_seq (ws_forT (fun j env M => ∃ (x : Addr) (a : Option D), M = [(x, (ringStp rows (ring.take j)).map D.int)] ∧ env = [some (.tup (rows.map rowD)), some (.tup (ring.map mvD)), some (.obj x), a]) ?_)
    walk_at "W"
    refine ⟨_, rfl, ⟨p0, none, rfl, rfl⟩, ?_, ?_⟩
    · rintro j y env M hy ⟨x, a, rfl, rfl⟩
      obtain ⟨m, hm, rfl⟩ := map_get hy
      have hj := (List.getElem?_eq_some_iff.mp hm).1
      have hdm := hd m (List.mem_of_getElem? hm)
      have hl2 := ringStp_len (ms := ring.take j) fun q hq => hd q (List.mem_of_mem_take hq)
      have hl3 : (ring.take j).length ≤ 3 := by rw [List.length_take]; omega
      have hsn : ringStp rows (ring.take (j + 1)) = ringStp rows (ring.take j) ++ mvStp rows m := by
        unfold ringStp
        rw [take_succ' hm, List.flatMap_append]
        simp
      obtain ⟨m1, m2⟩ := m
      walk_at "W"
      refine ⟨x, rfl, ⟨0, _, rfl⟩, ?_⟩
      walk_at "W"
      refine ⟨0, _, rfl, zz (by rw [List.length_map]; omega), ?_⟩
      have ea : (ringStp rows (ring.take j)).map D.int ++ [D.int m1] = (ringStp rows (ring.take j) ++ [m1]).map D.int := by rw [List.map_append] <;> rfl
      rw [ea]
      cases m2 with
      | none =>
        walk_at "W"
        refine ⟨x, _, ?_, rfl⟩
        rw [hsn] <;> rfl
      | some p =>
        have hl1 : (stp rows 3 p).length ≤ 7 := stp_len hdm
        walk_at "V"
        refine ws_pickE ?_
        walk_at "W"
        refine ⟨[], _, Split.none _, rows, p, by omega, rfl, rfl, hdm, fun q => ?_⟩
        refine wr_catL (a := 0) (b := 1) rfl rfl (by rw [List.length_map, List.length_map, List.length_append]; exact Nat.le_of_lt (zz (by show _ + 1 + _ ≤ _; omega))) (fun z => ?_)
        walk_at "V"
        refine ⟨[2], by decide, z, _, ?_, rfl⟩
        show [(z, _)] = _
        rw [hsn, ← List.map_append, List.append_assoc] <;> rfl
    · rintro env M ⟨x, a, rfl, rfl⟩
      rw [List.length_map, List.take_length]
      walk_at "W"
      exact hk x
def sTurned : List D → Mm → (D → Mm → Prop) → Prop := fun ds F k => ∃ (i s c : Int), ds = [.int i, .int s, .int c] ∧ F = [] ∧ 0 < c ∧ k (.int ((i + s) % c)) []
theorem scLawTurned : FnScope ["_law_index", "_law_shift", "_law_count"] ["_law_index", "_law_shift", "_law_count"] K69.dLawTurned.scope := ⟨rfl, rfl, rfl, by decide +kernel, rfl, by decide +kernel, by decide +kernel⟩
theorem ok_turned (T : Txt K mg) : Ok1 P w K mg base K69.dLawTurned 1 ["_law_index", "_law_shift", "_law_count"] (spOf sTurned) := by
  refine mk_ok (N := ["_law_index", "_law_shift", "_law_count"]) (T.c.def_ 20 (d := K69.dLawTurned) rfl) scLawTurned rfl (fun _ _ _ _ _ _ us hl => match us, hl with | [_, _, _], _ => rfl) ?_ (fun cdv A outer s H E hr => ⟨_, (pss_one (ps_ret (pe_op op_mod (pe_op op_addX (pv 0) (pv 1)) (pv 2)))), fun ds F k Γ hs hw => ?_⟩)
  · rintro _ _ _ ⟨_, _, _, rfl, _⟩
    rfl
  · obtain ⟨i, s, c, rfl, rfl, hc, hk⟩ := hs
    change WS _ _ _ [_, _, _] _; dsimp only [cxOf, Cx.nox, Cx.wish]
    walk_at "W"
    exact hk
def sFarSteps : List D → Mm → (D → Mm → Prop) → Prop := fun ds F k => ∃ (ps : Addr) (steps : List Stp) (m n : Int), ds = [.obj ps, .int m, .int n] ∧ F = [(ps, steps.map lsD)] ∧ steps.length ≤ 1000 ∧ 1 ≤ m ∧ m ≤ 100 ∧ 1 ≤ n ∧ n ≤ 100 ∧ (∀ s ∈ steps, s.laid.length ≤ 2) ∧ ∀ p, k (.obj p) [(p, (steps.map (far m n)).map lsD)]
theorem scLawFarSteps : FnScope ["_law_steps", "_law_m", "_law_n", "_law_found", "_law_step", "_law_laid", "_law_letter"] ["_law_steps", "_law_m", "_law_n"] K69.dLawFarSteps.scope := ⟨rfl, rfl, rfl, by decide +kernel, rfl, by decide +kernel, by decide +kernel⟩
theorem ok_far_steps (T : Txt K mg) : Ok1 P w K mg base K69.dLawFarSteps 1 ["_law_steps", "_law_m", "_law_n"] (spOf sFarSteps) := by
  refine mk_okG (N := ["_law_steps", "_law_m", "_law_n", "_law_found", "_law_step", "_law_laid", "_law_letter"]) (T.c.def_ 21 (d := K69.dLawFarSteps) rfl) scLawFarSteps rfl (fun _ _ _ _ _ _ us hl => match us, hl with | [_, _, _], _ => rfl) ?_ (fun cdv A outer s H E hr => ⟨_, (pss_cons (ps_set (i := 3) scLawFarSteps.nd rfl (by first | exact Or.inl rfl | exact Or.inr rfl) (pe_lst pa_nil))
  (pss_cons (ps_for PassesOwn.never rfl (pi_X (pi_list (pv 0)) (pi_tup (pv 0))) (pg_name (i := 4) scLawFarSteps.nd rfl (by first | exact Or.inl rfl | exact Or.inr rfl)) (pss_cons (ps_set (i := 5) scLawFarSteps.nd rfl (by first | exact Or.inl rfl | exact Or.inr rfl) (pe_callTy call_tupX (by rfl) (T.free 55) (by decide +kernel) (pa_cons (pe_lc (own := [("_law_letter", 6)]) (g := gName 6) rfl scLawFarSteps.nd (pi_X (pi_list (pe_ix ix_seq (pv 4) pe_int (fun _ _ => rfl))) (pi_tup (pe_ix ix_seq (pv 4) pe_int (fun _ _ => rfl)))) (blkOk_by (own := [("_law_letter", 6)]) (N := ["_law_steps", "_law_m", "_law_n", "_law_found", "_law_step", "_law_laid", "_law_letter"]) (sc := K69.dLawFarSteps.scope) (by decide +kernel)) (fun _ _ _ _ _ => pg_name (i := 6) scLawFarSteps.nd rfl (Or.inl rfl)) (fun _ _ _ _ _ => pts_nil) (fun _ _ _ _ _ => pe_op op_sub (pe_op (op_addK K) (pe_op op_mul (pv 6) (pv 2)) (pv 2)) pe_int)) pa_nil)))
  (pss_one (ps_expr (pe_bm PySem.F.plainAttrs_list PySem.F.slot_list_append PySem.F.type_list_append mt_append (pv 3) (pa_cons (pe_tup (pa_cons (pe_op op_sub (pe_op op_addX (pe_op op_mul (pe_ix ix_seq (pv 4) pe_int (fun _ _ => rfl)) (pv 1)) (pv 1)) pe_int) (pa_cons (pe_op op_sub (pe_op op_addX (pe_op op_mul (pe_ix ix_seq (pv 4) pe_int (fun _ _ => rfl)) (pv 2)) (pv 2)) pe_int) (pa_cons (pe_op op_sub (pe_op op_addX (pe_op op_mul (pe_ix ix_seq (pv 4) pe_int (fun _ _ => rfl)) (pv 1)) (pv 1)) pe_int) (pa_cons (pv 5) pa_nil))))) pa_nil))))))
  (pss_one (ps_ret (pv 3))))), fun ds F k Γ hs hw => ?_⟩)
  · rintro _ _ _ ⟨_, _, _, _, rfl, _⟩
    rfl
  · obtain ⟨ps, steps, m, n, rfl, rfl, hl, m0, m1, n0, n1, h2, hk⟩ := hs
    change WS _ _ _ [_, _, _, _, _, _, _] _; dsimp only [cxOf, Cx.nox, Cx.wish]
    have zz : ∀ {a : Nat}, a ≤ 4000 → a < sizeLine := fun {a} h => Nat.lt_of_le_of_lt h (by decide)
    have cm : ∀ i : Int, CMul i m := fun i => .inr ⟨by omega, by omega⟩
    have cn : ∀ i : Int, CMul i n := fun i => .inr ⟨by omega, by omega⟩
    walk_at "W"
    rename_i p0
    refine ws_seq (ws_forL (fun j env M => ∃ (a b c : Option D), M = [(ps, steps.map lsD), (p0, ((steps.take j).map (far m n)).map lsD)] ∧ env = [some (.obj ps), some (.int m), some (.int n), some (.obj p0), a, b, c]) ?_)
    walk_at "W"
    refine ⟨ps, steps.map lsD, rfl, ⟨none, none, none, rfl, rfl⟩, ?_, ?_, ?_⟩
    · rintro i env M ⟨a, b, c, rfl, rfl⟩
      exact ⟨0, rfl⟩
    · rintro j y env M hy ⟨a, b, c, rfl, rfl⟩
      obtain ⟨s, hs, rfl⟩ := map_get hy
      have hj := (List.getElem?_eq_some_iff.mp hs).1
      have h2s := h2 s (List.mem_of_getElem? hs)
      refine wg_name (ws_pickE ?_)
      walk_at "W"
      refine we_lcT (fun i acc M' => M' = [(ps, steps.map lsD), (p0, ((steps.take j).map (far m n)).map lsD)] ∧ acc = ((s.laid.take i).map fun l => l * n + n - 1).map D.int) ?_
      walk_at "W"
      refine ix_ls3 ?_
      refine ⟨_, rfl, ⟨rfl, rfl⟩, ?_, ?_⟩
      · rintro i x acc M' p hx ⟨rfl, rfl⟩
        obtain ⟨l, hl2, rfl⟩ := map_get hx
        have hil := (List.getElem?_eq_some_iff.mp hl2).1
        unfold Turn1
        walk_at "W"
        refine wr_mul (cn l) ?_
        walk_at "W"
        refine ⟨_, List.Sublist.refl _, zz (by rw [List.length_map, List.length_map, List.length_take]; omega), rfl, ?_⟩
        rw [take_succ' hl2, List.map_append, List.map_append] <;> rfl
      · rintro acc M' p ⟨rfl, rfl⟩
        rw [List.length_map, List.take_length]
        walk_at "W"
        refine ⟨p0, rfl, ⟨1, _, rfl⟩, ?_⟩
        walk_at "W"
        refine ix_ls0 ?_
        walk_at "W"
        refine wr_mul (cm _) ?_
        walk_at "W"
        refine ix_ls1 ?_
        walk_at "W"
        refine wr_mul (cn _) ?_
        walk_at "W"
        refine ix_ls2 ?_
        walk_at "W"
        refine wr_mul (cm _) ?_
        walk_at "W"
        refine ⟨1, _, rfl, zz (by rw [List.length_map, List.length_map, List.length_take]; omega), ?_⟩
        refine ⟨[0, 1], by decide, _, _, _, ?_, rfl⟩
        show [(ps, steps.map lsD), (p0, _ ++ [lsD (far m n s)])] = _
        rw [take_succ' hs, List.map_append, List.map_append] <;> rfl
    · rintro env M ⟨a, b, c, rfl, rfl⟩
      rw [List.length_map, List.take_length]
      walk_at "W"
      exact ⟨_, List.sublist_append_right [(ps, steps.map lsD)] _, hk p0⟩
end
end A

set_option Elab.async false
set_option linter.all false
set_option maxRecDepth 100000
set_option maxHeartbeats 4000000
/-! Turned and stretched: what was planted stays planted. -/
namespace A
open PySem PySem.Spec PyProof.Rows L2
theorem rot_at {s0 s1 : List Stp} {sh : Int} (h : RotOf s0 sh s1) (h0 : 0 ≤ sh) (h1 : sh < (s0.length : Int)) {i : Int} {s : Stp} (hs : stepAt s0 i = some s) : stepAt s1 (tn sh s0.length i) = some s := by
  obtain ⟨i0, i1, hg⟩ := stepAt_get hs
  have ht : ∃ j : Nat, tn sh s0.length i = j ∧ j < s0.length ∧ (((j : Int) + ((s0.length : Int) - sh)) % (s0.length : Int)) = i := by
    unfold tn
    by_cases c : i + sh < s0.length
    · refine ⟨(i + sh).toNat, ?_, by omega, ?_⟩
      · rw [Int.emod_eq_of_lt (by omega) c]; omega
      · rw [show (((i + sh).toNat : Int) + ((s0.length : Int) - sh)) = i + s0.length by omega, Int.add_emod_right]
        exact Int.emod_eq_of_lt i0 i1
    · refine ⟨(i + sh - s0.length).toNat, ?_, by omega, ?_⟩
      · have e : i + sh = (i + sh - s0.length) + s0.length := by omega
        rw [e, Int.add_emod_right, Int.emod_eq_of_lt (by omega) (by omega)]
        omega
      · rw [show (((i + sh - s0.length).toNat : Int) + ((s0.length : Int) - sh)) = i by omega]
        exact Int.emod_eq_of_lt i0 i1
  obtain ⟨j, e, hj, e2⟩ := ht
  have q := h.at_ j hj
  rw [e2, hg] at q
  unfold stepAt
  rw [e, if_pos ⟨by omega, by rw [h.len]; omega⟩, Int.toNat_natCast]
  exact q
theorem stepAt_map {s0 : List Stp} {f : Stp → Stp} {i : Int} {s : Stp} (hs : stepAt s0 i = some s) : stepAt (s0.map f) i = some (f s) := by
  obtain ⟨i0, i1, hg⟩ := stepAt_get hs
  unfold stepAt
  rw [List.length_map, if_pos ⟨i0, i1⟩, List.getElem?_map, hg] <;> rfl
/-- one map of the steps, under which all stays planted -/
structure Tr (s0 s1 : List Stp) (r0 r1 : List Row) (f g : Int → Int) (t : Int → Int) : Prop where
  st : ∀ i s, stepAt s0 i = some s → stepAt s1 (t i) = some ⟨f s.state, g s.letter, f s.goal, s.laid.map g⟩
  ro : r1 = r0.map fun r => (t r.1, r.2)
section
variable {s0 s1 : List Stp} {r0 r1 : List Row} {f g t : Int → Int}
theorem OffP.map {O O' : Int → Int → Int → Int → Prop} (h : ∀ p a l b, O p a l b → O' p (f a) (g l) (f b)) : ∀ {ls ps : List Int} {a b : Int}, OffP O a ls ps b → OffP O' (f a) (ls.map g) ps (f b)
  | [], [], _, _, q => congrArg f q
  | _ :: _, _ :: _, _, _, ⟨m, q, r⟩ => ⟨f m, h _ _ _ _ q, OffP.map h r⟩
  | [], _ :: _, _, _, q => q.elim
  | _ :: _, [], _, _, q => q.elim
theorem Tr.off (T : Tr s0 s1 r0 r1 f g t) : ∀ {d : Nat} {i a l b : Int}, Off s0 r0 d i a l b → Off s1 r1 d i (f a) (g l) (f b)
  | 0, _, _, _, _, h => h.elim
  | d + 1, i, a, l, b, ⟨r, s, h1, h2, h3, h4, h5⟩ => by
    refine ⟨(t r.1, r.2), _, ?_, T.st _ _ h2, by rw [h3], by rw [h4], h5.map fun p a l b q => ⟨q.1, T.off q.2⟩⟩
    rw [T.ro]
    exact rowAt_map h1
def fh (f g : Int → Int) (h : Hd) : Hd := (f h.1, g h.2)
theorem Tr.move (T : Tr s0 s1 r0 r1 f g t) {m : Mv} {h a : Hd} (q : MoveOk s0 r0 m h a) : MoveOk s1 r1 (t m.1, m.2) (fh f g h) (fh f g a) := by
  obtain ⟨s, h1, h2, h3, h4⟩ := q
  refine ⟨_, T.st _ _ h1, by rw [h2] <;> rfl, by rw [h3] <;> rfl, ?_⟩
  obtain ⟨m1, m2⟩ := m
  cases m2 with
  | none =>
    obtain ⟨rest, e1, e2, e3⟩ := h4
    exact ⟨rest.map g, by show List.map g s.laid = _; rw [e1] <;> rfl, by rw [List.length_map]; exact e2, by show f s.goal = _; rw [e3] <;> rfl⟩
  | some p =>
    obtain ⟨l0, e1, e2⟩ := h4
    exact ⟨g l0, by show List.map g s.laid = _; rw [e1] <;> rfl, T.off e2⟩
theorem Tr.path (T : Tr s0 s1 r0 r1 f g t) : ∀ {ms : List Mv} {hs : List Hd}, PathOk s0 r0 ms hs → PathOk s1 r1 (ms.map fun m => (t m.1, m.2)) (hs.map (fh f g))
  | [], [_], _ => trivial
  | _ :: _, _ :: _ :: _, ⟨h1, h2⟩ => ⟨T.move h1, T.path h2⟩
  | [], [], q => q.elim
  | [], _ :: _ :: _, q => q.elim
  | _ :: _, [], q => q.elim
  | _ :: _, [_], q => q.elim
theorem Tr.desc (T : Tr s0 s1 r0 r1 f g t) : ∀ {ms : List Int} {hs : List Hd}, DescOk s0 r0 ms hs → DescOk s1 r1 ms (hs.map (fh f g))
  | [], [_], _ => trivial
  | _ :: _, _ :: _ :: _, ⟨h1, h2⟩ => ⟨T.off h1, T.desc h2⟩
  | [], [], q => q.elim
  | [], _ :: _ :: _, q => q.elim
  | _ :: _, [], q => q.elim
  | _ :: _, [_], q => q.elim
end
/-- the paper planted, of a machine's steps -/
structure Planted (steps : List Stp) (ms : List Int) (st : Int) (pile : List Int) (p : Paper) : Prop where
  l2 : ∀ s ∈ steps, s.laid.length ≤ 2
  rows : ∀ i : Nat, i < p.rows.length → ∃ a l b, Off steps p.rows 3 i a l b
  rl : p.rows.length ≤ 49
  nl : nl p.rows ≤ 21
  ex : ∃ (ds ws rs : List Hd) (h0 h1 : Hd), DescOk steps p.rows p.descent (ds ++ [h0]) ∧ pile = (ds ++ [h0]).map (·.2) ∧ (ds ++ [h0]).head?.map (·.1) = some st ∧
    PathOk steps p.rows p.way (h0 :: ws) ∧ (h0 :: ws).getLast? = some h1 ∧ PathOk steps p.rows p.ring (h1 :: (rs ++ [h1])) ∧ ds.length ≤ 2
  dsc : p.descent.length ≤ 2
  way : p.way.length ≤ 2
  ring : p.ring.length ≤ 3
  hit : ∃ x ∈ ringStp p.rows p.ring, x ∈ ms
structure QSize (ns nl : Int) (steps : List Stp) (pile : List Int) (p : Paper) : Prop where
  hns : 1 ≤ ns
  hnl : 1 ≤ nl
  fits : ∀ s ∈ steps, Fits ns nl s
  hst : steps.length ≤ 58
  rows : p.rows.length ≤ 49
  parts : ∀ r ∈ p.rows, r.2.length ≤ 2
  way : p.way.length ≤ 2
  ring : p.ring.length ≤ 3
  dsc : p.descent.length ≤ 2
  hpi : pile.length ≤ 3
theorem mul_fit {x S m : Int} (h0 : 0 ≤ x) (h1 : x < S) (hm : 1 ≤ m) : 0 ≤ x * m + m - 1 ∧ x * m + m - 1 < S * m := by
  have a : 0 ≤ x * m := Int.mul_nonneg h0 (by omega)
  have b : (x + 1) * m ≤ S * m := Int.mul_le_mul_of_nonneg_right (by omega) (by omega)
  rw [Int.add_mul, Int.one_mul] at b
  omega
theorem Fits.far {S L m n : Int} {s : Stp} (h : Fits S L s) (hm : 1 ≤ m) (hn : 1 ≤ n) : Fits (S * m) (L * n) (far m n s) := by
  obtain ⟨a, b, c, d, e, f, g, k⟩ := h
  exact ⟨(mul_fit a b hm).1, (mul_fit a b hm).2, (mul_fit c d hm).1, (mul_fit c d hm).2, (mul_fit e f hn).1, (mul_fit e f hn).2, by show (List.map _ s.laid).length ≤ 2; rw [List.length_map]; exact g, fun x hx => by
    obtain ⟨y, hy, rfl⟩ := List.mem_map.mp hx
    exact mul_fit (k y hy).1 (k y hy).2 hn⟩
theorem RotOf.mem {s0 s1 : List Stp} {sh : Int} (h : RotOf s0 sh s1) : ∀ s ∈ s1, s ∈ s0 := fun s hs => by
  obtain ⟨k, hk, e⟩ := List.mem_iff_getElem.mp hs
  have q := h.at_ k (by rw [← h.len]; exact hk)
  rw [List.getElem?_eq_getElem hk, e] at q
  exact List.mem_of_getElem? q.symm
section
variable {ns nle : Int} {steps : List Stp} {ms : List Int} {st : Int} {pile : List Int} {p : Paper}
theorem Quest.size (q : Quest ns nle steps ms st pile p) : QSize ns nle steps pile p := by
  obtain ⟨S, L, steps0, rows0, st0, pile0, way0, ring0, ext, steps1, sh, m, n, hW, hx4, hxf, sh0, sh1, hrot, hm0, hm1, hn0, hn1, rfl, rfl, rfl, rfl, rfl, e1, e2, e3⟩ := q.ex
  have pos : ∀ {S m : Int}, 1 ≤ S → 1 ≤ m → 1 ≤ S * m := fun {S m} a b => by
    have := Int.mul_le_mul_of_nonneg_right a (show 0 ≤ m by omega)
    rw [Int.one_mul] at this
    omega
  obtain ⟨z1, z2, z3⟩ := hW.lens
  refine ⟨pos hW.hS.1 hm0, pos hW.hL.1 hn0, fun s hs => ?_, ?_, ?_, ?_, ?_, ?_, hW.dsc, ?_⟩
  · obtain ⟨s2, hs2, rfl⟩ := List.mem_map.mp hs
    refine Fits.far ?_ hm0 hn0
    rcases List.mem_append.mp (hrot.mem s2 hs2) with h | h
    · exact hW.two s2 h
    · exact hxf s2 h
  · rw [List.length_map, hrot.len, List.length_append]; omega
  · rw [e1, List.length_map]; omega
  · rw [e1]
    intro r hr
    obtain ⟨r2, h2, rfl⟩ := List.mem_map.mp hr
    exact hW.rowdep r2 h2
  · rw [e2, List.length_map]; exact hW.way
  · rw [e3, List.length_map]; exact hW.ring.2
  · obtain ⟨ds, _, _, _, _, _, e, _, _, _, _, hd⟩ := hW.ex
    rw [List.length_map, e, List.length_map, List.length_append]
    show _ + 1 ≤ 3
    omega
theorem Quest.planted (q : Quest ns nle steps ms st pile p) : Planted steps ms st pile p := by
  have z := q.size
  have hit := q.hit
  obtain ⟨S, L, steps0, rows0, st0, pile0, way0, ring0, ext, steps1, sh, m, n, hW, hx4, hxf, sh0, sh1, hrot, hm0, hm1, hn0, hn1, rfl, rfl, rfl, rfl, rfl, e1, e2, e3⟩ := q.ex
  have T : Tr steps0 (steps1.map (far m n)) rows0 p.rows (fun x => x * m + m - 1) (fun x => x * n + n - 1) (tn sh (steps0 ++ ext).length) := ⟨fun i s hs => stepAt_map (rot_at hrot sh0 sh1 (stepAt_app hs)), e1⟩
  refine ⟨fun s hs => (z.fits s hs).n, fun i hi => ?_, z.rows, ?_, ?_, z.dsc, z.way, z.ring, hit⟩
  · obtain ⟨a, l, b, o⟩ := hW.gr.all i (Nat.zero_le _) (by rw [e1, List.length_map] at hi; exact hi)
    exact ⟨_, _, _, T.off o⟩
  · obtain ⟨_, ⟨r2, er, _, hn⟩, _⟩ := hW.gr
    rw [e1, er]
    unfold A.nl at hn ⊢
    rw [List.nil_append, List.countP_map]
    exact hn
  · obtain ⟨ds, ws, rs, h0, h1, d1, d2, d3, d4, d5, d6, d7⟩ := hW.ex
    obtain ⟨F, eF⟩ : ∃ F, F = fh (fun x => x * m + m - 1) (fun x => x * n + n - 1) := ⟨_, rfl⟩
    have td := T.desc d1
    have tw := T.path d4
    have tr := T.path d6
    rw [← eF] at td tw tr
    refine ⟨ds.map F, ws.map F, rs.map F, F h0, F h1, ?_, ?_, ?_, ?_, ?_, ?_, by rw [List.length_map]; exact d7⟩
    · rw [List.map_append] at td
      exact td
    · rw [d2, List.map_map, ← List.map_singleton (f := F), ← List.map_append, List.map_map, eF]
      rfl
    · rw [eF]
      cases ds with
      | nil => cases d3; rfl
      | cons a r => cases d3; rfl
    · rw [e2]; exact tw
    · rw [← List.map_cons, List.getLast?_map, d5] <;> rfl
    · rw [e3]
      rw [List.map_cons, List.map_append] at tr
      exact tr
end
end A

set_option Elab.async false
set_option linter.all false
set_option maxRecDepth 100000
set_option maxHeartbeats 4000000
/-! What is planted is shown. -/
namespace A
open PySem PySem.Spec PyProof.Rows L2
def fl (ms : List Int) (u : List Int) : Bool := u.any fun x => decide (x ∈ ms)
theorem fl_app {ms u v : List Int} : fl ms (u ++ v) = (fl ms u || fl ms v) := by unfold fl; rw [List.any_append]
theorem fl_cons {ms v : List Int} {x : Int} : fl ms (x :: v) = (decide (x ∈ ms) || fl ms v) := by unfold fl; rw [List.any_cons]
theorem fl_flat {ms : List Int} {f : Int → List Int} : ∀ {ps : List Int}, fl ms (ps.flatMap f) = ps.any fun p => fl ms (f p)
  | [] => rfl
  | p :: ps => by rw [List.flatMap_cons, fl_app, List.any_cons, fl_flat]
theorem fl_mem {ms u : List Int} : fl ms u = true ↔ ∃ x ∈ u, x ∈ ms := by
  unfold fl
  rw [List.any_eq_true]
  exact ⟨fun ⟨x, h, e⟩ => ⟨x, h, of_decide_eq_true e⟩, fun ⟨x, h, e⟩ => ⟨x, h, decide_eq_true e⟩⟩
theorem readGo_off {es : List En} {O : Int → Int → Int → Int → Prop} {F : Int → Bool} (h : ∀ p a l b, O p a l b → entryAt es p a l = some ⟨a, l, b, F p⟩) : ∀ {ls ps : List Int} {a b : Int} {f : Bool}, OffP O a ls ps b → readGo es a f (ls.zip ps) = some (b, f || ps.any F)
  | [], [], a, b, f, q => by
    have q : a = b := q
    rw [q]
    show some (b, f) = some (b, f || false)
    rw [Bool.or_false]
  | l :: ls, p :: ps, a, b, f, ⟨m, q, r⟩ => by
    show (entryAt es p a l).bind (fun e => readGo es e.g (f || e.f) (ls.zip ps)) = _
    rw [h _ _ _ _ q, Option.bind_some]
    show readGo es m (f || F p) (ls.zip ps) = _
    rw [readGo_off h r, List.any_cons, Bool.or_assoc]
  | [], _ :: _, _, _, _, q => q.elim
  | _ :: _, [], _, _, _, q => q.elim
section
variable {steps : List Stp} {ms : List Int} {rows : List Row}
/-- the entries es are those of the rows before k -/
def EsOk (steps : List Stp) (ms : List Int) (rows : List Row) (k : Int) (es : List En) : Prop := ∀ (p : Int) (d : Nat) (a l b : Int), p < k → Off steps rows d p a l b → entryAt es p a l = some ⟨a, l, b, fl ms (stp rows d p)⟩
theorem readRow_off {es : List En} {k : Int} (hes : EsOk steps ms rows k es) {d : Nat} {a l b : Int} {r : Row} (hr : rowAt rows k = some r) (o : Off steps rows (d + 1) k a l b) : readRow steps ms es r = some ⟨a, l, b, fl ms (stp rows (d + 1) k)⟩ := by
  obtain ⟨r2, s, h1, h2, h3, h4, h5⟩ := o
  rw [hr] at h1
  cases h1
  unfold readRow
  rw [h2, Option.bind_some, if_pos h5.len, readGo_off (F := fun p => fl ms (stp rows d p)) (fun p a l b q => hes p d a l b q.1 q.2) h5]
  have e : stp rows (d + 1) k = r.1 :: r.2.flatMap (stp rows d) := by
    show (match rowAt rows k with | none => [] | some r => r.1 :: r.2.flatMap (stp rows d)) = _
    rw [hr]
  rw [e, fl_cons, fl_flat, ← h3, ← h4] <;> rfl
theorem entryAt_app {es t : List En} {p a l : Int} {x : En} (h : entryAt es p a l = some x) : entryAt (es ++ t) p a l = some x := by
  unfold entryAt at h ⊢
  by_cases c : 0 ≤ p ∧ p < es.length
  · rw [if_pos c] at h
    rw [if_pos ⟨c.1, by rw [List.length_append]; omega⟩, List.getElem?_append_left (by omega)]
    exact h
  · rw [if_neg c] at h
    cases h
theorem entryAt_last {es : List En} {x : En} : entryAt (es ++ [x]) es.length x.s x.l = some x := by
  unfold entryAt
  rw [if_pos ⟨by omega, by rw [List.length_append, List.length_singleton]; omega⟩, Int.toNat_natCast, List.getElem?_concat_length, Option.bind_some, if_pos ⟨rfl, rfl⟩]
theorem takGo_off (hrows : ∀ i : Nat, i < rows.length → ∃ a l b, Off steps rows 3 i a l b) : ∀ k : Nat, k ≤ rows.length → ∃ es, takGo steps ms [] (rows.take k) = some es ∧ es.length = k ∧ EsOk steps ms rows k es
  | 0, _ => ⟨[], rfl, rfl, fun p d a l b hp o => by
    cases d with
    | zero => exact o.elim
    | succ d =>
      obtain ⟨r, s, h1, _⟩ := o
      have := (rowAt_get h1).1
      omega⟩
  | k + 1, hk => by
    obtain ⟨es, h1, h2, h3⟩ := takGo_off hrows k (by omega)
    obtain ⟨r, hr⟩ : ∃ r, rows[k]? = some r := ⟨_, List.getElem?_eq_getElem (by omega)⟩
    have hr2 : rowAt rows k = some r := by
      unfold rowAt
      rw [if_pos ⟨by omega, by omega⟩, Int.toNat_natCast]
      exact hr
    obtain ⟨a, l, b, o⟩ := hrows k (by omega)
    have e := readRow_off h3 hr2 o
    refine ⟨es ++ [⟨a, l, b, fl ms (stp rows 3 k)⟩], ?_, by rw [List.length_append, h2]; rfl, fun p d a2 l2 b2 hp o2 => ?_⟩
    · rw [take_succ' hr, takGo_snoc, h1, Option.bind_some, e] <;> rfl
    · by_cases c : p < k
      · exact entryAt_app (h3 p d a2 l2 b2 c o2)
      · have ep : p = (k : Int) := by omega
        subst ep
        cases d with
        | zero => exact o2.elim
        | succ d =>
          have e2 := readRow_off h3 hr2 o2
          rw [e] at e2
          have e3 := Option.some.inj e2
          rw [e3]
          have := entryAt_last (es := es) (x := ⟨a2, l2, b2, fl ms (stp rows (d + 1) k)⟩)
          rw [h2] at this
          exact this
theorem moveOf_ok {es : List En} (hes : ∀ (p : Int) (d : Nat) (a l b : Int), Off steps rows d p a l b → entryAt es p a l = some ⟨a, l, b, fl ms (stp rows d p)⟩) {m : Mv} {h a : Hd} (q : MoveOk steps rows m h a) : moveOf steps ms es m = some (h, a, fl ms (mvStp rows m)) := by
  obtain ⟨s, h1, h2, h3, h4⟩ := q
  obtain ⟨m1, m2⟩ := m
  obtain ⟨ha, hb⟩ := h
  obtain ⟨aa, ab⟩ := a
  unfold moveOf
  rw [h1, Option.bind_some]
  cases m2 with
  | none =>
    obtain ⟨rest, e1, e2, e3⟩ := h4
    rw [e1]
    show some ((s.state, s.letter), (s.goal, ab), decide (m1 ∈ ms)) = some ((ha, hb), (aa, ab), fl ms [m1])
    rw [h2, h3, e3, fl_cons] <;> simp [fl]
  | some p =>
    obtain ⟨l0, e1, e2⟩ := h4
    rw [e1]
    show (entryAt es p s.goal l0).bind (fun e => some ((s.state, s.letter), (e.g, ab), decide (m1 ∈ ms) || e.f)) = some ((ha, hb), (aa, ab), fl ms (m1 :: stp rows 3 p))
    rw [hes _ _ _ _ _ e2, Option.bind_some, h2, h3, fl_cons]
theorem walkGo_ok {es : List En} (hes : ∀ (p : Int) (d : Nat) (a l b : Int), Off steps rows d p a l b → entryAt es p a l = some ⟨a, l, b, fl ms (stp rows d p)⟩) : ∀ {mv : List Mv} {h : Hd} {hs : List Hd} {f : Bool}, PathOk steps rows mv (h :: hs) → ∃ z, (h :: hs).getLast? = some z ∧ walkGo steps ms es h f mv = some (z, f || fl ms (ringStp rows mv))
  | [], h, [], f, _ => ⟨h, rfl, by show some (h, f) = some (h, f || false); rw [Bool.or_false]⟩
  | m :: mv, h, a :: hs, f, ⟨h1, h2⟩ => by
    obtain ⟨z, e1, e2⟩ := walkGo_ok hes (f := f || fl ms (mvStp rows m)) h2
    refine ⟨z, by rw [List.getLast?_cons_cons]; exact e1, ?_⟩
    show (moveOf steps ms es m).bind (fun t => if t.1 = h then walkGo steps ms es t.2.1 (f || t.2.2) mv else none) = _
    rw [moveOf_ok hes h1, Option.bind_some, if_pos rfl]
    show walkGo steps ms es a (f || fl ms (mvStp rows m)) mv = _
    rw [e2]
    unfold ringStp
    rw [List.flatMap_cons, fl_app, Bool.or_assoc]
  | [], _, _ :: _, _, q => q.elim
  | _ :: _, _, [], _, q => q.elim
theorem descGo_ok {es : List En} {below : List Int} (hes : ∀ (p : Int) (d : Nat) (a l b : Int), Off steps rows d p a l b → entryAt es p a l = some ⟨a, l, b, fl ms (stp rows d p)⟩) : ∀ {dsc : List Int} {h : Hd} {hs : List Hd}, DescOk steps rows dsc (h :: hs) → ∃ z, (h :: hs).getLast? = some z ∧ descGo es h.1 (((h :: hs).map (·.2) ++ below).zip dsc) = some z.1 ∧ ((h :: hs).map (·.2) ++ below)[dsc.length]? = some z.2
  | [], h, [], _ => ⟨h, rfl, by rw [List.zip_nil_right]; rfl, rfl⟩
  | p :: dsc, h, a :: hs, ⟨h1, h2⟩ => by
    obtain ⟨z, e1, e2, e3⟩ := descGo_ok hes (below := below) h2
    refine ⟨z, by rw [List.getLast?_cons_cons]; exact e1, ?_, e3⟩
    show (entryAt es p h.1 h.2).bind (fun e => descGo es e.g (((a :: hs).map (·.2) ++ below).zip dsc)) = _
    rw [hes _ _ _ _ _ h1, Option.bind_some]
    exact e2
  | [], _, _ :: _, q => q.elim
  | _ :: _, _, [], q => q.elim
end
theorem Planted.shows {steps : List Stp} {ms : List Int} {st : Int} {pile : List Int} {p : Paper} (q : Planted steps ms st pile p) (below : List Int) : shows steps ms st (pile ++ below) p = true := by
  obtain ⟨es, h1, h2, h3⟩ := takGo_off (ms := ms) q.rows p.rows.length (Nat.le_refl _)
  rw [List.take_length] at h1
  have hes : ∀ (i : Int) (d : Nat) (a l b : Int), Off steps p.rows d i a l b → entryAt es i a l = some ⟨a, l, b, fl ms (stp p.rows d i)⟩ := fun i d a l b o => by
    refine h3 i d a l b ?_ o
    cases d with
    | zero => exact o.elim
    | succ d =>
      obtain ⟨r, s, h1, _⟩ := o
      exact (rowAt_get h1).2.1
  obtain ⟨ds, ws, rs, h0, hh, d1, d2, d3, d4, d5, d6, d7⟩ := q.ex
  have eh : headBehind es st (pile ++ below) p.descent = some h0 := by
    have key : ∀ hs : List Hd, DescOk steps p.rows p.descent hs → hs.head?.map (·.1) = some st → hs.getLast? = some h0 → headBehind es st (hs.map (·.2) ++ below) p.descent = some h0 := fun hs z1 z2 z3 => by
      cases hs with
      | nil => cases z2
      | cons h hs =>
        obtain ⟨z, e1, e2, e3⟩ := descGo_ok (below := below) hes z1
        rw [z3] at e1
        cases e1
        unfold headBehind
        rw [e3]
        cases z2
        show (descGo es h.1 _).map _ = _
        rw [e2] <;> rfl
    rw [d2]
    exact key _ d1 d3 (by simp)
  obtain ⟨z1, e1, e2⟩ := walkGo_ok hes (f := false) d4
  obtain ⟨z2, e3, e4⟩ := walkGo_ok hes (f := false) d6
  rw [d5] at e1
  cases e1
  have e3' : (hh :: (rs ++ [hh])).getLast? = some hh := by rw [← List.cons_append]; exact List.getLast?_concat
  rw [e3'] at e3
  cases e3
  rw [Bool.false_or, fl_mem.mpr q.hit] at e4
  unfold A.shows
  rw [h1]
  simp only
  rw [eh]
  simp only
  rw [e2]
  simp only
  rw [e4]
  exact decide_eq_true rfl
end A

set_option Elab.async false
set_option linter.all false
set_option maxRecDepth 100000
set_option maxHeartbeats 4000000
/-! What is shown is run: runs of rows, of moves, of the descent. -/
namespace A
open PySem PySem.Spec PyProof.Rows L2
section
variable {steps : List Stp} {ms : List Int}
theorem folGo_append : ∀ {xs ys : List Int} {st : Int} {pile : List Int}, folGo steps st pile (xs ++ ys) = (folGo steps st pile xs).bind fun c => folGo steps c.1 c.2 ys
  | [], _, _, _ => rfl
  | x :: xs, ys, st, pile => by
    show (stepAt steps x).bind _ = ((stepAt steps x).bind _).bind _
    cases stepAt steps x with
    | none => rfl
    | some s =>
      rw [Option.bind_some, Option.bind_some]
      cases pile with
      | nil => rfl
      | cons l rest =>
        show (if s.state = st ∧ s.letter = l then folGo steps s.goal (s.laid ++ rest) (xs ++ ys) else none) = (if s.state = st ∧ s.letter = l then folGo steps s.goal (s.laid ++ rest) xs else none).bind _
        by_cases c : s.state = st ∧ s.letter = l
        · rw [if_pos c, if_pos c]
          exact folGo_append
        · rw [if_neg c, if_neg c] <;> rfl
structure RunOk (steps : List Stp) (ms : List Int) (e : En) (u : List Int) : Prop where
  fol : ∀ rest, folGo steps e.s (e.l :: rest) u = some (e.g, rest)
  hit : e.f = true → fl ms u = true
structure AllOk (steps : List Stp) (ms : List Int) (es : List En) (R : List (List Int)) : Prop where
  len : es.length = R.length
  at_ : ∀ (i : Nat) (e : En), es[i]? = some e → ∃ u, R[i]? = some u ∧ RunOk steps ms e u
theorem AllOk.entry {es : List En} {R : List (List Int)} (A : AllOk steps ms es R) {p a l : Int} {e : En} (h : entryAt es p a l = some e) : 0 ≤ p ∧ p < R.length ∧ e.s = a ∧ e.l = l ∧ ∃ u, R[p.toNat]? = some u ∧ RunOk steps ms e u := by
  unfold entryAt at h
  by_cases c : 0 ≤ p ∧ p < es.length
  · rw [if_pos c] at h
    cases hg : es[p.toNat]? with
    | none => rw [hg] at h; cases h
    | some x =>
      rw [hg, Option.bind_some] at h
      by_cases c2 : x.s = a ∧ x.l = l
      · rw [if_pos c2] at h
        cases h
        exact ⟨c.1, by rw [← A.len]; exact c.2, c2.1, c2.2, A.at_ _ _ hg⟩
      · rw [if_neg c2] at h
        cases h
  · rw [if_neg c] at h
    cases h
theorem parts_ok {es : List En} {R : List (List Int)} (A : AllOk steps ms es R) : ∀ {ls ps : List Int} {a b : Int} {f f' : Bool} (run : List Int), ps.length = ls.length → readGo es a f (ls.zip ps) = some (b, f') →
    ∃ v, runParts R run ps = some (run ++ v) ∧ (∀ rest, folGo steps a (ls ++ rest) v = some (b, rest)) ∧ (f' = true → f = true ∨ fl ms v = true)
  | [], [], a, b, f, f', run, _, h => by
    replace h : some (a, f) = some (b, f') := h
    cases h
    exact ⟨[], by rw [List.append_nil] <;> rfl, fun rest => rfl, fun z => .inl z⟩
  | l :: ls, p :: ps, a, b, f, f', run, hl, h => by
    replace h : (entryAt es p a l).bind (fun e => readGo es e.g (f || e.f) (ls.zip ps)) = some (b, f') := h
    cases he : entryAt es p a l with
    | none => rw [he] at h; cases h
    | some e =>
      rw [he, Option.bind_some] at h
      obtain ⟨p0, p1, rfl, rfl, u, hu, ru⟩ := A.entry he
      obtain ⟨v, h1, h2, h3⟩ := parts_ok A (run ++ u) (by simpa using hl) h
      refine ⟨u ++ v, ?_, fun rest => ?_, fun z => ?_⟩
      · show (if 0 ≤ p ∧ p < R.length then (R[p.toNat]?).bind fun u => runParts R (run ++ u) ps else none) = _
        rw [if_pos ⟨p0, p1⟩, hu, Option.bind_some, h1, List.append_assoc]
      · rw [folGo_append]
        show (folGo steps e.s (e.l :: (ls ++ rest)) u).bind _ = _
        rw [ru.fol, Option.bind_some]
        exact h2 rest
      · rw [fl_app]
        rcases h3 z with z | z
        · rcases Bool.or_eq_true_iff.mp z with z | z
          · exact .inl z
          · exact .inr (by rw [ru.hit z] <;> rfl)
        · exact .inr (by rw [z, Bool.or_true])
  | [], _ :: _, _, _, _, _, _, hl, _ => by simp at hl
  | _ :: _, [], _, _, _, _, _, hl, _ => by simp at hl
theorem row_ok {es : List En} {R : List (List Int)} (A : AllOk steps ms es R) {r : Row} {e : En} (h : readRow steps ms es r = some e) : (∃ s, stepAt steps r.1 = some s ∧ r.2.length = s.laid.length) ∧ ∃ u, runParts R [r.1] r.2 = some u ∧ RunOk steps ms e u := by
  unfold readRow at h
  cases hs : stepAt steps r.1 with
  | none => rw [hs] at h; cases h
  | some s =>
    rw [hs, Option.bind_some] at h
    by_cases c : r.2.length = s.laid.length
    · rw [if_pos c] at h
      cases hg : readGo es s.goal (decide (r.1 ∈ ms)) (s.laid.zip r.2) with
      | none => rw [hg] at h; cases h
      | some x =>
        rw [hg] at h
        cases h
        obtain ⟨b, f'⟩ := x
        obtain ⟨v, h1, h2, h3⟩ := parts_ok A [r.1] c hg
        refine ⟨⟨s, rfl, c⟩, _, h1, fun rest => ?_, fun z => ?_⟩
        · show (stepAt steps r.1).bind (fun t => if t.state = s.state ∧ t.letter = s.letter then folGo steps t.goal (t.laid ++ rest) v else none) = _
          rw [hs, Option.bind_some, if_pos ⟨rfl, rfl⟩]
          exact h2 rest
        · show fl ms (r.1 :: v) = true
          rw [fl_cons]
          rcases h3 z with z | z
          · rw [z] <;> rfl
          · rw [z, Bool.or_true]
    · rw [if_neg c] at h
      cases h
theorem AllOk.snoc {es : List En} {R : List (List Int)} (A : AllOk steps ms es R) {e : En} {u : List Int} (h : RunOk steps ms e u) : AllOk steps ms (es ++ [e]) (R ++ [u]) := by
  refine ⟨by rw [List.length_append, List.length_append, A.len] <;> rfl, fun i x hx => ?_⟩
  by_cases c : i < es.length
  · rw [List.getElem?_append_left c] at hx
    obtain ⟨u2, h1, h2⟩ := A.at_ i x hx
    exact ⟨u2, by rw [List.getElem?_append_left (by rw [← A.len]; exact c)]; exact h1, h2⟩
  · have hl := (List.getElem?_eq_some_iff.mp hx).1
    rw [List.length_append] at hl
    have hl : i < es.length + 1 := hl
    have e1 : i = es.length := by omega
    rw [e1, List.getElem?_concat_length] at hx
    cases hx
    exact ⟨u, by rw [e1, A.len, List.getElem?_concat_length], h⟩
theorem runs_ok : ∀ {rows : List Row} {es es' : List En} {R : List (List Int)}, AllOk steps ms es R → takGo steps ms es rows = some es' → (∀ r ∈ rows, ∃ s, stepAt steps r.1 = some s ∧ r.2.length = s.laid.length) ∧ ∃ R', runsGo R rows = some R' ∧ AllOk steps ms es' R'
  | [], es, es', R, A, h => by
    replace h : some es = some es' := h
    cases h
    exact ⟨fun r hr => (nomatch hr), R, rfl, A⟩
  | r :: rows, es, es', R, A, h => by
    replace h : (readRow steps ms es r).bind (fun e => takGo steps ms (es ++ [e]) rows) = some es' := h
    cases he : readRow steps ms es r with
    | none => rw [he] at h; cases h
    | some e =>
      rw [he, Option.bind_some] at h
      obtain ⟨h0, u, h1, h2⟩ := row_ok A he
      obtain ⟨k0, R', k1, k2⟩ := runs_ok (A.snoc h2) h
      refine ⟨fun q hq => ?_, R', ?_, k2⟩
      · rcases List.mem_cons.mp hq with e | hq
        · rw [e]; exact h0
        · exact k0 q hq
      · show (runParts R [r.1] r.2).bind (fun u => runsGo (R ++ [u]) rows) = _
        rw [h1, Option.bind_some]
        exact k1
theorem moveOf_run {es : List En} {R : List (List Int)} (A : AllOk steps ms es R) (l2 : ∀ s ∈ steps, s.laid.length ≤ 2) {B : Nat} (hB : ∀ u ∈ R, u.length ≤ B) {m : Mv} {h a : Hd} {f : Bool} (q : moveOf steps ms es m = some (h, a, f)) :
    ∃ v ext : List Int, (∀ run mv, runOf R run (m :: mv) = runOf R (run ++ v) mv) ∧ ext.length ≤ 1 ∧ (∀ rest, folGo steps h.1 (h.2 :: rest) v = some (a.1, a.2 :: (ext ++ rest))) ∧ (f = true → fl ms v = true) ∧ v.length ≤ B + 1 := by
  obtain ⟨m1, m2⟩ := m
  unfold moveOf at q
  cases hs : stepAt steps m1 with
  | none => rw [hs] at q; cases q
  | some s =>
    rw [hs, Option.bind_some] at q
    have hl2 := l2 s (stepAt_mem hs)
    cases hl : s.laid with
    | nil => rw [hl] at q; cases q
    | cons l0 ls =>
      rw [hl] at q hl2
      cases m2 with
      | none =>
        replace q : some ((s.state, s.letter), (s.goal, l0), decide (m1 ∈ ms)) = some (h, a, f) := q
        cases q
        refine ⟨[m1], ls, fun run mv => rfl, by simp at hl2; omega, fun rest => ?_, fun z => by rw [fl_cons, z] <;> rfl, by show 1 ≤ B + 1; omega⟩
        show (stepAt steps m1).bind (fun t => if t.state = s.state ∧ t.letter = s.letter then folGo steps t.goal (t.laid ++ rest) [] else none) = _
        rw [hs, Option.bind_some, if_pos ⟨rfl, rfl⟩, hl] <;> rfl
      | some p =>
        replace q : ((entryAt es p s.goal l0).bind fun e => match ls with
          | [l1] => some ((s.state, s.letter), (e.g, l1), decide (m1 ∈ ms) || e.f)
          | _ => none) = some (h, a, f) := q
        cases he : entryAt es p s.goal l0 with
        | none => rw [he] at q; cases q
        | some e =>
          rw [he, Option.bind_some] at q
          obtain ⟨p0, p1, es1, es2, u, hu, ru⟩ := A.entry he
          match ls, q with
          | [l1], q =>
            cases q
            have hub := hB u (List.mem_of_getElem? hu)
            refine ⟨m1 :: u, [], fun run mv => ?_, Nat.zero_le _, fun rest => ?_, fun z => ?_, by show u.length + 1 ≤ B + 1; omega⟩
            · show (if 0 ≤ p ∧ p < R.length then (R[p.toNat]?).bind fun u => runOf R (run ++ [m1] ++ u) mv else none) = _
              rw [if_pos ⟨p0, p1⟩, hu, Option.bind_some, List.append_assoc] <;> rfl
            · show (stepAt steps m1).bind (fun t => if t.state = s.state ∧ t.letter = s.letter then folGo steps t.goal (t.laid ++ rest) u else none) = _
              rw [hs, Option.bind_some, if_pos ⟨rfl, rfl⟩, hl]
              have := ru.fol (l1 :: rest)
              rw [es1, es2] at this
              exact this
            · rw [fl_cons]
              rcases Bool.or_eq_true_iff.mp z with z | z
              · rw [z] <;> rfl
              · rw [ru.hit z, Bool.or_true]
theorem walk_run {es : List En} {R : List (List Int)} (A : AllOk steps ms es R) (l2 : ∀ s ∈ steps, s.laid.length ≤ 2) {B : Nat} (hB : ∀ u ∈ R, u.length ≤ B) : ∀ {mv : List Mv} {h z : Hd} {f f' : Bool} (run : List Int), walkGo steps ms es h f mv = some (z, f') →
    ∃ v ext : List Int, runOf R run mv = some (run ++ v) ∧ ext.length ≤ mv.length ∧ (∀ rest, folGo steps h.1 (h.2 :: rest) v = some (z.1, z.2 :: (ext ++ rest))) ∧ (f' = true → f = true ∨ fl ms v = true) ∧ v.length ≤ mv.length * (B + 1)
  | [], h, z, f, f', run, q => by
    replace q : some (h, f) = some (z, f') := q
    cases q
    exact ⟨[], [], by rw [List.append_nil] <;> rfl, Nat.le_refl _, fun rest => rfl, fun z => .inl z, Nat.zero_le _⟩
  | m :: mv, h, z, f, f', run, q => by
    replace q : (moveOf steps ms es m).bind (fun t => if t.1 = h then walkGo steps ms es t.2.1 (f || t.2.2) mv else none) = some (z, f') := q
    cases hm : moveOf steps ms es m with
    | none => rw [hm] at q; cases q
    | some t =>
      rw [hm, Option.bind_some] at q
      by_cases c : t.1 = h
      · rw [if_pos c] at q
        obtain ⟨h', a, f2⟩ := t
        cases c
        obtain ⟨v, ext, e1, e2, e3, e4, e5⟩ := moveOf_run A l2 hB hm
        obtain ⟨v2, ext2, k1, k2, k3, k4, k5⟩ := walk_run A l2 hB (run ++ v) q
        refine ⟨v ++ v2, ext2 ++ ext, by rw [e1, k1, List.append_assoc], by rw [List.length_append, List.length_cons]; omega, fun rest => ?_, fun zz => ?_, by rw [List.length_append, List.length_cons, Nat.add_mul]; omega⟩
        · rw [folGo_append, e3, Option.bind_some]
          show folGo steps a.1 (a.2 :: (ext ++ rest)) v2 = _
          rw [k3, List.append_assoc]
        · rw [fl_app]
          rcases k4 zz with zz | zz
          · rcases Bool.or_eq_true_iff.mp zz with zz | zz
            · exact .inl zz
            · exact .inr (by rw [e4 zz] <;> rfl)
          · exact .inr (by rw [zz, Bool.or_true])
      · rw [if_neg c] at q
        cases q
theorem desc_run {es : List En} {R : List (List Int)} (A : AllOk steps ms es R) : ∀ {dsc pile : List Int} {st g : Int}, dsc.length ≤ pile.length → descGo es st (pile.zip dsc) = some g →
    behGo steps R st pile dsc = some (g, pile.drop dsc.length) ∧ ∀ i c, behGo steps R st pile (dsc.take i) = some c → c.2.length ≤ pile.length
  | [], pile, st, g, _, h => by
    rw [List.zip_nil_right] at h
    replace h : some st = some g := h
    cases h
    refine ⟨rfl, fun i c hc => ?_⟩
    rw [List.take_nil] at hc
    have hc : some (st, pile) = some c := hc
    cases hc
    exact Nat.le_refl _
  | p :: dsc, [], st, g, hl, _ => by simp at hl
  | p :: dsc, l :: pile, st, g, hl, h => by
    replace h : (entryAt es p st l).bind (fun e => descGo es e.g (pile.zip dsc)) = some g := h
    cases he : entryAt es p st l with
    | none => rw [he] at h; cases h
    | some e =>
      rw [he, Option.bind_some] at h
      obtain ⟨p0, p1, es1, es2, u, hu, ru⟩ := A.entry he
      obtain ⟨k1, k2⟩ := desc_run A (by simpa using hl) h
      have one : ∀ d, behGo steps R st (l :: pile) (p :: d) = behGo steps R e.g pile d := fun d => by
        show (if 0 ≤ p ∧ p < R.length then (R[p.toNat]?).bind fun u => (folGo steps st (l :: pile) u).bind fun c => behGo steps R c.1 c.2 d else none) = _
        have := ru.fol pile
        rw [es1, es2] at this
        rw [if_pos ⟨p0, p1⟩, hu, Option.bind_some, this, Option.bind_some]
      refine ⟨by rw [one, k1] <;> rfl, fun i c hc => ?_⟩
      cases i with
      | zero =>
        have hc : some (st, l :: pile) = some c := hc
        cases hc
        exact Nat.le_refl _
      | succ i =>
        rw [List.take_succ_cons, one] at hc
        exact Nat.le_succ_of_le (k2 i c hc)
end
end A

set_option Elab.async false
set_option linter.all false
set_option maxRecDepth 100000
set_option maxHeartbeats 4000000
/-! How long the runs are. -/
namespace A
open PySem PySem.Spec PyProof.Rows L2
theorem runParts_len {R : List (List Int)} {b : Nat} : ∀ {ps run v : List Int}, runParts R run ps = some v → (∀ p ∈ ps, ∀ u, 0 ≤ p → R[p.toNat]? = some u → u.length ≤ b) → v.length ≤ run.length + ps.length * b
  | [], run, v, h, _ => by
    replace h : some run = some v := h
    cases h
    omega
  | p :: ps, run, v, h, hb => by
    replace h : (if 0 ≤ p ∧ p < R.length then (R[p.toNat]?).bind fun u => runParts R (run ++ u) ps else none) = some v := h
    by_cases c : 0 ≤ p ∧ p < R.length
    · rw [if_pos c] at h
      cases hu : R[p.toNat]? with
      | none => rw [hu] at h; cases h
      | some u =>
        rw [hu, Option.bind_some] at h
        have h1 := runParts_len h fun q hq => hb q (List.mem_cons_of_mem _ hq)
        have h2 := hb p (List.mem_cons_self ..) u c.1 hu
        rw [List.length_append] at h1
        rw [List.length_cons, Nat.add_mul]
        omega
    · rw [if_neg c] at h
      cases h
theorem runParts_app {R t : List (List Int)} : ∀ {ps run v : List Int}, runParts R run ps = some v → runParts (R ++ t) run ps = some v
  | [], run, v, h => h
  | p :: ps, run, v, h => by
    replace h : (if 0 ≤ p ∧ p < R.length then (R[p.toNat]?).bind fun u => runParts R (run ++ u) ps else none) = some v := h
    show (if 0 ≤ p ∧ p < (R ++ t).length then ((R ++ t)[p.toNat]?).bind fun u => runParts (R ++ t) (run ++ u) ps else none) = some v
    by_cases c : 0 ≤ p ∧ p < R.length
    · rw [if_pos c] at h
      rw [if_pos ⟨c.1, by rw [List.length_append]; omega⟩, List.getElem?_append_left (by omega)]
      cases hu : R[p.toNat]? with
      | none => rw [hu] at h; cases h
      | some u =>
        rw [hu, Option.bind_some] at h
        rw [Option.bind_some]
        exact runParts_app h
    · rw [if_neg c] at h
      cases h
/-- every run is that of its row, read in the whole list -/
theorem runs_at : ∀ {rows : List Row} {acc R : List (List Int)}, runsGo acc rows = some R → ∀ (i : Nat) (r : Row), rows[i]? = some r → ∃ u, R[acc.length + i]? = some u ∧ runParts R [r.1] r.2 = some u
  | [], acc, R, h, i, r, hr => by simp at hr
  | r0 :: rows, acc, R, h, i, r, hr => by
    replace h : (runParts acc [r0.1] r0.2).bind (fun u => runsGo (acc ++ [u]) rows) = some R := h
    cases hu : runParts acc [r0.1] r0.2 with
    | none => rw [hu] at h; cases h
    | some u =>
      rw [hu, Option.bind_some] at h
      cases i with
      | zero =>
        rw [List.getElem?_cons_zero] at hr
        cases hr
        obtain ⟨t, e⟩ := runsGo_prefix h
        refine ⟨u, ?_, ?_⟩
        · rw [e, List.append_assoc, List.getElem?_append_right (by omega)]
          simp
        · rw [e, List.append_assoc]
          exact runParts_app hu
      | succ i =>
        rw [List.getElem?_cons_succ] at hr
        obtain ⟨v, h1, h2⟩ := runs_at h i r hr
        rw [List.length_append] at h1
        refine ⟨v, ?_, h2⟩
        rw [← h1]
        congr 1
        show acc.length + (i + 1) = acc.length + 1 + i
        omega
theorem runs_dep {rows : List Row} {R : List (List Int)} (h : runsGo [] rows = some R) : ∀ {d : Nat} {i : Int}, Dep rows d i → ∀ u, R[i.toNat]? = some u → u.length ≤ pw2 d
  | 0, _, q, _, _ => q.elim
  | d + 1, i, ⟨r, h1, h2, h3⟩, u, hu => by
    obtain ⟨v, k1, k2⟩ := runs_at h i.toNat r (rowAt_get h1).2.2
    have e : ([] : List (List Int)).length + i.toNat = i.toNat := by simp
    rw [e, hu] at k1
    cases k1
    have k3 := runParts_len k2 (b := pw2 d) fun p hp u _ hu => runs_dep h (h3 p hp) u hu
    have k4 : r.2.length * pw2 d ≤ 2 * pw2 d := Nat.mul_le_mul_right _ h2
    have k3 : u.length ≤ 1 + r.2.length * pw2 d := k3
    show u.length ≤ 1 + 2 * pw2 d
    omega
def RLe (R : List (List Int)) (c : Nat) : Prop := ∀ u ∈ R, u.length + 1 ≤ c
theorem nl_cons {r : Row} {rows : List Row} : nl (r :: rows) = nl rows + (if r.2 ≠ [] then 1 else 0) := by
  unfold nl
  rw [List.countP_cons]
  by_cases c : r.2 = []
  · simp [c]
  · simp [c]
theorem RLe.row {acc : List (List Int)} {c : Nat} (hc : 2 ≤ c) (hl : RLe acc c) {r : Row} (h2 : r.2.length ≤ 2) {u : List Int} (h : runParts acc [r.1] r.2 = some u) : RLe (acc ++ [u]) (c * 2 ^ (if r.2 ≠ [] then 1 else 0)) := by
  have k := runParts_len h (b := c - 1) fun p _ v _ hv => by have := hl v (List.mem_of_getElem? hv); omega
  have k : u.length ≤ 1 + r.2.length * (c - 1) := k
  by_cases e : r.2 = []
  · rw [e] at k
    rw [if_neg (by simp [e]), Nat.pow_zero, Nat.mul_one]
    intro v hv
    rcases List.mem_append.mp hv with hv | hv
    · exact hl v hv
    · rw [List.mem_singleton.mp hv]
      have k : u.length ≤ 1 + 0 * (c - 1) := k
      omega
  · rw [if_pos e, Nat.pow_one]
    have k2 : r.2.length * (c - 1) ≤ 2 * (c - 1) := Nat.mul_le_mul_right _ h2
    intro v hv
    rcases List.mem_append.mp hv with hv | hv
    · have := hl v hv
      omega
    · rw [List.mem_singleton.mp hv]
      omega
theorem pow_ge {c k : Nat} (hc : 2 ≤ c) : 2 ≤ c * 2 ^ k := Nat.le_trans hc (Nat.le_mul_of_pos_right _ (Nat.two_pow_pos k))
theorem RLe.runs : ∀ {rows : List Row} {acc R : List (List Int)} {c : Nat}, 2 ≤ c → RLe acc c → (∀ r ∈ rows, r.2.length ≤ 2) → runsGo acc rows = some R → RLe R (c * 2 ^ nl rows)
  | [], acc, R, c, hc, hl, _, h => by
    replace h : some acc = some R := h
    cases h
    show RLe acc (c * 2 ^ 0)
    rw [Nat.pow_zero, Nat.mul_one]
    exact hl
  | r :: rows, acc, R, c, hc, hl, h2, h => by
    replace h : (runParts acc [r.1] r.2).bind (fun u => runsGo (acc ++ [u]) rows) = some R := h
    cases hu : runParts acc [r.1] r.2 with
    | none => rw [hu] at h; cases h
    | some u =>
      rw [hu, Option.bind_some] at h
      have := RLe.runs (pow_ge hc) (hl.row hc (h2 r (List.mem_cons_self ..)) hu) (fun q hq => h2 q (List.mem_cons_of_mem _ hq)) h
      rw [Nat.mul_assoc, ← Nat.pow_add, Nat.add_comm _ (nl rows), ← nl_cons] at this
      exact this
theorem nl_set {rows : List Row} {i : Nat} {r r' : Row} (hr : rows[i]? = some r) (hl : r'.2.length = r.2.length) : nl (rows.set i r') = nl rows := by
  have hi := (List.getElem?_eq_some_iff.mp hr).1
  have e : rows = rows.take i ++ r :: rows.drop (i + 1) := by
    have := List.drop_eq_getElem_cons hi
    rw [(List.getElem?_eq_some_iff.mp hr).2] at this
    rw [← this, List.take_append_drop]
  have e2 : rows.set i r' = rows.take i ++ r' :: rows.drop (i + 1) := by rw [List.set_eq_take_append_cons_drop, if_pos hi]
  rw [e2]
  conv => rhs; rw [e]
  rw [nl_app, nl_app, nl_cons, nl_cons]
  have e3 : (r'.2 = []) = (r.2 = []) := by rw [← List.length_eq_zero_iff, ← List.length_eq_zero_iff, hl]
  simp only [ne_eq, e3]
theorem split_row {rows : List Row} {i : Nat} {r : Row} (hr : rows[i]? = some r) : rows = rows.take i ++ r :: rows.drop (i + 1) := by
  have hi := (List.getElem?_eq_some_iff.mp hr).1
  have := List.drop_eq_getElem_cons hi
  rw [(List.getElem?_eq_some_iff.mp hr).2] at this
  rw [← this, List.take_append_drop]
/-- the bound of the runs of changed rows -/
theorem chg_bound {steps : List Stp} {rows rows' : List Row} {R : List (List Int)} (hoff : ∀ i : Nat, i < rows.length → ∃ a l b, Off steps rows 3 i a l b) (l2 : ∀ s ∈ steps, s.laid.length ≤ 2) (hnl : nl rows ≤ 21)
    (hc : RowsChg rows rows') (hacc : ∀ r ∈ rows', ∃ s, stepAt steps r.1 = some s ∧ r.2.length = s.laid.length) (hR : runsGo [] rows' = some R) : ∀ u ∈ R, u.length ≤ Bd := by
  have parts : ∀ r ∈ rows', r.2.length ≤ 2 := fun r hr => by
    obtain ⟨s, h1, h2⟩ := hacc r hr
    rw [h2]
    exact l2 s (stepAt_mem h1)
  have nil : RLe [] 2 := fun u hu => nomatch hu
  have fin : ∀ k, k ≤ 21 → RLe R (2 * 2 ^ k) → ∀ u ∈ R, u.length ≤ Bd := fun k hk h u hu => by
    have h1 := h u hu
    have h2 : 2 ^ k ≤ 2 ^ 21 := Nat.pow_le_pow_right (by decide) hk
    have h3 : (2 : Nat) ^ 21 = 2097152 := by decide
    unfold Bd
    omega
  have gen : nl rows' ≤ 21 → ∀ u ∈ R, u.length ≤ Bd := fun h => fin _ h (RLe.runs (by decide) nil parts hR)
  rcases hc with ⟨x, e⟩ | ⟨i, r, r', hr, hch, e⟩ | ⟨i, e⟩ | ⟨i, r, hr, e⟩ | ⟨i, r, hr, e⟩
  · exact gen (by rw [e]; show 0 ≤ 21; decide)
  · have hi := (List.getElem?_eq_some_iff.mp hr).1
    have hmem : r' ∈ rows' := by
      rw [e]
      exact List.mem_of_getElem? (i := i) (by rw [List.getElem?_set_self hi])
    have right : ∀ s, stepAt steps r.1 = some s → r.2.length = s.laid.length := fun s hs => by
      obtain ⟨a, l, b, r2, s2, h1, h2, _, _, h5⟩ := hoff i hi
      have h1 := (rowAt_get h1).2.2
      rw [Int.toNat_natCast, hr] at h1
      cases h1
      rw [hs] at h2
      cases h2
      exact h5.len
    obtain ⟨s, hs1, hs2⟩ := hacc r' hmem
    rcases hch with h | ⟨h, h'⟩ | ⟨h, h'⟩
    · exact gen (by rw [e, nl_set hr h]; exact hnl)
    · rw [h] at hs1
      have := right s hs1
      omega
    · rw [h] at hs1
      have := right s hs1
      omega
  · refine gen (Nat.le_trans ?_ hnl)
    rw [e, ← List.eraseIdx_eq_take_drop_succ]
    exact (List.eraseIdx_sublist ..).countP_le
  · refine gen (Nat.le_trans ?_ hnl)
    have e1 := split_row hr
    have e2 : nl rows = nl (rows.take i) + nl (r :: rows.drop (i + 1)) := by
      conv => lhs; rw [e1]
      rw [nl_app]
    have e3 : nl (rows.drop (i + 1)) = nl ((rows.drop (i + 1)).take 1) + nl (rows.drop (i + 2)) := by
      conv => lhs; rw [← List.take_append_drop 1 (rows.drop (i + 1))]
      rw [nl_app, List.drop_drop]
    have e0 : nl ([] : List Row) = 0 := rfl
    rw [nl_cons, e3] at e2
    rw [e, nl_app, nl_app, nl_app, nl_cons, e2, e0]
    omega
  · have e1 := split_row hr
    have hi := (List.getElem?_eq_some_iff.mp hr).1
    have ed : rows.drop i = r :: rows.drop (i + 1) := by
      have := List.drop_eq_getElem_cons hi
      rw [(List.getElem?_eq_some_iff.mp hr).2] at this
      exact this
    have e2 : nl rows = nl (rows.take i) + nl (r :: rows.drop (i + 1)) := by
      conv => lhs; rw [e1]
      rw [nl_app]
    rw [nl_cons] at e2
    have p1 : ∀ q ∈ rows.take i, q.2.length ≤ 2 := fun q hq => parts q (by rw [e]; simp [hq])
    have p2 : r.2.length ≤ 2 := parts r (by rw [e]; simp)
    have p3 : ∀ q ∈ rows.drop (i + 1), q.2.length ≤ 2 := fun q hq => parts q (by rw [e, ed]; simp [hq])
    rw [e, ed, List.append_assoc, runsGo_append] at hR
    cases hA : runsGo [] (rows.take i) with
    | none => rw [hA] at hR; cases hR
    | some RA =>
      rw [hA, Option.bind_some] at hR
      replace hR : (runParts RA [r.1] r.2).bind (fun u => (runParts (RA ++ [u]) [r.1] r.2).bind fun v => runsGo (RA ++ [u] ++ [v]) (rows.drop (i + 1))) = some R := hR
      cases hu : runParts RA [r.1] r.2 with
      | none => rw [hu] at hR; cases hR
      | some u =>
        rw [hu, Option.bind_some, runParts_app hu, Option.bind_some] at hR
        have b1 := RLe.runs (by decide) nil p1 hA
        have b2 := b1.row (pow_ge (by decide)) p2 hu
        have b3 : RLe (RA ++ [u] ++ [u]) _ := fun v hv => by
          rcases List.mem_append.mp hv with hv | hv
          · exact b2 v hv
          · exact b2 v (List.mem_append_right _ hv)
        have b4 := RLe.runs (pow_ge (pow_ge (by decide))) b3 p3 hR
        rw [Nat.mul_assoc, Nat.mul_assoc, ← Nat.pow_add, ← Nat.pow_add] at b4
        exact fin _ (by omega) b4
end A

set_option Elab.async false
set_option linter.all false
set_option maxRecDepth 100000
set_option maxHeartbeats 4000000
/-! The plain law: what the walk of the law asks. -/
namespace A
open PySem PySem.Spec PyProof.Rows L2
def rep (ext : List Int) : Nat → List Int
  | 0 => []
  | n + 1 => ext ++ rep ext n
theorem rep_len {ext : List Int} : ∀ {n : Nat}, (rep ext n).length = n * ext.length
  | 0 => by rw [Nat.zero_mul] <;> rfl
  | n + 1 => by
    show (ext ++ rep ext n).length = _
    rw [List.length_append, rep_len, Nat.add_mul]
    omega
theorem sound_core {steps : List Stp} {ms : List Int} {st : Int} {pile : List Int} {p : Paper} (l2 : ∀ s ∈ steps, s.laid.length ≤ 2) (hs : shows steps ms st pile p = true) (B : Nat) (hBd : B ≤ Bd)
    (hB : ∀ R, (∀ r ∈ p.rows, ∃ s, stepAt steps r.1 = some s ∧ r.2.length = s.laid.length) → runsGo [] p.rows = some R → ∀ u ∈ R, u.length ≤ B) (hrows : p.rows.length < 1000)
    (hw : p.way.length * (B + 1) ≤ 16000000) (hr : p.ring.length * (B + 1) ≤ 16000000) (hp : pile.length ≤ 100) (hw2 : p.way.length ≤ 50) (hr2 : p.ring.length ≤ 50) : GoesOn steps ms st pile p := by
  unfold shows at hs
  cases h1 : takGo steps ms [] p.rows with
  | none => rw [h1] at hs; cases hs
  | some es =>
    rw [h1] at hs
    simp only at hs
    cases h2 : headBehind es st pile p.descent with
    | none => rw [h2] at hs; cases hs
    | some h =>
      rw [h2] at hs
      simp only at hs
      cases h3 : walkGo steps ms es h false p.way with
      | none => rw [h3] at hs; cases hs
      | some r1 =>
        rw [h3] at hs
        simp only at hs
        have h4 := of_decide_eq_true hs
        obtain ⟨r1, f1⟩ := r1
        replace h4 : walkGo steps ms es r1 false p.ring = some (r1, true) := h4
        obtain ⟨k0, R, k1, A⟩ := runs_ok (R := []) (⟨rfl, fun i e he => by simp at he⟩ : AllOk steps ms [] []) h1
        have hb := hB R k0 k1
        obtain ⟨w, extw, w1, w2, w3, w4, w5⟩ := walk_run A l2 hb [] h3
        obtain ⟨g, ext, g1, g2, g3, g4, g5⟩ := walk_run A l2 hb [] h4
        rw [List.nil_append] at w1 g1
        have hit : fl ms g = true := (g4 rfl).elim (fun z => nomatch z) id
        unfold headBehind at h2
        cases hl : pile[p.descent.length]? with
        | none => rw [hl] at h2; cases h2
        | some l =>
          rw [hl] at h2
          simp only at h2
          cases hd : descGo es st (pile.zip p.descent) with
          | none => rw [hd] at h2; cases h2
          | some z =>
            rw [hd] at h2
            replace h2 : some (z, l) = some h := h2
            cases h2
            have hlt := (List.getElem?_eq_some_iff.mp hl).1
            obtain ⟨d1, d2⟩ := desc_run A (Nat.le_of_lt hlt) hd
            have ed : pile.drop p.descent.length = l :: pile.drop (p.descent.length + 1) := by
              have := List.drop_eq_getElem_cons hlt
              rw [(List.getElem?_eq_some_iff.mp hl).2] at this
              exact this
            obtain ⟨T, eT⟩ : ∃ T, T = extw ++ pile.drop (p.descent.length + 1) := ⟨_, rfl⟩
            have lT : T.length ≤ 150 := by rw [eT, List.length_append, List.length_drop]; omega
            refine ⟨hrows, fun r hr => ?_, l2, R, z, w, g, B, fun i => (r1.1, r1.2 :: (rep ext i ++ T)), k1, hb, hBd, d1, hlt, fun i c hc => Nat.le_trans (d2 i c hc) (by omega), w1, g1, hw, hr, by omega, by omega, by omega, fl_mem.mp hit, ?_, fun i hi => ?_, fun i hi => ⟨?_, by simp⟩, fun i hi => ⟨rfl, rfl, ?_, ?_⟩⟩
            · obtain ⟨s, q1, q2⟩ := k0 r hr
              rw [q2]
              exact Nat.le_succ_of_le (l2 s (stepAt_mem q1))
            · rw [ed]
              have := w3 (pile.drop (p.descent.length + 1))
              rw [← eT] at this
              exact this
            · show folGo steps r1.1 (r1.2 :: (rep ext i ++ T)) g = some (r1.1, r1.2 :: (ext ++ rep ext i ++ T))
              rw [g3, List.append_assoc]
            · show (rep ext i ++ T).length + 1 ≤ 1000
              rw [List.length_append, rep_len]
              have : i * ext.length ≤ 3 * 50 := Nat.mul_le_mul hi (by omega)
              omega
            · show (rep ext i ++ T).length + 1 ≤ (ext ++ rep ext i ++ T).length + 1
              rw [List.append_assoc, List.length_append (as := ext)]
              omega
            · show (r1.2 :: (ext ++ rep ext i ++ T)).drop ((ext ++ rep ext i ++ T).length + 1 - ((rep ext i ++ T).length + 1) + 1) = rep ext i ++ T
              rw [List.append_assoc, List.length_append (as := ext), List.drop_succ_cons]
              have : ext.length + (rep ext i ++ T).length + 1 - ((rep ext i ++ T).length + 1) = ext.length := by omega
              rw [this, List.drop_left]
section
variable {ns nl : Int} {steps : List Stp} {ms : List Int} {st : Int} {pile : List Int} {p p' : Paper}
theorem Quest.shows (q : Quest ns nl steps ms st pile p) (below : List Int) : shows steps ms st (pile ++ below) p = true := q.planted.shows below
theorem Quest.sound (q : Quest ns nl steps ms st pile p) {below : List Int} (hb : below.length ≤ 3) (h : p' = p ∨ PapChg p p') (hs : A.shows steps ms st (pile ++ below) p' = true) : GoesOn steps ms st (pile ++ below) p' := by
  have P := q.planted
  have z := q.size
  have zp := z.hpi
  have zw := z.way
  have zr := z.ring
  have zn := z.rows
  have hpl : (pile ++ below).length ≤ 100 := by rw [List.length_append]; omega
  have same : p'.rows = p.rows → p'.way.length ≤ 3 → p'.ring.length ≤ 4 → GoesOn steps ms st (pile ++ below) p' := fun e e1 e2 => by
    refine sound_core P.l2 hs 7 (by decide) (fun R _ hR u hu => ?_) (by rw [e]; omega) (by omega) (by omega) hpl (by omega) (by omega)
    obtain ⟨i, hi, eu⟩ := List.mem_iff_getElem.mp hu
    obtain ⟨u', hk⟩ : ∃ u', u' = u := ⟨_, rfl⟩
    have hlen : R.length = p'.rows.length := by
      have : ∀ {rows : List Row} {acc R : List (List Int)}, runsGo acc rows = some R → R.length = acc.length + rows.length := by
        intro rows
        induction rows with
        | nil => intro acc R h; replace h : some acc = some R := h; cases h; rfl
        | cons r rows ih =>
          intro acc R h
          replace h : (runParts acc [r.1] r.2).bind (fun u => runsGo (acc ++ [u]) rows) = some R := h
          cases hu : runParts acc [r.1] r.2 with
          | none => rw [hu] at h; cases h
          | some u =>
            rw [hu, Option.bind_some] at h
            have := ih h
            rw [List.length_append] at this
            rw [this]
            simp only [List.length_cons, List.length_nil]
            omega
      have := this hR
      simpa using this
    obtain ⟨a, l, b, o⟩ := P.rows i (by rw [← e, ← hlen]; exact hi)
    rw [← e] at o
    have := runs_dep hR (off_dep P.l2 o) u (by rw [Int.toNat_natCast, List.getElem?_eq_getElem hi, eu])
    exact this
  rcases h with h | h | h
  · rw [h]
    rw [h] at hs same
    exact same rfl (by omega) (by omega)
  · obtain ⟨e1, e2, e3, e4⟩ := h
    have hBd : Bd + 1 = 4194304 := rfl
    have len : p'.rows.length < 1000 := by
      rcases e4 with ⟨x, e⟩ | ⟨i, r, r', _, _, e⟩ | ⟨i, e⟩ | ⟨i, r, hr, e⟩ | ⟨i, r, hr, e⟩
      · rw [e]; show 1 < 1000; decide
      · rw [e, List.length_set]; omega
      · rw [e, List.length_append, List.length_take, List.length_drop]; omega
      · rw [e]; simp only [List.length_append, List.length_take, List.length_drop, List.length_singleton]; omega
      · rw [e]; simp only [List.length_append, List.length_take, List.length_drop, List.length_singleton]; omega
    refine sound_core P.l2 hs Bd (Nat.le_refl _) (fun R hacc hR => chg_bound P.rows P.l2 P.nl e4 hacc hR) len ?_ ?_ hpl (by rw [e1]; omega) (by rw [e2]; omega)
    · rw [e1, hBd]; omega
    · rw [e2, hBd]; omega
  · obtain ⟨e1, e2, e3, e4⟩ := h
    exact same e1 (by omega) (by omega)
end
end A

set_option Elab.async false
set_option linter.all false
set_option maxRecDepth 100000
set_option maxHeartbeats 16000000
namespace A
open PySem PySem.Spec PyProof.Rows L2
local macro_rules | `(tactic| walk_at "at") => `(tactic| first | exact at0 | exact at1 | exact at2 | exact at3 | exact at4 | exact at5 | exact at6 | exact at7)
local macro_rules | `(tactic| walk_at "fl") => `(tactic| first
  | (with_reducible refine' fl_laid (by assumption) ?_) | (with_reducible refine' fl_goal (by assumption) ?_) | (with_reducible refine' fl_state (by assumption) ?_) | (with_reducible refine' fl_letter (by assumption) ?_)
  | (with_reducible refine' fl_steps (by assumption) ?_) | (with_reducible refine' fl_marks (by assumption) ?_) | (with_reducible refine' fl_entries (by assumption) ?_) | (with_reducible refine' fl_weight (by assumption) ?_) | (with_reducible refine' fl_msteps (by assumption) ?_))
local macro_rules | `(tactic| walk_at "ix") => `(tactic| first
  | (with_reducible refine' ix_en0 ?_) | (with_reducible refine' ix_en1 ?_) | (with_reducible refine' ix_en2 ?_) | (with_reducible refine' ix_en3 ?_) | (with_reducible refine' ix_row0 ?_) | (with_reducible refine' ix_row1 ?_) | (with_reducible refine' ix_mv0 ?_) | (with_reducible refine' ix_mvS ?_) | (with_reducible refine' ix_mvN ?_) | (with_reducible refine' ix_mv1 ?_) | (with_reducible refine' ix_hd0 ?_) | (with_reducible refine' ix_hd1 ?_))
local macro_rules | `(tactic| walk_at "v") => `(tactic| first
  | ((with_reducible refine' we_var ?hvar ?_); (case hvar => rfl))
  | (with_reducible refine' we_int ?_)
  | (with_reducible refine' we_op ?_)
  | (with_reducible refine' wr_add ?_) | (with_reducible refine' wr_sub ?_)
  | ((with_reducible refine' wr_ixT ?hix ?_); (case hix => rfl))
  | ((with_reducible refine' wr_mod ?hmod ?_); (case hmod => first | decide | omega | assumption))
  | ((with_reducible refine' wr_div ?hdiv ?_); (case hdiv => exact ⟨by decide, by decide⟩))
  | (with_reducible refine' wr_eqI ?_) | (with_reducible refine' wr_neI ?_) | (with_reducible refine' wr_lt ?_) | (with_reducible refine' wr_le ?_) | (with_reducible refine' wr_gt ?_) | (with_reducible refine' wr_ge ?_)
  | ((with_reducible refine' isn0 ?hisn ?_); (case hisn => rfl)) | ((with_reducible refine' isn1 ?hisn ?_); (case hisn => rfl)) | ((with_reducible refine' ntn0 ?hisn ?_); (case hisn => rfl)) | ((with_reducible refine' ntn1 ?hisn ?_); (case hisn => rfl))
  | (with_reducible refine' wr_isN ?_) | (with_reducible refine' wr_notN ?_) | (with_reducible refine' wr_eqS ?_)
  | (with_reducible refine' d0n ?_) | (with_reducible refine' d1n ?_) | (with_reducible refine' d0 rfl ?_) | (with_reducible refine' d1 rfl ?_) | (with_reducible refine' bl_intro ?_) | (with_reducible refine' int_intro ?_) | ((with_reducible refine' And.intro ?hlen ?_); (case hlen => exact len_le rfl); try (with_reducible intro _))
  | (walk_at "ix")
  | ((with_reducible refine' wr_ixL ?hm ?ha ?_); (case hm => walk_at "at"); (case ha => rfl))
  | (with_reducible refine' we_fldP ?_) | (walk_at "fl")
  | (with_reducible refine' we_tup ?_) | (with_reducible refine' we_lst ?_)
  | (with_reducible refine' wa_nil ?_) | (with_reducible refine' wa_cons ?_)
  | (with_reducible refine' we_non ?_) | (with_reducible refine' we_bl ?_) | (with_reducible refine' we_str ?_) | (with_reducible refine' we_ty ?_)
  | (with_reducible refine' we_cb ?_) | (with_reducible refine' wc_lenI ?_) | (with_reducible refine' wc_lenT ?_) | ((with_reducible refine' wc_lenL ?hat ?_); (case hat => walk_at "at"))
  | (with_reducible refine' wc_tupT ?_) | ((with_reducible refine' wc_tupL ?hat ?_); (case hat => walk_at "at"))
  | (with_reducible refine' wc_listI (fun _ => ?_)) | (with_reducible refine' wc_listT (fun _ => ?_)) | ((with_reducible refine' wc_listL ?hat (fun _ => ?_)); (case hat => walk_at "at"))
  | (with_reducible refine' wt_test ?_) | (with_reducible refine' wt_B ?_) | (with_reducible refine' wt_and ?_) | (with_reducible refine' wt_or ?_) | (with_reducible refine' wt_not ?_) | (with_reducible refine' wt_yes ?_)
  | (with_reducible refine' we_chain ?_) | (with_reducible refine' we_orV ?_) | (with_reducible refine' we_andV ?_) | (with_reducible refine' we_din ?_) | (with_reducible refine' we_neg ?_)
  | (with_reducible refine' we_sl ?_) | (with_reducible refine' wo_no ?_) | (with_reducible refine' wo_part ?_)
  | (with_reducible refine' we_meth ?_) | ((with_reducible refine' tk_intro ?htk ?_); (case htk => decide +kernel)) | (with_reducible refine' we_call ?_)
  | (with_reducible refine' we_app ?_) | (with_reducible refine' we_pop0 ?_)
  | (with_reducible refine' ws_seqA ?_) | (with_reducible refine' ws_seqD ?_) | (with_reducible refine' ws_ret ?_) | (with_reducible refine' ws_asgN ?_) | (with_reducible refine' ws_asg ?_) | (with_reducible refine' ws_drop ?_) | (with_reducible refine' ws_nx ?_)
  | (with_reducible refine' ws_seqG ?_)
  | (with_reducible refine' wg_name ?_) | (with_reducible refine' wg_tup rfl ?_) | (with_reducible refine' wg_row ?_) | (with_reducible refine' wg_mv ?_) | (with_reducible refine' wgs_cons ?_) | (with_reducible refine' wgs_nil ?_))
local macro_rules | `(tactic| walk_at "w") => `(tactic| first | (walk_at "v") | (with_reducible refine' ws_seqI ?_) | (with_reducible refine' ws_seqJ ?_) | (with_reducible refine' ws_if ?_))
local macro_rules | `(tactic| walk_at "W") => `(tactic| repeat walk_at "w")
local macro_rules | `(tactic| walk_at "V") => `(tactic| repeat walk_at "v")
local macro_rules | `(tactic| walk_at "sp") => `(tactic| repeat first | exact Split.nil | refine' Split.take ?_ | refine' Split.leave ?_)
local macro_rules | `(tactic| walk_at "x") => `(tactic| first | (with_reducible refine' we_sortedSet ?_) | (walk_at "w"))
local macro_rules | `(tactic| walk_at "X") => `(tactic| repeat walk_at "x")
section
variable {P : Program} {w : World} {K : PySem.W.Frag} {mg : Str → Option Value} {base : Heap}
theorem lay4 (a b c : Int) : ∃ laid : List Int, atI [D.tup [], D.tup [], D.tup [.int a], D.tup [.int a, .int b]] (c % 4) = some (tupI laid) ∧ laid.length ≤ 2 ∧ ∀ x ∈ laid, x = a ∨ x = b := by
  have h : c % 4 = 0 ∨ c % 4 = 1 ∨ c % 4 = 2 ∨ c % 4 = 3 := by omega
  rcases h with h | h | h | h
  · rw [h]; exact ⟨[], rfl, by show 0 ≤ 2; decide, fun x hx => nomatch hx⟩
  · rw [h]; exact ⟨[], rfl, by show 0 ≤ 2; decide, fun x hx => nomatch hx⟩
  · rw [h]; exact ⟨[a], rfl, by show 1 ≤ 2; decide, fun x hx => .inl (List.mem_singleton.mp hx)⟩
  · rw [h]; exact ⟨[a, b], rfl, by show 2 ≤ 2; decide, fun x hx => by
      rcases List.mem_cons.mp hx with e | hx
      · exact .inl e
      · exact .inr (List.mem_singleton.mp hx)⟩
def sQuestion : List D → Mm → (D → Mm → Prop) → Prop := fun ds F k => ∃ (pc : Addr) (cs : List Int), ds = [.obj pc] ∧ F = [(pc, cs.map D.int)] ∧ 126 ≤ cs.length ∧
  ∀ (cs' : List Int) (ns nl : Int) (steps : List Stp) (ms : List Int) (st : Int) (pile : List Int) (p : Paper) (pf pm pq : Addr), cs.length ≤ cs'.length + 126 → Quest ns nl steps ms st pile p →
    k (.obj pq) [(pc, cs'.map D.int), (pf, steps.map lsD), (pm, ms.map D.int), (pq, [.int ns, .int nl, .obj pf, .obj pm, cgD st pile, papD p])]
theorem scLawQuestion : FnScope ["_law_cells", "_law_built", "_law_world_here", "_law_number", "_law_steps", "_law_k", "_law_cell", "_law_laid", "_law_count", "_law_shift", "_law_rows", "_law_row", "_law_way", "_law_move_here", "_law_ring", "_law_inside", "_law_marked", "_law_spread", "_law_m", "_law_n", "_law_configuration", "_law_letter", "_law_paper"] ["_law_cells"] K69.dLawQuestion.scope := ⟨rfl, rfl, rfl, by decide +kernel, rfl, by decide +kernel, by decide +kernel⟩
theorem ok_question (T : Txt K mg) (oLawWorld : Ok1 P w K mg base K69.dLawWorld 5 ["_law_cells"] (spOf sLawWorld)) (oLawRingSteps : Ok1 P w K mg base K69.dLawRingSteps 4 ["_law_rows", "_law_ring"] (spOf sRingSteps)) (oLawTurned : Ok1 P w K mg base K69.dLawTurned 1 ["_law_index", "_law_shift", "_law_count"] (spOf sTurned)) (oLawFarSteps : Ok1 P w K mg base K69.dLawFarSteps 1 ["_law_steps", "_law_m", "_law_n"] (spOf sFarSteps)) :
    Ok1 P w K mg base K69.dLawQuestion 6 ["_law_cells"] (spOf sQuestion) := by
  refine mk_okG (N := ["_law_cells", "_law_built", "_law_world_here", "_law_number", "_law_steps", "_law_k", "_law_cell", "_law_laid", "_law_count", "_law_shift", "_law_rows", "_law_row", "_law_way", "_law_move_here", "_law_ring", "_law_inside", "_law_marked", "_law_spread", "_law_m", "_law_n", "_law_configuration", "_law_letter", "_law_paper"]) (T.c.def_ 22 (d := K69.dLawQuestion) rfl) scLawQuestion rfl (fun _ _ _ _ _ _ us hl => match us, hl with | [_], _ => rfl) ?_ (fun cdv A outer s H E hr => ⟨_, (pss_cons (ps_set (i := 1) scLawQuestion.nd rfl (by first | exact Or.inl rfl | exact Or.inr rfl) (pe_fn oLawWorld rfl hr rfl (T.glo 10) (pa_cons (pv 0) pa_nil)))
  (pss_cons (ps_set (i := 2) scLawQuestion.nd rfl (by first | exact Or.inl rfl | exact Or.inr rfl) (pe_ix ix_seq (pv 1) pe_int (fun _ _ => rfl)))
  (pss_cons (ps_set (i := 3) scLawQuestion.nd rfl (by first | exact Or.inl rfl | exact Or.inr rfl) (pe_bm PySem.F.plainAttrs_list PySem.F.slot_list_pop PySem.F.type_list_pop mt_popAt (pv 0) (pa_cons pe_int pa_nil)))
  (pss_cons (ps_set (i := 4) scLawQuestion.nd rfl (by first | exact Or.inl rfl | exact Or.inr rfl) (pe_ix ix_seq (pv 2) pe_int (fun _ _ => rfl)))
  (pss_cons (ps_for PassesOwn.never rfl (pi_range1 (by rfl) (T.free 56) (pa_cons (pe_op op_mod (pv 3) pe_int) pa_nil)) (pg_name (i := 5) scLawQuestion.nd rfl (by first | exact Or.inl rfl | exact Or.inr rfl)) (pss_cons (ps_set (i := 6) scLawQuestion.nd rfl (by first | exact Or.inl rfl | exact Or.inr rfl) (pe_bm PySem.F.plainAttrs_list PySem.F.slot_list_pop PySem.F.type_list_pop mt_popAt (pv 0) (pa_cons pe_int pa_nil)))
  (pss_cons (ps_set (i := 7) scLawQuestion.nd rfl (by first | exact Or.inl rfl | exact Or.inr rfl) (pe_ix ix_seq (pe_lst (pa_cons (pe_tup pa_nil) (pa_cons (pe_tup pa_nil) (pa_cons (pe_tup (pa_cons (pe_op op_mod (pe_op op_fdiv (pv 6) pe_int) (pe_ix ix_seq (pv 2) pe_int (fun _ _ => rfl))) pa_nil)) (pa_cons (pe_tup (pa_cons (pe_op op_mod (pe_op op_fdiv (pv 6) pe_int) (pe_ix ix_seq (pv 2) pe_int (fun _ _ => rfl))) (pa_cons (pe_op op_mod (pe_op op_fdiv (pv 6) pe_int) (pe_ix ix_seq (pv 2) pe_int (fun _ _ => rfl))) pa_nil))) pa_nil))))) (pe_op op_mod (pv 6) pe_int) (fun _ _ => rfl)))
  (pss_one (ps_expr (pe_bm PySem.F.plainAttrs_list PySem.F.slot_list_append PySem.F.type_list_append mt_append (pv 4) (pa_cons (pe_tup (pa_cons (pe_op op_mod (pe_op op_fdiv (pv 6) pe_int) (pe_ix ix_seq (pv 2) pe_int (fun _ _ => rfl))) (pa_cons (pe_op op_mod (pe_op op_fdiv (pv 6) pe_int) (pe_ix ix_seq (pv 2) pe_int (fun _ _ => rfl))) (pa_cons (pe_op op_mod (pe_op op_fdiv (pv 6) pe_int) (pe_ix ix_seq (pv 2) pe_int (fun _ _ => rfl))) (pa_cons (pv 7) pa_nil))))) pa_nil)))))))
  (pss_cons (ps_set (i := 8) scLawQuestion.nd rfl (by first | exact Or.inl rfl | exact Or.inr rfl) (pe_callB call_lenX (by rfl) (T.free 53) (by decide +kernel) (pa_cons (pv 4) pa_nil)))
  (pss_cons (ps_set (i := 9) scLawQuestion.nd rfl (by first | exact Or.inl rfl | exact Or.inr rfl) (pe_op op_mod (pe_op op_fdiv (pv 3) pe_int) (pv 8)))
  (pss_cons (ps_set (i := 4) scLawQuestion.nd rfl (by first | exact Or.inl rfl | exact Or.inr rfl) (pe_lc (own := [("_law_k", 5)]) (g := gName 5) rfl scLawQuestion.nd (pi_range1 (by rfl) (T.free 56) (pa_cons (pv 8) pa_nil)) (blkOk_by (own := [("_law_k", 5)]) (N := ["_law_cells", "_law_built", "_law_world_here", "_law_number", "_law_steps", "_law_k", "_law_cell", "_law_laid", "_law_count", "_law_shift", "_law_rows", "_law_row", "_law_way", "_law_move_here", "_law_ring", "_law_inside", "_law_marked", "_law_spread", "_law_m", "_law_n", "_law_configuration", "_law_letter", "_law_paper"]) (sc := K69.dLawQuestion.scope) (by decide +kernel)) (fun _ _ _ _ _ => pg_name (i := 5) scLawQuestion.nd rfl (Or.inl rfl)) (fun _ _ _ _ _ => pts_nil) (fun _ _ _ _ _ => pe_ix (ix_K K) (pv 4) (pe_fn oLawTurned rfl (hr.mono (by decide)) rfl (T.glo 13) (pa_cons (pv 5) (pa_cons (pe_op op_sub (pv 8) (pv 9)) (pa_cons (pv 8) pa_nil)))) (fun _ _ => rfl))))
  (pss_cons (ps_set (i := 10) scLawQuestion.nd rfl (by first | exact Or.inl rfl | exact Or.inr rfl) (pe_callTy call_tupX (by rfl) (T.free 55) (by decide +kernel) (pa_cons (pe_lc (own := [("_law_row", 11)]) (g := gName 11) rfl scLawQuestion.nd (pi_X (pi_list (pe_ix ix_seq (pv 2) pe_int (fun _ _ => rfl))) (pi_tup (pe_ix ix_seq (pv 2) pe_int (fun _ _ => rfl)))) (blkOk_by (own := [("_law_row", 11)]) (N := ["_law_cells", "_law_built", "_law_world_here", "_law_number", "_law_steps", "_law_k", "_law_cell", "_law_laid", "_law_count", "_law_shift", "_law_rows", "_law_row", "_law_way", "_law_move_here", "_law_ring", "_law_inside", "_law_marked", "_law_spread", "_law_m", "_law_n", "_law_configuration", "_law_letter", "_law_paper"]) (sc := K69.dLawQuestion.scope) (by decide +kernel)) (fun _ _ _ _ _ => pg_name (i := 11) scLawQuestion.nd rfl (Or.inl rfl)) (fun _ _ _ _ _ => pts_nil) (fun _ _ _ _ _ => pe_tup (pa_cons (pe_fn oLawTurned rfl (hr.mono (by decide)) rfl (T.glo 13) (pa_cons (pe_ix (ix_K K) (pv 11) pe_int (fun _ _ => rfl)) (pa_cons (pv 9) (pa_cons (pv 8) pa_nil)))) (pa_cons (pe_ix (ix_K K) (pv 11) pe_int (fun _ _ => rfl)) pa_nil)))) pa_nil)))
  (pss_cons (ps_set (i := 12) scLawQuestion.nd rfl (by first | exact Or.inl rfl | exact Or.inr rfl) (pe_callTy call_tupX (by rfl) (T.free 55) (by decide +kernel) (pa_cons (pe_lc (own := [("_law_move_here", 13)]) (g := gName 13) rfl scLawQuestion.nd (pi_X (pi_list (pe_ix ix_seq (pv 1) pe_int (fun _ _ => rfl))) (pi_tup (pe_ix ix_seq (pv 1) pe_int (fun _ _ => rfl)))) (blkOk_by (own := [("_law_move_here", 13)]) (N := ["_law_cells", "_law_built", "_law_world_here", "_law_number", "_law_steps", "_law_k", "_law_cell", "_law_laid", "_law_count", "_law_shift", "_law_rows", "_law_row", "_law_way", "_law_move_here", "_law_ring", "_law_inside", "_law_marked", "_law_spread", "_law_m", "_law_n", "_law_configuration", "_law_letter", "_law_paper"]) (sc := K69.dLawQuestion.scope) (by decide +kernel)) (fun _ _ _ _ _ => pg_name (i := 13) scLawQuestion.nd rfl (Or.inl rfl)) (fun _ _ _ _ _ => pts_nil) (fun _ _ _ _ _ => pe_tup (pa_cons (pe_fn oLawTurned rfl (hr.mono (by decide)) rfl (T.glo 13) (pa_cons (pe_ix (ix_K K) (pv 13) pe_int (fun _ _ => rfl)) (pa_cons (pv 9) (pa_cons (pv 8) pa_nil)))) (pa_cons (pe_ix (ix_K K) (pv 13) pe_int (fun _ _ => rfl)) pa_nil)))) pa_nil)))
  (pss_cons (ps_set (i := 14) scLawQuestion.nd rfl (by first | exact Or.inl rfl | exact Or.inr rfl) (pe_callTy call_tupX (by rfl) (T.free 55) (by decide +kernel) (pa_cons (pe_lc (own := [("_law_move_here", 13)]) (g := gName 13) rfl scLawQuestion.nd (pi_X (pi_list (pe_ix ix_seq (pv 1) pe_int (fun _ _ => rfl))) (pi_tup (pe_ix ix_seq (pv 1) pe_int (fun _ _ => rfl)))) (blkOk_by (own := [("_law_move_here", 13)]) (N := ["_law_cells", "_law_built", "_law_world_here", "_law_number", "_law_steps", "_law_k", "_law_cell", "_law_laid", "_law_count", "_law_shift", "_law_rows", "_law_row", "_law_way", "_law_move_here", "_law_ring", "_law_inside", "_law_marked", "_law_spread", "_law_m", "_law_n", "_law_configuration", "_law_letter", "_law_paper"]) (sc := K69.dLawQuestion.scope) (by decide +kernel)) (fun _ _ _ _ _ => pg_name (i := 13) scLawQuestion.nd rfl (Or.inl rfl)) (fun _ _ _ _ _ => pts_nil) (fun _ _ _ _ _ => pe_tup (pa_cons (pe_fn oLawTurned rfl (hr.mono (by decide)) rfl (T.glo 13) (pa_cons (pe_ix (ix_K K) (pv 13) pe_int (fun _ _ => rfl)) (pa_cons (pv 9) (pa_cons (pv 8) pa_nil)))) (pa_cons (pe_ix (ix_K K) (pv 13) pe_int (fun _ _ => rfl)) pa_nil)))) pa_nil)))
  (pss_cons (ps_set (i := 15) scLawQuestion.nd rfl (by first | exact Or.inl rfl | exact Or.inr rfl) (pe_fn oLawRingSteps rfl (hr.mono (by decide)) rfl (T.glo 12) (pa_cons (pv 10) (pa_cons (pv 14) pa_nil))))
  (pss_cons (ps_set (i := 16) scLawQuestion.nd rfl (by first | exact Or.inl rfl | exact Or.inr rfl) (pe_lst (pa_cons (pe_ix ix_seq (pv 15) (pe_op op_mod (pe_op op_fdiv (pv 3) pe_int) (pe_callB call_lenX (by rfl) (T.free 53) (by decide +kernel) (pa_cons (pv 15) pa_nil))) (fun _ _ => rfl)) pa_nil)))
  (pss_cons (ps_for PassesOwn.never rfl (pi_range1 (by rfl) (T.free 56) (pa_cons (pe_op op_mod (pe_op op_fdiv (pv 3) pe_int) pe_int) pa_nil)) (pg_name (i := 5) scLawQuestion.nd rfl (by first | exact Or.inl rfl | exact Or.inr rfl)) (pss_one (ps_expr (pe_bm PySem.F.plainAttrs_list PySem.F.slot_list_append PySem.F.type_list_append mt_append (pv 16) (pa_cons (pe_op op_mod (pe_bm PySem.F.plainAttrs_list PySem.F.slot_list_pop PySem.F.type_list_pop mt_popAt (pv 0) (pa_cons pe_int pa_nil)) (pv 8)) pa_nil)))))
  (pss_cons (ps_set (i := 17) scLawQuestion.nd rfl (by first | exact Or.inl rfl | exact Or.inr rfl) (pe_bm PySem.F.plainAttrs_list PySem.F.slot_list_pop PySem.F.type_list_pop mt_popAt (pv 0) (pa_cons pe_int pa_nil)))
  (pss_cons (ps_set (i := 18) scLawQuestion.nd rfl (by first | exact Or.inl rfl | exact Or.inr rfl) (pe_int))
  (pss_cons (ps_set (i := 19) scLawQuestion.nd rfl (by first | exact Or.inl rfl | exact Or.inr rfl) (pe_int))
  (pss_cons (ps_if (pt_cmpR (op_eqX hr.units) (pe_op op_mod (pv 17) pe_int) pe_int (nomark _)) (pss_cons (ps_set (i := 18) scLawQuestion.nd rfl (by first | exact Or.inl rfl | exact Or.inr rfl) (pe_op op_addX (pe_op op_mod (pe_op op_fdiv (pv 17) pe_int) pe_int) pe_int))
  (pss_one (ps_set (i := 19) scLawQuestion.nd rfl (by first | exact Or.inl rfl | exact Or.inr rfl) (pe_op op_addX (pe_op op_mod (pe_op op_fdiv (pv 17) pe_int) pe_int) pe_int)))) pss_nil)
  (pss_cons (ps_set (i := 4) scLawQuestion.nd rfl (by first | exact Or.inl rfl | exact Or.inr rfl) (pe_fn oLawFarSteps rfl (hr.mono (by decide)) rfl (T.glo 14) (pa_cons (pv 4) (pa_cons (pv 18) (pa_cons (pv 19) pa_nil)))))
  (pss_cons (ps_set (i := 20) scLawQuestion.nd rfl (by first | exact Or.inl rfl | exact Or.inr rfl) (pe_tup (pa_cons (pe_op op_sub (pe_op op_addX (pe_op op_mul (pe_ix ix_seq (pe_ix ix_seq (pv 1) pe_int (fun _ _ => rfl)) pe_int (fun _ _ => rfl)) (pv 18)) (pv 18)) pe_int) (pa_cons (pe_callTy call_tupX (by rfl) (T.free 55) (by decide +kernel) (pa_cons (pe_lc (own := [("_law_letter", 21)]) (g := gName 21) rfl scLawQuestion.nd (pi_X (pi_list (pe_ix ix_seq (pe_ix ix_seq (pv 1) pe_int (fun _ _ => rfl)) pe_int (fun _ _ => rfl))) (pi_tup (pe_ix ix_seq (pe_ix ix_seq (pv 1) pe_int (fun _ _ => rfl)) pe_int (fun _ _ => rfl)))) (blkOk_by (own := [("_law_letter", 21)]) (N := ["_law_cells", "_law_built", "_law_world_here", "_law_number", "_law_steps", "_law_k", "_law_cell", "_law_laid", "_law_count", "_law_shift", "_law_rows", "_law_row", "_law_way", "_law_move_here", "_law_ring", "_law_inside", "_law_marked", "_law_spread", "_law_m", "_law_n", "_law_configuration", "_law_letter", "_law_paper"]) (sc := K69.dLawQuestion.scope) (by decide +kernel)) (fun _ _ _ _ _ => pg_name (i := 21) scLawQuestion.nd rfl (Or.inl rfl)) (fun _ _ _ _ _ => pts_nil) (fun _ _ _ _ _ => pe_op op_sub (pe_op (op_addK K) (pe_op op_mul (pv 21) (pv 19)) (pv 19)) pe_int)) pa_nil)) pa_nil))))
  (pss_cons (ps_set (i := 22) scLawQuestion.nd rfl (by first | exact Or.inl rfl | exact Or.inr rfl) (pe_tup (pa_cons pe_str (pa_cons (pv 10) (pa_cons (pe_ix ix_seq (pv 1) pe_int (fun _ _ => rfl)) (pa_cons (pv 12) (pa_cons (pv 14) pa_nil)))))))
  (pss_one (ps_ret (pe_lst (pa_cons (pe_op op_mul (pe_ix ix_seq (pv 2) pe_int (fun _ _ => rfl)) (pv 18)) (pa_cons (pe_op op_mul (pe_ix ix_seq (pv 2) pe_int (fun _ _ => rfl)) (pv 19)) (pa_cons (pv 4) (pa_cons (pe_callB (cr_sortedSet rfl) (by rfl) (T.free 57) (by decide +kernel) (pa_cons (pe_callTy (call_setL rfl) (by rfl) (T.free 58) (by decide +kernel) (pa_cons (pv 16) pa_nil)) pa_nil)) (pa_cons (pv 20) (pa_cons (pv 22) pa_nil)))))))))))))))))))))))))))))), fun ds F k Γ hs hw => ?_⟩)
  · rintro _ _ _ ⟨_, _, rfl, _⟩
    rfl
  · obtain ⟨pc, cs, rfl, rfl, hcs, hk⟩ := hs
    change WS _ _ _ [_, _, _, _, _, _, _, _, _, _, _, _, _, _, _, _, _, _, _, _, _, _, _] _; dsimp only [cxOf, Cx.nox, Cx.wish]
    have zz : ∀ {a : Nat}, a ≤ 4000 → a < sizeLine := fun {a} h => Nat.lt_of_le_of_lt h (by decide)
    walk_at "W"
    refine ⟨_, [], Split.all _, pc, cs, rfl, rfl, by omega, fun cs1 S L steps rows st pile dsc way ring ps pr pw pb hc1 hW => ?_⟩
    obtain ⟨hz1, hz2, hz3⟩ := hW.lens
    obtain ⟨hS1, hS2⟩ := hW.hS
    obtain ⟨hL1, hL2⟩ := hW.hL
    obtain ⟨c1, cs1, rfl⟩ : ∃ c r, cs1 = c :: r := by
      cases cs1 with
      | nil => exact absurd hc1 (by simp; omega)
      | cons c r => exact ⟨c, r, rfl⟩
    have hc1' : cs.length ≤ cs1.length + 1 + 118 := hc1
    unfold wM
    walk_at "W"
    refine ⟨_, 0, _, _, rfl, rfl, ?_⟩
    walk_at "W"
    obtain ⟨B, eB⟩ : ∃ B, B = [D.obj pw, cgD st pile, tupI dsc, D.tup (way.map mvD), D.tup (ring.map mvD)] := ⟨_, rfl⟩
    rw [← eB]
    refine ws_seq (ws_forR (fun i env M => ∃ (cs' : List Int) (ext : List Stp) (a b c : Option D), M = wM pc ps pr pw cs' (steps ++ ext) rows S L ++ [(pb, B)] ∧
      env = [some (.obj pc), some (.obj pb), some (.obj pw), some (.int c1), some (.obj ps), a, b, c, none, none, none, none, none, none, none, none, none, none, none, none, none, none, none] ∧ cs1.length = cs'.length + i ∧ ext.length = i ∧ ∀ s ∈ ext, Fits S L s) ?_)
    walk_at "W"
    refine ⟨_, rfl, by omega, by omega, ⟨cs1, [], none, none, none, by rw [List.append_nil] <;> rfl, rfl, by omega, rfl, fun s h => nomatch h⟩, ?_, ?_⟩
    · rintro i env M hi ⟨cs', ext, a, b, c, rfl, rfl, hc', hx', hf'⟩
      have hi4 : i < 4 := by omega
      obtain ⟨x, cs', rfl⟩ : ∃ c r, cs' = c :: r := by
        cases cs' with
        | nil => exact absurd hc' (by simp; omega)
        | cons c r => exact ⟨c, r, rfl⟩
      have hc2 : cs1.length = cs'.length + 1 + i := hc'
      refine wg_name (ws_pickE ?_)
      walk_at "W"
      refine ⟨_, 0, _, _, rfl, rfl, ?_⟩
      walk_at "W"
      obtain ⟨laid, el, hl2, hlm⟩ := lay4 (x / 5 % L) (x / 15 % L) x
      refine wr_ixL (a := 5) rfl el ?_
      walk_at "W"
      refine ⟨ps, rfl, ⟨1, _, rfl⟩, ?_⟩
      walk_at "W"
      refine ⟨1, _, rfl, zz (by rw [List.length_map, List.length_append]; omega), ?_⟩
      refine ⟨[0, 1, 2, 3, 4], by decide, cs', ext ++ [⟨x / 45 % S, x / 135 % L, x / 405 % S, laid⟩], _, _, _, ?_, rfl, by omega, by rw [List.length_append, hx']; rfl, ?_⟩
      · show [(pc, _), (ps, (steps ++ ext).map lsD ++ [lsD ⟨x / 45 % S, x / 135 % L, x / 405 % S, laid⟩]), (pr, _), (pw, _), (pb, B)] = _
        unfold wM
        rw [← List.append_assoc, List.map_append (l₁ := steps ++ ext)] <;> rfl
      · intro s hs
        rcases List.mem_append.mp hs with hs | hs
        · exact hf' s hs
        · rw [List.mem_singleton.mp hs]
          refine ⟨Int.emod_nonneg _ (by omega), Int.emod_lt_of_pos _ (by omega), Int.emod_nonneg _ (by omega), Int.emod_lt_of_pos _ (by omega), Int.emod_nonneg _ (by omega), Int.emod_lt_of_pos _ (by omega), hl2, fun y hy => ?_⟩
          rcases hlm y hy with e | e
          · rw [e]; exact ⟨Int.emod_nonneg _ (by omega), Int.emod_lt_of_pos _ (by omega)⟩
          · rw [e]; exact ⟨Int.emod_nonneg _ (by omega), Int.emod_lt_of_pos _ (by omega)⟩
    · rintro env M ⟨cs2, ext, a, b, c, rfl, rfl, hc2, hx2, hf2⟩
      have hx4 : ext.length ≤ 4 := by omega
      obtain ⟨ct, ect⟩ : ∃ ct : Nat, (steps ++ ext).length = ct := ⟨_, rfl⟩
      have hct : 0 < ct ∧ ct ≤ 58 := by rw [List.length_append] at ect; omega
      walk_at "W"
      rw [List.length_map, ect]
      refine wr_mod (by omega) ?_
      obtain ⟨sh, esh⟩ : ∃ sh, sh = c1 / 5 % (ct : Int) := ⟨_, rfl⟩
      have sh0 : 0 ≤ sh := by rw [esh]; exact Int.emod_nonneg _ (by omega)
      have sh1 : sh < ct := by rw [esh]; exact Int.emod_lt_of_pos _ (by omega)
      rw [← esh]
      walk_at "W"
      refine we_lcR (fun i acc M' => ∃ s1 : List Stp, acc = s1.map lsD ∧ M' = wM pc ps pr pw cs2 (steps ++ ext) rows S L ++ [(pb, B)] ∧ s1.length = i ∧ ∀ k : Nat, k < i → s1[k]? = (steps ++ ext)[(((k : Int) + ((ct : Int) - sh)) % (ct : Int)).toNat]?) ?_
      walk_at "W"
      refine ⟨_, rfl, by omega, by omega, ⟨[], rfl, rfl, rfl, fun k hk => absurd hk (Nat.not_lt_zero _)⟩, ?_, ?_⟩
      · rintro i acc M' p hi ⟨s1, rfl, rfl, hl1, hs1⟩
        unfold Turn1
        refine wt_yes ⟨fun _ => ?_, fun z => nomatch z⟩
        walk_at "W"
        refine ⟨[], _, Split.none _, _, _, _, rfl, rfl, by omega, ?_⟩
        have t0 : 0 ≤ ((i : Int) + ((ct : Int) - sh)) % (ct : Int) := Int.emod_nonneg _ (by omega)
        have t1 : ((i : Int) + ((ct : Int) - sh)) % (ct : Int) < (steps ++ ext).length := by rw [ect]; exact Int.emod_lt_of_pos _ (by omega)
        obtain ⟨x, hx⟩ := get_in t0 t1
        refine wr_ixL (a := 1) rfl (atI_map t0 hx) ?_
        refine ⟨wM pc ps pr pw cs2 (steps ++ ext) rows S L ++ [(pb, B)], List.Sublist.refl _, zz (by rw [List.length_map]; omega), s1 ++ [x], by rw [List.map_append] <;> rfl, rfl, by rw [List.length_append, hl1]; rfl, fun k hk => ?_⟩
        by_cases e : k < i
        · rw [List.getElem?_append_left (by omega)]
          exact hs1 k e
        · have e : k = i := by omega
          rw [e, ← hl1, List.getElem?_concat_length, hl1]
          exact hx.symm
      · rintro acc M' psn ⟨s1, rfl, rfl, hl1, hs1⟩
        have hl1 : s1.length = ct := hl1
        have hs1 : ∀ k : Nat, k < ct → s1[k]? = (steps ++ ext)[(((k : Int) + ((ct : Int) - sh)) % (ct : Int)).toNat]? := hs1
        have hrot : RotOf (steps ++ ext) sh s1 := ⟨by rw [hl1, ect], fun k hk => by rw [ect] at hk ⊢; exact hs1 k hk⟩
        walk_at "W"
        refine we_lcL (fun i acc M' => M' = wM pc ps pr pw cs2 (steps ++ ext) rows S L ++ [(pb, B), (psn, s1.map lsD)] ∧ acc = ((rows.take i).map (rowT sh ct)).map rowD) ?_
        walk_at "W"
        refine ⟨pr, rows.map rowD, rfl, ⟨rfl, rfl⟩, fun i acc M h => ⟨2, by rw [h.1]; rfl⟩, ?_, ?_⟩
        · rintro i x acc M' p hx ⟨rfl, rfl⟩
          obtain ⟨r, hr, rfl⟩ := map_get hx
          have hil := (List.getElem?_eq_some_iff.mp hr).1
          unfold Turn1
          refine wt_yes ⟨fun _ => ?_, fun z => nomatch z⟩
          walk_at "W"
          refine ⟨[], _, Split.none _, _, _, _, rfl, rfl, by omega, ?_⟩
          walk_at "W"
          refine ⟨wM pc ps pr pw cs2 (steps ++ ext) rows S L ++ [(pb, B), (psn, s1.map lsD)], List.Sublist.refl _, zz (by rw [List.length_map, List.length_map, List.length_take]; omega), rfl, ?_⟩
          rw [take_succ' hr, List.map_append, List.map_append] <;> rfl
        · rintro acc M' p ⟨rfl, rfl⟩
          rw [List.length_map, List.take_length]
          walk_at "W"
          refine we_pick [0, 1, 2, 3, 4, 5] (by decide) ?_
          refine we_lcT (fun i acc M' => M' = wM pc ps pr pw cs2 (steps ++ ext) rows S L ++ [(pb, B), (psn, s1.map lsD)] ∧ acc = ((way.take i).map (mvT sh ct)).map mvD) ?_
          walk_at "W"
          refine wr_ixL (a := 4) rfl (by rw [eB]; rfl) ?_
          refine ⟨_, rfl, ⟨rfl, rfl⟩, ?_, ?_⟩
          · rintro i x acc M' p hx ⟨rfl, rfl⟩
            obtain ⟨r, hr, rfl⟩ := map_get hx
            have hil := (List.getElem?_eq_some_iff.mp hr).1
            have hwl := hW.way
            unfold Turn1
            refine wt_yes ⟨fun _ => ?_, fun z => nomatch z⟩
            walk_at "W"
            refine ⟨[], _, Split.none _, _, _, _, rfl, rfl, by omega, ?_⟩
            walk_at "W"
            refine ⟨wM pc ps pr pw cs2 (steps ++ ext) rows S L ++ [(pb, B), (psn, s1.map lsD)], List.Sublist.refl _, zz (by rw [List.length_map, List.length_map, List.length_take]; omega), rfl, ?_⟩
            rw [take_succ' hr, List.map_append, List.map_append] <;> rfl
          · rintro acc M' p ⟨rfl, rfl⟩
            rw [List.length_map, List.take_length]
            walk_at "W"
            refine we_pick [0, 1, 2, 3, 4, 5] (by decide) ?_
            refine we_lcT (fun i acc M' => M' = wM pc ps pr pw cs2 (steps ++ ext) rows S L ++ [(pb, B), (psn, s1.map lsD)] ∧ acc = ((ring.take i).map (mvT sh ct)).map mvD) ?_
            walk_at "W"
            refine wr_ixL (a := 4) rfl (by rw [eB]; rfl) ?_
            refine ⟨_, rfl, ⟨rfl, rfl⟩, ?_, ?_⟩
            · rintro i x acc M' p hx ⟨rfl, rfl⟩
              obtain ⟨r, hr, rfl⟩ := map_get hx
              have hil := (List.getElem?_eq_some_iff.mp hr).1
              have hwl := hW.ring.2
              unfold Turn1
              refine wt_yes ⟨fun _ => ?_, fun z => nomatch z⟩
              walk_at "W"
              refine ⟨[], _, Split.none _, _, _, _, rfl, rfl, by omega, ?_⟩
              walk_at "W"
              refine ⟨wM pc ps pr pw cs2 (steps ++ ext) rows S L ++ [(pb, B), (psn, s1.map lsD)], List.Sublist.refl _, zz (by rw [List.length_map, List.length_map, List.length_take]; omega), rfl, ?_⟩
              rw [take_succ' hr, List.map_append, List.map_append] <;> rfl
            · rintro acc M' p ⟨rfl, rfl⟩
              rw [List.length_map, List.take_length]
              walk_at "W"
              have hrdep : ∀ m ∈ ring.map (mvT sh ct), DepM (rows.map (rowT sh ct)) m := fun m hm => by
                obtain ⟨m0, h0, rfl⟩ := List.mem_map.mp hm
                exact (hW.ringdep m0 h0).turn
              have hrl : (ring.map (mvT sh ct)).length ≤ 3 := by rw [List.length_map]; exact hW.ring.2
              have hrl1 : 1 ≤ (ring.map (mvT sh ct)).length := by rw [List.length_map]; exact hW.ring.1
              refine ⟨[], _, Split.none _, _, _, rfl, rfl, hrl, hrdep, fun pin => ?_⟩
              obtain ⟨ins, ein⟩ : ∃ ins, ins = ringStp (rows.map (rowT sh ct)) (ring.map (mvT sh ct)) := ⟨_, rfl⟩
              have hin0 : 0 < ins.length := by rw [ein]; exact ringStp_ne hrl1
              rw [← ein]
              walk_at "W"
              rw [List.length_map]
              refine wr_mod (by omega) ?_
              obtain ⟨m0, m1⟩ := mod_in (a := c1 / 100) hin0
              obtain ⟨x0, hx0⟩ := get_in m0 m1
              have hx0m := List.mem_of_getElem? hx0
              refine wr_ixL (a := 7) rfl (atI_map m0 hx0) ?_
              walk_at "W"
              rename_i pmk
              refine ws_pick [0, 1, 2, 3, 4, 5, 8] (by decide) ?_
              refine ws_seq (ws_forR (fun i env M => ∃ (cs' : List Int) (mk : List Int) (a' : Option D), M = wM pc ps pr pw cs' (steps ++ ext) rows S L ++ [(pb, B), (psn, s1.map lsD), (pmk, mk.map D.int)] ∧
                env = [some (.obj pc), some (.obj pb), some (.obj pw), some (.int c1), some (.obj psn), a', b, c, some (.int ct), some (.int sh), some (.tup ((rows.map (rowT sh ct)).map rowD)), none, some (.tup ((way.map (mvT sh ct)).map mvD)), none, some (.tup ((ring.map (mvT sh ct)).map mvD)), some (.obj pin), some (.obj pmk), none, none, none, none, none, none] ∧ cs2.length = cs'.length + i ∧ mk.length = i + 1 ∧ x0 ∈ mk) ?_)
              walk_at "W"
              refine ⟨_, rfl, by omega, by omega, ⟨cs2, [x0], _, rfl, rfl, rfl, rfl, List.mem_singleton.mpr rfl⟩, ?_, ?_⟩
              · rintro i env M hi ⟨cs', mk, a', rfl, rfl, hcc, hmk, hxm⟩
                have hi3 : i < 3 := by omega
                obtain ⟨y, cs', rfl⟩ : ∃ c r, cs' = c :: r := by
                  cases cs' with
                  | nil => exact absurd hcc (by simp; omega)
                  | cons c r => exact ⟨c, r, rfl⟩
                have hcc2 : cs2.length = cs'.length + 1 + i := hcc
                walk_at "W"
                refine ⟨pmk, rfl, ⟨6, _, rfl⟩, ?_⟩
                walk_at "W"
                refine ⟨_, 0, _, _, rfl, rfl, ?_⟩
                walk_at "W"
                refine ⟨6, _, rfl, zz (by rw [List.length_map]; omega), ?_⟩
                refine ⟨cs', mk ++ [y % (ct : Int)], _, ?_, rfl, by omega, by rw [List.length_append, hmk]; rfl, List.mem_append_left _ hxm⟩
                rw [List.map_append] <;> rfl
              · rintro env M ⟨cs3, mk, a', rfl, rfl, hc3, hmk, hxm⟩
                obtain ⟨sp, cs3, rfl⟩ : ∃ c r, cs3 = c :: r := by
                  cases cs3 with
                  | nil => exact absurd hc3 (by simp; omega)
                  | cons c r => exact ⟨c, r, rfl⟩
                have hc4 : cs2.length = cs3.length + 1 + (c1 / 1000 % 3).toNat := hc3
                walk_at "V"
                refine ⟨_, 0, _, _, rfl, rfl, ?_⟩
                walk_at "V"
                refine ws_mid (fun env M => ∃ m n : Int, 1 ≤ m ∧ m ≤ 21 ∧ 1 ≤ n ∧ n ≤ 40 ∧ env = [some (.obj pc), some (.obj pb), some (.obj pw), some (.int c1), some (.obj psn), a', b, c, some (.int ct), some (.int sh), some (.tup ((rows.map (rowT sh ct)).map rowD)), none, some (.tup ((way.map (mvT sh ct)).map mvD)), none, some (.tup ((ring.map (mvT sh ct)).map mvD)), some (.obj pin), some (.obj pmk), some (.int sp), some (.int m), some (.int n), none, none, none] ∧
                  M = wM pc ps pr pw cs3 (steps ++ ext) rows S L ++ [(pb, B), (psn, s1.map lsD), (pmk, mk.map D.int)]) ?_ ?_
                · walk_at "W"
                  refine di (fun h0 => ?_) (fun h0 => ?_)
                  · walk_at "W"
                    exact ⟨_, _, by omega, by omega, by omega, by omega, rfl, rfl⟩
                  · walk_at "W"
                    exact ⟨1, 1, by omega, by omega, by omega, by omega, rfl, rfl⟩
                · rintro env M ⟨m, n, hm0, hm1, hn0, hn1, rfl, rfl⟩
                  have cm : ∀ i : Int, CMul i m := fun i => .inr ⟨by omega, by omega⟩
                  have cn : ∀ i : Int, CMul i n := fun i => .inr ⟨by omega, by omega⟩
                  have hs2 : ∀ s ∈ s1, s.laid.length ≤ 2 := fun s hs => by
                    obtain ⟨k, hk1, hk2⟩ := List.mem_iff_getElem.mp hs
                    have e1 := hs1 k (by omega)
                    rw [List.getElem?_eq_getElem hk1, hk2] at e1
                    have e2 := List.mem_of_getElem? e1.symm
                    rcases List.mem_append.mp e2 with e2 | e2
                    · exact (hW.two s e2).n
                    · exact (hf2 s e2).n
                  walk_at "W"
                  refine ⟨_, _, .leave (.leave (.leave (.leave (.leave (.take (.leave .nil)))))), psn, s1, m, n, rfl, rfl, by omega, hm0, by omega, hn0, by omega, hs2, fun pf => ?_⟩
                  walk_at "W"
                  refine wr_ixL (a := 4) (d := cgD st pile) rfl (by rw [eB]; rfl) ?_
                  walk_at "W"
                  refine ix_cg0 ?_
                  walk_at "W"
                  refine wr_mul (cm _) ?_
                  walk_at "W"
                  refine we_lcT (fun i acc M' => M' = wM pc ps pr pw cs3 (steps ++ ext) rows S L ++ [(pb, B), (pmk, mk.map D.int), (pf, (s1.map (far m n)).map lsD)] ∧ acc = ((pile.take i).map fun l => l * n + n - 1).map D.int) ?_
                  walk_at "W"
                  refine wr_ixL (a := 4) (d := cgD st pile) rfl (by rw [eB]; rfl) ?_
                  walk_at "W"
                  refine ix_cg1 ?_
                  refine ⟨_, rfl, ⟨rfl, rfl⟩, ?_, ?_⟩
                  · rintro i x acc M' p hx ⟨rfl, rfl⟩
                    obtain ⟨l, hl2, rfl⟩ := map_get hx
                    have hil := (List.getElem?_eq_some_iff.mp hl2).1
                    have hpl : pile.length ≤ 3 := by
                      obtain ⟨ds, _, _, _, _, _, e, _, _, _, _, hd⟩ := hW.ex
                      rw [e, List.length_map, List.length_append]
                      show _ + 1 ≤ 3
                      omega
                    unfold Turn1
                    refine wt_yes ⟨fun _ => ?_, fun z => nomatch z⟩
                    walk_at "W"
                    refine wr_mul (cn l) ?_
                    walk_at "W"
                    refine ⟨_, List.Sublist.refl _, zz (by rw [List.length_map, List.length_map, List.length_take]; omega), rfl, ?_⟩
                    rw [take_succ' hl2, List.map_append, List.map_append] <;> rfl
                  · rintro acc M' pj ⟨rfl, rfl⟩
                    rw [List.length_map, List.take_length]
                    walk_at "W"
                    refine wr_ixL (a := 4) (d := tupI dsc) rfl (by rw [eB]; rfl) ?_
                    walk_at "W"
                    refine wr_mul (cm _) ?_
                    walk_at "X"
                    refine wr_mul (cn _) ?_
                    walk_at "X"
                    refine ⟨5, pmk, mk, rfl, rfl, by omega, fun ps2 ms hms hmem hml => ?_⟩
                    walk_at "W"
                    refine ⟨_, .cons₂ _ (.cons _ (.cons _ (.cons _ (.cons _ (.cons _ (.cons₂ _ (.cons _ (.cons₂ _ (.cons₂ _ .slnil))))))))), ?_⟩
                    exact hk cs3 (S * m) (L * n) (s1.map (far m n)) ms (st * m + m - 1) (pile.map fun l => l * n + n - 1) ⟨rows.map (rowT sh ct), dsc, way.map (mvT sh ct), ring.map (mvT sh ct)⟩ pf ps2 _ (by omega)
                      ⟨⟨S, L, steps, rows, st, pile, way, ring, ext, s1, sh, m, n, hW, hx4, hf2, sh0, by rw [ect]; exact sh1, hrot, hm0, hm1, hn0, hn1, rfl, rfl, rfl, rfl, rfl, by rw [ect], by rw [ect], by rw [ect]⟩, hml, ⟨x0, by rw [ein] at hx0m; exact hx0m, (hmem x0).mpr hxm⟩⟩
end
end A

set_option Elab.async false
set_option linter.all false
set_option maxRecDepth 100000
set_option maxHeartbeats 8000000
namespace A
open PySem PySem.Spec PyProof.Rows L2
local macro_rules | `(tactic| walk_at "at") => `(tactic| first | exact at0 | exact at1 | exact at2 | exact at3 | exact at4 | exact at5 | exact at6 | exact at7)
local macro_rules | `(tactic| walk_at "fl") => `(tactic| first
  | (with_reducible refine' fl_laid (by assumption) ?_) | (with_reducible refine' fl_goal (by assumption) ?_) | (with_reducible refine' fl_state (by assumption) ?_) | (with_reducible refine' fl_letter (by assumption) ?_)
  | (with_reducible refine' fl_steps (by assumption) ?_) | (with_reducible refine' fl_marks (by assumption) ?_) | (with_reducible refine' fl_entries (by assumption) ?_) | (with_reducible refine' fl_weight (by assumption) ?_) | (with_reducible refine' fl_msteps (by assumption) ?_))
local macro_rules | `(tactic| walk_at "ix") => `(tactic| first
  | (with_reducible refine' ix_en0 ?_) | (with_reducible refine' ix_en1 ?_) | (with_reducible refine' ix_en2 ?_) | (with_reducible refine' ix_en3 ?_) | (with_reducible refine' ix_row0 ?_) | (with_reducible refine' ix_row1 ?_) | (with_reducible refine' ix_mv0 ?_) | (with_reducible refine' ix_mvS ?_) | (with_reducible refine' ix_mvN ?_) | (with_reducible refine' ix_mv1 ?_) | (with_reducible refine' ix_hd0 ?_) | (with_reducible refine' ix_hd1 ?_))
local macro_rules | `(tactic| walk_at "v") => `(tactic| first
  | ((with_reducible refine' we_var ?hvar ?_); (case hvar => rfl))
  | (with_reducible refine' we_int ?_)
  | (with_reducible refine' we_op ?_)
  | (with_reducible refine' wr_add ?_) | (with_reducible refine' wr_sub ?_)
  | ((with_reducible refine' wr_ixT ?hix ?_); (case hix => rfl))
  | ((with_reducible refine' wr_mod ?hmod ?_); (case hmod => first | decide | omega | assumption))
  | ((with_reducible refine' wr_div ?hdiv ?_); (case hdiv => exact ⟨by decide, by decide⟩))
  | (with_reducible refine' wr_eqI ?_) | (with_reducible refine' wr_neI ?_) | (with_reducible refine' wr_lt ?_) | (with_reducible refine' wr_le ?_) | (with_reducible refine' wr_gt ?_) | (with_reducible refine' wr_ge ?_)
  | ((with_reducible refine' isn0 ?hisn ?_); (case hisn => rfl)) | ((with_reducible refine' isn1 ?hisn ?_); (case hisn => rfl)) | ((with_reducible refine' ntn0 ?hisn ?_); (case hisn => rfl)) | ((with_reducible refine' ntn1 ?hisn ?_); (case hisn => rfl))
  | (with_reducible refine' wr_isN ?_) | (with_reducible refine' wr_notN ?_) | (with_reducible refine' wr_eqS ?_)
  | (with_reducible refine' d0n ?_) | (with_reducible refine' d1n ?_) | (with_reducible refine' d0 rfl ?_) | (with_reducible refine' d1 rfl ?_) | (with_reducible refine' bl_intro ?_) | (with_reducible refine' int_intro ?_) | ((with_reducible refine' And.intro ?hlen ?_); (case hlen => exact len_le rfl); try (with_reducible intro _))
  | (walk_at "ix")
  | ((with_reducible refine' wr_ixL ?hm ?ha ?_); (case hm => walk_at "at"); (case ha => rfl))
  | (with_reducible refine' we_fldP ?_) | (walk_at "fl")
  | (with_reducible refine' we_tup ?_) | (with_reducible refine' we_lst ?_)
  | (with_reducible refine' wa_nil ?_) | (with_reducible refine' wa_cons ?_)
  | (with_reducible refine' we_non ?_) | (with_reducible refine' we_bl ?_) | (with_reducible refine' we_str ?_) | (with_reducible refine' we_ty ?_)
  | (with_reducible refine' we_cb ?_) | (with_reducible refine' wc_lenI ?_) | (with_reducible refine' wc_lenT ?_) | ((with_reducible refine' wc_lenL ?hat ?_); (case hat => walk_at "at"))
  | (with_reducible refine' wc_tupT ?_) | ((with_reducible refine' wc_tupL ?hat ?_); (case hat => walk_at "at"))
  | (with_reducible refine' wc_listI (fun _ => ?_)) | (with_reducible refine' wc_listT (fun _ => ?_)) | ((with_reducible refine' wc_listL ?hat (fun _ => ?_)); (case hat => walk_at "at"))
  | (with_reducible refine' wt_test ?_) | (with_reducible refine' wt_B ?_) | (with_reducible refine' wt_and ?_) | (with_reducible refine' wt_or ?_) | (with_reducible refine' wt_not ?_) | (with_reducible refine' wt_yes ?_)
  | (with_reducible refine' we_chain ?_) | (with_reducible refine' we_orV ?_) | (with_reducible refine' we_andV ?_) | (with_reducible refine' we_din ?_) | (with_reducible refine' we_neg ?_)
  | (with_reducible refine' we_sl ?_) | (with_reducible refine' wo_no ?_) | (with_reducible refine' wo_part ?_)
  | (with_reducible refine' we_meth ?_) | ((with_reducible refine' tk_intro ?htk ?_); (case htk => decide +kernel)) | (with_reducible refine' we_call ?_)
  | (with_reducible refine' we_app ?_) | (with_reducible refine' we_pop0 ?_)
  | (with_reducible refine' ws_seqA ?_) | (with_reducible refine' ws_seqD ?_) | (with_reducible refine' ws_ret ?_) | (with_reducible refine' ws_asgN ?_) | (with_reducible refine' ws_asg ?_) | (with_reducible refine' ws_drop ?_) | (with_reducible refine' ws_nx ?_)
  | (with_reducible refine' ws_seqG ?_)
  | (with_reducible refine' wg_name ?_) | (with_reducible refine' wg_tup rfl ?_) | (with_reducible refine' wg_row ?_) | (with_reducible refine' wg_mv ?_) | (with_reducible refine' wgs_cons ?_) | (with_reducible refine' wgs_nil ?_))
local macro_rules | `(tactic| walk_at "w") => `(tactic| first | (walk_at "v") | (with_reducible refine' ws_seqI ?_) | (with_reducible refine' ws_seqJ ?_) | (with_reducible refine' ws_if ?_))
local macro_rules | `(tactic| walk_at "W") => `(tactic| repeat walk_at "w")
local macro_rules | `(tactic| walk_at "V") => `(tactic| repeat walk_at "v")
local macro_rules | `(tactic| walk_at "sp") => `(tactic| repeat first | exact Split.nil | refine' Split.take ?_ | refine' Split.leave ?_)
section
variable {P : Program} {w : World} {K : PySem.W.Frag} {mg : Str → Option Value} {base : Heap}
theorem atI_int {xs : List Int} {i x : Int} (h0 : 0 ≤ i) (h : xs[i.toNat]? = some x) : atI xs i = some x := by
  have hl := (List.getElem?_eq_some_iff.mp h).1
  unfold L2.atI
  rw [ixN_in h0 (by omega)]
  exact h
/-- the numbers drawn from the script, which stands as it is -/
def sNumbers : List Int → List D → (D → Mm → Prop) → Prop := fun ns ds k => ∃ n : Nat, ds = [.int n] ∧ n ≤ 1000 ∧ ns.length ≤ 100 ∧ ∀ (r : Addr) (cs : List Int), cs.length = n → k (.obj r) [(r, cs.map D.int)]
theorem scLawNumbers : FnScope ["_law_script", "_law_count", "_law_rest", "_law_by_digits", "_law_numbers_here", "_law_k", "_law_cell"] ["_law_script", "_law_count"] K69.dLawNumbers.scope := ⟨rfl, rfl, rfl, by decide +kernel, rfl, by decide +kernel, by decide +kernel⟩
theorem ok_numbers (T : Txt K mg) : Ok1 P w K mg base K69.dLawNumbers 1 ["_law_script", "_law_count"] (spF K sNumbers) := by
  refine mk_okF (N := ["_law_script", "_law_count", "_law_rest", "_law_by_digits", "_law_numbers_here", "_law_k", "_law_cell"]) (T.c.def_ 13 (d := K69.dLawNumbers) rfl) scLawNumbers rfl (fun _ _ _ _ _ _ us hl => match us, hl with | [_, _], _ => rfl) ?_ (fun cdv A outer s H E hr => ⟨_, (pss_cons (ps_set (i := 2) scLawNumbers.nd rfl (by first | exact Or.inl rfl | exact Or.inr rfl) (pe_int))
  (pss_cons (ps_if (pt_cmpR op_gt (pe_callB call_lenX (by rfl) (T.free 53) (by decide +kernel) (pa_cons (pv 0) pa_nil)) pe_int (nomark _)) (pss_one (ps_set (i := 2) scLawNumbers.nd rfl (by first | exact Or.inl rfl | exact Or.inr rfl) (pe_ix ix_seq (pv 0) pe_int (fun _ _ => rfl)))) pss_nil)
  (pss_cons (ps_set (i := 3) scLawNumbers.nd rfl (by first | exact Or.inl rfl | exact Or.inr rfl) (pe_cmpR op_ge (pv 2) (pe_op op_pow pe_int pe_int) (nomark _)))
  (pss_cons (ps_set (i := 4) scLawNumbers.nd rfl (by first | exact Or.inl rfl | exact Or.inr rfl) (pe_lst pa_nil))
  (pss_cons (ps_for PassesOwn.never rfl (pi_range1 (by rfl) (T.free 56) (pa_cons (pv 1) pa_nil)) (pg_name (i := 5) scLawNumbers.nd rfl (by first | exact Or.inl rfl | exact Or.inr rfl)) (pss_one (ps_if (PW.pt (pw_and (pt_val (pv 3)) (pw_and1 (pt_cmpR op_gt (pv 2) pe_int (nomark _))))) (pss_cons (ps_expr (pe_bm PySem.F.plainAttrs_list PySem.F.slot_list_append PySem.F.type_list_append mt_append (pv 4) (pa_cons (pe_op op_mod (pv 2) pe_int) pa_nil)))
  (pss_one (ps_set (i := 2) scLawNumbers.nd rfl (by first | exact Or.inl rfl | exact Or.inr rfl) (pe_op op_fdiv (pv 2) pe_int)))) (pss_cons (ps_set (i := 6) scLawNumbers.nd rfl (by first | exact Or.inl rfl | exact Or.inr rfl) (pe_int))
  (pss_cons (ps_if (pt_cmpR op_gt (pe_callB call_lenX (by rfl) (T.free 53) (by decide +kernel) (pa_cons (pv 0) pa_nil)) pe_int (nomark _)) (pss_one (ps_set (i := 6) scLawNumbers.nd rfl (by first | exact Or.inl rfl | exact Or.inr rfl) (pe_op op_addX (pe_ix ix_seq (pv 0) (pe_op op_mod (pv 5) (pe_callB call_lenX (by rfl) (T.free 53) (by decide +kernel) (pa_cons (pv 0) pa_nil))) (fun _ _ => rfl)) (pe_op op_mul pe_int (pv 5))))) pss_nil)
  (pss_one (ps_expr (pe_bm PySem.F.plainAttrs_list PySem.F.slot_list_append PySem.F.type_list_append mt_append (pv 4) (pa_cons (pe_op op_mod (pe_op op_mod (pe_op op_mul (pe_op op_mod (pe_op op_mul (pv 6) pe_int) pe_int) pe_int) pe_int) pe_int) pa_nil)))))))))
  (pss_one (ps_ret (pv 4)))))))), fun p ns ds k Γ hs hw hq => ?_⟩)
  · rintro _ _ _ ⟨_, rfl, _⟩
    rfl
  · obtain ⟨n, rfl, hn, hl, hk⟩ := hs
    change WS _ _ _ [_, _, _, _, _, _, _] _; dsimp only [cxOf, Cx.nox, Cx.wish]
    have zz : ∀ {a : Nat}, a ≤ 4000 → a < sizeLine := fun {a} h => Nat.lt_of_le_of_lt h (by decide)
    walk_at "V"
    refine ws_mid (fun env M => ∃ r : Int, M = [] ∧ env = [some (.obj p), some (.int n), some (.int r), none, none, none, none]) ?_ ?_
    · walk_at "W"
      refine wc_lenS hw hq ?_
      walk_at "W"
      refine di (fun h0 => ?_) (fun h0 => ?_)
      · walk_at "W"
        obtain ⟨x, hx⟩ := get_lt (xs := ns) (i := 0) (by omega)
        refine wr_ixS (n := x) hw hq (atI_int (by decide) hx) ?_
        walk_at "W"
        exact ⟨_, rfl, rfl⟩
      · walk_at "W"
        exact ⟨_, rfl, rfl⟩
    · rintro env M ⟨r, rfl, rfl⟩
      walk_at "W"
      refine wr_pow ⟨by decide, by decide, by decide⟩ ?_
      walk_at "W"
      rename_i pl
      generalize decide ((10 : Int) ^ (Int.toNat 18) ≤ r) = bd
      refine ws_seq (ws_forR (fun i env M => ∃ (cs : List Int) (r : Int) (a b : Option D), M = [(pl, cs.map D.int)] ∧ env = [some (.obj p), some (.int n), some (.int r), some (.bl bd), some (.obj pl), a, b] ∧ cs.length = i) ?_)
      walk_at "W"
      refine ⟨_, rfl, by omega, by omega, ⟨[], r, none, none, rfl, rfl, rfl⟩, ?_, ?_⟩
      · rintro i env M hi ⟨cs, r, a, b, rfl, rfl, hcl⟩
        have app : ∀ x : Int, cs.map D.int ++ [D.int x] = (cs ++ [x]).map D.int := fun x => by rw [List.map_append] <;> rfl
        have lap : ∀ x : Int, (cs ++ [x]).length = i + 1 := fun x => by rw [List.length_append, hcl]; rfl
        have other : WS Γ (tSeq
              (tIfS
                (tTest
                  (tOp (rI0 fun i j => V.bl (decide (j < i))) (tCB (rLenX K) (tCons (tVar 0) tNil)) (tC (V.int 0))))
                (tAsg
                  (tOp (rAddX K)
                    (tOp (rIx K) (tVar 0)
                      (tOp (rI (fun x j => 0 < j) fun i j => V.int (i % j)) (tVar 5)
                        (tCB (rLenX K) (tCons (tVar 0) tNil))))
                    (tOp (rI CMul fun i j => V.int (i * j)) (tC (V.int 7919)) (tVar 5)))
                  (gName 6))
                tNext)
              (tDrop
                (tBM K "list" rAppend (tVar 4)
                  (tCons
                    (tOp (rI (fun x j => 0 < j) fun i j => V.int (i % j))
                      (tOp (rI (fun x j => 0 < j) fun i j => V.int (i % j))
                        (tOp (rI CMul fun i j => V.int (i * j))
                          (tOp (rI (fun x j => 0 < j) fun i j => V.int (i % j))
                            (tOp (rI CMul fun i j => V.int (i * j)) (tVar 6) (tC (V.int 48271)))
                            (tC (V.int 2147483647)))
                          (tC (V.int 69621)))
                        (tC (V.int 2147483629)))
                      (tC (V.int 1000000)))
                    tNil)))) (AE.turn { nx := fun env' M' => WS Γ (tRet (tVar 4)) { nx := fun x M => ∃ M2, List.Sublist M2 M ∧ k D.non M2, rt := fun d M => ∃ M2, List.Sublist M2 M ∧ k d M2 } env' M', rt := fun d M => ∃ M2, List.Sublist M2 M ∧ k d M2 } fun env M => ∃ (cs : List Int) (r : Int) (a b : Option D), M = [(pl, cs.map D.int)] ∧ env = [some (.obj p), some (.int n), some (.int r), some (.bl bd), some (.obj pl), a, b] ∧ cs.length = i + 1) [some (.obj p), some (.int n), some (.int r), some (.bl bd), some (.obj pl), some (.int i), some (.int 13)] [(pl, cs.map D.int)] := by
          refine ws_mid (fun env M => ∃ x : Int, M = [(pl, cs.map D.int)] ∧ env = [some (.obj p), some (.int n), some (.int r), some (.bl bd), some (.obj pl), some (.int i), some (.int x)]) ?_ ?_
          · walk_at "W"
            refine wc_lenS hw hq ?_
            walk_at "W"
            refine di (fun h0 => ?_) (fun h0 => ?_)
            · walk_at "W"
              refine wc_lenS hw hq ?_
              obtain ⟨m0, m1⟩ := mod_in (a := (i : Int)) (show 0 < ns.length by omega)
              obtain ⟨x, hx⟩ := get_in m0 m1
              walk_at "W"
              refine wr_ixS (n := x) hw hq (atI_int m0 hx) ?_
              walk_at "W"
              refine wr_mul (.inl ⟨by decide, by decide⟩) ?_
              walk_at "W"
              exact ⟨_, rfl, rfl⟩
            · walk_at "W"
              exact ⟨_, rfl, rfl⟩
          · rintro env M ⟨x, rfl, rfl⟩
            walk_at "W"
            refine ⟨pl, rfl, ⟨0, _, rfl⟩, ?_⟩
            walk_at "W"
            refine wr_mul (.inr ⟨by decide, by decide⟩) ?_
            walk_at "W"
            refine wr_mul (.inr ⟨by decide, by decide⟩) ?_
            walk_at "W"
            refine ⟨0, _, rfl, zz (by rw [List.length_map]; omega), ?_⟩
            exact ⟨_, r, _, _, by rw [app] <;> rfl, rfl, lap _⟩
        cases bd with
        | false =>
          walk_at "V"
          refine ws_if ?_
          walk_at "V"
          exact other
        | true =>
          walk_at "V"
          refine ws_if ?_
          walk_at "V"
          refine di (fun h0 => ?_) (fun h0 => ?_)
          · walk_at "W"
            refine ⟨pl, rfl, ⟨0, _, rfl⟩, ?_⟩
            walk_at "W"
            refine ⟨0, _, rfl, zz (by rw [List.length_map]; omega), ?_⟩
            walk_at "W"
            exact ⟨_, _, _, _, by rw [app] <;> rfl, rfl, lap _⟩
          · walk_at "V"
            exact other
      · rintro env M ⟨cs, r, a, b, rfl, rfl, hcl⟩
        walk_at "W"
        exact ⟨_, List.Sublist.refl _, hk pl cs (by rw [hcl]; omega)⟩
end
end A

set_option Elab.async false
set_option linter.all false
set_option maxRecDepth 100000
set_option maxHeartbeats 8000000
namespace A
open PySem PySem.Spec PyProof.Rows L2
local macro_rules | `(tactic| walk_at "at") => `(tactic| first | exact at0 | exact at1 | exact at2 | exact at3 | exact at4 | exact at5 | exact at6 | exact at7)
local macro_rules | `(tactic| walk_at "fl") => `(tactic| first
  | (with_reducible refine' fl_laid (by assumption) ?_) | (with_reducible refine' fl_goal (by assumption) ?_) | (with_reducible refine' fl_state (by assumption) ?_) | (with_reducible refine' fl_letter (by assumption) ?_)
  | (with_reducible refine' fl_steps (by assumption) ?_) | (with_reducible refine' fl_marks (by assumption) ?_) | (with_reducible refine' fl_entries (by assumption) ?_) | (with_reducible refine' fl_weight (by assumption) ?_) | (with_reducible refine' fl_msteps (by assumption) ?_))
local macro_rules | `(tactic| walk_at "ix") => `(tactic| first
  | (with_reducible refine' ix_en0 ?_) | (with_reducible refine' ix_en1 ?_) | (with_reducible refine' ix_en2 ?_) | (with_reducible refine' ix_en3 ?_) | (with_reducible refine' ix_row0 ?_) | (with_reducible refine' ix_row1 ?_) | (with_reducible refine' ix_mv0 ?_) | (with_reducible refine' ix_mvS ?_) | (with_reducible refine' ix_mvN ?_) | (with_reducible refine' ix_mv1 ?_) | (with_reducible refine' ix_hd0 ?_) | (with_reducible refine' ix_hd1 ?_))
local macro_rules | `(tactic| walk_at "v") => `(tactic| first
  | ((with_reducible refine' we_var ?hvar ?_); (case hvar => rfl))
  | (with_reducible refine' we_int ?_)
  | (with_reducible refine' we_op ?_)
  | (with_reducible refine' wr_add ?_) | (with_reducible refine' wr_sub ?_)
  | ((with_reducible refine' wr_ixT ?hix ?_); (case hix => rfl))
  | ((with_reducible refine' wr_mod ?hmod ?_); (case hmod => first | decide | omega | assumption))
  | ((with_reducible refine' wr_div ?hdiv ?_); (case hdiv => exact ⟨by decide, by decide⟩))
  | (with_reducible refine' wr_eqI ?_) | (with_reducible refine' wr_neI ?_) | (with_reducible refine' wr_lt ?_) | (with_reducible refine' wr_le ?_) | (with_reducible refine' wr_gt ?_) | (with_reducible refine' wr_ge ?_)
  | ((with_reducible refine' isn0 ?hisn ?_); (case hisn => rfl)) | ((with_reducible refine' isn1 ?hisn ?_); (case hisn => rfl)) | ((with_reducible refine' ntn0 ?hisn ?_); (case hisn => rfl)) | ((with_reducible refine' ntn1 ?hisn ?_); (case hisn => rfl))
  | (with_reducible refine' wr_isN ?_) | (with_reducible refine' wr_notN ?_) | (with_reducible refine' wr_eqS ?_)
  | (with_reducible refine' d0n ?_) | (with_reducible refine' d1n ?_) | (with_reducible refine' d0 rfl ?_) | (with_reducible refine' d1 rfl ?_) | (with_reducible refine' bl_intro ?_) | (with_reducible refine' int_intro ?_) | ((with_reducible refine' And.intro ?hlen ?_); (case hlen => exact len_le rfl); try (with_reducible intro _))
  | (walk_at "ix")
  | ((with_reducible refine' wr_ixL ?hm ?ha ?_); (case hm => walk_at "at"); (case ha => rfl))
  | (with_reducible refine' we_fldP ?_) | (walk_at "fl")
  | (with_reducible refine' we_tup ?_) | (with_reducible refine' we_lst ?_)
  | (with_reducible refine' wa_nil ?_) | (with_reducible refine' wa_cons ?_)
  | (with_reducible refine' we_non ?_) | (with_reducible refine' we_bl ?_) | (with_reducible refine' we_str ?_) | (with_reducible refine' we_ty ?_)
  | (with_reducible refine' we_cb ?_) | (with_reducible refine' wc_lenI ?_) | (with_reducible refine' wc_lenT ?_) | ((with_reducible refine' wc_lenL ?hat ?_); (case hat => walk_at "at"))
  | (with_reducible refine' wc_tupT ?_) | ((with_reducible refine' wc_tupL ?hat ?_); (case hat => walk_at "at"))
  | (with_reducible refine' wc_listI (fun _ => ?_)) | (with_reducible refine' wc_listT (fun _ => ?_)) | ((with_reducible refine' wc_listL ?hat (fun _ => ?_)); (case hat => walk_at "at"))
  | (with_reducible refine' wt_test ?_) | (with_reducible refine' wt_B ?_) | (with_reducible refine' wt_and ?_) | (with_reducible refine' wt_or ?_) | (with_reducible refine' wt_not ?_) | (with_reducible refine' wt_yes ?_)
  | (with_reducible refine' we_chain ?_) | (with_reducible refine' we_orV ?_) | (with_reducible refine' we_andV ?_) | (with_reducible refine' we_din ?_) | (with_reducible refine' we_neg ?_)
  | (with_reducible refine' we_sl ?_) | (with_reducible refine' wo_no ?_) | (with_reducible refine' wo_part ?_)
  | (with_reducible refine' we_meth ?_) | ((with_reducible refine' tk_intro ?htk ?_); (case htk => decide +kernel)) | (with_reducible refine' we_call ?_)
  | (with_reducible refine' we_app ?_) | (with_reducible refine' we_pop0 ?_)
  | (with_reducible refine' ws_seqA ?_) | (with_reducible refine' ws_seqD ?_) | (with_reducible refine' ws_ret ?_) | (with_reducible refine' ws_asgN ?_) | (with_reducible refine' ws_asg ?_) | (with_reducible refine' ws_drop ?_) | (with_reducible refine' ws_nx ?_)
  | (with_reducible refine' ws_seqG ?_)
  | (with_reducible refine' wg_name ?_) | (with_reducible refine' wg_tup rfl ?_) | (with_reducible refine' wg_row ?_) | (with_reducible refine' wg_mv ?_) | (with_reducible refine' wgs_cons ?_) | (with_reducible refine' wgs_nil ?_))
local macro_rules | `(tactic| walk_at "w") => `(tactic| first | (walk_at "v") | (with_reducible refine' ws_seqI ?_) | (with_reducible refine' ws_seqJ ?_) | (with_reducible refine' ws_if ?_))
local macro_rules | `(tactic| walk_at "W") => `(tactic| repeat walk_at "w")
local macro_rules | `(tactic| walk_at "V") => `(tactic| repeat walk_at "v")
local macro_rules | `(tactic| walk_at "sp") => `(tactic| repeat first | exact Split.nil | refine' Split.take ?_ | refine' Split.leave ?_)
section
variable {P : Program} {w : World} {K : PySem.W.Frag} {mg : Str → Option Value} {base : Heap}
theorem chg_rows {p p' : Paper} (h : PapChg p p') : p'.rows.length ≤ p.rows.length + 1 := by
  rcases h with ⟨_, _, _, h⟩ | ⟨h, _⟩
  · rcases h with ⟨x, e⟩ | ⟨i, r, r', _, _, e⟩ | ⟨i, e⟩ | ⟨i, r, hr, e⟩ | ⟨i, r, hr, e⟩
    · rw [e]; show 1 ≤ _; omega
    · rw [e, List.length_set]; omega
    · rw [e, List.length_append, List.length_take, List.length_drop]; omega
    · have := (List.getElem?_eq_some_iff.mp hr).1
      rw [e]
      simp only [List.length_append, List.length_take, List.length_drop, List.length_singleton]
      omega
    · have := (List.getElem?_eq_some_iff.mp hr).1
      rw [e]
      simp only [List.length_append, List.length_take, List.length_drop, List.length_singleton]
      omega
  · rw [h]; omega
def sLaw : List Int → List D → (D → Mm → Prop) → Prop := fun ns ds k => ds = [] ∧ ns.length ≤ 63 ∧ k (.bl true) []
theorem scLaw : FnScope ["_law_script", "_law_cells", "_law_question_here", "_law_letters", "_law_steps", "_law_marked", "_law_machine", "_law_number", "_law_below", "_law_configuration", "_law_paper", "_law_k", "_law_actual"] ["_law_script"] K69.dLaw.scope := ⟨rfl, rfl, rfl, by decide +kernel, rfl, by decide +kernel, by decide +kernel⟩
theorem ok_law (T : Txt K mg) (oLawNumbers : Ok1 P w K mg base K69.dLawNumbers 1 ["_law_script", "_law_count"] (spF K sNumbers)) (oLawQuestion : Ok1 P w K mg base K69.dLawQuestion 6 ["_law_cells"] (spOf sQuestion)) (oLawMade : Ok1 P w K mg base K69.dLawMade 4 ["_law_states", "_law_letters", "_law_steps"] (spOf (sMade K)))
    (oTakesEndless : Ok1 P w K mg base K69.dTakesEndless 5 ["machine", "marked", "configuration", "verdict", "paper"] (spOf (sTakesEndless K))) (oLawGoesOn : Ok1 P w K mg base K69.dLawGoesOn 3 ["_law_steps", "_law_marked", "_law_configuration", "_law_paper"] (spOf sGoesOn)) (oLawChanged : Ok1 P w K mg base K69.dLawChanged 3 ["_law_kind", "_law_number", "_law_paper", "_law_count"] (spOf sChanged)) :
    Ok1 P w K mg base K69.dLaw 7 ["_law_script"] (spF K sLaw) := by
  refine mk_okF (N := ["_law_script", "_law_cells", "_law_question_here", "_law_letters", "_law_steps", "_law_marked", "_law_machine", "_law_number", "_law_below", "_law_configuration", "_law_paper", "_law_k", "_law_actual"]) (T.c.def_ 35 (d := K69.dLaw) rfl) scLaw rfl (fun _ _ _ _ _ _ us hl => match us, hl with | [_], _ => rfl) ?_ (fun cdv A outer s H E hr => ⟨_, (pss_cons (ps_set (i := 1) scLaw.nd rfl (by first | exact Or.inl rfl | exact Or.inr rfl) (pe_fn oLawNumbers rfl (hr.mono (by decide)) rfl (T.glo 6) (pa_cons (pv 0) (pa_cons pe_int pa_nil))))
  (pss_cons (ps_set (i := 2) scLaw.nd rfl (by first | exact Or.inl rfl | exact Or.inr rfl) (pe_fn oLawQuestion rfl hr rfl (T.glo 15) (pa_cons (pv 1) pa_nil)))
  (pss_cons (ps_set (i := 3) scLaw.nd rfl (by first | exact Or.inl rfl | exact Or.inr rfl) (pe_ix ix_seq (pv 2) pe_int (fun _ _ => rfl)))
  (pss_cons (ps_set (i := 4) scLaw.nd rfl (by first | exact Or.inl rfl | exact Or.inr rfl) (pe_ix ix_seq (pv 2) pe_int (fun _ _ => rfl)))
  (pss_cons (ps_set (i := 5) scLaw.nd rfl (by first | exact Or.inl rfl | exact Or.inr rfl) (pe_ix ix_seq (pv 2) pe_int (fun _ _ => rfl)))
  (pss_cons (ps_set (i := 6) scLaw.nd rfl (by first | exact Or.inl rfl | exact Or.inr rfl) (pe_fn oLawMade rfl (hr.mono (by decide)) rfl (T.glo 16) (pa_cons (pe_ix ix_seq (pv 2) pe_int (fun _ _ => rfl)) (pa_cons (pv 3) (pa_cons (pv 4) pa_nil)))))
  (pss_cons (ps_set (i := 7) scLaw.nd rfl (by first | exact Or.inl rfl | exact Or.inr rfl) (pe_bm PySem.F.plainAttrs_list PySem.F.slot_list_pop PySem.F.type_list_pop mt_popAt (pv 1) (pa_cons pe_int pa_nil)))
  (pss_cons (ps_set (i := 8) scLaw.nd rfl (by first | exact Or.inl rfl | exact Or.inr rfl) (pe_slice sl_X (pe_tup (pa_cons (pe_op op_mod (pv 7) (pv 3)) (pa_cons (pe_op op_mod (pe_op op_fdiv (pv 7) pe_int) (pv 3)) (pa_cons (pe_op op_mod (pe_op op_fdiv (pv 7) pe_int) (pv 3)) pa_nil)))) po_none (po_some (pe_op op_mod (pe_op op_fdiv (pv 7) pe_int) pe_int))))
  (pss_cons (ps_set (i := 9) scLaw.nd rfl (by first | exact Or.inl rfl | exact Or.inr rfl) (pe_tup (pa_cons (pe_ix ix_seq (pe_ix ix_seq (pv 2) pe_int (fun _ _ => rfl)) pe_int (fun _ _ => rfl)) (pa_cons (pe_op op_addX (pe_ix ix_seq (pe_ix ix_seq (pv 2) pe_int (fun _ _ => rfl)) pe_int (fun _ _ => rfl)) (pv 8)) pa_nil))))
  (pss_cons (ps_set (i := 10) scLaw.nd rfl (by first | exact Or.inl rfl | exact Or.inr rfl) (pe_ix ix_seq (pv 2) pe_int (fun _ _ => rfl)))
  (pss_cons (ps_if (pt_cmpR op_notBl (pe_fn oTakesEndless rfl (hr.mono (by decide)) rfl (T.glo 4) (pa_cons (pv 6) (pa_cons (pe_callTy call_tupX (by rfl) (T.free 55) (by decide +kernel) (pa_cons (pv 5) pa_nil)) (pa_cons (pv 9) (pa_cons pe_bl (pa_cons (pv 10) pa_nil)))))) pe_bl (nomark _)) (pss_one (ps_ret (pe_bl))) pss_nil)
  (pss_cons (ps_for PassesOwn.never rfl (pi_range1 (by rfl) (T.free 56) (pa_cons pe_int pa_nil)) (pg_name (i := 11) scLaw.nd rfl (by first | exact Or.inl rfl | exact Or.inr rfl)) (pss_cons (ps_set (i := 12) scLaw.nd rfl (by first | exact Or.inl rfl | exact Or.inr rfl) (pe_fn oTakesEndless rfl (hr.mono (by decide)) rfl (T.glo 4) (pa_cons (pv 6) (pa_cons (pe_callTy call_tupX (by rfl) (T.free 55) (by decide +kernel) (pa_cons (pv 5) pa_nil)) (pa_cons (pv 9) (pa_cons pe_bl (pa_cons (pv 10) pa_nil)))))))
  (pss_cons (ps_if (pt_not (pt_val (pe_callB call_isi (by rfl) (T.free 61) (by decide +kernel) (pa_cons (pv 12) (pa_cons (pe_bltn (v := .ty "bool") (by rfl) (T.free 62) (by decide +kernel) rfl) pa_nil))))) (pss_one (ps_ret (pe_bl))) pss_nil)
  (pss_cons (ps_if (PW.pt (pw_and (pt_val (pv 12)) (pw_and1 (pt_not (pt_val (pe_fn oLawGoesOn rfl (hr.mono (by decide)) rfl (T.glo 27) (pa_cons (pv 4) (pa_cons (pv 5) (pa_cons (pv 9) (pa_cons (pv 10) pa_nil)))))))))) (pss_one (ps_ret (pe_bl))) pss_nil)
  (pss_one (ps_set (i := 10) scLaw.nd rfl (by first | exact Or.inl rfl | exact Or.inr rfl) (pe_fn oLawChanged rfl (hr.mono (by decide)) rfl (T.glo 22) (pa_cons (pe_op op_mod (pe_bm PySem.F.plainAttrs_list PySem.F.slot_list_pop PySem.F.type_list_pop mt_popAt (pv 1) (pa_cons pe_int pa_nil)) pe_int) (pa_cons (pe_bm PySem.F.plainAttrs_list PySem.F.slot_list_pop PySem.F.type_list_pop mt_popAt (pv 1) (pa_cons pe_int pa_nil)) (pa_cons (pe_ix ix_seq (pv 2) pe_int (fun _ _ => rfl)) (pa_cons (pe_callB call_lenX (by rfl) (T.free 53) (by decide +kernel) (pa_cons (pv 4) pa_nil)) pa_nil)))))))))))
  (pss_one (ps_ret (pe_bl))))))))))))))), fun p ns ds k Γ hs hw hq => ?_⟩)
  · rintro _ _ _ ⟨rfl, _⟩
    rfl
  · obtain ⟨rfl, hl, hk⟩ := hs
    change WS _ _ _ [_, _, _, _, _, _, _, _, _, _, _, _, _] _; dsimp only [cxOf, Cx.nox, Cx.wish]
    have zz : ∀ {a : Nat}, a ≤ 4000 → a ≤ sizeLine := fun {a} h => Nat.le_trans h (by decide)
    walk_at "W"
    refine we_callF ?_
    walk_at "W"
    obtain ⟨sp, esp⟩ : ∃ sp, sp = p := ⟨_, rfl⟩
    rw [← esp] at hq ⊢
    refine ⟨sp, ns, _, rfl, hw, hq, 140, rfl, by decide, by omega, fun pc cs hcs => ?_⟩
    walk_at "W"
    refine ⟨_, [], Split.all _, pc, cs, rfl, rfl, by omega, fun cs1 nst nle steps ms st pile p pf pm pq hc1 hQ => ?_⟩
    obtain ⟨z1, z2, z3, z4, z5, z6, z7, z8, z9, z10⟩ := hQ.size
    obtain ⟨c1, cs1, rfl⟩ : ∃ c r, cs1 = c :: r := by
      cases cs1 with
      | nil => exact absurd hc1 (by simp; omega)
      | cons c r => exact ⟨c, r, rfl⟩
    have hc2 : cs.length ≤ cs1.length + 1 + 126 := hc1
    walk_at "W"
    refine ⟨_, _, .leave (.take (.leave (.leave .nil))), nst, nle, pf, steps, rfl, rfl, z1, z2, by omega, z3, ?_⟩
    walk_at "W"
    refine ⟨_, 0, _, _, rfl, rfl, ?_⟩
    walk_at "W"
    obtain ⟨below, eb, hbl⟩ : ∃ below : List Int, cutD [D.int (c1 % nle), D.int (c1 / 3 % nle), D.int (c1 / 9 % nle)] none (some (c1 / 27 % 4)) = below.map D.int ∧ below.length ≤ 3 := by
      refine ⟨[c1 % nle, c1 / 3 % nle, c1 / 9 % nle].take (c1 / 27 % 4).toNat, ?_, List.length_take_le' _ _⟩
      rw [cut_takeI (Int.emod_nonneg _ (by decide)), List.map_take] <;> rfl
    refine .inl ⟨_, rfl, ?_⟩
    rw [eb]
    walk_at "W"
    refine ix_cg0 ?_
    walk_at "W"
    refine ix_cg1 ?_
    walk_at "W"
    refine wr_catI (xs := pile) (ys := below) (zz (by omega)) ?_
    have hsh := hQ.shows below
    walk_at "W"
    refine ⟨[], _, Split.none _, nst, nle, steps, ms, st, pile ++ below, p, rfl, rfl, by have := hQ.ms1; omega, by omega, ?_⟩
    rw [hsh]
    walk_at "W"
    refine wr_notB ?_
    walk_at "W"
    refine ws_pick [0, 3, 1, 2] (by decide) ?_
    refine ws_seq (ws_forR (fun i env M => ∃ (cs' : List Int) (p' : Paper) (a b : Option D), M = [(pc, cs'.map D.int), (pf, steps.map lsD), (pm, ms.map D.int), (pq, [.int nst, .int nle, .obj pf, .obj pm, cgD st pile, papD p])] ∧
      env = [some (.obj sp), some (.obj pc), some (.obj pq), some (.int nle), some (.obj pf), some (.obj pm), some (macD K nst nle steps), some (.int c1), some (tupI below), some (cgD st (pile ++ below)), some (papD p'), a, b] ∧ (i ≤ 4 → cs1.length = cs'.length + 2 * i) ∧ (p' = p ∨ PapChg p p')) ?_)
    walk_at "W"
    refine ⟨4, rfl, by decide, by decide, ⟨cs1, p, none, none, rfl, rfl, fun _ => rfl, .inl rfl⟩, ?_, ?_⟩
    · rintro i env M hi ⟨cs', p', a, b, rfl, rfl, hcc, hch⟩
      have hcc := hcc (by omega)
      obtain ⟨y1, cs', rfl⟩ : ∃ c r, cs' = c :: r := by
        cases cs' with
        | nil => exact absurd hcc (by simp; omega)
        | cons c r => exact ⟨c, r, rfl⟩
      obtain ⟨y2, cs', rfl⟩ : ∃ c r, cs' = c :: r := by
        cases cs' with
        | nil => exact absurd hcc (by simp; omega)
        | cons c r => exact ⟨c, r, rfl⟩
      have hcc2 : cs1.length = cs'.length + 1 + 1 + 2 * i := hcc
      have k0 : 0 ≤ y1 % 22 := Int.emod_nonneg _ (by decide)
      have k1 : y1 % 22 < 22 := Int.emod_lt_of_pos _ (by decide)
      refine wg_name (ws_pickE ?_)
      walk_at "W"
      refine ⟨[], _, Split.none _, nst, nle, steps, ms, st, pile ++ below, p', rfl, rfl, by have := hQ.ms1; omega, ?_, ?_⟩
      · rcases hch with e | e
        · rw [e]; omega
        · have := chg_rows e; omega
      · cases hsh2 : shows steps ms st (pile ++ below) p' with
        | false =>
          walk_at "W"
          refine wc_isiB ?_
          walk_at "W"
          refine ⟨_, 0, _, _, rfl, rfl, ?_⟩
          walk_at "W"
          refine ⟨_, 0, _, _, rfl, rfl, ?_⟩
          walk_at "W"
          rw [List.length_map]
          refine ⟨[], _, Split.none _, y1 % 22, y2, steps.length, p, rfl, rfl, k0, k1, by omega, by omega, z6, by omega, by omega, by omega, fun p2 hp2 => ?_⟩
          walk_at "W"
          exact ⟨[0, 1, 2, 3], by decide, cs', p2, _, _, rfl, rfl, fun _ => by omega, .inr hp2⟩
        | true =>
          walk_at "W"
          refine wc_isiB ?_
          walk_at "W"
          refine ⟨_, _, .leave (.take (.take (.leave .nil))), pf, pm, steps, ms, st, pile ++ below, p', rfl, rfl, hQ.sound hbl hch hsh2, ?_⟩
          refine ⟨true, rfl, fun z => (nomatch z), fun _ => ?_⟩
          walk_at "W"
          refine ⟨_, 0, _, _, rfl, rfl, ?_⟩
          walk_at "W"
          refine ⟨_, 0, _, _, rfl, rfl, ?_⟩
          walk_at "W"
          rw [List.length_map]
          refine ⟨[], _, Split.none _, y1 % 22, y2, steps.length, p, rfl, rfl, k0, k1, by omega, by omega, z6, by omega, by omega, by omega, fun p2 hp2 => ?_⟩
          walk_at "W"
          exact ⟨[0, 2, 3, 1], by decide, cs', p2, _, _, rfl, rfl, fun _ => by omega, .inr hp2⟩
    · rintro env M ⟨cs', p', a, b, rfl, rfl, hcc, hch⟩
      walk_at "W"
      exact ⟨[], List.nil_sublist _, hk⟩
end
end A

set_option Elab.async false
set_option linter.all false
set_option maxRecDepth 100000
set_option maxHeartbeats 4000000
/-! All defs together; the statement. -/
namespace A
open PySem PySem.Spec PyProof.Rows L2
section
variable {P : Program} {w : World} {K : PySem.W.Frag} {mg : Str → Option Value} {base : Heap}
theorem all_ok (T : Txt K mg) : Ok1 P w K mg base K69.dLaw 7 ["_law_script"] (spF K sLaw) := by
  have eStep : Ok1 P w K mg base _ _ _ _ := ok_step_at T
  have eEntry : Ok1 P w K mg base _ _ _ _ := ok_entry T
  have eRead : Ok1 P w K mg base _ _ _ _ := ok_read T eStep eEntry
  have eMove : Ok1 P w K mg base _ _ _ _ := ok_move T eStep eEntry
  have eOf : Ok1 P w K mg base _ _ _ _ := ok_takings_of T (ok_takInit T) eRead
  have eWalk : Ok1 P w K mg base _ _ _ _ := ok_walk T eMove
  have eHead : Ok1 P w K mg base _ _ _ _ := ok_head_behind T eEntry
  have eShows : Ok1 P w K mg base _ _ _ _ := ok_shows_ever T eOf eHead eWalk
  have eTakes : Ok1 P w K mg base _ _ _ _ := ok_takes_endless T eShows
  have eFits : Ok1 P w K mg base _ _ _ _ := ok_fits T
  have eMade : Ok1 P w K mg base _ _ _ _ := ok_made T (ok_stepInit T) (ok_macInit T eFits)
  have eFol : Ok1 P w K mg base _ _ _ _ := ok_followed T
  have eBeh : Ok1 P w K mg base _ _ _ _ := ok_behind T eFol
  have eGoes : Ok1 P w K mg base _ _ _ _ := ok_goes_on T (ok_runs T) (ok_run_of T) eFol eBeh
  have eChanged : Ok1 P w K mg base _ _ _ _ := ok_changed T (ok_changed_rows T (ok_changed_row T)) (ok_changed_descent T) (ok_changed_moves T (ok_changed_move T))
  have eTake : Ok1 P w K mg base _ _ _ _ := ok_take T
  have eWorld : Ok1 P w K mg base _ _ _ _ := ok_world T eTake (ok_heads T) (ok_move0 T eTake)
  have eQuestion : Ok1 P w K mg base _ _ _ _ := ok_question T eWorld (ok_ring_steps T (ok_row_steps T)) (ok_turned T) (ok_far_steps T)
  exact ok_law T (ok_numbers T) eQuestion eMade eTakes eGoes eChanged
theorem fn_one {d : He.DefD} {fd fd' : FuncData} (F : FnDof K d fd) (F' : FnDof K d fd') : fd = fd' := by
  obtain ⟨_, _, _, _, _, _, _, _, _, _, _, lk, _⟩ := F.ex
  obtain ⟨_, _, _, _, _, _, _, _, _, _, _, lk', _⟩ := F'.ex
  cases lk.symm.trans lk'
  rfl
theorem facts {h : Heap} {f : Addr} (X : K.In h) (G : h.Ns mainGlobals mg) (hfa : mg ("law" : Str) = some (.ref f)) (c : He.SaysD K69.fa K69.fn K) :
    ∃ fd : FuncData, (∀ (s : Shared) (v : Value), BindsTo s fd ⟨[v], []⟩ [("_law_script", v)]) ∧ ∀ base : Heap, K.In base → base.Ns mainGlobals mg → FnOk P w K mg base CX0 7 f fd ["_law_script"] (spF K sLaw) := by
  have T : Txt K mg := ⟨⟨h, X, G⟩, c⟩
  obtain ⟨fd, F⟩ := T.c.def_ (K69.fn.length - 1) (d := K69.dLaw) rfl
  have F' : FunD K K69.dLaw.name K69.dLaw.qual K69.dLaw.params K69.dLaw.body K69.dLaw.scope [] (K69.dLaw.kws K) (He.fAd K K69.dLaw.at_) fd := F
  have b := FunD.bindsA (ps := ["_law_script"]) F' fun _ _ _ _ _ _ us hl => match us, hl with | [_], _ => rfl
  have e : He.fAd K K69.dLaw.at_ = f := by
    have := hfa.symm.trans (T.glo 28)
    cases this
    rfl
  refine ⟨fd, fun s v => b s [v] rfl, fun base _ _ => ?_⟩
  obtain ⟨fd2, F2, G2, _⟩ := all_ok (P := P) (w := w) (base := base) T
  cases fn_one F F2
  rw [e] at G2
  exact G2
end
end A
open PySem PySem.W PySem.Calls PyProof.Rows
theorem PySem.Challenge.cw_pilereach_k69_whole_ever_run_goes_on_holds : PySem.Challenge.rw_pilereach_k69_whole_ever_run_goes_on.Holds := by
  w_on; o_law
  refine HandSHeadRun.head_any (r := OpenLaw.row PySem.Challenge.rw_pilereach_k69_whole_ever_run_goes_on) (q := view (OpenLaw.row PySem.Challenge.rw_pilereach_k69_whole_ever_run_goes_on).prog [46]) (H := K69.hk) (ob := K69.ob) (M := 6000) (loose := K69.names) (d := HandSHeadRun.topDef (OpenLaw.row PySem.Challenge.rw_pilereach_k69_whole_ever_run_goes_on).prog 46) (kwd := []) K69.ob_eq
    (by kernel_rfl) (fun s => by kernel_rfl) K69.run (by kernel_rfl) (by kernel_rfl) (by kernel_rfl) (by rfl) (by first | assumption | decide +kernel) (by decide +kernel) ⟨rfl, rfl, rfl, rfl, rfl, by decide +kernel⟩ ?hw ?hc
  case hw => w_witness2
  case hc =>
    refine L2.walk_ofE (l := PySem.Challenge.rw_pilereach_k69_whole_ever_run_goes_on) (n := 63) (k := 7) (x := "_law_script") (CX := L2.CX0) rfl (by decide) (by kernel_rfl) ⟨rfl, by decide, by decide⟩ ?F (fun _ _ _ _ z => z)
    intro w mg fa h Y G hmg0
    obtain ⟨K, KX, c⟩ := Y
    have hmg : mg ("law" : PySem.Str) = some (.ref fa) := by
      have e : (HandSHeadRun.topDef (OpenLaw.row PySem.Challenge.rw_pilereach_k69_whole_ever_run_goes_on).prog 46).name = ("law" : PySem.Str) := by kernel_rfl
      rw [← e]
      exact hmg0
    obtain ⟨fd, hb, hF⟩ := A.facts (P := (PySem.Challenge.rw_pilereach_k69_whole_ever_run_goes_on).prog) (w := w) KX G hmg c
    exact ⟨K, fd, A.spF K A.sLaw, KX, hb, fun H a ns hl _ hS => ⟨a, ns, [], fun d _ => d = .bl true, .cons (.obj a) .nil, hS, ⟨rfl, hl, rfl⟩, fun d F' v H' hk _ r _ _ => by
      cases hk
      cases r
      rfl⟩, hF⟩

