import PyProof.Rows.All
import Wide.All
import OpenK.AllK
import Wide.FinOn
import HandS.ForMost
import HandS.More
import HandS.Walk
import HandS.Style
import HandS.Defaults
import HandS.WideBits
import HandS.TupAny
import HandS.Conv
import HandS.SortInts
import HandS.IsInst
import HandS.Wide
import KE.KStateDown
import Lean
import HandS.Head0
import HandS.Head1
import HandS.Head2
import HandS.HeadEnd
import HandS.HeadHook1
import HandS.HeadHook2
import HandS.HeadHook3
import HandS.HeadHook4
import HandS.EndBits
import HandS.NoneIn
import HandS.Strs
import KE.GoesMore
import HandS.StrMore
import HandS.TupSets
import HandS.Replace
import PySem.Challenge.RW_bannedorders_k45_whole_texts_shown
set_option Elab.async false
set_option linter.all false
set_option maxRecDepth 100000
set_option maxHeartbeats 4000000
namespace PI
open PySem PySem.Spec PyProof.Rows L2
/-! ### data by value -/
inductive D where
  | non | bl (b : Bool) | int (i : Int) | str (x : Str) | tup (ds : List D) | lst (ds : List D) | frz (ds : List D) | dct (ks : List D) (vs : List D)
/-- what stands in the written part at a: a tuple, a list -/
def KTup (K : PySem.W.Frag) (a : Addr) (vs : List V) : Prop := ∃ (o : Obj) (its : Array Value) (n : Nat), K.lookup a = some o ∧ o.cls = .type "tuple" ∧ o.data = .seq its n ∧ its.size ≤ sizeLine ∧ Vals vs its.toList
def KLst (K : PySem.W.Frag) (a : Addr) (vs : List V) : Prop := ∃ (o : Obj) (its : Array Value) (n : Nat), K.lookup a = some o ∧ o.cls = .type "list" ∧ o.dict = none ∧ o.data = .seq its n ∧ its.size ≤ sizeLine ∧ Vals vs its.toList
def TupAt (K : PySem.W.Frag) (S : Addr → Prop) (H : Hp) (a : Addr) (vs : List V) : Prop := (Rd H a (.tup vs) ∧ ¬ S a) ∨ KTup K a vs
def FrzAt (K : PySem.W.Frag) (S : Addr → Prop) (H : Hp) (a : Addr) (vs : List V) : Prop := (Rd H a (.lst vs) ∧ ¬ S a) ∨ KLst K a vs
mutual
inductive Rep (K : PySem.W.Frag) (S : Addr → Prop) (H : Hp) : V → D → Prop
  | non : Rep K S H .non .non
  | bl (b : Bool) : Rep K S H (.bl b) (.bl b)
  | int (i : Int) : Rep K S H (.int i) (.int i)
  | str (x : Str) : Rep K S H (.str x) (.str x)
  | tup {a : Addr} {vs : List V} {ds : List D} : TupAt K S H a vs → RepAll K S H vs ds → Rep K S H (.ref a) (.tup ds)
  | lst {a : Addr} {vs : List V} {ds : List D} : H a = some (.lst vs) → ¬ S a → RepAll K S H vs ds → Rep K S H (.ref a) (.lst ds)
  | frz {a : Addr} {vs : List V} {ds : List D} : FrzAt K S H a vs → RepAll K S H vs ds → Rep K S H (.ref a) (.frz ds)
inductive RepAll (K : PySem.W.Frag) (S : Addr → Prop) (H : Hp) : List V → List D → Prop
  | nil : RepAll K S H [] []
  | cons {v : V} {vs : List V} {d : D} {ds : List D} : Rep K S H v d → RepAll K S H vs ds → RepAll K S H (v :: vs) (d :: ds)
end
section
variable {K : PySem.W.Frag} {S S' : Addr → Prop} {H H' : Hp}
theorem TupAt.sq {a : Addr} {vs : List V} (h : TupAt K S H a vs) : SqT K H a vs := by
  rcases h with h | h
  · exact .inl h.1
  · exact .inr h
theorem FrzAt.sq {a : Addr} {vs : List V} (h : FrzAt K S H a vs) : SqL K H a vs := by
  rcases h with h | h
  · exact .inl h.1
  · exact .inr h
theorem TupAt.step {a : Addr} {vs : List V} (h : ∀ a o, H a = some o → ¬ S a → H' a = some o) (hs : ∀ a, S' a → S a ∨ H a = none) (t : TupAt K S H a vs) : TupAt K S' H' a vs := by
  rcases t with ⟨r, n⟩ | k
  · refine .inl ⟨?_, fun q => ?_⟩
    · rcases r with r | ⟨o, r⟩
      · exact .inl (h _ _ r n)
      · exact .inr ⟨o, h _ _ r n⟩
    · rcases hs a q with q | q
      · exact n q
      · rcases r with r | ⟨o, r⟩
        · rw [q] at r; cases r
        · rw [q] at r; cases r
  · exact .inr k
theorem FrzAt.step {a : Addr} {vs : List V} (h : ∀ a o, H a = some o → ¬ S a → H' a = some o) (hs : ∀ a, S' a → S a ∨ H a = none) (t : FrzAt K S H a vs) : FrzAt K S' H' a vs := by
  rcases t with ⟨r, n⟩ | k
  · refine .inl ⟨?_, fun q => ?_⟩
    · rcases r with r | ⟨o, r⟩
      · exact .inl (h _ _ r n)
      · exact .inr ⟨o, h _ _ r n⟩
    · rcases hs a q with q | q
      · exact n q
      · rcases r with r | ⟨o, r⟩
        · rw [q] at r; cases r
        · rw [q] at r; cases r
  · exact .inr k
mutual
theorem Rep.step (h : ∀ a o, H a = some o → ¬ S a → H' a = some o) (hs : ∀ a, S' a → S a ∨ H a = none) : ∀ {v : V} {d : D}, Rep K S H v d → Rep K S' H' v d
  | _, _, .non => .non
  | _, _, .bl b => .bl b
  | _, _, .int i => .int i
  | _, _, .str x => .str x
  | _, _, .tup t r => .tup (t.step h hs) (RepAll.step h hs r)
  | _, _, .lst e n r => .lst (h _ _ e n) (fun q => by
      rcases hs _ q with q | q
      · exact n q
      · rw [q] at e; cases e) (RepAll.step h hs r)
  | _, _, .frz t r => .frz (t.step h hs) (RepAll.step h hs r)
theorem RepAll.step (h : ∀ a o, H a = some o → ¬ S a → H' a = some o) (hs : ∀ a, S' a → S a ∨ H a = none) : ∀ {vs : List V} {ds : List D}, RepAll K S H vs ds → RepAll K S' H' vs ds
  | _, _, .nil => .nil
  | _, _, .cons r t => .cons (Rep.step h hs r) (RepAll.step h hs t)
end
/-- the heap grows -/
theorem Rep.grow (h : ∀ a o, H a = some o → H' a = some o) {v : V} {d : D} (r : Rep K S H v d) : Rep K S H' v d := r.step (fun a o e _ => h a o e) fun _ q => .inl q
theorem RepAll.grow (h : ∀ a o, H a = some o → H' a = some o) {vs : List V} {ds : List D} (r : RepAll K S H vs ds) : RepAll K S H' vs ds := r.step (fun a o e _ => h a o e) fun _ q => .inl q
theorem Rep.less (hs : ∀ a, S' a → S a) {v : V} {d : D} (r : Rep K S H v d) : Rep K S' H v d := r.step (fun a o e _ => e) fun _ q => .inl (hs _ q)
theorem RepAll.less (hs : ∀ a, S' a → S a) {vs : List V} {ds : List D} (r : RepAll K S H vs ds) : RepAll K S' H vs ds := r.step (fun a o e _ => e) fun _ q => .inl (hs _ q)
theorem RepAll.length : ∀ {vs : List V} {ds : List D}, RepAll K S H vs ds → vs.length = ds.length
  | _, _, .nil => rfl
  | _, _, .cons _ t => congrArg Nat.succ t.length
theorem RepAll.get : ∀ {vs : List V} {ds : List D} {i : Nat} {d : D}, RepAll K S H vs ds → ds[i]? = some d → ∃ v, vs[i]? = some v ∧ Rep K S H v d
  | _, _, _, _, .nil, e => by simp at e
  | _, _, 0, _, .cons r _, e => by
    have e := Option.some.inj e
    subst e
    exact ⟨_, rfl, r⟩
  | _, _, i + 1, _, .cons _ t, e => t.get (i := i) e
theorem RepAll.getV : ∀ {vs : List V} {ds : List D} {i : Nat} {v : V}, RepAll K S H vs ds → vs[i]? = some v → ∃ d, ds[i]? = some d ∧ Rep K S H v d
  | _, _, _, _, .nil, e => by simp at e
  | _, _, 0, _, .cons r _, e => by
    have e := Option.some.inj e
    subst e
    exact ⟨_, rfl, r⟩
  | _, _, i + 1, _, .cons _ t, e => t.getV (i := i) e
theorem RepAll.append : ∀ {vs us : List V} {ds es : List D}, RepAll K S H vs ds → RepAll K S H us es → RepAll K S H (vs ++ us) (ds ++ es)
  | _, _, _, _, .nil, s => s
  | _, _, _, _, .cons r t, s => .cons r (t.append s)
theorem RepAll.take : ∀ {vs : List V} {ds : List D} (n : Nat), RepAll K S H vs ds → RepAll K S H (vs.take n) (ds.take n)
  | _, _, 0, _ => .nil
  | _, _, _ + 1, .nil => .nil
  | _, _, n + 1, .cons r t => .cons r (t.take n)
theorem RepAll.drop : ∀ {vs : List V} {ds : List D} (n : Nat), RepAll K S H vs ds → RepAll K S H (vs.drop n) (ds.drop n)
  | _, _, 0, r => r
  | _, _, _ + 1, .nil => .nil
  | _, _, n + 1, .cons _ t => t.drop n
theorem RepAll.set : ∀ {vs : List V} {ds : List D} (i : Nat) {v : V} {d : D}, RepAll K S H vs ds → Rep K S H v d → RepAll K S H (vs.set i v) (ds.set i d)
  | _, _, _, _, _, .nil, _ => .nil
  | _, _, 0, _, _, .cons _ t, r => .cons r t
  | _, _, i + 1, _, _, .cons q t, r => .cons q (t.set i r)
theorem RepAll.reverse {vs : List V} {ds : List D} (h : RepAll K S H vs ds) : RepAll K S H vs.reverse ds.reverse := by
  induction h using RepAll.rec (motive_1 := fun _ _ _ => True) with
  | nil => exact .nil
  | cons r t _ ih =>
    rw [List.reverse_cons, List.reverse_cons]
    exact ih.append (.cons r .nil)
  | _ => trivial
theorem RepAll.dropLast {vs : List V} {ds : List D} (h : RepAll K S H vs ds) : RepAll K S H vs.dropLast ds.dropLast := by
  rw [List.dropLast_eq_take, List.dropLast_eq_take, h.length]
  exact h.take _
theorem RepAll.eraseIdx : ∀ {vs : List V} {ds : List D} (i : Nat), RepAll K S H vs ds → RepAll K S H (vs.eraseIdx i) (ds.eraseIdx i)
  | _, _, _, .nil => .nil
  | _, _, 0, .cons _ t => t
  | _, _, i + 1, .cons q t => .cons q (t.eraseIdx i)
theorem RepAll.ints : ∀ (ns : List Int), RepAll K S H (ns.map V.int) (ns.map D.int)
  | [] => .nil
  | n :: r => .cons (.int n) (RepAll.ints r)
theorem RepAll.of_ints : ∀ {vs : List V} {ns : List Int}, RepAll K S H vs (ns.map D.int) → vs = ns.map V.int
  | _, [], .nil => rfl
  | _, n :: r, .cons q t => by
    cases q
    rw [RepAll.of_ints t]
    rfl
theorem RepAll.bls : ∀ (ns : List Bool), RepAll K S H (ns.map V.bl) (ns.map D.bl)
  | [] => .nil
  | n :: r => .cons (.bl n) (RepAll.bls r)
theorem RepAll.of_bls : ∀ {vs : List V} {ns : List Bool}, RepAll K S H vs (ns.map D.bl) → vs = ns.map V.bl
  | _, [], .nil => rfl
  | _, n :: r, .cons q t => by
    cases q
    rw [RepAll.of_bls t]
    rfl
theorem RepAll.strs : ∀ (ns : List Str), RepAll K S H (ns.map V.str) (ns.map D.str)
  | [] => .nil
  | n :: r => .cons (.str n) (RepAll.strs r)
theorem RepAll.of_strs : ∀ {vs : List V} {ns : List Str}, RepAll K S H vs (ns.map D.str) → vs = ns.map V.str
  | _, [], .nil => rfl
  | _, n :: r, .cons q t => by
    cases q
    rw [RepAll.of_strs t]
    rfl
end
/-- a value that is read: an owned list's root may be avoided -/
def View (K : PySem.W.Frag) (S : Addr → Prop) (H : Hp) (v : V) (d : D) : Prop := Rep K S H v d ∨ ∃ a vs ds, v = .ref a ∧ d = .lst ds ∧ H a = some (.lst vs) ∧ RepAll K S H vs ds
inductive ViewAll (K : PySem.W.Frag) (S : Addr → Prop) (H : Hp) : List V → List D → Prop
  | nil : ViewAll K S H [] []
  | cons {v : V} {vs : List V} {d : D} {ds : List D} : View K S H v d → ViewAll K S H vs ds → ViewAll K S H (v :: vs) (d :: ds)
/-- what a primitive makes -/
structure Made (K : PySem.W.Frag) (S : Addr → Prop) (H : Hp) (w : Bool × D) (v : V) (H' : Hp) : Prop where
  keep : ∀ a o, H a = some o → H' a = some o
  new : w.1 = true → ∃ a vs ds, v = .ref a ∧ w.2 = .lst ds ∧ H a = none ∧ H' a = some (.lst vs) ∧ RepAll K (fun b => S b ∨ b = a) H' vs ds
  old : w.1 = false → Rep K S H' v w.2
section
variable {K : PySem.W.Frag} {S S' : Addr → Prop} {H H' : Hp}
theorem View.lst {v : V} {ds : List D} (h : View K S H v (.lst ds)) : ∃ a vs, v = .ref a ∧ H a = some (.lst vs) ∧ RepAll K S H vs ds := by
  rcases h with h | ⟨a, vs, es, e1, e2, e3, e4⟩
  · cases h with
    | lst e n r => exact ⟨_, _, rfl, e, r⟩
  · cases e2
    exact ⟨a, vs, e1, e3, e4⟩
theorem View.rep {v : V} {d : D} (h : View K S H v d) (n : ∀ ds, d ≠ .lst ds) : Rep K S H v d := by
  rcases h with h | ⟨a, vs, es, e1, e2, e3, e4⟩
  · exact h
  · exact absurd e2 (n _)
theorem Rep.tupD {v : V} {ds : List D} (h : Rep K S H v (.tup ds)) : ∃ a vs, v = .ref a ∧ TupAt K S H a vs ∧ RepAll K S H vs ds := by
  cases h with
  | tup t r => exact ⟨_, _, rfl, t, r⟩
theorem Rep.frzD {v : V} {ds : List D} (h : Rep K S H v (.frz ds)) : ∃ a vs, v = .ref a ∧ FrzAt K S H a vs ∧ RepAll K S H vs ds := by
  cases h with
  | frz t r => exact ⟨_, _, rfl, t, r⟩
theorem View.intD {v : V} {i : Int} (h : View K S H v (.int i)) : v = .int i := by
  cases h.rep (fun _ e => by cases e)
  rfl
theorem View.blD {v : V} {b : Bool} (h : View K S H v (.bl b)) : v = .bl b := by
  cases h.rep (fun _ e => by cases e)
  rfl
theorem View.strD {v : V} {x : Str} (h : View K S H v (.str x)) : v = .str x := by
  cases h.rep (fun _ e => by cases e)
  rfl
theorem View.nonD {v : V} (h : View K S H v .non) : v = .non := by
  cases h.rep (fun _ e => by cases e)
  rfl
theorem View.tupD {v : V} {ds : List D} (h : View K S H v (.tup ds)) : ∃ a vs, v = .ref a ∧ TupAt K S H a vs ∧ RepAll K S H vs ds := (h.rep (fun _ e => by cases e)).tupD
theorem View.frzD {v : V} {ds : List D} (h : View K S H v (.frz ds)) : ∃ a vs, v = .ref a ∧ FrzAt K S H a vs ∧ RepAll K S H vs ds := (h.rep (fun _ e => by cases e)).frzD
theorem made_old {v : V} {d : D} (r : Rep K S H v d) : Made K S H (false, d) v H := ⟨fun _ _ e => e, fun e => (nomatch e), fun _ => r⟩
theorem made_int (i : Int) : Made K S H (false, .int i) (.int i) H := made_old (.int i)
theorem made_bl (i : Bool) : Made K S H (false, .bl i) (.bl i) H := made_old (.bl i)
theorem made_str (i : Str) : Made K S H (false, .str i) (.str i) H := made_old (.str i)
theorem made_non : Made K S H (false, .non) .non H := made_old .non
theorem keep_upd {p : Addr} {o : HO} (hp : H p = none) : ∀ a u, H a = some u → upd H p o a = some u := fun a u e => by
  rw [upd_ne (ne_of_none e hp)]
  exact e
theorem RepAll.newAt {p : Addr} {o : HO} {vs : List V} {ds : List D} (hp : H p = none) (r : RepAll K S H vs ds) : RepAll K (fun b => S b ∨ b = p) (upd H p o) vs ds :=
  r.step (fun a u e _ => keep_upd hp a u e) fun a q => by
    rcases q with q | q
    · exact .inl q
    · subst q
      exact .inr hp
theorem made_lst {p : Addr} {vs : List V} {ds : List D} (hp : H p = none) (r : RepAll K S H vs ds) : Made K S H (true, .lst ds) (.ref p) (upd H p (.lst vs)) :=
  ⟨keep_upd hp, fun _ => ⟨p, vs, ds, rfl, rfl, hp, upd_same, r.newAt hp⟩, fun e => (nomatch e)⟩
theorem rep_tup {p : Addr} {vs : List V} {ds : List D} (hp : H p = none) (hs : ¬ S p) (r : RepAll K S H vs ds) : Rep K S (upd H p (.tup vs)) (.ref p) (.tup ds) :=
  .tup (.inl ⟨.inl upd_same, hs⟩) (r.grow (keep_upd hp))
theorem made_tup {p : Addr} {vs : List V} {ds : List D} (hp : H p = none) (hs : ¬ S p) (r : RepAll K S H vs ds) : Made K S H (false, .tup ds) (.ref p) (upd H p (.tup vs)) :=
  ⟨keep_upd hp, fun e => (nomatch e), fun _ => rep_tup hp hs r⟩
end
end PI

namespace PI
open PySem PySem.Spec PyProof.Rows L2
abbrev Env := List (Option (Bool × D))
/-- the address of an owned list -/
def Own (env : PI.Env) (σ : L2.St) (a : Addr) : Prop := ∃ (i : Nat) (d : D), env[i]? = some (some (true, d)) ∧ σ[i]? = some (some (V.ref a))
def Av (env : PI.Env) (σ : L2.St) (Z : Addr → Prop) (a : Addr) : Prop := Own env σ a ∨ Z a
abbrev Fz := Addr → Option HO
structure Rel (K : PySem.W.Frag) (F : Fz) (Z : Addr → Prop) (env : PI.Env) (σ : L2.St) (H : Hp) : Prop where
  len : env.length = σ.length
  sh : ∀ (i : Nat) (d : D), env[i]? = some (some (false, d)) → ∃ v : V, σ[i]? = some (some v) ∧ Rep K (Av env σ Z) H v d
  ow : ∀ (i : Nat) (d : D), env[i]? = some (some (true, d)) → ∃ (a : Addr) (vs : List V) (ds : List D), σ[i]? = some (some (V.ref a)) ∧ d = .lst ds ∧ H a = some (.lst vs) ∧ RepAll K (Av env σ Z) H vs ds
  dist : ∀ (i j : Nat) (d e : D) (a : Addr), env[i]? = some (some (true, d)) → env[j]? = some (some (true, e)) → σ[i]? = some (some (V.ref a)) → σ[j]? = some (some (V.ref a)) → i = j
  fr : ∀ (a : Addr) (o : HO), F a = some o → H a = some o ∧ ¬ Own env σ a
  z : ∀ a, Z a → H a ≠ none ∧ ¬ Own env σ a
section
variable {K : PySem.W.Frag} {F F' : Fz} {Z Z' : Addr → Prop} {env : PI.Env} {σ : L2.St} {H H' : Hp}
theorem Rel.dom (R : Rel K F Z env σ H) : ∀ a, Av env σ Z a → H a ≠ none := fun a h => by
  rcases h with ⟨i, d, h1, h2⟩ | h
  · obtain ⟨b, vs, ds, e1, e2, e3, e4⟩ := R.ow i d h1
    rw [h2] at e1
    cases e1
    rw [e3]
    exact fun q => by cases q
  · exact (R.z a h).1
theorem Rel.weakF (R : Rel K F Z env σ H) (h : ∀ a o, F' a = some o → F a = some o) : Rel K F' Z env σ H :=
  ⟨R.len, R.sh, R.ow, R.dist, fun a o e => R.fr a o (h a o e), R.z⟩
theorem av_less (h : ∀ a, Z' a → Z a) : ∀ a, Av env σ Z' a → Av env σ Z a := fun a q => by
  rcases q with q | q
  · exact .inl q
  · exact .inr (h a q)
theorem Rel.weakZ (R : Rel K F Z env σ H) (h : ∀ a, Z' a → Z a) : Rel K F Z' env σ H :=
  ⟨R.len, fun i d e => by
    obtain ⟨v, h1, h2⟩ := R.sh i d e
    exact ⟨v, h1, h2.less (av_less h)⟩, fun i d e => by
    obtain ⟨a, vs, ds, h1, h2, h3, h4⟩ := R.ow i d e
    exact ⟨a, vs, ds, h1, h2, h3, h4.less (av_less h)⟩, R.dist, R.fr, fun a q => R.z a (h a q)⟩
open Classical in
/-- all that is not owned is frozen -/
noncomputable def maxF (env : PI.Env) (σ : L2.St) (H : Hp) : Fz := fun a => if Own env σ a then none else H a
theorem maxF_some {a : Addr} {o : HO} : maxF env σ H a = some o ↔ H a = some o ∧ ¬ Own env σ a := by
  unfold maxF
  split
  · rename_i h
    exact ⟨fun q => (nomatch q), fun q => absurd h q.2⟩
  · rename_i h
    exact ⟨fun q => ⟨q, h⟩, fun q => q.1⟩
theorem Rel.max (R : Rel K F Z env σ H) : Rel K (maxF env σ H) Z env σ H := ⟨R.len, R.sh, R.ow, R.dist, fun a o e => maxF_some.mp e, R.z⟩
theorem Rel.le_max (R : Rel K F Z env σ H) : ∀ a o, F a = some o → maxF env σ H a = some o := fun a o e => maxF_some.mpr (R.fr a o e)
/-- new objects, some of them avoided from now on -/
theorem Rel.grow (R : Rel K F Z env σ H) (h : ∀ a o, H a = some o → H' a = some o) (hz : ∀ a, Z' a → Z a ∨ H a = none) (hz2 : ∀ a, Z' a → H' a ≠ none) : Rel K F Z' env σ H' := by
  have hs : ∀ a, Av env σ Z' a → Av env σ Z a ∨ H a = none := fun a q => by
    rcases q with q | q
    · exact .inl (.inl q)
    · rcases hz a q with q | q
      · exact .inl (.inr q)
      · exact .inr q
  refine ⟨R.len, fun i d e => ?_, fun i d e => ?_, R.dist, fun a o e => ⟨h _ _ (R.fr a o e).1, (R.fr a o e).2⟩, fun a q => ⟨hz2 a q, fun ho => ?_⟩⟩
  · obtain ⟨v, h1, h2⟩ := R.sh i d e
    exact ⟨v, h1, h2.step (fun a o e _ => h a o e) hs⟩
  · obtain ⟨a, vs, ds, h1, h2, h3, h4⟩ := R.ow i d e
    exact ⟨a, vs, ds, h1, h2, h _ _ h3, h4.step (fun a o e _ => h a o e) hs⟩
  · rcases hz a q with q | q
    · exact (R.z a q).2 ho
    · exact R.dom a (.inl ho) q
theorem Rel.grow0 (R : Rel K F Z env σ H) (h : ∀ a o, H a = some o → H' a = some o) : Rel K F Z env σ H' :=
  R.grow h (fun _ q => .inl q) fun a q => by
    cases e : H a with
    | none => exact absurd e (R.z a q).1
    | some o =>
      rw [h a o e]
      exact fun z => by cases z
theorem set_get {α : Type} {l : List α} {i j : Nat} {x y : α} (h : (l.set i x)[j]? = some y) : (i = j ∧ x = y ∧ i < l.length) ∨ (i ≠ j ∧ l[j]? = some y) := by
  by_cases e : i = j
  · subst e
    rw [List.getElem?_set] at h
    split at h
    · split at h
      · exact .inl ⟨rfl, Option.some.inj h, by assumption⟩
      · cases h
    · rename_i q
      exact absurd rfl q
  · rw [List.getElem?_set_ne e] at h
    exact .inr ⟨e, h⟩
theorem lt_of_get {α : Type} {l : List α} {i : Nat} {x : α} (h : l[i]? = some x) : i < l.length := (List.getElem?_eq_some_iff.mp h).1
/-- the owned list of a slot is shared -/
theorem own_share {i : Nat} {d : D} {a : Addr} (h : Own (env.set i (some (false, d))) σ a) : Own env σ a := by
  obtain ⟨j, e, h1, h2⟩ := h
  rcases set_get h1 with ⟨_, q, _⟩ | ⟨_, q⟩
  · cases q
  · exact ⟨j, e, q, h2⟩
theorem av_share {i : Nat} {d : D} {a : Addr} (h : Av (env.set i (some (false, d))) σ Z a) : Av env σ Z a := by
  rcases h with h | h
  · exact .inl (own_share h)
  · exact .inr h
theorem Rel.share (R : Rel K F Z env σ H) {i : Nat} {d : D} (h : env[i]? = some (some (true, d))) :
    Rel K F Z (env.set i (some (false, d))) σ H ∧ ∃ v : V, σ[i]? = some (some v) ∧ Rep K (Av (env.set i (some (false, d))) σ Z) H v d := by
  obtain ⟨a, vs, ds, h1, h2, h3, h4⟩ := R.ow i d h
  have r : Rep K (Av (env.set i (some (false, d))) σ Z) H (.ref a) d := by
    subst h2
    refine .lst h3 (fun q => ?_) (h4.less fun b q => av_share q)
    rcases q with ⟨j, e, q1, q2⟩ | q
    · rcases set_get q1 with ⟨_, q, _⟩ | ⟨ne, q⟩
      · cases q
      · exact ne (R.dist i j _ _ a h q h1 q2)
    · exact (R.z a q).2 ⟨i, _, h, h1⟩
  refine ⟨⟨by rw [List.length_set]; exact R.len, fun j e q => ?_, fun j e q => ?_, fun j k e f b q1 q2 => ?_, fun b o q => ⟨(R.fr b o q).1, fun z => (R.fr b o q).2 (own_share z)⟩, fun b q => ⟨(R.z b q).1, fun z => (R.z b q).2 (own_share z)⟩⟩, .ref a, h1, r⟩
  · rcases set_get q with ⟨rfl, q, _⟩ | ⟨_, q⟩
    · cases q
      exact ⟨.ref a, h1, r⟩
    · obtain ⟨v, e1, e2⟩ := R.sh j e q
      exact ⟨v, e1, e2.less fun b q => av_share q⟩
  · rcases set_get q with ⟨rfl, q, _⟩ | ⟨_, q⟩
    · cases q
    · obtain ⟨b, us, es, e1, e2, e3, e4⟩ := R.ow j e q
      exact ⟨b, us, es, e1, e2, e3, e4.less fun b q => av_share q⟩
  · rcases set_get q1 with ⟨_, q, _⟩ | ⟨_, q1⟩
    · cases q
    · rcases set_get q2 with ⟨_, q, _⟩ | ⟨_, q2⟩
      · cases q
      · exact R.dist j k e f b q1 q2
/-- the owned list of a slot is changed -/
theorem own_mut {i : Nat} {d e : D} {a : Addr} (h : env[i]? = some (some (true, d))) : Own (env.set i (some (true, e))) σ a ↔ Own env σ a := by
  have hi := lt_of_get h
  constructor
  · rintro ⟨j, f, h1, h2⟩
    rcases set_get h1 with ⟨rfl, _, _⟩ | ⟨_, q⟩
    · exact ⟨i, d, h, h2⟩
    · exact ⟨j, f, q, h2⟩
  · rintro ⟨j, f, h1, h2⟩
    by_cases q : i = j
    · subst q
      exact ⟨i, e, List.getElem?_set_self hi, h2⟩
    · exact ⟨j, f, by rw [List.getElem?_set_ne q]; exact h1, h2⟩
theorem Rel.mutate (R : Rel K F Z env σ H) {i : Nat} {d : D} {a : Addr} {us : List V} {es : List D} (h : env[i]? = some (some (true, d))) (ha : σ[i]? = some (some (V.ref a)))
    (hk : ∀ b o, b ≠ a → H b = some o → H' b = some o) (hn : H' a = some (.lst us)) (hr : RepAll K (Av env σ Z) H' us es) : Rel K F Z (env.set i (some (true, .lst es))) σ H' := by
  have hav : ∀ b, Av (env.set i (some (true, .lst es))) σ Z b → Av env σ Z b := fun b q => by
    rcases q with q | q
    · exact .inl ((own_mut h).mp q)
    · exact .inr q
  have hst : ∀ b o, H b = some o → ¬ Av env σ Z b → H' b = some o := fun b o e n => hk b o (fun z => n (.inl ⟨i, d, h, by rw [z]; exact ha⟩)) e
  refine ⟨by rw [List.length_set]; exact R.len, fun j e q => ?_, fun j e q => ?_, fun j k e f b q1 q2 h1 h2 => ?_, fun b o q => ⟨hk b o (fun z => (R.fr b o q).2 ⟨i, d, h, by rw [z]; exact ha⟩) (R.fr b o q).1, fun z => (R.fr b o q).2 ((own_mut h).mp z)⟩, fun b q => ⟨?_, fun z => (R.z b q).2 ((own_mut h).mp z)⟩⟩
  · rcases set_get q with ⟨_, q, _⟩ | ⟨_, q⟩
    · cases q
    · obtain ⟨v, e1, e2⟩ := R.sh j e q
      exact ⟨v, e1, e2.step hst fun b q => .inl (hav b q)⟩
  · rcases set_get q with ⟨rfl, q, _⟩ | ⟨ne, q⟩
    · cases q
      exact ⟨a, us, es, ha, rfl, hn, hr.less hav⟩
    · obtain ⟨b, ws, gs, e1, e2, e3, e4⟩ := R.ow j e q
      refine ⟨b, ws, gs, e1, e2, hk b _ (fun z => ?_) e3, e4.step hst fun b q => .inl (hav b q)⟩
      subst z
      exact ne (R.dist i j _ _ b h q ha e1)
  · have g : ∀ (m : Nat) (x : D), (env.set i (some (true, .lst es)))[m]? = some (some (true, x)) → ∃ y, env[m]? = some (some (true, y)) := fun m x q => by
      rcases set_get q with ⟨rfl, _, _⟩ | ⟨_, q⟩
      · exact ⟨d, h⟩
      · exact ⟨x, q⟩
    obtain ⟨y, g1⟩ := g j e q1
    obtain ⟨y', g2⟩ := g k f q2
    exact R.dist j k y y' b g1 g2 h1 h2
  · by_cases z : b = a
    · subst z
      rw [hn]
      exact fun q => by cases q
    · cases e : H b with
      | none => exact absurd e (R.z b q).1
      | some o =>
        rw [hk b o z e]
        exact fun q => by cases q
/-- a value is stored -/
theorem own_store {i : Nat} {d : D} {v : V} {a : Addr} (h : Own (env.set i (some (false, d))) (σ.set i (some v)) a) : Own env σ a := by
  obtain ⟨j, e, h1, h2⟩ := h
  rcases set_get h1 with ⟨_, q, _⟩ | ⟨ne, q⟩
  · cases q
  · rw [List.getElem?_set_ne ne] at h2
    exact ⟨j, e, q, h2⟩
theorem Rel.store (R : Rel K F Z env σ H) {i : Nat} {d : D} {v : V} (hi : i < env.length) (r : Rep K (Av env σ Z) H v d) : Rel K F Z (env.set i (some (false, d))) (σ.set i (some v)) H := by
  have hav : ∀ b, Av (env.set i (some (false, d))) (σ.set i (some v)) Z b → Av env σ Z b := fun b q => by
    rcases q with q | q
    · exact .inl (own_store q)
    · exact .inr q
  have hi2 : i < σ.length := R.len ▸ hi
  refine ⟨by rw [List.length_set, List.length_set]; exact R.len, fun j e q => ?_, fun j e q => ?_, fun j k e f b q1 q2 h1 h2 => ?_, fun b o q => ⟨(R.fr b o q).1, fun z => (R.fr b o q).2 (own_store z)⟩, fun b q => ⟨(R.z b q).1, fun z => (R.z b q).2 (own_store z)⟩⟩
  · rcases set_get q with ⟨rfl, q, _⟩ | ⟨ne, q⟩
    · cases q
      exact ⟨v, List.getElem?_set_self hi2, r.less hav⟩
    · obtain ⟨u, e1, e2⟩ := R.sh j e q
      exact ⟨u, by rw [List.getElem?_set_ne ne]; exact e1, e2.less hav⟩
  · rcases set_get q with ⟨rfl, q, _⟩ | ⟨ne, q⟩
    · cases q
    · obtain ⟨b, ws, gs, e1, e2, e3, e4⟩ := R.ow j e q
      exact ⟨b, ws, gs, by rw [List.getElem?_set_ne ne]; exact e1, e2, e3, e4.less hav⟩
  · rcases set_get q1 with ⟨_, q, _⟩ | ⟨n1, q1⟩
    · cases q
    · rcases set_get q2 with ⟨_, q, _⟩ | ⟨n2, q2⟩
      · cases q
      · rw [List.getElem?_set_ne n1] at h1
        rw [List.getElem?_set_ne n2] at h2
        exact R.dist j k e f b q1 q2 h1 h2
/-- a new list is stored: its slot owns it -/
theorem own_storeN {i : Nat} {d : D} {a b : Addr} (h : Own (env.set i (some (true, d))) (σ.set i (some (V.ref a))) b) : Own env σ b ∨ b = a := by
  obtain ⟨j, e, h1, h2⟩ := h
  rcases set_get h1 with ⟨rfl, q, _⟩ | ⟨ne, q⟩
  · rcases set_get h2 with ⟨_, q2, _⟩ | ⟨ne, _⟩
    · cases q2
      exact .inr rfl
    · exact absurd rfl ne
  · rw [List.getElem?_set_ne ne] at h2
    exact .inl ⟨j, e, q, h2⟩
theorem Rel.storeN (R : Rel K F (fun b => Z b ∨ b = a) env σ H) {i : Nat} {vs : List V} {ds : List D} (hi : i < env.length) (hF : F a = none) (hZ : ¬ Z a) (ha : H a = some (.lst vs))
    (r : RepAll K (Av env σ fun b => Z b ∨ b = a) H vs ds) : Rel K F Z (env.set i (some (true, .lst ds))) (σ.set i (some (V.ref a))) H := by
  have hav : ∀ b, Av (env.set i (some (true, .lst ds))) (σ.set i (some (V.ref a))) Z b → Av env σ (fun b => Z b ∨ b = a) b := fun b q => by
    rcases q with q | q
    · rcases own_storeN q with q | q
      · exact .inl q
      · exact .inr (.inr q)
    · exact .inr (.inl q)
  have nown : ¬ Own env σ a := (R.z a (.inr rfl)).2
  have hi2 : i < σ.length := R.len ▸ hi
  refine ⟨by rw [List.length_set, List.length_set]; exact R.len, fun j e q => ?_, fun j e q => ?_, fun j k e f b q1 q2 h1 h2 => ?_, fun b o q => ⟨(R.fr b o q).1, fun z => ?_⟩, fun b q => ⟨(R.z b (.inl q)).1, fun z => ?_⟩⟩
  · rcases set_get q with ⟨rfl, q, _⟩ | ⟨ne, q⟩
    · cases q
    · obtain ⟨u, e1, e2⟩ := R.sh j e q
      exact ⟨u, by rw [List.getElem?_set_ne ne]; exact e1, e2.less hav⟩
  · rcases set_get q with ⟨rfl, q, _⟩ | ⟨ne, q⟩
    · cases q
      exact ⟨a, vs, ds, List.getElem?_set_self hi2, rfl, ha, r.less hav⟩
    · obtain ⟨b, ws, gs, e1, e2, e3, e4⟩ := R.ow j e q
      exact ⟨b, ws, gs, by rw [List.getElem?_set_ne ne]; exact e1, e2, e3, e4.less hav⟩
  · have g : ∀ (m : Nat) (x : D), (env.set i (some (true, .lst ds)))[m]? = some (some (true, x)) → (σ.set i (some (V.ref a)))[m]? = some (some (V.ref b)) → (m = i ∧ b = a) ∨ (m ≠ i ∧ env[m]? = some (some (true, x)) ∧ σ[m]? = some (some (V.ref b))) := fun m x q z => by
      rcases set_get q with ⟨rfl, _, _⟩ | ⟨ne, q⟩
      · rcases set_get z with ⟨_, z, _⟩ | ⟨n, _⟩
        · cases z
          exact .inl ⟨rfl, rfl⟩
        · exact absurd rfl n
      · rw [List.getElem?_set_ne ne] at z
        exact .inr ⟨fun e => ne e.symm, q, z⟩
    rcases g j e q1 h1 with ⟨rfl, rfl⟩ | ⟨n1, a1, b1⟩
    · rcases g k f q2 h2 with ⟨rfl, _⟩ | ⟨n2, a2, b2⟩
      · rfl
      · exact absurd ⟨k, f, a2, b2⟩ nown
    · rcases g k f q2 h2 with ⟨rfl, rfl⟩ | ⟨n2, a2, b2⟩
      · exact absurd ⟨j, e, a1, b1⟩ nown
      · exact R.dist j k e f b a1 a2 b1 b2
  · rcases own_storeN z with z | z
    · exact (R.fr b o q).2 z
    · subst z
      rw [hF] at q
      cases q
  · rcases own_storeN z with z | z
    · exact (R.z b (.inl q)).2 z
    · subst z
      exact hZ q
end
end PI

namespace PI
open PySem PySem.Spec PyProof.Rows L2
abbrev W := Bool × D
abbrev EF := PI.Env → Option (W × PI.Env)
abbrev Re (K : PySem.W.Frag) (Z : Addr → Prop) (env : PI.Env) (σ : L2.St) (H : Hp) : Prop := Rel K (fun _ => none) Z env σ H
structure Trn (env : PI.Env) (σ : L2.St) (H : Hp) (env' : PI.Env) (H' : Hp) : Prop where
  own : ∀ a, Own env' σ a → Own env σ a
  keep : ∀ a o, H a = some o → ¬ Own env σ a → H' a = some o
  dom : ∀ a, H a ≠ none → H' a ≠ none
structure Res (K : PySem.W.Frag) (Z : Addr → Prop) (env : PI.Env) (σ : L2.St) (H : Hp) (w : W) (env' : PI.Env) (v : V) (H' : Hp) : Prop where
  re : Re K Z env' σ H'
  tr : Trn env σ H env' H'
  rep : Rep K (Av env' σ Z) H' v w.2
  new : w.1 = true → ∃ (a : Addr) (vs : List V) (ds : List D), v = V.ref a ∧ w.2 = .lst ds ∧ H a = none ∧ H' a = some (.lst vs) ∧ Re K (fun b => Z b ∨ b = a) env' σ H' ∧ RepAll K (Av env' σ fun b => Z b ∨ b = a) H' vs ds
/-- the reading of an expression by what it is worth -/
def SEr (K : PySem.W.Frag) (f : EF) : TE := fun σ H Q => ∃ Z env w env', Re K Z env σ H ∧ f env = some (w, env') ∧ ∀ v H', Res K Z env σ H w env' v H' → Q v H'
/-- an operand: an expression, a name that is only looked at -/
inductive Opd where
  | ex (f : EF) | sl (i : Nat)
inductive Op where
  | val (d : D) | slot (i : Nat)
def Opd.run : Opd → PI.Env → Option (Op × PI.Env)
  | .ex f, env => (f env).bind fun r => some (.val r.1.2, r.2)
  | .sl i, env => match env[i]? with
    | some (some _) => some (.slot i, env)
    | _ => none
def Op.get (env : PI.Env) : Op → Option D
  | .val d => some d
  | .slot i => match env[i]? with
    | some (some p) => some p.2
    | _ => none
def SOr (K : PySem.W.Frag) : Opd → TE
  | .ex f => SEr K f
  | .sl i => tVar i
def ORep (K : PySem.W.Frag) (S : Addr → Prop) (σ : L2.St) (H : Hp) : Op → V → Prop
  | .val d, v => Rep K S H v d
  | .slot i, v => σ[i]? = some (some v)
section
variable {K : PySem.W.Frag} {Z : Addr → Prop} {env env1 env2 : PI.Env} {σ : L2.St} {H H1 H2 : Hp}
theorem Trn.refl : Trn env σ H env H := ⟨fun _ q => q, fun _ _ q _ => q, fun _ q => q⟩
theorem Trn.trans (a : Trn env σ H env1 H1) (b : Trn env1 σ H1 env2 H2) : Trn env σ H env2 H2 :=
  ⟨fun x q => a.own x (b.own x q), fun x o q n => b.keep x o (a.keep x o q n) fun z => n (a.own x z), fun x q => b.dom x (a.dom x q)⟩
theorem dom_of {H H' : Hp} (h : ∀ a o, H a = some o → H' a = some o) : ∀ a, H a ≠ none → H' a ≠ none := fun a q => by
  cases e : H a with
  | none => exact absurd e q
  | some o =>
    rw [h a o e]
    exact fun z => by cases z
theorem Trn.grow (h : ∀ a o, H a = some o → H1 a = some o) : Trn env σ H env H1 := ⟨fun _ q => q, fun a o e _ => h a o e, dom_of h⟩
theorem Trn.av (a : Trn env σ H env1 H1) : ∀ b, Av env1 σ Z b → Av env σ Z b := fun b q => by
  rcases q with q | q
  · exact .inl (a.own b q)
  · exact .inr q
theorem Trn.rep (a : Trn env σ H env1 H1) {v : V} {d : D} (r : Rep K (Av env σ Z) H v d) : Rep K (Av env1 σ Z) H1 v d :=
  r.step (fun b o e n => a.keep b o e fun z => n (.inl z)) fun b q => .inl (a.av b q)
theorem Trn.repAll (a : Trn env σ H env1 H1) {v : List V} {d : List D} (r : RepAll K (Av env σ Z) H v d) : RepAll K (Av env1 σ Z) H1 v d :=
  r.step (fun b o e n => a.keep b o e fun z => n (.inl z)) fun b q => .inl (a.av b q)
theorem ORep.step {o : Op} {v : V} (a : Trn env σ H env1 H1) (r : ORep K (Av env σ Z) σ H o v) : ORep K (Av env1 σ Z) σ H1 o v := by
  cases o with
  | val d => exact a.rep r
  | slot i => exact r
theorem ORep.view {o : Op} {v : V} {d : D} (R : Re K Z env σ H) (r : ORep K (Av env σ Z) σ H o v) (g : o.get env = some d) : View K (Av env σ Z) H v d := by
  cases o with
  | val e =>
    cases g
    exact .inl r
  | slot i =>
    dsimp only [Op.get] at g
    have r : σ[i]? = some (some v) := r
    cases q : env[i]? with
    | none =>
      rw [q] at g
      cases g
    | some x =>
      rw [q] at g
      cases x with
      | none => cases g
      | some p =>
        obtain ⟨b, e⟩ := p
        cases g
        cases b with
        | false =>
          obtain ⟨u, h1, h2⟩ := R.sh i _ q
          rw [r] at h1
          cases h1
          exact .inl h2
        | true =>
          obtain ⟨a, vs, ds, h1, h2, h3, h4⟩ := R.ow i _ q
          rw [r] at h1
          cases h1
          exact .inr ⟨a, vs, ds, rfl, h2, h3, h4⟩
theorem Re.slot (R : Re K Z env σ H) {i : Nat} {p : Bool × D} (h : env[i]? = some (some p)) : ∃ v : V, σ[i]? = some (some v) := by
  obtain ⟨b, e⟩ := p
  cases b with
  | false =>
    obtain ⟨v, h1, _⟩ := R.sh i e h
    exact ⟨v, h1⟩
  | true =>
    obtain ⟨a, _, _, h1, _⟩ := R.ow i e h
    exact ⟨.ref a, h1⟩
theorem SOr.go {a : Opd} {o : Op} {Q : VK} (R : Re K Z env σ H) (h : a.run env = some (o, env1)) (q : ∀ v H1, Re K Z env1 σ H1 → Trn env σ H env1 H1 → ORep K (Av env1 σ Z) σ H1 o v → Q v H1) : SOr K a σ H Q := by
  cases a with
  | ex f =>
    dsimp only [Opd.run] at h
    cases e : f env with
    | none =>
      rw [e] at h
      cases h
    | some r =>
      rw [e] at h
      obtain ⟨w, e1⟩ := r
      cases h
      exact ⟨Z, env, w, e1, R, e, fun v H' x => q v H' x.re x.tr x.rep⟩
  | sl i =>
    dsimp only [Opd.run] at h
    cases e : env[i]? with
    | none =>
      rw [e] at h
      cases h
    | some x =>
      rw [e] at h
      cases x with
      | none => cases h
      | some p =>
        cases h
        obtain ⟨v, h1⟩ := R.slot e
        exact ⟨v, h1, q v H R .refl h1⟩
theorem made_res {w : W} {v : V} (R : Re K Z env1 σ H1) (t : Trn env σ H env1 H1) (m : Made K (Av env1 σ Z) H1 w v H2) : Res K Z env σ H w env1 v H2 := by
  have R2 : Re K Z env1 σ H2 := R.grow0 m.keep
  have t2 : Trn env σ H env1 H2 := t.trans (.grow m.keep)
  obtain ⟨b, d⟩ := w
  cases b with
  | false => exact ⟨R2, t2, m.old rfl, fun e => (nomatch e)⟩
  | true =>
    obtain ⟨a, vs, ds, h1, h2, h3, h4, h5⟩ := m.new rfl
    have na : ¬ Av env1 σ Z a := fun z => R.dom a z h3
    have hs : ∀ x, Av env1 σ (fun b => Z b ∨ b = a) x → Av env1 σ Z x ∨ x = a := fun x q => by
      rcases q with q | q | q
      · exact .inl (.inl q)
      · exact .inl (.inr q)
      · exact .inr q
    have hr : RepAll K (Av env1 σ fun b => Z b ∨ b = a) H2 vs ds := h5.less fun x q => hs x q
    refine ⟨R2, t2, ?_, fun _ => ⟨a, vs, ds, h1, h2, ?_, h4, ?_, hr⟩⟩
    · have h2 : d = .lst ds := h2
      show Rep K (Av env1 σ Z) H2 v d
      rw [h1, h2]
      exact .lst h4 na (hr.less fun x q => by
        rcases q with q | q
        · exact .inl q
        · exact .inr (.inl q))
    · cases e : H a with
      | none => rfl
      | some o => exact absurd h3 (t.dom a (by rw [e]; exact fun z => by cases z))
    · refine R.grow m.keep (fun x q => ?_) fun x q => ?_
      · rcases q with q | q
        · exact .inl q
        · subst q
          exact .inr h3
      · rcases q with q | q
        · exact dom_of m.keep x (R.z x q).1
        · subst q
          rw [h4]
          exact fun z => by cases z
end
/-! ### primitives -/
def P1Ok (K : PySem.W.Frag) (r : V → Hp → VK → Prop) (f : D → Option W) : Prop := ∀ (S : Addr → Prop) (H : Hp) (v : V) (d : D) (w : W) (Q : VK), (∀ a, S a → H a ≠ none) → View K S H v d → f d = some w → (∀ v' H', Made K S H w v' H' → Q v' H') → r v H Q
def P2Ok (K : PySem.W.Frag) (r : R2) (f : D → D → Option W) : Prop := ∀ (S : Addr → Prop) (H : Hp) (x y : V) (d e : D) (w : W) (Q : VK), (∀ a, S a → H a ≠ none) → View K S H x d → View K S H y e → f d e = some w → (∀ v' H', Made K S H w v' H' → Q v' H') → r x y H Q
def PnOk (K : PySem.W.Frag) (r : List V → Hp → VK → Prop) (f : List D → Option W) : Prop := ∀ (S : Addr → Prop) (H : Hp) (vs : List V) (ds : List D) (w : W) (Q : VK), (∀ a, S a → H a ≠ none) → ViewAll K S H vs ds → f ds = some w → (∀ v' H', Made K S H w v' H' → Q v' H') → r vs H Q
def e1 (f : D → Option W) (a : Opd) : EF := fun env => (a.run env).bind fun r => (r.1.get r.2).bind fun d => (f d).bind fun w => some (w, r.2)
def e2 (f : D → D → Option W) (a b : Opd) : EF := fun env => (a.run env).bind fun r => (b.run r.2).bind fun s => (r.1.get s.2).bind fun d => (s.1.get s.2).bind fun e => (f d e).bind fun w => some (w, s.2)
def runs : List Opd → PI.Env → Option (List Op × PI.Env)
  | [], env => some ([], env)
  | a :: as, env => (a.run env).bind fun r => (runs as r.2).bind fun s => some (r.1 :: s.1, s.2)
def gets (env : PI.Env) : List Op → Option (List D)
  | [] => some []
  | o :: os => (o.get env).bind fun d => (gets env os).bind fun ds => some (d :: ds)
def eN (f : List D → Option W) (as : List Opd) : EF := fun env => (runs as env).bind fun r => (gets r.2 r.1).bind fun ds => (f ds).bind fun w => some (w, r.2)
def SAr (K : PySem.W.Frag) : List Opd → TA
  | [] => tNil
  | a :: as => tCons (SOr K a) (SAr K as)
inductive OReps (K : PySem.W.Frag) (S : Addr → Prop) (σ : L2.St) (H : Hp) : List Op → List V → Prop
  | nil : OReps K S σ H [] []
  | cons {o : Op} {os : List Op} {v : V} {vs : List V} : ORep K S σ H o v → OReps K S σ H os vs → OReps K S σ H (o :: os) (v :: vs)
theorem obind {α β : Type} {x : Option α} {f : α → Option β} {b : β} (h : x.bind f = some b) : ∃ a, x = some a ∧ f a = some b := Option.bind_eq_some_iff.mp h
section
variable {K : PySem.W.Frag} {Z : Addr → Prop} {env env1 env2 : PI.Env} {σ : L2.St} {H H1 H2 : Hp}
theorem OReps.step {os : List Op} {vs : List V} (a : Trn env σ H env1 H1) : OReps K (Av env σ Z) σ H os vs → OReps K (Av env1 σ Z) σ H1 os vs := fun r => by
  induction r with
  | nil => exact .nil
  | cons r _ ih => exact .cons (r.step a) ih
theorem OReps.views {os : List Op} {vs : List V} (R : Re K Z env σ H) (r : OReps K (Av env σ Z) σ H os vs) : ∀ {ds : List D}, gets env os = some ds → ViewAll K (Av env σ Z) H vs ds := by
  induction r with
  | nil =>
    intro ds h
    cases h
    exact .nil
  | cons r _ ih =>
    intro ds h
    unfold gets at h
    obtain ⟨d, h1, h⟩ := obind h
    obtain ⟨es, h2, h⟩ := obind h
    cases h
    exact .cons (r.view R h1) (ih h2)
theorem SAr.go : ∀ {as : List Opd} {env : PI.Env} {H : Hp} {os : List Op} {env1 : PI.Env} {Q : List V → Hp → Prop}, Re K Z env σ H → runs as env = some (os, env1) → (∀ vs H1, Re K Z env1 σ H1 → Trn env σ H env1 H1 → OReps K (Av env1 σ Z) σ H1 os vs → Q vs H1) → SAr K as σ H Q
  | [], env, H, os, env1, Q, R, h, q => by
    cases h
    exact q [] H R .refl .nil
  | a :: as, env, H, os, env1, Q, R, h, q => by
    unfold runs at h
    obtain ⟨r, h1, h⟩ := obind h
    obtain ⟨s, h2, h⟩ := obind h
    cases h
    refine SOr.go R h1 fun v H1 R1 t1 o1 => ?_
    exact SAr.go R1 h2 fun vs H2 R2 t2 o2 => q (v :: vs) H2 R2 (t1.trans t2) (.cons (o1.step t2) o2)
theorem e1_go {r : V → Hp → VK → Prop} {f : D → Option W} {a : Opd} (p : P1Ok K r f) {Q : VK} (h : SEr K (e1 f a) σ H Q) : SOr K a σ H fun x H1 => r x H1 Q := by
  obtain ⟨Z, env, w, env', R, e, q⟩ := h
  obtain ⟨s, h1, e⟩ := obind e
  obtain ⟨d, h2, e⟩ := obind e
  obtain ⟨w', h3, e⟩ := obind e
  cases e
  exact SOr.go R h1 fun v H1 R1 t1 o1 => p _ H1 v d w Q R1.dom (o1.view R1 h2) h3 fun v' H' m => q v' H' (made_res R1 t1 m)
theorem e2_go {r : R2} {f : D → D → Option W} {a b : Opd} (p : P2Ok K r f) {Q : VK} (h : SEr K (e2 f a b) σ H Q) : tOp r (SOr K a) (SOr K b) σ H Q := by
  obtain ⟨Z, env, w, env', R, e, q⟩ := h
  obtain ⟨s, h1, e⟩ := obind e
  obtain ⟨t, h2, e⟩ := obind e
  obtain ⟨d, h3, e⟩ := obind e
  obtain ⟨d', h4, e⟩ := obind e
  obtain ⟨w', h5, e⟩ := obind e
  cases e
  exact SOr.go R h1 fun x H1 R1 t1 o1 => SOr.go R1 h2 fun y H2 R2 t2 o2 => p _ H2 x y d d' w Q R2.dom ((o1.step t2).view R2 h3) (o2.view R2 h4) h5 fun v' H' m => q v' H' (made_res R2 (t1.trans t2) m)
theorem eN_go {r : List V → Hp → VK → Prop} {f : List D → Option W} {as : List Opd} (p : PnOk K r f) {Q : VK} (h : SEr K (eN f as) σ H Q) : SAr K as σ H fun vs H1 => r vs H1 Q := by
  obtain ⟨Z, env, w, env', R, e, q⟩ := h
  obtain ⟨s, h1, e⟩ := obind e
  obtain ⟨ds, h2, e⟩ := obind e
  obtain ⟨w', h3, e⟩ := obind e
  cases e
  exact SAr.go R h1 fun vs H1 R1 t1 o1 => p _ H1 vs ds w Q R1.dom (o1.views R1 h2) h3 fun v' H' m => q v' H' (made_res R1 t1 m)
end
/-! ### the judgements weakened -/
section
variable {X : Cx} {e : Expr} {st : Stmt} {sts : List Stmt}
theorem PEi {t t' : TE} (h : PE X e t) (i : ∀ σ H Q, t' σ H Q → t σ H Q) : PE X e t' := ⟨fun pins s σ H Q I q => h.run pins s σ H Q I (i σ H Q q)⟩
theorem PTi {t t' : TT} (h : PT X e t) (i : ∀ σ H Q, t' σ H Q → t σ H Q) : PT X e t' := ⟨fun pins s σ H Q I q => h.run pins s σ H Q I (i σ H Q q)⟩
theorem PAi {es : List Expr} {t t' : TA} (h : PA X es t) (i : ∀ σ H Q, t' σ H Q → t σ H Q) : PA X es t' := ⟨fun pos pins s σ H Q I q => h.run pos pins s σ H Q I (i σ H Q q)⟩
theorem PSi {t t' : TS} (h : PS X st t) (i : ∀ D σ H, t' D σ H → t D σ H) : PS X st t' := ⟨fun pins s σ H D I q => h.run pins s σ H D I (i D σ H q)⟩
theorem PSsi {t t' : TS} (h : PSs X sts t) (i : ∀ D σ H, t' D σ H → t D σ H) : PSs X sts t' := ⟨fun pins s σ H D I q => h.run pins s σ H D I (i D σ H q)⟩
end
/-! ### names, constants -/
def eVar (i : Nat) : EF := fun env => match env[i]? with
  | some (some (true, d)) => some ((false, d), env.set i (some (false, d)))
  | some (some (false, d)) => some ((false, d), env)
  | _ => none
def eC (d : D) : EF := fun env => some ((false, d), env)
section
variable {K : PySem.W.Frag} {σ : L2.St} {H : Hp}
theorem eVar_go {i : Nat} {Q : VK} (h : SEr K (eVar i) σ H Q) : tVar i σ H Q := by
  obtain ⟨Z, env, w, env', R, e, q⟩ := h
  unfold eVar at e
  split at e
  · rename_i d g
    cases e
    obtain ⟨R2, v, h1, h2⟩ := R.share g
    exact ⟨v, h1, q v H ⟨R2, ⟨fun a z => own_share z, fun _ _ z _ => z, fun _ z => z⟩, h2, fun z => (nomatch z)⟩⟩
  · rename_i d g
    cases e
    obtain ⟨v, h1, h2⟩ := R.sh i d g
    exact ⟨v, h1, q v H ⟨R, .refl, h2, fun z => (nomatch z)⟩⟩
  · cases e
theorem eC_go {v : V} {d : D} (r : ∀ S H, Rep K S H v d) {Q : VK} (h : SEr K (eC d) σ H Q) : tC v σ H Q := by
  obtain ⟨Z, env, w, env', R, e, q⟩ := h
  cases e
  exact q v H ⟨R, .refl, r _ _, fun z => (nomatch z)⟩
end
section
variable {X : Cx} {pos : Pos}
theorem se_var (i : Nat) {x : Str} (hN : X.N[i]? = some x := by rfl) (hv : Vis X.env.scope x := by first | exact Or.inl rfl | exact Or.inr (Or.inl rfl) | exact Or.inr (Or.inr rfl)) (hd : (x == ("__debug__" : Str)) = false := by decide)
    (hcd : (x == ("__classdict__" : Str)) = false := by decide) : PE X (.Name x pos) (SEr X.K (eVar i)) := PEi (pv i hN hv hd hcd) fun _ _ _ h => eVar_go h
theorem so_var (i : Nat) {x : Str} (hN : X.N[i]? = some x := by rfl) (hv : Vis X.env.scope x := by first | exact Or.inl rfl | exact Or.inr (Or.inl rfl) | exact Or.inr (Or.inr rfl)) (hd : (x == ("__debug__" : Str)) = false := by decide)
    (hcd : (x == ("__classdict__" : Str)) = false := by decide) : PE X (.Name x pos) (SOr X.K (.sl i)) := pv i hN hv hd hcd
theorem so_ex {e : Expr} {f : EF} (h : PE X e (SEr X.K f)) : PE X e (SOr X.K (.ex f)) := h
theorem se_int {i : Int} {j} : PE X (.Constant (.int i) j pos) (SEr X.K (eC (.int i))) := PEi pe_int fun _ _ _ h => eC_go (fun _ _ => .int i) h
theorem se_bl {b : Bool} {j} : PE X (.Constant (.bool b) j pos) (SEr X.K (eC (.bl b))) := PEi pe_bl fun _ _ _ h => eC_go (fun _ _ => .bl b) h
theorem se_non {j} : PE X (.Constant .none j pos) (SEr X.K (eC .non)) := PEi pe_non fun _ _ _ h => eC_go (fun _ _ => .non) h
theorem se_str {x : Str} {j} : PE X (.Constant (.str x) j pos) (SEr X.K (eC (.str x))) := PEi pe_str fun _ _ _ h => eC_go (fun _ _ => .str x) h
/-- a constant of the module -/
theorem se_glob {x : Str} {d : D} {v : V} {u : Value} (hm : X.mg x = some u) (r : RelV v u) (rp : ∀ S H, Rep X.K S H v d) (hg : Gl X x := by rfl) (hd : (x == ("__debug__" : Str)) = false := by decide) : PE X (.Name x pos) (SEr X.K (eC d)) :=
  PEi (pe_glob hg hm r hd) fun _ _ _ h => eC_go rp h
theorem sa_nil : PA X [] (SAr X.K []) := pa_nil
theorem sa_cons {e : Expr} {es : List Expr} {a : Opd} {as : List Opd} (h : PE X e (SOr X.K a)) (hr : PA X es (SAr X.K as)) (hs : starEach (e :: es) X.env = (false, eval e X.env) :: starEach es X.env := by rfl) : PA X (e :: es) (SAr X.K (a :: as)) := pa_cons h hr hs
/-! ### operators -/
theorem se_op {op : Operator} {r : R2} {f : D → D → Option W} {a b : Expr} {oa ob : Opd} (ho : L2.OpR X (binaryOp op) r) (p : P2Ok X.K r f) (ha : PE X a (SOr X.K oa)) (hb : PE X b (SOr X.K ob)) : PE X (.BinOp a op b pos) (SEr X.K (e2 f oa ob)) :=
  PEi (pe_op ho ha hb) fun _ _ _ h => e2_go p h
theorem se_cmp {op : CmpOp} {r : R2} {f : D → D → Option W} {a b : Expr} {oa ob : Opd} (ho : L2.OpR X (compareOp op) r) (p : P2Ok X.K r f) (ha : PE X a (SOr X.K oa)) (hb : PE X b (SOr X.K ob)) (hm : behindInMarks op b = false := by rfl) : PE X (.Compare a [op] [b] pos) (SEr X.K (e2 f oa ob)) :=
  PEi (pe_cmpR ho ha hb hm) fun _ _ _ h => e2_go p h
theorem se_un {op : UnaryOp} {r : V → Hp → VK → Prop} {f : D → Option W} {a : Expr} {oa : Opd} (ho : UnR X (unaryOp op) r) (p : P1Ok X.K r f) (ha : PE X a (SOr X.K oa)) : PE X (.UnaryOp op a pos) (SEr X.K (e1 f oa)) :=
  PEi (pe_un ho ha) fun _ _ _ h => e1_go p h
theorem se_ix {r : R2} {f : D → D → Option W} {a b : Expr} {oa ob : Opd} (ho : IxR X r) (p : P2Ok X.K r f) (ha : PE X a (SOr X.K oa)) (hb : PE X b (SOr X.K ob)) (hs : PlainIx b := by exact fun _ _ => rfl) : PE X (.Subscript a b pos) (SEr X.K (e2 f oa ob)) :=
  PEi (pe_ix ho ha hb hs) fun _ _ _ h => e2_go p h
theorem se_callB {x : Str} {p2 : Pos} {e : Expr} {es : List Expr} {id : String} {r : List V → Hp → VK → Prop} {f : List D → Option W} {as : List Opd} (hc : CallR X (.builtin id) r) (p : PnOk X.K r f) (hm : X.mg x = none) (hv : bootBuiltins x = some (.builtin id)) (ha : PA X (e :: es) (SAr X.K as)) (hg : Gl X x := by rfl)
    (hn : x ≠ "__name__" := by decide) (hdb : (x == ("__debug__" : Str)) = false := by decide)
    (he : starEach (e :: es) X.env = (false, eval e X.env) :: starEach es X.env := by rfl) (hpl : (backTo pos (starEach es X.env)).any (·.1) = false := by rfl) : PE X (.Call (.Name x p2) (e :: es) [] pos) (SEr X.K (eN f as)) :=
  PEi (pe_callB hc hg hm hv ha hn hdb he hpl) fun _ _ _ h => eN_go p h
theorem se_callTy {x : Str} {p2 : Pos} {e : Expr} {es : List Expr} {T : String} {r : List V → Hp → VK → Prop} {f : List D → Option W} {as : List Opd} (hc : CallR X (.type T) r) (p : PnOk X.K r f) (hm : X.mg x = none) (hv : bootBuiltins x = some (.type T)) (ha : PA X (e :: es) (SAr X.K as)) (hg : Gl X x := by rfl)
    (hn : x ≠ "__name__" := by decide) (hdb : (x == ("__debug__" : Str)) = false := by decide)
    (he : starEach (e :: es) X.env = (false, eval e X.env) :: starEach es X.env := by rfl) (hpl : (backTo pos (starEach es X.env)).any (·.1) = false := by rfl) : PE X (.Call (.Name x p2) (e :: es) [] pos) (SEr X.K (eN f as)) :=
  PEi (pe_callTy hc hg hm hv ha hn hdb he hpl) fun _ _ _ h => eN_go p h
end
end PI

namespace PI
open PySem PySem.Spec PyProof.Rows L2
/-! ### tests -/
def STr (K : PySem.W.Frag) (f : EF) : TT := fun σ H Q => ∃ Z env fr b env', Re K Z env σ H ∧ f env = some ((fr, .bl b), env') ∧ ∀ H', Re K Z env' σ H' → Trn env σ H env' H' → Q b H'
def eAnd (f g : EF) : EF := fun env => (f env).bind fun r => match r.1.2 with
  | .bl true => g r.2
  | .bl false => some ((false, .bl false), r.2)
  | _ => none
def eOr (f g : EF) : EF := fun env => (f env).bind fun r => match r.1.2 with
  | .bl true => some ((false, .bl true), r.2)
  | .bl false => g r.2
  | _ => none
def eNot (f : EF) : EF := fun env => (f env).bind fun r => match r.1.2 with
  | .bl b => some ((false, .bl (!b)), r.2)
  | _ => none
def eIf (c f g : EF) : EF := fun env => (c env).bind fun r => match r.1.2 with
  | .bl true => f r.2
  | .bl false => g r.2
  | _ => none
section
variable {K : PySem.W.Frag} {Z : Addr → Prop} {env env1 env2 : PI.Env} {σ : L2.St} {H H1 H2 : Hp} {w : W} {v : V}
theorem Res.after (t : Trn env σ H env1 H1) (r : Res K Z env1 σ H1 w env2 v H2) : Res K Z env σ H w env2 v H2 :=
  ⟨r.re, t.trans r.tr, r.rep, fun e => by
    obtain ⟨a, vs, ds, h1, h2, h3, h4⟩ := r.new e
    refine ⟨a, vs, ds, h1, h2, ?_, h4⟩
    cases q : H a with
    | none => rfl
    | some o => exact absurd h3 (t.dom a (by rw [q]; exact fun z => by cases z))⟩
theorem res_old {d : D} (R : Re K Z env1 σ H1) (t : Trn env σ H env1 H1) (r : Rep K (Av env1 σ Z) H1 v d) : Res K Z env σ H (false, d) env1 v H1 := ⟨R, t, r, fun e => (nomatch e)⟩
theorem rep_bl {S : Addr → Prop} {v : V} {b : Bool} (h : Rep K S H v (.bl b)) : v = .bl b := by
  cases h
  rfl
theorem rep_int {S : Addr → Prop} {v : V} {b : Int} (h : Rep K S H v (.int b)) : v = .int b := by
  cases h
  rfl
theorem st_val {f : EF} {Q : Bool → Hp → Prop} (h : STr K f σ H Q) : tB (SEr K f) σ H Q := by
  obtain ⟨Z, env, fr, b, env', R, e, q⟩ := h
  exact ⟨Z, env, (fr, .bl b), env', R, e, fun v H' x => ⟨b, rep_bl x.rep, q H' x.re x.tr⟩⟩
theorem st_and_go {f g : EF} {Q : Bool → Hp → Prop} (h : STr K (eAnd f g) σ H Q) : tAnd (STr K f) (STr K g) σ H Q := by
  obtain ⟨Z, env, fr, b, env', R, e, q⟩ := h
  obtain ⟨r, h1, e⟩ := obind e
  obtain ⟨⟨fr1, d⟩, env1⟩ := r
  cases d with
  | bl c =>
    refine ⟨Z, env, fr1, c, env1, R, h1, fun H1 R1 t1 => ?_⟩
    cases c with
    | true => exact iteT ⟨Z, env1, fr, b, env', R1, e, fun H2 R2 t2 => q H2 R2 (t1.trans t2)⟩
    | false =>
      cases e
      exact iteF (q H1 R1 t1)
  | _ => cases e
theorem st_or_go {f g : EF} {Q : Bool → Hp → Prop} (h : STr K (eOr f g) σ H Q) : tOr (STr K f) (STr K g) σ H Q := by
  obtain ⟨Z, env, fr, b, env', R, e, q⟩ := h
  obtain ⟨r, h1, e⟩ := obind e
  obtain ⟨⟨fr1, d⟩, env1⟩ := r
  cases d with
  | bl c =>
    refine ⟨Z, env, fr1, c, env1, R, h1, fun H1 R1 t1 => ?_⟩
    cases c with
    | false => exact iteF ⟨Z, env1, fr, b, env', R1, e, fun H2 R2 t2 => q H2 R2 (t1.trans t2)⟩
    | true =>
      cases e
      exact iteT (q H1 R1 t1)
  | _ => cases e
theorem st_not_go {f : EF} {Q : Bool → Hp → Prop} (h : STr K (eNot f) σ H Q) : tNot (STr K f) σ H Q := by
  obtain ⟨Z, env, fr, b, env', R, e, q⟩ := h
  obtain ⟨r, h1, e⟩ := obind e
  obtain ⟨⟨fr1, d⟩, env1⟩ := r
  cases d with
  | bl c =>
    cases e
    exact ⟨Z, env, fr1, c, env1, R, h1, fun H1 R1 t1 => q H1 R1 t1⟩
  | _ => cases e
theorem eAnd_go {f g : EF} {Q : VK} (h : SEr K (eAnd f g) σ H Q) : tAndV (SEr K f) (SEr K g) σ H Q := by
  obtain ⟨Z, env, w, env', R, e, q⟩ := h
  obtain ⟨r, h1, e⟩ := obind e
  obtain ⟨⟨fr1, d⟩, env1⟩ := r
  cases d with
  | bl c =>
    refine ⟨Z, env, _, env1, R, h1, fun v H1 x => ⟨c, rep_bl x.rep, ?_⟩⟩
    cases c with
    | true => exact iteT ⟨Z, env1, w, env', x.re, e, fun v2 H2 y => q v2 H2 (y.after x.tr)⟩
    | false =>
      cases e
      exact iteF (q _ H1 (res_old x.re x.tr (.bl false)))
  | _ => cases e
theorem eOr_go {f g : EF} {Q : VK} (h : SEr K (eOr f g) σ H Q) : tOrV (SEr K f) (SEr K g) σ H Q := by
  obtain ⟨Z, env, w, env', R, e, q⟩ := h
  obtain ⟨r, h1, e⟩ := obind e
  obtain ⟨⟨fr1, d⟩, env1⟩ := r
  cases d with
  | bl c =>
    refine ⟨Z, env, _, env1, R, h1, fun v H1 x => ⟨c, rep_bl x.rep, ?_⟩⟩
    cases c with
    | false => exact iteF ⟨Z, env1, w, env', x.re, e, fun v2 H2 y => q v2 H2 (y.after x.tr)⟩
    | true =>
      cases e
      exact iteT (q _ H1 (res_old x.re x.tr (.bl true)))
  | _ => cases e
theorem eNot_go {f : EF} {Q : VK} (h : SEr K (eNot f) σ H Q) : tNotV (SEr K f) σ H Q := by
  obtain ⟨Z, env, w, env', R, e, q⟩ := h
  obtain ⟨r, h1, e⟩ := obind e
  obtain ⟨⟨fr1, d⟩, env1⟩ := r
  cases d with
  | bl c =>
    cases e
    exact ⟨Z, env, _, env1, R, h1, fun v H1 x => ⟨c, rep_bl x.rep, q _ H1 (res_old x.re x.tr (.bl _))⟩⟩
  | _ => cases e
theorem eIf_go {c f g : EF} {Q : VK} (h : SEr K (eIf c f g) σ H Q) : tIf (STr K c) (SEr K f) (SEr K g) σ H Q := by
  obtain ⟨Z, env, w, env', R, e, q⟩ := h
  obtain ⟨r, h1, e⟩ := obind e
  obtain ⟨⟨fr1, d⟩, env1⟩ := r
  cases d with
  | bl c =>
    refine ⟨Z, env, fr1, c, env1, R, h1, fun H1 R1 t1 => ?_⟩
    cases c with
    | true => exact iteT ⟨Z, env1, w, env', R1, e, fun v2 H2 y => q v2 H2 (y.after t1)⟩
    | false => exact iteF ⟨Z, env1, w, env', R1, e, fun v2 H2 y => q v2 H2 (y.after t1)⟩
  | _ => cases e
end
section
variable {X : Cx} {pos : Pos} {a b c : Expr} {rest : List Expr} {f g h : EF}
/-- a test by its value -/
theorem st_of (p : PE X a (SEr X.K f)) (he : ∀ whole, isTrue a X.env whole = (do let v ← whole; standAt a.pos; holding [v] (truthy v)) := by intro _; rfl) : PT X a (STr X.K f) := PTi (pt_val p he) fun _ _ _ q => st_val q
theorem tB_test (t : TE) : tB t = tTest t := rfl
theorem st_cmp {op : CmpOp} {r : R2} {f : D → D → Option W} {oa ob : Opd} (ho : L2.OpR X (compareOp op) r) (p : P2Ok X.K r f) (ha : PE X a (SOr X.K oa)) (hb : PE X b (SOr X.K ob)) (hm : behindInMarks op b = false := by rfl) : PT X (.Compare a [op] [b] pos) (STr X.K (e2 f oa ob)) := by
  refine PTi (pt_cmpR ho ha hb hm) fun σ H Q q => ?_
  have q := st_val q
  exact e2_go (K := X.K) (Q := fun x H1 => ∃ c, x = .bl c ∧ Q c H1) p q
theorem st_and (ha : PT X a (STr X.K f)) (hb : PW X (.BoolOp .And (b :: rest) pos) (STr X.K g)) : PW X (.BoolOp .And (a :: b :: rest) pos) (STr X.K (eAnd f g)) :=
  ⟨fun wh pins s σ H Q I q => (pw_and ha hb).run wh pins s σ H Q I (st_and_go q)⟩
theorem st_and1 (ha : PT X a (STr X.K f)) : PW X (.BoolOp .And [a] pos) (STr X.K f) := pw_and1 ha
theorem st_or (ha : PT X a (STr X.K f)) (hb : PW X (.BoolOp .Or (b :: rest) pos) (STr X.K g)) : PW X (.BoolOp .Or (a :: b :: rest) pos) (STr X.K (eOr f g)) :=
  ⟨fun wh pins s σ H Q I q => (pw_or ha hb).run wh pins s σ H Q I (st_or_go q)⟩
theorem st_or1 (ha : PT X a (STr X.K f)) : PW X (.BoolOp .Or [a] pos) (STr X.K f) := pw_or1 ha
theorem st_not (ha : PT X a (STr X.K f)) : PT X (.UnaryOp .Not a pos) (STr X.K (eNot f)) := PTi (pt_not ha) fun _ _ _ q => st_not_go q
theorem se_and (ha : PE X a (SEr X.K f)) (hb : PE X (.BoolOp .And (b :: rest) pos) (SEr X.K g)) : PE X (.BoolOp .And (a :: b :: rest) pos) (SEr X.K (eAnd f g)) := PEi (pe_and ha hb) fun _ _ _ q => eAnd_go q
theorem se_or (ha : PE X a (SEr X.K f)) (hb : PE X (.BoolOp .Or (b :: rest) pos) (SEr X.K g)) : PE X (.BoolOp .Or (a :: b :: rest) pos) (SEr X.K (eOr f g)) := PEi (pe_or ha hb) fun _ _ _ q => eOr_go q
theorem se_one {op} (ha : PE X a (SEr X.K f)) : PE X (.BoolOp op [a] pos) (SEr X.K f) := pe_one ha
theorem se_not (ha : PE X a (SEr X.K f)) : PE X (.UnaryOp .Not a pos) (SEr X.K (eNot f)) := PEi (pe_not ha) fun _ _ _ q => eNot_go q
theorem se_if (hc : PT X c (STr X.K h)) (ha : PE X a (SEr X.K f)) (hb : PE X b (SEr X.K g)) : PE X (.IfExp c a b pos) (SEr X.K (eIf h f g)) := PEi (pe_ifExp hc ha hb) fun _ _ _ q => eIf_go q
end
/-! ### values in a row -/
def vals : List EF → PI.Env → Option (List D × PI.Env)
  | [], env => some ([], env)
  | f :: fs, env => (f env).bind fun r => (vals fs r.2).bind fun s => some (r.1.2 :: s.1, s.2)
def SVr (K : PySem.W.Frag) : List EF → TA
  | [] => tNil
  | f :: fs => tCons (SEr K f) (SVr K fs)
def eTup (fs : List EF) : EF := fun env => (vals fs env).bind fun r => some ((false, .tup r.1), r.2)
def eLst (fs : List EF) : EF := fun env => (vals fs env).bind fun r => some ((true, .lst r.1), r.2)
section
variable {K : PySem.W.Frag} {Z : Addr → Prop} {env env1 env2 : PI.Env} {σ : L2.St} {H H1 H2 : Hp} {w : W} {v : V}
theorem SVr.go : ∀ {fs : List EF} {env : PI.Env} {H : Hp} {ds : List D} {env1 : PI.Env} {Q : List V → Hp → Prop}, Re K Z env σ H → vals fs env = some (ds, env1) → (∀ vs H1, vs.length = fs.length → Re K Z env1 σ H1 → Trn env σ H env1 H1 → RepAll K (Av env1 σ Z) H1 vs ds → Q vs H1) → SVr K fs σ H Q
  | [], env, H, os, env1, Q, R, h, q => by
    cases h
    exact q [] H rfl R .refl .nil
  | a :: as, env, H, os, env1, Q, R, h, q => by
    unfold vals at h
    obtain ⟨r, h1, h⟩ := obind h
    obtain ⟨s, h2, h⟩ := obind h
    cases h
    obtain ⟨w, env2⟩ := r
    refine ⟨Z, env, w, env2, R, h1, fun v H1 x => ?_⟩
    exact SVr.go x.re h2 fun vs H2 l R2 t2 o2 => q (v :: vs) H2 (congrArg Nat.succ l) R2 (x.tr.trans t2) (.cons (t2.rep x.rep) o2)
theorem eTup_go {fs : List EF} (hl : fs.length ≤ 1000) {Q : VK} (h : SEr K (eTup fs) σ H Q) : tTup (SVr K fs) σ H Q := by
  obtain ⟨Z, env, w, env', R, e, q⟩ := h
  obtain ⟨r, h1, e⟩ := obind e
  cases e
  exact SVr.go R h1 fun vs H1 l R1 t1 o1 => ⟨Nat.le_of_lt (small1000 (by omega)), fun p hp => q _ _ (made_res R1 t1 (made_tup hp (fun z => R1.dom p z hp) o1))⟩
theorem eLst_go {fs : List EF} (hl : fs.length ≤ 1000) {Q : VK} (h : SEr K (eLst fs) σ H Q) : tLst (SVr K fs) σ H Q := by
  obtain ⟨Z, env, w, env', R, e, q⟩ := h
  obtain ⟨r, h1, e⟩ := obind e
  cases e
  exact SVr.go R h1 fun vs H1 l R1 t1 o1 => ⟨Nat.le_of_lt (small1000 (by omega)), fun p hp => q _ _ (made_res R1 t1 (made_lst hp o1))⟩
end
section
variable {X : Cx} {pos : Pos} {e : Expr} {es : List Expr} {f : EF} {fs : List EF}
theorem sv_nil : PA X [] (SVr X.K []) := pa_nil
theorem sv_cons (h : PE X e (SEr X.K f)) (hr : PA X es (SVr X.K fs)) (hs : starEach (e :: es) X.env = (false, eval e X.env) :: starEach es X.env := by rfl) : PA X (e :: es) (SVr X.K (f :: fs)) := pa_cons h hr hs
theorem se_tup {x1} (h : PA X es (SVr X.K fs)) (hl : fs.length ≤ 1000 := by first | decide | exact Nat.le_of_ble_eq_true rfl) : PE X (.Tuple es x1 pos) (SEr X.K (eTup fs)) := PEi (pe_tup h) fun _ _ _ q => eTup_go hl q
theorem se_lst (h : PA X es (SVr X.K fs)) (hl : fs.length ≤ 1000 := by first | decide | exact Nat.le_of_ble_eq_true rfl) : PE X (.List es pos) (SEr X.K (eLst fs)) := PEi (pe_lst h) fun _ _ _ q => eLst_go hl q
end
/-! ### a < b < c -/
def eCh (f g : D → D → Option W) (a b c : Opd) : EF := fun env => (a.run env).bind fun r => (b.run r.2).bind fun s => (r.1.get s.2).bind fun d => (s.1.get s.2).bind fun e => (f d e).bind fun w => match w with
  | (false, .bl true) => (c.run s.2).bind fun t => (s.1.get t.2).bind fun e => (t.1.get t.2).bind fun k => (g e k).bind fun w => some (w, t.2)
  | (false, .bl false) => some ((false, .bl false), s.2)
  | _ => none
section
variable {K : PySem.W.Frag} {σ : L2.St} {H : Hp}
theorem eCh_go {r r' : R2} {f g : D → D → Option W} {a b c : Opd} (p : P2Ok K r f) (p' : P2Ok K r' g) {Q : VK} (h : SEr K (eCh f g a b c) σ H Q) : tChain r r' (SOr K a) (SOr K b) (SOr K c) σ H Q := by
  obtain ⟨Z, env, w, env', R, e, q⟩ := h
  obtain ⟨s, h1, e⟩ := obind e
  obtain ⟨t, h2, e⟩ := obind e
  obtain ⟨d, h3, e⟩ := obind e
  obtain ⟨d', h4, e⟩ := obind e
  obtain ⟨w', h5, e⟩ := obind e
  refine SOr.go R h1 fun x H1 R1 t1 o1 => SOr.go R1 h2 fun y H2 R2 t2 o2 => p _ H2 x y d d' w' _ R2.dom ((o1.step t2).view R2 h3) (o2.view R2 h4) h5 fun v' H' m => ?_
  obtain ⟨fr, d1⟩ := w'
  cases fr with
  | true => cases e
  | false =>
    cases d1 with
    | bl k =>
      have ev := rep_bl (m.old rfl)
      refine ⟨k, ev, ?_⟩
      have R3 : Re K Z t.2 σ H' := R2.grow0 m.keep
      have t3 : Trn t.2 σ H2 t.2 H' := .grow m.keep
      cases k with
      | false =>
        cases e
        exact iteF (q _ H' (res_old R3 ((t1.trans t2).trans t3) (.bl false)))
      | true =>
        obtain ⟨u, h6, e⟩ := obind e
        obtain ⟨d2, h7, e⟩ := obind e
        obtain ⟨d3, h8, e⟩ := obind e
        obtain ⟨w2, h9, e⟩ := obind e
        cases e
        refine iteT (SOr.go R3 h6 fun z H4 R4 t4 o4 => p' _ H4 y z d2 d3 w Q R4.dom (((o2.step t3).step t4).view R4 h7) (o4.view R4 h8) h9 fun v2 H5 m2 => q v2 H5 (made_res R4 (((t1.trans t2).trans t3).trans t4) m2))
    | _ => cases e
end
section
variable {X : Cx} {pos : Pos} {a b c : Expr}
theorem se_chain {op op' : CmpOp} {r r' : R2} {f g : D → D → Option W} {oa ob oc : Opd} (ho : L2.OpR X (compareOp op) r) (p : P2Ok X.K r f) (ho' : L2.OpR X (compareOp op') r') (p' : P2Ok X.K r' g) (ha : PE X a (SOr X.K oa)) (hb : PE X b (SOr X.K ob)) (hc : PE X c (SOr X.K oc)) (hm : lastMarks [op, op'] [b, c] = false := by rfl) :
    PE X (.Compare a [op, op'] [b, c] pos) (SEr X.K (eCh f g oa ob oc)) := PEi (pe_chain ho ho' ha hb hc (hm := hm)) fun _ _ _ q => eCh_go p p' q
end
/-! ### slices -/
def prt : Option EF → PI.Env → Option (Option Int × PI.Env)
  | none, env => some (none, env)
  | some f, env => (f env).bind fun r => match r.1.2 with
    | .int i => some (some i, r.2)
    | _ => none
def SPr (K : PySem.W.Frag) : Option EF → TO
  | none => tNoPart
  | some f => tPart (SEr K f)
def P3Ok (K : PySem.W.Frag) (r : V → Option Int → Option Int → Hp → VK → Prop) (f : D → Option Int → Option Int → Option W) : Prop := ∀ (S : Addr → Prop) (H : Hp) (v : V) (d : D) (lo hi : Option Int) (w : W) (Q : VK), (∀ a, S a → H a ≠ none) → View K S H v d → f d lo hi = some w → (∀ v' H', Made K S H w v' H' → Q v' H') → r v lo hi H Q
def eSl (f : D → Option Int → Option Int → Option W) (a : Opd) (lo hi : Option EF) : EF := fun env => (a.run env).bind fun r => (prt lo r.2).bind fun s => (prt hi s.2).bind fun t => (r.1.get t.2).bind fun d => (f d s.1 t.1).bind fun w => some (w, t.2)
section
variable {K : PySem.W.Frag} {Z : Addr → Prop} {env env1 : PI.Env} {σ : L2.St} {H : Hp}
theorem SPr.go {f : Option EF} {o : Option Int} {Q : Option Int → Hp → Prop} (R : Re K Z env σ H) (h : prt f env = some (o, env1)) (q : ∀ H1, Re K Z env1 σ H1 → Trn env σ H env1 H1 → Q o H1) : SPr K f σ H Q := by
  cases f with
  | none =>
    cases h
    exact q H R .refl
  | some f =>
    obtain ⟨r, h1, e⟩ := obind h
    obtain ⟨⟨fr1, d⟩, env2⟩ := r
    cases d with
    | int i =>
      cases e
      exact ⟨Z, env, _, env2, R, h1, fun v H1 x => ⟨i, rep_int x.rep, q H1 x.re x.tr⟩⟩
    | _ => cases e
theorem eSl_go {r : V → Option Int → Option Int → Hp → VK → Prop} {f : D → Option Int → Option Int → Option W} {a : Opd} {lo hi : Option EF} (p : P3Ok K r f) {Q : VK} (h : SEr K (eSl f a lo hi) σ H Q) : tSl r (SOr K a) (SPr K lo) (SPr K hi) σ H Q := by
  obtain ⟨Z, env, w, env', R, e, q⟩ := h
  obtain ⟨s, h1, e⟩ := obind e
  obtain ⟨t, h2, e⟩ := obind e
  obtain ⟨u, h3, e⟩ := obind e
  obtain ⟨d, h4, e⟩ := obind e
  obtain ⟨w', h5, e⟩ := obind e
  cases e
  exact SOr.go R h1 fun x H1 R1 t1 o1 => SPr.go R1 h2 fun H2 R2 t2 => SPr.go R2 h3 fun H3 R3 t3 => p _ H3 x d _ _ w Q R3.dom (((o1.step t2).step t3).view R3 h4) h5 fun v' H' m => q v' H' (made_res R3 ((t1.trans t2).trans t3) m)
end
section
variable {X : Cx} {pos p2 : Pos} {a : Expr} {lo hi : Option Expr}
theorem sp_none : L2.PO X none (SPr X.K none) := po_none
theorem sp_some {e : Expr} {f : EF} (h : PE X e (SEr X.K f)) : L2.PO X (some e) (SPr X.K (some f)) := po_some h
theorem se_slice {r : V → Option Int → Option Int → Hp → VK → Prop} {f : D → Option Int → Option Int → Option W} {oa : Opd} {l h : Option EF} (hr : SlR X r) (p : P3Ok X.K r f) (ha : PE X a (SOr X.K oa)) (hl : L2.PO X lo (SPr X.K l)) (hu : L2.PO X hi (SPr X.K h)) :
    PE X (.Subscript a (.Slice lo hi none p2) pos) (SEr X.K (eSl f oa l h)) := PEi (pe_slice hr ha hl hu) fun _ _ _ q => eSl_go p q
end
/-! ### lists that lose an item -/
def ePop (i : Nat) : EF := fun env => match env[i]? with
  | some (some (true, .lst ds)) => match ds[ds.length - 1]? with
    | some d => some ((false, d), env.set i (some (true, .lst ds.dropLast)))
    | none => none
  | _ => none
def isOwn (env : PI.Env) (i : Nat) : Bool := match env[i]? with
  | some (some (true, .lst _)) => true
  | _ => false
def ePopAt (i : Nat) (f : EF) : EF := fun env => match isOwn env i with
  | true => (f env).bind fun r => match r.1.2 with
    | .int k => if -(2 ^ 63) ≤ k ∧ k < 2 ^ 63 then (match r.2[i]? with
      | some (some (true, .lst ds)) => (seqIndex? k ds.length).bind fun j => (ds[j]?).bind fun d => some ((false, d), r.2.set i (some (true, .lst (ds.eraseIdx j))))
      | _ => none) else none
    | _ => none
  | false => none
section
variable {K : PySem.W.Frag} {Z : Addr → Prop} {env env1 : PI.Env} {σ : L2.St} {H H' : Hp}
theorem keep_ne {a : Addr} {o : HO} : ∀ b u, b ≠ a → H b = some u → upd H a o b = some u := fun b u n e => by
  rw [upd_ne n]
  exact e
theorem mut_trn {i : Nat} {d d' : D} {a : Addr} {o : HO} (h : env[i]? = some (some (true, d))) (ha : σ[i]? = some (some (V.ref a))) : Trn env σ H (env.set i (some (true, d'))) (upd H a o) :=
  ⟨fun b q => (own_mut h).mp q, fun b u e n => keep_ne b u (fun z => n ⟨i, d, h, by rw [z]; exact ha⟩) e, fun b q => by
    by_cases z : b = a
    · subst z
      rw [upd_same]
      exact fun z => by cases z
    · rw [upd_ne z]
      exact q⟩
theorem av_mut {i : Nat} {d d' : D} {b : Addr} (h : env[i]? = some (some (true, d))) : Av (env.set i (some (true, d'))) σ Z b ↔ Av env σ Z b := by
  unfold Av
  rw [own_mut h]
/-- the owned list at i becomes another one of things that were known -/
theorem Rel.mutU (R : Re K Z env σ H) {i : Nat} {d : D} {a : Addr} {us : List V} {es : List D} (h : env[i]? = some (some (true, d))) (ha : σ[i]? = some (some (V.ref a))) (hr : RepAll K (Av env σ Z) H us es) :
    Re K Z (env.set i (some (true, .lst es))) σ (upd H a (.lst us)) ∧ (∀ {v : V} {e : D}, Rep K (Av env σ Z) H v e → Rep K (Av (env.set i (some (true, .lst es))) σ Z) (upd H a (.lst us)) v e) := by
  have st : ∀ b u, H b = some u → ¬ Av env σ Z b → upd H a (.lst us) b = some u := fun b u e n => keep_ne b u (fun z => n (.inl ⟨i, d, h, by rw [z]; exact ha⟩)) e
  refine ⟨R.mutate h ha keep_ne upd_same (hr.step st fun b q => .inl q), fun {v e} r => r.step st fun b q => .inl ((av_mut h).mp q)⟩
theorem ePop_go {i : Nat} {Q : VK} (h : SEr K (ePop i) σ H Q) : tBM0 K "list" rPop (tVar i) σ H Q := by
  obtain ⟨Z, env, w, env', R, e, q⟩ := h
  unfold ePop at e
  split at e
  · rename_i ds g
    split at e
    · rename_i d hd
      cases e
      obtain ⟨a, vs, es, h1, h2, h3, h4⟩ := R.ow i _ g
      cases h2
      obtain ⟨v, hv, rv⟩ := h4.get hd
      obtain ⟨R2, st⟩ := R.mutU (us := vs.dropLast) (es := ds.dropLast) g h1 h4.dropLast
      exact ⟨.ref a, h1, .inl ⟨rfl, _, .inl (.inl h3)⟩, a, vs, v, rfl, rfl, h3, by rw [h4.length]; exact hv, q v _ (res_old R2 (mut_trn g h1) (st rv))⟩
    · cases e
  · cases e
theorem isOwn_at {i : Nat} (h : isOwn env i = true) : ∃ ds, env[i]? = some (some (true, .lst ds)) := by
  unfold isOwn at h
  split at h
  · exact ⟨_, by assumption⟩
  · cases h
theorem own_list (R : Re K Z env σ H) {i : Nat} (h : isOwn env i = true) : ∃ (a : Addr) (vs : List V) (ds : List D), σ[i]? = some (some (V.ref a)) ∧ env[i]? = some (some (true, .lst ds)) ∧ H a = some (.lst vs) ∧ RepAll K (Av env σ Z) H vs ds ∧ tyV K "list" (V.ref a) H := by
  obtain ⟨ds, g⟩ := isOwn_at h
  obtain ⟨a, vs, es, h1, h2, h3, h4⟩ := R.ow i _ g
  cases h2
  exact ⟨a, vs, ds, h1, g, h3, h4, .inl ⟨rfl, _, .inl (.inl h3)⟩⟩
theorem ePopAt_go {i : Nat} {f : EF} {Q : VK} (h : SEr K (ePopAt i f) σ H Q) : tBM K "list" rPopAt (tVar i) (tCons (SEr K f) tNil) σ H Q := by
  obtain ⟨Z, env, w, env', R, e, q⟩ := h
  unfold ePopAt at e
  cases hw : isOwn env i with
  | false =>
    rw [hw] at e
    cases e
  | true =>
    rw [hw] at e
    obtain ⟨a, vs0, ds0, h1, _, _, _, ty⟩ := own_list R hw
    obtain ⟨r, g1, e⟩ := obind e
    obtain ⟨⟨fr1, d⟩, env1⟩ := r
    cases d with
    | int k =>
      dsimp only at e
      split at e
      · rename_i hk
        split at e
        · rename_i ds g
          obtain ⟨j, hj, e⟩ := obind e
          obtain ⟨d, hd, e⟩ := obind e
          cases e
          refine ⟨.ref a, h1, ty, Z, env, _, env1, R, g1, fun v H1 x => ?_⟩
          obtain ⟨b, vs, es, g2, g3, g4, g5⟩ := x.re.ow i _ g
          cases g3
          rw [h1] at g2
          cases g2
          obtain ⟨u, hu, ru⟩ := g5.get hd
          have ev := rep_int x.rep
          subst ev
          obtain ⟨R2, st⟩ := Rel.mutU x.re (us := vs.eraseIdx j) (es := ds.eraseIdx j) g h1 (g5.eraseIdx j)
          exact ⟨a, vs, k, j, u, rfl, rfl, g4, hk.1, hk.2, by rw [g5.length]; exact hj, hu, q u _ (res_old R2 (x.tr.trans (mut_trn g h1)) (st ru))⟩
        · cases e
      · cases e
    | _ => cases e
end
end PI

namespace PI
open PySem PySem.Spec PyProof.Rows L2
inductive Ctl where
  | nx | bk | ct | rt (w : W)
abbrev SF := PI.Env → Option (Ctl × PI.Env)
abbrev Z0 : Addr → Prop := fun _ => False
structure Stp (env : PI.Env) (σ : L2.St) (H : Hp) (env' : PI.Env) (σ' : L2.St) (H' : Hp) : Prop where
  own : ∀ a, Own env' σ' a → Own env σ a ∨ H a = none
  keep : ∀ a o, H a = some o → ¬ Own env σ a → H' a = some o
  dom : ∀ a, H a ≠ none → H' a ≠ none
def PinK (P : List Nat) (σ σ' : L2.St) : Prop := ∀ i ∈ P, σ'[i]? = σ[i]?
structure RetR (K : PySem.W.Frag) (Z : Addr → Prop) (env : PI.Env) (σ : L2.St) (H : Hp) (env' : PI.Env) (σ' : L2.St) (w : W) (v : V) (H' : Hp) : Prop where
  old : w.1 = false → Re K Z env' σ' H' ∧ Rep K (Av env' σ' Z) H' v w.2
  new : w.1 = true → ∃ (a : Addr) (vs : List V) (ds : List D), v = V.ref a ∧ w.2 = .lst ds ∧ (Own env σ a ∨ H a = none) ∧ H' a = some (.lst vs) ∧ Re K (fun b => Z b ∨ b = a) env' σ' H' ∧ RepAll K (Av env' σ' fun b => Z b ∨ b = a) H' vs ds
/-- what is to be shown behind a statement -/
def Post (K : PySem.W.Frag) (P : List Nat) (Z : Addr → Prop) (env : PI.Env) (σ : L2.St) (H : Hp) (D : Ends) (c : Ctl) (env' : PI.Env) : Prop := match c with
  | .nx => ∀ σ' H', Re K Z env' σ' H' → Stp env σ H env' σ' H' → PinK P σ σ' → D.nx σ' H'
  | .bk => ∀ σ' H', Re K Z env' σ' H' → Stp env σ H env' σ' H' → PinK P σ σ' → D.bk σ' H'
  | .ct => ∀ σ' H', Re K Z env' σ' H' → Stp env σ H env' σ' H' → PinK P σ σ' → D.ct σ' H'
  | .rt w => ∀ v σ' H', Stp env σ H env' σ' H' → PinK P σ σ' → RetR K Z env σ H env' σ' w v H' → D.rt v H'
def SSr (K : PySem.W.Frag) (P : List Nat) (f : SF) : TS := fun D σ H => ∃ Z env c env', Re K Z env σ H ∧ f env = some (c, env') ∧ Post K P Z env σ H D c env'
section
variable {K : PySem.W.Frag} {P : List Nat} {Z : Addr → Prop} {env env1 env2 env' : PI.Env} {σ σ1 σ2 : L2.St} {H H1 H2 : Hp} {D : Ends} {c : Ctl}
theorem Stp.refl : Stp env σ H env σ H := ⟨fun _ q => .inl q, fun _ _ q _ => q, fun _ q => q⟩
theorem none_back {a : Addr} (h : H a ≠ none → H1 a ≠ none) (q : H1 a = none) : H a = none := by
  cases e : H a with
  | none => rfl
  | some o => exact absurd q (h (by rw [e]; exact fun z => by cases z))
theorem Stp.trans (a : Stp env σ H env1 σ1 H1) (b : Stp env1 σ1 H1 env2 σ2 H2) : Stp env σ H env2 σ2 H2 :=
  ⟨fun x q => by
    rcases b.own x q with q | q
    · exact a.own x q
    · exact .inr (none_back (a.dom x) q), fun x o q n => b.keep x o (a.keep x o q n) (fun z => by
      rcases a.own x z with z | z
      · exact n z
      · rw [z] at q
        cases q), fun x q => b.dom x (a.dom x q)⟩
theorem Trn.stp (t : Trn env σ H env1 H1) : Stp env σ H env1 σ H1 := ⟨fun a q => .inl (t.own a q), t.keep, t.dom⟩
theorem PinK.refl : PinK P σ σ := fun _ _ => rfl
theorem PinK.trans (a : PinK P σ σ1) (b : PinK P σ1 σ2) : PinK P σ σ2 := fun i hi => (b i hi).trans (a i hi)
theorem RetR.after {w : W} {v : V} {H' : Hp} {σ' : L2.St} (s : Stp env σ H env1 σ1 H1) (r : RetR K Z env1 σ1 H1 env' σ' w v H') : RetR K Z env σ H env' σ' w v H' :=
  ⟨r.old, fun e => by
    obtain ⟨a, vs, ds, h1, h2, h3, h4⟩ := r.new e
    refine ⟨a, vs, ds, h1, h2, ?_, h4⟩
    rcases h3 with h3 | h3
    · exact s.own a h3
    · exact .inr (none_back (s.dom a) h3)⟩
theorem Post.after (s : Stp env σ H env1 σ1 H1) (p : PinK P σ σ1) (q : Post K P Z env σ H D c env') : Post K P Z env1 σ1 H1 D c env' := by
  cases c with
  | nx => exact fun σ' H' R t k => q σ' H' R (s.trans t) (p.trans k)
  | bk => exact fun σ' H' R t k => q σ' H' R (s.trans t) (p.trans k)
  | ct => exact fun σ' H' R t k => q σ' H' R (s.trans t) (p.trans k)
  | rt w => exact fun v σ' H' t k r => q v σ' H' (s.trans t) (p.trans k) (r.after s)
/-- the ends change -/
theorem Post.ends {D' : Ends} (q : Post K P Z env σ H D c env') (h1 : c = .nx → ∀ σ' H', D.nx σ' H' → D'.nx σ' H') (h2 : c = .bk → ∀ σ' H', D.bk σ' H' → D'.bk σ' H') (h3 : c = .ct → ∀ σ' H', D.ct σ' H' → D'.ct σ' H') (h4 : ∀ v H', D.rt v H' → D'.rt v H') : Post K P Z env σ H D' c env' := by
  cases c with
  | nx => exact fun σ' H' R t k => h1 rfl _ _ (q σ' H' R t k)
  | bk => exact fun σ' H' R t k => h2 rfl _ _ (q σ' H' R t k)
  | ct => exact fun σ' H' R t k => h3 rfl _ _ (q σ' H' R t k)
  | rt w => exact fun v σ' H' t k r => h4 _ _ (q v σ' H' t k r)
theorem set_ge {α : Type} {l : List α} {i : Nat} {x : α} (h : ¬ i < l.length) : l.set i x = l := List.set_eq_of_length_le (by omega)
theorem Rel.store2 (R : Re K Z env σ H) {i : Nat} {d : PI.D} {v : V} (r : Rep K (Av env σ Z) H v d) : Re K Z (env.set i (some (false, d))) (σ.set i (some v)) H := by
  by_cases h : i < env.length
  · exact R.store h r
  · rw [set_ge h, set_ge (by rw [← R.len]; exact h)]
    exact R
end
/-! ### plain statements -/
def sNext : SF := fun env => some (.nx, env)
def sSeq (f g : SF) : SF := fun env => (f env).bind fun r => match r.1 with
  | .nx => g r.2
  | c => some (c, r.2)
def sBrk : SF := fun env => some (.bk, env)
def sCnt : SF := fun env => some (.ct, env)
def sNever : SF := fun _ => none
def sExp (f : EF) : SF := fun env => (f env).bind fun r => some (.nx, r.2)
def sRet (f : EF) : SF := fun env => (f env).bind fun r => some (.rt r.1, r.2)
def sRetV (P : List Nat) (i : Nat) : SF := fun env => match env[i]? with
  | some (some (true, d)) => match P.contains i with
    | false => some (.rt (true, d), env.set i none)
    | true => none
  | some (some (false, d)) => some (.rt (false, d), env)
  | _ => none
def sRetN : SF := fun env => some (.rt (false, .non), env)
def sIf (c : EF) (f g : SF) : SF := fun env => (c env).bind fun r => match r.1.2 with
  | .bl true => f r.2
  | .bl false => g r.2
  | _ => none
def sAsg (P : List Nat) (i : Nat) (f : EF) : SF := fun env => match P.contains i with
  | true => none
  | false => (f env).bind fun r => some (.nx, r.2.set i (some r.1))
def sAug (P : List Nat) (i : Nat) (op : Int → Int → Int) (f : EF) : SF := fun env => match P.contains i with
  | true => none
  | false => match env[i]? with
    | some (some (false, .int a)) => (f env).bind fun r => match r.1.2 with
      | .int b => some (.nx, r.2.set i (some (false, .int (op a b))))
      | _ => none
    | _ => none
section
variable {K : PySem.W.Frag} {P : List Nat} {Z : Addr → Prop} {env env1 env2 env' : PI.Env} {σ σ1 σ2 : L2.St} {H H1 H2 : Hp} {D : Ends} {c : Ctl}
theorem sNext_go (h : SSr K P sNext D σ H) : tNext D σ H := by
  obtain ⟨Z, env, c, env', R, e, q⟩ := h
  cases e
  exact q σ H R .refl .refl
theorem sBrk_go (h : SSr K P sBrk D σ H) : tBreak D σ H := by
  obtain ⟨Z, env, c, env', R, e, q⟩ := h
  cases e
  exact q σ H R .refl .refl
theorem sCnt_go (h : SSr K P sCnt D σ H) : tCont D σ H := by
  obtain ⟨Z, env, c, env', R, e, q⟩ := h
  cases e
  exact q σ H R .refl .refl
theorem sNever_go (h : SSr K P sNever D σ H) : tNever D σ H := by
  obtain ⟨Z, env, c, env', R, e, q⟩ := h
  cases e
theorem sSeq_go {f g : SF} (h : SSr K P (sSeq f g) D σ H) : tSeq (SSr K P f) (SSr K P g) D σ H := by
  obtain ⟨Z, env, c, env', R, e, q⟩ := h
  obtain ⟨⟨c1, env1⟩, h1, e⟩ := obind e
  refine ⟨Z, env, c1, env1, R, h1, ?_⟩
  cases c1 with
  | nx => exact fun σ1 H1 R1 t k => ⟨Z, env1, c, env', R1, e, q.after t k⟩
  | bk => cases e; exact q
  | ct => cases e; exact q
  | rt w => cases e; exact q
theorem sExp_go {f : EF} (h : SSr K P (sExp f) D σ H) : tDrop (SEr K f) D σ H := by
  obtain ⟨Z, env, c, env', R, e, q⟩ := h
  obtain ⟨r, h1, e⟩ := obind e
  cases e
  exact ⟨Z, env, r.1, r.2, R, h1, fun v H' x => q σ H' x.re x.tr.stp .refl⟩
theorem sRet_go {f : EF} (h : SSr K P (sRet f) D σ H) : tRet (SEr K f) D σ H := by
  obtain ⟨Z, env, c, env', R, e, q⟩ := h
  obtain ⟨r, h1, e⟩ := obind e
  cases e
  refine ⟨Z, env, r.1, r.2, R, h1, fun v H' x => q v σ H' x.tr.stp .refl ⟨fun _ => ⟨x.re, x.rep⟩, fun hw => ?_⟩⟩
  obtain ⟨a, vs, ds, h1, h2, h3, h4, h5, h6⟩ := x.new hw
  exact ⟨a, vs, ds, h1, h2, .inr h3, h4, h5, h6⟩
theorem sRetN_go (h : SSr K P sRetN D σ H) : tRetN D σ H := by
  obtain ⟨Z, env, c, env', R, e, q⟩ := h
  cases e
  exact q .non σ H .refl .refl ⟨fun _ => ⟨R, .non⟩, fun z => (nomatch z)⟩
/-- the owned list of a slot is let go, and avoided -/
theorem Rel.dropS (R : Re K Z env σ H) {i : Nat} {d : PI.D} {a : Addr} (h : env[i]? = some (some (true, d))) (ha : σ[i]? = some (some (V.ref a))) :
    Re K (fun b => Z b ∨ b = a) (env.set i none) σ H ∧ (∀ b, Own (env.set i none) σ b → Own env σ b) ∧ ∀ b, Av (env.set i none) σ (fun b => Z b ∨ b = a) b → Av env σ Z b := by
  have ow : ∀ b, Own (env.set i none) σ b → Own env σ b := fun b ⟨j, e, h1, h2⟩ => by
    rcases set_get h1 with ⟨_, q, _⟩ | ⟨_, q⟩
    · cases q
    · exact ⟨j, e, q, h2⟩
  have nown : ¬ Own (env.set i none) σ a := fun ⟨j, e, h1, h2⟩ => by
    rcases set_get h1 with ⟨_, q, _⟩ | ⟨ne, q⟩
    · cases q
    · exact ne (R.dist i j _ _ a h q ha h2)
  have av : ∀ b, Av (env.set i none) σ (fun b => Z b ∨ b = a) b → Av env σ Z b := fun b q => by
    rcases q with q | q | q
    · exact .inl (ow b q)
    · exact .inr q
    · subst q
      exact .inl ⟨i, d, h, ha⟩
  obtain ⟨a', vs, ds, g1, g2, g3, g4⟩ := R.ow i d h
  rw [ha] at g1
  cases g1
  refine ⟨⟨by rw [List.length_set]; exact R.len, fun j e q => ?_, fun j e q => ?_, fun j k e f b q1 q2 => ?_, fun b o q => (nomatch q), fun b q => ?_⟩, ow, av⟩
  · rcases set_get q with ⟨_, q, _⟩ | ⟨_, q⟩
    · cases q
    · obtain ⟨v, e1, e2⟩ := R.sh j e q
      exact ⟨v, e1, e2.less av⟩
  · rcases set_get q with ⟨_, q, _⟩ | ⟨_, q⟩
    · cases q
    · obtain ⟨b, us, es, e1, e2, e3, e4⟩ := R.ow j e q
      exact ⟨b, us, es, e1, e2, e3, e4.less av⟩
  · rcases set_get q1 with ⟨_, q, _⟩ | ⟨_, q1⟩
    · cases q
    · rcases set_get q2 with ⟨_, q, _⟩ | ⟨_, q2⟩
      · cases q
      · exact R.dist j k e f b q1 q2
  · rcases q with q | q
    · exact ⟨(R.z b q).1, fun z => (R.z b q).2 (ow b z)⟩
    · subst q
      refine ⟨?_, nown⟩
      rw [g3]
      exact fun z => by cases z
theorem sRetV_go {i : Nat} (h : SSr K P (sRetV P i) D σ H) : tRet (tVar i) D σ H := by
  obtain ⟨Z, env, c, env', R, e, q⟩ := h
  unfold sRetV at e
  split at e
  · rename_i d g
    split at e
    · cases e
      obtain ⟨a, vs, ds, h1, h2, h3, h4⟩ := R.ow i d g
      obtain ⟨R2, ow, av⟩ := R.dropS g h1
      refine ⟨.ref a, h1, q (.ref a) σ H ⟨fun b z => .inl (ow b z), fun b o z _ => z, fun b z => z⟩ .refl ⟨fun z => (nomatch z), fun _ => ⟨a, vs, ds, rfl, h2, .inl ⟨i, d, g, h1⟩, h3, R2, h4.less av⟩⟩⟩
    · cases e
  · rename_i d g
    cases e
    obtain ⟨v, h1, h2⟩ := R.sh i d g
    exact ⟨v, h1, q v σ H .refl .refl ⟨fun _ => ⟨R, h2⟩, fun z => (nomatch z)⟩⟩
  · cases e
theorem sIf_go {t : EF} {f g : SF} (h : SSr K P (sIf t f g) D σ H) : tIfS (STr K t) (SSr K P f) (SSr K P g) D σ H := by
  obtain ⟨Z, env, c, env', R, e, q⟩ := h
  obtain ⟨⟨⟨fr, d⟩, env1⟩, h1, e⟩ := obind e
  cases d with
  | bl b =>
    refine ⟨Z, env, fr, b, env1, R, h1, fun H1 R1 t1 => ?_⟩
    cases b with
    | true => exact iteT ⟨Z, env1, c, env', R1, e, q.after t1.stp .refl⟩
    | false => exact iteF ⟨Z, env1, c, env', R1, e, q.after t1.stp .refl⟩
  | _ => cases e
theorem pin_set {i : Nat} {x : Option V} (h : P.contains i = false) : PinK P σ (σ.set i x) := fun j hj => by
  by_cases e : i = j
  · subst e
    rw [List.contains_eq_mem, decide_eq_false_iff_not] at h
    exact absurd hj h
  · rw [List.getElem?_set_ne e]
theorem sAsg_go {i : Nat} {f : EF} (h : SSr K P (sAsg P i f) D σ H) : tAsg (SEr K f) (gName i) D σ H := by
  obtain ⟨Z, env, c, env', R, e, q⟩ := h
  unfold sAsg at e
  cases hp : P.contains i with
  | true =>
    rw [hp] at e
    cases e
  | false =>
    rw [hp] at e
    obtain ⟨⟨⟨fr, d⟩, env1⟩, h1, e⟩ := obind e
    cases e
    refine ⟨Z, env, _, env1, R, h1, fun v H1 x => ?_⟩
    show D.nx (σ.set i (some v)) H1
    cases fr with
    | false =>
      exact q _ H1 (Rel.store2 x.re x.rep) ⟨fun a z => .inl (x.tr.own a (own_store z)), x.tr.keep, x.tr.dom⟩ (pin_set hp)
    | true =>
      obtain ⟨a, vs, ds, g1, g2, g3, g4, g5, g6⟩ := x.new rfl
      have g2 : d = .lst ds := g2
      subst g1 g2
      by_cases hi : i < env1.length
      · exact q _ H1 (g5.storeN hi rfl (fun z => (R.z a z).1 g3) g4 g6) ⟨fun b z => by
          rcases own_storeN z with z | z
          · exact .inl (x.tr.own b z)
          · subst z
            exact .inr g3, x.tr.keep, x.tr.dom⟩ (pin_set hp)
      · have q : Post K P Z env σ H D .nx (env1.set i (some (true, .lst ds))) := q
        rw [set_ge hi] at q
        rw [set_ge (by rw [← x.re.len]; exact hi)]
        exact q σ H1 x.re x.tr.stp .refl
theorem sAug_go {i : Nat} {op : Int → Int → Int} {f : EF} (h : SSr K P (sAug P i op f) D σ H) : tAug i (SEr K f) (ipI op) D σ H := by
  obtain ⟨Z, env, c, env', R, e, q⟩ := h
  unfold sAug at e
  cases hp : P.contains i with
  | true =>
    rw [hp] at e
    cases e
  | false =>
    rw [hp] at e
    dsimp only at e
    split at e
    · rename_i a g
      obtain ⟨⟨⟨fr, d⟩, env1⟩, h1, e⟩ := obind e
      obtain ⟨v, k1, k2⟩ := R.sh i _ g
      have ev := rep_int k2
      subst ev
      cases d with
      | int b =>
        cases e
        refine ⟨.int a, k1, Z, env, _, env1, R, h1, fun v H1 x => ?_⟩
        have ev := rep_int x.rep
        subst ev
        exact ⟨a, b, rfl, rfl, q _ H1 (Rel.store2 x.re (.int _)) ⟨fun a z => .inl (x.tr.own a (own_store z)), x.tr.keep, x.tr.dom⟩ (pin_set hp)⟩
      | _ => cases e
    · cases e
end
section
variable {X : Cx} {pos : Pos} {P : List Nat} {st : Stmt} {rest : List Stmt} {f g : SF}
theorem ss_nil : PSs X [] (SSr X.K P sNext) := PSsi pss_nil fun _ _ _ h => sNext_go h
theorem ss_cons (h1 : PS X st (SSr X.K P f)) (h2 : PSs X rest (SSr X.K P g)) : PSs X (st :: rest) (SSr X.K P (sSeq f g)) := PSsi (pss_cons h1 h2) fun _ _ _ h => sSeq_go h
theorem ss_one (h1 : PS X st (SSr X.K P f)) : PSs X [st] (SSr X.K P f) := pss_one h1
theorem ss_pass : PS X (.Pass pos) (SSr X.K P sNext) := PSi ps_pass fun _ _ _ h => sNext_go h
theorem ss_brk : PS X (.Break pos) (SSr X.K P sBrk) := PSi ps_break fun _ _ _ h => sBrk_go h
theorem ss_cnt : PS X (.Continue pos) (SSr X.K P sCnt) := PSi ps_continue fun _ _ _ h => sCnt_go h
theorem ss_never : PS X st (SSr X.K P sNever) := PSi ps_never fun _ _ _ h => sNever_go h
theorem ss_expr {e : Expr} {f : EF} (he : PE X e (SEr X.K f)) (hs : swapsWith e none pos.line X.env = pure false := by rfl) : PS X (.Expr e pos) (SSr X.K P (sExp f)) := PSi (ps_expr he hs) fun _ _ _ h => sExp_go h
theorem ss_ret {e : Expr} {f : EF} (he : PE X e (SEr X.K f)) : PS X (.Return (some e) pos) (SSr X.K P (sRet f)) := PSi (ps_ret he) fun _ _ _ h => sRet_go h
theorem ss_retV (i : Nat) {x : Str} {p2 : Pos} (hN : X.N[i]? = some x := by rfl) (hv : Vis X.env.scope x := by first | exact Or.inl rfl | exact Or.inr (Or.inl rfl) | exact Or.inr (Or.inr rfl)) (hd : (x == ("__debug__" : Str)) = false := by decide)
    (hcd : (x == ("__classdict__" : Str)) = false := by decide) : PS X (.Return (some (.Name x p2)) pos) (SSr X.K P (sRetV P i)) := PSi (ps_ret (pv i hN hv hd hcd)) fun _ _ _ h => sRetV_go h
theorem ss_retN : PS X (.Return none pos) (SSr X.K P sRetN) := PSi ps_retN fun _ _ _ h => sRetN_go h
theorem ss_if {c : Expr} {t : EF} {a b : List Stmt} (hc : PT X c (STr X.K t)) (ha : PSs X a (SSr X.K P f)) (hb : PSs X b (SSr X.K P g)) : PS X (.If c a b pos) (SSr X.K P (sIf t f g)) := PSi (ps_if hc ha hb) fun _ _ _ h => sIf_go h
theorem ss_asg (i : Nat) {x : Str} {e : Expr} {f : EF} {p2 : Pos} (he : PE X e (SEr X.K f)) (hN : X.N.Nodup) (hi : X.N[i]? = some x := by rfl) (hx : Loc X.env.scope x := by first | exact Or.inl rfl | exact Or.inr rfl) (hs : swapsWith e (some (.Name x p2)) pos.line X.env = pure false := by rfl) (hf : X.fn x = true ∨ X.env.scope.names.lookup x = some .local := by first | exact .inl rfl | exact .inr rfl) :
    PS X (.Assign [.Name x p2] e pos) (SSr X.K P (sAsg P i f)) := PSi (ps_set hN hi hx he hs hf) fun _ _ _ h => sAsg_go h
theorem ss_aug (i : Nat) {x : Str} {e : Expr} {f : EF} {p2 : Pos} {op : Operator} {o : Int → Int → Int} (ho : PIp X op (ipI o)) (he : PE X e (SEr X.K f)) (hN : X.N.Nodup) (hi : X.N[i]? = some x := by rfl) (hx : Loc X.env.scope x := by first | exact Or.inl rfl | exact Or.inr rfl) (hf : X.fn x = true ∨ X.env.scope.names.lookup x = some .local := by first | exact .inl rfl | exact .inr rfl) :
    PS X (.AugAssign (.Name x p2) op e pos) (SSr X.K P (sAug P i o f)) := PSi (ps_aug hN hi hx he ho hf) fun _ _ _ h => sAug_go h
end
end PI

namespace PI
open PySem PySem.Spec PyProof.Rows L2
/-! ### lists that change -/
def sApp (i : Nat) (f : EF) : SF := fun env => match isOwn env i with
  | true => (f env).bind fun r => match r.2[i]? with
    | some (some (true, .lst ds)) => if ds.length < 1000000 then some (.nx, r.2.set i (some (true, .lst (ds ++ [r.1.2])))) else none
    | _ => none
  | false => none
def sExt (i : Nat) (o : Opd) : SF := fun env => match isOwn env i with
  | true => (o.run env).bind fun r => (r.1.get r.2).bind fun d => match d with
    | .lst es => (match r.2[i]? with
      | some (some (true, .lst ds)) => if ds.length + es.length < 1000000 then some (.nx, r.2.set i (some (true, .lst (ds ++ es)))) else none
      | _ => none)
    | _ => none
  | false => none
def sIns (i : Nat) (k f : EF) : SF := fun env => match isOwn env i with
  | true => (k env).bind fun r => (f r.2).bind fun s => match r.1.2 with
    | .int j => (match s.2[i]? with
      | some (some (true, .lst ds)) => if ds.length < 1000000 ∧ 0 ≤ j ∧ j < 1000000 then some (.nx, s.2.set i (some (true, .lst (ds.take j.toNat ++ [s.1.2] ++ ds.drop j.toNat)))) else none
      | _ => none)
    | _ => none
  | false => none
def sSet (i : Nat) (k f : EF) : SF := fun env => (f env).bind fun r => match isOwn r.2 i with
  | true => (k r.2).bind fun s => match s.1.2 with
    | .int j => (match s.2[i]? with
      | some (some (true, .lst ds)) => (ixN ds.length j).bind fun m => some (.nx, s.2.set i (some (true, .lst (ds.set m r.1.2))))
      | _ => none)
    | _ => none
  | false => none
theorem mil {n : Nat} (h : n < 1000000) : n < sizeLine := Nat.lt_trans h (by decide)
section
variable {K : PySem.W.Frag} {P : List Nat} {env env1 env2 env' : PI.Env} {σ σ1 σ2 : L2.St} {H H1 H2 : Hp} {D : Ends} {c : Ctl}
theorem slot_list {Z : Addr → Prop} (R : Re K Z env σ H) {i : Nat} {ds : List PI.D} (g : env[i]? = some (some (true, .lst ds))) : ∃ (a : Addr) (vs : List V), σ[i]? = some (some (V.ref a)) ∧ H a = some (.lst vs) ∧ RepAll K (Av env σ Z) H vs ds := by
  obtain ⟨a, vs, es, h1, h2, h3, h4⟩ := R.ow i _ g
  cases h2
  exact ⟨a, vs, h1, h3, h4⟩
theorem sApp_go {i : Nat} {f : EF} (h : SSr K P (sApp i f) D σ H) : tDrop (tBM K "list" rAppend (tVar i) (SVr K [f])) D σ H := by
  obtain ⟨Z, env, c, env', R, e, q⟩ := h
  unfold sApp at e
  cases hw : isOwn env i with
  | false =>
    rw [hw] at e
    cases e
  | true =>
    rw [hw] at e
    obtain ⟨a, vs0, ds0, h1, _, _, _, ty⟩ := own_list R hw
    obtain ⟨⟨w, env1⟩, g1, e⟩ := obind e
    dsimp only at e
    split at e
    · rename_i ds g
      split at e
      · rename_i hz
        cases e
        refine ⟨.ref a, h1, ty, Z, env, w, env1, R, g1, fun v H1 x => ?_⟩
        obtain ⟨b, vs, k1, k2, k3⟩ := slot_list x.re g
        rw [h1] at k1
        cases k1
        obtain ⟨R2, st⟩ := Rel.mutU x.re g h1 (k3.append (.cons x.rep .nil))
        refine ⟨a, vs, v, rfl, rfl, k2, mil (by rw [k3.length]; exact hz), q σ _ R2 (x.tr.trans (mut_trn g h1)).stp .refl⟩
      · cases e
    · cases e
theorem sExt_go {i : Nat} {o : Opd} (h : SSr K P (sExt i o) D σ H) : tDrop (tBM K "list" rExtend (tVar i) (SAr K [o])) D σ H := by
  obtain ⟨Z, env, c, env', R, e, q⟩ := h
  unfold sExt at e
  cases hw : isOwn env i with
  | false =>
    rw [hw] at e
    cases e
  | true =>
    rw [hw] at e
    obtain ⟨a, vs0, ds0, h1, _, _, _, ty⟩ := own_list R hw
    obtain ⟨⟨p, env1⟩, g1, e⟩ := obind e
    obtain ⟨d, g2, e⟩ := obind e
    cases d with
    | lst es =>
      dsimp only at e
      split at e
      · rename_i ds g
        split at e
        · rename_i hz
          cases e
          refine ⟨.ref a, h1, ty, SOr.go R g1 fun v H1 R1 t1 o1 => ?_⟩
          obtain ⟨b, us, m1, m2, m3⟩ := (o1.view R1 g2).lst
          subst m1
          obtain ⟨b', vs, k1, k2, k3⟩ := slot_list R1 g
          rw [h1] at k1
          cases k1
          obtain ⟨R2, st⟩ := Rel.mutU R1 g h1 (k3.append m3)
          exact ⟨a, b, vs, us, rfl, rfl, k2, m2, Nat.le_of_lt (mil (by rw [k3.length, m3.length]; exact hz)), q σ _ R2 (t1.trans (mut_trn g h1)).stp .refl⟩
        · cases e
      · cases e
    | _ => cases e
theorem sIns_go {i : Nat} {k f : EF} (h : SSr K P (sIns i k f) D σ H) : tDrop (tBM K "list" (fun x vs H Q => ∃ (l : Addr) (xs : List V) (i : Int) (y : V), x = .ref l ∧ vs = [.int i, y] ∧ H l = some (.lst xs) ∧ xs.length < sizeLine ∧ 0 ≤ i ∧ i < 2 ^ 63 ∧
    Q .non (upd H l (.lst (xs.take i.toNat ++ [y] ++ xs.drop i.toNat)))) (tVar i) (SVr K [k, f])) D σ H := by
  obtain ⟨Z, env, c, env', R, e, q⟩ := h
  unfold sIns at e
  cases hw : isOwn env i with
  | false =>
    rw [hw] at e
    cases e
  | true =>
    rw [hw] at e
    obtain ⟨a, vs0, ds0, h1, _, _, _, ty⟩ := own_list R hw
    obtain ⟨⟨w, env1⟩, g1, e⟩ := obind e
    obtain ⟨⟨w2, env2⟩, g2, e⟩ := obind e
    dsimp only at e
    split at e
    · rename_i j gj
      split at e
      · rename_i ds g
        split at e
        · rename_i hz
          cases e
          refine ⟨.ref a, h1, ty, Z, env, w, env1, R, g1, fun v H1 x => ⟨Z, env1, w2, env2, x.re, g2, fun u H2 y => ?_⟩⟩
          obtain ⟨b, vs, k1, k2, k3⟩ := slot_list y.re g
          rw [h1] at k1
          cases k1
          have ev : v = .int j := by
            have r := x.rep
            rw [gj] at r
            exact rep_int r
          subst ev
          obtain ⟨R2, st⟩ := Rel.mutU y.re g h1 (((k3.take j.toNat).append (.cons y.rep .nil)).append (k3.drop j.toNat))
          refine ⟨a, vs, j, u, rfl, rfl, k2, mil (by rw [k3.length]; exact hz.1), hz.2.1, Int.lt_trans hz.2.2 (by decide), q σ _ R2 ((x.tr.trans y.tr).trans (mut_trn g h1)).stp .refl⟩
        · cases e
      · cases e
    · cases e
theorem sSet_go {i : Nat} {k f : EF} (h : SSr K P (sSet i k f) D σ H) : tAsg (SEr K f) (gSub (tVar i) (SEr K k) rSetL) D σ H := by
  obtain ⟨Z, env, c, env', R, e, q⟩ := h
  obtain ⟨⟨w, env1⟩, g1, e⟩ := obind e
  cases hw : isOwn env1 i with
  | false =>
    dsimp only at e
    rw [hw] at e
    cases e
  | true =>
    dsimp only at e
    rw [hw] at e
    obtain ⟨⟨w2, env2⟩, g2, e⟩ := obind e
    dsimp only at e
    split at e
    · rename_i j gj
      split at e
      · rename_i ds g
        obtain ⟨m, gm, e⟩ := obind e
        cases e
        refine ⟨Z, env, w, env1, R, g1, fun v H1 x => ?_⟩
        obtain ⟨a, vs0, ds0, h1, _, _, _, ty⟩ := own_list x.re hw
        refine ⟨.ref a, h1, Z, env1, w2, env2, x.re, g2, fun u H2 y => ?_⟩
        obtain ⟨b, vs, k1, k2, k3⟩ := slot_list y.re g
        rw [h1] at k1
        cases k1
        have ev : u = .int j := by
          have r := y.rep
          rw [gj] at r
          exact rep_int r
        subst ev
        obtain ⟨R2, st⟩ := Rel.mutU y.re g h1 (k3.set m (y.tr.rep x.rep))
        exact ⟨a, vs, j, m, rfl, rfl, k2, by rw [k3.length]; exact gm, q σ _ R2 ((x.tr.trans y.tr).trans (mut_trn g h1)).stp .refl⟩
      · cases e
    · cases e
end
section
variable {X : Cx} {pos p1 p2 p3 p4 : Pos} {P : List Nat} {x : Str} {e k : Expr} {f g : EF} {o : Opd}
theorem se_pop (i : Nat) (hN : X.N[i]? = some x := by rfl) (hv : Vis X.env.scope x := by first | exact Or.inl rfl | exact Or.inr (Or.inl rfl) | exact Or.inr (Or.inr rfl)) (hd : (x == ("__debug__" : Str)) = false := by decide) (hcd : (x == ("__classdict__" : Str)) = false := by decide)
    (hbase : attributeBase (.Name x p1) "pop" X.env (eval (.Name x p1) X.env) = eval (.Name x p1) X.env := by rfl) (hline : (p2.endLine == pos.line) = true := by rfl) : PE X (.Call (.Attribute (.Name x p1) "pop" p2) [] [] pos) (SEr X.K (ePop i)) :=
  PEi (pe_bm0 PySem.F.plainAttrs_list PySem.F.slot_list_pop PySem.F.type_list_pop mt_pop (pv i hN hv hd hcd) hbase hline) fun _ _ _ q => ePop_go q
theorem se_popAt (i : Nat) (he : PE X e (SEr X.K f)) (hN : X.N[i]? = some x := by rfl) (hv : Vis X.env.scope x := by first | exact Or.inl rfl | exact Or.inr (Or.inl rfl) | exact Or.inr (Or.inr rfl)) (hd : (x == ("__debug__" : Str)) = false := by decide) (hcd : (x == ("__classdict__" : Str)) = false := by decide)
    (hs : starEach [e] X.env = (false, eval e X.env) :: starEach [] X.env := by rfl)
    (hbase : attributeBase (.Name x p1) "pop" X.env (eval (.Name x p1) X.env) = eval (.Name x p1) X.env := by rfl)
    (hfew : ((backTo pos (starEach [e] X.env)).all (fun x => !x.1) && (backToKw pos (keywordEach [] X.env)).all (fun x => x.1.isSome)
      && decide ([e].length + ([] : List Keyword).length + (if ([] : List Keyword).isEmpty then 0 else 1) < 30)) = true := by rfl)
    (hline : (p2.endLine == pos.line) = true := by rfl) (hplain : (backTo pos (starEach [] X.env)).any (·.1) = false := by rfl) : PE X (.Call (.Attribute (.Name x p1) "pop" p2) [e] [] pos) (SEr X.K (ePopAt i f)) :=
  PEi (pe_bm PySem.F.plainAttrs_list PySem.F.slot_list_pop PySem.F.type_list_pop mt_popAt (pv i hN hv hd hcd) (pa_cons he pa_nil hs) hbase hfew hline hs hplain) fun _ _ _ q => ePopAt_go q
theorem ss_app (i : Nat) (he : PE X e (SEr X.K f)) (hN : X.N[i]? = some x := by rfl) (hv : Vis X.env.scope x := by first | exact Or.inl rfl | exact Or.inr (Or.inl rfl) | exact Or.inr (Or.inr rfl)) (hd : (x == ("__debug__" : Str)) = false := by decide) (hcd : (x == ("__classdict__" : Str)) = false := by decide)
    (hs : starEach [e] X.env = (false, eval e X.env) :: starEach [] X.env := by rfl)
    (hbase : attributeBase (.Name x p1) "append" X.env (eval (.Name x p1) X.env) = eval (.Name x p1) X.env := by rfl)
    (hfew : ((backTo p3 (starEach [e] X.env)).all (fun x => !x.1) && (backToKw p3 (keywordEach [] X.env)).all (fun x => x.1.isSome)
      && decide ([e].length + ([] : List Keyword).length + (if ([] : List Keyword).isEmpty then 0 else 1) < 30)) = true := by rfl)
    (hline : (p2.endLine == p3.line) = true := by rfl) (hplain : (backTo p3 (starEach [] X.env)).any (·.1) = false := by rfl) (hsw : swapsWith (.Call (.Attribute (.Name x p1) "append" p2) [e] [] p3) none pos.line X.env = pure false := by rfl) :
    PS X (.Expr (.Call (.Attribute (.Name x p1) "append" p2) [e] [] p3) pos) (SSr X.K P (sApp i f)) :=
  PSi (ps_expr (pe_bm PySem.F.plainAttrs_list PySem.F.slot_list_append PySem.F.type_list_append mt_append (pv i hN hv hd hcd) (pa_cons he pa_nil hs) hbase hfew hline hs hplain) hsw) fun _ _ _ q => sApp_go q
theorem ss_ext (i : Nat) (he : PE X e (SOr X.K o)) (hN : X.N[i]? = some x := by rfl) (hv : Vis X.env.scope x := by first | exact Or.inl rfl | exact Or.inr (Or.inl rfl) | exact Or.inr (Or.inr rfl)) (hd : (x == ("__debug__" : Str)) = false := by decide) (hcd : (x == ("__classdict__" : Str)) = false := by decide)
    (hs : starEach [e] X.env = (false, eval e X.env) :: starEach [] X.env := by rfl)
    (hbase : attributeBase (.Name x p1) "extend" X.env (eval (.Name x p1) X.env) = eval (.Name x p1) X.env := by rfl)
    (hfew : ((backTo p3 (starEach [e] X.env)).all (fun x => !x.1) && (backToKw p3 (keywordEach [] X.env)).all (fun x => x.1.isSome)
      && decide ([e].length + ([] : List Keyword).length + (if ([] : List Keyword).isEmpty then 0 else 1) < 30)) = true := by rfl)
    (hline : (p2.endLine == p3.line) = true := by rfl) (hplain : (backTo p3 (starEach [] X.env)).any (·.1) = false := by rfl) (hsw : swapsWith (.Call (.Attribute (.Name x p1) "extend" p2) [e] [] p3) none pos.line X.env = pure false := by rfl) :
    PS X (.Expr (.Call (.Attribute (.Name x p1) "extend" p2) [e] [] p3) pos) (SSr X.K P (sExt i o)) :=
  PSi (ps_expr (pe_bm PySem.F.plainAttrs_list PySem.F.slot_list_extend PySem.F.type_list_extend mt_extend (pv i hN hv hd hcd) (pa_cons he pa_nil hs) hbase hfew hline hs hplain) hsw) fun _ _ _ q => sExt_go q
theorem ss_ins (i : Nat) (hk : PE X k (SEr X.K g)) (he : PE X e (SEr X.K f)) (hN : X.N[i]? = some x := by rfl) (hv : Vis X.env.scope x := by first | exact Or.inl rfl | exact Or.inr (Or.inl rfl) | exact Or.inr (Or.inr rfl)) (hd : (x == ("__debug__" : Str)) = false := by decide) (hcd : (x == ("__classdict__" : Str)) = false := by decide)
    (hs : starEach [k, e] X.env = (false, eval k X.env) :: starEach [e] X.env := by rfl) (hs2 : starEach [e] X.env = (false, eval e X.env) :: starEach [] X.env := by rfl)
    (hbase : attributeBase (.Name x p1) "insert" X.env (eval (.Name x p1) X.env) = eval (.Name x p1) X.env := by rfl)
    (hfew : ((backTo p3 (starEach [k, e] X.env)).all (fun x => !x.1) && (backToKw p3 (keywordEach [] X.env)).all (fun x => x.1.isSome)
      && decide ([k, e].length + ([] : List Keyword).length + (if ([] : List Keyword).isEmpty then 0 else 1) < 30)) = true := by rfl)
    (hline : (p2.endLine == p3.line) = true := by rfl) (hplain : (backTo p3 (starEach [e] X.env)).any (·.1) = false := by rfl) (hsw : swapsWith (.Call (.Attribute (.Name x p1) "insert" p2) [k, e] [] p3) none pos.line X.env = pure false := by rfl) :
    PS X (.Expr (.Call (.Attribute (.Name x p1) "insert" p2) [k, e] [] p3) pos) (SSr X.K P (sIns i g f)) :=
  PSi (ps_expr (pe_bm PySem.F.plainAttrs_list PySem.F.slot_list_insert PySem.F.type_list_insert mt_insert (pv i hN hv hd hcd) (pa_cons hk (pa_cons he pa_nil hs2) hs) hbase hfew hline hs hplain) hsw) fun _ _ _ q => sIns_go q
theorem ss_set (i : Nat) (he : PE X e (SEr X.K f)) (hpg : PG X (.Subscript (.Name x p1) k p2) (gSub (tVar i) (SEr X.K g) rSetL))
    (hs : swapsWithSole [.Subscript (.Name x p1) k p2] e pos.line X.env = pure false := by rfl) (hw : swappedStores [.Subscript (.Name x p1) k p2] e X.env = pure none := by rfl)
    (h1 : (assignEach [.Subscript (.Name x p1) k p2] X.env).map (·.2) = [assign (.Subscript (.Name x p1) k p2) X.env] := by rfl) :
    PS X (.Assign [.Subscript (.Name x p1) k p2] e pos) (SSr X.K P (sSet i g f)) := PSi (ps_asg he hpg hs hw h1) fun _ _ _ q => sSet_go q
end
end PI

namespace PI
open PySem PySem.Spec PyProof.Rows L2
/-! ### targets -/
abbrev TF := PI.D → PI.Env → Option PI.Env
/-- a target: js the slots that it stores to -/
def TgOk (K : PySem.W.Frag) (g : TG) (T : TF) (js : List Nat) : Prop := ∀ (Z : Addr → Prop) (env : PI.Env) (σ : L2.St) (H : Hp) (v : V) (d : PI.D) (env' : PI.Env) (Q : L2.St → Hp → Prop), Re K Z env σ H → Rep K (Av env σ Z) H v d → T d env = some env' →
  (∀ σ', Re K Z env' σ' H → (∀ a, Own env' σ' a → Own env σ a) → (∀ i, i ∉ js → σ'[i]? = σ[i]?) → σ'.length = σ.length → Q σ' H) → g v σ H Q
def TgsOk (K : PySem.W.Frag) (g : TGs) (T : List PI.D → PI.Env → Option PI.Env) (js : List Nat) : Prop := ∀ (Z : Addr → Prop) (env : PI.Env) (σ : L2.St) (H : Hp) (vs : List V) (ds : List PI.D) (env' : PI.Env) (Q : L2.St → Hp → Prop), Re K Z env σ H → RepAll K (Av env σ Z) H vs ds → T ds env = some env' →
  (∀ σ', Re K Z env' σ' H → (∀ a, Own env' σ' a → Own env σ a) → (∀ i, i ∉ js → σ'[i]? = σ[i]?) → σ'.length = σ.length → Q σ' H) → g vs σ H Q
def tName (i : Nat) : TF := fun d env => some (env.set i (some (false, d)))
def tsNil : List PI.D → PI.Env → Option PI.Env
  | [], env => some env
  | _ :: _, _ => none
def tsCons (T : TF) (U : List PI.D → PI.Env → Option PI.Env) : List PI.D → PI.Env → Option PI.Env
  | d :: ds, env => (T d env).bind fun e => U ds e
  | [], _ => none
def tTpl (n : Nat) (U : List PI.D → PI.Env → Option PI.Env) : TF
  | .tup ds, env => if ds.length = n then U ds env else none
  | _, _ => none
section
variable {K : PySem.W.Frag} {P : List Nat} {env env1 env2 env' : PI.Env} {σ σ1 σ2 : L2.St} {H H1 H2 : Hp} {D : Ends} {c : Ctl}
theorem tg_name (i : Nat) : TgOk K (gName i) (tName i) [i] := fun Z env σ H v d env' Q R r e q => by
  cases e
  exact q _ (Rel.store2 R r) (fun a z => own_store z) (fun j hj => by rw [List.getElem?_set_ne (fun z => hj (by rw [← z]; exact List.mem_cons_self))]) (List.length_set ..)
theorem tgs_nil : TgsOk K gNil tsNil [] := fun Z env σ H vs ds env' Q R r e q => by
  cases r with
  | nil =>
    cases e
    exact ⟨rfl, q σ R (fun a z => z) (fun _ _ => rfl) rfl⟩
  | cons r t => cases e
theorem tgs_cons {g : TG} {T : TF} {js : List Nat} {gs : TGs} {U : List PI.D → PI.Env → Option PI.Env} {ks : List Nat} (h : TgOk K g T js) (hs : TgsOk K gs U ks) : TgsOk K (gCons g gs) (tsCons T U) (js ++ ks) := fun Z env σ H vs ds env' Q R r e q => by
  cases r with
  | nil => cases e
  | cons r t =>
    obtain ⟨env1, h1, e⟩ := obind e
    refine ⟨_, _, rfl, h Z env σ H _ _ env1 _ R r h1 fun σ1 R1 o1 k1 l1 => ?_⟩
    have av : ∀ b, Av env1 σ1 Z b → Av env σ Z b := fun b z => by
      rcases z with z | z
      · exact .inl (o1 b z)
      · exact .inr z
    exact hs Z env1 σ1 H _ _ env' Q R1 (t.less av) e fun σ2 R2 o2 k2 l2 => q σ2 R2 (fun a z => o1 a (o2 a z)) (fun i hi => by
      rw [List.mem_append, not_or] at hi
      rw [k2 i hi.2, k1 i hi.1]) (l2.trans l1)
theorem tg_tup {n : Nat} {gs : TGs} {U : List PI.D → PI.Env → Option PI.Env} {ks : List Nat} (hs : TgsOk K gs U ks) : TgOk K (gTup K n gs) (tTpl n U) ks := fun Z env σ H v d env' Q R r e q => by
  cases d with
  | tup ds =>
    dsimp only [tTpl] at e
    split at e
    · rename_i hn
      obtain ⟨a, vs, rfl, t, ra⟩ := r.tupD
      exact ⟨a, vs, rfl, t.sq, by rw [ra.length]; exact hn, hs Z env σ H vs ds env' Q R ra e q⟩
    · cases e
  | _ => cases e
/-! ### a, b = e by a tuple -/
def sTgt (P : List Nat) (js : List Nat) (T : TF) (f : EF) : SF := fun env => match js.any fun j => P.contains j with
  | true => none
  | false => (f env).bind fun r => (T r.1.2 r.2).bind fun e => some (.nx, e)
theorem pin_js {js : List Nat} {σ' : L2.St} (h : (js.any fun j => P.contains j) = false) (k : ∀ i, i ∉ js → σ'[i]? = σ[i]?) : PinK P σ σ' := fun i hi => k i fun hj => by
  have h1 := List.any_eq_false.mp h i hj
  rw [List.contains_eq_mem, decide_eq_true_eq] at h1
  exact h1 hi
theorem sTgt_go {js : List Nat} {T : TF} {f : EF} {g : TG} (hT : TgOk K g T js) (h : SSr K P (sTgt P js T f) D σ H) : tAsg (SEr K f) g D σ H := by
  obtain ⟨Z, env, c, env', R, e, q⟩ := h
  unfold sTgt at e
  cases hp : js.any fun j => P.contains j with
  | true =>
    rw [hp] at e
    cases e
  | false =>
    rw [hp] at e
    obtain ⟨⟨w, env1⟩, h1, e⟩ := obind e
    obtain ⟨env2, h2, e⟩ := obind e
    cases e
    refine ⟨Z, env, w, env1, R, h1, fun v H1 x => hT Z env1 σ H1 v w.2 _ _ x.re x.rep h2 fun σ' R2 o2 k2 l2 => q σ' H1 R2 ⟨fun a z => .inl (x.tr.own a (o2 a z)), x.tr.keep, x.tr.dom⟩ (pin_js hp k2)⟩
end
/-! ### a, b = x, y: values with new lists among them -/
def valsW : List EF → PI.Env → Option (List W × PI.Env)
  | [], env => some ([], env)
  | f :: fs, env => (f env).bind fun r => (valsW fs r.2).bind fun s => some (r.1 :: s.1, s.2)
def FrA (l : List (W × V)) (b : Addr) : Prop := ∃ p ∈ l, p.1.1 = true ∧ p.2 = V.ref b
def WOk (K : PySem.W.Frag) (S : Addr → Prop) (H : Hp) (p : W × V) : Prop := (p.1.1 = true → ∃ (a : Addr) (vs : List V) (ds : List PI.D), p.2 = V.ref a ∧ p.1.2 = .lst ds ∧ H a = some (.lst vs) ∧ RepAll K S H vs ds) ∧ (p.1.1 = false → Rep K S H p.2 p.1.2)
structure Row (K : PySem.W.Frag) (Z : Addr → Prop) (env : PI.Env) (σ : L2.St) (H : Hp) (l : List (W × V)) : Prop where
  re : Re K (fun b => Z b ∨ FrA l b) env σ H
  ok : ∀ p ∈ l, WOk K (Av env σ fun b => Z b ∨ FrA l b) H p
  pw : l.Pairwise fun p q => p.1.1 = true → q.1.1 = true → p.2 ≠ q.2
  zd : ∀ b, FrA l b → ¬ Z b
section
variable {K : PySem.W.Frag} {P : List Nat} {Z : Addr → Prop} {env env1 env2 env' : PI.Env} {σ σ1 σ2 : L2.St} {H H1 H2 : Hp} {D : Ends} {c : Ctl}
theorem frA_cons {p : W × V} {l : List (W × V)} {b : Addr} : FrA (p :: l) b ↔ (p.1.1 = true ∧ p.2 = V.ref b) ∨ FrA l b := by
  constructor
  · rintro ⟨q, hq, h1, h2⟩
    rcases List.mem_cons.mp hq with rfl | hq
    · exact .inl ⟨h1, h2⟩
    · exact .inr ⟨q, hq, h1, h2⟩
  · rintro (⟨h1, h2⟩ | ⟨q, hq, h1, h2⟩)
    · exact ⟨p, List.mem_cons_self, h1, h2⟩
    · exact ⟨q, List.mem_cons_of_mem _ hq, h1, h2⟩
theorem frA_nil {b : Addr} : ¬ FrA [] b := fun ⟨_, h, _⟩ => by cases h
theorem WOk.less {S S' : Addr → Prop} {p : W × V} (h : ∀ b, S' b → S b) (x : WOk K S H p) : WOk K S' H p :=
  ⟨fun e => by
    obtain ⟨a, vs, ds, h1, h2, h3, h4⟩ := x.1 e
    exact ⟨a, vs, ds, h1, h2, h3, h4.less h⟩, fun e => (x.2 e).less h⟩
theorem valsW_go : ∀ {fs : List EF} {Z : Addr → Prop} {env : PI.Env} {H : Hp} {ws : List W} {env1 : PI.Env} {Q : List V → Hp → Prop}, Re K Z env σ H → valsW fs env = some (ws, env1) →
    (∀ vs H1, vs.length = fs.length → ws.length = fs.length → Row K Z env1 σ H1 (ws.zip vs) → Trn env σ H env1 H1 → (∀ b, FrA (ws.zip vs) b → H b = none) → Q vs H1) → SVr K fs σ H Q
  | [], Z, env, H, ws, env1, Q, R, h, q => by
    cases h
    exact q [] H rfl rfl ⟨R.weakZ fun b z => z.elim id fun z => absurd z frA_nil, (fun p hp => by cases hp), .nil, fun b z => absurd z frA_nil⟩ .refl fun b z => absurd z frA_nil
  | f :: fs, Z, env, H, ws, env1, Q, R, h, q => by
    unfold valsW at h
    obtain ⟨⟨w, env2⟩, h1, h⟩ := obind h
    obtain ⟨⟨ws2, env3⟩, h2, h⟩ := obind h
    cases h
    refine ⟨Z, env, w, env2, R, h1, fun v H1 x => ?_⟩
    obtain ⟨fr, d⟩ := w
    cases fr with
    | false =>
      refine valsW_go x.re h2 fun vs H2 l l2 r t nw => q (v :: vs) H2 (congrArg Nat.succ l) (congrArg Nat.succ l2) ?_ (x.tr.trans t) fun b z => ?_
      · have fe : ∀ b, FrA (((false, d), v) :: ws2.zip vs) b → FrA (ws2.zip vs) b := fun b z => by
          rcases frA_cons.mp z with ⟨z, _⟩ | z
          · cases z
          · exact z
        have av : ∀ b, Av env3 σ (fun b => Z b ∨ FrA (((false, d), v) :: ws2.zip vs) b) b → Av env3 σ (fun b => Z b ∨ FrA (ws2.zip vs) b) b := fun b z => by
          rcases z with z | z | z
          · exact .inl z
          · exact .inr (.inl z)
          · exact .inr (.inr (fe b z))
        refine ⟨r.re.weakZ fun b z => z.elim .inl fun z => .inr (fe b z), fun p hp => ?_, .cons (fun p hp z => (nomatch z)) r.pw, fun b z => r.zd b (fe b z)⟩
        rcases List.mem_cons.mp hp with rfl | hp
        · refine ⟨fun e => (nomatch e), fun _ => ?_⟩
          refine x.rep.step (fun a o e n => t.keep a o e fun z => n (.inl z)) fun b z => ?_
          rcases av b z with z | z | z
          · exact .inl (.inl (t.own b z))
          · exact .inl (.inr z)
          · exact .inr (nw b z)
        · exact (r.ok p hp).less av
      · rcases frA_cons.mp z with ⟨z, _⟩ | z
        · cases z
        · exact none_back (x.tr.dom b) (nw b z)
    | true =>
      obtain ⟨a, vs0, ds, g1, g2, g3, g4, g5, g6⟩ := x.new rfl
      have g2 : d = .lst ds := g2
      subst g1 g2
      refine valsW_go g5 h2 fun vs H2 l l2 r t nw => q (.ref a :: vs) H2 (congrArg Nat.succ l) (congrArg Nat.succ l2) ?_ (x.tr.trans t) fun b z => ?_
      · have fe : ∀ b, FrA (((true, PI.D.lst ds), V.ref a) :: ws2.zip vs) b → b = a ∨ FrA (ws2.zip vs) b := fun b z => by
          rcases frA_cons.mp z with ⟨_, z⟩ | z
          · cases z
            exact .inl rfl
          · exact .inr z
        have av : ∀ b, Av env3 σ (fun b => Z b ∨ FrA (((true, PI.D.lst ds), V.ref a) :: ws2.zip vs) b) b → Av env3 σ (fun b => (Z b ∨ b = a) ∨ FrA (ws2.zip vs) b) b := fun b z => by
          rcases z with z | z | z
          · exact .inl z
          · exact .inr (.inl (.inl z))
          · rcases fe b z with z | z
            · exact .inr (.inl (.inr z))
            · exact .inr (.inr z)
        have na : ¬ Own env2 σ a := (g5.z a (.inr rfl)).2
        refine ⟨r.re.weakZ fun b z => ?_, fun p hp => ?_, .cons (fun p hp z z2 => ?_) r.pw, fun b z zz => ?_⟩
        · rcases z with z | z
          · exact .inl (.inl z)
          · rcases fe b z with z | z
            · exact .inl (.inr z)
            · exact .inr z
        · rcases List.mem_cons.mp hp with rfl | hp
          · refine ⟨fun _ => ⟨a, vs0, ds, rfl, rfl, t.keep a _ g4 na, ?_⟩, fun e => (nomatch e)⟩
            refine g6.step (fun a o e n => t.keep a o e fun z => n (.inl z)) fun b z => ?_
            rcases av b z with z | z | z
            · exact .inl (.inl (t.own b z))
            · exact .inl (.inr z)
            · exact .inr (nw b z)
          · exact (r.ok p hp).less av
        · intro e
          have : H1 a = none := nw a ⟨p, hp, z2, e.symm⟩
          rw [g4] at this
          cases this
        · rcases fe b z with z | z
          · subst z
            exact (R.z b zz).1 g3
          · exact r.zd b z (.inl zz)
      · rcases frA_cons.mp z with ⟨_, z⟩ | z
        · cases z
          exact g3
        · exact none_back (x.tr.dom b) (nw b z)
/-- the first of a row is stored -/
theorem Row.store {p : W × V} {l : List (W × V)} {i : Nat} (r : Row K Z env σ H (p :: l)) : Row K Z (env.set i (some p.1)) (σ.set i (some p.2)) H l ∧ ∀ b, Own (env.set i (some p.1)) (σ.set i (some p.2)) b → Own env σ b ∨ FrA (p :: l) b := by
  obtain ⟨⟨fr, d⟩, v⟩ := p
  have pw := List.pairwise_cons.mp r.pw
  have ok := r.ok _ List.mem_cons_self
  have lo : ∀ b, FrA l b → FrA (((fr, d), v) :: l) b := fun b z => frA_cons.mpr (.inr z)
  cases fr with
  | false =>
    have ow : ∀ b, Own (env.set i (some (false, d))) (σ.set i (some v)) b → Own env σ b := fun b z => own_store z
    have av : ∀ b, Av (env.set i (some (false, d))) (σ.set i (some v)) (fun b => Z b ∨ FrA l b) b → Av env σ (fun b => Z b ∨ FrA (((false, d), v) :: l) b) b := fun b z => by
      rcases z with z | z | z
      · exact .inl (ow b z)
      · exact .inr (.inl z)
      · exact .inr (.inr (lo b z))
    refine ⟨⟨(Rel.store2 r.re (ok.2 rfl)).weakZ fun b z => z.elim .inl fun z => .inr (lo b z), fun q hq => (r.ok q (List.mem_cons_of_mem _ hq)).less av, pw.2, fun b z => r.zd b (lo b z)⟩, fun b z => .inl (ow b z)⟩
  | true =>
    obtain ⟨a, vs, ds, h1, h2, h3, h4⟩ := ok.1 rfl
    have h1 : v = .ref a := h1
    have h2 : d = .lst ds := h2
    subst h1 h2
    have fa : FrA (((true, PI.D.lst ds), V.ref a) :: l) a := frA_cons.mpr (.inl ⟨rfl, rfl⟩)
    have nl : ¬ FrA l a := fun ⟨q, hq, q1, q2⟩ => pw.1 q hq rfl q1 q2.symm
    have hz : ∀ b, ((Z b ∨ FrA l b) ∨ b = a) → (Z b ∨ FrA (((true, PI.D.lst ds), V.ref a) :: l) b) := fun b z => by
      rcases z with (z | z) | z
      · exact .inl z
      · exact .inr (lo b z)
      · subst z
        exact .inr fa
    have ow : ∀ b, Own (env.set i (some (true, PI.D.lst ds))) (σ.set i (some (V.ref a))) b → Own env σ b ∨ b = a := fun b z => own_storeN z
    have av : ∀ b, Av (env.set i (some (true, PI.D.lst ds))) (σ.set i (some (V.ref a))) (fun b => Z b ∨ FrA l b) b → Av env σ (fun b => Z b ∨ FrA (((true, PI.D.lst ds), V.ref a) :: l) b) b := fun b z => by
      rcases z with z | z | z
      · rcases ow b z with z | z
        · exact .inl z
        · subst z
          exact .inr (.inr fa)
      · exact .inr (.inl z)
      · exact .inr (.inr (lo b z))
    have R2 : Re K (fun b => (Z b ∨ FrA l b) ∨ b = a) env σ H := r.re.weakZ hz
    refine ⟨⟨?_, fun q hq => (r.ok q (List.mem_cons_of_mem _ hq)).less av, pw.2, fun b z => r.zd b (lo b z)⟩, fun b z => ?_⟩
    · by_cases hi : i < env.length
      · exact R2.storeN hi rfl (fun z => z.elim (r.zd a fa) nl) h3 (h4.less (av_less hz))
      · show Re K (fun b => Z b ∨ FrA l b) (env.set i (some (true, PI.D.lst ds))) (σ.set i (some (V.ref a))) H
        rw [set_ge hi, set_ge (by rw [← r.re.len]; exact hi)]
        exact R2.weakZ fun b z => .inl z
    · rcases ow b z with z | z
      · exact .inl z
      · subst z
        exact .inr fa
def sPar2 (P : List Nat) (i j : Nat) (f g : EF) : SF := fun env => match P.contains i || P.contains j with
  | true => none
  | false => (valsW [f, g] env).bind fun r => match r.1 with
    | [u, v] => some (.nx, (r.2.set i (some u)).set j (some v))
    | _ => none
def sPar3 (P : List Nat) (i j k : Nat) (f g h : EF) : SF := fun env => match P.contains i || (P.contains j || P.contains k) with
  | true => none
  | false => (valsW [f, g, h] env).bind fun r => match r.1 with
    | [u, v, x] => some (.nx, ((r.2.set i (some u)).set j (some v)).set k (some x))
    | _ => none
theorem Row.nil (r : Row K Z env σ H []) : Re K Z env σ H := r.re.weakZ fun b z => .inl z
theorem sPar2_go {i j : Nat} {f g : EF} (h : SSr K P (sPar2 P i j f g) D σ H) : tPar i j (SVr K [f, g]) D σ H := by
  obtain ⟨Z, env, c, env', R, e, q⟩ := h
  unfold sPar2 at e
  cases hp : P.contains i || P.contains j with
  | true =>
    rw [hp] at e
    cases e
  | false =>
    rw [hp] at e
    obtain ⟨h1, h2⟩ := Bool.or_eq_false_iff.mp hp
    obtain ⟨⟨ws, env1⟩, g1, e⟩ := obind e
    refine valsW_go R g1 fun vs H1 l l2 r t nw => ?_
    match vs, ws, l, l2, r, e, nw with
    | [v, w], [u, x], _, _, r, e, nw =>
      cases e
      obtain ⟨r1, o1⟩ := Row.store (i := i) (p := (u, v)) (l := [(x, w)]) r
      obtain ⟨r2, o2⟩ := Row.store (i := j) (p := (x, w)) (l := []) r1
      refine ⟨v, w, rfl, q _ H1 r2.nil ⟨fun b z => ?_, t.keep, t.dom⟩ ((pin_set h1).trans (pin_set h2))⟩
      rcases o2 b z with z | z
      · rcases o1 b z with z | z
        · exact .inl (t.own b z)
        · exact .inr (nw b z)
      · exact .inr (nw b (frA_cons.mpr (.inr z)))
theorem sPar3_go {i j k : Nat} {f g h : EF} (hh : SSr K P (sPar3 P i j k f g h) D σ H) : tPar3 i j k (SVr K [f, g, h]) D σ H := by
  obtain ⟨Z, env, c, env', R, e, q⟩ := hh
  unfold sPar3 at e
  cases hp : P.contains i || (P.contains j || P.contains k) with
  | true =>
    rw [hp] at e
    cases e
  | false =>
    rw [hp] at e
    obtain ⟨h1, h2⟩ := Bool.or_eq_false_iff.mp hp
    obtain ⟨h2, h3⟩ := Bool.or_eq_false_iff.mp h2
    obtain ⟨⟨ws, env1⟩, g1, e⟩ := obind e
    refine valsW_go R g1 fun vs H1 l l2 r t nw => ?_
    match vs, ws, l, l2, r, e, nw with
    | [v, w, y], [u, x, z], _, _, r, e, nw =>
      cases e
      obtain ⟨r1, o1⟩ := Row.store (i := i) (p := (u, v)) (l := [(x, w), (z, y)]) r
      obtain ⟨r2, o2⟩ := Row.store (i := j) (p := (x, w)) (l := [(z, y)]) r1
      obtain ⟨r3, o3⟩ := Row.store (i := k) (p := (z, y)) (l := []) r2
      refine ⟨v, w, y, rfl, q _ H1 r3.nil ⟨fun b z => ?_, t.keep, t.dom⟩ (((pin_set h1).trans (pin_set h2)).trans (pin_set h3))⟩
      rcases o3 b z with z | z
      · rcases o2 b z with z | z
        · rcases o1 b z with z | z
          · exact .inl (t.own b z)
          · exact .inr (nw b z)
        · exact .inr (nw b (frA_cons.mpr (.inr z)))
      · exact .inr (nw b (frA_cons.mpr (.inr (frA_cons.mpr (.inr z)))))
end
section
variable {X : Cx} {pos : Pos} {P : List Nat}
theorem ss_tgt {tg e : Expr} {f : EF} {g : TG} {T : TF} {js : List Nat} (hT : TgOk X.K g T js) (he : PE X e (SEr X.K f)) (hg : PG X tg g) (hs : swapsWithSole [tg] e pos.line X.env = pure false := by rfl) (hw : swappedStores [tg] e X.env = pure none := by rfl)
    (h1 : (assignEach [tg] X.env).map (·.2) = [assign tg X.env] := by rfl) : PS X (.Assign [tg] e pos) (SSr X.K P (sTgt P js T f)) := PSi (ps_asg he hg hs hw h1) fun _ _ _ q => sTgt_go hT q
theorem ss_par2 (i j : Nat) {x y : Str} {a b : Expr} {f g : EF} {px py pt : Pos} {kt k2 pt2} (ha : PA X [a, b] (SVr X.K [f, g])) (hc : X.calm = true) (hN : X.N.Nodup) (hi : X.N[i]? = some x := by rfl) (hj : X.N[j]? = some y := by rfl) (hij : i ≠ j := by decide)
    (hx : X.env.scope.names.lookup x = some .local := by rfl) (hy : X.env.scope.names.lookup y = some .local := by rfl)
    (hw : swappedStores [.Tuple [.Name x px, .Name y py] kt pt] (.Tuple [a, b] k2 pt2) X.env = pure (some [x, y]) := by rfl)
    (hs : swapsWithSole [.Tuple [.Name x px, .Name y py] kt pt] (.Tuple [a, b] k2 pt2) pos.line X.env = pure false := by rfl) :
    PS X (.Assign [.Tuple [.Name x px, .Name y py] kt pt] (.Tuple [a, b] k2 pt2) pos) (SSr X.K P (sPar2 P i j f g)) := PSi (ps_par hc hN hi hj hij hx hy ha hw hs) fun _ _ _ q => sPar2_go q
theorem ss_par3 (i j l : Nat) {x y z : Str} {a b c : Expr} {f g h : EF} {px py pz pt : Pos} {kt k2 pt2} (ha : PA X [a, b, c] (SVr X.K [f, g, h])) (hc : X.calm = true) (hN : X.N.Nodup) (hi : X.N[i]? = some x := by rfl) (hj : X.N[j]? = some y := by rfl) (hl : X.N[l]? = some z := by rfl) (hij : i ≠ j := by decide) (hil : i ≠ l := by decide) (hjl : j ≠ l := by decide)
    (hx : X.env.scope.names.lookup x = some .local := by rfl) (hy : X.env.scope.names.lookup y = some .local := by rfl) (hz : X.env.scope.names.lookup z = some .local := by rfl)
    (hw : swappedStores [.Tuple [.Name x px, .Name y py, .Name z pz] kt pt] (.Tuple [a, b, c] k2 pt2) X.env = pure (some [x, y, z]) := by rfl)
    (hs : swapsWithSole [.Tuple [.Name x px, .Name y py, .Name z pz] kt pt] (.Tuple [a, b, c] k2 pt2) pos.line X.env = pure false := by rfl) :
    PS X (.Assign [.Tuple [.Name x px, .Name y py, .Name z pz] kt pt] (.Tuple [a, b, c] k2 pt2) pos) (SSr X.K P (sPar3 P i j l f g h)) := PSi (ps_par3 hc hN hi hj hl hij hil hjl hx hy hz ha hw hs) fun _ _ _ q => sPar3_go q
end
end PI

namespace PI
open PySem PySem.Spec PyProof.Rows L2
/-! ### while -/
def wl (c : EF) (f : SF) : Nat → SF
  | 0 => fun _ => none
  | n + 1 => fun env => (c env).bind fun r => match r.1.2 with
    | .bl false => some (.nx, r.2)
    | .bl true => (f r.2).bind fun s => match s.1 with
      | .nx => wl c f n s.2
      | .ct => wl c f n s.2
      | .bk => some (.nx, s.2)
      | .rt w => some (.rt w, s.2)
    | _ => none
/-- at most a million turns -/
def sWhile (c : EF) (f : SF) : SF := wl c f 1000000
section
variable {K : PySem.W.Frag} {P : List Nat} {env env1 env2 env' : PI.Env} {σ σ1 σ2 : L2.St} {H H1 H2 : Hp} {D : Ends} {c : Ctl}
theorem sWhile_go {t : EF} {f : SF} (h : SSr K P (sWhile t f) D σ H) : tWhile (STr K t) (SSr K P f) D σ H := by
  obtain ⟨Z, env, c, env', R, e, q⟩ := h
  refine ⟨fun m σ' H' => ∃ env1, Re K Z env1 σ' H' ∧ wl t f m env1 = some (c, env') ∧ Post K P Z env1 σ' H' D c env', ⟨1000000, env, R, e, q⟩, fun m σ1 H1 hW => ?_⟩
  obtain ⟨env1, R1, e1, q1⟩ := hW
  cases m with
  | zero => cases e1
  | succ m =>
    obtain ⟨⟨⟨fr, d⟩, env2⟩, g1, e1⟩ := obind e1
    cases d with
    | bl b =>
      refine ⟨Z, env1, fr, b, env2, R1, g1, fun H2 R2 t2 => ?_⟩
      have q2 := q1.after t2.stp .refl
      cases b with
      | false =>
        cases e1
        exact iteF (q2 σ1 H2 R2 .refl .refl)
      | true =>
        obtain ⟨⟨c3, env3⟩, g3, e1⟩ := obind e1
        refine iteT ⟨fun σ' H' => ∃ env1, Re K Z env1 σ' H' ∧ wl t f m env1 = some (c, env') ∧ Post K P Z env1 σ' H' D c env', fun σ' H' n => ⟨m, Nat.lt_succ_self m, n⟩, Z, env2, c3, env3, R2, g3, ?_⟩
        cases c3 with
        | nx => exact fun σ' H' R3 t3 k3 => ⟨env3, R3, e1, q2.after t3 k3⟩
        | ct => exact fun σ' H' R3 t3 k3 => ⟨env3, R3, e1, q2.after t3 k3⟩
        | bk =>
          cases e1
          exact fun σ' H' R3 t3 k3 => q2 σ' H' R3 t3 k3
        | rt w =>
          cases e1
          exact fun v σ' H' t3 k3 r3 => q2 v σ' H' t3 k3 r3
    | _ => cases e1
end
/-! ### what is walked -/
abbrev SrcF := PI.Env → Option (List PI.D × PI.Env)
def SrcGood (K : PySem.W.Frag) (O1 S1 : Addr → Prop) (H1 : Hp) (J : It) (ds : List PI.D) : Prop := ∃ (G : Hp → Prop) (Y : Nat → Hp → V → Hp → Prop), Walk J ds.length G Y ∧
  ∀ (H2 : Hp) (S2 : Addr → Prop), (∀ b o, H1 b = some o → ¬ O1 b → H2 b = some o) → (∀ b, S2 b → S1 b ∨ H1 b = none) → (∀ b, S2 b → H2 b ≠ none) →
    G H2 ∧ ∀ i x H', i < ds.length → Y i H2 x H' → (∀ b o, H2 b = some o → H' b = some o) ∧ ∃ d, ds[i]? = some d ∧ Rep K S2 H' x d
def SrcOk (K : PySem.W.Frag) (wi : TI) (src : SrcF) : Prop := ∀ (Z : Addr → Prop) (env : PI.Env) (σ : L2.St) (H : Hp) (R : It → Hp → Prop) (ds : List PI.D) (env1 : PI.Env), Re K Z env σ H → src env = some (ds, env1) →
  (∀ J H1, Re K Z env1 σ H1 → Trn env σ H env1 H1 → SrcGood K (Own env1 σ) (Av env1 σ Z) H1 J ds → R J H1) → wi σ H R
/-- the items of a list, of a tuple -/
def srcL (f : EF) : SrcF := fun env => (f env).bind fun r => match r.1.2 with
  | .lst ds => some (ds, r.2)
  | .frz ds => some (ds, r.2)
  | _ => none
def srcT (f : EF) : SrcF := fun env => (f env).bind fun r => match r.1.2 with
  | .tup ds => some (ds, r.2)
  | _ => none
def rangeD (lo : Int) (n : Nat) : List PI.D := (List.range n).map fun (i : Nat) => PI.D.int (lo + (i : Int))
def srcR1 (f : EF) : SrcF := fun env => (f env).bind fun r => match r.1.2 with
  | .int n => if -(2 ^ 62) ≤ n ∧ n < 2 ^ 62 then some (rangeD 0 n.toNat, r.2) else none
  | _ => none
def srcR2 (f g : EF) : SrcF := fun env => (f env).bind fun r => (g r.2).bind fun s => match r.1.2 with
  | .int a => (match s.1.2 with
    | .int b => if (-(2 ^ 62) ≤ a ∧ a < 2 ^ 62) ∧ -(2 ^ 62) ≤ b ∧ b < 2 ^ 62 then some (rangeD a (b - a).toNat, s.2) else none
    | _ => none)
  | _ => none
section
variable {K : PySem.W.Frag}
theorem src_items {O1 S1 S2 : Addr → Prop} {H1 H2 : Hp} {vs : List V} {ds : List PI.D} (r : RepAll K S1 H1 vs ds) (hO : ∀ a, O1 a → S1 a) (h1 : ∀ b o, H1 b = some o → ¬ O1 b → H2 b = some o) (h2 : ∀ b, S2 b → S1 b ∨ H1 b = none) : RepAll K S2 H2 vs ds :=
  r.step (fun a o e n => h1 a o e fun z => n (hO a z)) h2
theorem srcL_ok {f : EF} : SrcOk K (iList K (SEr K f)) (srcL f) := fun Z env σ H R ds env1 R0 e q => by
  obtain ⟨⟨⟨fr, d⟩, env2⟩, g1, e⟩ := obind e
  refine ⟨Z, env, (fr, d), env2, R0, g1, fun v H1 x => ?_⟩
  have key : ∃ (a : Addr) (vs : List V), v = .ref a ∧ FrzAt K (Av env2 σ Z) H1 a vs ∧ RepAll K (Av env2 σ Z) H1 vs ds ∧ env2 = env1 := by
    cases d with
    | lst es =>
      cases e
      have r := x.rep
      cases r with
      | lst h n r => exact ⟨_, _, rfl, .inl ⟨.inl h, n⟩, r, rfl⟩
    | frz es =>
      cases e
      obtain ⟨a, vs, h1, h2, h3⟩ := x.rep.frzD
      exact ⟨a, vs, h1, h2, h3, rfl⟩
    | _ => cases e
  obtain ⟨a, vs, rfl, ha, hr, rfl⟩ := key
  have hl := hr.length
  refine ⟨a, rfl, ⟨vs, ha.sq⟩, q _ H1 x.re x.tr ⟨fun H => SqL K H a vs, YAt vs, ?_, fun H2 S2 h1 h2 h3 => ⟨?_, fun i y H' hi hy => ?_⟩⟩⟩
  · rw [← hl]
    exact walk_list
  · exact (ha.step (H' := H2) (S' := S2) (fun a o e n => h1 a o e fun z => n (.inl z)) h2).sq
  · obtain ⟨rfl, hy⟩ := hy
    exact ⟨fun _ _ z => z, (src_items hr (fun a z => .inl z) h1 h2).getV hy⟩
theorem srcT_ok {f : EF} : SrcOk K (iTup K (SEr K f)) (srcT f) := fun Z env σ H R ds env1 R0 e q => by
  obtain ⟨⟨⟨fr, d⟩, env2⟩, g1, e⟩ := obind e
  refine ⟨Z, env, (fr, d), env2, R0, g1, fun v H1 x => ?_⟩
  cases d with
  | tup es =>
    cases e
    obtain ⟨a, vs, rfl, ha, hr⟩ := x.rep.tupD
    have hl := hr.length
    refine ⟨a, rfl, ⟨vs, ha.sq⟩, q _ H1 x.re x.tr ⟨fun H => SqT K H a vs, YAt vs, ?_, fun H2 S2 h1 h2 h3 => ⟨?_, fun i y H' hi hy => ?_⟩⟩⟩
    · rw [← hl]
      exact walk_tup
    · exact (ha.step (H' := H2) (S' := S2) (fun a o e n => h1 a o e fun z => n (.inl z)) h2).sq
    · obtain ⟨rfl, hy⟩ := hy
      exact ⟨fun _ _ z => z, (src_items hr (fun a z => .inl z) h1 h2).getV hy⟩
  | _ => cases e
theorem rangeD_len (lo : Int) (n : Nat) : (rangeD lo n).length = n := by
  unfold rangeD
  rw [List.length_map, List.length_range]
theorem rangeD_get {lo : Int} {n i : Nat} (h : i < n) : (rangeD lo n)[i]? = some (.int (lo + i)) := by
  unfold rangeD
  rw [List.getElem?_map, List.getElem?_range h]
  rfl
theorem range_good {O1 S1 : Addr → Prop} {H1 : Hp} {lo : Int} {n : Nat} : SrcGood K O1 S1 H1 (Itr lo n) (rangeD lo n) :=
  ⟨fun _ => True, YFn fun i => .int (lo + i), by rw [rangeD_len]; exact walk_range, fun H2 S2 h1 h2 h3 => ⟨trivial, fun i y H' hi hy => by
    obtain ⟨rfl, rfl⟩ := hy
    rw [rangeD_len] at hi
    exact ⟨fun _ _ z => z, _, rangeD_get hi, .int _⟩⟩⟩
theorem srcR1_ok {f : EF} : SrcOk K (iRng1 (SVr K [f])) (srcR1 f) := fun Z env σ H R ds env1 R0 e q => by
  obtain ⟨⟨⟨fr, d⟩, env2⟩, g1, e⟩ := obind e
  refine ⟨Z, env, (fr, d), env2, R0, g1, fun v H1 x => ?_⟩
  cases d with
  | int n =>
    dsimp only at e
    split at e
    · rename_i hn
      cases e
      have ev := rep_int x.rep
      subst ev
      exact ⟨n, rfl, hn.1, hn.2, q _ H1 x.re x.tr range_good⟩
    · cases e
  | _ => cases e
theorem srcR2_ok {f g : EF} : SrcOk K (iRng2 (SVr K [f, g])) (srcR2 f g) := fun Z env σ H R ds env1 R0 e q => by
  obtain ⟨⟨⟨fr, d⟩, env2⟩, g1, e⟩ := obind e
  obtain ⟨⟨⟨fr2, d2⟩, env3⟩, g2, e⟩ := obind e
  refine ⟨Z, env, (fr, d), env2, R0, g1, fun v H1 x => ⟨Z, env2, (fr2, d2), env3, x.re, g2, fun u H2 y => ?_⟩⟩
  cases d with
  | int a =>
    cases d2 with
    | int b =>
      dsimp only at e
      split at e
      · rename_i hn
        cases e
        have ev := rep_int x.rep
        have eu := rep_int y.rep
        subst ev eu
        exact ⟨a, b, rfl, ⟨hn.1.1, hn.1.2, hn.2.1, hn.2.2⟩, q _ H2 y.re (x.tr.trans y.tr) range_good⟩
      · cases e
    | _ => cases e
  | _ => cases e
end
/-! ### for -/
def fl (T : TF) (f : SF) : List PI.D → SF
  | [], env => some (.nx, env)
  | d :: ds, env => (T d env).bind fun e => (f e).bind fun s => match s.1 with
    | .nx => fl T f ds s.2
    | .ct => fl T f ds s.2
    | .bk => some (.nx, s.2)
    | .rt w => some (.rt w, s.2)
def sFor (P js : List Nat) (src : SrcF) (T : TF) (f : SF) : SF := fun env => match js.any fun j => P.contains j with
  | true => none
  | false => (src env).bind fun r => fl T f r.1 r.2
section
variable {K : PySem.W.Frag} {P : List Nat} {env env1 env2 env' : PI.Env} {σ σ1 σ2 : L2.St} {H H1 H2 : Hp} {D : Ends} {c : Ctl}
theorem sFor_go {js : List Nat} {src : SrcF} {T : TF} {f : SF} {g : TG} {wi : TI} (hs : SrcOk K wi src) (hT : TgOk K g T js) (h : SSr K P (sFor P js src T f) D σ H) : tFor wi g (SSr K P f) D σ H := by
  obtain ⟨Z, env, c, env', R, e, q⟩ := h
  unfold sFor at e
  cases hp : js.any fun j => P.contains j with
  | true =>
    rw [hp] at e
    cases e
  | false =>
    rw [hp] at e
    obtain ⟨⟨ds, env1⟩, g1, e⟩ := obind e
    refine hs Z env σ H _ ds env1 R g1 fun J H1 R1 t1 good => ?_
    obtain ⟨G, Y, w, hg⟩ := good
    have key : ∀ envi σ' H', Re K Z envi σ' H' → Stp env1 σ H1 envi σ' H' → G H' ∧ ∀ i x H2, i < ds.length → Y i H' x H2 → (∀ b o, H' b = some o → H2 b = some o) ∧ ∃ d, ds[i]? = some d ∧ Rep K (Av envi σ' Z) H2 x d := fun envi σ' H' R' s' =>
      hg H' (Av envi σ' Z) (fun b o e n => s'.keep b o e n) (fun b z => by
        rcases z with z | z
        · rcases s'.own b z with z | z
          · exact .inl (.inl z)
          · exact .inr z
        · exact .inl (.inr z)) (fun b z => R'.dom b z)
    refine for_it w (fun i σ' H' => ∃ envi, Re K Z envi σ' H' ∧ fl T f (ds.drop i) envi = some (c, env') ∧ Post K P Z envi σ' H' D c env' ∧ Stp env1 σ H1 envi σ' H') ⟨env1, R1, e, q.after t1.stp .refl, .refl⟩ (fun i σ' H' hi hP => ?_) (fun i x σ' H' H2 hi hP hY => ?_) fun σ' H' hP => ?_
    · obtain ⟨envi, R', e', q', s'⟩ := hP
      exact (key envi σ' H' R' s').1
    · obtain ⟨envi, R', e', q', s'⟩ := hP
      obtain ⟨gr, d, hd, rd⟩ := (key envi σ' H' R' s').2 i x H2 hi hY
      have ed : ds.drop i = d :: ds.drop (i + 1) := by
        obtain ⟨hl, hd⟩ := List.getElem?_eq_some_iff.mp hd
        rw [List.drop_eq_getElem_cons hl, hd]
      rw [ed] at e'
      obtain ⟨enva, ga, e'⟩ := obind e'
      obtain ⟨⟨c3, env3⟩, g3, e'⟩ := obind e'
      have R2 : Re K Z envi σ' H2 := R'.grow0 gr
      refine hT Z envi σ' H2 x d enva _ R2 rd ga fun σ2 R3 o3 k3 l3 => ⟨Z, enva, c3, env3, R3, g3, ?_⟩
      have sA : Stp envi σ' H' enva σ2 H2 := ⟨fun a z => .inl (o3 a z), fun a o z _ => gr a o z, dom_of gr⟩
      have q2 := q'.after sA (pin_js hp k3)
      have sB := s'.trans sA
      cases c3 with
      | nx => exact fun σ4 H4 R4 t4 k4 => ⟨env3, R4, e', q2.after t4 k4, sB.trans t4⟩
      | ct => exact fun σ4 H4 R4 t4 k4 => ⟨env3, R4, e', q2.after t4 k4, sB.trans t4⟩
      | bk =>
        cases e'
        exact fun σ4 H4 R4 t4 k4 => q2 σ4 H4 R4 t4 k4
      | rt w =>
        cases e'
        exact fun v σ4 H4 t4 k4 r4 => q2 v σ4 H4 t4 k4 r4
    · obtain ⟨envi, R', e', q', s'⟩ := hP
      rw [List.drop_eq_nil_of_le (Nat.le_refl _)] at e'
      cases e'
      exact q' σ' H' R' .refl .refl
end
section
variable {X : Cx} {pos : Pos} {P : List Nat}
theorem ss_while {c : Expr} {body : List Stmt} {t : EF} {f : SF} (hc : PT X c (STr X.K t)) (hb : PSs X body (SSr X.K P f)) (hp : PassesOwn (model X.prog X.w) X.A X.env X.xe) : PS X (.While c body [] pos) (SSr X.K P (sWhile t f)) := PSi (ps_while hp hc hb) fun _ _ _ q => sWhile_go q
theorem ss_for {tg iter : Expr} {body : List Stmt} {wi : TI} {g : TG} {src : SrcF} {T : TF} {js : List Nat} {f : SF} (hi : PI X tg iter wi) (hs : SrcOk X.K wi src) (hg : PG X tg g) (hT : TgOk X.K g T js) (hb : PSs X body (SSr X.K P f)) (hp : PassesOwn (model X.prog X.w) X.A X.env X.xe) (hc : X.calm = true)
    (hx : ∀ x, foldedSetIterable iter X.env x = pure x := by intro _; rfl) : PS X (.For tg iter body [] pos) (SSr X.K P (sFor P js src T f)) := PSi (ps_for hp hc hi hg hb hx) fun _ _ _ q => sFor_go hs hT q
end
end PI

namespace PI
open PySem PySem.Spec PyProof.Rows L2
/-! ### comprehensions -/
def wipeE (env : PI.Env) : List Nat → PI.Env
  | [] => env
  | v :: vs => (wipeE env vs).set v none
def restE (base ec : PI.Env) : List Nat → PI.Env
  | [] => ec
  | v :: vs => (restE base ec vs).set v (base[v]?.getD none)
def ownAt (env : PI.Env) (i : Nat) : Bool := match env[i]? with
  | some (some (true, _)) => true
  | _ => false
def noOwn (env : PI.Env) (vs : List Nat) : Bool := vs.all fun v => !ownAt env v
/-- the kept items, the names behind -/
def lcl (T : TF) (c f : EF) (vs : List Nat) : List PI.D → PI.Env → Option (List PI.D × PI.Env)
  | [], env => some ([], env)
  | d :: ds, env => match noOwn env vs with
    | false => none
    | true => (T d (wipeE env vs)).bind fun e => (c e).bind fun r => match r.1.2 with
      | .bl true => (f r.2).bind fun s => (lcl T c f vs ds (restE env s.2 vs)).bind fun t => some (s.1.2 :: t.1, t.2)
      | .bl false => lcl T c f vs ds (restE env r.2 vs)
      | _ => none
/-- what a comprehension walks: the items, the names meanwhile, the slot that is hidden -/
abbrev SrcC := PI.Env → Option (List PI.D × PI.Env × Option (Nat × List PI.D))
def undoE (env : PI.Env) : Option (Nat × List PI.D) → PI.Env
  | none => env
  | some p => env.set p.1 (some (true, .lst p.2))
def SrcCOk (K : PySem.W.Frag) (wi : TI) (src : SrcC) : Prop := ∀ (Z : Addr → Prop) (env : PI.Env) (σ : L2.St) (H : Hp) (R : It → Hp → Prop) (ds : List PI.D) (env1 : PI.Env) (hid : Option (Nat × List PI.D)), Re K Z env σ H → src env = some (ds, env1, hid) →
  (∀ J H1 (Z1 : Addr → Prop), Re K Z1 env1 σ H1 → Trn env σ H env1 H1 → SrcGood K (Own env1 σ) (Av env1 σ Z1) H1 J ds →
    (∀ (Zx : Addr → Prop) (env2 : PI.Env) (H2 : Hp), Re K (fun b => Z1 b ∨ Zx b) env2 σ H2 → (∀ b o, H1 b = some o → ¬ Own env1 σ b → H2 b = some o) → (∀ b, Own env2 σ b → Own env1 σ b) → (∀ b, Zx b → H1 b = none) →
      Re K (fun b => Z b ∨ Zx b) (undoE env2 hid) σ H2 ∧ (∀ b, Av (undoE env2 hid) σ (fun b => Z b ∨ Zx b) b → Av env2 σ (fun b => Z1 b ∨ Zx b) b) ∧ ∀ b, Own (undoE env2 hid) σ b → Own env σ b) → R J H1) → wi σ H R
def srcC (src : SrcF) : SrcC := fun env => (src env).bind fun r => some (r.1, r.2, none)
/-- the owned list of a name, hidden meanwhile -/
def srcH (i : Nat) : SrcC := fun env => match env[i]? with
  | some (some (true, .lst ds)) => some (ds, env.set i none, some (i, ds))
  | some (some (false, .lst ds)) => some (ds, env, none)
  | _ => none
def eLc (src : SrcC) (T : TF) (c f : EF) (vs : List Nat) : EF := fun env => (src env).bind fun r => if r.1.length < 1000000 then (lcl T c f vs r.1 r.2.1).bind fun t => some ((true, .lst t.1), undoE t.2 r.2.2) else none
def eYes : EF := fun env => some ((false, .bl true), env)
section
variable {K : PySem.W.Frag} {Z : Addr → Prop} {env env1 env2 env' : PI.Env} {σ σ1 σ2 : L2.St} {H H1 H2 : Hp}
theorem srcC_ok {wi : TI} {src : SrcF} (h : SrcOk K wi src) : SrcCOk K wi (srcC src) := fun Z env σ H R ds env1 hid R0 e q => by
  obtain ⟨⟨ds2, env2⟩, g1, e⟩ := obind e
  cases e
  exact h Z env σ H R _ _ R0 g1 fun J H1 R1 t1 good => q J H1 Z R1 t1 good fun Zx env2 H2 R2 _ o2 _ => ⟨R2, fun _ z => z, fun b z => t1.own b (o2 b z)⟩
theorem list_set_self {α : Type} {l : List α} {i : Nat} {x : α} (h : l[i]? = some x) : l.set i x = l := by
  apply List.ext_getElem?
  intro j
  by_cases e : i = j
  · subst e
    rw [List.getElem?_set_self (lt_of_get h), h]
  · rw [List.getElem?_set_ne e]
theorem srcH_ok {i : Nat} : SrcCOk K (iList K (tVar i)) (srcH i) := fun Z env σ H R ds env1 hid R0 e q => by
  unfold srcH at e
  split at e
  · rename_i es g
    cases e
    obtain ⟨a, vs, h1, h2, h3⟩ := slot_list R0 g
    obtain ⟨R1, ow, av⟩ := R0.dropS g h1
    have nown : ¬ Own (env.set i none) σ a := (R1.z a (.inr rfl)).2
    have hl := h3.length
    refine ⟨.ref a, h1, a, rfl, ⟨vs, .inl (.inl h2)⟩, q _ H (fun b => Z b ∨ b = a) R1 ⟨ow, fun b o z _ => z, fun b z => z⟩ ⟨fun H => SqL K H a vs, YAt vs, ?_, fun H2 S2 k1 k2 k3 => ⟨.inl (.inl (k1 a _ h2 nown)), fun j y H' hj hy => ?_⟩⟩ fun Zx env2 H2 R2 k2 o2 z2 => ?_⟩
    · rw [← hl]
      exact walk_list
    · obtain ⟨rfl, hy⟩ := hy
      refine ⟨fun _ _ z => z, RepAll.getV ?_ hy⟩
      refine (h3.less av).step (fun b o e n => k1 b o e fun z => n (.inl z)) k2
    · have hnx : ¬ Zx a := fun z => by
        have := z2 a z
        rw [h2] at this
        cases this
      have hz : ∀ b, ((Z b ∨ Zx b) ∨ b = a) → ((Z b ∨ b = a) ∨ Zx b) := fun b z => by
        rcases z with (z | z) | z
        · exact .inl (.inl z)
        · exact .inr z
        · exact .inl (.inr z)
      have ha2 : H2 a = some (.lst vs) := k2 a _ h2 nown
      have hr : RepAll K (Av env2 σ fun b => (Z b ∨ Zx b) ∨ b = a) H2 vs ds := (h3.less av).step (fun b o e n => k2 b o e fun z => n (.inl z)) fun b z => by
        rcases z with z | (z | z) | z
        · exact .inl (.inl (o2 b z))
        · exact .inl (.inr (.inl z))
        · exact .inr (z2 b z)
        · exact .inl (.inr (.inr z))
      have li : i < env2.length := by
        have := R2.len
        have := lt_of_get h1
        omega
      have R3 := (R2.weakZ hz).storeN (i := i) li rfl (fun z => z.elim (fun z => (R0.z a z).2 ⟨i, _, g, h1⟩) hnx) ha2 hr
      have es : σ.set i (some (V.ref a)) = σ := list_set_self h1
      rw [es] at R3
      have ow2 : ∀ b, Own (env2.set i (some (true, .lst ds))) σ b → Own env2 σ b ∨ b = a := fun b z => by
        rw [← es] at z
        exact (own_storeN z).imp (fun z => by rw [es] at *; exact z) id
      refine ⟨R3, fun b z => ?_, fun b z => ?_⟩
      · rcases z with z | z
        · rcases ow2 b z with z | z
          · exact .inl z
          · exact .inr (.inl (.inr z))
        · rcases z with z | z
          · exact .inr (.inl (.inl z))
          · exact .inr (.inr z)
      · rcases ow2 b z with z | z
        · exact ow b (o2 b z)
        · subst z
          exact ⟨i, _, g, h1⟩
  · rename_i es g
    cases e
    obtain ⟨v, h1, h2⟩ := R0.sh i _ g
    cases h2 with
    | lst h n r =>
      rename_i a vs
      have hl := r.length
      refine ⟨.ref a, h1, a, rfl, ⟨vs, .inl (.inl h)⟩, q _ H Z R0 .refl ⟨fun H => SqL K H a vs, YAt vs, ?_, fun H2 S2 k1 k2 k3 => ⟨.inl (.inl (k1 a _ h fun z => n (.inl z))), fun j y H' hj hy => ?_⟩⟩ fun Zx env2 H2 R2 _ o2 _ => ⟨R2, fun _ z => z, o2⟩⟩
      · rw [← hl]
        exact walk_list
      · obtain ⟨rfl, hy⟩ := hy
        exact ⟨fun _ _ z => z, (src_items r (fun a z => .inl z) k1 k2).getV hy⟩
  · cases e
/-! the block's slots -/
theorem wipeE_len : ∀ vs : List Nat, (wipeE env vs).length = env.length
  | [] => rfl
  | v :: vs => by
    unfold wipeE
    rw [List.length_set, wipeE_len vs]
theorem wipeE_some {i : Nat} {x : Bool × PI.D} : ∀ {vs : List Nat}, (wipeE env vs)[i]? = some (some x) → env[i]? = some (some x) ∧ i ∉ vs
  | [], h => ⟨h, by simp⟩
  | v :: vs, h => by
    unfold wipeE at h
    rcases set_get h with ⟨_, q, _⟩ | ⟨ne, q⟩
    · cases q
    · obtain ⟨h1, h2⟩ := wipeE_some q
      exact ⟨h1, fun z => (List.mem_cons.mp z).elim (fun z => ne z.symm) h2⟩
theorem noOwn_at {vs : List Nat} (h : noOwn env vs = true) {i : Nat} {d : PI.D} (g : env[i]? = some (some (true, d))) : i ∉ vs := fun hi => by
  have q := List.all_eq_true.mp h i hi
  unfold ownAt at q
  rw [g] at q
  cases q
theorem wipe_get {i : Nat} : ∀ {vs : List Nat}, i ∉ vs → (wipe σ vs)[i]? = σ[i]?
  | [], _ => rfl
  | v :: vs, h => by
    unfold wipe
    rw [List.getElem?_set_ne (fun e => h (by rw [e]; exact List.mem_cons_self)), wipe_get fun z => h (List.mem_cons_of_mem _ z)]
theorem wipeE_get {i : Nat} : ∀ {vs : List Nat}, i ∉ vs → (wipeE env vs)[i]? = env[i]?
  | [], _ => rfl
  | v :: vs, h => by
    unfold wipeE
    rw [List.getElem?_set_ne (fun e => h (by rw [e]; exact List.mem_cons_self)), wipeE_get fun z => h (List.mem_cons_of_mem _ z)]
theorem own_wipe {vs : List Nat} (h : noOwn env vs = true) {a : Addr} : Own (wipeE env vs) (wipe σ vs) a ↔ Own env σ a := by
  constructor
  · rintro ⟨i, d, h1, h2⟩
    obtain ⟨g1, g2⟩ := wipeE_some h1
    rw [wipe_get g2] at h2
    exact ⟨i, d, g1, h2⟩
  · rintro ⟨i, d, h1, h2⟩
    have n := noOwn_at h h1
    exact ⟨i, d, by rw [wipeE_get n]; exact h1, by rw [wipe_get n]; exact h2⟩
theorem Rel.wipe (R : Re K Z env σ H) {vs : List Nat} (h : noOwn env vs = true) : Re K Z (wipeE env vs) (wipe σ vs) H := by
  have av : ∀ b, Av (wipeE env vs) (L2.wipe σ vs) Z b → Av env σ Z b := fun b z => z.imp (own_wipe h).mp id
  refine ⟨by rw [wipeE_len, wipe_length]; exact R.len, fun i d g => ?_, fun i d g => ?_, fun i j d e a g1 g2 h1 h2 => ?_, fun a o z => (nomatch z), fun a z => ⟨(R.z a z).1, fun q => (R.z a z).2 ((own_wipe h).mp q)⟩⟩
  · obtain ⟨g1, g2⟩ := wipeE_some g
    obtain ⟨v, h1, h2⟩ := R.sh i d g1
    exact ⟨v, by rw [wipe_get g2]; exact h1, h2.less av⟩
  · obtain ⟨g1, g2⟩ := wipeE_some g
    obtain ⟨a, us, ds, h1, h2, h3, h4⟩ := R.ow i d g1
    exact ⟨a, us, ds, by rw [wipe_get g2]; exact h1, h2, h3, h4.less av⟩
  · obtain ⟨g1, n1⟩ := wipeE_some g1
    obtain ⟨g2, n2⟩ := wipeE_some g2
    rw [wipe_get n1] at h1
    rw [wipe_get n2] at h2
    exact R.dist i j d e a g1 g2 h1 h2
theorem wipe_eq {vs js : List Nat} (hj : ∀ j ∈ js, j ∈ vs) (k : ∀ i, i ∉ js → σ2[i]? = (wipe σ vs)[i]?) (l : σ2.length = (wipe σ vs).length) : wipe σ2 vs = wipe σ vs := by
  apply List.ext_getElem?
  intro i
  by_cases h : i ∈ vs
  · have key : ∀ (τ : L2.St) (us : List Nat), i ∈ us → i < τ.length → (wipe τ us)[i]? = some none := fun τ us => by
      induction us with
      | nil => intro q; cases q
      | cons v us ih =>
        intro q ql
        unfold wipe
        by_cases e : v = i
        · subst e
          rw [List.getElem?_set_self (by rw [wipe_length]; exact ql)]
        · rw [List.getElem?_set_ne e]
          exact ih ((List.mem_cons.mp q).resolve_left fun z => e z.symm) ql
    rw [wipe_length] at l
    by_cases hi : i < σ.length
    · rw [key σ vs h hi, key σ2 vs h (by omega)]
    · rw [List.getElem?_eq_none (by rw [wipe_length]; omega), List.getElem?_eq_none (by rw [wipe_length]; omega)]
  · rw [wipe_get h, k i fun z => h (hj i z), wipe_get h]
theorem restE_len {ec : PI.Env} : ∀ vs : List Nat, (restE env ec vs).length = ec.length
  | [] => rfl
  | v :: vs => by
    unfold restE
    rw [List.length_set, restE_len vs]
theorem restE_out {ec : PI.Env} {i : Nat} : ∀ {vs : List Nat}, i ∉ vs → (restE env ec vs)[i]? = ec[i]?
  | [], _ => rfl
  | v :: vs, h => by
    unfold restE
    rw [List.getElem?_set_ne (fun e => h (by rw [e]; exact List.mem_cons_self)), restE_out fun z => h (List.mem_cons_of_mem _ z)]
theorem restE_in {ec : PI.Env} {i : Nat} {x : Bool × PI.D} : ∀ {vs : List Nat}, i ∈ vs → (restE env ec vs)[i]? = some (some x) → env[i]? = some (some x)
  | v :: vs, h, g => by
    unfold restE at g
    rcases set_get g with ⟨e, q, _⟩ | ⟨ne, q⟩
    · subst e
      cases z : env[v]? with
      | none =>
        rw [z] at q
        cases q
      | some y =>
        rw [z] at q
        have q : y = some x := q
        rw [q]
    · exact restE_in ((List.mem_cons.mp h).resolve_left fun z => ne z.symm) q
/-- behind a turn -/
theorem Rel.rest {ec : PI.Env} {σc : L2.St} {vs : List Nat} (R : Re K Z env σ H) (hn : noOwn env vs = true) (Rc : Re K Z ec σc H2) (hs : ∀ i, i ∉ vs → σc[i]? = σ[i]?) (hl : σc.length = σ.length) (ho : ∀ a, Own ec σc a → Own env σ a)
    (hk : ∀ a o, H a = some o → ¬ Own env σ a → H2 a = some o) : Re K Z (restE env ec vs) σ H2 ∧ (∀ a, Own (restE env ec vs) σ a → Own ec σc a) := by
  have ow : ∀ i d, (restE env ec vs)[i]? = some (some (true, d)) → i ∉ vs ∧ ec[i]? = some (some (true, d)) := fun i d g => by
    by_cases h : i ∈ vs
    · exact absurd h (noOwn_at hn (restE_in h g))
    · rw [restE_out h] at g
      exact ⟨h, g⟩
  have owA : ∀ a, Own (restE env ec vs) σ a → Own ec σc a := fun a ⟨i, d, h1, h2⟩ => by
    obtain ⟨n, g⟩ := ow i d h1
    exact ⟨i, d, g, by rw [hs i n]; exact h2⟩
  have av : ∀ a, Av (restE env ec vs) σ Z a → Av ec σc Z a := fun a z => z.imp (owA a) id
  refine ⟨⟨by rw [restE_len, Rc.len, hl], fun i d g => ?_, fun i d g => ?_, fun i j d e a g1 g2 h1 h2 => ?_, fun a o z => (nomatch z), fun a z => ⟨(Rc.z a z).1, fun q => (Rc.z a z).2 (owA a q)⟩⟩, owA⟩
  · by_cases h : i ∈ vs
    · obtain ⟨v, h1, h2⟩ := R.sh i d (restE_in h g)
      exact ⟨v, h1, h2.step (fun a o e n => hk a o e fun z => n (.inl z)) fun a z => .inl ((av a z).imp (ho a) id)⟩
    · rw [restE_out h] at g
      obtain ⟨v, h1, h2⟩ := Rc.sh i d g
      exact ⟨v, by rw [← hs i h]; exact h1, h2.less av⟩
  · obtain ⟨n, g⟩ := ow i d g
    obtain ⟨a, us, ds, h1, h2, h3, h4⟩ := Rc.ow i d g
    exact ⟨a, us, ds, by rw [← hs i n]; exact h1, h2, h3, h4.less av⟩
  · obtain ⟨n1, g1⟩ := ow i d g1
    obtain ⟨n2, g2⟩ := ow j e g2
    exact Rc.dist i j d e a g1 g2 (by rw [hs i n1]; exact h1) (by rw [hs j n2]; exact h2)
theorem eLc_go {src : SrcC} {T : TF} {c f : EF} {vs js : List Nat} {wi : TI} {g : TG} (hs : SrcCOk K wi src) (hT : TgOk K g T js) (hj : ∀ j ∈ js, j ∈ vs) {Q : VK} (h : SEr K (eLc src T c f vs) σ H Q) : tLc wi g (STr K c) (SEr K f) vs σ H Q := by
  obtain ⟨Z, env, w, env', R, e, q⟩ := h
  obtain ⟨⟨ds, env1, hid⟩, g1, e⟩ := obind e
  dsimp only at e
  split at e
  · rename_i hlen
    obtain ⟨⟨out, envF⟩, g2, e⟩ := obind e
    cases e
    refine hs Z env σ H _ ds env1 hid R g1 fun J H1 Z1 R1 t1 good undo => ?_
    obtain ⟨G, Y, w, hg⟩ := good
    intro Dl hD
    -- the invariant
    let ZD : Addr → Prop := fun b => Z1 b ∨ b = Dl
    have hD' : ∀ b u, H1 b = some u → upd H1 Dl (.lst []) b = some u := keep_upd hD
    have R1' : Re K ZD env1 σ (upd H1 Dl (.lst [])) := R1.grow hD' (fun b z => z.imp id fun z => by rw [z]; exact hD) fun b z => by
      rcases z with z | z
      · exact dom_of hD' b (R1.z b z).1
      · rw [z, upd_same]
        exact fun q => by cases q
    let Pv : Nat → Hp → Prop := fun i H' => ∃ envi accv accd rest, Re K ZD envi σ H' ∧ lcl T c f vs (ds.drop i) envi = some (rest, envF) ∧ accd ++ rest = out ∧ accd.length ≤ i ∧ H' Dl = some (.lst accv) ∧ RepAll K (Av envi σ ZD) H' accv accd ∧
      (∀ a, Own envi σ a → Own env1 σ a) ∧ (∀ a o, H1 a = some o → ¬ Own env1 σ a → H' a = some o) ∧ (∀ a, H1 a ≠ none → H' a ≠ none)
    have key : ∀ i H', Pv i H' → G H' ∧ ∀ envi, Re K ZD envi σ H' → (∀ a, Own envi σ a → Own env1 σ a) → ∀ i x H2, i < ds.length → Y i H' x H2 → (∀ b o, H' b = some o → H2 b = some o) ∧ ∃ d, ds[i]? = some d ∧ Rep K (Av envi σ ZD) H2 x d := fun i H' hP => by
      obtain ⟨envi, accv, accd, rest, R', _, _, _, _, _, o', k', d'⟩ := hP
      have hx : ∀ env2, Re K ZD env2 σ H' → (∀ a, Own env2 σ a → Own env1 σ a) → _ := fun env2 R2 o2 => hg H' (Av env2 σ ZD) k' (fun b z => by
        rcases z with z | z | z
        · exact .inl (.inl (o2 b z))
        · exact .inl (.inr z)
        · rw [z]
          exact .inr hD) fun b z => R2.dom b z
      exact ⟨(hx envi R' o').1, fun env2 R2 o2 => (hx env2 R2 o2).2⟩
    refine lc_it w Pv ⟨env1, [], [], out, R1', g2, rfl, Nat.le_refl _, upd_same, .nil, fun a z => z, fun a o z _ => hD' a o z, dom_of hD'⟩ (fun i H' hi hP => (key i H' hP).1) (fun i x H' H2 hi hP hY => ?_) fun H' hP => ?_
    · have hk := (key i H' hP).2
      obtain ⟨envi, accv, accd, rest, R', e', ea, hal, hDl, hra, o', k', d'⟩ := hP
      obtain ⟨gr, d, hd, rd⟩ := hk envi R' o' i x H2 hi hY
      have ed : ds.drop i = d :: ds.drop (i + 1) := by
        obtain ⟨hl, hd⟩ := List.getElem?_eq_some_iff.mp hd
        rw [List.drop_eq_getElem_cons hl, hd]
      rw [ed] at e'
      unfold lcl at e'
      cases hno : noOwn envi vs with
      | false =>
        rw [hno] at e'
        cases e'
      | true =>
        rw [hno] at e'
        obtain ⟨enva, ga, e'⟩ := obind e'
        obtain ⟨⟨⟨frb, db⟩, envb⟩, gb, e'⟩ := obind e'
        have R2 : Re K ZD envi σ H2 := R'.grow0 gr
        have Rw : Re K ZD (wipeE envi vs) (wipe σ vs) H2 := R2.wipe hno
        have avw : ∀ b, Av (wipeE envi vs) (wipe σ vs) ZD b → Av envi σ ZD b := fun b z => z.imp (own_wipe hno).mp id
        refine hT ZD (wipeE envi vs) (wipe σ vs) H2 x d enva _ Rw (rd.less avw) ga fun σ3 R3 o3 k3 l3 => ⟨wipe_eq hj k3 l3, ?_⟩
        have hs3 : ∀ i, i ∉ vs → σ3[i]? = σ[i]? := fun i hi => by rw [k3 i fun z => hi (hj i z), wipe_get hi]
        have hl3 : σ3.length = σ.length := by rw [l3, wipe_length]
        have oA : ∀ a, Own enva σ3 a → Own envi σ a := fun a z => (own_wipe hno).mp (o3 a z)
        cases db with
        | bl b =>
          refine ⟨ZD, enva, frb, b, envb, R3, gb, fun H3 Rb tb => ?_⟩
          have oB : ∀ a, Own envb σ3 a → Own envi σ a := fun a z => oA a (tb.own a z)
          have kB : ∀ a o, H2 a = some o → ¬ Own envi σ a → H3 a = some o := fun a o z n => tb.keep a o z fun y => n (oA a y)
          have nD : ∀ env2 σ2 H2, Re K ZD env2 σ2 H2 → ¬ Own env2 σ2 Dl := fun env2 σ2 H2 r => (r.z Dl (.inr rfl)).2
          cases b with
          | false =>
            obtain ⟨R4, o4⟩ := R2.rest hno Rb hs3 hl3 oB kB
            refine iteF ⟨restE envi envb vs, accv, accd, rest, R4, e', ea, by omega, kB Dl _ (gr _ _ hDl) (nD _ _ _ R'), hra.step (fun a o z n => kB a o (gr a o z) fun y => n (.inl y)) (fun a z => .inl (z.imp (fun z => oB a (o4 a z)) id)), fun a z => o' a (oB a (o4 a z)), fun a o z n => kB a o (gr a o (k' a o z n)) fun y => n (o' a y), fun a z => tb.dom a (dom_of gr a (d' a z))⟩
          | true =>
            obtain ⟨⟨w4, envc⟩, gc, e'⟩ := obind e'
            obtain ⟨⟨out2, envF2⟩, gd, e'⟩ := obind e'
            cases e'
            refine iteT ⟨ZD, envb, w4, envc, Rb, gc, fun y H4 x4 => ?_⟩
            have oC : ∀ a, Own envc σ3 a → Own envi σ a := fun a z => oB a (x4.tr.own a z)
            have kC : ∀ a o, H2 a = some o → ¬ Own envi σ a → H4 a = some o := fun a o z n => x4.tr.keep a o (kB a o z n) fun y => n (oB a y)
            obtain ⟨R4, o4⟩ := R2.rest hno x4.re hs3 hl3 oC kC
            have hD4 : H4 Dl = some (.lst accv) := kC Dl _ (gr _ _ hDl) (nD _ _ _ R')
            have hra4 : RepAll K (Av (restE envi envc vs) σ ZD) H4 accv accd := hra.step (fun a o z n => kC a o (gr a o z) fun y => n (.inl y)) fun a z => .inl (z.imp (fun z => oC a (o4 a z)) id)
            have hy : Rep K (Av (restE envi envc vs) σ ZD) H4 y w4.2 := x4.rep.less fun a z => z.imp (o4 a) id
            have st5 : ∀ b u, H4 b = some u → ¬ Av (restE envi envc vs) σ ZD b → upd H4 Dl (.lst (accv ++ [y])) b = some u := fun b u z n => keep_ne b u (fun q => n (.inr (.inr q))) z
            have R5 : Re K ZD (restE envi envc vs) σ (upd H4 Dl (.lst (accv ++ [y]))) := by
              have nDo := nD _ _ _ R4
              have hne : ∀ a u, a ≠ Dl → H4 a = some u → upd H4 Dl (.lst (accv ++ [y])) a = some u := fun a u n z => keep_ne a u n z
              refine ⟨R4.len, fun i d g => ?_, fun i d g => ?_, R4.dist, fun a o z => (nomatch z), fun a z => ⟨?_, (R4.z a z).2⟩⟩
              · obtain ⟨v, h1, h2⟩ := R4.sh i d g
                exact ⟨v, h1, h2.step st5 fun a z => .inl z⟩
              · obtain ⟨a, us, es, h1, h2, h3, h4⟩ := R4.ow i d g
                exact ⟨a, us, es, h1, h2, hne a _ (fun q => nDo (by rw [← q]; exact ⟨i, d, g, h1⟩)) h3, h4.step st5 fun a z => .inl z⟩
              · by_cases q : a = Dl
                · rw [q, upd_same]
                  exact fun z => by cases z
                · rw [upd_ne q]
                  exact (R4.z a z).1
            refine ⟨accv, hD4, mil (by rw [hra.length]; omega), restE envi envc vs, accv ++ [y], accd ++ [w4.2], out2, R5, gd, ?_, ?_, upd_same, (hra4.append (.cons hy .nil)).step st5 fun a z => .inl z, fun a z => o' a (oC a (o4 a z)), fun a o z n => ?_, fun a z => ?_⟩
            · rw [List.append_assoc]
              exact ea
            · rw [List.length_append]
              show accd.length + 1 ≤ i + 1
              omega
            · refine keep_ne a o (fun q => ?_) (kC a o (gr a o (k' a o z n)) fun y => n (o' a y))
              rw [q, hD] at z
              cases z
            · by_cases q : a = Dl
              · rw [q, upd_same]
                exact fun z => by cases z
              · rw [upd_ne q]
                exact x4.tr.dom a (tb.dom a (dom_of gr a (d' a z)))
        | _ => cases e'
    · obtain ⟨envi, accv, accd, rest, R', e', ea, hal, hDl, hra, o', k', d'⟩ := hP
      rw [List.drop_eq_nil_of_le (Nat.le_refl _)] at e'
      cases e'
      rw [List.append_nil] at ea
      subst ea
      obtain ⟨R5, a5, o5⟩ := undo (fun b => b = Dl) envF H' R' k' o' fun b z => by rw [z]; exact hD
      have hn : H Dl = none := none_back (t1.dom Dl) hD
      have tr : Trn env σ H (undoE envF hid) H' := ⟨o5, fun a o z n => k' a o (t1.keep a o z n) fun y => n (t1.own a y), fun a z => d' a (t1.dom a z)⟩
      have r5 : RepAll K (Av (undoE envF hid) σ fun b => Z b ∨ b = Dl) H' accv accd := hra.less a5
      refine q (.ref Dl) H' ⟨R5.weakZ fun b z => .inl z, tr, ?_, fun _ => ⟨Dl, accv, accd, rfl, rfl, hn, hDl, R5, r5⟩⟩
      exact .lst hDl (fun z => by
        rcases z with z | z
        · exact (R5.z Dl (.inr rfl)).2 z
        · exact (R.z Dl z).1 hn) (r5.less fun b z => z.imp id .inl)
  · cases e
end
section
variable {X : Cx} {pos : Pos} {P : List Nat}
theorem st_yes : PTs X [] (STr X.K eYes) := ⟨fun pins s σ H Q I h => by
  obtain ⟨Z, env, fr, b, env', R, e, q⟩ := h
  cases e
  exact pts_nil.run pins s σ H Q I (q H R .refl)⟩
theorem st_ones {c : Expr} {t : EF} (h : PT X c (STr X.K t)) : PTs X [c] (STr X.K t) := pts_one h
theorem se_lc {elt tg iter : Expr} {ifs : List Expr} {scope : Scope} {own : List (Str × Nat)} {wi : TI} {g : TG} {src : SrcC} {T : TF} {js : List Nat} {c f : EF} (hi : PI X tg iter wi) (hs : SrcCOk X.K wi src) (ok : BlkOk X.N X.env.scope scope own) (hT : TgOk X.K g T js)
    (hg : ∀ (s : Shared) (H : Hp) (C : Addr) (cl : List (Str × Addr)) (fp : List Addr), PG (X.blk s H scope (compEnvC scope cl C X.env) fp) tg g) (ht : ∀ (s : Shared) (H : Hp) (C : Addr) (cl : List (Str × Addr)) (fp : List Addr), PTs (X.blk s H scope (compEnvC scope cl C X.env) fp) ifs (STr X.K c))
    (he : ∀ (s : Shared) (H : Hp) (C : Addr) (cl : List (Str × Addr)) (fp : List Addr), PE (X.blk s H scope (compEnvC scope cl C X.env) fp) elt (SEr X.K f)) (hc : X.calm = true) (hN : X.N.Nodup) (hj : ∀ j ∈ js, j ∈ own.map (·.2) := by decide) (hx : ∀ x, foldedSetIterable iter X.env x = pure x := by intro _; rfl) :
    PE X (.ListComp elt [⟨tg, iter, ifs, 0⟩] scope pos) (SEr X.K (eLc src T c f (own.map (·.2)))) := PEi (pe_lc hc hN hi ok hg ht he hx) fun _ _ _ q => eLc_go hs hT hj q
theorem ss_setLc (i : Nat) {y : Str} {py spos : Pos} {elt tg iter : Expr} {ifs : List Expr} {scope : Scope} {own : List (Str × Nat)} {wi : TI} {g : TG} {src : SrcC} {T : TF} {js : List Nat} {c f : EF} (hi : PI X tg iter wi) (hs : SrcCOk X.K wi src) (ok : BlkOk X.N X.env.scope scope own) (hT : TgOk X.K g T js)
    (hg : ∀ (s : Shared) (H : Hp) (C : Addr) (cl : List (Str × Addr)) (fp : List Addr), PG (X.blk s H scope (compEnvC scope cl C X.env) fp) tg g) (ht : ∀ (s : Shared) (H : Hp) (C : Addr) (cl : List (Str × Addr)) (fp : List Addr), PTs (X.blk s H scope (compEnvC scope cl C X.env) fp) ifs (STr X.K c))
    (he : ∀ (s : Shared) (H : Hp) (C : Addr) (cl : List (Str × Addr)) (fp : List Addr), PE (X.blk s H scope (compEnvC scope cl C X.env) fp) elt (SEr X.K f)) (hc : X.calm = true) (hN : X.N.Nodup)
    (hsw : swapsWith (.ListComp elt [⟨tg, iter, ifs, 0⟩] scope pos) (some (.Name y py)) spos.line X.env = pure true) (hy : X.N[i]? = some y := by rfl) (hyl : X.env.scope.names.lookup y = some .local := by rfl) (hj : ∀ j ∈ js, j ∈ own.map (·.2) := by decide) (hx : ∀ x, foldedSetIterable iter X.env x = pure x := by intro _; rfl) :
    PS X (.Assign [.Name y py] (.ListComp elt [⟨tg, iter, ifs, 0⟩] scope pos) spos) (SSr X.K P (sAsg P i (eLc src T c f (own.map (·.2))))) := PSi (ps_setLc hc hN hy hyl hsw hi ok hg ht he hx) fun D σ H q => by
  have h : SEr X.K (eLc src T c f (own.map (·.2))) σ H fun x H1 => gName i x σ H1 D.nx := sAsg_go q
  exact eLc_go hs hT hj h
end
end PI

namespace PI
open PySem PySem.Spec PyProof.Rows L2
/-! ### what a def promises, by what it is worth -/
def muts : List Bool → List V → List V
  | true :: ms, v :: vs => v :: muts ms vs
  | false :: ms, _ :: vs => muts ms vs
  | _, _ => []
def ArgR (K : PySem.W.Frag) (S : Addr → Prop) (H : Hp) : Bool → V → PI.D → Prop
  | false, v, d => Rep K S H v d
  | true, v, d => ∃ (a : Addr) (us : List V) (xs : List PI.D), v = V.ref a ∧ d = .lst xs ∧ H a = some (.lst us) ∧ RepAll K S H us xs
inductive ArgsR (K : PySem.W.Frag) (S : Addr → Prop) (H : Hp) : List Bool → List V → List PI.D → Prop
  | nil : ArgsR K S H [] [] []
  | cons {m : Bool} {ms : List Bool} {v : V} {vs : List V} {d : PI.D} {ds : List PI.D} : ArgR K S H m v d → ArgsR K S H ms vs ds → ArgsR K S H (m :: ms) (v :: vs) (d :: ds)
inductive OutsR (K : PySem.W.Frag) (S : Addr → Prop) (H : Hp) : List V → List PI.D → Prop
  | nil : OutsR K S H [] []
  | cons {a : Addr} {vs us : List V} {xs ds : List PI.D} : H a = some (.lst us) → RepAll K S H us xs → OutsR K S H vs ds → OutsR K S H (V.ref a :: vs) (.lst xs :: ds)
abbrev Cal := List PI.D → Option (W × List PI.D)
structure CPost (K : PySem.W.Frag) (S : Addr → Prop) (modes : List Bool) (vs : List V) (H : Hp) (w : W) (outs : List PI.D) (v : V) (H' : Hp) : Prop where
  keep : ∀ a o, H a = some o → V.ref a ∉ muts modes vs → H' a = some o
  dom : ∀ a, H a ≠ none → H' a ≠ none
  outs : OutsR K (fun b => S b ∨ (w.1 = true ∧ v = V.ref b)) H' (muts modes vs) outs
  old : w.1 = false → Rep K S H' v w.2
  new : w.1 = true → ∃ (a : Addr) (us : List V) (xs : List PI.D), v = V.ref a ∧ w.2 = .lst xs ∧ H a = none ∧ H' a = some (.lst us) ∧ RepAll K (fun b => S b ∨ b = a) H' us xs
def spOf (K : PySem.W.Frag) (modes : List Bool) (f : Cal) : Sp := fun vs H Q _ => ∃ (S : Addr → Prop) (ds : List PI.D) (w : W) (outs : List PI.D), (∀ a, S a → H a ≠ none) ∧ (∀ a, V.ref a ∈ muts modes vs → S a) ∧ ArgsR K S H modes vs ds ∧ (muts modes vs).Nodup ∧
  f ds = some (w, outs) ∧ ∀ v H', CPost K S modes vs H w outs v H' → Q v H'
/-! ### the def's own run -/
def envOf : List Bool → List PI.D → PI.Env
  | m :: ms, d :: ds => some (m, d) :: envOf ms ds
  | _, _ => []
def tp : Nat → List Bool → List Nat
  | _, [] => []
  | n, true :: ms => n :: tp (n + 1) ms
  | n, false :: ms => tp (n + 1) ms
def fins (env : PI.Env) : List Nat → Option (List PI.D)
  | [] => some []
  | i :: is => match env[i]? with
    | some (some (true, d)) => (fins env is).bind fun ds => some (d :: ds)
    | _ => none
def runB (modes : List Bool) (n : Nat) (body : SF) : Cal := fun ds => (body (envOf modes ds ++ List.replicate (n - modes.length) none)).bind fun r => match r.1 with
  | .rt w => (fins r.2 (tp 0 modes)).bind fun o => some (w, o)
  | .nx => (fins r.2 (tp 0 modes)).bind fun o => some ((false, .non), o)
  | _ => none
section
variable {K : PySem.W.Frag} {S : Addr → Prop} {H H' : Hp}
theorem ArgsR.len1 {ms : List Bool} {vs : List V} {ds : List PI.D} (h : ArgsR K S H ms vs ds) : vs.length = ms.length ∧ ds.length = ms.length := by
  induction h with
  | nil => exact ⟨rfl, rfl⟩
  | cons _ _ ih => exact ⟨congrArg Nat.succ ih.1, congrArg Nat.succ ih.2⟩
theorem ArgsR.at {ms : List Bool} {vs : List V} {ds : List PI.D} (h : ArgsR K S H ms vs ds) : ∀ {i : Nat} {x : Bool × PI.D}, (envOf ms ds)[i]? = some (some x) → ∃ v, vs[i]? = some v ∧ ms[i]? = some x.1 ∧ ArgR K S H x.1 v x.2 := by
  induction h with
  | nil => intro i x e; simp [envOf] at e
  | cons a t ih =>
    intro i x e
    cases i with
    | zero =>
      have e := Option.some.inj (Option.some.inj e)
      subst e
      exact ⟨_, rfl, rfl, a⟩
    | succ i => exact ih (i := i) e
theorem ArgsR.env_len {ms : List Bool} {vs : List V} {ds : List PI.D} (h : ArgsR K S H ms vs ds) : (envOf ms ds).length = vs.length := by
  induction h with
  | nil => rfl
  | cons _ _ ih => exact congrArg Nat.succ ih
theorem mem_muts : ∀ {ms : List Bool} {vs : List V} {v : V}, v ∈ muts ms vs ↔ ∃ i : Nat, ms[i]? = some true ∧ vs[i]? = some v
  | [], _, v => ⟨fun h => by simp [muts] at h, fun ⟨i, h, _⟩ => by simp at h⟩
  | _ :: _, [], v => ⟨fun h => by simp [muts] at h, fun ⟨i, _, h⟩ => by simp at h⟩
  | true :: ms, u :: vs, v => by
    show v ∈ u :: muts ms vs ↔ _
    rw [List.mem_cons, mem_muts]
    constructor
    · rintro (rfl | ⟨i, h1, h2⟩)
      · exact ⟨0, rfl, rfl⟩
      · exact ⟨i + 1, h1, h2⟩
    · rintro ⟨i, h1, h2⟩
      cases i with
      | zero => exact .inl (Option.some.inj h2).symm
      | succ i => exact .inr ⟨i, h1, h2⟩
  | false :: ms, u :: vs, v => by
    show v ∈ muts ms vs ↔ _
    rw [mem_muts]
    constructor
    · rintro ⟨i, h1, h2⟩
      exact ⟨i + 1, h1, h2⟩
    · rintro ⟨i, h1, h2⟩
      cases i with
      | zero => cases h1
      | succ i => exact ⟨i, h1, h2⟩
theorem muts_inj : ∀ {ms : List Bool} {vs : List V} {v : V} {i j : Nat}, (muts ms vs).Nodup → ms[i]? = some true → ms[j]? = some true → vs[i]? = some v → vs[j]? = some v → i = j
  | [], _, v, i, j, _, h, _, _, _ => by simp at h
  | _ :: _, [], v, i, j, _, _, _, h, _ => by simp at h
  | true :: ms, u :: vs, v, i, j, nd, h1, h2, h3, h4 => by
    have nd : (u :: muts ms vs).Nodup := nd
    obtain ⟨n1, n2⟩ := List.nodup_cons.mp nd
    cases i with
    | zero =>
      cases j with
      | zero => rfl
      | succ j =>
        have e : u = v := Option.some.inj h3
        subst e
        exact absurd (mem_muts.mpr ⟨j, h2, h4⟩) n1
    | succ i =>
      cases j with
      | zero =>
        have e : u = v := Option.some.inj h4
        subst e
        exact absurd (mem_muts.mpr ⟨i, h1, h3⟩) n1
      | succ j => exact congrArg Nat.succ (muts_inj (ms := ms) (vs := vs) n2 h1 h2 h3 h4)
  | false :: ms, u :: vs, v, i, j, nd, h1, h2, h3, h4 => by
    cases i with
    | zero => cases h1
    | succ i =>
      cases j with
      | zero => cases h2
      | succ j => exact congrArg Nat.succ (muts_inj (ms := ms) (vs := vs) nd h1 h2 h3 h4)
theorem mem_tp : ∀ {ms : List Bool} {n i : Nat}, i ∈ tp n ms ↔ ∃ j, i = n + j ∧ ms[j]? = some true
  | [], n, i => ⟨fun h => (nomatch h), fun ⟨j, _, h⟩ => by simp at h⟩
  | true :: ms, n, i => by
    show i ∈ n :: tp (n + 1) ms ↔ _
    rw [List.mem_cons, mem_tp]
    constructor
    · rintro (rfl | ⟨j, h1, h2⟩)
      · exact ⟨0, rfl, rfl⟩
      · exact ⟨j + 1, by omega, h2⟩
    · rintro ⟨j, h1, h2⟩
      cases j with
      | zero => exact .inl h1
      | succ j => exact .inr ⟨j, by omega, h2⟩
  | false :: ms, n, i => by
    show i ∈ tp (n + 1) ms ↔ _
    rw [mem_tp]
    constructor
    · rintro ⟨j, h1, h2⟩
      exact ⟨j + 1, by omega, h2⟩
    · rintro ⟨j, h1, h2⟩
      cases j with
      | zero => cases h2
      | succ j => exact ⟨j, by omega, h2⟩
theorem fins_own {env : PI.Env} : ∀ {is : List Nat} {outs : List PI.D}, fins env is = some outs → ∀ i ∈ is, ∃ d, env[i]? = some (some (true, d))
  | [], _, _, i, hi => by cases hi
  | k :: is, outs, h, i, hi => by
    unfold fins at h
    split at h
    · rename_i d g
      obtain ⟨ds, h1, h⟩ := obind h
      rcases List.mem_cons.mp hi with rfl | hi
      · exact ⟨d, g⟩
      · exact fins_own h1 i hi
    · cases h
/-- the pinned lists at the end -/
theorem fins_outs {env : PI.Env} {σ : L2.St} {Z S' : Addr → Prop} (R : Re K Z env σ H) : ∀ {ms : List Bool} {vs : List V} {n : Nat} {outs : List PI.D}, (∀ j v, ms[j]? = some true → vs[j]? = some v → σ[n + j]? = some (some v)) → fins env (tp n ms) = some outs → vs.length = ms.length → (∀ a, S' a → Av env σ Z a) → OutsR K S' H (muts ms vs) outs
  | [], _, n, outs, _, h, _, _ => by
    cases h
    exact .nil
  | _ :: _, [], n, outs, _, h, l, _ => by cases l
  | true :: ms, v :: vs, n, outs, hp, h, l, hs => by
    have h : fins env (n :: tp (n + 1) ms) = some outs := h
    unfold fins at h
    split at h
    · rename_i d g
      obtain ⟨ds, h1, h⟩ := obind h
      cases h
      obtain ⟨a, us, xs, k1, k2, k3, k4⟩ := R.ow n d g
      have kv := hp 0 v rfl rfl
      rw [Nat.add_zero, k1] at kv
      cases kv
      subst k2
      exact .cons k3 (k4.less hs) (fins_outs R (ms := ms) (vs := vs) (n := n + 1) (fun j u h2 h3 => by
        have := hp (j + 1) u h2 h3
        rw [← this]
        congr 1
        omega) h1 (Nat.succ.inj l) hs)
    · cases h
  | false :: ms, v :: vs, n, outs, hp, h, l, hs => fins_outs R (ms := ms) (vs := vs) (n := n + 1) (fun j u h2 h3 => by
        have := hp (j + 1) u h2 h3
        rw [← this]
        congr 1
        omega) h (Nat.succ.inj l) hs
theorem start_get {N : List Str} {vs : List V} {i : Nat} {v : V} (h : (L2.start N vs)[i]? = some (some v)) : vs[i]? = some v := by
  unfold L2.start at h
  by_cases hi : i < vs.length
  · rw [List.getElem?_append_left (by simpa using hi), List.getElem?_map] at h
    cases e : vs[i]? with
    | none =>
      rw [e] at h
      cases h
    | some u =>
      rw [e] at h
      exact congrArg some (Option.some.inj (Option.some.inj h))
  · rw [List.getElem?_append_right (by simpa using hi), List.getElem?_replicate] at h
    split at h <;> cases h
theorem start_of {N : List Str} {vs : List V} {i : Nat} {v : V} (h : vs[i]? = some v) : (L2.start N vs)[i]? = some (some v) := by
  unfold L2.start
  rw [List.getElem?_append_left (by rw [List.length_map]; exact lt_of_get h), List.getElem?_map, h]
  rfl
/-- THE RULE for a def -/
theorem run_ok {modes : List Bool} {N : List Str} {body : SF} {f : Cal} {vs : List V} {Q : VK} {E : XK} (hn : modes.length ≤ N.length) (hf : ∀ ds w outs, f ds = some (w, outs) → runB modes N.length body ds = some (w, outs)) (h : spOf K modes f vs H Q E) :
    SSr K (tp 0 modes) body { nx := fun _ H' => Q .non H', rt := Q } (L2.start N vs) H := by
  obtain ⟨S, ds, w, outs, hS, hM, hA, hnd, hfd, q⟩ := h
  have hr := hf ds w outs hfd
  obtain ⟨⟨c, env'⟩, h1, h2⟩ := obind hr
  obtain ⟨lv, ld⟩ := hA.len1
  have he := hA.env_len
  let env0 := envOf modes ds ++ List.replicate (N.length - modes.length) (none : Option (Bool × PI.D))
  have at0 : ∀ (i : Nat) (x : Bool × PI.D), env0[i]? = some (some x) → ∃ v, vs[i]? = some v ∧ modes[i]? = some x.1 ∧ ArgR K S H x.1 v x.2 := fun i x e => by
    by_cases hi : i < (envOf modes ds).length
    · rw [List.getElem?_append_left hi] at e
      exact hA.at e
    · rw [List.getElem?_append_right (by omega), List.getElem?_replicate] at e
      split at e <;> cases e
  have own0 : ∀ a, Own env0 (L2.start N vs) a → V.ref a ∈ muts modes vs := fun a ⟨i, d, e1, e2⟩ => by
    obtain ⟨v, k1, k2, k3⟩ := at0 i _ e1
    have := start_get e2
    exact mem_muts.mpr ⟨i, k2, this⟩
  have own1 : ∀ a, V.ref a ∈ muts modes vs → Own env0 (L2.start N vs) a := fun a ha => by
    obtain ⟨i, k1, k2⟩ := mem_muts.mp ha
    have hi : i < modes.length := lt_of_get k1
    have : ∃ d, (envOf modes ds)[i]? = some (some (true, d)) := by
      have key : ∀ (ms : List Bool) (es : List PI.D) (j : Nat), es.length = ms.length → ms[j]? = some true → ∃ d, (envOf ms es)[j]? = some (some (true, d)) := by
        intro ms
        induction ms with
        | nil => intro es j _ z; simp at z
        | cons m ms ih =>
          intro es j l z
          cases es with
          | nil => cases l
          | cons d es =>
            cases j with
            | zero =>
              have : m = true := Option.some.inj z
              subst this
              exact ⟨d, rfl⟩
            | succ j => exact ih es j (Nat.succ.inj l) z
      exact key modes ds i ld k1
    obtain ⟨d, e⟩ := this
    exact ⟨i, d, by show (envOf modes ds ++ _)[i]? = _; rw [List.getElem?_append_left (lt_of_get e)]; exact e, start_of k2⟩
  let Z : Addr → Prop := fun b => S b ∧ ¬ Own env0 (L2.start N vs) b
  have av : ∀ b, Av env0 (L2.start N vs) Z b → S b := fun b z => z.elim (fun z => hM b (own0 b z)) fun z => z.1
  have R0 : Re K Z env0 (L2.start N vs) H := by
    refine ⟨?_, fun i d e => ?_, fun i d e => ?_, fun i j d e a e1 e2 s1 s2 => ?_, fun a o z => (nomatch z), fun a z => ⟨hS a z.1, z.2⟩⟩
    · show (envOf modes ds ++ _).length = (vs.map some ++ List.replicate (N.length - vs.length) none).length
      rw [List.length_append, List.length_append, List.length_replicate, List.length_replicate, List.length_map, he, lv]
    · obtain ⟨v, k1, k2, k3⟩ := at0 i _ e
      exact ⟨v, start_of k1, Rep.less av k3⟩
    · obtain ⟨v, k1, k2, a, us, xs, k3, k4, k5, k6⟩ := at0 i _ e
      subst k3
      exact ⟨a, us, xs, start_of k1, k4, k5, k6.less av⟩
    · obtain ⟨v, k1, k2, k3⟩ := at0 i _ e1
      obtain ⟨u, l1, l2, l3⟩ := at0 j _ e2
      exact muts_inj hnd k2 l2 (start_get s1) (start_get s2)
  refine ⟨Z, env0, c, env', R0, h1, ?_⟩
  -- the ends
  have pin : ∀ {σ' : L2.St}, PinK (tp 0 modes) (L2.start N vs) σ' → ∀ j v, modes[j]? = some true → vs[j]? = some v → σ'[0 + j]? = some (some v) := fun {σ'} k j v e1 e2 => by
    rw [k (0 + j) (mem_tp.mpr ⟨j, rfl, e1⟩), Nat.zero_add]
    exact start_of e2
  have keepM : ∀ {σ' : L2.St} {H' : Hp}, Stp env0 (L2.start N vs) H env' σ' H' → ∀ a o, H a = some o → V.ref a ∉ muts modes vs → H' a = some o := fun {σ' H'} t a o z n => t.keep a o z fun y => n (own0 a y)
  have ownF : ∀ {σ' : L2.St} {o : List PI.D}, PinK (tp 0 modes) (L2.start N vs) σ' → fins env' (tp 0 modes) = some o → ∀ b, Own env0 (L2.start N vs) b → Own env' σ' b := fun {σ' o} k hfi b z => by
    obtain ⟨i, e1, e2⟩ := mem_muts.mp (own0 b z)
    obtain ⟨d, g⟩ := fins_own hfi i (mem_tp.mpr ⟨i, by omega, e1⟩)
    have := pin k i _ e1 e2
    rw [Nat.zero_add] at this
    exact ⟨i, d, g, this⟩
  have sub : ∀ {σ' : L2.St} {o : List PI.D}, PinK (tp 0 modes) (L2.start N vs) σ' → fins env' (tp 0 modes) = some o → ∀ b, S b → Av env' σ' Z b := fun {σ' o} k hfi b z => by
    by_cases hb : Own env0 (L2.start N vs) b
    · exact .inl (ownF k hfi b hb)
    · exact .inr ⟨z, hb⟩
  cases c with
  | bk => cases h2
  | ct => cases h2
  | nx =>
    obtain ⟨o, hfi, h2⟩ := obind h2
    cases h2
    exact fun σ' H' R' t k => q .non H' ⟨keepM t, t.dom, fins_outs R' (pin k) hfi lv (fun a z => by
      rcases z with z | z
      · exact sub k hfi a z
      · cases z.1), fun _ => .non, fun z => (nomatch z)⟩
  | rt w' =>
    obtain ⟨o, hfi, h2⟩ := obind h2
    cases h2
    intro v σ' H' t k r
    obtain ⟨fr, d⟩ := w
    cases fr with
    | false =>
      obtain ⟨R', rp⟩ := r.old rfl
      exact q v H' ⟨keepM t, t.dom, fins_outs R' (pin k) hfi lv (fun a z => by
        rcases z with z | z
        · exact sub k hfi a z
        · cases z.1), fun _ => rp.less (sub k hfi), fun z => (nomatch z)⟩
    | true =>
      obtain ⟨a, us, xs, k1, k2, k3, k4, k5, k6⟩ := r.new rfl
      have na : ¬ Own env' σ' a := (k5.z a (.inr rfl)).2
      have hn : H a = none := by
        rcases k3 with k3 | k3
        · exact absurd (ownF k hfi a k3) na
        · exact k3
      have sub2 : ∀ b, (S b ∨ b = a) → Av env' σ' (fun b => Z b ∨ b = a) b := fun b z => by
        rcases z with z | z
        · exact (sub k hfi b z).imp id .inl
        · exact .inr (.inr z)
      refine q v H' ⟨keepM t, t.dom, fins_outs k5 (pin k) hfi lv (fun b z => sub2 b (z.imp id fun z => ?_)), fun z => (nomatch z), fun _ => ⟨a, us, xs, k1, k2, hn, k4, k6.less sub2⟩⟩
      have := z.2
      rw [k1] at this
      cases this
      rfl
end
/-! ### calls -/
def okOp (env : PI.Env) : Bool → Op → Bool
  | false, .val _ => true
  | true, .slot i => isOwn env i
  | _, _ => false
def okOps (env : PI.Env) : List Bool → List Op → Bool
  | [], [] => true
  | m :: ms, o :: os => okOp env m o && okOps env ms os
  | _, _ => false
def slotsOf : List Bool → List Op → List Nat
  | true :: ms, .slot i :: os => i :: slotsOf ms os
  | _ :: ms, _ :: os => slotsOf ms os
  | _, _ => []
def wback : List Nat → List PI.D → PI.Env → Option PI.Env
  | [], [], env => some env
  | i :: is, d :: ds, env => (wback is ds env).bind fun e => some (e.set i (some (true, d)))
  | _, _, _ => none
def pick {α : Type} (is : List Nat) (l : List α) : List α := is.filterMap fun i => l[i]?
def nodupB : List Nat → Bool
  | [] => true
  | i :: is => !is.contains i && nodupB is
def callO (modes : List Bool) (f : Cal) (ops : List Op) (env : PI.Env) : Option (W × PI.Env) := match okOps env modes ops && nodupB (slotsOf modes ops) with
  | true => (gets env ops).bind fun ds => (f ds).bind fun r => (wback (slotsOf modes ops) r.2 env).bind fun e => some (r.1, e)
  | false => none
def eCall (modes : List Bool) (f : Cal) (as : List Opd) : EF := fun env => (runs as env).bind fun r => callO modes f r.1 r.2
def eCallK (modes : List Bool) (f : Cal) (as : List Opd) (is : List Nat) : EF := fun env => (runs as env).bind fun r => callO modes f (pick is r.1) r.2
section
variable {K : PySem.W.Frag} {Z : Addr → Prop} {env env1 env2 env' : PI.Env} {σ : L2.St} {H H1 H2 : Hp}
theorem nodupB_ok : ∀ {is : List Nat}, nodupB is = true → is.Nodup
  | [], _ => .nil
  | i :: is, h => by
    obtain ⟨h1, h2⟩ := Bool.and_eq_true_iff.mp h
    refine List.nodup_cons.mpr ⟨fun z => ?_, nodupB_ok h2⟩
    rw [List.contains_eq_mem, decide_eq_true z] at h1
    cases h1
theorem args_of {S : Addr → Prop} (R : Re K Z env σ H) : ∀ {modes : List Bool} {ops : List Op} {vs : List V} {ds : List PI.D}, okOps env modes ops = true → OReps K (Av env σ Z) σ H ops vs → gets env ops = some ds → ArgsR K (Av env σ Z) H modes vs ds ∧
    (muts modes vs).length = (slotsOf modes ops).length ∧ ∀ (k : Nat) (v : V), (muts modes vs)[k]? = some v → ∃ (i : Nat) (d : PI.D) (a : Addr), (slotsOf modes ops)[k]? = some i ∧ env[i]? = some (some (true, d)) ∧ σ[i]? = some (some v) ∧ v = V.ref a
  | [], [], vs, ds, _, o, g => by
    cases o
    cases g
    exact ⟨.nil, rfl, fun k v h => by cases h⟩
  | [], _ :: _, vs, ds, h, _, _ => by cases h
  | _ :: _, [], vs, ds, h, _, _ => by cases h
  | m :: ms, op :: os, vs, ds, h, o, g => by
    obtain ⟨h1, h2⟩ := Bool.and_eq_true_iff.mp h
    cases o with
    | cons o1 o2 =>
      unfold gets at g
      obtain ⟨d, g1, g⟩ := obind g
      obtain ⟨es, g2, g⟩ := obind g
      cases g
      obtain ⟨i1, i2, i3⟩ := args_of (S := S) R h2 o2 g2
      cases m with
      | false =>
        cases op with
        | val e =>
          cases g1
          exact ⟨.cons (m := false) o1 i1, i2, i3⟩
        | slot i => cases h1
      | true =>
        cases op with
        | val e => cases h1
        | slot i =>
          obtain ⟨a, vs0, ds0, k1, k2, k3, k4, _⟩ := own_list R (show isOwn env i = true from h1)
          have o1 : σ[i]? = some (some _) := o1
          rw [k1] at o1
          cases o1
          have g1 : (match env[i]? with | some (some p) => some p.2 | _ => none) = some d := g1
          rw [k2] at g1
          cases g1
          refine ⟨.cons (m := true) ⟨a, vs0, ds0, rfl, rfl, k3, k4⟩ i1, congrArg Nat.succ i2, fun k v hk => ?_⟩
          cases k with
          | zero =>
            have e : V.ref a = v := Option.some.inj hk
            subst e
            exact ⟨i, _, a, rfl, k2, k1, rfl⟩
          | succ k => exact i3 k v hk
theorem wback_get : ∀ {is : List Nat} {ds : List PI.D} {env e : PI.Env}, wback is ds env = some e → is.Nodup → (∀ i ∈ is, i < env.length) → e.length = env.length ∧ (∀ (k i : Nat), is[k]? = some i → ∃ d : PI.D, ds[k]? = some d ∧ e[i]? = some (some (true, d))) ∧ ∀ (i : Nat), i ∉ is → e[i]? = env[i]?
  | [], [], env, e, h, _, _ => by
    cases h
    exact ⟨rfl, fun k i z => by simp at z, fun i _ => rfl⟩
  | [], _ :: _, _, _, h, _, _ => by cases h
  | _ :: _, [], _, _, h, _, _ => by cases h
  | j :: is, d :: ds, env, e, h, nd, hl => by
    unfold wback at h
    obtain ⟨e1, h1, h⟩ := obind h
    cases h
    obtain ⟨n1, n2⟩ := List.nodup_cons.mp nd
    obtain ⟨l, a, b⟩ := wback_get h1 n2 fun i hi => hl i (List.mem_cons_of_mem _ hi)
    refine ⟨by rw [List.length_set]; exact l, fun k i z => ?_, fun i hi => ?_⟩
    · cases k with
      | zero =>
        have z : j = i := Option.some.inj z
        subst z
        exact ⟨d, rfl, List.getElem?_set_self (by rw [l]; exact hl j List.mem_cons_self)⟩
      | succ k =>
        have z : is[k]? = some i := z
        obtain ⟨d', z1, z2⟩ := a k i z
        refine ⟨d', z1, ?_⟩
        rw [List.getElem?_set_ne fun q => n1 (by rw [q]; exact List.mem_of_getElem? z)]
        exact z2
    · rw [List.getElem?_set_ne fun q => hi (by rw [q]; exact List.mem_cons_self)]
      exact b i fun z => hi (List.mem_cons_of_mem _ z)
theorem OutsR.at {S : Addr → Prop} {vs : List V} {ds : List PI.D} (h : OutsR K S H vs ds) : ∀ {k : Nat} {v : V}, vs[k]? = some v → ∃ (a : Addr) (us : List V) (xs : List PI.D), v = V.ref a ∧ ds[k]? = some (.lst xs) ∧ H a = some (.lst us) ∧ RepAll K S H us xs := by
  induction h with
  | nil => intro k v e; simp at e
  | cons h1 h2 _ ih =>
    intro k v e
    cases k with
    | zero =>
      have e := Option.some.inj e
      subst e
      exact ⟨_, _, _, rfl, rfl, h1, h2⟩
    | succ k => exact ih (k := k) e
theorem callO_go {modes : List Bool} {f : Cal} {ops : List Op} {vs : List V} {w : W} {Q : VK} {E : XK} (R : Re K Z env1 σ H1) (t : Trn env σ H env1 H1) (o : OReps K (Av env1 σ Z) σ H1 ops vs) (e : callO modes f ops env1 = some (w, env')) (q : ∀ v H', Res K Z env σ H w env' v H' → Q v H') : spOf K modes f vs H1 Q E := by
  unfold callO at e
  cases ho : okOps env1 modes ops && nodupB (slotsOf modes ops) with
  | false =>
    rw [ho] at e
    cases e
  | true =>
    rw [ho] at e
    obtain ⟨h1, h2⟩ := Bool.and_eq_true_iff.mp ho
    have nd := nodupB_ok h2
    obtain ⟨ds, g1, e⟩ := obind e
    obtain ⟨⟨w2, outs⟩, g2, e⟩ := obind e
    obtain ⟨e1, g3, e⟩ := obind e
    have hw : w = w2 := (congrArg Prod.fst (Option.some.inj e)).symm
    have hen : env' = e1 := (congrArg Prod.snd (Option.some.inj e)).symm
    subst hw hen
    obtain ⟨hA, hl, hm⟩ := args_of (S := Z) R h1 o g1
    have inv : ∀ {k : Nat} {i : Nat}, (slotsOf modes ops)[k]? = some i → ∃ (d : PI.D) (a : Addr), (muts modes vs)[k]? = some (V.ref a) ∧ env1[i]? = some (some (true, d)) ∧ σ[i]? = some (some (V.ref a)) := fun {k i} z => by
      have hk : k < (muts modes vs).length := by rw [hl]; exact lt_of_get z
      obtain ⟨j, d, a, z1, z2, z3, z4⟩ := hm k _ (List.getElem?_eq_getElem hk)
      rw [z] at z1
      cases z1
      exact ⟨d, a, by rw [List.getElem?_eq_getElem hk, z4], z2, by rw [z3, z4]⟩
    have mown : ∀ a, V.ref a ∈ muts modes vs → Own env1 σ a := fun a ha => by
      obtain ⟨k, hk⟩ := List.getElem?_of_mem ha
      obtain ⟨i, d, b, z1, z2, z3, z4⟩ := hm k _ hk
      exact ⟨i, d, z2, z3⟩
    have mnd : (muts modes vs).Nodup := by
      refine List.pairwise_iff_getElem.mpr fun j k hj hk hjk he => ?_
      have hk' : k < (slotsOf modes ops).length := by rw [← hl]; exact hk
      have hj' : j < (slotsOf modes ops).length := by omega
      obtain ⟨d1, a1, x1, x2, x3⟩ := inv (List.getElem?_eq_getElem hj')
      obtain ⟨d2, a2, y1, y2, y3⟩ := inv (List.getElem?_eq_getElem hk')
      rw [List.getElem?_eq_getElem hj] at x1
      rw [List.getElem?_eq_getElem hk] at y1
      have he2 := (Option.some.inj x1).symm.trans (he.trans (Option.some.inj y1))
      cases he2
      have := R.dist _ _ _ _ _ x2 y2 x3 y3
      exact (List.pairwise_iff_getElem.mp nd) j k hj' hk' hjk this
    refine ⟨Av env1 σ Z, ds, w, outs, R.dom, fun a ha => .inl (mown a ha), hA, mnd, g2, fun v H2 c => q v H2 ?_⟩
    obtain ⟨el, ea, eb⟩ := wback_get g3 nd fun i hi => by
      obtain ⟨k, hk⟩ := List.getElem?_of_mem hi
      obtain ⟨d, a, _, z, _⟩ := inv hk
      exact lt_of_get z
    have st : ∀ b u, H1 b = some u → ¬ Av env1 σ Z b → H2 b = some u := fun b u z n => c.keep b u z fun y => n (.inl (mown b y))
    have slot_of : ∀ {i : Nat} {d : PI.D}, env'[i]? = some (some (true, d)) → (∃ k, (slotsOf modes ops)[k]? = some i ∧ outs[k]? = some d) ∨ (i ∉ slotsOf modes ops ∧ env1[i]? = some (some (true, d))) := fun {i d} z => by
      by_cases hi : i ∈ slotsOf modes ops
      · obtain ⟨k, hk⟩ := List.getElem?_of_mem hi
        obtain ⟨d', z1, z2⟩ := ea k i hk
        rw [z] at z2
        cases z2
        exact .inl ⟨k, hk, z1⟩
      · rw [eb i hi] at z
        exact .inr ⟨hi, z⟩
    have own1 : ∀ b, Own env' σ b → Own env1 σ b := fun b ⟨i, d, z1, z2⟩ => by
      rcases slot_of z1 with ⟨k, y1, _⟩ | ⟨_, y⟩
      · obtain ⟨d', a, _, x2, _⟩ := inv y1
        exact ⟨i, d', x2, z2⟩
      · exact ⟨i, d, y, z2⟩
    have hAv : ∀ {Z' : Addr → Prop}, (∀ b, Z' b → Z b ∨ H1 b = none) → ∀ b, Av env' σ Z' b → Av env1 σ Z b ∨ H1 b = none := fun {Z'} hz b z => by
      rcases z with z | z
      · exact .inl (.inl (own1 b z))
      · exact (hz b z).imp .inr id
    have main : ∀ Z' : Addr → Prop, (∀ b, Z' b → Z b ∨ H1 b = none) → (∀ b, Z' b → H2 b ≠ none) → (∀ b, Av env' σ Z' b → Av env1 σ Z b ∨ (w.1 = true ∧ v = V.ref b)) → Re K Z' env' σ H2 := fun Z' hz hz2 hz3 => by
      have hnz : ∀ b, Z' b → ¬ Own env' σ b := fun b z y => by
        rcases hz b z with z | z
        · exact (R.z b z).2 (own1 b y)
        · exact R.dom b (.inl (own1 b y)) z
      refine ⟨by rw [el]; exact R.len, fun i d z => ?_, fun i d z => ?_, fun i j d e' a z1 z2 s1 s2 => ?_, fun a o z => (nomatch z), fun a z => ⟨hz2 a z, hnz a z⟩⟩
      · have hi : i ∉ slotsOf modes ops := fun hi => by
          obtain ⟨k, hk⟩ := List.getElem?_of_mem hi
          obtain ⟨d', z1, z2⟩ := ea k i hk
          rw [z] at z2
          cases z2
        rw [eb i hi] at z
        obtain ⟨u, k1, k2⟩ := R.sh i d z
        exact ⟨u, k1, k2.step st (hAv hz)⟩
      · rcases slot_of z with ⟨k, y1, y2⟩ | ⟨hi, y⟩
        · obtain ⟨d', a, x1, x2, x3⟩ := inv y1
          obtain ⟨a', us, xs, w1, w2, w3, w4⟩ := c.outs.at x1
          cases w1
          rw [y2] at w2
          cases w2
          exact ⟨a, us, xs, x3, rfl, w3, w4.less hz3⟩
        · obtain ⟨a, us, xs, k1, k2, k3, k4⟩ := R.ow i d y
          refine ⟨a, us, xs, k1, k2, c.keep a _ k3 fun ha => ?_, k4.step st (hAv hz)⟩
          obtain ⟨k, hk⟩ := List.getElem?_of_mem ha
          obtain ⟨j, d', b, z1, z2, z3, z4⟩ := hm k _ hk
          have := R.dist _ _ _ _ _ y z2 k1 z3
          subst this
          exact hi (List.mem_of_getElem? z1)
      · have : ∀ {i : Nat} {d : PI.D}, env'[i]? = some (some (true, d)) → ∃ d', env1[i]? = some (some (true, d')) := fun {i d} z => by
          rcases slot_of z with ⟨k, y1, _⟩ | ⟨_, y⟩
          · obtain ⟨d', _, _, x2, _⟩ := inv y1
            exact ⟨d', x2⟩
          · exact ⟨d, y⟩
        obtain ⟨d1, y1⟩ := this z1
        obtain ⟨d2, y2⟩ := this z2
        exact R.dist i j d1 d2 a y1 y2 s1 s2
    have RZ : Re K Z env' σ H2 := main Z (fun b z => .inl z) (fun b z => c.dom b (R.z b z).1) fun b z => .inl (z.imp (own1 b) id)
    have tr : Trn env σ H env' H2 := ⟨fun a z => t.own a (own1 a z), fun a u z n => c.keep a u (t.keep a u z n) fun y => n (t.own a (mown a y)), fun a z => c.dom a (t.dom a z)⟩
    obtain ⟨fr, d⟩ := w
    cases fr with
    | false => exact ⟨RZ, tr, (c.old rfl).less fun b z => z.imp (own1 b) id, fun z => (nomatch z)⟩
    | true =>
      obtain ⟨a, us, xs, k1, k2, k3, k4, k5⟩ := c.new rfl
      have k2 : d = .lst xs := k2
      subst k1 k2
      have av2 : ∀ b, Av env' σ (fun b => Z b ∨ b = a) b → Av env1 σ Z b ∨ b = a := fun b z => by
        rcases z with z | z | z
        · exact .inl (.inl (own1 b z))
        · exact .inl (.inr z)
        · exact .inr z
      have hr : RepAll K (Av env' σ fun b => Z b ∨ b = a) H2 us xs := k5.less av2
      refine ⟨RZ, tr, .lst k4 (fun z => ?_) (hr.less fun b z => z.imp id .inl), fun _ => ⟨a, us, xs, rfl, rfl, none_back (t.dom a) k3, k4, main (fun b => Z b ∨ b = a) (fun b z => z.imp id fun z => by rw [z]; exact k3) (fun b z => ?_) (fun b z => (av2 b z).imp id fun z => ⟨rfl, by rw [z]⟩), hr⟩⟩
      · exact R.dom a (z.imp (own1 a) id) k3
      · rcases z with z | z
        · exact c.dom b (R.z b z).1
        · rw [z, k4]
          exact fun z => by cases z
theorem eCall_go {modes : List Bool} {f : Cal} {as : List Opd} {Q : VK} {E : XK} (h : SEr K (eCall modes f as) σ H Q) : tCall (spOf K modes f) [] E (SAr K as) σ H Q := by
  obtain ⟨Z, env, w, env', R, e, q⟩ := h
  obtain ⟨⟨ops, env1⟩, h1, e⟩ := obind e
  refine SAr.go R h1 fun vs H1 R1 t1 o1 => ?_
  show spOf K modes f (vs ++ []) H1 Q E
  rw [List.append_nil]
  exact callO_go R1 t1 o1 e q
theorem OReps.pick {S : Addr → Prop} {ops : List Op} {vs : List V} (h : OReps K S σ H ops vs) : ∀ is : List Nat, OReps K S σ H (PI.pick is ops) (PI.pick is vs) := by
  have key : ∀ i : Nat, (ops[i]? = none ∧ vs[i]? = none) ∨ ∃ o v, ops[i]? = some o ∧ vs[i]? = some v ∧ ORep K S σ H o v := by
    induction h with
    | nil => intro i; exact .inl ⟨rfl, rfl⟩
    | cons r _ ih =>
      intro i
      cases i with
      | zero => exact .inr ⟨_, _, rfl, rfl, r⟩
      | succ i => exact ih i
  intro is
  unfold PI.pick
  induction is with
  | nil => exact .nil
  | cons i is ih =>
    rcases key i with ⟨k1, k2⟩ | ⟨o, v, k1, k2, k3⟩
    · rw [List.filterMap_cons, List.filterMap_cons, k1, k2]
      exact ih
    · rw [List.filterMap_cons, List.filterMap_cons, k1, k2]
      exact .cons k3 ih
theorem runs_app : ∀ {as bs : List Opd} {env : PI.Env}, runs (as ++ bs) env = (runs as env).bind fun r => (runs bs r.2).bind fun s => some (r.1 ++ s.1, s.2)
  | [], bs, env => by
    show runs bs env = (runs bs env).bind fun s => some (s.1, s.2)
    cases runs bs env <;> rfl
  | a :: as, bs, env => by
    show ((a.run env).bind fun r => (runs (as ++ bs) r.2).bind fun s => some (r.1 :: s.1, s.2)) = ((a.run env).bind fun r => (runs as r.2).bind fun s => some (r.1 :: s.1, s.2)).bind _
    cases a.run env with
    | none => rfl
    | some r =>
      show ((runs (as ++ bs) r.2).bind fun s => some (r.1 :: s.1, s.2)) = ((runs as r.2).bind fun s => some (r.1 :: s.1, s.2)).bind _
      rw [runs_app]
      cases runs as r.2 with
      | none => rfl
      | some s =>
        show ((runs bs s.2).bind fun t => some (s.1 ++ t.1, t.2)).bind _ = (runs bs s.2).bind _
        cases runs bs s.2 <;> rfl
theorem OReps.app {S : Addr → Prop} {o1 o2 : List Op} {v1 v2 : List V} (h : OReps K S σ H o1 v1) (h2 : OReps K S σ H o2 v2) : OReps K S σ H (o1 ++ o2) (v1 ++ v2) := by
  induction h with
  | nil => exact h2
  | cons r _ ih => exact .cons r ih
theorem eCallK_go {modes : List Bool} {f : Cal} {as bs : List Opd} {is : List Nat} {Q : VK} {E : XK} (h : SEr K (eCallK modes f (as ++ bs) is) σ H Q) : SAr K as σ H fun vs H1 => SAr K bs σ H1 fun zs H2 => spOf K modes f (pick is (vs ++ zs)) H2 Q E := by
  obtain ⟨Z, env, w, env', R, e, q⟩ := h
  obtain ⟨⟨ops, env1⟩, h1, e⟩ := obind e
  rw [runs_app] at h1
  obtain ⟨r, g1, h1⟩ := obind h1
  obtain ⟨s, g2, h1⟩ := obind h1
  cases h1
  exact SAr.go R g1 fun vs H1 R1 t1 o1 => SAr.go R1 g2 fun zs H2 R2 t2 o2 => callO_go R2 (t1.trans t2) (((o1.step t2).app o2).pick is) e q
end
/-! ### a def that keeps its promise, as a caller finds it -/
structure CallOk (P : Program) (w : World) (K : PySem.W.Frag) (mg : Str → Option Value) (base : Heap) (k : Nat) (x : Str) (ps : List Str) (modes : List Bool) (f : Cal) : Prop where
  ex : ∃ (a : Addr) (fd : FuncData), FnOk P w K mg base CX0 k a fd ps (spOf K modes f) ∧ mg x = some (.ref a) ∧ PySem.W.keepIn K (.ref a) = true ∧ Binds K fd ps []
  kw : ∃ (a : Addr) (fd : FuncData), FnOk P w K mg base CX0 k a fd ps (spOf K modes f) ∧ mg x = some (.ref a) ∧ PySem.W.keepIn K (.ref a) = true ∧ fd.defaults = .none
section
variable {X : Cx} {k : Nat} {x : Str} {p pos : Pos} {e : Expr} {es : List Expr} {ps : List Str} {modes : List Bool} {f : Cal} {as : List Opd}
theorem se_call {j : Nat} (G : CallOk X.prog X.w X.K X.mg X.base j x ps modes f) (hr : Room k X.A) (ha : PA X (e :: es) (SAr X.K as)) (hjk : j ≤ k := by decide) (hg : Gl X x := by rfl) (hdb : (x == ("__debug__" : Str)) = false := by decide) (he : starEach (e :: es) X.env = (false, eval e X.env) :: starEach es X.env := by rfl) (hpl : (backTo pos (starEach es X.env)).any (·.1) = false := by rfl) :
    PE X (.Call (.Name x p) (e :: es) [] pos) (SEr X.K (eCall modes f as)) := by
  obtain ⟨a, fd, F, hm, hk, hb⟩ := G.ex
  exact PEi (pe_call F (hr.mono hjk) hg hm hk hb .nil pass0 ha hdb he hpl) fun _ _ _ q => eCall_go q
theorem se_call0 {j : Nat} (G : CallOk X.prog X.w X.K X.mg X.base j x ps modes f) (hr : Room k X.A) (hjk : j ≤ k := by decide) (hg : Gl X x := by rfl) (hdb : (x == ("__debug__" : Str)) = false := by decide) :
    PE X (.Call (.Name x p) [] [] pos) (SEr X.K (eCall modes f [])) := by
  obtain ⟨a, fd, F, hm, hk, hb⟩ := G.ex
  exact PEi (pe_call0 F (hr.mono hjk) hg hm hk hb .nil pass0 hdb) fun _ _ _ q => eCall_go q
end
end PI

namespace PI
open PySem PySem.Spec PyProof.Rows L2
theorem opr_or {X : Cx} {f : Value → Value → Sem Value} {r r' : R2} (h : L2.OpR X f r) (h' : L2.OpR X f r') : L2.OpR X f fun x y H Q => r x y H Q ∨ r' x y H Q := fun pins s σ H x y v u Q I rx ry q =>
  q.elim (fun q => h pins s σ H x y v u Q I rx ry q) fun q => h' pins s σ H x y v u Q I rx ry q
/-! ### + -/
def addD : PI.D → PI.D → Option W
  | .int i, .int j => some (false, .int (i + j))
  | .str x, .str y => if x.length + y.length ≤ 10000000 then some (false, .str (x ++ y)) else none
  | .tup xs, .tup ys => if xs.length + ys.length ≤ 1000000 then some (false, .tup (xs ++ ys)) else none
  | .lst xs, .lst ys => if xs.length + ys.length ≤ 1000000 then some (true, .lst (xs ++ ys)) else none
  | _, _ => none
def rStrCat : R2 := fun x y H Q => ∃ i j, x = .str i ∧ y = .str j ∧ i.length + j.length ≤ sizeLine ∧ Q (.str (i ++ j)) H
def rAddD (K : PySem.W.Frag) : R2 := fun x y H Q => ((rI0 (fun i j => .int (i + j)) x y H Q ∨ rStrCat x y H Q) ∨ rCatA K x y H Q) ∨ rCat x y H Q
theorem op_addD {X : Cx} : L2.OpR X (binaryOp .Add) (rAddD X.K) := opr_or (opr_or (opr_or op_add op_add_str) op_catA) op_cat
theorem sz7 {n : Nat} (h : n ≤ 10000000) : n ≤ sizeLine := Nat.le_trans h (by decide)
theorem sz6 {n : Nat} (h : n ≤ 1000000) : n ≤ sizeLine := Nat.le_trans h (by decide)
theorem p_addD {K : PySem.W.Frag} : P2Ok K (rAddD K) addD := fun S H x y d e w Q hS hx hy hf q => by
  cases d with
  | int i =>
    cases e with
    | int j =>
      cases hf
      exact .inl (.inl (.inl ⟨i, j, hx.intD, hy.intD, q _ H (made_int _)⟩))
    | _ => cases hf
  | str i =>
    cases e with
    | str j =>
      dsimp only [addD] at hf
      split at hf
      · rename_i hz
        cases hf
        exact .inl (.inl (.inr ⟨i, j, hx.strD, hy.strD, sz7 hz, q _ H (made_str _)⟩))
      · cases hf
    | _ => cases hf
  | tup xs =>
    cases e with
    | tup ys =>
      dsimp only [addD] at hf
      split at hf
      · rename_i hz
        cases hf
        obtain ⟨a, vs, rfl, h1, h2⟩ := hx.tupD
        obtain ⟨b, us, rfl, h3, h4⟩ := hy.tupD
        refine .inl (.inr ⟨a, b, vs, us, rfl, rfl, h1.sq, h3.sq, by rw [h2.length, h4.length]; exact sz6 hz, fun z => ?_, fun _ z => ?_, fun _ _ p hp => q _ _ (made_tup hp (fun z => hS p z hp) (h2.append h4))⟩)
        · have : xs = [] := List.eq_nil_of_length_eq_zero (by rw [← h2.length, z]; rfl)
          subst this
          exact q _ H (made_old (.tup h3 h4))
        · have : ys = [] := List.eq_nil_of_length_eq_zero (by rw [← h4.length, z]; rfl)
          subst this
          rw [List.append_nil] at q
          exact q _ H (made_old (.tup h1 h2))
      · cases hf
    | _ => cases hf
  | lst xs =>
    cases e with
    | lst ys =>
      dsimp only [addD] at hf
      split at hf
      · rename_i hz
        cases hf
        obtain ⟨a, vs, rfl, h1, h2⟩ := hx.lst
        obtain ⟨b, us, rfl, h3, h4⟩ := hy.lst
        exact .inr ⟨a, b, vs, us, rfl, rfl, h1, h3, by rw [h2.length, h4.length]; exact sz6 hz, fun p hp => q _ _ (made_lst hp (h2.append h4))⟩
      · cases hf
    | _ => cases hf
  | _ => cases hf
/-! ### ints -/
def iiD (f : Int → Int → PI.D) : PI.D → PI.D → Option W
  | .int i, .int j => some (false, f i j)
  | _, _ => none
theorem p_ii {K : PySem.W.Frag} {g : Int → Int → V} {f : Int → Int → PI.D} (h : ∀ i j S H, Rep K S H (g i j) (f i j)) : P2Ok K (rI0 g) (iiD f) := fun S H x y d e w Q hS hx hy hf q => by
  cases d with
  | int i =>
    cases e with
    | int j =>
      cases hf
      exact ⟨i, j, hx.intD, hy.intD, q _ H (made_old (h i j S H))⟩
    | _ => cases hf
  | _ => cases hf
def iiC (C : Int → Int → Bool) (f : Int → Int → PI.D) : PI.D → PI.D → Option W
  | .int i, .int j => if C i j then some (false, f i j) else none
  | _, _ => none
theorem p_iiC {K : PySem.W.Frag} {C : Int → Int → Prop} {c : Int → Int → Bool} {g : Int → Int → V} {f : Int → Int → PI.D} (hc : ∀ i j, c i j = true → C i j) (h : ∀ i j S H, Rep K S H (g i j) (f i j)) : P2Ok K (rI C g) (iiC c f) := fun S H x y d e w Q hS hx hy hf q => by
  cases d with
  | int i =>
    cases e with
    | int j =>
      dsimp only [iiC] at hf
      split at hf
      · rename_i hz
        cases hf
        exact ⟨i, j, hx.intD, hy.intD, hc i j hz, q _ H (made_old (h i j S H))⟩
      · cases hf
    | _ => cases hf
  | _ => cases hf
def subD := iiD fun i j => .int (i - j)
theorem p_subD {K : PySem.W.Frag} : P2Ok K (rI0 fun i j => .int (i - j)) subD := p_ii fun _ _ _ _ => .int _
/-- how many bits -/
abbrev bts (i : Int) : Nat := Builtin.Int.intBits i
def mulB (i j : Int) : Bool := decide (bts i + bts j ≤ 134217728)
def mulD := iiC mulB fun i j => .int (i * j)
theorem p_mulD {K : PySem.W.Frag} : P2Ok K (rI CMulX fun i j => .int (i * j)) mulD := p_iiC (fun i j h => by
  have h1 : bts i + bts j ≤ 134217728 := of_decide_eq_true h
  show (bts i : Int) + (bts j : Int) ≤ 134217728
  omega) fun _ _ _ _ => .int _
def divB (_ j : Int) : Bool := decide (0 < j ∧ bts j ≤ 8000)
def fdivD := iiC divB fun i j => .int (i / j)
theorem bts_lt {i : Int} {n : Nat} (h : bts i ≤ n) : i.natAbs < 2 ^ n := by
  unfold bts Builtin.Int.intBits at h
  split at h
  · rename_i h0
    have : i = 0 := by simpa using h0
    subst this
    exact Nat.two_pow_pos n
  · exact Nat.lt_of_lt_of_le Nat.lt_log2_self (Nat.pow_le_pow_right (by decide) h)
theorem p_fdivD {K : PySem.W.Frag} : P2Ok K (rI CDivW fun i j => .int (i / j)) fdivD := p_iiC (fun i j h => by
  obtain ⟨h1, h2⟩ := of_decide_eq_true h
  exact wide_div h1 (bts_lt (n := 8000) h2) (by decide) (by decide)) fun _ _ _ _ => .int _
def modB (_ j : Int) : Bool := decide (0 < j)
def modD := iiC modB fun i j => .int (i % j)
theorem p_modD {K : PySem.W.Frag} : P2Ok K (rI (fun _ j => 0 < j) fun i j => .int (i % j)) modD := p_iiC (fun i j h => of_decide_eq_true h) fun _ _ _ _ => .int _
def CPowW (i j : Int) : Prop := 0 ≤ j ∧ (Builtin.Int.intBits i : Int) * j ≤ 2 ^ 27
def powB (i j : Int) : Bool := decide (0 ≤ j ∧ (bts i : Int) * j ≤ 134217728)
def powD := iiC powB fun i j => .int (i ^ j.toNat)
theorem op_powW {X : Cx} : L2.OpR X (binaryOp .Pow) (rI CPowW fun i j => .int (i ^ j.toNat)) := opI fun _ _ _ _ _ _ _ hc q => pow_int hc.1 hc.2 q
theorem p_powD {K : PySem.W.Frag} : P2Ok K (rI CPowW fun i j => .int (i ^ j.toNat)) powD := p_iiC (fun i j h => by
  obtain ⟨h1, h2⟩ := of_decide_eq_true h
  exact ⟨h1, h2⟩) fun _ _ _ _ => .int _
def negD : PI.D → Option W
  | .int i => some (false, .int (-i))
  | _ => none
theorem p_negD {K : PySem.W.Frag} : P1Ok K (rU fun i => .int (-i)) negD := fun S H v d w Q hS hx hf q => by
  cases d with
  | int i =>
    cases hf
    exact ⟨i, hx.intD, q _ H (made_int _)⟩
  | _ => cases hf
/-! ### comparisons -/
def ltD := iiD fun i j => .bl (decide (i < j))
def leD := iiD fun i j => .bl (decide (i ≤ j))
def gtD := iiD fun i j => .bl (decide (j < i))
def geD := iiD fun i j => .bl (decide (j ≤ i))
theorem p_ltD {K : PySem.W.Frag} : P2Ok K (rI0 fun i j => .bl (decide (i < j))) ltD := p_ii fun _ _ _ _ => .bl _
theorem p_leD {K : PySem.W.Frag} : P2Ok K (rI0 fun i j => .bl (decide (i ≤ j))) leD := p_ii fun _ _ _ _ => .bl _
theorem p_gtD {K : PySem.W.Frag} : P2Ok K (rI0 fun i j => .bl (decide (j < i))) gtD := p_ii fun _ _ _ _ => .bl _
theorem p_geD {K : PySem.W.Frag} : P2Ok K (rI0 fun i j => .bl (decide (j ≤ i))) geD := p_ii fun _ _ _ _ => .bl _
/-- x is None -/
def isD : PI.D → PI.D → Option W
  | .non, .non => some (false, .bl true)
  | _, .non => some (false, .bl false)
  | _, _ => none
def isntD : PI.D → PI.D → Option W
  | .non, .non => some (false, .bl false)
  | _, .non => some (false, .bl true)
  | _, _ => none
theorem view_ne {K : PySem.W.Frag} {S : Addr → Prop} {H : Hp} {x : V} {d : PI.D} (h : View K S H x d) (n : d ≠ .non) : x ≠ .non := fun e => by
  subst e
  rcases h with h | ⟨a, _, _, e, _⟩
  · cases h
    exact n rfl
  · cases e
theorem p_isD {K : PySem.W.Frag} : P2Ok K (fun x y H Q => y = .non ∧ Q (.bl (decide (x = .non))) H) isD := fun S H x y d e w Q hS hx hy hf q => by
  cases e with
  | non =>
    refine ⟨hy.nonD, ?_⟩
    cases d with
    | non =>
      cases hf
      rw [hx.nonD]
      exact q _ H (made_bl _)
    | _ =>
      cases hf
      rw [decide_eq_false (view_ne hx (by intro z; cases z))]
      exact q _ H (made_bl _)
  | _ => cases d <;> cases hf
theorem p_isntD {K : PySem.W.Frag} : P2Ok K (fun x y H Q => y = .non ∧ Q (.bl (!decide (x = .non))) H) isntD := fun S H x y d e w Q hS hx hy hf q => by
  cases e with
  | non =>
    refine ⟨hy.nonD, ?_⟩
    cases d with
    | non =>
      cases hf
      rw [hx.nonD]
      exact q _ H (made_bl _)
    | _ =>
      cases hf
      rw [decide_eq_false (view_ne hx (by intro z; cases z))]
      exact q _ H (made_bl _)
  | _ => cases d <;> cases hf
/-! ### == by data -/
mutual
def toPy : PI.D → PyData
  | .non => .none
  | .bl b => .bool b
  | .int i => .int i
  | .str x => .str x
  | .tup ds => .tuple (toPys ds)
  | .lst ds => .list (toPys ds)
  | .frz ds => .list (toPys ds)
  | .dct _ _ => .dict []
def toPys : List PI.D → List PyData
  | [] => []
  | d :: ds => toPy d :: toPys ds
end
mutual
theorem Rep.dp {K : PySem.W.Frag} {S : Addr → Prop} {H : Hp} : ∀ {v : V} {d : PI.D}, Rep K S H v d → Dp K H v (toPy d)
  | _, _, .non => .non
  | _, _, .bl b => .bl b
  | _, _, .int i => .int i
  | _, _, .str x => .str x
  | _, _, .tup t r => .tup t.sq (RepAll.dp r)
  | _, _, .lst e n r => .lst (.inl (.inl e)) (RepAll.dp r)
  | _, _, .frz t r => .lst t.sq (RepAll.dp r)
theorem RepAll.dp {K : PySem.W.Frag} {S : Addr → Prop} {H : Hp} : ∀ {vs : List V} {ds : List PI.D}, RepAll K S H vs ds → DpAll K H vs (toPys ds)
  | _, _, .nil => .nil
  | _, _, .cons r t => .cons (Rep.dp r) (RepAll.dp t)
end
theorem View.dp {K : PySem.W.Frag} {S : Addr → Prop} {H : Hp} {v : V} {d : PI.D} (h : View K S H v d) : Dp K H v (toPy d) := by
  rcases h with h | ⟨a, vs, ds, rfl, rfl, h1, h2⟩
  · exact h.dp
  · exact .lst (.inl (.inl h1)) h2.dp
/-- two scalars that == tells apart as data does -/
def scD : PI.D → PI.D → Option Bool
  | .int i, .int j => some (i == j)
  | .bl a, .bl b => some (a == b)
  | .str x, .str y => some (decide (x = y))
  | .non, .non => some true
  | .non, .int _ => some false
  | .int _, .non => some false
  | _, _ => none
def eqB (d e : PI.D) : Option Bool := match scD d e with
  | some b => some b
  | none => if SeqAt.shaped (toPy d) && SeqAt.shaped (toPy e) then some (PyData.eqv (toPy d) (toPy e)) else none
def eqD (d e : PI.D) : Option W := (eqB d e).bind fun b => some (false, .bl b)
def neD (d e : PI.D) : Option W := (eqB d e).bind fun b => some (false, .bl (!b))
def rEqA (K : PySem.W.Frag) : R2 := fun x y H Q => rEq x y H Q ∨ rEqD K x y H Q
def rNeA (K : PySem.W.Frag) : R2 := fun x y H Q => rNe x y H Q ∨ rNeD K x y H Q
theorem op_eqA {X : Cx} (hu : X.A.units + 64 < cLine) : L2.OpR X (compareOp .Eq) (rEqA X.K) := opr_or op_eq (op_eqD hu)
theorem op_neA {X : Cx} (hu : X.A.units + 64 < cLine) : L2.OpR X (compareOp .NotEq) (rNeA X.K) := opr_or op_ne (op_neD hu)
theorem sc_ok {K : PySem.W.Frag} {S : Addr → Prop} {H : Hp} {x y : V} {d e : PI.D} {b : Bool} (hx : View K S H x d) (hy : View K S H y e) (h : scD d e = some b) : scal x y = true ∧ decide (x = y) = b := by
  cases d with
  | int i =>
    cases e with
    | int j =>
      cases h
      rw [hx.intD, hy.intD]
      exact ⟨rfl, dec_int⟩
    | non =>
      cases h
      rw [hx.intD, hy.nonD]
      exact ⟨rfl, rfl⟩
    | _ => cases h
  | bl i =>
    cases e with
    | bl j =>
      cases h
      rw [hx.blD, hy.blD]
      refine ⟨rfl, ?_⟩
      cases i <;> cases j <;> rfl
    | _ => cases h
  | str i =>
    cases e with
    | str j =>
      cases h
      rw [hx.strD, hy.strD]
      refine ⟨rfl, ?_⟩
      by_cases z : i = j
      · subst z
        rw [decide_eq_true rfl, decide_eq_true rfl]
      · rw [decide_eq_false z, decide_eq_false (fun q => z (V.str.inj q))]
    | _ => cases h
  | non =>
    cases e with
    | non =>
      cases h
      rw [hx.nonD, hy.nonD]
      exact ⟨rfl, rfl⟩
    | int j =>
      cases h
      rw [hx.nonD, hy.intD]
      exact ⟨rfl, rfl⟩
    | _ => cases h
  | _ => cases e <;> cases h
theorem p_eqD {K : PySem.W.Frag} : P2Ok K (rEqA K) eqD := fun S H x y d e w Q hS hx hy hf q => by
  obtain ⟨b, h1, h2⟩ := obind hf
  cases h2
  unfold eqB at h1
  split at h1
  · rename_i c hc
    cases h1
    obtain ⟨k1, k2⟩ := sc_ok hx hy hc
    exact .inl ⟨k1, by rw [k2]; exact q _ H (made_bl _)⟩
  · split at h1
    · rename_i hz
      cases h1
      obtain ⟨z1, z2⟩ := Bool.and_eq_true_iff.mp hz
      exact .inr ⟨_, _, hx.dp, hy.dp, z1, z2, q _ H (made_bl _)⟩
    · cases h1
theorem p_neD {K : PySem.W.Frag} : P2Ok K (rNeA K) neD := fun S H x y d e w Q hS hx hy hf q => by
  obtain ⟨b, h1, h2⟩ := obind hf
  cases h2
  unfold eqB at h1
  split at h1
  · rename_i c hc
    cases h1
    obtain ⟨k1, k2⟩ := sc_ok hx hy hc
    exact .inl ⟨k1, by rw [k2]; exact q _ H (made_bl _)⟩
  · split at h1
    · rename_i hz
      cases h1
      obtain ⟨z1, z2⟩ := Bool.and_eq_true_iff.mp hz
      exact .inr ⟨_, _, hx.dp, hy.dp, z1, z2, q _ H (made_bl _)⟩
    · cases h1
/-! ### x in xs, of ints -/
def toInts : List PI.D → Option (List Int)
  | [] => some []
  | .int i :: ds => (toInts ds).bind fun is => some (i :: is)
  | _ :: _ => none
theorem toInts_ok : ∀ {ds : List PI.D} {is : List Int}, toInts ds = some is → ds = is.map PI.D.int
  | [], is, h => by
    cases h
    rfl
  | d :: ds, is, h => by
    cases d with
    | int i =>
      obtain ⟨js, h1, h2⟩ := obind h
      cases h2
      rw [toInts_ok h1]
      rfl
    | _ => cases h
theorem toInts_map : ∀ is : List Int, toInts (is.map PI.D.int) = some is
  | [] => rfl
  | i :: is => by
    show (toInts (is.map PI.D.int)).bind (fun js => some (i :: js)) = _
    rw [toInts_map is]
    rfl
def seqD : PI.D → Option (List PI.D)
  | .tup ds => some ds
  | .lst ds => some ds
  | .frz ds => some ds
  | _ => none
theorem view_seq {K : PySem.W.Frag} {S : Addr → Prop} {H : Hp} {v : V} {d : PI.D} {ds : List PI.D} (h : View K S H v d) (e : seqD d = some ds) : ∃ (a : Addr) (vs : List V), v = .ref a ∧ (SqL K H a vs ∨ SqT K H a vs) ∧ RepAll K S H vs ds := by
  cases d with
  | tup es =>
    cases e
    obtain ⟨a, vs, h1, h2, h3⟩ := h.tupD
    exact ⟨a, vs, h1, .inr h2.sq, h3⟩
  | lst es =>
    cases e
    obtain ⟨a, vs, h1, h2, h3⟩ := h.lst
    exact ⟨a, vs, h1, .inl (.inl (.inl h2)), h3⟩
  | frz es =>
    cases e
    obtain ⟨a, vs, h1, h2, h3⟩ := h.frzD
    exact ⟨a, vs, h1, .inl h2.sq, h3⟩
  | _ => cases e
def inD (neg : Bool) : PI.D → PI.D → Option W
  | .int i, d => (seqD d).bind fun ds => (toInts ds).bind fun is => some (false, .bl (if neg then !is.contains i else is.contains i))
  | _, _ => none
theorem flat_ints (is : List Int) : (is.map V.int).all flatV = true := by
  induction is with
  | nil => rfl
  | cons i is ih => exact ih
theorem inV_ints (i : Int) (is : List Int) : inV (.int i) (is.map V.int) = is.contains i := by
  unfold inV
  induction is with
  | nil => rfl
  | cons j is ih =>
    rw [List.map_cons, List.any_cons, ih, List.contains_cons]
    congr 1
    show (j == i) = (i == j)
    exact Bool.beq_comm
theorem p_inD {K : PySem.W.Frag} {neg : Bool} : P2Ok K (rIn K neg) (inD neg) := fun S H x y d e w Q hS hx hy hf q => by
  cases d with
  | int i =>
    obtain ⟨ds, h1, hf⟩ := obind hf
    obtain ⟨is, h2, hf⟩ := obind hf
    cases hf
    obtain ⟨a, vs, rfl, h3, h4⟩ := view_seq hy h1
    rw [toInts_ok h2] at h4
    have := h4.of_ints
    subst this
    rw [hx.intD]
    refine ⟨a, _, rfl, h3, rfl, flat_ints is, ?_⟩
    rw [inV_ints]
    exact q _ H (made_bl _)
  | _ => cases hf
/-! ### items and slices -/
def ixD : PI.D → PI.D → Option W
  | d, .int i => (seqD d).bind fun ds => (atI ds i).bind fun e => some (false, e)
  | _, _ => none
theorem repAll_atI {K : PySem.W.Frag} {S : Addr → Prop} {H : Hp} {vs : List V} {ds : List PI.D} {i : Int} {e : PI.D} (r : RepAll K S H vs ds) (h : atI ds i = some e) : ∃ v, atI vs i = some v ∧ Rep K S H v e := by
  unfold atI at h ⊢
  rw [r.length]
  obtain ⟨j, h1, h2⟩ := obind h
  rw [h1]
  exact r.get h2
def rIxA (K : PySem.W.Frag) : R2 := fun x y H Q => rIxL K x y H Q ∨ rIxT K x y H Q
theorem ix_A {X : Cx} : IxR X (rIxA X.K) := ix_list.or ix_tup
theorem p_ixD {K : PySem.W.Frag} : P2Ok K (rIxA K) ixD := fun S H x y d e w Q hS hx hy hf q => by
  cases e with
  | int i =>
    obtain ⟨ds, h1, hf⟩ := obind hf
    obtain ⟨z, h2, hf⟩ := obind hf
    cases hf
    obtain ⟨a, vs, rfl, h3, h4⟩ := view_seq hx h1
    obtain ⟨v, h5, h6⟩ := repAll_atI h4 h2
    rcases h3 with h3 | h3
    · exact .inl ⟨a, vs, i, v, rfl, hy.intD, h3, h5, q _ H (made_old h6)⟩
    · exact .inr ⟨a, vs, i, v, rfl, hy.intD, h3, h5, q _ H (made_old h6)⟩
  | _ => cases d <;> cases hf
def cutD (ds : List PI.D) (lo hi : Option Int) : List PI.D := (ds.drop (HT.sIx ds.length 0 lo)).take (HT.sIx ds.length ds.length hi - HT.sIx ds.length 0 lo)
def slD : PI.D → Option Int → Option Int → Option W
  | .tup ds, lo, hi => some (false, .tup (cutD ds lo hi))
  | .lst ds, lo, hi => some (true, .lst (cutD ds lo hi))
  | .frz ds, lo, hi => some (true, .lst (cutD ds lo hi))
  | _, _, _ => none
theorem repAll_cut {K : PySem.W.Frag} {S : Addr → Prop} {H : Hp} {vs : List V} {ds : List PI.D} {lo hi : Option Int} (r : RepAll K S H vs ds) : RepAll K S H (cutV vs lo hi) (cutD ds lo hi) := by
  unfold cutV cutD
  rw [r.length]
  exact (r.drop _).take _
theorem slr_or {X : Cx} {r r' : V → Option Int → Option Int → Hp → VK → Prop} (h : SlR X r) (h' : SlR X r') : SlR X (fun x lo hi H Q => r x lo hi H Q ∨ r' x lo hi H Q) := SlR.or h h'
theorem sl_A {X : Cx} : SlR X (fun x lo hi H Q => rSlL X.K x lo hi H Q ∨ rSlA X.K x lo hi H Q) := slr_or sl_list sl_tupA
theorem p_slD {K : PySem.W.Frag} : P3Ok K (fun x lo hi H Q => rSlL K x lo hi H Q ∨ rSlA K x lo hi H Q) slD := fun S H v d lo hi w Q hS hx hf q => by
  cases d with
  | tup ds =>
    cases hf
    obtain ⟨a, vs, rfl, h1, h2⟩ := hx.tupD
    refine .inr ⟨a, vs, rfl, h1.sq, fun z => ?_, fun _ p hp => q _ _ (made_tup hp (fun z => hS p z hp) (repAll_cut h2))⟩
    have e : cutD ds lo hi = ds := by
      unfold cutD
      rw [← h2.length, z.1, z.2, List.drop_zero, Nat.sub_zero, h2.length]
      exact List.take_length
    rw [e] at q
    exact q _ H (made_old (.tup h1 h2))
  | lst ds =>
    cases hf
    obtain ⟨a, vs, rfl, h1, h2⟩ := hx.lst
    exact .inl ⟨a, vs, rfl, .inl (.inl h1), fun p hp => q _ _ (made_lst hp (repAll_cut h2))⟩
  | frz ds =>
    cases hf
    obtain ⟨a, vs, rfl, h1, h2⟩ := hx.frzD
    exact .inl ⟨a, vs, rfl, h1.sq, fun p hp => q _ _ (made_lst hp (repAll_cut h2))⟩
  | _ => cases hf
/-- xs[::-1] of a list -/
def revD : PI.D → Option W
  | .lst ds => some (true, .lst ds.reverse)
  | _ => none
theorem p_revD {K : PySem.W.Frag} : P1Ok K (fun x H Q => ∃ a xs, x = .ref a ∧ SqL K H a xs ∧ ∀ p, H p = none → Q (.ref p) (upd H p (.lst xs.reverse))) revD := fun S H v d w Q hS hx hf q => by
  cases d with
  | lst ds =>
    cases hf
    obtain ⟨a, vs, rfl, h1, h2⟩ := hx.lst
    exact ⟨a, vs, rfl, .inl (.inl h1), fun p hp => q _ _ (made_lst hp h2.reverse)⟩
  | _ => cases hf
theorem se_rev {X : Cx} {e : Expr} {o : Opd} {k : Nat} {p1 p2 p3 pos : Pos} (he : PE X e (SOr X.K o)) : PE X (.Subscript e (.Slice none none (some (.UnaryOp .USub (.Constant (.int 1) k p1) p2)) p3) pos) (SEr X.K (e1 revD o)) :=
  PEi (pe_revL he) fun _ _ _ q => e1_go p_revD q
/-! ### calls of what is built in -/
theorem views1 {K : PySem.W.Frag} {S : Addr → Prop} {H : Hp} {vs : List V} {d : PI.D} (h : ViewAll K S H vs [d]) : ∃ v, vs = [v] ∧ View K S H v d := by
  cases h with
  | cons a t =>
    cases t
    exact ⟨_, rfl, a⟩
theorem views2 {K : PySem.W.Frag} {S : Addr → Prop} {H : Hp} {vs : List V} {d e : PI.D} (h : ViewAll K S H vs [d, e]) : ∃ v u, vs = [v, u] ∧ View K S H v d ∧ View K S H u e := by
  cases h with
  | cons a t =>
    obtain ⟨u, h1, h2⟩ := views1 t
    subst h1
    exact ⟨_, _, rfl, a, h2⟩
def c1 (f : PI.D → Option W) : List PI.D → Option W
  | [d] => f d
  | _ => none
def c2 (f : PI.D → PI.D → Option W) : List PI.D → Option W
  | [d, e] => f d e
  | _ => none
theorem p_c1 {K : PySem.W.Frag} {r : List V → Hp → VK → Prop} {f : PI.D → Option W} (h : ∀ (S : Addr → Prop) (H : Hp) (v : V) (d : PI.D) (w : W) (Q : VK), (∀ a, S a → H a ≠ none) → View K S H v d → f d = some w → (∀ v' H', Made K S H w v' H' → Q v' H') → r [v] H Q) : PnOk K r (c1 f) := fun S H vs ds w Q hS hv hf q => by
  cases ds with
  | nil => cases hf
  | cons d ds =>
    cases ds with
    | nil =>
      obtain ⟨v, rfl, hx⟩ := views1 hv
      exact h S H v d w Q hS hx hf q
    | cons e es => cases hf
theorem p_c2g {K : PySem.W.Frag} {r : List V → Hp → VK → Prop} {f : PI.D → PI.D → Option W} (h : ∀ (S : Addr → Prop) (H : Hp) (v u : V) (d e : PI.D) (w : W) (Q : VK), (∀ a, S a → H a ≠ none) → View K S H v d → View K S H u e → f d e = some w → (∀ v' H', Made K S H w v' H' → Q v' H') → r [v, u] H Q) : PnOk K r (c2 f) := fun S H vs ds w Q hS hv hf q => by
  cases ds with
  | nil => cases hf
  | cons d ds =>
    cases ds with
    | nil => cases hf
    | cons e es =>
      cases es with
      | nil =>
        obtain ⟨v, u, rfl, hx, hy⟩ := views2 hv
        exact h S H v u d e w Q hS hx hy hf q
      | cons _ _ => cases hf
def lenD : PI.D → Option W
  | .str x => if x.length ≤ 10000000 then some (false, .int x.length) else none
  | d => (seqD d).bind fun ds => some (false, .int ds.length)
theorem p_lenD {K : PySem.W.Frag} : PnOk K (fun xs H Q => ∃ x n, xs = [x] ∧ LenV K x H n ∧ Q (.int n) H) (c1 lenD) := p_c1 fun S H v d w Q hS hx hf q => by
  have sq : ∀ es, seqD d = some es → w = (false, .int es.length) → ∃ x n, [v] = [x] ∧ LenV K x H n ∧ Q (.int n) H := fun es h1 h2 => by
    subst h2
    obtain ⟨a, us, rfl, h3, h4⟩ := view_seq hx h1
    refine ⟨.ref a, us.length, rfl, ?_, by rw [h4.length]; exact q _ H (made_int _)⟩
    rcases h3 with h3 | h3
    · exact .inl ⟨us, h3, rfl⟩
    · exact .inr ⟨us, h3, rfl⟩
  cases d with
  | str x =>
    dsimp only [lenD] at hf
    split at hf
    · rename_i hz
      cases hf
      rw [hx.strD]
      exact ⟨.str x, x.length, rfl, ⟨sz7 hz, rfl⟩, q _ H (made_int _)⟩
    · cases hf
  | tup es => exact sq es rfl (Option.some.inj hf).symm
  | lst es => exact sq es rfl (Option.some.inj hf).symm
  | frz es => exact sq es rfl (Option.some.inj hf).symm
  | _ => cases hf
def absD : PI.D → Option W
  | .int i => some (false, .int (if i < 0 then -i else i))
  | _ => none
theorem p_absD {K : PySem.W.Frag} : PnOk K (fun xs H Q => ∃ i, xs = [.int i] ∧ Q (.int (if i < 0 then -i else i)) H) (c1 absD) := p_c1 fun S H v d w Q hS hx hf q => by
  cases d with
  | int i =>
    cases hf
    rw [hx.intD]
    exact ⟨i, rfl, q _ H (made_int _)⟩
  | _ => cases hf
def max2D := iiD fun i j => .int (if j > i then j else i)
def min2D := iiD fun i j => .int (if j < i then j else i)
theorem p_c2 {K : PySem.W.Frag} {f : PI.D → PI.D → Option W} {g : Int → Int → Int} (hf : f = iiD fun i j => .int (g i j)) : PnOk K (fun xs H Q => ∃ i j, xs = [.int i, .int j] ∧ Q (.int (g i j)) H) (c2 f) := p_c2g fun S H v u d e w Q hS hx hy hfe q => by
  subst hf
  cases d with
  | int i =>
    cases e with
    | int j =>
      cases hfe
      rw [hx.intD, hy.intD]
      exact ⟨i, j, rfl, q _ H (made_int _)⟩
    | _ => cases hfe
  | _ => cases hfe
theorem p_max2D {K : PySem.W.Frag} : PnOk K (fun xs H Q => ∃ i j, xs = [.int i, .int j] ∧ Q (.int (if j > i then j else i)) H) (c2 max2D) := p_c2 rfl
theorem p_min2D {K : PySem.W.Frag} : PnOk K (fun xs H Q => ∃ i j, xs = [.int i, .int j] ∧ Q (.int (if j < i then j else i)) H) (c2 min2D) := p_c2 rfl
def intD : PI.D → Option W
  | .int i => some (false, .int i)
  | .bl b => some (false, .int (if b then 1 else 0))
  | _ => none
theorem p_intD {K : PySem.W.Frag} : PnOk K (fun xs H Q => (∃ i, xs = [.int i] ∧ Q (.int i) H) ∨ ∃ k, xs = [.bl k] ∧ Q (.int (if k then 1 else 0)) H) (c1 intD) := p_c1 fun S H v d w Q hS hx hf q => by
  cases d with
  | int i =>
    cases hf
    rw [hx.intD]
    exact .inl ⟨i, rfl, q _ H (made_int _)⟩
  | bl i =>
    cases hf
    rw [hx.blD]
    exact .inr ⟨i, rfl, q _ H (made_int _)⟩
  | _ => cases hf
def listD (d : PI.D) : Option W := (seqD d).bind fun ds => some (true, .lst ds)
theorem p_listD {K : PySem.W.Frag} : PnOk K (fun xs H Q => ∃ p ys, xs = [.ref p] ∧ (SqL K H p ys ∨ SqT K H p ys) ∧ ∀ l, H l = none → Q (.ref l) (upd H l (.lst ys))) (c1 listD) := p_c1 fun S H v d w Q hS hx hf q => by
  obtain ⟨es, h1, h2⟩ := obind hf
  cases h2
  obtain ⟨a, us, rfl, h3, h4⟩ := view_seq hx h1
  exact ⟨a, us, rfl, h3, fun l hl => q _ _ (made_lst hl h4)⟩
def tupleD : PI.D → Option W
  | .tup ds => some (false, .tup ds)
  | .lst ds => some (false, .tup ds)
  | _ => none
theorem p_tupleD {K : PySem.W.Frag} : PnOk K (fun xs H Q => ∃ p ys, xs = [.ref p] ∧ ((SqL K H p ys ∧ ∀ l, H l = none → Q (.ref l) (upd H l (.tup ys))) ∨ (SqT K H p ys ∧ Q (.ref p) H))) (c1 tupleD) := p_c1 fun S H v d w Q hS hx hf q => by
  cases d with
  | tup es =>
    cases hf
    obtain ⟨a, us, rfl, h1, h2⟩ := hx.tupD
    exact ⟨a, us, rfl, .inr ⟨h1.sq, q _ H (made_old (.tup h1 h2))⟩⟩
  | lst es =>
    cases hf
    obtain ⟨a, us, rfl, h1, h2⟩ := hx.lst
    exact ⟨a, us, rfl, .inl ⟨.inl (.inl h1), fun p hp => q _ _ (made_tup hp (fun z => hS p z hp) h2)⟩⟩
  | _ => cases hf
def toBls : List PI.D → Option (List Bool)
  | [] => some []
  | .bl i :: ds => (toBls ds).bind fun is => some (i :: is)
  | _ :: _ => none
theorem toBls_ok : ∀ {ds : List PI.D} {is : List Bool}, toBls ds = some is → ds = is.map PI.D.bl
  | [], is, h => by
    cases h
    rfl
  | d :: ds, is, h => by
    cases d with
    | bl i =>
      obtain ⟨js, h1, h2⟩ := obind h
      cases h2
      rw [toBls_ok h1]
      rfl
    | _ => cases h
theorem toBls_map : ∀ is : List Bool, toBls (is.map PI.D.bl) = some is
  | [] => rfl
  | i :: is => by
    show (toBls (is.map PI.D.bl)).bind (fun js => some (i :: js)) = _
    rw [toBls_map is]
    rfl
def allD : PI.D → Option W
  | .lst ds => (toBls ds).bind fun bs => some (false, .bl (bs.all id))
  | _ => none
def anyD : PI.D → Option W
  | .lst ds => (toBls ds).bind fun bs => some (false, .bl (bs.any id))
  | _ => none
theorem p_allD {K : PySem.W.Frag} : PnOk K (rAll K) (c1 allD) := p_c1 fun S H v d w Q hS hx hf q => by
  cases d with
  | lst es =>
    obtain ⟨bs, h1, h2⟩ := obind hf
    cases h2
    obtain ⟨a, us, rfl, h3, h4⟩ := hx.lst
    rw [toBls_ok h1] at h4
    have := h4.of_bls
    subst this
    exact ⟨a, bs, rfl, .inl (.inl h3), q _ H (made_bl _)⟩
  | _ => cases hf
theorem p_anyD {K : PySem.W.Frag} : PnOk K (rAny K) (c1 anyD) := p_c1 fun S H v d w Q hS hx hf q => by
  cases d with
  | lst es =>
    obtain ⟨bs, h1, h2⟩ := obind hf
    cases h2
    obtain ⟨a, us, rfl, h3, h4⟩ := hx.lst
    rw [toBls_ok h1] at h4
    have := h4.of_bls
    subst this
    exact ⟨a, bs, rfl, .inl (.inl h3), q _ H (made_bl _)⟩
  | _ => cases hf
/-- isinstance(x, T) -/
inductive Kd where
  | int | bool | str | tuple | list
def Kd.nm : Kd → String
  | .int => "int"
  | .bool => "bool"
  | .str => "str"
  | .tuple => "tuple"
  | .list => "list"
inductive Tag where
  | non | bool | int | str | tuple | list
def Tag.nm : Tag → String
  | .non => "NoneType"
  | .bool => "bool"
  | .int => "int"
  | .str => "str"
  | .tuple => "tuple"
  | .list => "list"
def tagOf : PI.D → Option Tag
  | .non => some .non
  | .bl _ => some .bool
  | .int _ => some .int
  | .str _ => some .str
  | .tup _ => some .tuple
  | .lst _ => some .list
  | .frz _ => some .list
  | .dct _ _ => none
def isKT : Kd → Tag → Bool
  | .int, .int => true
  | .int, .bool => true
  | .bool, .bool => true
  | .str, .str => true
  | .tuple, .tuple => true
  | .list, .list => true
  | _, _ => false
def tyN (d : PI.D) : Option String := (tagOf d).bind fun t => some t.nm
def isiD (k : Kd) (d : PI.D) : Option W := (tagOf d).bind fun t => some (false, .bl (isKT k t))
theorem kit_all (k : Kd) (t : Tag) : kitB t.nm k.nm = some (isKT k t) := by
  cases k <;> cases t <;> decide +kernel
theorem view_ty {K : PySem.W.Frag} {S : Addr → Prop} {H : Hp} {v : V} {d : PI.D} {n : String} (h : View K S H v d) (e : tyN d = some n) : TyX K H v (.type n) := by
  cases d with
  | non =>
    cases e
    rw [h.nonD]
    exact .base .non
  | bl b =>
    cases e
    rw [h.blD]
    exact .base (.bl b)
  | int i =>
    cases e
    rw [h.intD]
    exact .base (.int i)
  | str x =>
    cases e
    rw [h.strD]
    exact .base (.str x)
  | tup ds =>
    cases e
    obtain ⟨a, vs, rfl, h1, h2⟩ := h.tupD
    rcases h1 with ⟨h1 | ⟨o, h1⟩, _⟩ | ⟨o, its, m, h1, h2, _⟩
    · exact .base (.tup h1)
    · exact .fTuple h1
    · exact .kTuple h1 h2
  | lst ds =>
    cases e
    obtain ⟨a, vs, rfl, h1, h2⟩ := h.lst
    exact .base (.lst h1)
  | frz ds =>
    cases e
    obtain ⟨a, vs, rfl, h1, h2⟩ := h.frzD
    rcases h1 with ⟨h1 | ⟨o, h1⟩, _⟩ | ⟨o, its, m, h1, h2, _⟩
    · exact .base (.lst h1)
    · exact .base (.frz h1)
    · exact .kList h1 h2
  | dct _ _ => cases e
theorem eIsi_go {K : PySem.W.Frag} {σ : L2.St} {H : Hp} {k : Kd} {o : Opd} {Q : VK} (h : SEr K (e1 (isiD k) o) σ H Q) : tCons (SOr K o) (tCons (tC (.ty k.nm)) tNil) σ H fun xs H1 => rIsi K xs H1 Q := by
  refine e1_go (r := fun v H1 Q => rIsi K [v, .ty k.nm] H1 Q) (fun S H v d w Q hS hx hf q => ?_) h
  obtain ⟨t, h1, h2⟩ := obind hf
  cases h2
  have h3 : tyN d = some t.nm := by
    unfold tyN
    rw [h1] <;> rfl
  exact ⟨v, .ty k.nm, .type t.nm, .type k.nm, isKT k t, rfl, .ty _, view_ty hx h3, kit_ty (kit_all k t), q _ H (made_bl _)⟩
theorem se_isi {X : Cx} (k : Kd) {e : Expr} {o : Opd} {p p2 pos : Pos} (he : PE X e (SOr X.K o)) (hm : X.mg "isinstance" = none) (hm2 : X.mg (Str.ofString k.nm) = none) (hv : bootBuiltins (Str.ofString k.nm) = some (.type k.nm)) (hg : Gl X "isinstance" := by rfl) (hg2 : Gl X (Str.ofString k.nm) := by rfl)
    (hn : Str.ofString k.nm ≠ "__name__" := by decide) (hd : (Str.ofString k.nm == ("__debug__" : Str)) = false := by decide)
    (hs : starEach [e, .Name (Str.ofString k.nm) p2] X.env = (false, eval e X.env) :: starEach [.Name (Str.ofString k.nm) p2] X.env := by rfl) (hs2 : starEach [.Name (Str.ofString k.nm) p2] X.env = (false, eval (.Name (Str.ofString k.nm) p2) X.env) :: starEach [] X.env := by rfl)
    (hpl : (backTo pos (starEach [.Name (Str.ofString k.nm) p2] X.env)).any (·.1) = false := by rfl) : PE X (.Call (.Name "isinstance" p) [e, .Name (Str.ofString k.nm) p2] [] pos) (SEr X.K (e1 (isiD k) o)) :=
  PEi (pe_callB call_isi hg hm (by decide +kernel) (pa_cons he (pa_cons (pe_bltn (v := V.ty k.nm) hg2 hm2 hv rfl hn hd) pa_nil hs2) hs) (by decide) (by decide) hs hpl) fun _ _ _ q => eIsi_go q
/-! ### a range in the place of a list -/
def rgD (tup : Bool) (a b : PI.D) : Option W := match a, b with
  | .int i, .int j => if -(2 ^ 62) ≤ i ∧ i < 2 ^ 62 ∧ -(2 ^ 62) ≤ j ∧ j < 2 ^ 62 ∧ (j - i).toNat ≤ 1000000 then some (if tup then (false, .tup (rangeD i (j - i).toNat)) else (true, .lst (rangeD i (j - i).toNat))) else none
  | _, _ => none
theorem rg_rep {K : PySem.W.Frag} {S : Addr → Prop} {H : Hp} (i j : Int) : RepAll K S H (rgV i j) (rangeD i (j - i).toNat) := by
  unfold rgV rangeD
  generalize List.range (j - i).toNat = l
  induction l with
  | nil => exact .nil
  | cons n l ih => exact .cons (.int _) ih
theorem rg_ok {i j : Int} (h : -(2 ^ 62) ≤ i ∧ i < 2 ^ 62 ∧ -(2 ^ 62) ≤ j ∧ j < 2 ^ 62 ∧ (j - i).toNat ≤ 1000000) : RgOk i j := ⟨h.1, h.2.1, h.2.2.1, h.2.2.2.1, Nat.le_trans h.2.2.2.2 (by decide)⟩
def rgK (tup : Bool) : R2 := fun x y H Q => ∃ i j, x = .int i ∧ y = .int j ∧ RgOk i j ∧ ∀ q, H q = none → Q (.ref q) (upd H q (if tup then .tup (rgV i j) else .lst (rgV i j)))
theorem p_rgD {K : PySem.W.Frag} {tup : Bool} : P2Ok K (rgK tup) (rgD tup) := fun S H x y d e w Q hS hx hy hf q => by
  cases d with
  | int i =>
    cases e with
    | int j =>
      dsimp only [rgD] at hf
      split at hf
      · rename_i hz
        refine ⟨i, j, hx.intD, hy.intD, rg_ok hz, fun p hp => ?_⟩
        cases tup with
        | true =>
          cases hf
          exact q _ _ (made_tup hp (fun z => hS p z hp) (rg_rep i j))
        | false =>
          cases hf
          exact q _ _ (made_lst hp (rg_rep i j))
      · cases hf
    | _ => cases hf
  | _ => cases hf
theorem p_rg1 {K : PySem.W.Frag} {tup : Bool} : P1Ok K (fun y H Q => ∃ j, y = .int j ∧ RgOk 0 j ∧ ∀ q, H q = none → Q (.ref q) (upd H q (if tup then .tup (rgV 0 j) else .lst (rgV 0 j)))) (rgD tup (.int 0)) := fun S H v d w Q hS hx hf q => by
  cases d with
  | int j =>
    dsimp only [rgD] at hf
    split at hf
    · rename_i hz
      refine ⟨j, hx.intD, rg_ok hz, fun p hp => ?_⟩
      cases tup with
      | true =>
        cases hf
        exact q _ _ (made_tup hp (fun z => hS p z hp) (rg_rep 0 j))
      | false =>
        cases hf
        exact q _ _ (made_lst hp (rg_rep 0 j))
    · cases hf
  | _ => cases hf
section
variable {X : Cx} {a b : Expr} {oa ob : Opd} {p p2 pos : Pos}
theorem rg2 (ha : PE X a (SOr X.K oa)) (hb : PE X b (SOr X.K ob)) (hm : X.mg "range" = none) (hg : Gl X "range" := by rfl) (na : starEach [a, b] X.env = (false, eval a X.env) :: starEach [b] X.env := by rfl) (nb : starEach [b] X.env = (false, eval b X.env) :: starEach [] X.env := by rfl) (hp : (backTo pos (starEach [b] X.env)).any (·.1) = false := by rfl) :
    PRg X (.Call (.Name "range" p) [a, b] [] pos) (tRg2 (SOr X.K oa) (SOr X.K ob)) := prg_2 hg hm ha hb na nb hp
theorem rg1 (ha : PE X a (SOr X.K oa)) (hm : X.mg "range" = none) (hg : Gl X "range" := by rfl) (na : starEach [a] X.env = (false, eval a X.env) :: starEach [] X.env := by rfl) : PRg X (.Call (.Name "range" p) [a] [] pos) (tRg1 (SOr X.K oa)) := prg_1 hg hm ha na
theorem se_listRg2 {e : Expr} (he : PRg X e (tRg2 (SOr X.K oa) (SOr X.K ob))) (hc : X.calm = true) (hm : X.mg "list" = none) (hg : Gl X "list" := by rfl) (na : starEach [e] X.env = (false, eval e X.env) :: starEach [] X.env := by rfl) : PE X (.Call (.Name "list" p) [e] [] pos) (SEr X.K (e2 (rgD false) oa ob)) :=
  PEi (pe_listRg hc hg hm he na) fun σ H Q q => e2_go p_rgD q
theorem se_tupRg2 {e : Expr} (he : PRg X e (tRg2 (SOr X.K oa) (SOr X.K ob))) (hc : X.calm = true) (hm : X.mg "tuple" = none) (hg : Gl X "tuple" := by rfl) (na : starEach [e] X.env = (false, eval e X.env) :: starEach [] X.env := by rfl) : PE X (.Call (.Name "tuple" p) [e] [] pos) (SEr X.K (e2 (rgD true) oa ob)) :=
  PEi (pe_tupRg hc hg hm he na) fun σ H Q q => e2_go p_rgD q
theorem se_listRg1 {e : Expr} (he : PRg X e (tRg1 (SOr X.K oa))) (hc : X.calm = true) (hm : X.mg "list" = none) (hg : Gl X "list" := by rfl) (na : starEach [e] X.env = (false, eval e X.env) :: starEach [] X.env := by rfl) : PE X (.Call (.Name "list" p) [e] [] pos) (SEr X.K (e1 (rgD false (.int 0)) oa)) :=
  PEi (pe_listRg hc hg hm he na) fun σ H Q q => e1_go p_rg1 q
theorem se_tupRg1 {e : Expr} (he : PRg X e (tRg1 (SOr X.K oa))) (hc : X.calm = true) (hm : X.mg "tuple" = none) (hg : Gl X "tuple" := by rfl) (na : starEach [e] X.env = (false, eval e X.env) :: starEach [] X.env := by rfl) : PE X (.Call (.Name "tuple" p) [e] [] pos) (SEr X.K (e1 (rgD true (.int 0)) oa)) :=
  PEi (pe_tupRg hc hg hm he na) fun σ H Q q => e1_go p_rg1 q
end
/-! ### sorted of ints, of a list or a tuple -/
def isort (l : List Int) : List Int := l.mergeSort fun a b => decide (a ≤ b)
theorem isort_perm (l : List Int) : (isort l).Perm l := List.mergeSort_perm l _
theorem isort_sorted (l : List Int) : (isort l).Pairwise (· ≤ ·) := by
  have h := List.pairwise_mergeSort (le := fun a b : Int => decide (a ≤ b)) (fun a b c h1 h2 => by
    have h1 := of_decide_eq_true h1
    have h2 := of_decide_eq_true h2
    exact decide_eq_true (Int.le_trans h1 h2)) (fun a b => by
    rcases Int.le_total a b with h | h
    · rw [decide_eq_true h] <;> rfl
    · rw [decide_eq_true h, Bool.or_true]) l
  exact h.imp fun q => of_decide_eq_true q
theorem sorted_uniq {l m : List Int} (hp : l.Perm m) (h1 : l.Pairwise (· ≤ ·)) (h2 : m.Pairwise (· ≤ ·)) : l = m := hp.eq_of_pairwise (fun _ _ _ _ p q => Int.le_antisymm p q) h1 h2
theorem isort_of {l m : List Int} (hp : m.Perm l) (h : m.Pairwise (· ≤ ·)) : m = isort l := sorted_uniq (hp.trans (isort_perm l).symm) h (isort_sorted l)
def sortedD (d : PI.D) : Option W := (seqD d).bind fun ds => (toInts ds).bind fun is => some (true, .lst ((isort is).map PI.D.int))
section
variable {prog : Program} {w : World} {A : Around} {E : Value → Shared → Prop} {s : Shared}
theorem collect_tup {l : Addr} {vs : List Value} {Q : List Value → Shared → Prop} (hl : IsTup s.heap l vs.toArray) (hsz : vs.length ≤ sizeLine)
    (hq : Q vs { s with heap := (s.heap.push (seqObj "list" #[] 0)).update s.heap.objs.size (Obj.mapSeq (· ++ vs.toArray)) }) : wpAny (model prog w) A (collect (.ref l)) Q E s := by
  obtain ⟨ob, lo, cc, nn, dd⟩ := hl
  unfold collect
  refine wpAny_bind (wpAny_runValue (codeAny_builtin entry_proto_collect' ?_))
  show wpAny _ _ (do again (.builtin "list.__iadd__" ⟨[← newList [], .ref l], []⟩)) _ _ s
  refine wpAny_bind (wpAny_newList (wpAny_pure ⟨Code.quiet_builtin _ (by decide +kernel), codeAny_builtin entry_list_iadd' ?_⟩))
  show wpAny _ _ (Builtin.List.listExtendWith (.ref s.heap.objs.size) (.ref l) (.ref s.heap.objs.size)) _ _ { s with heap := s.heap.push (seqObj "list" #[] 0) }
  unfold Builtin.List.listExtendWith
  have lo2 : (s.heap.push (seqObj "list" #[] 0)).get? l = some ob := Heap.get?_push_of_some _ lo
  refine wpAny_bind (wpAny_typeOf (T := "tuple") ⟨ob, lo2, cc⟩ ?_)
  have tt : (Value.type "tuple" == Value.type "tuple") = true := by rfl
  rw [if_pos (by rw [tt, Bool.or_true])]
  refine wpAny_bind (listItems_at lo2 dd ?_)
  refine wpAny_bind (listItems_at (xs := #[]) (n := 0) (Heap.get?_push_size _ rfl) rfl ?_)
  rw [if_neg (by simp)]
  have fits : (#[] ++ vs.toArray).size ≤ sizeLine + 1 := by
    simp only [Array.size_append, List.size_toArray, List.length_nil]
    omega
  refine wpAny_bind (listUpdate_at (xs := #[]) (n := 0) (Heap.get?_push_size _ rfl) rfl ?_ (Nat.zero_le _) fits)
  refine wpAny_pure ?_
  refine wpAny_bind (wpAny_load (get?_update_seq (Heap.get?_push_size _ rfl) _) ?_)
  have ee : ((#[] : Array Value) ++ vs.toArray).toList = vs := by simp
  show wpAny _ _ (pure ((#[] : Array Value) ++ vs.toArray).toList) Q E _
  rw [ee]
  exact wpAny_pure hq
/-- sorted of a tuple -/
theorem sorted_tup {l : Addr} {vs : List Value} {ltv : Value → Value → Bool} {Q : Value → Shared → Prop} (O : SrtO.Swo ltv) (hl : IsTup s.heap l vs.toArray) (hz : vs.length ≤ sizeLine)
    (hS : 2 ≤ vs.length → ∀ (hp : Heap) (b : Addr), hp.get? b = some (seqObj "list" vs.toArray 0) → (∀ c o, s.heap.get? c = some o → c ≠ b ∧ hp.get? c = some o) → SrtO.SortableO prog w A.in1.in1 { s with heap := hp } b vs ltv)
    (hq : ∀ out : List Value, SrtO.Srtd ltv out → SrtO.Stb ltv out vs → Q (.ref (s.heap.objs.size + 1)) { s with heap := sortedAll s.heap vs out.toArray }) : wpAny (model prog w) A (call (.builtin "sorted") [.ref l]) Q E s := by
  refine Calls.call_function_entry kind_sorted plain_sorted entry_sorted (args_sorted1 _) ?_
  unfold Builtin.«sorted»
  refine wpAny_bind (m := checkCount "sorted" 1 1 _) (wpAny_pure (wpAny_bind (collect_tup hl hz ?_)))
  refine wpAny_bind (wpAny_newList ?_ hz)
  have e1 : ((s.heap.push (seqObj "list" #[] 0)).update s.heap.objs.size (Obj.mapSeq (· ++ vs.toArray))).objs.size = s.heap.objs.size + 1 := (Heap.size_update ..).trans (size_push' ..)
  have e2 : (((s.heap.push (seqObj "list" #[] 0)).update s.heap.objs.size (Obj.mapSeq (· ++ vs.toArray))).push (seqObj "list" vs.toArray 0)).get? (s.heap.objs.size + 1) = some (seqObj "list" vs.toArray 0) := by
    rw [← e1]
    exact Heap.get?_push_size _ rfl
  have e3 : ∀ c o, s.heap.get? c = some o → c ≠ s.heap.objs.size + 1 ∧ (((s.heap.push (seqObj "list" #[] 0)).update s.heap.objs.size (Obj.mapSeq (· ++ vs.toArray))).push (seqObj "list" vs.toArray 0)).get? c = some o := fun c o z => by
    have lt : c < s.heap.objs.size := Heap.lt_size z
    refine ⟨Nat.ne_of_lt (Nat.lt_succ_of_lt lt), Heap.get?_push_of_some _ ?_⟩
    rw [Heap.get?_update_ne _ _ _ _ (Nat.ne_of_lt lt)]
    exact Heap.get?_push_of_some _ z
  show wpAny _ _ _ _ _ { s with heap := ((s.heap.push (seqObj "list" #[] 0)).update s.heap.objs.size (Obj.mapSeq (· ++ vs.toArray))).push (seqObj "list" vs.toArray 0) }
  rw [e1]
  refine wpAny_bind (wpAny_holding (wpAny_call_entry slot_list_sort ⟨_, e2, rfl⟩ entry_list_sort (SrtO.list_sort_ord O e2 hz (fun h2 => hS h2 _ _ e2 e3) fun out h1 h2 => ⟨_, rfl, wpAny_pure ⟨_, rfl, hq out h1 h2⟩⟩) (args_list_sort _)))
end
end PI

namespace PI
open PySem PySem.Spec PyProof.Rows L2
def rSortT (K : PySem.W.Frag) : List V → Hp → VK → Prop := fun vs H Q => ∃ (a : Addr) (ns : List Int), vs = [V.ref a] ∧ SqT K H a (ns.map V.int) ∧ ∀ (m : List Int) (p : Addr), m.Perm ns → m.Pairwise (· ≤ ·) → H p = none → Q (.ref p) (upd H p (.lst (m.map V.int)))
theorem cr_sortT2 {X : Cx} : CallR X (.builtin "sorted") (rSortT X.K) := by
  intro pins s σ H vs us Q I r h
  obtain ⟨a, ns, rfl, hs, q⟩ := h
  obtain ⟨its, rv, ht, hz⟩ := I.tuple hs
  have hi := rv.ints
  have lz : its.length ≤ sizeLine := by
    rw [← rv.length]
    exact hz
  rw [Vals.ref1 r]
  refine sorted_tup SrtO.swo_int ht lz (fun h2 _ _ _ _ => SrtO.ints_sortable hi h2) fun out h1 h2 => ?_
  obtain ⟨k1, k2, k3⟩ := SrtO.ints_out hi h1 h2
  obtain ⟨ep, e⟩ := PyProof.Rows.sortedAll_at s.heap its out.toArray
  have lo : ((out.map SrtO.iv).map V.int).length ≤ sizeLine := by
    rw [List.length_map] at hz ⊢
    rw [k2.length_eq]
    exact hz
  exact ⟨V.ref (s.heap.objs.size + 1), upd H (s.heap.objs.size + 1) (.lst ((out.map SrtO.iv).map V.int)), I.laid (t' := s.toks) (fun _ _ => PyProof.Rows.sortedAll_old) (Nat.le_succ _) ⟨lo, out, ep, vals_of_ints k1, e⟩, rfl, q _ _ k2 k3 (I.hok.fresh (Nat.le_succ _))⟩
theorem cr_sortA {X : Cx} : CallR X (.builtin "sorted") (fun vs H Q => rSortedI X.K vs H Q ∨ rSortT X.K vs H Q) := CallR.or cr_sortedI cr_sortT2
theorem p_sortedD {K : PySem.W.Frag} : PnOk K (fun vs H Q => rSortedI K vs H Q ∨ rSortT K vs H Q) (c1 sortedD) := p_c1 fun S H v d w Q hS hx hf q => by
  obtain ⟨es, h1, hf⟩ := obind hf
  obtain ⟨is, h2, hf⟩ := obind hf
  cases hf
  obtain ⟨a, us, rfl, h3, h4⟩ := view_seq hx h1
  rw [toInts_ok h2] at h4
  have := h4.of_ints
  subst this
  have fin : ∀ (m : List Int) (p : Addr), m.Perm is → m.Pairwise (· ≤ ·) → H p = none → Q (.ref p) (upd H p (.lst (m.map V.int))) := fun m p k1 k2 k3 => by
    have e := isort_of k1 k2
    subst e
    exact q _ _ (made_lst k3 (.ints _))
  rcases h3 with h3 | h3
  · exact .inl ⟨a, is, rfl, h3, fin⟩
  · exact .inr ⟨a, is, rfl, h3, fin⟩
/-! ### constants of the module -/
mutual
def kD (K : PySem.W.Frag) : PI.D → Value → Bool
  | .non, .none => true
  | .bl b, .bool c => b == c
  | .int i, .int j _ => decide (i = j)
  | .str x, .str y _ => decide (x = y)
  | .tup ds, .ref a => match K.lookup a with
    | some ⟨.type c, _, .seq its _, _⟩ => decide (c = "tuple") && (decide (its.size ≤ sizeLine) && kDs K ds its.toList)
    | _ => false
  | _, _ => false
def kDs (K : PySem.W.Frag) : List PI.D → List Value → Bool
  | [], [] => true
  | d :: ds, u :: us => kD K d u && kDs K ds us
  | _, _ => false
end
mutual
theorem kD_ok {K : PySem.W.Frag} : ∀ {d : PI.D} {u : Value}, kD K d u = true → ∃ v, RelV v u ∧ ∀ S H, Rep K S H v d
  | .non, u, h => by
    cases u with
    | none => exact ⟨.non, rfl, fun _ _ => .non⟩
    | _ => cases h
  | .bl b, u, h => by
    cases u with
    | bool c =>
      have e : b = c := eq_of_beq h
      subst e
      exact ⟨.bl b, rfl, fun _ _ => .bl b⟩
    | _ => cases h
  | .int i, u, h => by
    cases u with
    | int j t =>
      have e : i = j := of_decide_eq_true h
      subst e
      exact ⟨.int i, ⟨t, rfl⟩, fun _ _ => .int i⟩
    | _ => cases h
  | .str x, u, h => by
    cases u with
    | str y t =>
      have e : x = y := of_decide_eq_true h
      subst e
      exact ⟨.str x, ⟨t, rfl⟩, fun _ _ => .str x⟩
    | _ => cases h
  | .tup ds, u, h => by
    cases u with
    | ref a =>
      have h : (match K.lookup a with
        | some ⟨.type c, _, .seq its _, _⟩ => decide (c = "tuple") && (decide (its.size ≤ sizeLine) && kDs K ds its.toList)
        | _ => false) = true := h
      cases q : K.lookup a with
      | none =>
        rw [q] at h
        cases h
      | some o =>
        obtain ⟨oc, od, dt, sl⟩ := o
        rw [q] at h
        cases oc with
        | type c =>
          cases dt with
          | seq its n =>
            obtain ⟨h1, h2⟩ := Bool.and_eq_true_iff.mp (show (decide (c = "tuple") && (decide (its.size ≤ sizeLine) && kDs K ds its.toList)) = true from h)
            obtain ⟨h3, h4⟩ := Bool.and_eq_true_iff.mp h2
            obtain ⟨vs, r1, r2⟩ := kDs_ok h4
            exact ⟨.ref a, rfl, fun S H => .tup (.inr ⟨_, its, n, q, congrArg Value.type (of_decide_eq_true h1), rfl, of_decide_eq_true h3, r1⟩) (r2 S H)⟩
          | _ => cases h
        | _ => cases dt <;> cases h
    | _ => cases h
  | .lst ds, u, h => by cases u <;> cases h
  | .frz ds, u, h => by cases u <;> cases h
  | .dct _ _, u, h => by cases u <;> cases h
theorem kDs_ok {K : PySem.W.Frag} : ∀ {ds : List PI.D} {us : List Value}, kDs K ds us = true → ∃ vs, Vals vs us ∧ ∀ S H, RepAll K S H vs ds
  | [], [], _ => ⟨[], .nil, fun _ _ => .nil⟩
  | [], _ :: _, h => by cases h
  | _ :: _, [], h => by cases h
  | d :: ds, u :: us, h => by
    obtain ⟨h1, h2⟩ := Bool.and_eq_true_iff.mp (show (kD K d u && kDs K ds us) = true from h)
    obtain ⟨v, r1, r2⟩ := kD_ok h1
    obtain ⟨vs, s1, s2⟩ := kDs_ok h2
    exact ⟨v :: vs, .cons r1 s1, fun S H => .cons (r2 S H) (s2 S H)⟩
end
/-- the module's name x stands for d -/
def conD (K : PySem.W.Frag) (x : Str) (d : PI.D) : Bool := match PySem.W.nsIn K mainGlobals x with
  | some (some u) => kD K d u
  | _ => false
theorem conD_ok {K : PySem.W.Frag} {h : Heap} {mg : Str → Option Value} {x : Str} {d : PI.D} (X : K.In h) (G : h.Ns mainGlobals mg) (c : conD K x d = true) : ∃ (v : V) (u : Value), mg x = some u ∧ RelV v u ∧ ∀ S H, Rep K S H v d := by
  unfold conD at c
  split at c
  · rename_i u e
    obtain ⟨v, r1, r2⟩ := kD_ok c
    exact ⟨v, u, PySem.W.mg_of X G e, r1, r2⟩
  · cases c
/-- a dict of the module with text keys: its entries -/
structure KTab (K : PySem.W.Frag) (w : World) (mg : Str → Option Value) (x : Str) (kvs : List (Str × PI.D)) : Prop where
  ex : ∃ (a : Addr) (es : Array DictEntry) (n : Nat), mg x = some (.ref a) ∧ KDict K w a es n ∧ ∀ q ∈ kvs, ∃ u, PySem.W.nsIn K a q.1 = some (some u) ∧ kD K q.2 u = true
def lookT (kvs : List (Str × PI.D)) (z : Str) : Option PI.D := (kvs.find? fun q => decide (q.1 = z)).bind fun q => some q.2
theorem lookT_ok {kvs : List (Str × PI.D)} {z : Str} {d : PI.D} (h : lookT kvs z = some d) : (z, d) ∈ kvs := by
  obtain ⟨q, h1, h2⟩ := obind h
  cases h2
  have h3 := List.find?_some h1
  have h4 := List.mem_of_find?_eq_some h1
  have h5 : q.1 = z := of_decide_eq_true h3
  rw [← h5]
  exact h4
def kinD (kvs : List (Str × PI.D)) : PI.D → Option W
  | .str z => (lookT kvs z).bind fun _ => some (false, .bl true)
  | _ => none
def kgetD (kvs : List (Str × PI.D)) : PI.D → Option W
  | .str z => (lookT kvs z).bind fun d => some (false, d)
  | _ => none
section
variable {X : Cx} {x : Str} {kvs : List (Str × PI.D)} {e : Expr} {o : Opd} {p pos : Pos}
theorem se_kin (T : KTab X.K X.w X.mg x kvs) (he : PE X e (SOr X.K o)) (hg : Gl X x := by rfl) (hd : (x == ("__debug__" : Str)) = false := by decide) (hm : behindInMarks .In (.Name x p) = false := by rfl) : PE X (.Compare e [.In] [.Name x p] pos) (SEr X.K (e1 (kinD kvs) o)) := by
  obtain ⟨a, es, n, h1, D, h3⟩ := T.ex
  refine PEi (pe_cmpR (op_in_kd D) he (pe_glob (v := V.ref a) hg h1 rfl hd) hm) fun σ H Q q => ?_
  refine e1_go (r := fun y H1 Q => ∃ (z : Str) (r : Option Value), y = .str z ∧ V.ref a = .ref a ∧ PySem.W.nsIn X.K a z = some r ∧ Q (.bl r.isSome) H1) (fun S H v d w Q hS hx hf q => ?_) q
  cases d with
  | str z =>
    obtain ⟨d', g1, g2⟩ := obind hf
    cases g2
    obtain ⟨u, g3, _⟩ := h3 _ (lookT_ok g1)
    exact ⟨z, some u, hx.strD, rfl, g3, q _ H (made_bl _)⟩
  | _ => cases hf
end
/-! ### a def keeps its promise -/
structure DefAt (K : PySem.W.Frag) (mg : Str → Option Value) (x y : Str) (st : Stmt) (a : Addr) (fd : FuncData) : Prop where
  fn : FunD K y y (defArgs st) (defBody st) (defScope st) [] [] a fd
  gl : mg x = some (.ref a)
/-- as a caller finds it -/
structure Ok (P : Program) (w : World) (K : PySem.W.Frag) (mg : Str → Option Value) (base : Heap) (k : Nat) (x y : Str) (st : Stmt) (ps : List Str) (modes : List Bool) (f : Cal) : Prop where
  ex : ∃ (a : Addr) (fd : FuncData), FnOk P w K mg base CX0 k a fd ps (spOf K modes f) ∧ DefAt K mg x y st a fd
theorem ok_of {P : Program} {w : World} {K : PySem.W.Frag} {mg : Str → Option Value} {base : Heap} {k : Nat} {x y : Str} {st : Stmt} {N ps : List Str} {modes : List Bool} {f : Cal} {body : SF} {a : Addr} {fd : FuncData}
    (F : DefAt K mg x y st a fd) (S : FnScope N ps (defScope st)) (lm : modes.length = ps.length) (ln : ps.length ≤ N.length)
    (hb : ∀ (cdv : Value) (A : Around) (outer : List PySem.Env) (s : Shared) (H : Hp) (E : XK), Room k (A.deeper (envOfC y (defScope st) s.heap.objs.size a cdv)) → PSs (cxOf CX0 P w K mg base N y (defScope st) a cdv A outer s H E).nox (defBody st) (SSr K (tp 0 modes) body))
    (hf : ∀ ds w outs, f ds = some (w, outs) → runB modes N.length body ds = some (w, outs)) : Ok P w K mg base (k + 1) x y st ps modes f := by
  refine ⟨a, fd, F.fn.ok S (fun vs H Q E h => ?_) (fun cdv A outer s H vs Q E hr h => ⟨_, PSs.nox (hb cdv A outer s H E hr), run_ok (by omega) hf h⟩), F⟩
  obtain ⟨S', ds, w', outs, _, _, hA, _⟩ := h
  rw [hA.len1.1, lm]
section
variable {X : Cx} {k j : Nat} {x y : Str} {st : Stmt} {p pos : Pos} {e : Expr} {es : List Expr} {ps : List Str} {modes : List Bool} {f : Cal} {as bs : List Opd}
theorem se_fn (G : Ok X.prog X.w X.K X.mg X.base j x y st ps modes f) (hr : Room k X.A) (ha : PA X (e :: es) (SAr X.K as))
    (hb : ∀ (kV doc pm : Value) (an : Option Addr) (cdv ct : Value) (us : List Value), us.length = ps.length → bindArgs (PySem.W.fnOf y y (defArgs st) (defBody st) (defScope st) .none kV doc pm an cdv ct) ⟨us, []⟩ = pure (ps.zip us))
    (hjk : j ≤ k := by decide) (hg : Gl X x := by rfl) (hdb : (x == ("__debug__" : Str)) = false := by decide) (he : starEach (e :: es) X.env = (false, eval e X.env) :: starEach es X.env := by rfl) (hpl : (backTo pos (starEach es X.env)).any (·.1) = false := by rfl) :
    PE X (.Call (.Name x p) (e :: es) [] pos) (SEr X.K (eCall modes f as)) := by
  obtain ⟨a, fd, F, D⟩ := G.ex
  exact PEi (pe_call F (hr.mono hjk) hg D.gl D.fn.kp (D.fn.bindsN hb) .nil pass0 ha hdb he hpl) fun _ _ _ q => eCall_go q
theorem se_fn0 (G : Ok X.prog X.w X.K X.mg X.base j x y st ps modes f) (hr : Room k X.A)
    (hb : ∀ (kV doc pm : Value) (an : Option Addr) (cdv ct : Value) (us : List Value), us.length = ps.length → bindArgs (PySem.W.fnOf y y (defArgs st) (defBody st) (defScope st) .none kV doc pm an cdv ct) ⟨us, []⟩ = pure (ps.zip us))
    (hjk : j ≤ k := by decide) (hg : Gl X x := by rfl) (hdb : (x == ("__debug__" : Str)) = false := by decide) :
    PE X (.Call (.Name x p) [] [] pos) (SEr X.K (eCall modes f [])) := by
  obtain ⟨a, fd, F, D⟩ := G.ex
  exact PEi (pe_call0 F (hr.mono hjk) hg D.gl D.fn.kp (D.fn.bindsN hb) .nil pass0 hdb) fun _ _ _ q => eCall_go q
theorem pick_vals (is : List Nat) {vs : List V} {us : List Value} (r : Vals vs us) : Vals (pick is vs) (pick is us) := by
  unfold pick
  induction is with
  | nil => exact .nil
  | cons i is ih =>
    rw [List.filterMap_cons, List.filterMap_cons]
    cases e : vs[i]? with
    | none =>
      rw [r.none_of e]
      exact ih
    | some v =>
      obtain ⟨u, h1, h2⟩ := r.get e
      rw [h1]
      exact .cons h2 ih
def SKr (K : PySem.W.Frag) (bs : List Opd) : TA := SAr K bs
theorem sk_nil : PK X [] (SAr X.K []) := pk_nil
theorem sk_cons {kws : List Keyword} {nm : Option Str} {kpos : Pos} {o : Opd} (ha : PE X e (SOr X.K o)) (hr : PK X kws (SAr X.K bs)) : PK X (⟨nm, e, kpos⟩ :: kws) (SAr X.K (o :: bs)) := pk_cons ha hr
/-- f(k = v, ..), no positional ones -/
theorem se_fnK {kws : List Keyword} {ks : List Str} {is : List Nat} (G : Ok X.prog X.w X.K X.mg X.base j x y st ps modes f) (hr : Room k X.A) (hkw : PK X kws (SAr X.K bs))
    (hb : ∀ (kV doc pm : Value) (an : Option Addr) (cdv ct : Value) (ws : List Value), (pick is ws).length = ps.length → bindArgs (PySem.W.fnOf y y (defArgs st) (defBody st) (defScope st) .none kV doc pm an cdv ct) ⟨[], ks.zip ws⟩ = pure (ps.zip (pick is ws)))
    (hjk : j ≤ k := by decide) (hall : (backToKw pos (keywordEach kws X.env)).all (·.1.isSome) = true := by rfl) (hks : (backToKw pos (keywordEach kws X.env)).filterMap (·.1) = ks := by rfl) (hg : Gl X x := by rfl)
    (hdb : (x == ("__debug__" : Str)) = false := by decide) (hpl : ((backTo pos (starEach [] X.env)).any (·.1) || (backToKw pos (keywordEach kws X.env)).any (·.1.isNone)) = false := by rfl) :
    PE X (.Call (.Name x p) [] kws pos) (SEr X.K (eCallK modes f bs is)) := by
  obtain ⟨a, fd, F, D⟩ := G.ex
  refine ⟨fun pins s σ H Q I h => ?_⟩
  have h : SAr X.K bs σ H fun zs H2 => spOf X.K modes f (pick is ([] ++ zs)) H2 Q E0 := eCallK_go (as := []) h
  refine wpAny_Call_Name_kw (ld_glob I hg D.gl ?_ hdb)
  refine PySem.W.callWith_KW0 (h₀ := X.base) I.ok.mod.kin D.fn.kp hall ?_ hpl
  refine thn (hkw.run pos pins s σ H _ I h) fun ws s2 ⟨zs, H2, I2, rz, q2⟩ => ⟨I2.kIn, ?_⟩
  rw [hks]
  have bt : BindsTo s2 fd ⟨[], ks.zip ws⟩ (ps.zip (pick is ws)) := by
    obtain ⟨oc, od, dV, kV, doc, pm, an, cdv, ct, osl, rfl, lk, hcd, hD, hK⟩ := D.fn.ex
    rcases hD with ⟨_, rfl⟩ | ⟨e, _⟩
    · refine .of_eq (hb kV doc pm an cdv ct ws ?_)
      rw [← (pick_vals is rz).length]
      exact F.len _ _ _ _ q2
    · exact absurd rfl e
  refine wpAny_call (codeAny_mono (F.run X.A X.stack s2 H2 ⟨[], ks.zip ws⟩ (pick is ws) (pick is zs) Q E0 (hr.mono hjk) I2.env0 bt (pick_vals is rz) q2) fun r s' hq => ?_)
  cases r with
  | error e => exact hq.elim
  | ok fl =>
    cases fl with
    | ret u => exact I2.after hq
    | next => exact hq.elim
    | brk => exact hq.elim
    | cont => exact hq.elim
end
end PI

namespace PI
open PySem PySem.Spec PyProof.Rows L2
/-! ### walks over lists or tuples -/
def iAny (K : PySem.W.Frag) (t : TE) : TI := fun σ H R => iList K t σ H R ∨ iTup K t σ H R
theorem pi_any {X : Cx} {tg e : Expr} {t : TE} (h : PE X e t) : L2.PI X tg e (iAny X.K t) := ⟨fun pins s σ H R I q => q.elim (fun q => (pi_list h).run pins s σ H R I q) fun q => (pi_tup h).run pins s σ H R I q⟩
def srcA (f : EF) : SrcF := fun env => (f env).bind fun r => match r.1.2 with
  | .lst ds => some (ds, r.2)
  | .frz ds => some (ds, r.2)
  | .tup ds => some (ds, r.2)
  | _ => none
theorem srcA_ok {K : PySem.W.Frag} {f : EF} : SrcOk K (iAny K (SEr K f)) (srcA f) := fun Z env σ H R ds env1 R0 e q => by
  obtain ⟨⟨⟨fr, d⟩, env2⟩, g1, e⟩ := obind e
  cases d with
  | lst es =>
    cases e
    exact .inl (srcL_ok Z env σ H R _ _ R0 (by show (f env).bind _ = _; rw [g1]; rfl) q)
  | frz es =>
    cases e
    exact .inl (srcL_ok Z env σ H R _ _ R0 (by show (f env).bind _ = _; rw [g1]; rfl) q)
  | tup es =>
    cases e
    exact .inr (srcT_ok Z env σ H R _ _ R0 (by show (f env).bind _ = _; rw [g1]; rfl) q)
  | _ => cases e
/-- what a name holds, hidden meanwhile when it owns it -/
def srcN (i : Nat) : SrcC := fun env => match env[i]? with
  | some (some (true, .lst ds)) => some (ds, env.set i none, some (i, ds))
  | some (some (false, .lst ds)) => some (ds, env, none)
  | some (some (false, .frz ds)) => some (ds, env, none)
  | some (some (false, .tup ds)) => some (ds, env, none)
  | _ => none
theorem srcN_ok {K : PySem.W.Frag} {i : Nat} : SrcCOk K (iAny K (tVar i)) (srcN i) := fun Z env σ H R ds env1 hid R0 e q => by
  unfold srcN at e
  have un : ∀ (es : List PI.D) (d : PI.D), env[i]? = some (some (false, d)) → eVar i env = some ((false, d), env) := fun es d g => by
    unfold eVar
    rw [g]
  split at e
  · rename_i es g
    exact .inl (srcH_ok Z env σ H R ds env1 hid R0 (by unfold srcH; rw [g]; exact e) q)
  · rename_i es g
    exact .inl (srcH_ok Z env σ H R ds env1 hid R0 (by unfold srcH; rw [g]; exact e) q)
  · rename_i es g
    cases e
    have h := srcC_ok (srcL_ok (K := K) (f := eVar i)) Z env σ H R _ _ none R0 (by unfold srcC srcL; rw [un [] _ g]; rfl) q
    exact .inl (eVar_go h)
  · rename_i es g
    cases e
    have h := srcC_ok (srcT_ok (K := K) (f := eVar i)) Z env σ H R _ _ none R0 (by unfold srcC srcT; rw [un [] _ g]; rfl) q
    exact .inr (eVar_go h)
  · cases e
end PI

namespace PI
open PySem PySem.Spec PyProof.Rows L2
section
variable {X : Cx} {pos : Pos} {a b c : Expr}
theorem st_chain {op op' : CmpOp} {r r' : R2} {f g : PI.D → PI.D → Option W} {oa ob oc : Opd} (ho : L2.OpR X (compareOp op) r) (p : P2Ok X.K r f) (ho' : L2.OpR X (compareOp op') r') (p' : P2Ok X.K r' g) (ha : PE X a (SOr X.K oa)) (hb : PE X b (SOr X.K ob)) (hc : PE X c (SOr X.K oc)) (hm : lastMarks [op, op'] [b, c] = false := by rfl) :
    PT X (.Compare a [op, op'] [b, c] pos) (STr X.K (eCh f g oa ob oc)) := by
  refine PTi (pt_chain ho ho' ha hb hc (hm := hm)) fun σ H Q q => ?_
  exact eCh_go (K := X.K) (Q := fun x H1 => ∃ c, x = .bl c ∧ Q c H1) p p' (st_val q)
theorem st_kin {x : Str} {kvs : List (Str × PI.D)} {e : Expr} {o : Opd} {p : Pos} (T : KTab X.K X.w X.mg x kvs) (he : PE X e (SOr X.K o)) (hg : Gl X x := by rfl) (hd : (x == ("__debug__" : Str)) = false := by decide) (hm : behindInMarks .In (.Name x p) = false := by rfl) : PT X (.Compare e [.In] [.Name x p] pos) (STr X.K (e1 (kinD kvs) o)) := by
  obtain ⟨a, es, n, h1, D, h3⟩ := T.ex
  refine PTi (pt_cmpR (op_in_kd D) he (pe_glob (v := V.ref a) hg h1 rfl hd) hm) fun σ H Q q => ?_
  refine e1_go (Q := fun x H1 => ∃ c, x = .bl c ∧ Q c H1) (r := fun y H1 Q => ∃ (z : Str) (r : Option Value), y = .str z ∧ V.ref a = .ref a ∧ PySem.W.nsIn X.K a z = some r ∧ Q (.bl r.isSome) H1) (fun S H v d w Q hS hx hf q => ?_) (st_val q)
  cases d with
  | str z =>
    obtain ⟨d', g1, g2⟩ := obind hf
    cases g2
    obtain ⟨u, g3, _⟩ := h3 _ (lookT_ok g1)
    exact ⟨z, some u, hx.strD, rfl, g3, q _ H (made_bl _)⟩
  | _ => cases hf
/-- d[key], d a dict of the module -/
theorem se_kget {x : Str} {kvs : List (Str × PI.D)} {e : Expr} {o : Opd} {p : Pos} (T : KTab X.K X.w X.mg x kvs) (he : PE X e (SOr X.K o)) (hs : PlainIx e := by exact fun _ _ => rfl) (hg : Gl X x := by rfl) (hd : (x == ("__debug__" : Str)) = false := by decide) : PE X (.Subscript (.Name x p) e pos) (SEr X.K (e1 (kgetD kvs) o)) := by
  obtain ⟨a, es, n, h1, D, h3⟩ := T.ex
  refine PEi (pe_ix ix_kdict (pe_glob (v := V.ref a) hg h1 rfl hd) he hs) fun σ H Q q => ?_
  refine e1_go (r := fun y H1 Q => rIxD X.K X.w (V.ref a) y H1 Q) (fun S H v d w Q hS hx hf q => ?_) q
  cases d with
  | str z =>
    obtain ⟨d', g1, g2⟩ := obind hf
    cases g2
    obtain ⟨u, g3, g4⟩ := h3 _ (lookT_ok g1)
    obtain ⟨v', r1, r2⟩ := kD_ok g4
    exact ⟨a, z, v', rfl, hx.strD, ⟨es, n, u, D.at_, D.lit, g3, r1⟩, q _ H (made_old (r2 S H))⟩
  | _ => cases hf
variable {tg : Expr} {p : Pos} {f g : EF}
theorem pi_rg1 (ha : PE X a (SEr X.K f)) (hm : X.mg "range" = none) (hg : Gl X "range" := by rfl) (hs : starEach [a] X.env = [(false, eval a X.env)] := by rfl) (hs1 : starEach [a] X.env = (false, eval a X.env) :: starEach [] X.env := by rfl) : L2.PI X tg (.Call (.Name "range" p) [a] [] pos) (iRng1 (SVr X.K [f])) := pi_range1 hg hm (sv_cons ha sv_nil hs1) hs
theorem pi_rg2 (ha : PE X a (SEr X.K f)) (hb : PE X b (SEr X.K g)) (hm : X.mg "range" = none) (hg : Gl X "range" := by rfl) (hs : starEach [a, b] X.env = [(false, eval a X.env), (false, eval b X.env)] := by rfl) (hs2 : starEach [b] X.env = [(false, eval b X.env)] := by rfl)
    (hs3 : starEach [a, b] X.env = (false, eval a X.env) :: starEach [b] X.env := by rfl) (hs4 : starEach [b] X.env = (false, eval b X.env) :: starEach [] X.env := by rfl) : L2.PI X tg (.Call (.Name "range" p) [a, b] [] pos) (iRng2 (SVr X.K [f, g])) := pi_range2 hg hm (sv_cons ha (sv_cons hb sv_nil hs4) hs3) hs hs2
end
/-! ### the end of a law -/
theorem DefAt.same {K : PySem.W.Frag} {mg : Str → Option Value} {x y : Str} {st : Stmt} {a : Addr} {fd fd' : FuncData} (h : DefAt K mg x y st a fd) (h' : DefAt K mg x y st a fd') : fd = fd' := by
  obtain ⟨_, _, _, _, _, _, _, _, _, _, _, lk, _, _, _⟩ := h.fn.ex
  obtain ⟨_, _, _, _, _, _, _, _, _, _, _, lk', _, _, _⟩ := h'.fn.ex
  rw [lk] at lk'
  have e := congrArg Obj.data (Option.some.inj lk')
  exact Data.func.inj e
theorem walk_pi {l : PySem.W.OpenLaw} {n k : Nat} {q : Program} {loose : List Str} {XP : (Str → Option Value) → Heap → Prop} {YP : World → Heap → Prop} {d : DefRec} {x : Str} {st : Stmt} {y : Str} {f : Cal}
    (hn : l.most = some n) (hn2 : n ≤ sizeLine) (hdf : d.params.defaults = []) (hr : Room k callerA) (hx : d.name = x)
    (hbind : ∀ (kV doc pm : Value) (an : Option Addr) (cdv ct : Value) (us : List Value), us.length = [y].length → bindArgs (PySem.W.fnOf x x (defArgs st) (defBody st) (defScope st) .none kV doc pm an cdv ct) ⟨us, []⟩ = pure ([y].zip us))
    (F : ∀ (w : World) (mg : Str → Option Value) (h : Heap), YP w h → h.Ns mainGlobals mg →
      ∃ (K : PySem.W.Frag), K.In h ∧ (∃ (fa : Addr) (fd : FuncData), DefAt K mg x x st fa fd) ∧ ∀ base : Heap, K.In base → base.Ns mainGlobals mg → Ok l.prog w K mg base k x x st [y] [false] f)
    (hlaw : ∀ ns : List Int, ns.length ≤ n → (∀ z ∈ ns, Builtin.Int.intBits z ≤ 1048576) → f [.frz (ns.map PI.D.int)] = some ((false, .bl true), [])) :
    PySem.W.WalkO q loose XP YP l.row.toRowW d [] (fun f vs => PySem.call f vs) := by
  refine Att.attach_callB hn hdf fun w s₀ s₁ mg mb fa o pm cd doc a vs ns G Y ho hd hcd hmg hobj hints hlen hbits hg => ?_
  obtain ⟨K, KX, ⟨a0, fd, D0⟩, hF⟩ := F w mg _ Y G.T.g
  rw [hx] at hmg
  have ea := D0.gl.symm.trans hmg
  cases ea
  have key : ∀ base : Heap, K.In base → base.Ns mainGlobals mg → FnOk l.prog w K mg base CX0 k fa fd [y] (spOf K [false] f) := fun base h1 h2 => by
    obtain ⟨a1, fd1, h3, D1⟩ := (hF base h1 h2).ex
    have ea := D0.gl.symm.trans D1.gl
    cases ea
    rw [D0.same D1]
    exact h3
  refine law_call (CX := CX0) KX G.T.g G.T.b G.T.builtins G.T.nolimit hg hobj hints (Nat.le_trans hlen hn2) hr key (fun s u => ?_) (fun H hO hS => ?_) fun H e s' z => z
  · exact D0.fn.bindsA hbind s [u] rfl
  · refine ⟨fun _ => False, [.frz (ns.map PI.D.int)], (false, .bl true), [], fun _ z => z.elim, (fun b z => (nomatch (show V.ref b ∈ ([] : List V) from z))), .cons (m := false) ?_ .nil, .nil, hlaw ns hlen hbits, fun v H' c => rep_bl (c.old rfl)⟩
    refine .frz (vs := ns.map V.int) ?_ (.ints ns)
    rcases hS with hS | hS
    · exact .inl ⟨hS, id⟩
    · exact .inr hS
end PI
namespace PI
open PySem PySem.Spec PyProof.Rows L2
/-- the dict that stands at x holds kvs -/
def tabB (K : PySem.W.Frag) (x : Str) (kvs : List (Str × PI.D)) : Bool := kvs.all fun q => match PySem.W.nsIn K (He.ga K x) q.1 with
  | some (some u) => kD K q.2 u
  | _ => false
theorem tab_ok {K : PySem.W.Frag} {w : World} {mg : Str → Option Value} {x : Str} {kvs : List (Str × PI.D)} (hm : mg x = some (.ref (He.ga K x))) (hD : ∃ es n, KDict K w (He.ga K x) es n) (h : tabB K x kvs = true) : KTab K w mg x kvs := by
  obtain ⟨es, n, D⟩ := hD
  refine ⟨_, es, n, hm, D, fun q hq => ?_⟩
  have h1 := List.all_eq_true.mp h q hq
  split at h1
  · rename_i u e
    exact ⟨u, e, h1⟩
  · cases h1
end PI

namespace PI
open PySem PySem.Spec PyProof.Rows L2
def zL (l : List Int) : List PI.D := l.map PI.D.int
/-- values as data: equal values, equal data -/
structure EncOk {α : Type} [DecidableEq α] (e : α → PI.D) (n : Nat) : Prop where
  eqv : ∀ a b, PyData.eqv (toPy (e a)) (toPy (e b)) = decide (a = b)
  lay : ∀ a, PyData.canLay0 (toPy (e a)) = true
  dep : ∀ a, PyData.depth (toPy (e a)) ≤ n
theorem enc_int : EncOk PI.D.int 0 := ⟨fun a b => by
  show PyData.eqv (.int a) (.int b) = _
  rw [PyData.eqv]
  by_cases h : a = b
  · subst h; simp
  · simp [h], fun a => by simp [toPy, PyData.canLay0], fun a => by simp [toPy, PyData.depth]⟩
theorem enc_bl : EncOk PI.D.bl 0 := ⟨fun a b => by
  show PyData.eqv (.bool a) (.bool b) = _
  rw [PyData.eqv]
  cases a <;> cases b <;> rfl, fun a => by simp [toPy, PyData.canLay0], fun a => by simp [toPy, PyData.depth]⟩
section
variable {α : Type} [DecidableEq α] {e : α → PI.D} {n : Nat}
theorem toPys_map (l : List α) : toPys (l.map e) = l.map fun a => toPy (e a) := by
  induction l with
  | nil => rfl
  | cons a l ih =>
    show toPy (e a) :: toPys (l.map e) = _
    rw [ih]
    rfl
theorem enc_all (h : EncOk e n) : (∀ l m : List α, PyData.eqvAll (toPys (l.map e)) (toPys (m.map e)) = decide (l = m)) ∧ (∀ l : List α, PyData.canLayAll0 (toPys (l.map e)) = true) ∧ ∀ l : List α, PyData.depthAll (toPys (l.map e)) ≤ n := by
  refine ⟨fun l => ?_, fun l => ?_, fun l => ?_⟩
  · induction l with
    | nil =>
      intro m
      cases m with
      | nil => rfl
      | cons b m => rfl
    | cons a l ih =>
      intro m
      cases m with
      | nil => rfl
      | cons b m =>
        show PyData.eqvAll (toPy (e a) :: toPys (l.map e)) (toPy (e b) :: toPys (m.map e)) = _
        rw [PyData.eqvAll, h.eqv, ih]
        by_cases h1 : a = b <;> by_cases h2 : l = m <;> simp [h1, h2]
  · induction l with
    | nil => rfl
    | cons a l ih =>
      show PyData.canLayAll0 (toPy (e a) :: toPys (l.map e)) = true
      rw [PyData.canLayAll0, h.lay, ih]
      rfl
  · induction l with
    | nil => exact Nat.zero_le _
    | cons a l ih =>
      show PyData.depthAll (toPy (e a) :: toPys (l.map e)) ≤ n
      rw [PyData.depthAll]
      exact Nat.max_le.mpr ⟨h.dep a, ih⟩
theorem enc_tup (h : EncOk e n) : EncOk (fun l : List α => PI.D.tup (l.map e)) (n + 1) := ⟨fun a b => by
  show PyData.eqv (.tuple (toPys (a.map e))) (.tuple (toPys (b.map e))) = _
  rw [PyData.eqv]
  exact (enc_all h).1 a b, fun a => by
  show PyData.canLay0 (.tuple (toPys (a.map e))) = true
  rw [PyData.canLay0]
  exact (enc_all h).2.1 a, fun a => by
  show PyData.depth (.tuple (toPys (a.map e))) ≤ n + 1
  rw [PyData.depth]
  exact Nat.succ_le_succ ((enc_all h).2.2 a)⟩
theorem enc_lst (h : EncOk e n) : EncOk (fun l : List α => PI.D.lst (l.map e)) (n + 1) := ⟨fun a b => by
  show PyData.eqv (.list (toPys (a.map e))) (.list (toPys (b.map e))) = _
  rw [PyData.eqv]
  exact (enc_all h).1 a b, fun a => by
  show PyData.canLay0 (.list (toPys (a.map e))) = true
  rw [PyData.canLay0]
  exact (enc_all h).2.1 a, fun a => by
  show PyData.depth (.list (toPys (a.map e))) ≤ n + 1
  rw [PyData.depth]
  exact Nat.succ_le_succ ((enc_all h).2.2 a)⟩
theorem shaped_of {d : PI.D} (h1 : PyData.canLay0 (toPy d) = true) (h2 : PyData.depth (toPy d) ≤ 64) : SeqAt.shaped (toPy d) = true := by
  unfold SeqAt.shaped
  rw [h1, decide_eq_true h2]
  rfl
theorem eqB_enc (h : EncOk e n) (hn : n ≤ 64) {a b : α} (hs : scD (e a) (e b) = none) : eqB (e a) (e b) = some (decide (a = b)) := by
  unfold eqB
  rw [hs]
  dsimp only
  rw [shaped_of (h.lay a) (Nat.le_trans (h.dep a) hn), shaped_of (h.lay b) (Nat.le_trans (h.dep b) hn), h.eqv]
  rfl
theorem eqB_tup (h : EncOk e n) (hn : n ≤ 63) (l m : List α) : eqB (.tup (l.map e)) (.tup (m.map e)) = some (decide (l = m)) := eqB_enc (enc_tup h) (by omega) rfl
theorem eqB_lst (h : EncOk e n) (hn : n ≤ 63) (l m : List α) : eqB (.lst (l.map e)) (.lst (m.map e)) = some (decide (l = m)) := eqB_enc (enc_lst h) (by omega) rfl
theorem eqB_tup0 (h : EncOk e n) (hn : n ≤ 63) (l : List α) : eqB (.tup (l.map e)) (.tup []) = some (decide (l = [])) := eqB_tup h hn l []
theorem eqB_lst0 (h : EncOk e n) (hn : n ≤ 63) (l : List α) : eqB (.lst (l.map e)) (.lst []) = some (decide (l = [])) := eqB_lst h hn l []
end
theorem enc_zt : EncOk (fun l : List Int => PI.D.tup (zL l)) 1 := enc_tup enc_int
theorem enc_zl : EncOk (fun l : List Int => PI.D.lst (zL l)) 1 := enc_lst enc_int
theorem eqT (l m : List Int) : eqB (.tup (zL l)) (.tup (zL m)) = some (decide (l = m)) := eqB_tup enc_int (by decide) l m
theorem eqL (l m : List Int) : eqB (.lst (zL l)) (.lst (zL m)) = some (decide (l = m)) := eqB_lst enc_int (by decide) l m
theorem eqT0 (l : List Int) : eqB (.tup (zL l)) (.tup []) = some (decide (l = [])) := eqB_tup enc_int (by decide) l []
theorem eqL0 (l : List Int) : eqB (.lst (zL l)) (.lst []) = some (decide (l = [])) := eqB_lst enc_int (by decide) l []
/-! ### places -/
theorem at_nat {α : Type} (l : List α) (i : Nat) : atI l (i : Int) = l[i]? := by
  unfold atI ixN
  rw [if_pos (by omega)]
  by_cases h : i < l.length
  · rw [if_pos (by omega)]
    simp
  · rw [if_neg (by omega), List.getElem?_eq_none (by omega)]
    rfl
theorem at_0 {α : Type} (l : List α) : atI l 0 = l[0]? := at_nat l 0
theorem at_1 {α : Type} (l : List α) : atI l 1 = l[1]? := at_nat l 1
theorem at_2 {α : Type} (l : List α) : atI l 2 = l[2]? := at_nat l 2
theorem at_last {α : Type} (l : List α) : atI l (-1) = l.getLast? := by
  unfold atI ixN
  rw [if_neg (by decide), List.getLast?_eq_getElem?]
  cases l with
  | nil => rfl
  | cons a l =>
    rw [if_pos (by simp only [List.length_cons]; omega)]
    have e : ((-1 : Int) + ((a :: l).length : Nat)).toNat = (a :: l).length - 1 := by simp only [List.length_cons]; omega
    rw [e]
    rfl
theorem cut_take {α : Type} {ds : List PI.D} (k : Nat) : cutD ds none (some (k : Int)) = ds.take k := by
  unfold cutD
  rw [HT.sIx_none, HT.sIx_nat, List.drop_zero, Nat.sub_zero]
  by_cases h : k ≤ ds.length
  · rw [Nat.min_eq_left h]
  · rw [Nat.min_eq_right (by omega), List.take_of_length_le (Nat.le_refl _), List.take_of_length_le (by omega)]
theorem cut_drop {ds : List PI.D} (k : Nat) : cutD ds (some (k : Int)) none = ds.drop k := by
  unfold cutD
  rw [HT.sIx_none, HT.sIx_nat]
  by_cases h : k ≤ ds.length
  · rw [Nat.min_eq_left h, List.take_of_length_le (by rw [List.length_drop]; omega)]
  · rw [Nat.min_eq_right (by omega), List.drop_of_length_le (Nat.le_refl _), List.drop_of_length_le (by omega)]
    exact List.take_nil
theorem cut_1 {ds : List PI.D} : cutD ds none (some 1) = ds.take 1 := cut_take (α := Int) 1
theorem cut1_ {ds : List PI.D} : cutD ds (some 1) none = ds.drop 1 := cut_drop 1
theorem zL_get (l : List Int) (i : Nat) : (zL l)[i]? = l[i]?.map PI.D.int := List.getElem?_map
theorem zL_len (l : List Int) : (zL l).length = l.length := List.length_map _
theorem zL_last (l : List Int) : (zL l).getLast? = l.getLast?.map PI.D.int := List.getLast?_map
theorem zL_app (l m : List Int) : zL l ++ zL m = zL (l ++ m) := List.map_append.symm
theorem zL_app1 (l : List Int) (x : Int) : zL l ++ [PI.D.int x] = zL (l ++ [x]) := by rw [← zL_app]; rfl
theorem zL_rev (l : List Int) : (zL l).reverse = zL l.reverse := List.map_reverse.symm
theorem zL_dropLast (l : List Int) : (zL l).dropLast = zL l.dropLast := (List.map_dropLast).symm
theorem zL_take (l : List Int) (k : Nat) : (zL l).take k = zL (l.take k) := List.map_take.symm
theorem zL_drop (l : List Int) (k : Nat) : (zL l).drop k = zL (l.drop k) := List.map_drop.symm
end PI

namespace PI
open PySem PySem.Spec PyProof.Rows L2
@[simp] theorem s_e1 (f : D → Option W) (a : Opd) (env : PI.Env) : e1 f a env = ((a.run env).bind fun r => (r.1.get r.2).bind fun d => (f d).bind fun w => some (w, r.2)) := id rfl
@[simp] theorem s_e2 (f : D → D → Option W) (a b : Opd) (env : PI.Env) : e2 f a b env = ((a.run env).bind fun r => (b.run r.2).bind fun s => (r.1.get s.2).bind fun d => (s.1.get s.2).bind fun e => (f d e).bind fun w => some (w, s.2)) := id rfl
@[simp] theorem s_eN (f : List D → Option W) (as : List Opd) (env : PI.Env) : eN f as env = ((runs as env).bind fun r => (gets r.2 r.1).bind fun ds => (f ds).bind fun w => some (w, r.2)) := id rfl
@[simp] theorem s_eVar (i : Nat) (env : PI.Env) : eVar i env = (match env[i]? with
  | some (some (true, d)) => some ((false, d), env.set i (some (false, d)))
  | some (some (false, d)) => some ((false, d), env)
  | _ => none) := id rfl
@[simp] theorem s_eC (d : D) (env : PI.Env) : eC d env = (some ((false, d), env)) := id rfl
@[simp] theorem s_eAnd (f g : EF) (env : PI.Env) : eAnd f g env = ((f env).bind fun r => match r.1.2 with
  | .bl true => g r.2
  | .bl false => some ((false, .bl false), r.2)
  | _ => none) := id rfl
@[simp] theorem s_eOr (f g : EF) (env : PI.Env) : eOr f g env = ((f env).bind fun r => match r.1.2 with
  | .bl true => some ((false, .bl true), r.2)
  | .bl false => g r.2
  | _ => none) := id rfl
@[simp] theorem s_eNot (f : EF) (env : PI.Env) : eNot f env = ((f env).bind fun r => match r.1.2 with
  | .bl b => some ((false, .bl (!b)), r.2)
  | _ => none) := id rfl
@[simp] theorem s_eIf (c f g : EF) (env : PI.Env) : eIf c f g env = ((c env).bind fun r => match r.1.2 with
  | .bl true => f r.2
  | .bl false => g r.2
  | _ => none) := id rfl
@[simp] theorem s_eTup (fs : List EF) (env : PI.Env) : eTup fs env = ((vals fs env).bind fun r => some ((false, .tup r.1), r.2)) := id rfl
@[simp] theorem s_eLst (fs : List EF) (env : PI.Env) : eLst fs env = ((vals fs env).bind fun r => some ((true, .lst r.1), r.2)) := id rfl
@[simp] theorem s_eCh (f g : D → D → Option W) (a b c : Opd) (env : PI.Env) : eCh f g a b c env = ((a.run env).bind fun r => (b.run r.2).bind fun s => (r.1.get s.2).bind fun d => (s.1.get s.2).bind fun e => (f d e).bind fun w => match w with
  | (false, .bl true) => (c.run s.2).bind fun t => (s.1.get t.2).bind fun e => (t.1.get t.2).bind fun k => (g e k).bind fun w => some (w, t.2)
  | (false, .bl false) => some ((false, .bl false), s.2)
  | _ => none) := id rfl
@[simp] theorem s_eSl (f : D → Option Int → Option Int → Option W) (a : Opd) (lo hi : Option EF) (env : PI.Env) : eSl f a lo hi env = ((a.run env).bind fun r => (prt lo r.2).bind fun s => (prt hi s.2).bind fun t => (r.1.get t.2).bind fun d => (f d s.1 t.1).bind fun w => some (w, t.2)) := id rfl
@[simp] theorem s_ePop (i : Nat) (env : PI.Env) : ePop i env = (match env[i]? with
  | some (some (true, .lst ds)) => match ds[ds.length - 1]? with
    | some d => some ((false, d), env.set i (some (true, .lst ds.dropLast)))
    | none => none
  | _ => none) := id rfl
@[simp] theorem s_ePopAt (i : Nat) (f : EF) (env : PI.Env) : ePopAt i f env = (match isOwn env i with
  | true => (f env).bind fun r => match r.1.2 with
    | .int k => if -(2 ^ 63) ≤ k ∧ k < 2 ^ 63 then (match r.2[i]? with
      | some (some (true, .lst ds)) => (seqIndex? k ds.length).bind fun j => (ds[j]?).bind fun d => some ((false, d), r.2.set i (some (true, .lst (ds.eraseIdx j))))
      | _ => none) else none
    | _ => none
  | false => none) := id rfl
@[simp] theorem s_sNext (env : PI.Env) : sNext env = (some (.nx, env)) := id rfl
@[simp] theorem s_sSeq (f g : SF) (env : PI.Env) : sSeq f g env = ((f env).bind fun r => match r.1 with
  | .nx => g r.2
  | c => some (c, r.2)) := id rfl
@[simp] theorem s_sBrk (env : PI.Env) : sBrk env = (some (.bk, env)) := id rfl
@[simp] theorem s_sCnt (env : PI.Env) : sCnt env = (some (.ct, env)) := id rfl
@[simp] theorem s_sNever (env : PI.Env) : sNever env = (none) := id rfl
@[simp] theorem s_sExp (f : EF) (env : PI.Env) : sExp f env = ((f env).bind fun r => some (.nx, r.2)) := id rfl
@[simp] theorem s_sRet (f : EF) (env : PI.Env) : sRet f env = ((f env).bind fun r => some (.rt r.1, r.2)) := id rfl
@[simp] theorem s_sRetV (P : List Nat) (i : Nat) (env : PI.Env) : sRetV P i env = (match env[i]? with
  | some (some (true, d)) => match P.contains i with
    | false => some (.rt (true, d), env.set i none)
    | true => none
  | some (some (false, d)) => some (.rt (false, d), env)
  | _ => none) := id rfl
@[simp] theorem s_sRetN (env : PI.Env) : sRetN env = (some (.rt (false, .non), env)) := id rfl
@[simp] theorem s_sIf (c : EF) (f g : SF) (env : PI.Env) : sIf c f g env = ((c env).bind fun r => match r.1.2 with
  | .bl true => f r.2
  | .bl false => g r.2
  | _ => none) := id rfl
@[simp] theorem s_sAsg (P : List Nat) (i : Nat) (f : EF) (env : PI.Env) : sAsg P i f env = (match P.contains i with
  | true => none
  | false => (f env).bind fun r => some (.nx, r.2.set i (some r.1))) := id rfl
@[simp] theorem s_sAug (P : List Nat) (i : Nat) (op : Int → Int → Int) (f : EF) (env : PI.Env) : sAug P i op f env = (match P.contains i with
  | true => none
  | false => match env[i]? with
    | some (some (false, .int a)) => (f env).bind fun r => match r.1.2 with
      | .int b => some (.nx, r.2.set i (some (false, .int (op a b))))
      | _ => none
    | _ => none) := id rfl
@[simp] theorem s_sApp (i : Nat) (f : EF) (env : PI.Env) : sApp i f env = (match isOwn env i with
  | true => (f env).bind fun r => match r.2[i]? with
    | some (some (true, .lst ds)) => if ds.length < 1000000 then some (.nx, r.2.set i (some (true, .lst (ds ++ [r.1.2])))) else none
    | _ => none
  | false => none) := id rfl
@[simp] theorem s_sExt (i : Nat) (o : Opd) (env : PI.Env) : sExt i o env = (match isOwn env i with
  | true => (o.run env).bind fun r => (r.1.get r.2).bind fun d => match d with
    | .lst es => (match r.2[i]? with
      | some (some (true, .lst ds)) => if ds.length + es.length < 1000000 then some (.nx, r.2.set i (some (true, .lst (ds ++ es)))) else none
      | _ => none)
    | _ => none
  | false => none) := id rfl
@[simp] theorem s_sIns (i : Nat) (k f : EF) (env : PI.Env) : sIns i k f env = (match isOwn env i with
  | true => (k env).bind fun r => (f r.2).bind fun s => match r.1.2 with
    | .int j => (match s.2[i]? with
      | some (some (true, .lst ds)) => if ds.length < 1000000 ∧ 0 ≤ j ∧ j < 1000000 then some (.nx, s.2.set i (some (true, .lst (ds.take j.toNat ++ [s.1.2] ++ ds.drop j.toNat)))) else none
      | _ => none)
    | _ => none
  | false => none) := id rfl
@[simp] theorem s_sSet (i : Nat) (k f : EF) (env : PI.Env) : sSet i k f env = ((f env).bind fun r => match isOwn r.2 i with
  | true => (k r.2).bind fun s => match s.1.2 with
    | .int j => (match s.2[i]? with
      | some (some (true, .lst ds)) => (ixN ds.length j).bind fun m => some (.nx, s.2.set i (some (true, .lst (ds.set m r.1.2))))
      | _ => none)
    | _ => none
  | false => none) := id rfl
@[simp] theorem s_tName (i : Nat) (d : PI.D) (env : PI.Env) : tName i d env = (some (env.set i (some (false, d)))) := id rfl
@[simp] theorem s_sTgt (P : List Nat) (js : List Nat) (T : TF) (f : EF) (env : PI.Env) : sTgt P js T f env = (match js.any fun j => P.contains j with
  | true => none
  | false => (f env).bind fun r => (T r.1.2 r.2).bind fun e => some (.nx, e)) := id rfl
@[simp] theorem s_sPar2 (P : List Nat) (i j : Nat) (f g : EF) (env : PI.Env) : sPar2 P i j f g env = (match P.contains i || P.contains j with
  | true => none
  | false => (valsW [f, g] env).bind fun r => match r.1 with
    | [u, v] => some (.nx, (r.2.set i (some u)).set j (some v))
    | _ => none) := id rfl
@[simp] theorem s_sPar3 (P : List Nat) (i j k : Nat) (f g h : EF) (env : PI.Env) : sPar3 P i j k f g h env = (match P.contains i || (P.contains j || P.contains k) with
  | true => none
  | false => (valsW [f, g, h] env).bind fun r => match r.1 with
    | [u, v, x] => some (.nx, ((r.2.set i (some u)).set j (some v)).set k (some x))
    | _ => none) := id rfl
@[simp] theorem s_srcL (f : EF) (env : PI.Env) : srcL f env = ((f env).bind fun r => match r.1.2 with
  | .lst ds => some (ds, r.2)
  | .frz ds => some (ds, r.2)
  | _ => none) := id rfl
@[simp] theorem s_srcT (f : EF) (env : PI.Env) : srcT f env = ((f env).bind fun r => match r.1.2 with
  | .tup ds => some (ds, r.2)
  | _ => none) := id rfl
@[simp] theorem s_srcR1 (f : EF) (env : PI.Env) : srcR1 f env = ((f env).bind fun r => match r.1.2 with
  | .int n => if -(2 ^ 62) ≤ n ∧ n < 2 ^ 62 then some (rangeD 0 n.toNat, r.2) else none
  | _ => none) := id rfl
@[simp] theorem s_srcR2 (f g : EF) (env : PI.Env) : srcR2 f g env = ((f env).bind fun r => (g r.2).bind fun s => match r.1.2 with
  | .int a => (match s.1.2 with
    | .int b => if (-(2 ^ 62) ≤ a ∧ a < 2 ^ 62) ∧ -(2 ^ 62) ≤ b ∧ b < 2 ^ 62 then some (rangeD a (b - a).toNat, s.2) else none
    | _ => none)
  | _ => none) := id rfl
@[simp] theorem s_sFor (P js : List Nat) (src : SrcF) (T : TF) (f : SF) (env : PI.Env) : sFor P js src T f env = (match js.any fun j => P.contains j with
  | true => none
  | false => (src env).bind fun r => fl T f r.1 r.2) := id rfl
@[simp] theorem s_srcC (src : SrcF) (env : PI.Env) : srcC src env = ((src env).bind fun r => some (r.1, r.2, none)) := id rfl
@[simp] theorem s_srcH (i : Nat) (env : PI.Env) : srcH i env = (match env[i]? with
  | some (some (true, .lst ds)) => some (ds, env.set i none, some (i, ds))
  | some (some (false, .lst ds)) => some (ds, env, none)
  | _ => none) := id rfl
@[simp] theorem s_eLc (src : SrcC) (T : TF) (c f : EF) (vs : List Nat) (env : PI.Env) : eLc src T c f vs env = ((src env).bind fun r => if r.1.length < 1000000 then (lcl T c f vs r.1 r.2.1).bind fun t => some ((true, .lst t.1), undoE t.2 r.2.2) else none) := id rfl
@[simp] theorem s_eYes (env : PI.Env) : eYes env = (some ((false, .bl true), env)) := id rfl
@[simp] theorem s_runB (modes : List Bool) (n : Nat) (body : SF) (ds : List PI.D) : runB modes n body ds = ((body (envOf modes ds ++ List.replicate (n - modes.length) none)).bind fun r => match r.1 with
  | .rt w => (fins r.2 (tp 0 modes)).bind fun o => some (w, o)
  | .nx => (fins r.2 (tp 0 modes)).bind fun o => some ((false, .non), o)
  | _ => none) := id rfl
@[simp] theorem s_eCall (modes : List Bool) (f : Cal) (as : List Opd) (env : PI.Env) : eCall modes f as env = ((runs as env).bind fun r => callO modes f r.1 r.2) := id rfl
@[simp] theorem s_eCallK (modes : List Bool) (f : Cal) (as : List Opd) (is : List Nat) (env : PI.Env) : eCallK modes f as is env = ((runs as env).bind fun r => callO modes f (pick is r.1) r.2) := id rfl
@[simp] theorem s_srcA (f : EF) (env : PI.Env) : srcA f env = ((f env).bind fun r => match r.1.2 with
  | .lst ds => some (ds, r.2)
  | .frz ds => some (ds, r.2)
  | .tup ds => some (ds, r.2)
  | _ => none) := id rfl
@[simp] theorem s_srcN (i : Nat) (env : PI.Env) : srcN i env = (match env[i]? with
  | some (some (true, .lst ds)) => some (ds, env.set i none, some (i, ds))
  | some (some (false, .lst ds)) => some (ds, env, none)
  | some (some (false, .frz ds)) => some (ds, env, none)
  | some (some (false, .tup ds)) => some (ds, env, none)
  | _ => none) := id rfl
section
variable {f g : EF} {fs : List EF} {a : Opd} {as : List Opd} {env e : PI.Env} {i j : Nat} {d : PI.D} {ds es : List PI.D} {o : Op} {os : List Op} {m n : Int} {b c : Bool} {x y : Str} {T : TF} {U : List PI.D → PI.Env → Option PI.Env} {ms : List Bool}
@[simp] theorem h_runex : (Opd.ex f).run env = (f env).bind fun r => some (.val r.1.2, r.2) := id rfl
@[simp] theorem h_runsl : (Opd.sl i).run env = (match env[i]? with | some (some _) => some (.slot i, env) | _ => none) := id rfl
@[simp] theorem h_getv : Op.get env (.val d) = some d := id rfl
@[simp] theorem h_gets : Op.get env (.slot i) = (match env[i]? with | some (some p) => some p.2 | _ => none) := id rfl
@[simp] theorem h_runs0 : runs [] env = some ([], env) := id rfl
@[simp] theorem h_runs1 : runs (a :: as) env = (a.run env).bind fun r => (runs as r.2).bind fun s => some (r.1 :: s.1, s.2) := id rfl
@[simp] theorem h_gets0 : gets env [] = some [] := id rfl
@[simp] theorem h_gets1 : gets env (o :: os) = (o.get env).bind fun d => (gets env os).bind fun ds => some (d :: ds) := id rfl
@[simp] theorem h_vals0 : vals [] env = some ([], env) := id rfl
@[simp] theorem h_vals1 : vals (f :: fs) env = (f env).bind fun r => (vals fs r.2).bind fun s => some (r.1.2 :: s.1, s.2) := id rfl
@[simp] theorem h_valsW0 : valsW [] env = some ([], env) := id rfl
@[simp] theorem h_valsW1 : valsW (f :: fs) env = (f env).bind fun r => (valsW fs r.2).bind fun s => some (r.1 :: s.1, s.2) := id rfl
@[simp] theorem h_prt0 : prt none env = some (none, env) := id rfl
@[simp] theorem h_prt1 : prt (some f) env = (f env).bind fun r => match r.1.2 with | .int i => some (some i, r.2) | _ => none := id rfl
@[simp] theorem h_tsNil : tsNil [] env = some env := id rfl
@[simp] theorem h_tsCons : tsCons T U (d :: ds) env = (T d env).bind fun e => U ds e := id rfl
@[simp] theorem h_tTpl {k : Nat} : tTpl k U (.tup ds) env = (if ds.length = k then U ds env else none) := id rfl
@[simp] theorem h_envOf0 : envOf [] ds = [] := by cases ds <;> rfl
@[simp] theorem h_envOf1 : envOf (b :: ms) (d :: ds) = some (b, d) :: envOf ms ds := id rfl
@[simp] theorem h_tp0 : tp i [] = [] := id rfl
@[simp] theorem h_tpt : tp i (true :: ms) = i :: tp (i + 1) ms := id rfl
@[simp] theorem h_tpf : tp i (false :: ms) = tp (i + 1) ms := id rfl
@[simp] theorem h_fins0 : fins env [] = some [] := id rfl
@[simp] theorem h_fins1 {is : List Nat} : fins env (i :: is) = (match env[i]? with | some (some (true, d)) => (fins env is).bind fun ds => some (d :: ds) | _ => none) := id rfl
@[simp] theorem h_okv : okOp env false (.val d) = true := id rfl
@[simp] theorem h_oks : okOp env true (.slot i) = isOwn env i := id rfl
@[simp] theorem h_isOwn : isOwn env i = (match env[i]? with | some (some (true, .lst _)) => true | _ => false) := id rfl
@[simp] theorem h_okOps0 : okOps env [] [] = true := id rfl
@[simp] theorem h_okOps1 : okOps env (b :: ms) (o :: os) = (okOp env b o && okOps env ms os) := id rfl
@[simp] theorem h_sl0 : slotsOf [] os = [] := by cases os <;> rfl
@[simp] theorem h_slt : slotsOf (true :: ms) (.slot i :: os) = i :: slotsOf ms os := id rfl
@[simp] theorem h_slf : slotsOf (false :: ms) (o :: os) = slotsOf ms os := by cases o <;> rfl
@[simp] theorem h_nd0 : nodupB [] = true := id rfl
@[simp] theorem h_nd1 {is : List Nat} : nodupB (i :: is) = (!is.contains i && nodupB is) := id rfl
@[simp] theorem h_wb0 : wback [] [] env = some env := id rfl
@[simp] theorem h_wb1 {is : List Nat} : wback (i :: is) (d :: ds) env = (wback is ds env).bind fun e => some (e.set i (some (true, d))) := id rfl
@[simp] theorem h_callO {F : Cal} : callO ms F os env = (match okOps env ms os && nodupB (slotsOf ms os) with | true => (gets env os).bind fun ds => (F ds).bind fun r => (wback (slotsOf ms os) r.2 env).bind fun e => some (r.1, e) | false => none) := id rfl
@[simp] theorem h_wipe0 : wipeE env [] = env := id rfl
@[simp] theorem h_wipe1 {is : List Nat} : wipeE env (i :: is) = (wipeE env is).set i none := id rfl
@[simp] theorem h_rest0 : restE env e [] = e := id rfl
@[simp] theorem h_rest1 {is : List Nat} : restE env e (i :: is) = (restE env e is).set i (env[i]?.getD none) := id rfl
@[simp] theorem h_undo0 : undoE env none = env := id rfl
@[simp] theorem h_undo1 {p : Nat × List PI.D} : undoE env (some p) = env.set p.1 (some (true, .lst p.2)) := id rfl
@[simp] theorem h_ownAt : ownAt env i = (match env[i]? with | some (some (true, _)) => true | _ => false) := id rfl
@[simp] theorem h_noOwn {is : List Nat} : noOwn env is = is.all fun v => !ownAt env v := id rfl
@[simp] theorem h_fl0 {h : SF} : fl T h [] env = some (.nx, env) := id rfl
@[simp] theorem h_lcl0 {is : List Nat} : lcl T f g is [] env = some ([], env) := id rfl
@[simp] theorem q_addi : addD (.int m) (.int n) = some (false, .int (m + n)) := id rfl
@[simp] theorem q_adds : addD (.str x) (.str y) = if x.length + y.length ≤ 10000000 then some (false, .str (x ++ y)) else none := id rfl
@[simp] theorem q_addt : addD (.tup ds) (.tup es) = if ds.length + es.length ≤ 1000000 then some (false, .tup (ds ++ es)) else none := id rfl
@[simp] theorem q_addl : addD (.lst ds) (.lst es) = if ds.length + es.length ≤ 1000000 then some (true, .lst (ds ++ es)) else none := id rfl
@[simp] theorem q_sub : subD (.int m) (.int n) = some (false, .int (m - n)) := id rfl
@[simp] theorem q_mul : mulD (.int m) (.int n) = if mulB m n then some (false, .int (m * n)) else none := id rfl
@[simp] theorem q_fdiv : fdivD (.int m) (.int n) = if divB m n then some (false, .int (m / n)) else none := id rfl
@[simp] theorem q_mod : modD (.int m) (.int n) = if modB m n then some (false, .int (m % n)) else none := id rfl
@[simp] theorem q_pow : powD (.int m) (.int n) = if powB m n then some (false, .int (m ^ n.toNat)) else none := id rfl
@[simp] theorem q_neg : negD (.int m) = some (false, .int (-m)) := id rfl
@[simp] theorem q_lt : ltD (.int m) (.int n) = some (false, .bl (decide (m < n))) := id rfl
@[simp] theorem q_le : leD (.int m) (.int n) = some (false, .bl (decide (m ≤ n))) := id rfl
@[simp] theorem q_gt : gtD (.int m) (.int n) = some (false, .bl (decide (n < m))) := id rfl
@[simp] theorem q_ge : geD (.int m) (.int n) = some (false, .bl (decide (n ≤ m))) := id rfl
@[simp] theorem q_eqi : eqD (.int m) (.int n) = some (false, .bl (m == n)) := id rfl
@[simp] theorem q_eqb : eqD (.bl b) (.bl c) = some (false, .bl (b == c)) := id rfl
@[simp] theorem q_eqs : eqD (.str x) (.str y) = some (false, .bl (decide (x = y))) := id rfl
@[simp] theorem q_nei : neD (.int m) (.int n) = some (false, .bl (!(m == n))) := id rfl
@[simp] theorem q_neb : neD (.bl b) (.bl c) = some (false, .bl (!(b == c))) := id rfl
@[simp] theorem q_nes : neD (.str x) (.str y) = some (false, .bl (!decide (x = y))) := id rfl
theorem q_eq : eqD d d' = (eqB d d').bind fun b => some (false, .bl b) := id rfl
theorem q_ne : neD d d' = (eqB d d').bind fun b => some (false, .bl (!b)) := id rfl
@[simp] theorem q_eqT {l k : List Int} : eqD (.tup (zL l)) (.tup (zL k)) = some (false, .bl (decide (l = k))) := by rw [q_eq, eqT]; rfl
@[simp] theorem q_eqL {l k : List Int} : eqD (.lst (zL l)) (.lst (zL k)) = some (false, .bl (decide (l = k))) := by rw [q_eq, eqL]; rfl
@[simp] theorem q_eqT0 {l : List Int} : eqD (.tup (zL l)) (.tup []) = some (false, .bl (decide (l = []))) := by rw [q_eq, eqT0]; rfl
@[simp] theorem q_eqL0 {l : List Int} : eqD (.lst (zL l)) (.lst []) = some (false, .bl (decide (l = []))) := by rw [q_eq, eqL0]; rfl
@[simp] theorem q_neT {l k : List Int} : neD (.tup (zL l)) (.tup (zL k)) = some (false, .bl (!decide (l = k))) := by rw [q_ne, eqT]; rfl
@[simp] theorem q_neL {l k : List Int} : neD (.lst (zL l)) (.lst (zL k)) = some (false, .bl (!decide (l = k))) := by rw [q_ne, eqL]; rfl
@[simp] theorem q_neT0 {l : List Int} : neD (.tup (zL l)) (.tup []) = some (false, .bl (!decide (l = []))) := by rw [q_ne, eqT0]; rfl
@[simp] theorem q_neL0 {l : List Int} : neD (.lst (zL l)) (.lst []) = some (false, .bl (!decide (l = []))) := by rw [q_ne, eqL0]; rfl
@[simp] theorem q_eq00 : eqD (.lst []) (.lst []) = some (false, .bl true) := q_eqL0 (l := [])
@[simp] theorem q_ne00 : neD (.lst []) (.lst []) = some (false, .bl false) := q_neL0 (l := [])
@[simp] theorem q_eq00t : eqD (.tup []) (.tup []) = some (false, .bl true) := q_eqT0 (l := [])
@[simp] theorem q_ne00t : neD (.tup []) (.tup []) = some (false, .bl false) := q_neT0 (l := [])
@[simp] theorem q_seqt : seqD (.tup ds) = some ds := id rfl
@[simp] theorem q_seql : seqD (.lst ds) = some ds := id rfl
@[simp] theorem q_seqf : seqD (.frz ds) = some ds := id rfl
@[simp] theorem q_ixt : ixD (.tup ds) (.int m) = (atI ds m).bind fun e => some (false, e) := id rfl
@[simp] theorem q_ixl : ixD (.lst ds) (.int m) = (atI ds m).bind fun e => some (false, e) := id rfl
@[simp] theorem q_ixf : ixD (.frz ds) (.int m) = (atI ds m).bind fun e => some (false, e) := id rfl
@[simp] theorem q_slt {lo hi : Option Int} : slD (.tup ds) lo hi = some (false, .tup (cutD ds lo hi)) := id rfl
@[simp] theorem q_sll {lo hi : Option Int} : slD (.lst ds) lo hi = some (true, .lst (cutD ds lo hi)) := id rfl
@[simp] theorem q_slf {lo hi : Option Int} : slD (.frz ds) lo hi = some (true, .lst (cutD ds lo hi)) := id rfl
@[simp] theorem q_rev : revD (.lst ds) = some (true, .lst ds.reverse) := id rfl
@[simp] theorem q_c1 {F : PI.D → Option W} : c1 F [d] = F d := id rfl
@[simp] theorem q_c2 {F : PI.D → PI.D → Option W} {d' : PI.D} : c2 F [d, d'] = F d d' := id rfl
@[simp] theorem q_lent : lenD (.tup ds) = some (false, .int ds.length) := id rfl
@[simp] theorem q_lenl : lenD (.lst ds) = some (false, .int ds.length) := id rfl
@[simp] theorem q_lenf : lenD (.frz ds) = some (false, .int ds.length) := id rfl
@[simp] theorem q_abs : absD (.int m) = some (false, .int (if m < 0 then -m else m)) := id rfl
@[simp] theorem q_max : max2D (.int m) (.int n) = some (false, .int (if n > m then n else m)) := id rfl
@[simp] theorem q_min : min2D (.int m) (.int n) = some (false, .int (if n < m then n else m)) := id rfl
@[simp] theorem q_inti : intD (.int m) = some (false, .int m) := id rfl
@[simp] theorem q_intb : intD (.bl b) = some (false, .int (if b then 1 else 0)) := id rfl
@[simp] theorem q_listt : listD (.tup ds) = some (true, .lst ds) := id rfl
@[simp] theorem q_listl : listD (.lst ds) = some (true, .lst ds) := id rfl
@[simp] theorem q_tupt : tupleD (.tup ds) = some (false, .tup ds) := id rfl
@[simp] theorem q_tupl : tupleD (.lst ds) = some (false, .tup ds) := id rfl
@[simp] theorem q_isn1 : isD .non .non = some (false, .bl true) := id rfl
@[simp] theorem q_isn2 : isD (.int m) .non = some (false, .bl false) := id rfl
@[simp] theorem q_isn3 : isD (.bl b) .non = some (false, .bl false) := id rfl
@[simp] theorem q_isn4 : isD (.tup ds) .non = some (false, .bl false) := id rfl
@[simp] theorem q_isn5 : isD (.lst ds) .non = some (false, .bl false) := id rfl
@[simp] theorem q_isn6 : isD (.str x) .non = some (false, .bl false) := id rfl
@[simp] theorem q_isnt1 : isntD .non .non = some (false, .bl false) := id rfl
@[simp] theorem q_isnt2 : isntD (.int m) .non = some (false, .bl true) := id rfl
@[simp] theorem q_isnt3 : isntD (.bl b) .non = some (false, .bl true) := id rfl
@[simp] theorem q_isnt4 : isntD (.tup ds) .non = some (false, .bl true) := id rfl
@[simp] theorem q_isnt5 : isntD (.lst ds) .non = some (false, .bl true) := id rfl
@[simp] theorem q_isi {k : Kd} : isiD k d = (tagOf d).bind fun t => some (false, .bl (isKT k t)) := id rfl
@[simp] theorem q_tag0 : tagOf .non = some .non := id rfl
@[simp] theorem q_tag1 : tagOf (.bl b) = some .bool := id rfl
@[simp] theorem q_tag2 : tagOf (.int m) = some .int := id rfl
@[simp] theorem q_tag3 : tagOf (.str x) = some .str := id rfl
@[simp] theorem q_tag4 : tagOf (.tup ds) = some .tuple := id rfl
@[simp] theorem q_tag5 : tagOf (.lst ds) = some .list := id rfl
@[simp] theorem q_tag6 : tagOf (.frz ds) = some .list := id rfl
@[simp] theorem q_toInts {l : List Int} : toInts (zL l) = some l := toInts_map l
@[simp] theorem q_inF {l : List Int} : inD false (.int m) (.tup (zL l)) = some (false, .bl (l.contains m)) := by
  show ((toInts (zL l)).bind _) = _
  rw [q_toInts]; rfl
@[simp] theorem q_inT {l : List Int} : inD true (.int m) (.tup (zL l)) = some (false, .bl (!l.contains m)) := by
  show ((toInts (zL l)).bind _) = _
  rw [q_toInts]; rfl
@[simp] theorem q_inFl {l : List Int} : inD false (.int m) (.lst (zL l)) = some (false, .bl (l.contains m)) := by
  show ((toInts (zL l)).bind _) = _
  rw [q_toInts]; rfl
@[simp] theorem q_inTl {l : List Int} : inD true (.int m) (.lst (zL l)) = some (false, .bl (!l.contains m)) := by
  show ((toInts (zL l)).bind _) = _
  rw [q_toInts]; rfl
@[simp] theorem q_sortT {l : List Int} : sortedD (.tup (zL l)) = some (true, .lst (zL (isort l))) := by
  show ((toInts (zL l)).bind _) = _
  rw [q_toInts]; rfl
@[simp] theorem q_sortL {l : List Int} : sortedD (.lst (zL l)) = some (true, .lst (zL (isort l))) := by
  show ((toInts (zL l)).bind _) = _
  rw [q_toInts]; rfl
end
@[simp] theorem z_len (l : List Int) : (zL l).length = l.length := zL_len l
@[simp] theorem z_nil : zL [] = [] := id rfl
@[simp] theorem z_app (l m : List Int) : zL l ++ zL m = zL (l ++ m) := zL_app l m
@[simp] theorem z_app1 (l : List Int) (x : Int) : zL l ++ [PI.D.int x] = zL (l ++ [x]) := zL_app1 l x
@[simp] theorem z_appc (l m : List Int) (x : Int) : zL l ++ PI.D.int x :: zL m = zL (l ++ x :: m) := zL_app l (x :: m)
@[simp] theorem z_rev (l : List Int) : (zL l).reverse = zL l.reverse := zL_rev l
@[simp] theorem z_dropLast (l : List Int) : (zL l).dropLast = zL l.dropLast := zL_dropLast l
@[simp] theorem z_take (l : List Int) (k : Nat) : (zL l).take k = zL (l.take k) := zL_take l k
@[simp] theorem z_drop (l : List Int) (k : Nat) : (zL l).drop k = zL (l.drop k) := zL_drop l k
@[simp] theorem z_get (l : List Int) (i : Nat) : (zL l)[i]? = l[i]?.map PI.D.int := zL_get l i
@[simp] theorem z_getE (l : List Int) (i : Nat) (h : i < (zL l).length) : (zL l)[i]'h = PI.D.int (l[i]'(by rw [zL_len] at h; exact h)) := by simp [zL]
@[simp] theorem z_last (l : List Int) : (zL l).getLast? = l.getLast?.map PI.D.int := zL_last l
@[simp] theorem z_atn (l : List PI.D) (i : Nat) : atI l (i : Int) = l[i]? := at_nat l i
@[simp] theorem z_at0 (l : List PI.D) : atI l 0 = l[0]? := at_0 l
@[simp] theorem z_at1 (l : List PI.D) : atI l 1 = l[1]? := at_1 l
@[simp] theorem z_at2 (l : List PI.D) : atI l 2 = l[2]? := at_2 l
@[simp] theorem z_atl (l : List PI.D) : atI l (-1) = l.getLast? := at_last l
@[simp] theorem z_cut1 (ds : List PI.D) : cutD ds none (some 1) = ds.take 1 := cut_1
@[simp] theorem z_cut2 (ds : List PI.D) : cutD ds (some 1) none = ds.drop 1 := cut1_
@[simp] theorem z_cutn (ds : List PI.D) (k : Nat) : cutD ds none (some (k : Int)) = ds.take k := cut_take (α := Int) k
@[simp] theorem z_cutd (ds : List PI.D) (k : Nat) : cutD ds (some (k : Int)) none = ds.drop k := cut_drop k
@[simp] theorem z_set (l : List Int) (i : Nat) (x : Int) : (zL l).set i (.int x) = zL (l.set i x) := (List.map_set).symm
theorem z_cons (x : Int) (l : List Int) : zL (x :: l) = .int x :: zL l := id rfl
theorem z_range (lo : Int) (n : Nat) : rangeD lo n = zL ((List.range n).map fun (i : Nat) => lo + (i : Int)) := by
  unfold rangeD zL
  rw [List.map_map]
  rfl
end PI

namespace PI
open PySem PySem.Spec PyProof.Rows L2
/-- a, b, .. = a tuple or a list of that length -/
def tTplA (n : Nat) (U : List PI.D → PI.Env → Option PI.Env) : TF := fun d env => match d with
  | .tup ds => if ds.length = n then U ds env else none
  | .lst ds => if ds.length = n then U ds env else none
  | .frz ds => if ds.length = n then U ds env else none
  | _ => none
def gTupA (K : PySem.W.Frag) (n : Nat) (t : TGs) : TG := fun v σ H Q => gTup K n t v σ H Q ∨ gUnl K n t v σ H Q
theorem pg_or {X : Cx} {tg : Expr} {g g' : TG} (h : PG X tg g) (h' : PG X tg g') : PG X tg fun v σ H Q => g v σ H Q ∨ g' v σ H Q := ⟨fun pins s σ H v u Q I r q => q.elim (fun q => h.run pins s σ H v u Q I r q) fun q => h'.run pins s σ H v u Q I r q⟩
theorem pg_tupA {X : Cx} {pos : Pos} {es : List Expr} {k : Nat} {t : TGs} {n : Nat} (hc : X.calm = true) (h : PGs X es t) (hn : (assignEach es X.env).length = n := by rfl) (hst : (assignEach es X.env).findIdx? (·.1) = none := by rfl) : PG X (.Tuple es k pos) (gTupA X.K n t) := pg_or (pg_tup hc h hn hst) (pg_unl hc h hn hst)
theorem tg_tupA {K : PySem.W.Frag} {n : Nat} {gs : TGs} {U : List PI.D → PI.Env → Option PI.Env} {ks : List Nat} (hs : TgsOk K gs U ks) : TgOk K (gTupA K n gs) (tTplA n U) ks := fun Z env σ H v d env' Q R r e q => by
  cases d with
  | tup ds =>
    dsimp only [tTplA] at e
    split at e
    · rename_i hn
      obtain ⟨a, vs, rfl, t, ra⟩ := r.tupD
      exact .inl ⟨a, vs, rfl, t.sq, by rw [ra.length]; exact hn, hs Z env σ H vs ds env' Q R ra e q⟩
    · cases e
  | lst ds =>
    dsimp only [tTplA] at e
    split at e
    · rename_i hn
      cases r with
      | lst h ns ra => exact .inr ⟨_, _, rfl, .inl (.inl h), by rw [ra.length]; exact hn, hs Z env σ H _ ds env' Q R ra e q⟩
    · cases e
  | frz ds =>
    dsimp only [tTplA] at e
    split at e
    · rename_i hn
      obtain ⟨a, vs, rfl, t, ra⟩ := r.frzD
      exact .inr ⟨a, vs, rfl, t.sq, by rw [ra.length]; exact hn, hs Z env σ H vs ds env' Q R ra e q⟩
    · cases e
  | _ => cases e
@[simp] theorem h_tTplA1 {k : Nat} {U : List PI.D → PI.Env → Option PI.Env} {ds : List PI.D} {env : PI.Env} : tTplA k U (.tup ds) env = (if ds.length = k then U ds env else none) := id rfl
@[simp] theorem h_tTplA2 {k : Nat} {U : List PI.D → PI.Env → Option PI.Env} {ds : List PI.D} {env : PI.Env} : tTplA k U (.lst ds) env = (if ds.length = k then U ds env else none) := id rfl
end PI

namespace PI
open PySem PySem.Spec PyProof.Rows L2
/-! ### enumerate, over tuples too -/
section
open AutoSeq1 (wpAny_loadPart')
theorem meets_enumerate_newT (l : Addr) (items : Array Value) (n : Nat) (dct : Option Addr) (sl : Array (Option Value)) :
    Meets (Builtin.«enumerate.__new__» ⟨[.type "enumerate", .ref l], []⟩) (fun _ R s => s.heap.get? l = some { cls := .type "tuple", dict := dct, data := .seq items n, slots := sl } ∧
      R (.ok (.ret (.ref (s.heap.push { cls := .type "tuple_iterator", data := .fields #[.ref l, .int 0 0] }).objs.size)))
        { s with heap := (s.heap.push { cls := .type "tuple_iterator", data := .fields #[.ref l, .int 0 0] }).push { cls := .type "enumerate", data := .fields #[.none, .bool false, .ref s.heap.objs.size, rawInt 0, .none, .none] } }) :=
  .of_wp fun prog w A R s h => by
    obtain ⟨hp, g, d, tk, os⟩ := s; obtain ⟨hl, h⟩ := h
    have hsub := sub_enumerate
    have hL : Heap.IsTuple (Shared.heap ⟨hp, g, d, tk, os⟩) l items := ⟨_, hl, rfl, n, rfl⟩
    wp_walk using wpAny_loadPart' hl
    refine wpAny_stack_any fun st => wpAny_pure ?_
    split
    · rename_i c _ _ _ _ _
      cases (c == Value.type "enumerate")
      · wp_walk using wpAny_loadPart' hl, wpAny_pyIter_tuple hL
        exact ⟨_, rfl, h⟩
      · wp_walk using wpAny_loadPart' hl, wpAny_pyIter_tuple hL
        exact ⟨_, rfl, h⟩
    · wp_walk using wpAny_loadPart' hl, wpAny_pyIter_tuple hL
      exact ⟨_, rfl, h⟩
theorem call_enumerate_tuple {prog : Program} {w : World} {A : Around} {E : Value → Shared → Prop} {s : Shared} {l : Addr} {items : Array Value} {Q : Value → Shared → Prop} (hL : s.heap.IsTuple l items)
    (h : ∀ h', IsEnum h' (s.heap.objs.size + 1) s.heap.objs.size 0 .none → h'.IsTupleIter s.heap.objs.size l 0 → h'.objs.size = s.heap.objs.size + 2 →
      (∀ b o, s.heap.get? b = some o → h'.get? b = some o) → Q (.ref (s.heap.objs.size + 1)) { s with heap := h' }) :
    wpAny (model prog w) A (call (.type "enumerate") [.ref l]) Q E s := by
  obtain ⟨⟨c, dct, dt, sl⟩, hl, hc, n, hd⟩ := hL
  replace hc : c = .type "tuple" := hc
  replace hd : dt = .seq items n := hd
  subst hc hd
  refine callType_new F.called_enumerate (by decide) (F.typeCall_enumerate_1 _) (F.newCall_enumerate_1 _) (fun obj => F.args_object_init_2 obj _) F.entry_enumerate_new
    (meets_enumerate_newT l items n dct sl) ⟨hl, ?_⟩
  have hz : (s.heap.push { cls := .type "tuple_iterator", data := .fields #[.ref l, .int 0 0] }).objs.size = s.heap.objs.size + 1 := Heap.size_push ..
  show _ ∧ _
  rw [hz]
  have he : IsEnum ((s.heap.push { cls := .type "tuple_iterator", data := .fields #[.ref l, .int 0 0] }).push
      { cls := .type "enumerate", data := .fields #[.none, .bool false, .ref s.heap.objs.size, rawInt 0, .none, .none] }) (s.heap.objs.size + 1) s.heap.objs.size 0 .none := by
    have := Heap.get?_push_size (s.heap.push { cls := .type "tuple_iterator", data := .fields #[.ref l, .int 0 0] })
      (o := { cls := .type "enumerate", data := .fields #[.none, .bool false, .ref s.heap.objs.size, rawInt 0, .none, .none] }) rfl
    rw [hz] at this; exact this
  refine ⟨⟨_, he, rfl⟩, h _ he ⟨_, Heap.get?_push_of_some _ (Heap.get?_push_size _ rfl), rfl, rfl⟩ (by rw [Heap.size_push, hz]) fun b o x => Heap.get?_push_of_some _ (Heap.get?_push_of_some _ x)⟩
end
/-- the tuple at a, each item in a new pair -/
def Iteu (K : PySem.W.Frag) (a : Addr) : It :=
  ⟨fun i H => ∃ (xs : List V) (x : V), SqT K H a xs ∧ xs[i]? = some x, fun i H v H' => ∃ T x, v = .ref T ∧ H T = none ∧ H' = upd H T (.tup [.int (i : Nat), x]) ∧ ∀ xs, SqT K H a xs → xs[i]? = some x, fun i H => ∃ xs : List V, SqT K H a xs ∧ xs.length ≤ i⟩
theorem turn_enumU {P : Program} {w : World} {K : PySem.W.Frag} {elts : List Expr} {kk : Nat} {tpos : Pos} (a e it : Addr) :
    Turn P w K (.Tuple elts kk tpos) (Iteu K a) [e, it] e (fun i h => (∃ old, IsEnum h e it ((i : Nat) : Int) old) ∧ h.IsTupleIter it a i ∧ e ≠ it ∧ a ≠ it ∧ a ≠ e) where
  mem := by simp
  obj := fun i h st b hb => by
    obtain ⟨⟨old, he⟩, ⟨o, ho, hc, hd⟩, _⟩ := st
    have e' : b = e ∨ b = it := by simpa using hb
    rcases e' with z | z
    · rw [z]; exact ⟨_, he, fun v q => nomatch q⟩
    · rw [z]; exact ⟨o, ho, fun v q => by rw [hd] at q; cases q⟩
  keep := fun i h h' st k => let ⟨⟨old, he⟩, hi, hne⟩ := st; ⟨⟨old, k e (by simp) _ he⟩, hi.at fun o q => k it (by simp) o q, hne⟩
  item := by
    intro X hP hw hK hc i pins s σ H E I hf st hg
    subst hP hw hK
    obtain ⟨⟨old, he⟩, hit, hne, hai, hae⟩ := st
    obtain ⟨xs, x, hq, hx⟩ := hg
    obtain ⟨its, rv, p, hz⟩ := I.tuple hq
    obtain ⟨u, hu, ru⟩ := rv.get hx
    have hel : e < s.heap.objs.size := Heap.lt_size he
    have hil : it < s.heap.objs.size := by obtain ⟨_, q, _⟩ := hit; exact Heap.lt_size q
    have hsz : its.toArray[i]? = some u := by simpa using hu
    have Dr := Draws.tuple (prog := X.prog) (w := X.w) (A := X.A.in1) (I.ok.hd hc) it a hai its.toArray
    refine wpAny_pyNext_enum_itemD Dr he ⟨hit, p⟩ (by rw [List.size_toArray]; exact (List.getElem?_eq_some_iff.mp hu).1) hne (by simp [hne, Ne.symm hae]) fun x' h' tk hP ho hit' hT hsz2 hk => ?_
    have ex : x' = u := by
      have hP : its.toArray[i]? = some x' := hP
      rw [hsz] at hP
      exact (Option.some.inj hP).symm
    subst ex
    refine ⟨_, rfl, wpAny_letOwnedTupleGo_enum (s := { s with heap := h', toks := tk + 1 }) ho fun h'' he' sb => ?_⟩
    have hT2 : h''.get? s.heap.objs.size = some { cls := .type "tuple", data := .seq #[.int i tk, x'] } := (sb.2 _ (Nat.ne_of_gt hel)).trans hT
    have new : ObjOk X.prog X.w (upd H s.heap.objs.size (.tup [.int (i : Nat), x])) h'' s.heap.objs.size (.tup [.int (i : Nat), x]) :=
      ⟨by show 2 ≤ sizeLine; decide, [.int i tk, x'], .cons ⟨_, rfl⟩ (.cons ru .nil), ⟨_, hT2, rfl, _, rfl⟩⟩
    have I1 : Inv X pins σ (upd H s.heap.objs.size (.tup [.int (i : Nat), x])) { s with heap := h'', toks := tk + 1 } :=
      I.turnedNew (ch := [e, it]) (fun b ob hb q => (sb.2 b (fun z => hb (by simp [z]))).trans (hk b ob (fun z => hb (by simp [z])) (fun z => hb (by simp [z])) q)) hf (Nat.le_refl _) new
    refine ⟨.ref s.heap.objs.size, _, I1, rfl, ⟨_, x, rfl, I.hok.fresh (Nat.le_refl _), rfl, fun ys hy => by rw [I.tuple_inj hy hq]; exact hx⟩, ⟨⟨x', ?_⟩, hit'.1.at fun o q => (sb.2 it (Ne.symm hne)).trans q, hne, hai, hae⟩, fun b hb => ?_⟩
    · have e1 : ((i + 1 : Nat) : Int) = (i : Int) + 1 := by omega
      rw [e1]; exact he'
    · have hb' : b < s.heap.objs.size := by
        have e' : b = e ∨ b = it := by simpa using hb
        rcases e' with z | z
        · rw [z]; exact hel
        · rw [z]; exact hil
      rw [upd_ne (Nat.ne_of_lt hb')]
      exact (hf b hb).1
  done := by
    intro X hP hw hK hc i pins s σ H E I hf st hg
    subst hP hw hK
    obtain ⟨⟨old, he⟩, hit, hne, hai, hae⟩ := st
    obtain ⟨xs, hq, hx⟩ := hg
    obtain ⟨its, rv, p, hz⟩ := I.tuple hq
    obtain ⟨f0, f1, f2, f3, f4, f5⟩ := hf it (by simp)
    have hl := rv.length
    unfold pyNext
    have hT : s.TypeIs (.ref e) "enumerate" := ⟨_, he, rfl⟩
    refine wpAny_bind (wpAny_attempt (wpAny_callSpecial?_slot (name := Str.ofString "__next__") hT F.slot_enumerate_next
      (wpAny_call_entry F.slot_enumerate_next hT F.entry_enumerate_next ?_ (F.args_enumerate_next_1 _))))
    show wpAny _ _ (field (.ref e) 2 >>= _) _ _ _
    refine wpAny_bind (wpAny_field he rfl (x := .ref it) rfl ?_)
    refine wpAny_bind (wpAny_nextOf_tuple_end (I.ok.hd hc) hit p (by simp; omega) fun h' x he' hx' => ?_)
    obtain ⟨o, ho, hcx⟩ := hx'
    refine wpAny_bind (wpAny_isInstance (T := "StopIteration") (b := true) ⟨o, ho, hcx⟩ isSubtype_stop ?_)
    exact wpAny_pure ⟨rfl, I.turned (t' := s.toks) (fun b o hb q => he' b o hb q) f0 f1 f3 f4 f5⟩
  self := fun A i s Q E st h => let ⟨⟨_, he⟩, _⟩ := st; wpAny_pyIter_enum he h
def iEnumU (K : PySem.W.Frag) (ta : TA) : TI := fun σ H R => ta σ H fun vs H1 => ∃ a xs, vs = [.ref a] ∧ SqT K H1 a xs ∧ R (Iteu K a) H1
theorem pi_enumU {X : Cx} {e : Expr} {ta : TA} {p pos tpos : Pos} {elts : List Expr} {kk : Nat} (hg : Gl X "enumerate") (hm : X.mg "enumerate" = none) (ha : PA X [e] ta) (hs : starEach [e] X.env = [(false, eval e X.env)] := by rfl) :
    L2.PI X (.Tuple elts kk tpos) (.Call (.Name "enumerate" p) [e] [] pos) (iEnumU X.K ta) := by
  refine ⟨fun pins s σ H R I h => ?_⟩
  refine Call_ (ld_blt I hg hm boot_enumerate (PyProof.Rows.callWith_type1 (thn (ha.run pos pins s σ H _ I h) fun us s1 ⟨vs, H1, I1, r1, q1⟩ => ?_) hs rfl))
  obtain ⟨a, xs, ex, hq, q⟩ := q1
  subst ex
  cases r1 with
  | cons r rr =>
    cases rr
    cases r
    obtain ⟨its, rv, p', hz⟩ := I1.tuple hq
    have hal : a < s1.heap.objs.size := by obtain ⟨o, ho, _⟩ := p'; exact Heap.lt_size ho
    refine call_enumerate_tuple p' fun h' he hit hsz hk => wpAny_pyIter_enum he ?_
    have I2 : Inv X pins σ H1 { s1 with heap := h' } := I1.kept (t' := s1.toks) hk
    refine ⟨s1.heap.objs.size + 1, [s1.heap.objs.size + 1, s1.heap.objs.size], _, _, H1, rfl, I2, turn_enumU a (s1.heap.objs.size + 1) s1.heap.objs.size, ⟨⟨.none, he⟩, hit, Nat.succ_ne_self _, Nat.ne_of_lt hal, Nat.ne_of_lt (Nat.lt_succ_of_lt hal)⟩, fun b hb => ?_, q⟩
    have e' : b = s1.heap.objs.size + 1 ∨ b = s1.heap.objs.size := by simpa using hb
    have hle : s1.heap.objs.size ≤ b := by
      rcases e' with z | z
      · rw [z]; exact Nat.le_add_right _ _
      · rw [z]; exact Nat.le_refl _
    exact I1.fpOk hle (I1.hok.fresh hle)
theorem walk_enumU {K : PySem.W.Frag} {a : Addr} {xs : List V} : Walk (Iteu K a) xs.length (fun H => SqT K H a xs) (YPair (fun i => some (.int (i : Nat))) (fun i => xs[i]?)) := by
  refine ⟨fun i _ hi q => ⟨xs, xs[i], q, by simp [hi]⟩, fun _ q => ⟨xs, q, Nat.le_refl _⟩, fun i H v H' _ q y => ?_⟩
  obtain ⟨T, x, h1, h2, h3, h4⟩ := y
  exact ⟨T, .int (i : Nat), x, h1, h2, h3, rfl, h4 xs q⟩
def enD : Nat → List PI.D → List PI.D
  | _, [] => []
  | i, d :: ds => .tup [.int (i : Int), d] :: enD (i + 1) ds
theorem enD_len : ∀ (ds : List PI.D) (i : Nat), (enD i ds).length = ds.length
  | [], _ => rfl
  | d :: ds, i => congrArg Nat.succ (enD_len ds (i + 1))
theorem enD_get : ∀ (ds : List PI.D) (i j : Nat), (enD i ds)[j]? = ds[j]?.map fun d => PI.D.tup [.int ((i + j : Nat) : Int), d]
  | [], _, _ => by simp [enD]
  | d :: ds, i, 0 => rfl
  | d :: ds, i, j + 1 => by
    show (enD (i + 1) ds)[j]? = (ds[j]?).map _
    rw [enD_get ds (i + 1) j]
    have e : i + 1 + j = i + (j + 1) := by omega
    rw [e]
def iEnumA (K : PySem.W.Frag) (ta : TA) : TI := fun σ H R => iEnum K ta σ H R ∨ iEnumU K ta σ H R
theorem pi_enumA {X : Cx} {e : Expr} {f : EF} {p pos tpos : Pos} {elts : List Expr} {kk : Nat} (he : PE X e (SEr X.K f)) (hm : X.mg "enumerate" = none) (hg : Gl X "enumerate" := by rfl) (hs : starEach [e] X.env = [(false, eval e X.env)] := by rfl) (hs1 : starEach [e] X.env = (false, eval e X.env) :: starEach [] X.env := by rfl) :
    L2.PI X (.Tuple elts kk tpos) (.Call (.Name "enumerate" p) [e] [] pos) (iEnumA X.K (SVr X.K [f])) := ⟨fun pins s σ H R I q => q.elim (fun q => (pi_enum hg hm (sv_cons he sv_nil hs1) hs).run pins s σ H R I q) fun q => (pi_enumU hg hm (sv_cons he sv_nil hs1) hs).run pins s σ H R I q⟩
def srcEn (f : EF) : SrcF := fun env => (f env).bind fun r => (seqD r.1.2).bind fun ds => some (enD 0 ds, r.2)
theorem enum_good {K : PySem.W.Frag} {O1 S1 : Addr → Prop} {H1 : Hp} {J : It} {vs : List V} {ds : List PI.D} {G : Hp → Prop} (w : Walk J vs.length G (YPair (fun i => some (.int (i : Nat))) (fun i => vs[i]?))) (hr : RepAll K S1 H1 vs ds) (hO : ∀ a, O1 a → S1 a)
    (hG : ∀ (H2 : Hp) (S2 : Addr → Prop), (∀ b o, H1 b = some o → ¬ O1 b → H2 b = some o) → (∀ b, S2 b → S1 b ∨ H1 b = none) → G H2) : SrcGood K O1 S1 H1 J (enD 0 ds) := by
  have hl := hr.length
  refine ⟨G, _, by rw [enD_len, ← hl]; exact w, fun H2 S2 h1 h2 h3 => ⟨hG H2 S2 h1 h2, fun i y H' hi hy => ?_⟩⟩
  obtain ⟨T, x0, x, e1, e2, e3, e4, e5⟩ := hy
  cases e4
  obtain ⟨d, hd, rd⟩ := (src_items hr hO h1 h2).getV e5
  subst e1 e3
  refine ⟨keep_upd e2, .tup [.int (i : Nat), d], ?_, rep_tup e2 (fun z => h3 T z e2) (.cons (.int _) (.cons rd .nil))⟩
  rw [enD_get, hd, Nat.zero_add]
  rfl
theorem srcEn_ok {K : PySem.W.Frag} {f : EF} : SrcOk K (iEnumA K (SVr K [f])) (srcEn f) := fun Z env σ H R ds env1 R0 e q => by
  obtain ⟨⟨⟨fr, d⟩, env2⟩, g1, e⟩ := obind e
  obtain ⟨es, g2, e⟩ := obind e
  cases e
  have g2 : seqD d = some es := g2
  cases d with
  | tup xs =>
    cases g2
    refine .inr ⟨Z, env, (fr, .tup es), env2, R0, g1, fun v H1 x => ?_⟩
    obtain ⟨a, vs, rfl, ha, hr⟩ := x.rep.tupD
    exact ⟨a, vs, rfl, ha.sq, q _ H1 x.re x.tr (enum_good walk_enumU hr (fun a z => .inl z) fun H2 S2 h1 h2 => (ha.step (H' := H2) (S' := S2) (fun a o e n => h1 a o e fun z => n (.inl z)) h2).sq)⟩
  | lst xs =>
    cases g2
    refine .inl ⟨Z, env, (fr, .lst es), env2, R0, g1, fun v H1 x => ?_⟩
    have r := x.rep
    cases r with
    | lst h n r =>
      have ha : FrzAt K (Av env2 σ Z) H1 _ _ := .inl ⟨.inl h, n⟩
      exact ⟨_, _, rfl, ha.sq, q _ H1 x.re x.tr (enum_good walk_enum r (fun a z => .inl z) fun H2 S2 h1 h2 => (ha.step (H' := H2) (S' := S2) (fun a o e n => h1 a o e fun z => n (.inl z)) h2).sq)⟩
  | frz xs =>
    cases g2
    refine .inl ⟨Z, env, (fr, .frz es), env2, R0, g1, fun v H1 x => ?_⟩
    obtain ⟨a, vs, rfl, ha, hr⟩ := x.rep.frzD
    exact ⟨a, vs, rfl, ha.sq, q _ H1 x.re x.tr (enum_good walk_enum hr (fun a z => .inl z) fun H2 S2 h1 h2 => (ha.step (H' := H2) (S' := S2) (fun a o e n => h1 a o e fun z => n (.inl z)) h2).sq)⟩
  | _ => cases g2
end PI

namespace PI
open PySem PySem.Spec PyProof.Rows L2
/-! ### methods of texts -/
def emN (f : Str → List PI.D → Option W) (a : Opd) (as : List Opd) : EF := fun env => (a.run env).bind fun r => (r.1.get r.2).bind fun d => match d with
  | .str z => (runs as r.2).bind fun s => (gets s.2 s.1).bind fun ds => (f z ds).bind fun w => some (w, s.2)
  | _ => none
def MnOk (K : PySem.W.Frag) (r : V → List V → Hp → VK → Prop) (f : Str → List PI.D → Option W) : Prop := ∀ (S : Addr → Prop) (H : Hp) (z : Str) (vs : List V) (ds : List PI.D) (w : W) (Q : VK), (∀ a, S a → H a ≠ none) → ViewAll K S H vs ds → f z ds = some w → (∀ v' H', Made K S H w v' H' → Q v' H') → r (.str z) vs H Q
section
variable {K : PySem.W.Frag} {σ : L2.St} {H : Hp}
theorem emN_go {r : V → List V → Hp → VK → Prop} {f : Str → List PI.D → Option W} {a : Opd} {as : List Opd} (p : MnOk K r f) {Q : VK} (h : SEr K (emN f a as) σ H Q) : tBM K "str" r (SOr K a) (SAr K as) σ H Q := by
  obtain ⟨Z, env, w, env', R, e, q⟩ := h
  obtain ⟨s, h1, e⟩ := obind e
  obtain ⟨d, h2, e⟩ := obind e
  cases d with
  | str z =>
    obtain ⟨t, h3, e⟩ := obind e
    obtain ⟨ds, h4, e⟩ := obind e
    obtain ⟨w', h5, e⟩ := obind e
    cases e
    refine SOr.go R h1 fun v H1 R1 t1 o1 => ?_
    have ev := (o1.view R1 h2).strD
    subst ev
    refine ⟨rfl, SAr.go R1 h3 fun vs H2 R2 t2 o2 => p _ H2 z vs ds w Q R2.dom (o2.views R2 h4) h5 fun v' H' m => q v' H' (made_res R2 (t1.trans t2) m)⟩
  | _ => cases e
end
section
variable {X : Cx} {apos cpos : Pos} {o e : Expr} {es : List Expr} {name : Str} {id : String} {r : V → List V → Hp → VK → Prop} {f : Str → List PI.D → Option W} {a : Opd} {as : List Opd}
theorem se_sm (slot : Slot "str" name id) (hty : typeOf (.builtin id) = pure (.type "method_descriptor")) (hm : MtR X id r) (p : MnOk X.K r f) (ho : PE X o (SOr X.K a)) (ha : PA X (e :: es) (SAr X.K as))
    (hbase : attributeBase o name X.env (eval o X.env) = eval o X.env := by rfl)
    (hfew : ((backTo cpos (starEach (e :: es) X.env)).all (fun x => !x.1) && (backToKw cpos (keywordEach [] X.env)).all (fun x => x.1.isSome)
      && decide ((e :: es).length + ([] : List Keyword).length + (if ([] : List Keyword).isEmpty then 0 else 1) < 30)) = true := by rfl)
    (hline : (apos.endLine == cpos.line) = true := by rfl) (hs : starEach (e :: es) X.env = (false, eval e X.env) :: starEach es X.env := by rfl) (hplain : (backTo cpos (starEach es X.env)).any (·.1) = false := by rfl) :
    PE X (.Call (.Attribute o name apos) (e :: es) [] cpos) (SEr X.K (emN f a as)) := PEi (pe_bm PySem.F.plainAttrs_str slot hty hm ho ha hbase hfew hline hs hplain) fun _ _ _ q => emN_go p q
end
def toStrs : List PI.D → Option (List Str)
  | [] => some []
  | .str i :: ds => (toStrs ds).bind fun is => some (i :: is)
  | _ :: _ => none
theorem toStrs_ok : ∀ {ds : List PI.D} {is : List Str}, toStrs ds = some is → ds = is.map PI.D.str
  | [], is, h => by
    cases h
    rfl
  | d :: ds, is, h => by
    cases d with
    | str i =>
      obtain ⟨js, h1, h2⟩ := obind h
      cases h2
      rw [toStrs_ok h1]
      rfl
    | _ => cases h
theorem toStrs_map : ∀ is : List Str, toStrs (is.map PI.D.str) = some is
  | [] => rfl
  | i :: is => by
    show (toStrs (is.map PI.D.str)).bind (fun js => some (i :: js)) = _
    rw [toStrs_map is]
    rfl
def joinB (a : Str) (ys : List Str) : Bool := decide ((ys.map (·.length)).sum + ys.length * a.length ≤ 16777216)
def m_join (z : Str) : List PI.D → Option W
  | [d] => (seqD d).bind fun ds => (toStrs ds).bind fun ys => if joinB z ys then some (false, .str (Txt.join z ys)) else none
  | _ => none
theorem p_join {K : PySem.W.Frag} : MnOk K (fun x xs H Q => ∃ a p, ∃ ys : List Str, x = .str a ∧ xs = [.ref p] ∧ (SqL K H p (ys.map V.str) ∨ SqT K H p (ys.map V.str)) ∧
      (ys.map (·.length)).sum + ys.length * a.length ≤ 16777216 ∧ Q (.str (Txt.join a ys)) H) m_join := fun S H z vs ds w Q hS hv hf q => by
  cases ds with
  | nil => cases hf
  | cons d ds =>
    cases ds with
    | nil =>
      obtain ⟨v, rfl, hx⟩ := views1 hv
      obtain ⟨es, h1, hf⟩ := obind hf
      obtain ⟨ys, h2, hf⟩ := obind hf
      split at hf
      · rename_i hb
        cases hf
        obtain ⟨a, us, rfl, h3, h4⟩ := view_seq hx h1
        rw [toStrs_ok h2] at h4
        have := h4.of_strs
        subst this
        exact ⟨z, a, ys, rfl, rfl, h3, of_decide_eq_true hb, q _ H (made_str _)⟩
      · cases hf
    | cons _ _ => cases hf
def m_split (z : Str) : List PI.D → Option W
  | [.str b] => if (b.length == 0) = false ∧ z.length ≤ 10000000 then some (true, .lst ((Txt.split z b).map PI.D.str)) else none
  | _ => none
theorem p_split {K : PySem.W.Frag} : MnOk K (fun x xs H Q => ∃ a b, x = .str a ∧ xs = [.str b] ∧ (b.length == 0) = false ∧ a.length + 2 ≤ sizeLine ∧ rNewStrs (Txt.split a b) H Q) m_split := fun S H z vs ds w Q hS hv hf q => by
  cases ds with
  | nil => cases hf
  | cons d ds =>
    cases ds with
    | cons _ _ => cases d <;> cases hf
    | nil =>
      obtain ⟨v, rfl, hx⟩ := views1 hv
      cases d with
      | str b =>
        dsimp only [m_split] at hf
        split at hf
        · rename_i hb
          cases hf
          rw [hx.strD]
          exact ⟨z, b, rfl, rfl, hb.1, Nat.le_trans (Nat.add_le_add_right hb.2 2) (by decide), fun p hp => q _ _ (made_lst hp (.strs _))⟩
        · cases hf
      | _ => cases hf
def m_partition (z : Str) : List PI.D → Option W
  | [.str b] => if (b.length == 0) = false ∧ z.length ≤ 10000000 then some (false, .tup [.str (Txt.partition z b).1, .str (Txt.partition z b).2.1, .str (Txt.partition z b).2.2]) else none
  | _ => none
theorem p_partition {K : PySem.W.Frag} : MnOk K (fun x xs H Q => ∃ a b, x = .str a ∧ xs = [.str b] ∧ (b.length == 0) = false ∧ a.length ≤ sizeLine ∧
      ∀ p, H p = none → Q (.ref p) (upd H p (.tup [.str (Txt.partition a b).1, .str (Txt.partition a b).2.1, .str (Txt.partition a b).2.2]))) m_partition := fun S H z vs ds w Q hS hv hf q => by
  cases ds with
  | nil => cases hf
  | cons d ds =>
    cases ds with
    | cons _ _ => cases d <;> cases hf
    | nil =>
      obtain ⟨v, rfl, hx⟩ := views1 hv
      cases d with
      | str b =>
        dsimp only [m_partition] at hf
        split at hf
        · rename_i hb
          cases hf
          rw [hx.strD]
          exact ⟨z, b, rfl, rfl, hb.1, sz7 hb.2, fun p hp => q _ _ (made_tup hp (fun z => hS p z hp) (.strs [_, _, _]))⟩
        · cases hf
      | _ => cases hf
def m_startswith (z : Str) : List PI.D → Option W
  | [.str b] => some (false, .bl (Txt.startswith z b))
  | _ => none
theorem p_startswith {K : PySem.W.Frag} : MnOk K (fun x xs H Q => ∃ a b, x = .str a ∧ xs = [.str b] ∧ Q (.bl (Txt.startswith a b)) H) m_startswith := fun S H z vs ds w Q hS hv hf q => by
  cases ds with
  | nil => cases hf
  | cons d ds =>
    cases ds with
    | cons _ _ => cases d <;> cases hf
    | nil =>
      obtain ⟨v, rfl, hx⟩ := views1 hv
      cases d with
      | str b =>
        cases hf
        rw [hx.strD]
        exact ⟨z, b, rfl, rfl, q _ H (made_bl _)⟩
      | _ => cases hf
def m_find (z : Str) : List PI.D → Option W
  | [.str b, .int i] => some (false, .int (Txt.find3 z b i))
  | _ => none
theorem p_find {K : PySem.W.Frag} : MnOk K (fun x xs H Q => ∃ (a b : Str) (i : Int), x = .str a ∧ xs = [.str b, .int i] ∧ Q (.int (Txt.find3 a b i)) H) m_find := fun S H z vs ds w Q hS hv hf q => by
  match ds, hf, hv with
  | [.str b, .int i], hf, hv =>
    cases hf
    obtain ⟨v, u, rfl, hx, hy⟩ := views2 hv
    rw [hx.strD, hy.intD]
    exact ⟨z, b, i, rfl, rfl, q _ H (made_int _)⟩
def m_index (z : Str) : List PI.D → Option W
  | [.str b] => match Builtin.Str.occurrences z b 0 z.length 1 with
    | i :: _ => some (false, .int (i : Nat))
    | [] => none
  | _ => none
theorem p_index {K : PySem.W.Frag} : MnOk K (fun x xs H Q => ∃ a b i rest, x = .str a ∧ xs = [.str b] ∧ Builtin.Str.occurrences a b 0 a.length 1 = i :: rest ∧ Q (.int (i : Nat)) H) m_index := fun S H z vs ds w Q hS hv hf q => by
  cases ds with
  | nil => cases hf
  | cons d ds =>
    cases ds with
    | cons _ _ => cases d <;> cases hf
    | nil =>
      obtain ⟨v, rfl, hx⟩ := views1 hv
      cases d with
      | str b =>
        dsimp only [m_index] at hf
        split at hf
        · rename_i i rest hb
          cases hf
          rw [hx.strD]
          exact ⟨z, b, i, rest, rfl, rfl, hb, q _ H (made_int _)⟩
        · cases hf
      | _ => cases hf
/-! ### str(int), int(text) -/
def strI (i : Int) : Str := toString i
def strD : PI.D → Option W
  | .int i => if i.natAbs.log2 < 1920 then some (false, .str (strI i)) else none
  | _ => none
theorem p_strD {K : PySem.W.Frag} : PnOk K (fun xs H Q => ∃ i, xs = [.int i] ∧ i.natAbs.log2 < 1920 ∧ Q (.str (toString i)) H) (c1 strD) := p_c1 fun S H v d w Q hS hx hf q => by
  cases d with
  | int i =>
    dsimp only [strD] at hf
    split at hf
    · rename_i hb
      cases hf
      rw [hx.intD]
      exact ⟨i, rfl, hb, q _ H (made_str _)⟩
    · cases hf
  | _ => cases hf
def intX : PI.D → Option W
  | .int i => some (false, .int i)
  | .bl b => some (false, .int (if b then 1 else 0))
  | .str a => if a.length ≤ 640 then (PySem.intText? a).bind fun n => some (false, .int n) else none
  | _ => none
theorem p_intX {K : PySem.W.Frag} : PnOk K (fun xs H Q => ((∃ i, xs = [.int i] ∧ Q (.int i) H) ∨ ∃ k, xs = [.bl k] ∧ Q (.int (if k then 1 else 0)) H) ∨ ∃ a n, xs = [.str a] ∧ PySem.intText? a = some n ∧ a.length ≤ 640 ∧ Q (.int n) H) (c1 intX) := p_c1 fun S H v d w Q hS hx hf q => by
  cases d with
  | int i =>
    cases hf
    rw [hx.intD]
    exact .inl (.inl ⟨i, rfl, q _ H (made_int _)⟩)
  | bl i =>
    cases hf
    rw [hx.blD]
    exact .inl (.inr ⟨i, rfl, q _ H (made_int _)⟩)
  | str a =>
    dsimp only [intX] at hf
    split at hf
    · rename_i hb
      obtain ⟨n, h1, h2⟩ := obind hf
      cases h2
      rw [hx.strD]
      exact .inr ⟨a, n, rfl, h1, hb, q _ H (made_int _)⟩
    · cases hf
  | _ => cases hf
theorem call_intX {X : Cx} : CallR X (.type "int") (fun xs H Q => ((∃ i, xs = [.int i] ∧ Q (.int i) H) ∨ ∃ k, xs = [.bl k] ∧ Q (.int (if k then 1 else 0)) H) ∨ ∃ a n, xs = [.str a] ∧ PySem.intText? a = some n ∧ a.length ≤ 640 ∧ Q (.int n) H) := CallR.or call_int1 call_int_str
/-! ### items, slices, membership with texts -/
def sgn (c : Nat) : Str := ⟨#[c]⟩
def ixS : PI.D → PI.D → Option W
  | .str z, .int i => if z.length ≤ 10000000 then (atI z.cps.toList i).bind fun c => some (false, .str (sgn c)) else none
  | d, e => ixD d e
def rIxX (K : PySem.W.Frag) : R2 := fun x y H Q => rIxA K x y H Q ∨ rIxS x y H Q
theorem ix_X {X : Cx} : IxR X (rIxX X.K) := ix_A.or ix_str
theorem p_ixS {K : PySem.W.Frag} : P2Ok K (rIxX K) ixS := fun S H x y d e w Q hS hx hy hf q => by
  have old : ixD d e = some w → rIxX K x y H Q := fun h => .inl (p_ixD S H x y d e w Q hS hx hy h q)
  cases d with
  | str z =>
    cases e with
    | int i =>
      dsimp only [ixS] at hf
      split at hf
      · rename_i hb
        obtain ⟨c, h1, hf⟩ := obind hf
        cases hf
        rw [hx.strD, hy.intD]
        exact .inr ⟨z, i, c, rfl, rfl, sz7 hb, h1, q _ H (made_str _)⟩
      · cases hf
    | _ => exact old hf
  | _ => exact old hf
def slS : PI.D → Option Int → Option Int → Option W
  | .str z, lo, hi => if z.length ≤ 10000000 then some (false, .str (cutS z lo hi)) else none
  | d, lo, hi => slD d lo hi
theorem sl_X {X : Cx} : SlR X (fun x lo hi H Q => (rSlL X.K x lo hi H Q ∨ rSlA X.K x lo hi H Q) ∨ rSlS x lo hi H Q) := slr_or sl_A sl_str
theorem p_slS {K : PySem.W.Frag} : P3Ok K (fun x lo hi H Q => (rSlL K x lo hi H Q ∨ rSlA K x lo hi H Q) ∨ rSlS x lo hi H Q) slS := fun S H v d lo hi w Q hS hx hf q => by
  have old : slD d lo hi = some w → (fun x lo hi H Q => (rSlL K x lo hi H Q ∨ rSlA K x lo hi H Q) ∨ rSlS x lo hi H Q) v lo hi H Q := fun h => .inl (p_slD S H v d lo hi w Q hS hx h q)
  cases d with
  | str z =>
    dsimp only [slS] at hf
    split at hf
    · rename_i hb
      cases hf
      rw [hx.strD]
      exact .inr ⟨z, rfl, sz7 hb, q _ H (made_str _)⟩
    · cases hf
  | _ => exact old hf
/-- x in xs: ints, texts; a sign in a text -/
def inX (neg : Bool) : PI.D → PI.D → Option W
  | .str x, .str z => match x.cps.toList with
    | [c] => some (false, .bl (if neg then !decide (c ∈ z.cps.toList) else decide (c ∈ z.cps.toList)))
    | _ => none
  | .str x, d => (seqD d).bind fun ds => (toStrs ds).bind fun is => some (false, .bl (if neg then !decide (x ∈ is) else decide (x ∈ is)))
  | d, e => inD neg d e
def rInX (K : PySem.W.Frag) (neg : Bool) : R2 := fun x y H Q => rIn K neg x y H Q ∨ ∃ (c : Nat) (z : Str), x = .str ⟨#[c]⟩ ∧ y = .str z ∧ Q (.bl (if neg then !decide (c ∈ z.cps.toList) else decide (c ∈ z.cps.toList))) H
theorem op_inX {X : Cx} : L2.OpR X (compareOp .In) (rInX X.K false) := opr_or op_in_seq op_in_sign
theorem op_ninX {X : Cx} : L2.OpR X (compareOp .NotIn) (rInX X.K true) := opr_or op_notIn_seq op_notIn_sign
theorem flat_strs' (is : List Str) : (is.map V.str).all flatV = true := by
  induction is with
  | nil => rfl
  | cons i is ih => exact ih
theorem inV_strs (i : Str) (is : List Str) : inV (.str i) (is.map V.str) = decide (i ∈ is) := by
  unfold inV
  induction is with
  | nil => rfl
  | cons j is ih =>
    rw [List.map_cons, List.any_cons, ih]
    show ((j == i) || decide (i ∈ is)) = _
    by_cases h : i = j
    · subst h
      simp
    · have h2 : (j == i) = false := beq_eq_false_iff_ne.mpr fun e => h e.symm
      simp [h2, h]
theorem p_inX {K : PySem.W.Frag} {neg : Bool} : P2Ok K (rInX K neg) (inX neg) := fun S H x y d e w Q hS hx hy hf q => by
  have old : inD neg d e = some w → rInX K neg x y H Q := fun h => .inl (p_inD S H x y d e w Q hS hx hy h q)
  have sq : ∀ z es, d = .str z → seqD e = some es → ((toStrs es).bind fun is => some (false, PI.D.bl (if neg then !decide (z ∈ is) else decide (z ∈ is)))) = some w → rInX K neg x y H Q := fun z es h0 h1 hg => by
    subst h0
    obtain ⟨is, h2, hg⟩ := obind hg
    cases hg
    obtain ⟨a, vs, rfl, h3, h4⟩ := view_seq hy h1
    rw [toStrs_ok h2] at h4
    have := h4.of_strs
    subst this
    rw [hx.strD]
    refine .inl ⟨a, _, rfl, h3, rfl, flat_strs' is, ?_⟩
    rw [inV_strs]
    exact q _ H (made_bl _)
  cases d with
  | str z =>
    cases e with
    | str t =>
      dsimp only [inX] at hf
      split at hf
      · rename_i c hc
        cases hf
        have ez : z = ⟨#[c]⟩ := Str.ext' (Array.toList_inj.mp hc)
        subst ez
        rw [hx.strD, hy.strD]
        exact .inr ⟨c, t, rfl, rfl, q _ H (made_bl _)⟩
      · cases hf
    | tup es => exact sq z es rfl rfl hf
    | lst es => exact sq z es rfl rfl hf
    | frz es => exact sq z es rfl rfl hf
    | _ => cases hf
  | _ => exact old hf
/-- x is True, x is False -/
def isBD : PI.D → PI.D → Option W
  | .bl a, .bl b => some (false, .bl (decide (a = b)))
  | _, _ => none
theorem p_isBD {K : PySem.W.Frag} : P2Ok K rIsB isBD := fun S H x y d e w Q hS hx hy hf q => by
  cases d with
  | bl a =>
    cases e with
    | bl b =>
      cases hf
      exact ⟨a, b, hx.blD, hy.blD, q _ H (made_bl _)⟩
    | _ => cases hf
  | _ => cases hf
/-! ### walks over texts -/
def iAnyS (K : PySem.W.Frag) (t : TE) : TI := fun σ H R => iAny K t σ H R ∨ iStr t σ H R
end PI

namespace PI
open PySem PySem.Spec PyProof.Rows L2
/-! ### times -/
def rMulS : R2 := fun x y H Q => ∃ (a : Str) (i : Int), x = .str a ∧ y = .int i ∧ (i = 0 ∨ i = 1) ∧ Q (.str (if i = 0 then Str.empty else a)) H
theorem op_mulS {X : Cx} : L2.OpR X (binaryOp .Mult) rMulS := by
  intro pins s σ H x y v u Q I rx ry h
  obtain ⟨a, i, rfl, rfl, hi, q⟩ := h
  obtain ⟨t, rfl⟩ := rx
  obtain ⟨t', rfl⟩ := ry
  rcases hi with rfl | rfl
  · exact PySem.P.mul_str_none (by decide) (by decide) ⟨.str Str.empty, H, I.tok _, ⟨_, rfl⟩, q⟩
  · refine PySem.P.mul_str (by decide) (fun _ h => absurd h (by simp)) (fun _ h => absurd h (by simp)) ?_
    rw [if_neg (by decide), if_pos (by simp)]
    exact ⟨.str a, H, I, ⟨t, rfl⟩, q⟩
def mulX : PI.D → PI.D → Option W
  | .str a, .int i => if i = 0 ∨ i = 1 then some (false, .str (if i = 0 then Str.empty else a)) else none
  | .lst ds, .int k => if 0 ≤ k ∧ k ≤ 1000 ∧ ds.length ≤ 1000 then some (true, .lst (List.replicate k.toNat ds).flatten) else none
  | d, e => mulD d e
def rMulXX : R2 := fun x y H Q => (rI CMulX (fun i j => .int (i * j)) x y H Q ∨ rMulS x y H Q) ∨ rRep x y H Q
theorem op_mulXX {X : Cx} : L2.OpR X (binaryOp .Mult) rMulXX := opr_or (opr_or op_mulX op_mulS) op_rep
theorem RepAll.flat {K : PySem.W.Frag} {S : Addr → Prop} {H : Hp} {vs : List V} {ds : List PI.D} (r : RepAll K S H vs ds) : ∀ n : Nat, RepAll K S H (List.replicate n vs).flatten (List.replicate n ds).flatten
  | 0 => .nil
  | n + 1 => by
    rw [List.replicate_succ, List.replicate_succ, List.flatten_cons, List.flatten_cons]
    exact r.append (RepAll.flat r n)
theorem p_mulX {K : PySem.W.Frag} : P2Ok K rMulXX mulX := fun S H x y d e w Q hS hx hy hf q => by
  have old : mulD d e = some w → rMulXX x y H Q := fun h => .inl (.inl (p_mulD S H x y d e w Q hS hx hy h q))
  cases d with
  | str a =>
    cases e with
    | int i =>
      dsimp only [mulX] at hf
      split at hf
      · rename_i hb
        cases hf
        exact .inl (.inr ⟨a, i, hx.strD, hy.intD, hb, q _ H (made_str _)⟩)
      · cases hf
    | _ => exact old hf
  | lst ds =>
    cases e with
    | int k =>
      dsimp only [mulX] at hf
      split at hf
      · rename_i hb
        cases hf
        obtain ⟨a, vs, rfl, h1, h2⟩ := hx.lst
        refine .inr ⟨a, k, vs, rfl, hy.intD, h1, by omega, by omega, ?_, fun p hp => q _ _ (made_lst hp (h2.flat _))⟩
        rw [h2.length]
        exact Nat.le_trans (Nat.mul_le_mul hb.2.2 (show k.toNat ≤ 1000 by omega)) (by decide)
      · cases hf
    | _ => exact old hf
  | _ => exact old hf
/-! ### sorted(set(xs)), xs a list of tuples of ints -/
def lexB : List Int → List Int → Bool
  | [], [] => false
  | [], _ :: _ => true
  | _ :: _, [] => false
  | a :: as, b :: bs => if a < b then true else if a = b then lexB as bs else false
def insU (k : List Int) : List (List Int) → List (List Int)
  | [] => [k]
  | m :: r => if lexB k m then k :: m :: r else if k = m then m :: r else m :: insU k r
def ssort (ks : List (List Int)) : List (List Int) := ks.foldr insU []
theorem lexB_irr : ∀ a : List Int, lexB a a = false
  | [] => rfl
  | a :: as => by
    unfold lexB
    rw [if_neg (Int.lt_irrefl a), if_pos rfl]
    exact lexB_irr as
theorem lexB_trans : ∀ {a b c : List Int}, lexB a b = true → lexB b c = true → lexB a c = true
  | [], [], _, h, _ => by cases h
  | [], _ :: _, [], _, h => by cases h
  | [], _ :: _, _ :: _, _, _ => rfl
  | _ :: _, [], _, h, _ => by cases h
  | _ :: _, _ :: _, [], _, h => by cases h
  | a :: as, b :: bs, c :: cs, h1, h2 => by
    unfold lexB at h1 h2 ⊢
    by_cases e1 : a < b
    · by_cases e2 : b < c
      · rw [if_pos (Int.lt_trans e1 e2)]
      · rw [if_neg e2] at h2
        by_cases e3 : b = c
        · subst e3
          rw [if_pos e1]
        · rw [if_neg e3] at h2
          cases h2
    · rw [if_neg e1] at h1
      by_cases e3 : a = b
      · subst e3
        rw [if_pos rfl] at h1
        by_cases e2 : a < c
        · rw [if_pos e2]
        · rw [if_neg e2] at h2 ⊢
          by_cases e4 : a = c
          · rw [if_pos e4] at h2 ⊢
            exact lexB_trans h1 h2
          · rw [if_neg e4] at h2
            cases h2
      · rw [if_neg e3] at h1
        cases h1
theorem lexB_tri : ∀ {a b : List Int}, lexB a b = false → a ≠ b → lexB b a = true
  | [], [], _, h => absurd rfl h
  | [], _ :: _, h, _ => by cases h
  | _ :: _, [], _, _ => rfl
  | a :: as, b :: bs, h, hne => by
    unfold lexB at h ⊢
    by_cases e1 : a < b
    · rw [if_pos e1] at h
      cases h
    · rw [if_neg e1] at h
      by_cases e3 : a = b
      · subst e3
        rw [if_pos rfl] at h
        rw [if_neg e1, if_pos rfl]
        exact lexB_tri h fun e => hne (by rw [e])
      · rw [if_pos (by omega)]
theorem insU_mem {k x : List Int} : ∀ {l : List (List Int)}, x ∈ insU k l ↔ x = k ∨ x ∈ l
  | [] => by simp [insU]
  | m :: r => by
    unfold insU
    by_cases h1 : lexB k m = true
    · rw [if_pos h1, List.mem_cons]
    · rw [if_neg h1]
      by_cases h2 : k = m
      · rw [if_pos h2]
        subst h2
        simp
      · rw [if_neg h2, List.mem_cons, insU_mem, List.mem_cons]
        constructor
        · rintro (h | h | h)
          · exact .inr (.inl h)
          · exact .inl h
          · exact .inr (.inr h)
        · rintro (h | h | h)
          · exact .inr (.inl h)
          · exact .inl h
          · exact .inr (.inr h)
theorem insU_sorted {k : List Int} : ∀ {l : List (List Int)}, l.Pairwise (fun a b => lexB a b = true) → (insU k l).Pairwise fun a b => lexB a b = true
  | [], _ => .cons (fun _ h => by cases h) .nil
  | m :: r, h => by
    obtain ⟨h1, h2⟩ := List.pairwise_cons.mp h
    unfold insU
    by_cases c1 : lexB k m = true
    · rw [if_pos c1]
      refine .cons (fun x hx => ?_) h
      rcases List.mem_cons.mp hx with rfl | hx
      · exact c1
      · exact lexB_trans c1 (h1 x hx)
    · rw [if_neg c1]
      by_cases c2 : k = m
      · rw [if_pos c2]
        exact h
      · rw [if_neg c2]
        refine .cons (fun x hx => ?_) (insU_sorted h2)
        rcases insU_mem.mp hx with rfl | hx
        · exact lexB_tri (by simpa using c1) c2
        · exact h1 x hx
theorem ssort_mem {x : List Int} : ∀ {l : List (List Int)}, x ∈ ssort l ↔ x ∈ l
  | [] => by simp [ssort]
  | k :: l => by
    show x ∈ insU k (ssort l) ↔ _
    rw [insU_mem, ssort_mem, List.mem_cons]
theorem ssort_sorted : ∀ l : List (List Int), (ssort l).Pairwise fun a b => lexB a b = true
  | [] => .nil
  | k :: l => insU_sorted (ssort_sorted l)
theorem sorted_eq : ∀ {l m : List (List Int)}, l.Pairwise (fun a b => lexB a b = true) → m.Pairwise (fun a b => lexB a b = true) → (∀ x, x ∈ l ↔ x ∈ m) → l = m
  | [], [], _, _, _ => rfl
  | [], b :: m, _, _, h => absurd ((h b).mpr List.mem_cons_self) (by simp)
  | a :: l, [], _, _, h => absurd ((h a).mp List.mem_cons_self) (by simp)
  | a :: l, b :: m, h1, h2, h => by
    obtain ⟨p1, p2⟩ := List.pairwise_cons.mp h1
    obtain ⟨q1, q2⟩ := List.pairwise_cons.mp h2
    have e : a = b := by
      rcases List.mem_cons.mp ((h a).mp List.mem_cons_self) with e | e
      · exact e
      · rcases List.mem_cons.mp ((h b).mpr List.mem_cons_self) with e' | e'
        · exact e'.symm
        · have := lexB_trans (p1 b e') (q1 a e)
          rw [lexB_irr] at this
          cases this
    subst e
    rw [sorted_eq p2 q2 fun x => ?_]
    have hx := h x
    rw [List.mem_cons, List.mem_cons] at hx
    constructor
    · intro hl
      rcases hx.mp (.inr hl) with e | e
      · subst e
        have := p1 x hl
        rw [lexB_irr] at this
        cases this
      · exact e
    · intro hl
      rcases hx.mpr (.inr hl) with e | e
      · subst e
        have := q1 x hl
        rw [lexB_irr] at this
        cases this
      · exact e
theorem code_bd {B : Int} (hB : 0 < B) : ∀ {a : List Int}, TS.Bd B a → 0 ≤ TS.code B a ∧ TS.code B a < B ^ a.length
  | [], _ => ⟨Int.le_refl _, by show (0 : Int) < B ^ 0; rw [Int.pow_zero]; decide⟩
  | d :: r, h => by
    obtain ⟨c0, c1⟩ := code_bd hB h.tail
    obtain ⟨d0, d1⟩ := h.head
    have := TS.num1 (P := B ^ r.length) c0 c1 d0 d1
    refine ⟨this.1, ?_⟩
    show d * B ^ r.length + TS.code B r < B ^ (r.length + 1)
    rw [Int.pow_succ]
    exact this.2
theorem code_lex {B : Int} (hB : 0 < B) : ∀ {a b : List Int}, a.length = b.length → TS.Bd B a → TS.Bd B b → TS.code B a ≤ TS.code B b → a ≠ b → lexB a b = true
  | [], [], _, _, _, _, h => absurd rfl h
  | [], _ :: _, h, _, _, _, _ => by cases h
  | _ :: _, [], h, _, _, _, _ => by cases h
  | x :: a, y :: b, hl, ha, hb, hc, hne => by
    have hl' : a.length = b.length := Nat.succ.inj hl
    have hc : x * B ^ a.length + TS.code B a ≤ y * B ^ b.length + TS.code B b := hc
    obtain ⟨a0, a1⟩ := code_bd hB ha.tail
    obtain ⟨b0, b1⟩ := code_bd hB hb.tail
    rw [← hl'] at hc b1
    have hP : 0 < B ^ a.length := Int.pow_pos hB
    unfold lexB
    by_cases e : x < y
    · rw [if_pos e]
    · rw [if_neg e]
      by_cases e2 : x = y
      · subst e2
        rw [if_pos rfl]
        exact code_lex hB hl' ha.tail hb.tail (by omega) fun e => hne (by rw [e])
      · exfalso
        have h1 : y + 1 ≤ x := by omega
        have h2 : (y + 1) * B ^ a.length ≤ x * B ^ a.length := Int.mul_le_mul_of_nonneg_right h1 (by omega)
        rw [Int.add_mul, Int.one_mul] at h2
        omega
def toTups : List PI.D → Option (List (List Int))
  | [] => some []
  | .tup ds :: r => (toInts ds).bind fun k => (toTups r).bind fun ks => some (k :: ks)
  | _ :: _ => none
theorem toTups_map : ∀ ks : List (List Int), toTups (ks.map fun k => PI.D.tup (zL k)) = some ks
  | [] => rfl
  | k :: ks => by
    show (toInts (k.map PI.D.int)).bind (fun k => (toTups (ks.map fun k => PI.D.tup (zL k))).bind fun ks => some (k :: ks)) = _
    rw [toInts_map, toTups_map ks]
    rfl
def okSS : List (List Int) → Bool
  | [] => true
  | k :: ks => decide (0 < k.length) && ((k :: ks).all fun m => decide (m.length = k.length) && m.all fun i => decide (0 ≤ i)) && decide ((k :: ks).length < 64)
def ssD : PI.D → Option W
  | .lst ds => (toTups ds).bind fun ks => if okSS ks then some (true, .lst ((ssort ks).map fun k => PI.D.tup (zL k))) else none
  | _ => none
def bigB : List (List Int) → Int
  | [] => 1
  | k :: ks => k.sum + bigB ks
theorem le_sum : ∀ {k : List Int}, (∀ i ∈ k, 0 ≤ i) → 0 ≤ k.sum ∧ ∀ i ∈ k, i ≤ k.sum
  | [], _ => ⟨by simp, fun _ h => by cases h⟩
  | a :: k, h => by
    obtain ⟨h1, h2⟩ := le_sum fun i hi => h i (List.mem_cons_of_mem _ hi)
    have ha := h a List.mem_cons_self
    rw [List.sum_cons]
    refine ⟨by omega, fun i hi => ?_⟩
    rcases List.mem_cons.mp hi with rfl | hi
    · omega
    · have := h2 i hi
      omega
theorem bigB_ok : ∀ {ks : List (List Int)}, (∀ k ∈ ks, ∀ i ∈ k, 0 ≤ i) → 1 ≤ bigB ks ∧ ∀ k ∈ ks, TS.Bd (bigB ks) k
  | [], _ => ⟨Int.le_refl _, fun _ h => by cases h⟩
  | k :: ks, h => by
    obtain ⟨h1, h2⟩ := bigB_ok fun m hm => h m (List.mem_cons_of_mem _ hm)
    obtain ⟨h3, h4⟩ := le_sum (h k List.mem_cons_self)
    show 1 ≤ k.sum + bigB ks ∧ ∀ m ∈ k :: ks, TS.Bd (k.sum + bigB ks) m
    refine ⟨by omega, fun m hm i hi => ?_⟩
    rcases List.mem_cons.mp hm with rfl | hm
    · have := h4 i hi
      exact ⟨h m List.mem_cons_self i hi, by omega⟩
    · have := h2 m hm i hi
      exact ⟨this.1, by omega⟩
theorem okSS_of {ks : List (List Int)} (h : okSS ks = true) : ks.length < 64 ∧ (∀ k ∈ ks, ∀ i ∈ k, 0 ≤ i) ∧ ∃ d, 1 ≤ d ∧ ∀ k ∈ ks, k.length = d := by
  cases ks with
  | nil => exact ⟨by simp, fun _ h => (nomatch h), 1, Nat.le_refl _, fun _ h => (nomatch h)⟩
  | cons k ks =>
    unfold okSS at h
    obtain ⟨h1, h3⟩ := Bool.and_eq_true_iff.mp h
    obtain ⟨h1, h2⟩ := Bool.and_eq_true_iff.mp h1
    refine ⟨of_decide_eq_true h3, fun m hm i hi => ?_, k.length, of_decide_eq_true h1, fun m hm => ?_⟩
    · have := (Bool.and_eq_true_iff.mp (List.all_eq_true.mp h2 m hm)).2
      exact of_decide_eq_true (List.all_eq_true.mp this i hi)
    · exact of_decide_eq_true (Bool.and_eq_true_iff.mp (List.all_eq_true.mp h2 m hm)).1
theorem tups_of {K : PySem.W.Frag} {S : Addr → Prop} {H : Hp} : ∀ {vs : List V} {ds : List PI.D} {ks : List (List Int)}, RepAll K S H vs ds → toTups ds = some ks → ∃ ps : List (Addr × List Int), vs = ps.map (fun p => V.ref p.1) ∧ ks = ps.map (·.2) ∧ ∀ p ∈ ps, TupAt K S H p.1 (p.2.map V.int)
  | _, _, ks, .nil, e => by
    cases e
    exact ⟨[], rfl, rfl, fun _ h => by cases h⟩
  | _, _, ks, .cons (d := d) r t, e => by
    cases d with
    | tup ds =>
      obtain ⟨k, h1, e⟩ := obind e
      obtain ⟨ks', h2, e⟩ := obind e
      cases e
      obtain ⟨a, us, rfl, ha, hr⟩ := r.tupD
      rw [toInts_ok h1] at hr
      have := hr.of_ints
      subst this
      obtain ⟨ps, e1, e2, e3⟩ := tups_of t h2
      refine ⟨(a, k) :: ps, by rw [e1]; rfl, by rw [e2]; rfl, fun p hp => ?_⟩
      rcases List.mem_cons.mp hp with rfl | hp
      · exact ha
      · exact e3 p hp
    | _ => cases e
theorem rep_tups {K : PySem.W.Frag} {S : Addr → Prop} {H : Hp} : ∀ {ps : List (Addr × List Int)}, (∀ p ∈ ps, TupAt K S H p.1 (p.2.map V.int)) → RepAll K S H (ps.map fun p => V.ref p.1) ((ps.map (·.2)).map fun k => PI.D.tup (zL k))
  | [], _ => .nil
  | p :: ps, h => .cons (.tup (h p List.mem_cons_self) (.ints _)) (rep_tups fun q hq => h q (List.mem_cons_of_mem _ hq))
def rSS (X : Cx) : V → Hp → VK → Prop := fun x H Q => ∃ vs, vs = [x] ∧ rSetOfT X.K X.prog X.w vs H fun y H1 => ∃ ws, ws = [y] ∧ rSortedT X.K X.prog X.w ws H1 Q
theorem p_ss {X : Cx} : P1Ok X.K (rSS X) ssD := fun S H v d w Q hS hx hf q => by
  cases d with
  | lst ds =>
    obtain ⟨ks, h1, hf⟩ := obind hf
    split at hf
    · rename_i hok
      cases hf
      obtain ⟨l, vs, rfl, h2, h3⟩ := hx.lst
      obtain ⟨ps, rfl, rfl, h4⟩ := tups_of h3 h1
      obtain ⟨o1, o2, dd, o3, o4⟩ := okSS_of hok
      refine ⟨_, rfl, l, ps, rfl, .inl (.inl h2), fun p hp => (h4 p hp).sq, by simpa using o1, fun a L ha hL1 hL2 => ?_⟩
      obtain ⟨b1, b2⟩ := bigB_ok o2
      have up : ∀ p ∈ ps, TupAt X.K S (upd H a (SetTO X.prog X.w a L)) p.1 (p.2.map V.int) := fun p hp => (h4 p hp).step (fun b o e _ => keep_upd ha b o e) fun b z => .inl z
      refine ⟨_, rfl, a, L, dd, bigB (ps.map (·.2)), rfl, upd_same, fun p hp => (up p (hL1 p hp)).sq, o3, fun p hp => ⟨o4 _ (List.mem_map_of_mem (hL1 p hp)), b2 _ (List.mem_map_of_mem (hL1 p hp))⟩, fun L' p pm nd hfew pw hp => ?_⟩
      have e : L'.map (·.2) = ssort (ps.map (·.2)) := by
        refine sorted_eq ?_ (ssort_sorted _) fun x => ?_
        · rw [List.pairwise_map]
          have nd2 : L'.Pairwise fun a b => a.2 ≠ b.2 := List.pairwise_map.mp nd
          refine (pw.and nd2).imp_of_mem fun {x y} hx hy h => ?_
          have mx := hL1 x (pm.mem_iff.mp hx)
          have my := hL1 y (pm.mem_iff.mp hy)
          exact code_lex (by omega) ((o4 _ (List.mem_map_of_mem mx)).trans (o4 _ (List.mem_map_of_mem my)).symm) (b2 _ (List.mem_map_of_mem mx)) (b2 _ (List.mem_map_of_mem my)) h.1 h.2
        · rw [ssort_mem]
          constructor
          · intro hx
            obtain ⟨z, hz, rfl⟩ := List.mem_map.mp hx
            exact List.mem_map_of_mem (hL1 z (pm.mem_iff.mp hz))
          · intro hx
            obtain ⟨z, hz, rfl⟩ := List.mem_map.mp hx
            obtain ⟨z', hz', e⟩ := List.mem_map.mp (hL2 z hz)
            rw [← e]
            exact List.mem_map_of_mem (pm.mem_iff.mpr hz')
      have hn : H p = none := by
        cases g : H p with
        | none => rfl
        | some o =>
          rw [keep_upd ha p o g] at hp
          cases hp
      have kp : ∀ b o, H b = some o → upd (upd H a (SetTO X.prog X.w a L)) p (.lst (L'.map fun q => V.ref q.1)) b = some o := fun b o g => keep_upd hp b o (keep_upd ha b o g)
      rw [← e] at q
      refine q _ _ ⟨kp, fun _ => ⟨p, _, _, rfl, rfl, hn, upd_same, ?_⟩, fun z => (nomatch z)⟩
      refine rep_tups fun z hz => (h4 z (hL1 z (pm.mem_iff.mp hz))).step (fun b o g _ => kp b o g) fun b z => z.imp id fun z => by rw [z]; exact hn
    · cases hf
  | _ => cases hf
theorem SOr_imp {K : PySem.W.Frag} {o : Opd} {σ : L2.St} {H : Hp} {Q Q' : VK} (h : SOr K o σ H Q) (i : ∀ v H1, Q v H1 → Q' v H1) : SOr K o σ H Q' := by
  cases o with
  | ex f =>
    obtain ⟨Z, env, w, env', R, e, q⟩ := h
    exact ⟨Z, env, w, env', R, e, fun v H' x => i v H' (q v H' x)⟩
  | sl k =>
    obtain ⟨v, e, q⟩ := h
    exact ⟨v, e, i v H q⟩
theorem se_ss {X : Cx} {p1 p2 c1 c2 : Pos} {e : Expr} {o : Opd} (hc : X.calm = true) (hu : X.A.units + 64 < cLine) (he : PE X e (SOr X.K o)) (hm : X.mg "sorted" = none) (hm2 : X.mg "set" = none) (hv : bootBuiltins "sorted" = some (.builtin "sorted")) (hv2 : bootBuiltins "set" = some (.type "set")) (hg : Gl X "sorted" := by rfl) (hg2 : Gl X "set" := by rfl)
    (hs1 : starEach [.Call (.Name "set" p2) [e] [] c2] X.env = (false, eval (.Call (.Name "set" p2) [e] [] c2) X.env) :: starEach [] X.env := by rfl) (hs2 : starEach [e] X.env = (false, eval e X.env) :: starEach [] X.env := by rfl) :
    PE X (.Call (.Name "sorted" p1) [.Call (.Name "set" p2) [e] [] c2] [] c1) (SEr X.K (e1 ssD o)) := by
  have h2 : PE X (.Call (.Name "set" p2) [e] [] c2) _ := pe_callTy (cr_setOfT hc hu) hg2 hm2 hv2 (pa_cons he pa_nil hs2) (by decide) (by decide) hs2 (by rfl)
  refine PEi (pe_callB (cr_sortedT hc) hg hm hv (pa_cons h2 pa_nil hs1) (by decide) (by decide) hs1 (by rfl)) fun σ H Q q => ?_
  refine SOr_imp (e1_go (r := rSS X) p_ss q) fun v H1 h => ?_
  obtain ⟨_, rfl, l, ks, a1, a2, a3, a4, a5⟩ := h
  refine ⟨l, ks, a1, a2, a3, a4, fun a L b1 b2 b3 => ?_⟩
  obtain ⟨_, rfl, r⟩ := a5 a L b1 b2 b3
  exact r
end PI

namespace PI
open PySem PySem.Spec PyProof.Rows L2
/-! ### a, b = x, y stored from the left, the pair itself untracked -/
def tParN (n : Nat) (ta : TA) (t : TGs) : TS := fun D σ H => ta σ H fun vs H1 => vs.length = n ∧ n ≤ 1000 ∧ t vs σ H1 D.nx
theorem ps_parN {X : Cx} {ts es : List Expr} {kt k2 : Nat} {pt pt2 pos : Pos} {ta : TA} {t : TGs} {n : Nat} (hc : X.calm = true) (ha : PA X es ta) (hg : PGs X ts t) (hn : (assignEach ts X.env).length = n := by rfl) (hst : (assignEach ts X.env).findIdx? (·.1) = none := by rfl)
    (hw : swappedStores [.Tuple ts kt pt] (.Tuple es k2 pt2) X.env = pure none := by rfl)
    (hs : swapsWithSole [.Tuple ts kt pt] (.Tuple es k2 pt2) pos.line X.env = pure false := by rfl)
    (h1 : (assignEach [.Tuple ts kt pt] X.env).map (·.2) = [assign (.Tuple ts kt pt) X.env] := by rfl) : PS X (.Assign [.Tuple ts kt pt] (.Tuple es k2 pt2) pos) (tParN n ta t) := by
  refine ⟨fun pins s σ H D I h => ?_⟩
  refine wpAny_Assign_stores (Tuple_ (thn (ha.run _ pins s σ H _ I h) fun us s1 ⟨vs, H1, I1, r1, hl, hn2, q1⟩ => ?_)) hs hw
  have hlu : us.length = n := by rw [← r1.length]; exact hl
  refine wpAny_newObj_type ?_ (by show us.length ≤ sizeLine; rw [hlu]; exact Nat.le_of_lt (small1000 (by omega)))
  have I2 : Inv X pins σ H1 { s1 with heap := s1.heap.push { cls := .type "tuple", data := .seq us.toArray } } := I1.kept (t' := s1.toks) fun b o e => Heap.get?_push_of_some _ e
  rw [h1]
  have ht : IsTup (s1.heap.push { cls := .type "tuple", data := .seq us.toArray }) s1.heap.objs.size us.toArray := IsTup.new s1.heap _
  show wpAny _ _ (assign (.Tuple ts kt pt) X.env (.ref s1.heap.objs.size)) _ _ _
  refine assign_Tuple_tuple (I.ok.hd hc) ht (by simp [hn, hlu]) hst fun h' hx => ?_
  have I3 : Inv X pins σ H1 { s1 with heap := h' } := I2.kept (t' := s1.toks) fun b o e => hx b o (Nat.ne_of_lt (Heap.lt_size e)) e
  exact thn (hg.run pins _ σ H1 vs us _ I3 (by simpa using r1) q1) fun _ s2 q => q
theorem SVr_imp {K : PySem.W.Frag} {σ : L2.St} : ∀ {fs : List EF} {H : Hp} {Q Q' : List V → Hp → Prop}, SVr K fs σ H Q → (∀ vs H1, Q vs H1 → Q' vs H1) → SVr K fs σ H Q'
  | [], H, Q, Q', h, i => i _ _ h
  | f :: fs, H, Q, Q', h, i => by
    obtain ⟨Z, env, w, env', R, e, q⟩ := h
    exact ⟨Z, env, w, env', R, e, fun v H' x => SVr_imp (q v H' x) fun vs H1 z => i _ _ z⟩
def gN2 (i j : Nat) : TGs := gCons (gName i) (gCons (gName j) gNil)
def gN3 (i j k : Nat) : TGs := gCons (gName i) (gCons (gName j) (gCons (gName k) gNil))
section
variable {K : PySem.W.Frag} {P : List Nat} {σ : L2.St} {H : Hp} {D : Ends}
theorem sPar2N_go {i j : Nat} {f g : EF} (h : SSr K P (sPar2 P i j f g) D σ H) : tParN 2 (SVr K [f, g]) (gN2 i j) D σ H := by
  obtain ⟨Z, env, c, env', R, e, q⟩ := h
  have h2 := sPar2_go (K := K) (D := D) ⟨Z, env, c, env', R, e, q⟩
  refine SVr_imp h2 fun vs H1 h => ?_
  obtain ⟨v, w, rfl, q⟩ := h
  exact ⟨rfl, by decide, v, [w], rfl, w, [], rfl, rfl, q⟩
theorem sPar3N_go {i j k : Nat} {f g x : EF} (h : SSr K P (sPar3 P i j k f g x) D σ H) : tParN 3 (SVr K [f, g, x]) (gN3 i j k) D σ H := by
  obtain ⟨Z, env, c, env', R, e, q⟩ := h
  have h2 := sPar3_go (K := K) (D := D) ⟨Z, env, c, env', R, e, q⟩
  refine SVr_imp h2 fun vs H1 h => ?_
  obtain ⟨v, w, u, rfl, q⟩ := h
  exact ⟨rfl, by decide, v, [w, u], rfl, w, [u], rfl, u, [], rfl, rfl, q⟩
end
section
variable {X : Cx} {pos : Pos} {P : List Nat}
theorem ss_par2n (i j : Nat) {x y : Str} {a b : Expr} {f g : EF} {px py pt : Pos} {kt k2 pt2} (ha : PA X [a, b] (SVr X.K [f, g])) (hc : X.calm = true) (hN : X.N.Nodup) (hi : X.N[i]? = some x := by rfl) (hj : X.N[j]? = some y := by rfl)
    (hx : Loc X.env.scope x := by first | exact Or.inl rfl | exact Or.inr rfl) (hy : Loc X.env.scope y := by first | exact Or.inl rfl | exact Or.inr rfl) (hfx : X.fn x = true ∨ X.env.scope.names.lookup x = some .local := by first | exact .inl rfl | exact .inr rfl) (hfy : X.fn y = true ∨ X.env.scope.names.lookup y = some .local := by first | exact .inl rfl | exact .inr rfl)
    (hn : (assignEach [.Name x px, .Name y py] X.env).length = 2 := by rfl) (hst : (assignEach [.Name x px, .Name y py] X.env).findIdx? (·.1) = none := by rfl)
    (hg1 : (assignEach [.Name x px, .Name y py] X.env).map (·.2) = assign (.Name x px) X.env :: (assignEach [.Name y py] X.env).map (·.2) := by rfl) (hg2 : (assignEach [.Name y py] X.env).map (·.2) = assign (.Name y py) X.env :: (assignEach [] X.env).map (·.2) := by rfl)
    (hw : swappedStores [.Tuple [.Name x px, .Name y py] kt pt] (.Tuple [a, b] k2 pt2) X.env = pure none := by rfl)
    (hs : swapsWithSole [.Tuple [.Name x px, .Name y py] kt pt] (.Tuple [a, b] k2 pt2) pos.line X.env = pure false := by rfl)
    (h1 : (assignEach [.Tuple [.Name x px, .Name y py] kt pt] X.env).map (·.2) = [assign (.Tuple [.Name x px, .Name y py] kt pt) X.env] := by rfl) :
    PS X (.Assign [.Tuple [.Name x px, .Name y py] kt pt] (.Tuple [a, b] k2 pt2) pos) (SSr X.K P (sPar2 P i j f g)) := PSi (ps_parN (t := gN2 i j) hc ha (pgs_cons (pg_name hN hi hx hfx) (pgs_cons (pg_name hN hj hy hfy) pgs_nil hg2) hg1) hn hst hw hs h1) fun _ _ _ q => sPar2N_go q
theorem ss_par3n (i j l : Nat) {x y z : Str} {a b c : Expr} {f g h : EF} {px py pz pt : Pos} {kt k2 pt2} (ha : PA X [a, b, c] (SVr X.K [f, g, h])) (hc : X.calm = true) (hN : X.N.Nodup) (hi : X.N[i]? = some x := by rfl) (hj : X.N[j]? = some y := by rfl) (hl : X.N[l]? = some z := by rfl)
    (hx : Loc X.env.scope x := by first | exact Or.inl rfl | exact Or.inr rfl) (hy : Loc X.env.scope y := by first | exact Or.inl rfl | exact Or.inr rfl) (hz : Loc X.env.scope z := by first | exact Or.inl rfl | exact Or.inr rfl)
    (hfx : X.fn x = true ∨ X.env.scope.names.lookup x = some .local := by first | exact .inl rfl | exact .inr rfl) (hfy : X.fn y = true ∨ X.env.scope.names.lookup y = some .local := by first | exact .inl rfl | exact .inr rfl) (hfz : X.fn z = true ∨ X.env.scope.names.lookup z = some .local := by first | exact .inl rfl | exact .inr rfl)
    (hn : (assignEach [.Name x px, .Name y py, .Name z pz] X.env).length = 3 := by rfl) (hst : (assignEach [.Name x px, .Name y py, .Name z pz] X.env).findIdx? (·.1) = none := by rfl)
    (hg1 : (assignEach [.Name x px, .Name y py, .Name z pz] X.env).map (·.2) = assign (.Name x px) X.env :: (assignEach [.Name y py, .Name z pz] X.env).map (·.2) := by rfl) (hg2 : (assignEach [.Name y py, .Name z pz] X.env).map (·.2) = assign (.Name y py) X.env :: (assignEach [.Name z pz] X.env).map (·.2) := by rfl)
    (hg3 : (assignEach [.Name z pz] X.env).map (·.2) = assign (.Name z pz) X.env :: (assignEach [] X.env).map (·.2) := by rfl)
    (hw : swappedStores [.Tuple [.Name x px, .Name y py, .Name z pz] kt pt] (.Tuple [a, b, c] k2 pt2) X.env = pure none := by rfl)
    (hs : swapsWithSole [.Tuple [.Name x px, .Name y py, .Name z pz] kt pt] (.Tuple [a, b, c] k2 pt2) pos.line X.env = pure false := by rfl)
    (h1 : (assignEach [.Tuple [.Name x px, .Name y py, .Name z pz] kt pt] X.env).map (·.2) = [assign (.Tuple [.Name x px, .Name y py, .Name z pz] kt pt) X.env] := by rfl) :
    PS X (.Assign [.Tuple [.Name x px, .Name y py, .Name z pz] kt pt] (.Tuple [a, b, c] k2 pt2) pos) (SSr X.K P (sPar3 P i j l f g h)) := PSi (ps_parN (t := gN3 i j l) hc ha (pgs_cons (pg_name hN hi hx hfx) (pgs_cons (pg_name hN hj hy hfy) (pgs_cons (pg_name hN hl hz hfz) pgs_nil hg3) hg2) hg1) hn hst hw hs h1) fun _ _ _ q => sPar3N_go q
end
end PI

namespace PI
open PySem PySem.Spec PyProof.Rows L2
section
variable {f g : EF} {fs : List EF} {a : Opd} {as : List Opd} {env e : PI.Env} {i j : Nat} {d : PI.D} {ds es : List PI.D} {m n : Int} {b c : Bool} {x y z : Str}
@[simp] theorem y_ixt : ixS (.tup ds) (.int m) = (atI ds m).bind fun e => some (false, e) := id rfl
@[simp] theorem y_ixl : ixS (.lst ds) (.int m) = (atI ds m).bind fun e => some (false, e) := id rfl
@[simp] theorem y_ixf : ixS (.frz ds) (.int m) = (atI ds m).bind fun e => some (false, e) := id rfl
@[simp] theorem y_ixs : ixS (.str z) (.int m) = if z.length ≤ 10000000 then (atI z.cps.toList m).bind fun c => some (false, .str (sgn c)) else none := id rfl
@[simp] theorem y_slt {lo hi : Option Int} : slS (.tup ds) lo hi = some (false, .tup (cutD ds lo hi)) := id rfl
@[simp] theorem y_sll {lo hi : Option Int} : slS (.lst ds) lo hi = some (true, .lst (cutD ds lo hi)) := id rfl
@[simp] theorem y_slf {lo hi : Option Int} : slS (.frz ds) lo hi = some (true, .lst (cutD ds lo hi)) := id rfl
@[simp] theorem y_sls {lo hi : Option Int} : slS (.str z) lo hi = if z.length ≤ 10000000 then some (false, .str (cutS z lo hi)) else none := id rfl
@[simp] theorem y_muli : mulX (.int m) (.int n) = if mulB m n then some (false, .int (m * n)) else none := id rfl
@[simp] theorem y_muls : mulX (.str x) (.int n) = if n = 0 ∨ n = 1 then some (false, .str (if n = 0 then Str.empty else x)) else none := id rfl
@[simp] theorem y_mull : mulX (.lst ds) (.int n) = if 0 ≤ n ∧ n ≤ 1000 ∧ ds.length ≤ 1000 then some (true, .lst (List.replicate n.toNat ds).flatten) else none := id rfl
@[simp] theorem y_ini : inX b (.int m) d = inD b (.int m) d := id rfl
@[simp] theorem y_toStrs {l : List Str} : toStrs (l.map PI.D.str) = some l := toStrs_map l
@[simp] theorem y_strs0 : toStrs [] = some [] := id rfl
@[simp] theorem y_strs1 : toStrs (.str x :: ds) = (toStrs ds).bind fun is => some (x :: is) := id rfl
@[simp] theorem y_inst : inX b (.str x) (.tup ds) = (toStrs ds).bind fun is => some (false, .bl (if b then !decide (x ∈ is) else decide (x ∈ is))) := id rfl
@[simp] theorem y_insl : inX b (.str x) (.lst ds) = (toStrs ds).bind fun is => some (false, .bl (if b then !decide (x ∈ is) else decide (x ∈ is))) := id rfl
@[simp] theorem y_inss {k : Nat} : inX b (.str (sgn k)) (.str z) = some (false, .bl (if b then !decide (k ∈ z.cps.toList) else decide (k ∈ z.cps.toList))) := id rfl
@[simp] theorem y_isb : isBD (.bl b) (.bl c) = some (false, .bl (decide (b = c))) := id rfl
@[simp] theorem y_str : strD (.int m) = if m.natAbs.log2 < 1920 then some (false, .str (strI m)) else none := id rfl
@[simp] theorem y_xi : intX (.int m) = some (false, .int m) := id rfl
@[simp] theorem y_xb : intX (.bl b) = some (false, .int (if b then 1 else 0)) := id rfl
@[simp] theorem y_xs : intX (.str x) = if x.length ≤ 640 then (PySem.intText? x).bind fun n => some (false, .int n) else none := id rfl
@[simp] theorem y_em {F : Str → List PI.D → Option W} : emN F a as env = (a.run env).bind fun r => (r.1.get r.2).bind fun d => match d with
  | .str z => (runs as r.2).bind fun s => (gets s.2 s.1).bind fun ds => (F z ds).bind fun w => some (w, s.2)
  | _ => none := id rfl
@[simp] theorem y_join1 : m_join z [.lst ds] = (toStrs ds).bind fun ys => if joinB z ys then some (false, .str (Txt.join z ys)) else none := id rfl
@[simp] theorem y_join2 : m_join z [.tup ds] = (toStrs ds).bind fun ys => if joinB z ys then some (false, .str (Txt.join z ys)) else none := id rfl
@[simp] theorem y_split : m_split z [.str x] = if (x.length == 0) = false ∧ z.length ≤ 10000000 then some (true, .lst ((Txt.split z x).map PI.D.str)) else none := id rfl
@[simp] theorem y_part : m_partition z [.str x] = if (x.length == 0) = false ∧ z.length ≤ 10000000 then some (false, .tup [.str (Txt.partition z x).1, .str (Txt.partition z x).2.1, .str (Txt.partition z x).2.2]) else none := id rfl
@[simp] theorem y_start : m_startswith z [.str x] = some (false, .bl (Txt.startswith z x)) := id rfl
@[simp] theorem y_find : m_find z [.str x, .int m] = some (false, .int (Txt.find3 z x m)) := id rfl
@[simp] theorem y_lens : lenD (.str x) = if x.length ≤ 10000000 then some (false, .int x.length) else none := id rfl
@[simp] theorem y_en : srcEn f env = (f env).bind fun r => (seqD r.1.2).bind fun ds => some (enD 0 ds, r.2) := id rfl
@[simp] theorem y_pick0 {α : Type} {ws : List α} : pick [] ws = [] := id rfl
@[simp] theorem y_pick1 {α : Type} {ws : List α} {is : List Nat} : pick (i :: is) ws = match ws[i]? with
  | some w => w :: pick is ws
  | none => pick is ws := by
  unfold pick
  rw [List.filterMap_cons]
  cases ws[i]? <;> rfl
theorem y_ss {ks : List (List Int)} (h : okSS ks = true) : ssD (.lst (ks.map fun k => PI.D.tup (zL k))) = some (true, .lst ((ssort ks).map fun k => PI.D.tup (zL k))) := by
  show ((toTups (ks.map fun k => PI.D.tup (zL k))).bind fun ks => if okSS ks then some (true, PI.D.lst ((ssort ks).map fun k => PI.D.tup (zL k))) else none) = _
  rw [toTups_map]
  show (if okSS ks then _ else _) = _
  rw [if_pos h]
end
theorem enc_str_lay {x : Str} (h : PyData.strOk x = true) : PyData.canLay0 (toPy (.str x)) = true := by
  show PyData.canLay0 (.str x) = true
  rw [PyData.canLay0]
  exact h
theorem strs_lay : ∀ {l : List Str}, (∀ x ∈ l, PyData.strOk x = true) → PyData.canLayAll0 (toPys (l.map PI.D.str)) = true ∧ PyData.depthAll (toPys (l.map PI.D.str)) ≤ 0
  | [], _ => ⟨rfl, Nat.le_refl _⟩
  | x :: l, h => by
    obtain ⟨h1, h2⟩ := strs_lay fun y hy => h y (List.mem_cons_of_mem _ hy)
    show PyData.canLayAll0 (toPy (.str x) :: toPys (l.map PI.D.str)) = true ∧ PyData.depthAll (toPy (.str x) :: toPys (l.map PI.D.str)) ≤ 0
    rw [PyData.canLayAll0, PyData.depthAll, h1, enc_str_lay (h x List.mem_cons_self)]
    refine ⟨rfl, Nat.max_le.mpr ⟨?_, h2⟩⟩
    show PyData.depth (.str x) ≤ 0
    rw [PyData.depth]
    exact Nat.le_refl _
theorem eqB_strs0 {l : List Str} (h : ∀ x ∈ l, PyData.strOk x = true) : eqB (.lst (l.map PI.D.str)) (.lst []) = some (decide (l = [])) := by
  obtain ⟨h1, h2⟩ := strs_lay h
  have s1 : SeqAt.shaped (toPy (.lst (l.map PI.D.str))) = true := shaped_of (by show PyData.canLay0 (.list _) = true; rw [PyData.canLay0]; exact h1) (by show PyData.depth (.list _) ≤ 64; rw [PyData.depth]; omega)
  have s2 : SeqAt.shaped (toPy (.lst [])) = true := by decide +kernel
  unfold eqB
  rw [show scD (.lst (l.map PI.D.str)) (.lst []) = none from rfl]
  dsimp only
  rw [s1, s2]
  cases l with
  | nil => rfl
  | cons x l => rfl
/-! ### texts of ascii signs, not too long -/
abbrev tl (x : Str) : List Nat := x.cps.toList
def OkS (n : Nat) (x : Str) : Prop := x.length ≤ n ∧ ∀ c ∈ tl x, c < 128
theorem OkS.mono {n m : Nat} {x : Str} (h : OkS n x) (hm : n ≤ m) : OkS m x := ⟨Nat.le_trans h.1 hm, h.2⟩
theorem OkS.strOk {n : Nat} {x : Str} (h : OkS n x) : PyData.strOk x = true := by
  unfold PyData.strOk
  rw [Array.all_eq_true_iff_forall_mem]
  intro c hc
  have := h.2 c (Array.mem_toList_iff.mpr hc)
  exact decide_eq_true (by omega)
theorem len_app (x y : Str) : (x ++ y).length = x.length + y.length := by
  rw [TL.len_tl, TL.tl_append, List.length_append, ← TL.len_tl, ← TL.len_tl]
theorem OkS.app {n m : Nat} {x y : Str} (h : OkS n x) (k : OkS m y) : OkS (n + m) (x ++ y) := by
  refine ⟨by rw [len_app]; exact Nat.add_le_add h.1 k.1, fun c hc => ?_⟩
  have e : tl (x ++ y) = tl x ++ tl y := TL.tl_append x y
  rw [e] at hc
  rcases List.mem_append.mp hc with hc | hc
  · exact h.2 c hc
  · exact k.2 c hc
theorem joinL_mem {c : Nat} {s : List Nat} : ∀ {ps : List (List Nat)}, c ∈ TL.joinL s ps → c ∈ s ∨ ∃ p ∈ ps, c ∈ p
  | [], h => by cases h
  | [p], h => .inr ⟨p, List.mem_cons_self, h⟩
  | p :: q :: ps, h => by
    have h : c ∈ p ++ (s ++ TL.joinL s (q :: ps)) := h
    rcases List.mem_append.mp h with h | h
    · exact .inr ⟨p, List.mem_cons_self, h⟩
    rcases List.mem_append.mp h with h | h
    · exact .inl h
    · rcases joinL_mem h with h | ⟨r, hr, h⟩
      · exact .inl h
      · exact .inr ⟨r, List.mem_cons_of_mem _ hr, h⟩
theorem joinL_len {s : List Nat} {n : Nat} : ∀ {ps : List (List Nat)}, (∀ p ∈ ps, p.length ≤ n) → (TL.joinL s ps).length ≤ ps.length * (n + s.length)
  | [], _ => Nat.zero_le _
  | [p], h => by
    show p.length ≤ 1 * (n + s.length)
    have := h p List.mem_cons_self
    omega
  | p :: q :: ps, h => by
    have ih := joinL_len (s := s) (ps := q :: ps) fun r hr => h r (List.mem_cons_of_mem _ hr)
    have h1 := h p List.mem_cons_self
    show (p ++ (s ++ TL.joinL s (q :: ps))).length ≤ (ps.length + 1 + 1) * (n + s.length)
    rw [List.length_append, List.length_append, Nat.add_mul]
    have e : (q :: ps).length = ps.length + 1 := rfl
    rw [e] at ih
    omega
theorem OkS.join {n k : Nat} {z : Str} {l : List Str} (hz : OkS k z) (h : ∀ x ∈ l, OkS n x) : OkS (l.length * (n + k)) (Txt.join z l) := by
  have e : tl (Txt.join z l) = TL.joinL (tl z) (l.map TL.tl) := by
    rw [TL.join_eq]
    exact TL.tl_join z l
  refine ⟨?_, fun c hc => ?_⟩
  · rw [TL.len_tl]
    show (tl (Txt.join z l)).length ≤ _
    rw [e]
    have h1 := joinL_len (s := tl z) (n := n) (ps := l.map TL.tl) fun p hp => by
      obtain ⟨x, hx, rfl⟩ := List.mem_map.mp hp
      have := (h x hx).1
      rw [TL.len_tl] at this
      exact this
    rw [List.length_map] at h1
    have h2 : (tl z).length ≤ k := by
      have := hz.1
      rw [TL.len_tl] at this
      exact this
    exact Nat.le_trans h1 (Nat.mul_le_mul_left _ (by omega))
  · rw [e] at hc
    rcases joinL_mem hc with hc | ⟨p, hp, hc⟩
    · exact hz.2 c hc
    · obtain ⟨x, hx, rfl⟩ := List.mem_map.mp hp
      exact (h x hx).2 c hc
theorem sum_le {n : Nat} : ∀ {l : List Nat}, (∀ x ∈ l, x ≤ n) → l.sum ≤ l.length * n
  | [], _ => Nat.zero_le _
  | x :: l, h => by
    have := sum_le fun y hy => h y (List.mem_cons_of_mem _ hy)
    have h1 := h x List.mem_cons_self
    rw [List.sum_cons, List.length_cons, Nat.add_mul]
    omega
theorem join_ok {n k : Nat} {z : Str} {l : List Str} (hz : OkS k z) (h : ∀ x ∈ l, OkS n x) (hb : l.length * (n + k) ≤ 16777216) : joinB z l = true := by
  refine decide_eq_true ?_
  have h1 := sum_le (n := n) (l := l.map (·.length)) fun y hy => by
    obtain ⟨x, hx, rfl⟩ := List.mem_map.mp hy
    exact (h x hx).1
  rw [List.length_map] at h1
  have h2 : l.length * z.length ≤ l.length * k := Nat.mul_le_mul_left _ hz.1
  rw [Nat.mul_add] at hb
  omega
theorem strI_nat (n : Nat) : tl (strI (n : Int)) = TL.numL n := TL.tl_num n
theorem strI_ok {i : Int} {k : Nat} (h0 : 0 ≤ i) (hk : 0 < k) (h : i < 10 ^ k) : OkS k (strI i) := by
  obtain ⟨n, rfl⟩ := Int.eq_ofNat_of_zero_le h0
  have hn : n < 10 ^ k := by exact_mod_cast h
  refine ⟨?_, fun c hc => ?_⟩
  · rw [TL.len_tl]
    show (tl (strI (n : Int))).length ≤ k
    rw [strI_nat]
    exact TL.numL_len hk hn
  · rw [strI_nat] at hc
    have := TL.numL_digits n c hc
    omega
end PI

namespace PI
open PySem PySem.Spec PyProof.Rows L2
-- K37a
/-- a loop: R of the state, of the items to come and of the names -/
theorem fl_fold {α β : Type} {T : TF} {f : SF} {d : α → PI.D} {st : β → α → β} (R : β → List α → PI.Env → Prop) (hs : ∀ s a r env, R s (a :: r) env → ∃ env', ((T (d a) env).bind f) = some (.nx, env') ∧ R (st s a) r env') :
    ∀ (l : List α) (s : β) (env : PI.Env), R s l env → ∃ env', fl T f (l.map d) env = some (.nx, env') ∧ R (l.foldl st s) [] env'
  | [], s, env, h => ⟨env, rfl, h⟩
  | a :: l, s, env, h => by
    obtain ⟨e1, h1, h2⟩ := hs s a l env h
    obtain ⟨e2, h3, h4⟩ := fl_fold R hs l (st s a) e1 h2
    refine ⟨e2, ?_, h4⟩
    show ((T (d a) env).bind fun e => (f e).bind fun s => match s.1 with
      | .nx => fl T f (l.map d) s.2
      | .ct => fl T f (l.map d) s.2
      | .bk => some (.nx, s.2)
      | .rt w => some (.rt w, s.2)) = _
    obtain ⟨e0, k1, k2⟩ := obind h1
    rw [k1]
    show (f e0).bind _ = _
    rw [k2]
    exact h3
theorem fl_foldZ {β : Type} {T : TF} {f : SF} {st : β → Int → β} (R : β → List Int → PI.Env → Prop) (hs : ∀ s a r env, R s (a :: r) env → ∃ env', ((T (.int a) env).bind f) = some (.nx, env') ∧ R (st s a) r env')
    (l : List Int) (s : β) (env : PI.Env) (h : R s l env) : ∃ env', fl T f (zL l) env = some (.nx, env') ∧ R (l.foldl st s) [] env' := fl_fold R hs l s env h
theorem wl_false {c : EF} {f : SF} {n : Nat} {env e : PI.Env} {fr : Bool} (h : c env = some ((fr, .bl false), e)) : wl c f (n + 1) env = some (.nx, e) := by
  show (c env).bind _ = _
  rw [h]
  rfl
theorem wl_true {c : EF} {f : SF} {n : Nat} {env e e' : PI.Env} {fr : Bool} (h : c env = some ((fr, .bl true), e)) (hf : f e = some (.nx, e')) : wl c f (n + 1) env = wl c f n e' := by
  show (c env).bind _ = _
  rw [h]
  show (f e).bind _ = _
  rw [hf]
  rfl

-- K37b
theorem fl_nx {T : TF} {f : SF} {d : PI.D} {ds : List PI.D} {env env' : PI.Env} (h : (T d env).bind f = some (.nx, env')) : fl T f (d :: ds) env = fl T f ds env' := by
  obtain ⟨e0, k1, k2⟩ := obind h
  show ((T d env).bind fun e => (f e).bind fun s => match s.1 with
    | .nx => fl T f ds s.2
    | .ct => fl T f ds s.2
    | .bk => some (.nx, s.2)
    | .rt w => some (.rt w, s.2)) = _
  rw [k1]
  show (f e0).bind _ = _
  rw [k2]
  rfl

-- K37d
theorem lcl_map {α : Type} {T : TF} {c f : EF} {vs : List Nat} {env : PI.Env} {enc g : α → PI.D} (hn : noOwn env vs = true) : ∀ (l : List α), (∀ a ∈ l, ∃ e1 fr e2 fr' e3, T (enc a) (wipeE env vs) = some e1 ∧ c e1 = some ((fr, .bl true), e2) ∧ f e2 = some ((fr', g a), e3) ∧ restE env e3 vs = env) → lcl T c f vs (l.map enc) env = some (l.map g, env)
  | [], _ => rfl
  | a :: l, h => by
    obtain ⟨e1, fr, e2, fr', e3, h1, h2, h3, h4⟩ := h a List.mem_cons_self
    have ih := lcl_map (g := g) hn l fun b hb => h b (List.mem_cons_of_mem _ hb)
    show lcl T c f vs (enc a :: l.map enc) env = _
    unfold lcl
    rw [hn]
    dsimp only
    rw [h1]
    show (c e1).bind _ = _
    rw [h2]
    show (f e2).bind _ = _
    rw [h3]
    show (lcl T c f vs (l.map enc) (restE env e3 vs)).bind _ = _
    rw [h4, ih]
    rfl
theorem lcl_filter {α : Type} {T : TF} {c f : EF} {vs : List Nat} {env : PI.Env} {enc g : α → PI.D} {p : α → Bool} (hn : noOwn env vs = true) : ∀ (l : List α), (∀ a ∈ l, ∃ e1 fr e2, T (enc a) (wipeE env vs) = some e1 ∧ c e1 = some ((fr, .bl (p a)), e2) ∧ restE env e2 vs = env ∧ (p a = true → ∃ fr' e3, f e2 = some ((fr', g a), e3) ∧ restE env e3 vs = env)) → lcl T c f vs (l.map enc) env = some ((l.filter p).map g, env)
  | [], _ => rfl
  | a :: l, h => by
    obtain ⟨e1, fr, e2, h1, h2, h3, h4⟩ := h a List.mem_cons_self
    have ih := lcl_filter (g := g) (p := p) hn l fun b hb => h b (List.mem_cons_of_mem _ hb)
    show lcl T c f vs (enc a :: l.map enc) env = _
    unfold lcl
    rw [hn]
    dsimp only
    rw [h1]
    show (c e1).bind _ = _
    rw [h2]
    cases hp : p a with
    | true =>
      obtain ⟨fr', e3, h5, h6⟩ := h4 hp
      show (f e2).bind _ = _
      rw [h5]
      show (lcl T c f vs (l.map enc) (restE env e3 vs)).bind _ = _
      rw [h6, ih, List.filter_cons_of_pos hp]
      rfl
    | false =>
      show lcl T c f vs (l.map enc) (restE env e2 vs) = _
      rw [h3, ih, List.filter_cons_of_neg (by simp [hp])]
/-- 1, 2, .., n -/
def rng (n : Nat) : List Int := (List.range n).map fun (i : Nat) => (1 : Int) + (i : Int)
theorem rng_len (n : Nat) : (rng n).length = n := by simp [rng]
theorem rng_sorted (n : Nat) : (rng n).Pairwise (· < ·) := by
  unfold rng
  rw [List.pairwise_map]
  exact List.pairwise_lt_range.imp fun h => by omega
theorem rng_nodup (n : Nat) : (rng n).Nodup := (rng_sorted n).imp fun h => by omega
theorem rgD_rng (t : Bool) (n : Nat) (h : n ≤ 1000000) : rgD t (.int 1) (.int ((n : Int) + 1)) = some (if t then (false, .tup (zL (rng n))) else (true, .lst (zL (rng n)))) := by
  have e : ((n : Int) + 1 - 1).toNat = n := by omega
  unfold rgD
  dsimp only
  rw [if_pos ⟨by decide, by decide, by omega, by omega, by rw [e]; exact h⟩, e, z_range]
  cases t <;> rfl
theorem isort_rng {os : List Int} {n : Nat} (h : os.Perm (rng n)) : isort os = rng n := (isort_of h.symm ((rng_sorted n).imp fun h => Int.le_of_lt h)).symm

-- K37e
theorem mul_ok {a b : Int} (h1 : bts a ≤ 1048576) (hb : b.natAbs < 2 ^ 100) : mulB a b = true := by
  have h2 : bts b ≤ 100 := PyProof.Rows.intBits_le hb
  exact decide_eq_true (by omega)
theorem small_lt {a : Int} (h : a.natAbs < 2 ^ 100) {n : Nat} (hn : 100 ≤ n) : a.natAbs < 2 ^ n := Nat.lt_of_lt_of_le h (Nat.pow_le_pow_right (by decide) hn)
theorem mul_small {a b : Int} (ha : a.natAbs < 2 ^ 100) (hb : b.natAbs < 2 ^ 100) : mulB a b = true := mul_ok (Nat.le_trans (PyProof.Rows.intBits_le ha) (by decide)) hb
theorem pow_small {a : Int} (n : Int) (ha : a.natAbs < 2 ^ 100) (h0 : 0 ≤ n) (hn : n ≤ 1000) : powB a n = true := by
  have h1 : bts a ≤ 100 := PyProof.Rows.intBits_le ha
  have h2 : (bts a : Int) * n ≤ 100 * 1000 := Int.mul_le_mul (by omega) (by omega) (by omega) (by omega)
  have h3 : 0 ≤ n ∧ (bts a : Int) * n ≤ 134217728 := ⟨by omega, by omega⟩
  unfold powB
  exact decide_eq_true h3
theorem pow3 {a : Int} (ha : a.natAbs < 2 ^ 100) : powB a 3 = true := pow_small 3 ha (by decide) (by decide)
theorem pow2 {a : Int} (ha : a.natAbs < 2 ^ 100) : powB a 2 = true := pow_small 2 ha (by decide) (by decide)
theorem div_small {a b : Int} (h0 : 0 < b) (hb : b.natAbs < 2 ^ 100) : divB a b = true := decide_eq_true ⟨h0, Nat.le_trans (PyProof.Rows.intBits_le hb) (by decide)⟩
theorem mod_ok {a b : Int} (h0 : 0 < b) : modB a b = true := decide_eq_true h0
theorem srcR1_nat {f : EF} {env env' : PI.Env} {fr : Bool} {n : Nat} (h : f env = some ((fr, .int (n : Int)), env')) (hn : n < 1000000) : srcR1 f env = some (rangeD 0 n, env') := by
  have b1 : (n : Int) < 4611686018427387904 := by omega
  have b2 : -4611686018427387904 ≤ (n : Int) := by omega
  simp -implicitDefEqProofs [h, b1, b2]

-- K37f
theorem zL_erase : ∀ (l : List Int) (i : Nat), (zL l).eraseIdx i = zL (l.eraseIdx i)
  | [], i => by cases i <;> rfl
  | x :: l, 0 => rfl
  | x :: l, i + 1 => by
    show PI.D.int x :: (zL l).eraseIdx i = PI.D.int x :: zL (l.eraseIdx i)
    rw [zL_erase l i]
theorem erase_perm : ∀ {l : List Int} {i : Nat} {x : Int}, l[i]? = some x → (x :: l.eraseIdx i).Perm l
  | [], i, x, h => by simp at h
  | y :: l, 0, x, h => by
    have e : y = x := Option.some.inj h
    rw [e]
    exact .refl _
  | y :: l, i + 1, x, h => by
    have h : l[i]? = some x := h
    show (x :: y :: l.eraseIdx i).Perm _
    exact (List.Perm.swap y x _).trans ((erase_perm h).cons y)
theorem seq_ix {r : Int} {n : Nat} (h1 : 0 ≤ r) (h2 : r < n) : seqIndex? r n = some r.toNat := by
  have h3 : ¬ r < 0 := by omega
  simp [seqIndex?, h1, h2, h3]
theorem ixN_at {r : Int} {n : Nat} (h1 : 0 ≤ r) (h2 : r < n) : ixN n r = some r.toNat := by
  unfold ixN
  rw [if_pos h1, if_pos h2]
theorem at_int {α : Type} {l : List α} {r : Int} (h1 : 0 ≤ r) (h2 : r < l.length) : atI l r = l[r.toNat]? := by
  unfold atI
  rw [ixN_at h1 h2]
  rfl

-- K37g
theorem fl_inv {α : Type} {T : TF} {f : SF} {d : α → PI.D} (R : List α → PI.Env → Prop) (hs : ∀ a r env, R (a :: r) env → ∃ env', ((T (d a) env).bind f) = some (.nx, env') ∧ R r env') (l : List α) (env : PI.Env) (h : R l env) : ∃ env', fl T f (l.map d) env = some (.nx, env') ∧ R [] env' :=
  fl_fold (st := fun (_ : Unit) _ => ()) (fun _ r env => R r env) (fun _ a r env h => hs a r env h) l () env h
theorem fl_invZ {T : TF} {f : SF} (R : List Int → PI.Env → Prop) (hs : ∀ a r env, R (a :: r) env → ∃ env', ((T (.int a) env).bind f) = some (.nx, env') ∧ R r env') (l : List Int) (env : PI.Env) (h : R l env) : ∃ env', fl T f (zL l) env = some (.nx, env') ∧ R [] env' := fl_inv R hs l env h
theorem fl_range {T : TF} {f : SF} (n : Nat) (R : List Int → PI.Env → Prop) (hs : ∀ a r env, R (a :: r) env → ∃ env', ((T (.int a) env).bind f) = some (.nx, env') ∧ R r env') (env : PI.Env) (h : ∀ l : List Int, l.length = n → (∀ i ∈ l, 0 ≤ i ∧ i < n) → R l env) : ∃ env', fl T f (rangeD 0 n) env = some (.nx, env') ∧ R [] env' := by
  rw [z_range]
  refine fl_invZ R hs _ env (h _ (by simp) fun i hi => ?_)
  obtain ⟨j, h1, rfl⟩ := List.mem_map.mp hi
  have := List.mem_range.mp h1
  omega

-- Shows
theorem ePop_at {env : PI.Env} {i : Nat} {A : List PI.D} {d : PI.D} (h : env[i]? = some (some (true, .lst (A ++ [d])))) : ePop i env = some ((false, d), env.set i (some (true, .lst A))) := by
  unfold ePop
  rw [h]
  dsimp only
  have e : (A ++ [d])[(A ++ [d]).length - 1]? = some d := by simp
  rw [e]
  simp

-- Shows2
theorem wl_ret {c : EF} {f : SF} {n : Nat} {env e e' : PI.Env} {fr : Bool} {w : W} (h : c env = some ((fr, .bl true), e)) (hf : f e = some (.rt w, e')) : wl c f (n + 1) env = some (.rt w, e') := by
  show (c env).bind _ = _
  rw [h]
  show (f e).bind _ = _
  rw [hf]
  rfl
theorem srcR2_nat {f g : EF} {env e1 e2 : PI.Env} {a b : Bool} {i j : Int} (h : f env = some ((a, .int i), e1)) (h2 : g e1 = some ((b, .int j), e2)) (hi : -1000000 < i ∧ i < 1000000) (hj : -1000000 < j ∧ j < 1000000) : srcR2 f g env = some (rangeD i (j - i).toNat, e2) := by
  have b1 : -4611686018427387904 ≤ i := by omega
  have b2 : i < 4611686018427387904 := by omega
  have b3 : -4611686018427387904 ≤ j := by omega
  have b4 : j < 4611686018427387904 := by omega
  simp -implicitDefEqProofs [h, h2, b1, b2, b3, b4]

/-- a loop that keeps an invariant of the number of turns -/
theorem fl_keep {T : TF} {f : SF} (R : Nat → PI.Env → Prop) : ∀ (ds : List PI.D) (i : Nat) (env : PI.Env), (∀ j d env, ds[j]? = some d → R (i + j) env → ∃ env', ((T d env).bind f) = some (.nx, env') ∧ R (i + j + 1) env') → R i env → ∃ env', fl T f ds env = some (.nx, env') ∧ R (i + ds.length) env'
  | [], i, env, _, h => ⟨env, rfl, h⟩
  | d :: ds, i, env, hs, h => by
    obtain ⟨e1, h1, h2⟩ := hs 0 d env rfl h
    obtain ⟨e2, h3, h4⟩ := fl_keep R ds (i + 1) e1 (fun j d' env hd hr => by
      have e : i + 1 + j = i + (j + 1) := by omega
      rw [e] at hr ⊢
      exact hs (j + 1) d' env hd hr) h2
    refine ⟨e2, ?_, by
      have e : i + (ds.length + 1) = i + 1 + ds.length := by omega
      rw [List.length_cons, e]
      exact h4⟩
    show ((T d env).bind fun e => (f e).bind fun s => match s.1 with
      | .nx => fl T f ds s.2
      | .ct => fl T f ds s.2
      | .bk => some (.nx, s.2)
      | .rt w => some (.rt w, s.2)) = _
    obtain ⟨e0, k1, k2⟩ := obind h1
    rw [k1]
    show (f e0).bind _ = _
    rw [k2]
    exact h3

theorem div_bits {a b : Int} (h0 : 0 < b) (hb : bts b ≤ 8000) : divB a b = true := decide_eq_true ⟨h0, hb⟩

theorem bts_small {b : Int} (hb : b.natAbs < 2 ^ 100) : bts b ≤ 8000 := Nat.le_trans (PyProof.Rows.intBits_le hb) (by decide)

/-- one of a list -/
theorem at_mem {α : Type} {l : List α} {r : Int} {n : Nat} (h1 : 0 ≤ r) (h2 : r < n) (hn : l.length = n) : ∃ x, atI l r = some x ∧ x ∈ l := by
  have h3 : r.toNat < l.length := by omega
  exact ⟨l[r.toNat], by rw [at_int h1 (by omega), List.getElem?_eq_getElem h3], List.getElem_mem h3⟩

theorem rng_mem {n : Nat} {x : Int} : x ∈ rng n ↔ 1 ≤ x ∧ x ≤ n := by
  unfold rng
  rw [List.mem_map]
  constructor
  · rintro ⟨i, hi, rfl⟩
    have := List.mem_range.mp hi
    omega
  · intro h
    exact ⟨(x - 1).toNat, List.mem_range.mpr (by omega), by omega⟩

theorem lcl_keep {T : TF} {c f : EF} {vs : List Nat} (R : Nat → List PI.D → PI.Env → Prop) : ∀ (ds : List PI.D) (i : Nat) (acc : List PI.D) (env : PI.Env),
    (∀ j d acc env, ds[j]? = some d → R (i + j) acc env → noOwn env vs = true ∧ ∃ e1 fr b e2, T d (wipeE env vs) = some e1 ∧ c e1 = some ((fr, .bl b), e2) ∧ (b = true → ∃ fr' x e3, f e2 = some ((fr', x), e3) ∧ R (i + j + 1) (acc ++ [x]) (restE env e3 vs)) ∧ (b = false → R (i + j + 1) acc (restE env e2 vs))) →
    R i acc env → ∃ out env', lcl T c f vs ds env = some (out, env') ∧ R (i + ds.length) (acc ++ out) env'
  | [], i, acc, env, _, h => ⟨[], env, rfl, by simpa using h⟩
  | d :: ds, i, acc, env, hs, h => by
    obtain ⟨hn, e1, fr, b, e2, h1, h2, h3, h4⟩ := hs 0 d acc env rfl h
    have nx : ∀ acc' env', R (i + 1) acc' env' → ∃ out e, lcl T c f vs ds env' = some (out, e) ∧ R (i + 1 + ds.length) (acc' ++ out) e := fun acc' env' hr => lcl_keep R ds (i + 1) acc' env' (fun j d' a env hd hr => by
      have e : i + 1 + j = i + (j + 1) := by omega
      rw [e] at hr ⊢
      exact hs (j + 1) d' a env hd hr) hr
    have el : i + (d :: ds).length = i + 1 + ds.length := by rw [List.length_cons]; omega
    rw [el]
    unfold lcl
    rw [hn]
    dsimp only
    rw [h1]
    show ∃ out env', (c e1).bind _ = some (out, env') ∧ _
    rw [h2]
    cases b with
    | true =>
      obtain ⟨fr', x, e3, h5, h6⟩ := h3 rfl
      obtain ⟨out, e, g1, g2⟩ := nx _ _ h6
      refine ⟨x :: out, e, ?_, by simpa using g2⟩
      show (f e2).bind _ = _
      rw [h5]
      show (lcl T c f vs ds (restE env e3 vs)).bind _ = _
      rw [g1]
      rfl
    | false =>
      obtain ⟨out, e, g1, g2⟩ := nx _ _ (h4 rfl)
      exact ⟨out, e, g1, g2⟩
end PI

namespace Wk
open PySem PySem.Spec PyProof.Rows L2 PI
def top (i : Nat) : Stmt := PySem.Challenge.pw_bannedorders_k45_whole_texts_shown.main.body.getD i (.Pass ⟨0, 0, 0, 0⟩)
theorem bb_abs : bootBuiltins "abs" = some (.builtin "abs") := by decide +kernel
theorem bb_all : bootBuiltins "all" = some (.builtin "all") := by decide +kernel
theorem bb_bool : bootBuiltins "bool" = some (.type "bool") := by decide +kernel
theorem bb_enumerate : bootBuiltins "enumerate" = some (.type "enumerate") := by decide +kernel
theorem bb_int : bootBuiltins "int" = some (.type "int") := by decide +kernel
theorem bb_isinstance : bootBuiltins "isinstance" = some (.builtin "isinstance") := by decide +kernel
theorem bb_len : bootBuiltins "len" = some (.builtin "len") := by decide +kernel
theorem bb_list : bootBuiltins "list" = some (.type "list") := by decide +kernel
theorem bb_max : bootBuiltins "max" = some (.builtin "max") := by decide +kernel
theorem bb_min : bootBuiltins "min" = some (.builtin "min") := by decide +kernel
theorem bb_range : bootBuiltins "range" = some (.type "range") := by decide +kernel
theorem bb_set : bootBuiltins "set" = some (.type "set") := by decide +kernel
theorem bb_sorted : bootBuiltins "sorted" = some (.builtin "sorted") := by decide +kernel
theorem bb_str : bootBuiltins "str" = some (.type "str") := by decide +kernel
theorem bb_tuple : bootBuiltins "tuple" = some (.type "tuple") := by decide +kernel
def K_NONE : PI.D := (.str "-")
def K_WAYS : PI.D := (.str "mlrf")
structure Md (w : World) (K : PySem.W.Frag) (mg : Str → Option Value) : Prop where
  f_abs : mg "abs" = none
  f_all : mg "all" = none
  f_bool : mg "bool" = none
  f_enumerate : mg "enumerate" = none
  f_int : mg "int" = none
  f_isinstance : mg "isinstance" = none
  f_len : mg "len" = none
  f_list : mg "list" = none
  f_max : mg "max" = none
  f_min : mg "min" = none
  f_range : mg "range" = none
  f_set : mg "set" = none
  f_sorted : mg "sorted" = none
  f_str : mg "str" = none
  f_tuple : mg "tuple" = none
  d__law_well : ∃ (a : Addr) (fd : FuncData), DefAt K mg "_law_well" "_law_well" (top 12) a fd
  d__law_power : ∃ (a : Addr) (fd : FuncData), DefAt K mg "_law_power" "_law_power" (top 29) a fd
  d__law_lowest : ∃ (a : Addr) (fd : FuncData), DefAt K mg "_law_lowest" "_law_lowest" (top 28) a fd
  d__law_draw : ∃ (a : Addr) (fd : FuncData), DefAt K mg "_law_draw" "_law_draw" (top 13) a fd
  d__law_number : ∃ (a : Addr) (fd : FuncData), DefAt K mg "_law_number" "_law_number" (top 30) a fd
  d__law_order : ∃ (a : Addr) (fd : FuncData), DefAt K mg "_law_order" "_law_order" (top 15) a fd
  d__law_list : ∃ (a : Addr) (fd : FuncData), DefAt K mg "_law_list" "_law_list" (top 16) a fd
  d__law_saying : ∃ (a : Addr) (fd : FuncData), DefAt K mg "_law_saying" "_law_saying" (top 19) a fd
  d__law_letters : ∃ (a : Addr) (fd : FuncData), DefAt K mg "_law_letters" "_law_letters" (top 17) a fd
  d__law_machine : ∃ (a : Addr) (fd : FuncData), DefAt K mg "_law_machine" "_law_machine" (top 18) a fd
  d__law_listed : ∃ (a : Addr) (fd : FuncData), DefAt K mg "_law_listed" "_law_listed" (top 20) a fd
  d__law_said_order : ∃ (a : Addr) (fd : FuncData), DefAt K mg "_law_said_order" "_law_said_order" (top 21) a fd
  d__law_said_list : ∃ (a : Addr) (fd : FuncData), DefAt K mg "_law_said_list" "_law_said_list" (top 22) a fd
  d__law_said_saying : ∃ (a : Addr) (fd : FuncData), DefAt K mg "_law_said_saying" "_law_said_saying" (top 26) a fd
  d__law_said_letter : ∃ (a : Addr) (fd : FuncData), DefAt K mg "_law_said_letter" "_law_said_letter" (top 23) a fd
  d__law_said_word : ∃ (a : Addr) (fd : FuncData), DefAt K mg "_law_said_word" "_law_said_word" (top 24) a fd
  d__law_said_machine : ∃ (a : Addr) (fd : FuncData), DefAt K mg "_law_said_machine" "_law_said_machine" (top 25) a fd
  d__law_thing : ∃ (a : Addr) (fd : FuncData), DefAt K mg "_law_thing" "_law_thing" (top 27) a fd
  d__law_same : ∃ (a : Addr) (fd : FuncData), DefAt K mg "_law_same" "_law_same" (top 14) a fd
  d_show_number : ∃ (a : Addr) (fd : FuncData), DefAt K mg "show_number" "show_number" (top 3) a fd
  d_listed : ∃ (a : Addr) (fd : FuncData), DefAt K mg "listed" "listed" (top 4) a fd
  d_show_order : ∃ (a : Addr) (fd : FuncData), DefAt K mg "show_order" "show_order" (top 5) a fd
  d_show_list : ∃ (a : Addr) (fd : FuncData), DefAt K mg "show_list" "show_list" (top 6) a fd
  d_show_letter : ∃ (a : Addr) (fd : FuncData), DefAt K mg "show_letter" "show_letter" (top 7) a fd
  d_show_word : ∃ (a : Addr) (fd : FuncData), DefAt K mg "show_word" "show_word" (top 8) a fd
  d_show_machine : ∃ (a : Addr) (fd : FuncData), DefAt K mg "show_machine" "show_machine" (top 9) a fd
  d_show_saying : ∃ (a : Addr) (fd : FuncData), DefAt K mg "show_saying" "show_saying" (top 10) a fd
  d__law_shown : ∃ (a : Addr) (fd : FuncData), DefAt K mg "_law_shown" "_law_shown" (top 31) a fd
  d_law : ∃ (a : Addr) (fd : FuncData), DefAt K mg "law" "law" (top 32) a fd
  k_NONE : ∃ (v : V) (u : Value), mg "NONE" = some u ∧ RelV v u ∧ ∀ S H, Rep K S H v K_NONE
  k_WAYS : ∃ (v : V) (u : Value), mg "WAYS" = some u ∧ RelV v u ∧ ∀ S H, Rep K S H v K_WAYS
section
variable {P : Program} {w : World} {K : PySem.W.Frag} {mg : Str → Option Value} {base : Heap}
theorem ss_nevers {X : Cx} {sts : List Stmt} {P : List Nat} : PSs X sts (SSr X.K P sNever) := ⟨fun pins s σ H D I h => by
  obtain ⟨Z, env, c, env2, R, e, q⟩ := h
  cases e⟩
abbrev N__law_well : List Str := ["_law_script", "_law_place", "_law_cell"]
theorem sc__law_well : FnScope N__law_well ["_law_script", "_law_place"] (defScope (top 12)) := ⟨rfl, rfl, rfl, by decide +kernel, rfl, by decide +kernel, by decide +kernel⟩
def b__law_well : SF := (sSeq (sAsg [] 2 (eIf (e2 ltD (.sl 1) (.ex (eN (c1 lenD) [(.sl 0)]))) (eN (c1 intX) [(.ex (e2 ixS (.sl 0) (.sl 1)))]) (e2 addD (.ex (e2 mulX (.sl 1) (.ex (eC (.int 104723))))) (.ex (e2 mulX (.ex (eN (c1 lenD) [(.sl 0)])) (.ex (eC (.int 15485863))))))))
  (sRet (eLst [(eN (c2 max2D) [(.ex (eC (.int 0))), (.ex (e2 subD (.ex (eN (c1 absD) [(.sl 2)])) (.ex (e2 powD (.ex (eC (.int 10))) (.ex (eC (.int 18)))))))]), (e2 modD (.ex (eN (c1 intX) [(.ex (e2 addD (.ex (e2 addD (.ex (e2 mulX (.sl 2) (.ex (eC (.int 86028157))))) (.ex (e2 mulX (.sl 1) (.ex (eC (.int 179424691))))))) (.ex (eC (.int 7919)))))])) (.ex (e2 addD (.ex (e2 powD (.ex (eC (.int 10))) (.ex (eC (.int 25))))) (.ex (eC (.int 13)))))), (eC (.int 0))])))
def c__law_well : Cal := runB [false, false] 3 b__law_well
theorem ok__law_well (M : Md w K mg) : Ok P w K mg base 1 "_law_well" "_law_well" (top 12) ["_law_script", "_law_place"] [false, false] c__law_well := by
  obtain ⟨a, fd, D⟩ := M.d__law_well
  have nd := sc__law_well.nd
  refine ok_of (N := N__law_well) (k := 0) (body := b__law_well) D sc__law_well rfl (by decide) (fun cdv A outer s H E hr => ?_) (fun _ _ _ h => h)
  exact (ss_cons (ss_asg 2 (se_if (st_cmp op_lt p_ltD (so_var 1) (se_callB call_len p_lenD M.f_len bb_len (sa_cons (so_var 0) sa_nil))) (se_callTy call_intX p_intX M.f_int bb_int (sa_cons (se_ix ix_X p_ixS (so_var 0) (so_var 1)) sa_nil)) (se_op op_addD p_addD (se_op op_mulXX p_mulX (so_var 1) se_int) (se_op op_mulXX p_mulX (se_callB call_len p_lenD M.f_len bb_len (sa_cons (so_var 0) sa_nil)) se_int))) nd)
  (ss_one (ss_ret (se_lst (sv_cons (se_callB (call_max2 rfl) p_max2D M.f_max bb_max (sa_cons se_int (sa_cons (se_op op_sub p_subD (se_callB call_abs p_absD M.f_abs bb_abs (sa_cons (so_var 2) sa_nil)) (se_op op_powW p_powD se_int se_int)) sa_nil))) (sv_cons (se_op op_mod p_modD (se_callTy call_intX p_intX M.f_int bb_int (sa_cons (se_op op_addD p_addD (se_op op_addD p_addD (se_op op_mulXX p_mulX (so_var 2) se_int) (se_op op_mulXX p_mulX (so_var 1) se_int)) se_int) sa_nil)) (se_op op_addD p_addD (se_op op_powW p_powD se_int se_int) se_int)) (sv_cons se_int sv_nil)))))))
abbrev N__law_power : List Str := ["_law_many", "_law_found", "_law_turn"]
theorem sc__law_power : FnScope N__law_power ["_law_many"] (defScope (top 29)) := ⟨rfl, rfl, rfl, by decide +kernel, rfl, by decide +kernel, by decide +kernel⟩
def fb1__law_power : SF := (sAsg [] 1 (e2 mulX (.sl 1) (.ex (eC (.int 10)))))
def b__law_power : SF := (sSeq (sAsg [] 1 (eC (.int 1)))
  (sSeq (sFor [] [2] (srcR1 (eVar 0)) (tName 2)
  fb1__law_power)
  (sRetV [] 1)))
def c__law_power : Cal := runB [false] 3 b__law_power
theorem ok__law_power (M : Md w K mg) : Ok P w K mg base 1 "_law_power" "_law_power" (top 29) ["_law_many"] [false] c__law_power := by
  obtain ⟨a, fd, D⟩ := M.d__law_power
  have nd := sc__law_power.nd
  refine ok_of (N := N__law_power) (k := 0) (body := b__law_power) D sc__law_power rfl (by decide) (fun cdv A outer s H E hr => ?_) (fun _ _ _ h => h)
  exact (ss_cons (ss_asg 1 se_int nd)
  (ss_cons (ss_for (pi_rg1 (se_var 0) M.f_range) srcR1_ok (pg_name nd (i := 2) rfl (by first | exact .inl rfl | exact .inr rfl)) (tg_name 2)
  (ss_one (ss_asg 1 (se_op op_mulXX p_mulX (so_var 1) se_int) nd)) .never rfl)
  (ss_one (ss_retV 1))))
abbrev N__law_lowest : List Str := ["_law_top", "_law_bottom", "_law_one", "_law_two"]
theorem sc__law_lowest : FnScope N__law_lowest ["_law_top", "_law_bottom"] (defScope (top 28)) := ⟨rfl, rfl, rfl, by decide +kernel, rfl, by decide +kernel, by decide +kernel⟩
def wc1__law_lowest : EF := (e2 neD (.sl 3) (.ex (eC (.int 0))))
def wb1__law_lowest : SF := (sPar2 [] 2 3 (eVar 3) (e2 modD (.ex (eN (c1 intX) [(.sl 2)])) (.sl 3)))
def b__law_lowest : SF := (sSeq (sPar2 [] 2 3 (eN (c1 absD) [(.sl 0)]) (eVar 1))
  (sSeq (sWhile wc1__law_lowest wb1__law_lowest)
  (sRet (eTup [(e2 fdivD (.sl 0) (.sl 2)), (e2 fdivD (.sl 1) (.sl 2))]))))
def c__law_lowest : Cal := runB [false, false] 4 b__law_lowest
theorem ok__law_lowest (M : Md w K mg) : Ok P w K mg base 1 "_law_lowest" "_law_lowest" (top 28) ["_law_top", "_law_bottom"] [false, false] c__law_lowest := by
  obtain ⟨a, fd, D⟩ := M.d__law_lowest
  have nd := sc__law_lowest.nd
  refine ok_of (N := N__law_lowest) (k := 0) (body := b__law_lowest) D sc__law_lowest rfl (by decide) (fun cdv A outer s H E hr => ?_) (fun _ _ _ h => h)
  exact (ss_cons (by first | exact (ss_par2 2 3 (sv_cons (se_callB call_abs p_absD M.f_abs bb_abs (sa_cons (so_var 0) sa_nil)) (sv_cons (se_var 1) sv_nil)) rfl nd) | exact (ss_par2n 2 3 (sv_cons (se_callB call_abs p_absD M.f_abs bb_abs (sa_cons (so_var 0) sa_nil)) (sv_cons (se_var 1) sv_nil)) rfl nd))
  (ss_cons (ss_while (st_cmp (op_neA hr.units) p_neD (so_var 3) se_int) (ss_one (by first | exact (ss_par2 2 3 (sv_cons (se_var 3) (sv_cons (se_op op_mod p_modD (se_callTy call_intX p_intX M.f_int bb_int (sa_cons (so_var 2) sa_nil)) (so_var 3)) sv_nil)) rfl nd) | exact (ss_par2n 2 3 (sv_cons (se_var 3) (sv_cons (se_op op_mod p_modD (se_callTy call_intX p_intX M.f_int bb_int (sa_cons (so_var 2) sa_nil)) (so_var 3)) sv_nil)) rfl nd))) .never)
  (ss_one (ss_ret (se_tup (sv_cons (se_op op_fdivW p_fdivD (so_var 0) (so_var 2)) (sv_cons (se_op op_fdivW p_fdivD (so_var 1) (so_var 2)) sv_nil)))))))
abbrev N__law_draw : List Str := ["_law_well_here", "_law_many", "_law_found", "_law_mixed"]
theorem sc__law_draw : FnScope N__law_draw ["_law_well_here", "_law_many"] (defScope (top 13)) := ⟨rfl, rfl, rfl, by decide +kernel, rfl, by decide +kernel, by decide +kernel⟩
def b__law_draw : SF := (sSeq (sIf (e2 gtD (.ex (e2 ixS (.sl 0) (.ex (eC (.int 0))))) (.ex (eC (.int 0)))) (sSeq (sAsg [0] 2 (e2 modD (.ex (eN (c1 intX) [(.ex (e2 ixS (.sl 0) (.ex (eC (.int 0)))))])) (.sl 1)))
  (sSeq (sSet 0 (eC (.int 0)) (e2 fdivD (.ex (e2 ixS (.sl 0) (.ex (eC (.int 0))))) (.sl 1)))
  (sRetV [0] 2))) sNext)
  (sSeq (sSet 0 (eC (.int 2)) (e2 addD (.ex (e2 ixS (.sl 0) (.ex (eC (.int 2))))) (.ex (eC (.int 1)))))
  (sSeq (sAsg [0] 3 (e2 modD (.ex (eN (c1 intX) [(.ex (e2 powD (.ex (e2 addD (.ex (e2 ixS (.sl 0) (.ex (eC (.int 1))))) (.ex (e2 mulX (.ex (eC (.int 49979693))) (.ex (e2 ixS (.sl 0) (.ex (eC (.int 2))))))))) (.ex (eC (.int 3)))))])) (.ex (e2 addD (.ex (e2 powD (.ex (eC (.int 10))) (.ex (eC (.int 29))))) (.ex (eC (.int 319)))))))
  (sSeq (sAsg [0] 3 (e2 modD (.ex (eN (c1 intX) [(.ex (e2 powD (.ex (e2 addD (.sl 3) (.ex (eC (.int 2038074751))))) (.ex (eC (.int 3)))))])) (.ex (e2 addD (.ex (e2 powD (.ex (eC (.int 10))) (.ex (eC (.int 33))))) (.ex (eC (.int 33)))))))
  (sRet (e2 modD (.ex (eN (c1 intX) [(.ex (e2 fdivD (.sl 3) (.ex (e2 powD (.ex (eC (.int 10))) (.ex (eC (.int 6)))))))])) (.sl 1)))))))
def c__law_draw : Cal := runB [true, false] 4 b__law_draw
theorem ok__law_draw (M : Md w K mg) : Ok P w K mg base 1 "_law_draw" "_law_draw" (top 13) ["_law_well_here", "_law_many"] [true, false] c__law_draw := by
  obtain ⟨a, fd, D⟩ := M.d__law_draw
  have nd := sc__law_draw.nd
  refine ok_of (N := N__law_draw) (k := 0) (body := b__law_draw) D sc__law_draw rfl (by decide) (fun cdv A outer s H E hr => ?_) (fun _ _ _ h => h)
  exact (ss_cons (ss_if (st_cmp op_gt p_gtD (se_ix ix_X p_ixS (so_var 0) se_int) se_int) (ss_cons (ss_asg 2 (se_op op_mod p_modD (se_callTy call_intX p_intX M.f_int bb_int (sa_cons (se_ix ix_X p_ixS (so_var 0) se_int) sa_nil)) (so_var 1)) nd)
  (ss_cons (ss_set 0 (se_op op_fdivW p_fdivD (se_ix ix_X p_ixS (so_var 0) se_int) (so_var 1)) (pg_sub (pv 0) se_int set_list))
  (ss_one (ss_retV 2)))) ss_nil)
  (ss_cons (ss_set 0 (se_op op_addD p_addD (se_ix ix_X p_ixS (so_var 0) se_int) se_int) (pg_sub (pv 0) se_int set_list))
  (ss_cons (ss_asg 3 (se_op op_mod p_modD (se_callTy call_intX p_intX M.f_int bb_int (sa_cons (se_op op_powW p_powD (se_op op_addD p_addD (se_ix ix_X p_ixS (so_var 0) se_int) (se_op op_mulXX p_mulX se_int (se_ix ix_X p_ixS (so_var 0) se_int))) se_int) sa_nil)) (se_op op_addD p_addD (se_op op_powW p_powD se_int se_int) se_int)) nd)
  (ss_cons (ss_asg 3 (se_op op_mod p_modD (se_callTy call_intX p_intX M.f_int bb_int (sa_cons (se_op op_powW p_powD (se_op op_addD p_addD (so_var 3) se_int) se_int) sa_nil)) (se_op op_addD p_addD (se_op op_powW p_powD se_int se_int) se_int)) nd)
  (ss_one (ss_ret (se_op op_mod p_modD (se_callTy call_intX p_intX M.f_int bb_int (sa_cons (se_op op_fdivW p_fdivD (so_var 3) (se_op op_powW p_powD se_int se_int)) sa_nil)) (so_var 1))))))))
abbrev N__law_number : List Str := ["_law_well_here", "_law_great", "_law_top", "_law_bottom"]
theorem sc__law_number : FnScope N__law_number ["_law_well_here"] (defScope (top 30)) := ⟨rfl, rfl, rfl, by decide +kernel, rfl, by decide +kernel, by decide +kernel⟩
def b__law_number : SF := (sSeq (sAsg [0] 1 (eCall [false] c__law_power [(.ex (e2 addD (.ex (eC (.int 1))) (.ex (eCall [true, false] c__law_draw [(.sl 0), (.ex (e2 ixS (.ex (eLst [(eC (.int 2)), (eC (.int 9)), (eC (.int 299))])) (.ex (eCall [true, false] c__law_draw [(.sl 0), (.ex (eC (.int 3)))]))))]))))]))
  (sSeq (sPar2 [0] 2 3 (e2 subD (.ex (eCall [true, false] c__law_draw [(.sl 0), (.ex (e2 mulX (.ex (eC (.int 2))) (.sl 1)))])) (.sl 1)) (e2 addD (.ex (eC (.int 1))) (.ex (e2 ixS (.ex (eLst [(eC (.int 0)), (eCall [true, false] c__law_draw [(.sl 0), (.ex (eVar 1))])])) (.ex (eCall [true, false] c__law_draw [(.sl 0), (.ex (eC (.int 2)))]))))))
  (sRet (eCall [false, false] c__law_lowest [(.ex (eVar 2)), (.ex (eVar 3))]))))
def c__law_number : Cal := runB [true] 4 b__law_number
theorem ok__law_number (M : Md w K mg) : Ok P w K mg base 2 "_law_number" "_law_number" (top 30) ["_law_well_here"] [true] c__law_number := by
  obtain ⟨a, fd, D⟩ := M.d__law_number
  have nd := sc__law_number.nd
  refine ok_of (N := N__law_number) (k := 1) (body := b__law_number) D sc__law_number rfl (by decide) (fun cdv A outer s H E hr => ?_) (fun _ _ _ h => h)
  exact (ss_cons (ss_asg 1 (se_fn (ok__law_power M) hr (sa_cons (so_ex (se_op op_addD p_addD se_int (se_fn (ok__law_draw M) hr (sa_cons (so_var 0) (sa_cons (so_ex (se_ix ix_X p_ixS (se_lst (sv_cons se_int (sv_cons se_int (sv_cons se_int sv_nil)))) (se_fn (ok__law_draw M) hr (sa_cons (so_var 0) (sa_cons (so_ex se_int) sa_nil)) (fun _ _ _ _ _ _ us hl => match us, hl with | [_, _], _ => rfl) ))) sa_nil)) (fun _ _ _ _ _ _ us hl => match us, hl with | [_, _], _ => rfl) ))) sa_nil) (fun _ _ _ _ _ _ us hl => match us, hl with | [_], _ => rfl) ) nd)
  (ss_cons (by first | exact (ss_par2 2 3 (sv_cons (se_op op_sub p_subD (se_fn (ok__law_draw M) hr (sa_cons (so_var 0) (sa_cons (so_ex (se_op op_mulXX p_mulX se_int (so_var 1))) sa_nil)) (fun _ _ _ _ _ _ us hl => match us, hl with | [_, _], _ => rfl) ) (so_var 1)) (sv_cons (se_op op_addD p_addD se_int (se_ix ix_X p_ixS (se_lst (sv_cons se_int (sv_cons (se_fn (ok__law_draw M) hr (sa_cons (so_var 0) (sa_cons (so_ex (se_var 1)) sa_nil)) (fun _ _ _ _ _ _ us hl => match us, hl with | [_, _], _ => rfl) ) sv_nil))) (se_fn (ok__law_draw M) hr (sa_cons (so_var 0) (sa_cons (so_ex se_int) sa_nil)) (fun _ _ _ _ _ _ us hl => match us, hl with | [_, _], _ => rfl) ))) sv_nil)) rfl nd) | exact (ss_par2n 2 3 (sv_cons (se_op op_sub p_subD (se_fn (ok__law_draw M) hr (sa_cons (so_var 0) (sa_cons (so_ex (se_op op_mulXX p_mulX se_int (so_var 1))) sa_nil)) (fun _ _ _ _ _ _ us hl => match us, hl with | [_, _], _ => rfl) ) (so_var 1)) (sv_cons (se_op op_addD p_addD se_int (se_ix ix_X p_ixS (se_lst (sv_cons se_int (sv_cons (se_fn (ok__law_draw M) hr (sa_cons (so_var 0) (sa_cons (so_ex (se_var 1)) sa_nil)) (fun _ _ _ _ _ _ us hl => match us, hl with | [_, _], _ => rfl) ) sv_nil))) (se_fn (ok__law_draw M) hr (sa_cons (so_var 0) (sa_cons (so_ex se_int) sa_nil)) (fun _ _ _ _ _ _ us hl => match us, hl with | [_, _], _ => rfl) ))) sv_nil)) rfl nd))
  (ss_one (ss_ret (se_fn (ok__law_lowest M) hr (sa_cons (so_ex (se_var 2)) (sa_cons (so_ex (se_var 3)) sa_nil)) (fun _ _ _ _ _ _ us hl => match us, hl with | [_, _], _ => rfl) )))))
abbrev N__law_order : List Str := ["_law_well_here", "_law_many", "_law_left", "_law_found", "_law_turn"]
theorem sc__law_order : FnScope N__law_order ["_law_well_here", "_law_many"] (defScope (top 15)) := ⟨rfl, rfl, rfl, by decide +kernel, rfl, by decide +kernel, by decide +kernel⟩
def fb1__law_order : SF := (sApp 3 (ePopAt 2 (eCall [true, false] c__law_draw [(.sl 0), (.ex (eN (c1 lenD) [(.sl 2)]))])))
def b__law_order : SF := (sSeq (sPar2 [0] 2 3 (e2 (rgD false) (.ex (eC (.int 1))) (.ex (e2 addD (.sl 1) (.ex (eC (.int 1)))))) (eLst []))
  (sSeq (sFor [0] [4] (srcR1 (eVar 1)) (tName 4)
  fb1__law_order)
  (sRet (eN (c1 tupleD) [(.sl 3)]))))
def c__law_order : Cal := runB [true, false] 5 b__law_order
theorem ok__law_order (M : Md w K mg) : Ok P w K mg base 2 "_law_order" "_law_order" (top 15) ["_law_well_here", "_law_many"] [true, false] c__law_order := by
  obtain ⟨a, fd, D⟩ := M.d__law_order
  have nd := sc__law_order.nd
  refine ok_of (N := N__law_order) (k := 1) (body := b__law_order) D sc__law_order rfl (by decide) (fun cdv A outer s H E hr => ?_) (fun _ _ _ h => h)
  exact (ss_cons (by first | exact (ss_par2 2 3 (sv_cons (se_listRg2 (rg2 se_int (se_op op_addD p_addD (so_var 1) se_int) M.f_range) rfl M.f_list) (sv_cons (se_lst sv_nil) sv_nil)) rfl nd) | exact (ss_par2n 2 3 (sv_cons (se_listRg2 (rg2 se_int (se_op op_addD p_addD (so_var 1) se_int) M.f_range) rfl M.f_list) (sv_cons (se_lst sv_nil) sv_nil)) rfl nd))
  (ss_cons (ss_for (pi_rg1 (se_var 1) M.f_range) srcR1_ok (pg_name nd (i := 4) rfl (by first | exact .inl rfl | exact .inr rfl)) (tg_name 4)
  (ss_one (ss_app 3 (se_popAt 2 (se_fn (ok__law_draw M) hr (sa_cons (so_var 0) (sa_cons (so_ex (se_callB call_len p_lenD M.f_len bb_len (sa_cons (so_var 2) sa_nil))) sa_nil)) (fun _ _ _ _ _ _ us hl => match us, hl with | [_, _], _ => rfl) )))) .never rfl)
  (ss_one (ss_ret (se_callTy call_tuple_of p_tupleD M.f_tuple bb_tuple (sa_cons (so_var 3) sa_nil))))))
abbrev N__law_list : List Str := ["_law_well_here", "_law_most", "_law_things", "_law_found", "_law_turn"]
theorem sc__law_list : FnScope N__law_list ["_law_well_here", "_law_most", "_law_things"] (defScope (top 16)) := ⟨rfl, rfl, rfl, by decide +kernel, rfl, by decide +kernel, by decide +kernel⟩
def fb1__law_list : SF := (sApp 3 (eCall [true, false] c__law_order [(.sl 0), (.ex (e2 addD (.ex (eC (.int 1))) (.ex (eCall [true, false] c__law_draw [(.sl 0), (.ex (eVar 2))]))))]))
def b__law_list : SF := (sSeq (sAsg [0] 3 (eLst []))
  (sSeq (sFor [0] [4] (srcR1 (eCall [true, false] c__law_draw [(.sl 0), (.ex (e2 addD (.sl 1) (.ex (eC (.int 1)))))])) (tName 4)
  fb1__law_list)
  (sRet (eN (c1 tupleD) [(.sl 3)]))))
def c__law_list : Cal := runB [true, false, false] 5 b__law_list
theorem ok__law_list (M : Md w K mg) : Ok P w K mg base 3 "_law_list" "_law_list" (top 16) ["_law_well_here", "_law_most", "_law_things"] [true, false, false] c__law_list := by
  obtain ⟨a, fd, D⟩ := M.d__law_list
  have nd := sc__law_list.nd
  refine ok_of (N := N__law_list) (k := 2) (body := b__law_list) D sc__law_list rfl (by decide) (fun cdv A outer s H E hr => ?_) (fun _ _ _ h => h)
  exact (ss_cons (ss_asg 3 (se_lst sv_nil) nd)
  (ss_cons (ss_for (pi_rg1 (se_fn (ok__law_draw M) hr (sa_cons (so_var 0) (sa_cons (so_ex (se_op op_addD p_addD (so_var 1) se_int)) sa_nil)) (fun _ _ _ _ _ _ us hl => match us, hl with | [_, _], _ => rfl) ) M.f_range) srcR1_ok (pg_name nd (i := 4) rfl (by first | exact .inl rfl | exact .inr rfl)) (tg_name 4)
  (ss_one (ss_app 3 (se_fn (ok__law_order M) hr (sa_cons (so_var 0) (sa_cons (so_ex (se_op op_addD p_addD se_int (se_fn (ok__law_draw M) hr (sa_cons (so_var 0) (sa_cons (so_ex (se_var 2)) sa_nil)) (fun _ _ _ _ _ _ us hl => match us, hl with | [_, _], _ => rfl) ))) sa_nil)) (fun _ _ _ _ _ _ us hl => match us, hl with | [_, _], _ => rfl) ))) .never rfl)
  (ss_one (ss_ret (se_callTy call_tuple_of p_tupleD M.f_tuple bb_tuple (sa_cons (so_var 3) sa_nil))))))
abbrev N__law_saying : List Str := ["_law_well_here", "_law_deep", "_law_way", "_law_parts", "_law_turned"]
theorem sc__law_saying : FnScope N__law_saying ["_law_well_here", "_law_deep"] (defScope (top 19)) := ⟨rfl, rfl, rfl, by decide +kernel, rfl, by decide +kernel, by decide +kernel⟩
def b__law_saying (c : Cal) : SF := (sSeq (sAsg [0] 2 (eIf (e2 gtD (.sl 1) (.ex (eC (.int 1)))) (eCall [true, false] c__law_draw [(.sl 0), (.ex (eC (.int 7)))]) (eCall [true, false] c__law_draw [(.sl 0), (.ex (eC (.int 2)))])))
  (sSeq (sIf (e2 eqD (.sl 2) (.ex (eC (.int 0)))) (sRet (eTup [(eC (.str "list")), (eCall [true, false, false] c__law_list [(.sl 0), (.ex (e2 ixS (.ex (eLst [(eC (.int 2)), (eC (.int 2)), (eC (.int 5)), (eC (.int 20))])) (.ex (eCall [true, false] c__law_draw [(.sl 0), (.ex (eC (.int 4)))])))), (.ex (e2 ixS (.ex (eLst [(eC (.int 5)), (eC (.int 5)), (eC (.int 40))])) (.ex (eCall [true, false] c__law_draw [(.sl 0), (.ex (eC (.int 3)))]))))])])) sNext)
  (sSeq (sIf (e2 eqD (.sl 2) (.ex (eC (.int 1)))) (sRet (eTup [(eC (.str "sorted")), (e2 ixS (.ex (eLst [(eC (.str "stack")), (eC (.str "popper")), (eC (.str "queues")), (eC (.str "bubble"))])) (.ex (eCall [true, false] c__law_draw [(.sl 0), (.ex (eC (.int 4)))])))])) sNext)
  (sSeq (sIf (e2 ltD (.sl 2) (.ex (eC (.int 5)))) (sRet (eTup [(e2 ixS (.ex (eLst [(eC (.str "turned")), (eC (.str "mirrored")), (eC (.str "inverse"))])) (.ex (e2 subD (.sl 2) (.ex (eC (.int 2)))))), (eCall [true, false] c [(.sl 0), (.ex (e2 subD (.sl 1) (.ex (eC (.int 1)))))])])) sNext)
  (sSeq (sAsg [0] 3 (eLst [(eCall [true, false] c [(.sl 0), (.ex (e2 subD (.sl 1) (.ex (eC (.int 1)))))]), (eCall [true, false] c [(.sl 0), (.ex (eN (c2 min2D) [(.ex (e2 subD (.sl 1) (.ex (eC (.int 1))))), (.ex (eC (.int 2)))]))])]))
  (sSeq (sAsg [0] 4 (eCall [true, false] c__law_draw [(.sl 0), (.ex (eC (.int 2)))]))
  (sRet (eTup [(e2 ixS (.ex (eLst [(eC (.str "both")), (eC (.str "either"))])) (.ex (e2 subD (.sl 2) (.ex (eC (.int 5)))))), (e2 ixS (.sl 3) (.sl 4)), (e2 ixS (.sl 3) (.ex (e2 subD (.ex (eC (.int 1))) (.sl 4))))]))))))))
def c__law_saying : Nat → Cal
  | 0 => fun _ => none
  | k + 1 => runB [true, false] 5 (b__law_saying (c__law_saying k))
theorem ok__law_saying (M : Md w K mg) : ∀ k : Nat, Ok P w K mg base (3 + 1 + k) "_law_saying" "_law_saying" (top 19) ["_law_well_here", "_law_deep"] [true, false] (c__law_saying k)
  | 0 => by
    obtain ⟨a, fd, D⟩ := M.d__law_saying
    exact ok_of (N := N__law_saying) (k := 3) (body := sNever) D sc__law_saying rfl (by decide) (fun cdv A outer s H E hr => ss_nevers) (fun _ _ _ h => by cases h)
  | n + 1 => by
    have ih := ok__law_saying M n
    obtain ⟨a, fd, D⟩ := M.d__law_saying
    have nd := sc__law_saying.nd
    refine ok_of (N := N__law_saying) (k := 3 + 1 + n) (body := b__law_saying (c__law_saying n)) D sc__law_saying rfl (by decide) (fun cdv A outer s H E hr => ?_) (fun _ _ _ h => h)
    generalize c__law_saying n = c at *
    exact (ss_cons (ss_asg 2 (se_if (st_cmp op_gt p_gtD (so_var 1) se_int) (se_fn (ok__law_draw M) hr (sa_cons (so_var 0) (sa_cons (so_ex se_int) sa_nil)) (fun _ _ _ _ _ _ us hl => match us, hl with | [_, _], _ => rfl) (hjk := by omega)) (se_fn (ok__law_draw M) hr (sa_cons (so_var 0) (sa_cons (so_ex se_int) sa_nil)) (fun _ _ _ _ _ _ us hl => match us, hl with | [_, _], _ => rfl) (hjk := by omega))) nd)
  (ss_cons (ss_if (st_cmp (op_eqA hr.units) p_eqD (so_var 2) se_int) (ss_one (ss_ret (se_tup (sv_cons se_str (sv_cons (se_fn (ok__law_list M) hr (sa_cons (so_var 0) (sa_cons (so_ex (se_ix ix_X p_ixS (se_lst (sv_cons se_int (sv_cons se_int (sv_cons se_int (sv_cons se_int sv_nil))))) (se_fn (ok__law_draw M) hr (sa_cons (so_var 0) (sa_cons (so_ex se_int) sa_nil)) (fun _ _ _ _ _ _ us hl => match us, hl with | [_, _], _ => rfl) (hjk := by omega)))) (sa_cons (so_ex (se_ix ix_X p_ixS (se_lst (sv_cons se_int (sv_cons se_int (sv_cons se_int sv_nil)))) (se_fn (ok__law_draw M) hr (sa_cons (so_var 0) (sa_cons (so_ex se_int) sa_nil)) (fun _ _ _ _ _ _ us hl => match us, hl with | [_, _], _ => rfl) (hjk := by omega)))) sa_nil))) (fun _ _ _ _ _ _ us hl => match us, hl with | [_, _, _], _ => rfl) (hjk := by omega)) sv_nil))))) ss_nil)
  (ss_cons (ss_if (st_cmp (op_eqA hr.units) p_eqD (so_var 2) se_int) (ss_one (ss_ret (se_tup (sv_cons se_str (sv_cons (se_ix ix_X p_ixS (se_lst (sv_cons se_str (sv_cons se_str (sv_cons se_str (sv_cons se_str sv_nil))))) (se_fn (ok__law_draw M) hr (sa_cons (so_var 0) (sa_cons (so_ex se_int) sa_nil)) (fun _ _ _ _ _ _ us hl => match us, hl with | [_, _], _ => rfl) (hjk := by omega))) sv_nil))))) ss_nil)
  (ss_cons (ss_if (st_cmp op_lt p_ltD (so_var 2) se_int) (ss_one (ss_ret (se_tup (sv_cons (se_ix ix_X p_ixS (se_lst (sv_cons se_str (sv_cons se_str (sv_cons se_str sv_nil)))) (se_op op_sub p_subD (so_var 2) se_int)) (sv_cons (se_fn ih hr (sa_cons (so_var 0) (sa_cons (so_ex (se_op op_sub p_subD (so_var 1) se_int)) sa_nil)) (fun _ _ _ _ _ _ us hl => match us, hl with | [_, _], _ => rfl) (hjk := Nat.le_refl _)) sv_nil))))) ss_nil)
  (ss_cons (ss_asg 3 (se_lst (sv_cons (se_fn ih hr (sa_cons (so_var 0) (sa_cons (so_ex (se_op op_sub p_subD (so_var 1) se_int)) sa_nil)) (fun _ _ _ _ _ _ us hl => match us, hl with | [_, _], _ => rfl) (hjk := Nat.le_refl _)) (sv_cons (se_fn ih hr (sa_cons (so_var 0) (sa_cons (so_ex (se_callB (call_min2 rfl) p_min2D M.f_min bb_min (sa_cons (se_op op_sub p_subD (so_var 1) se_int) (sa_cons se_int sa_nil)))) sa_nil)) (fun _ _ _ _ _ _ us hl => match us, hl with | [_, _], _ => rfl) (hjk := Nat.le_refl _)) sv_nil))) nd)
  (ss_cons (ss_asg 4 (se_fn (ok__law_draw M) hr (sa_cons (so_var 0) (sa_cons (so_ex se_int) sa_nil)) (fun _ _ _ _ _ _ us hl => match us, hl with | [_, _], _ => rfl) (hjk := by omega)) nd)
  (ss_one (ss_ret (se_tup (sv_cons (se_ix ix_X p_ixS (se_lst (sv_cons se_str (sv_cons se_str sv_nil))) (se_op op_sub p_subD (so_var 2) se_int)) (sv_cons (se_ix ix_X p_ixS (so_var 3) (so_var 4)) (sv_cons (se_ix ix_X p_ixS (so_var 3) (se_op op_sub p_subD se_int (so_var 4))) sv_nil))))))))))))
abbrev N__law_letters : List Str := ["_law_well_here", "_law_many", "_law_found", "_law_turn", "_law_slot"]
theorem sc__law_letters : FnScope N__law_letters ["_law_well_here", "_law_many"] (defScope (top 17)) := ⟨rfl, rfl, rfl, by decide +kernel, rfl, by decide +kernel, by decide +kernel⟩
def fb1__law_letters : SF := (sSeq (sAsg [0] 4 (e2 addD (.ex (eC (.int 1))) (.ex (eCall [true, false] c__law_draw [(.sl 0), (.ex (e2 ixS (.ex (eLst [(eC (.int 1)), (eC (.int 3)), (eC (.int 12)), (eC (.int 999999999)), (e2 powD (.ex (eC (.int 10))) (.ex (eC (.int 30))))])) (.ex (eCall [true, false] c__law_draw [(.sl 0), (.ex (eC (.int 5)))]))))]))))
  (sApp 2 (eTup [(eVar 4), (eCall [true, false] c__law_draw [(.sl 0), (.ex (eC (.int 4)))])])))
def b__law_letters : SF := (sSeq (sAsg [0] 2 (eLst []))
  (sSeq (sFor [0] [3] (srcR1 (eVar 1)) (tName 3)
  fb1__law_letters)
  (sRetV [0] 2)))
def c__law_letters : Cal := runB [true, false] 5 b__law_letters
theorem ok__law_letters (M : Md w K mg) : Ok P w K mg base 2 "_law_letters" "_law_letters" (top 17) ["_law_well_here", "_law_many"] [true, false] c__law_letters := by
  obtain ⟨a, fd, D⟩ := M.d__law_letters
  have nd := sc__law_letters.nd
  refine ok_of (N := N__law_letters) (k := 1) (body := b__law_letters) D sc__law_letters rfl (by decide) (fun cdv A outer s H E hr => ?_) (fun _ _ _ h => h)
  exact (ss_cons (ss_asg 2 (se_lst sv_nil) nd)
  (ss_cons (ss_for (pi_rg1 (se_var 1) M.f_range) srcR1_ok (pg_name nd (i := 3) rfl (by first | exact .inl rfl | exact .inr rfl)) (tg_name 3)
  (ss_cons (ss_asg 4 (se_op op_addD p_addD se_int (se_fn (ok__law_draw M) hr (sa_cons (so_var 0) (sa_cons (so_ex (se_ix ix_X p_ixS (se_lst (sv_cons se_int (sv_cons se_int (sv_cons se_int (sv_cons se_int (sv_cons (se_op op_powW p_powD se_int se_int) sv_nil)))))) (se_fn (ok__law_draw M) hr (sa_cons (so_var 0) (sa_cons (so_ex se_int) sa_nil)) (fun _ _ _ _ _ _ us hl => match us, hl with | [_, _], _ => rfl) ))) sa_nil)) (fun _ _ _ _ _ _ us hl => match us, hl with | [_, _], _ => rfl) )) nd)
  (ss_one (ss_app 2 (se_tup (sv_cons (se_var 4) (sv_cons (se_fn (ok__law_draw M) hr (sa_cons (so_var 0) (sa_cons (so_ex se_int) sa_nil)) (fun _ _ _ _ _ _ us hl => match us, hl with | [_, _], _ => rfl) ) sv_nil)))))) .never rfl)
  (ss_one (ss_retV 2))))
abbrev N__law_machine : List Str := ["_law_well_here", "_law_most", "_law_many", "_law_rows", "_law_state", "_law_letters_here", "_law_letter", "_law_ends"]
theorem sc__law_machine : FnScope N__law_machine ["_law_well_here", "_law_most"] (defScope (top 18)) := ⟨rfl, rfl, rfl, by decide +kernel, rfl, by decide +kernel, by decide +kernel⟩
def le1__law_machine : EF := (eTup [(eVar 6), (eCall [true, false] c__law_draw [(.sl 0), (.ex (eVar 2))])])
def fb1__law_machine : SF := (sSeq (sAsg [0] 5 (e1 ssD (.ex (eCall [true, false] c__law_letters [(.sl 0), (.ex (e2 ixS (.ex (eLst [(eC (.int 0)), (eC (.int 1)), (eC (.int 2)), (eC (.int 6)), (eC (.int 12))])) (.ex (eCall [true, false] c__law_draw [(.sl 0), (.ex (eC (.int 5)))]))))]))))
  (sApp 3 (eN (c1 tupleD) [(.ex (eLc (srcN 5) (tName 6) eYes le1__law_machine [6]))])))
def lc1__law_machine : EF := (e2 eqD (.ex (eCall [true, false] c__law_draw [(.sl 0), (.ex (eC (.int 3)))])) (.ex (eC (.int 0))))
def b__law_machine : SF := (sSeq (sPar2 [0] 2 3 (e2 addD (.ex (eC (.int 1))) (.ex (eCall [true, false] c__law_draw [(.sl 0), (.ex (eVar 1))]))) (eLst []))
  (sSeq (sFor [0] [4] (srcR1 (eVar 2)) (tName 4)
  fb1__law_machine)
  (sSeq (sAsg [0] 7 (eLc (srcC (srcR1 (eVar 2))) (tName 4) lc1__law_machine (eVar 4) [4]))
  (sRet (eTup [(eN (c1 tupleD) [(.sl 3)]), (eN (c1 tupleD) [(.sl 7)])])))))
def c__law_machine : Cal := runB [true, false] 8 b__law_machine
theorem ok__law_machine (M : Md w K mg) : Ok P w K mg base 3 "_law_machine" "_law_machine" (top 18) ["_law_well_here", "_law_most"] [true, false] c__law_machine := by
  obtain ⟨a, fd, D⟩ := M.d__law_machine
  have nd := sc__law_machine.nd
  refine ok_of (N := N__law_machine) (k := 2) (body := b__law_machine) D sc__law_machine rfl (by decide) (fun cdv A outer s H E hr => ?_) (fun _ _ _ h => h)
  exact (ss_cons (by first | exact (ss_par2 2 3 (sv_cons (se_op op_addD p_addD se_int (se_fn (ok__law_draw M) hr (sa_cons (so_var 0) (sa_cons (so_ex (se_var 1)) sa_nil)) (fun _ _ _ _ _ _ us hl => match us, hl with | [_, _], _ => rfl) )) (sv_cons (se_lst sv_nil) sv_nil)) rfl nd) | exact (ss_par2n 2 3 (sv_cons (se_op op_addD p_addD se_int (se_fn (ok__law_draw M) hr (sa_cons (so_var 0) (sa_cons (so_ex (se_var 1)) sa_nil)) (fun _ _ _ _ _ _ us hl => match us, hl with | [_, _], _ => rfl) )) (sv_cons (se_lst sv_nil) sv_nil)) rfl nd))
  (ss_cons (ss_for (pi_rg1 (se_var 2) M.f_range) srcR1_ok (pg_name nd (i := 4) rfl (by first | exact .inl rfl | exact .inr rfl)) (tg_name 4)
  (ss_cons (ss_asg 5 (se_ss rfl hr.units (se_fn (ok__law_letters M) hr (sa_cons (so_var 0) (sa_cons (so_ex (se_ix ix_X p_ixS (se_lst (sv_cons se_int (sv_cons se_int (sv_cons se_int (sv_cons se_int (sv_cons se_int sv_nil)))))) (se_fn (ok__law_draw M) hr (sa_cons (so_var 0) (sa_cons (so_ex se_int) sa_nil)) (fun _ _ _ _ _ _ us hl => match us, hl with | [_, _], _ => rfl) ))) sa_nil)) (fun _ _ _ _ _ _ us hl => match us, hl with | [_, _], _ => rfl) ) M.f_sorted M.f_set bb_sorted bb_set) nd)
  (ss_one (ss_app 3 (se_callTy call_tuple_of p_tupleD M.f_tuple bb_tuple (sa_cons (se_lc (pi_any (pv 5)) srcN_ok (blkOk_by (own := [("_law_letter", 6)]) (by first | kernel_rfl | rfl)) (tg_name 6) (fun _ _ _ _ _ => (pg_name nd (i := 6) rfl (by first | exact .inl rfl | exact .inr rfl))) (fun _ _ _ _ _ => st_yes) (fun _ _ _ _ _ => (se_tup (sv_cons (se_var 6) (sv_cons (se_fn (ok__law_draw M) hr (sa_cons (so_var 0) (sa_cons (so_ex (se_var 2)) sa_nil)) (fun _ _ _ _ _ _ us hl => match us, hl with | [_, _], _ => rfl) ) sv_nil)))) rfl nd) sa_nil))))) .never rfl)
  (ss_cons (ss_setLc 7 (pi_rg1 (se_var 2) M.f_range) (srcC_ok srcR1_ok) (blkOk_by (own := [("_law_state", 4)]) (by first | kernel_rfl | rfl)) (tg_name 4) (fun _ _ _ _ _ => (pg_name nd (i := 4) rfl (by first | exact .inl rfl | exact .inr rfl))) (fun _ _ _ _ _ => (st_ones (st_cmp (op_eqA hr.units) p_eqD (se_fn (ok__law_draw M) hr (sa_cons (so_var 0) (sa_cons (so_ex se_int) sa_nil)) (fun _ _ _ _ _ _ us hl => match us, hl with | [_, _], _ => rfl) ) se_int))) (fun _ _ _ _ _ => (se_var 4)) rfl nd (sw_true rfl rfl rfl rfl))
  (ss_one (ss_ret (se_tup (sv_cons (se_callTy call_tuple_of p_tupleD M.f_tuple bb_tuple (sa_cons (so_var 3) sa_nil)) (sv_cons (se_callTy call_tuple_of p_tupleD M.f_tuple bb_tuple (sa_cons (so_var 7) sa_nil)) sv_nil))))))))
abbrev N__law_listed : List Str := ["_law_words", "_law_between"]
theorem sc__law_listed : FnScope N__law_listed ["_law_words", "_law_between"] (defScope (top 20)) := ⟨rfl, rfl, rfl, by decide +kernel, rfl, by decide +kernel, by decide +kernel⟩
def b__law_listed : SF := (sRet (eIf (e2 neD (.sl 0) (.ex (eLst []))) (emN m_join (.sl 1) [(.sl 0)]) (eC (.str "-"))))
def c__law_listed : Cal := runB [false, false] 2 b__law_listed
theorem ok__law_listed (M : Md w K mg) : Ok P w K mg base 1 "_law_listed" "_law_listed" (top 20) ["_law_words", "_law_between"] [false, false] c__law_listed := by
  obtain ⟨a, fd, D⟩ := M.d__law_listed
  have nd := sc__law_listed.nd
  refine ok_of (N := N__law_listed) (k := 0) (body := b__law_listed) D sc__law_listed rfl (by decide) (fun cdv A outer s H E hr => ?_) (fun _ _ _ h => h)
  exact (ss_one (ss_ret (se_if (st_cmp (op_neA hr.units) p_neD (so_var 0) (se_lst sv_nil)) (se_sm PySem.F.slot_str_join PySem.F.type_str_join mt_join p_join (so_var 1) (sa_cons (so_var 0) sa_nil)) se_str)))
abbrev N__law_said_order : List Str := ["_law_order_here", "_law_number_here"]
theorem sc__law_said_order : FnScope N__law_said_order ["_law_order_here"] (defScope (top 21)) := ⟨rfl, rfl, rfl, by decide +kernel, rfl, by decide +kernel, by decide +kernel⟩
def le1__law_said_order : EF := (eN (c1 strD) [(.sl 1)])
def b__law_said_order : SF := (sRet (eCall [false, false] c__law_listed [(.ex (eLc (srcN 0) (tName 1) eYes le1__law_said_order [1])), (.ex (eC (.str " ")))]))
def c__law_said_order : Cal := runB [false] 2 b__law_said_order
theorem ok__law_said_order (M : Md w K mg) : Ok P w K mg base 2 "_law_said_order" "_law_said_order" (top 21) ["_law_order_here"] [false] c__law_said_order := by
  obtain ⟨a, fd, D⟩ := M.d__law_said_order
  have nd := sc__law_said_order.nd
  refine ok_of (N := N__law_said_order) (k := 1) (body := b__law_said_order) D sc__law_said_order rfl (by decide) (fun cdv A outer s H E hr => ?_) (fun _ _ _ h => h)
  exact (ss_one (ss_ret (se_fn (ok__law_listed M) hr (sa_cons (so_ex (se_lc (pi_any (pv 0)) srcN_ok (blkOk_by (own := [("_law_number_here", 1)]) (by first | kernel_rfl | rfl)) (tg_name 1) (fun _ _ _ _ _ => (pg_name nd (i := 1) rfl (by first | exact .inl rfl | exact .inr rfl))) (fun _ _ _ _ _ => st_yes) (fun _ _ _ _ _ => (se_callTy call_str_int p_strD M.f_str bb_str (sa_cons (so_var 1) sa_nil))) rfl nd)) (sa_cons (so_ex se_str) sa_nil)) (fun _ _ _ _ _ _ us hl => match us, hl with | [_, _], _ => rfl) )))
abbrev N__law_said_list : List Str := ["_law_patterns", "_law_pattern"]
theorem sc__law_said_list : FnScope N__law_said_list ["_law_patterns"] (defScope (top 22)) := ⟨rfl, rfl, rfl, by decide +kernel, rfl, by decide +kernel, by decide +kernel⟩
def le1__law_said_list : EF := (eCall [false] c__law_said_order [(.ex (eVar 1))])
def b__law_said_list : SF := (sRet (eCall [false, false] c__law_listed [(.ex (eLc (srcN 0) (tName 1) eYes le1__law_said_list [1])), (.ex (eC (.str ", ")))]))
def c__law_said_list : Cal := runB [false] 2 b__law_said_list
theorem ok__law_said_list (M : Md w K mg) : Ok P w K mg base 3 "_law_said_list" "_law_said_list" (top 22) ["_law_patterns"] [false] c__law_said_list := by
  obtain ⟨a, fd, D⟩ := M.d__law_said_list
  have nd := sc__law_said_list.nd
  refine ok_of (N := N__law_said_list) (k := 2) (body := b__law_said_list) D sc__law_said_list rfl (by decide) (fun cdv A outer s H E hr => ?_) (fun _ _ _ h => h)
  exact (ss_one (ss_ret (se_fn (ok__law_listed M) hr (sa_cons (so_ex (se_lc (pi_any (pv 0)) srcN_ok (blkOk_by (own := [("_law_pattern", 1)]) (by first | kernel_rfl | rfl)) (tg_name 1) (fun _ _ _ _ _ => (pg_name nd (i := 1) rfl (by first | exact .inl rfl | exact .inr rfl))) (fun _ _ _ _ _ => st_yes) (fun _ _ _ _ _ => (se_fn (ok__law_said_order M) hr (sa_cons (so_ex (se_var 1)) sa_nil) (fun _ _ _ _ _ _ us hl => match us, hl with | [_], _ => rfl) )) rfl nd)) (sa_cons (so_ex se_str) sa_nil)) (fun _ _ _ _ _ _ us hl => match us, hl with | [_, _], _ => rfl) )))
abbrev N__law_said_saying : List Str := ["_law_saying_here", "_law_part"]
theorem sc__law_said_saying : FnScope N__law_said_saying ["_law_saying_here"] (defScope (top 26)) := ⟨rfl, rfl, rfl, by decide +kernel, rfl, by decide +kernel, by decide +kernel⟩
def le1__law_said_saying (c : Cal) : EF := (eCall [false] c [(.ex (eVar 1))])
def b__law_said_saying (c : Cal) : SF := (sSeq (sIf (e2 eqD (.ex (e2 ixS (.sl 0) (.ex (eC (.int 0))))) (.ex (eC (.str "list")))) (sRet (e2 addD (.ex (e2 addD (.ex (eC (.str "(list ["))) (.ex (eCall [false] c__law_said_list [(.ex (e2 ixS (.sl 0) (.ex (eC (.int 1)))))])))) (.ex (eC (.str "])"))))) sNext)
  (sSeq (sIf (e2 eqD (.ex (e2 ixS (.sl 0) (.ex (eC (.int 0))))) (.ex (eC (.str "sorted")))) (sRet (e2 addD (.ex (e2 addD (.ex (eC (.str "(sorted "))) (.ex (e2 ixS (.sl 0) (.ex (eC (.int 1))))))) (.ex (eC (.str ")"))))) sNext)
  (sRet (e2 addD (.ex (e2 addD (.ex (eC (.str "("))) (.ex (emN m_join (.ex (eC (.str " "))) [(.ex (e2 addD (.ex (eLst [(e2 ixS (.sl 0) (.ex (eC (.int 0))))])) (.ex (eLc (srcC (srcA (eSl slS (.sl 0) (some (eC (.int 1))) none))) (tName 1) eYes (le1__law_said_saying c) [1]))))])))) (.ex (eC (.str ")")))))))
def c__law_said_saying : Nat → Cal
  | 0 => fun _ => none
  | k + 1 => runB [false] 2 (b__law_said_saying (c__law_said_saying k))
theorem ok__law_said_saying (M : Md w K mg) : ∀ k : Nat, Ok P w K mg base (3 + 1 + k) "_law_said_saying" "_law_said_saying" (top 26) ["_law_saying_here"] [false] (c__law_said_saying k)
  | 0 => by
    obtain ⟨a, fd, D⟩ := M.d__law_said_saying
    exact ok_of (N := N__law_said_saying) (k := 3) (body := sNever) D sc__law_said_saying rfl (by decide) (fun cdv A outer s H E hr => ss_nevers) (fun _ _ _ h => by cases h)
  | n + 1 => by
    have ih := ok__law_said_saying M n
    obtain ⟨a, fd, D⟩ := M.d__law_said_saying
    have nd := sc__law_said_saying.nd
    refine ok_of (N := N__law_said_saying) (k := 3 + 1 + n) (body := b__law_said_saying (c__law_said_saying n)) D sc__law_said_saying rfl (by decide) (fun cdv A outer s H E hr => ?_) (fun _ _ _ h => h)
    generalize c__law_said_saying n = c at *
    exact (ss_cons (ss_if (st_cmp (op_eqA hr.units) p_eqD (se_ix ix_X p_ixS (so_var 0) se_int) se_str) (ss_one (ss_ret (se_op op_addD p_addD (se_op op_addD p_addD se_str (se_fn (ok__law_said_list M) hr (sa_cons (so_ex (se_ix ix_X p_ixS (so_var 0) se_int)) sa_nil) (fun _ _ _ _ _ _ us hl => match us, hl with | [_], _ => rfl) (hjk := by omega))) se_str))) ss_nil)
  (ss_cons (ss_if (st_cmp (op_eqA hr.units) p_eqD (se_ix ix_X p_ixS (so_var 0) se_int) se_str) (ss_one (ss_ret (se_op op_addD p_addD (se_op op_addD p_addD se_str (se_ix ix_X p_ixS (so_var 0) se_int)) se_str))) ss_nil)
  (ss_one (ss_ret (se_op op_addD p_addD (se_op op_addD p_addD se_str (se_sm PySem.F.slot_str_join PySem.F.type_str_join mt_join p_join se_str (sa_cons (se_op op_addD p_addD (se_lst (sv_cons (se_ix ix_X p_ixS (so_var 0) se_int) sv_nil)) (se_lc (pi_any (se_slice sl_X p_slS (so_var 0) (sp_some se_int) sp_none)) (srcC_ok srcA_ok) (blkOk_by (own := [("_law_part", 1)]) (by first | kernel_rfl | rfl)) (tg_name 1) (fun _ _ _ _ _ => (pg_name nd (i := 1) rfl (by first | exact .inl rfl | exact .inr rfl))) (fun _ _ _ _ _ => st_yes) (fun _ _ _ _ _ => (se_fn ih hr (sa_cons (so_ex (se_var 1)) sa_nil) (fun _ _ _ _ _ _ us hl => match us, hl with | [_], _ => rfl) (hjk := Nat.le_refl _))) rfl nd)) sa_nil))) se_str)))))
abbrev N__law_said_letter : List Str := ["_law_letter"]
theorem sc__law_said_letter : FnScope N__law_said_letter ["_law_letter"] (defScope (top 23)) := ⟨rfl, rfl, rfl, by decide +kernel, rfl, by decide +kernel, by decide +kernel⟩
def b__law_said_letter : SF := (sRet (e2 addD (.ex (eN (c1 strD) [(.ex (e2 ixS (.sl 0) (.ex (eC (.int 0)))))])) (.ex (e2 ixS (.ex (eC (.str "mlrf"))) (.ex (e2 ixS (.sl 0) (.ex (eC (.int 1)))))))))
def c__law_said_letter : Cal := runB [false] 1 b__law_said_letter
theorem ok__law_said_letter (M : Md w K mg) : Ok P w K mg base 1 "_law_said_letter" "_law_said_letter" (top 23) ["_law_letter"] [false] c__law_said_letter := by
  obtain ⟨a, fd, D⟩ := M.d__law_said_letter
  have nd := sc__law_said_letter.nd
  refine ok_of (N := N__law_said_letter) (k := 0) (body := b__law_said_letter) D sc__law_said_letter rfl (by decide) (fun cdv A outer s H E hr => ?_) (fun _ _ _ h => h)
  exact (ss_one (ss_ret (se_op op_addD p_addD (se_callTy call_str_int p_strD M.f_str bb_str (sa_cons (se_ix ix_X p_ixS (so_var 0) se_int) sa_nil)) (se_ix ix_X p_ixS se_str (se_ix ix_X p_ixS (so_var 0) se_int)))))
abbrev N__law_said_word : List Str := ["_law_word", "_law_letter"]
theorem sc__law_said_word : FnScope N__law_said_word ["_law_word"] (defScope (top 24)) := ⟨rfl, rfl, rfl, by decide +kernel, rfl, by decide +kernel, by decide +kernel⟩
def le1__law_said_word : EF := (eCall [false] c__law_said_letter [(.ex (eVar 1))])
def b__law_said_word : SF := (sRet (eCall [false, false] c__law_listed [(.ex (eLc (srcN 0) (tName 1) eYes le1__law_said_word [1])), (.ex (eC (.str " ")))]))
def c__law_said_word : Cal := runB [false] 2 b__law_said_word
theorem ok__law_said_word (M : Md w K mg) : Ok P w K mg base 2 "_law_said_word" "_law_said_word" (top 24) ["_law_word"] [false] c__law_said_word := by
  obtain ⟨a, fd, D⟩ := M.d__law_said_word
  have nd := sc__law_said_word.nd
  refine ok_of (N := N__law_said_word) (k := 1) (body := b__law_said_word) D sc__law_said_word rfl (by decide) (fun cdv A outer s H E hr => ?_) (fun _ _ _ h => h)
  exact (ss_one (ss_ret (se_fn (ok__law_listed M) hr (sa_cons (so_ex (se_lc (pi_any (pv 0)) srcN_ok (blkOk_by (own := [("_law_letter", 1)]) (by first | kernel_rfl | rfl)) (tg_name 1) (fun _ _ _ _ _ => (pg_name nd (i := 1) rfl (by first | exact .inl rfl | exact .inr rfl))) (fun _ _ _ _ _ => st_yes) (fun _ _ _ _ _ => (se_fn (ok__law_said_letter M) hr (sa_cons (so_ex (se_var 1)) sa_nil) (fun _ _ _ _ _ _ us hl => match us, hl with | [_], _ => rfl) )) rfl nd)) (sa_cons (so_ex se_str) sa_nil)) (fun _ _ _ _ _ _ us hl => match us, hl with | [_, _], _ => rfl) )))
abbrev N__law_said_machine : List Str := ["_law_machine_here", "_law_lines", "_law_state", "_law_steps", "_law_letter", "_law_goal", "_law_name"]
theorem sc__law_said_machine : FnScope N__law_said_machine ["_law_machine_here"] (defScope (top 25)) := ⟨rfl, rfl, rfl, by decide +kernel, rfl, by decide +kernel, by decide +kernel⟩
def le1__law_said_machine : EF := (e2 addD (.ex (e2 addD (.ex (eCall [false] c__law_said_letter [(.ex (eVar 4))])) (.ex (eC (.str " "))))) (.ex (eN (c1 strD) [(.sl 5)])))
def fb1__law_said_machine : SF := (sSeq (sAsg [] 3 (eLc (srcC (srcA (e2 ixS (.ex (e2 ixS (.sl 0) (.ex (eC (.int 0))))) (.sl 2)))) (tTplA 2 (tsCons (tName 4) (tsCons (tName 5) tsNil))) eYes le1__law_said_machine [4, 5]))
  (sSeq (sAsg [] 6 (e2 addD (.ex (eN (c1 strD) [(.sl 2)])) (.ex (e2 mulX (.ex (eC (.str " end"))) (.ex (eN (c1 intX) [(.ex (e2 (inX false) (.sl 2) (.ex (e2 ixS (.sl 0) (.ex (eC (.int 1)))))))]))))))
  (sApp 1 (e2 addD (.ex (e2 addD (.sl 6) (.ex (eC (.str " : "))))) (.ex (eCall [false, false] c__law_listed [(.ex (eVar 3)), (.ex (eC (.str ", ")))]))))))
def b__law_said_machine : SF := (sSeq (sAsg [] 1 (eLst []))
  (sSeq (sFor [] [2] (srcR1 (eN (c1 lenD) [(.ex (e2 ixS (.sl 0) (.ex (eC (.int 0)))))])) (tName 2)
  fb1__law_said_machine)
  (sRet (emN m_join (.ex (eC (.str "\n"))) [(.sl 1)]))))
def c__law_said_machine : Cal := runB [false] 7 b__law_said_machine
theorem ok__law_said_machine (M : Md w K mg) : Ok P w K mg base 2 "_law_said_machine" "_law_said_machine" (top 25) ["_law_machine_here"] [false] c__law_said_machine := by
  obtain ⟨a, fd, D⟩ := M.d__law_said_machine
  have nd := sc__law_said_machine.nd
  refine ok_of (N := N__law_said_machine) (k := 1) (body := b__law_said_machine) D sc__law_said_machine rfl (by decide) (fun cdv A outer s H E hr => ?_) (fun _ _ _ h => h)
  exact (ss_cons (ss_asg 1 (se_lst sv_nil) nd)
  (ss_cons (ss_for (pi_rg1 (se_callB call_len p_lenD M.f_len bb_len (sa_cons (se_ix ix_X p_ixS (so_var 0) se_int) sa_nil)) M.f_range) srcR1_ok (pg_name nd (i := 2) rfl (by first | exact .inl rfl | exact .inr rfl)) (tg_name 2)
  (ss_cons (ss_setLc 3 (pi_any (se_ix ix_X p_ixS (se_ix ix_X p_ixS (so_var 0) se_int) (so_var 2))) (srcC_ok srcA_ok) (blkOk_by (own := [("_law_letter", 4), ("_law_goal", 5)]) (by first | kernel_rfl | rfl)) (tg_tupA (tgs_cons (tg_name 4) (tgs_cons (tg_name 5) tgs_nil))) (fun _ _ _ _ _ => (pg_tupA rfl (pgs_cons (pg_name nd (i := 4) rfl (by first | exact .inl rfl | exact .inr rfl)) (pgs_cons (pg_name nd (i := 5) rfl (by first | exact .inl rfl | exact .inr rfl)) pgs_nil)))) (fun _ _ _ _ _ => st_yes) (fun _ _ _ _ _ => (se_op op_addD p_addD (se_op op_addD p_addD (se_fn (ok__law_said_letter M) hr (sa_cons (so_ex (se_var 4)) sa_nil) (fun _ _ _ _ _ _ us hl => match us, hl with | [_], _ => rfl) ) se_str) (se_callTy call_str_int p_strD M.f_str bb_str (sa_cons (so_var 5) sa_nil)))) rfl nd (sw_true rfl rfl rfl rfl))
  (ss_cons (ss_asg 6 (se_op op_addD p_addD (se_callTy call_str_int p_strD M.f_str bb_str (sa_cons (so_var 2) sa_nil)) (se_op op_mulXX p_mulX se_str (se_callTy call_intX p_intX M.f_int bb_int (sa_cons (se_cmp op_inX p_inX (so_var 2) (se_ix ix_X p_ixS (so_var 0) se_int)) sa_nil)))) nd)
  (ss_one (ss_app 1 (se_op op_addD p_addD (se_op op_addD p_addD (so_var 6) se_str) (se_fn (ok__law_listed M) hr (sa_cons (so_ex (se_var 3)) (sa_cons (so_ex se_str) sa_nil)) (fun _ _ _ _ _ _ us hl => match us, hl with | [_, _], _ => rfl) )))))) .never rfl)
  (ss_one (ss_ret (se_sm PySem.F.slot_str_join PySem.F.type_str_join mt_join p_join se_str (sa_cons (so_var 1) sa_nil))))))
abbrev N__law_thing : List Str := ["_law_well_here", "_law_door", "_law_thing_here"]
theorem sc__law_thing : FnScope N__law_thing ["_law_well_here", "_law_door"] (defScope (top 27)) := ⟨rfl, rfl, rfl, by decide +kernel, rfl, by decide +kernel, by decide +kernel⟩
def b__law_thing : SF := (sSeq (sIf (e2 eqD (.sl 1) (.ex (eC (.int 0)))) (sSeq (sAsg [0] 2 (eCall [true, false] c__law_order [(.sl 0), (.ex (e2 ixS (.ex (eLst [(eC (.int 0)), (eC (.int 1)), (eC (.int 5)), (eC (.int 12)), (eC (.int 40)), (eCall [true, false] c__law_draw [(.sl 0), (.ex (eC (.int 41)))])])) (.ex (eCall [true, false] c__law_draw [(.sl 0), (.ex (eC (.int 6)))]))))]))
  (sRet (eTup [(eVar 2), (eCall [false] c__law_said_order [(.ex (eVar 2))])]))) sNext)
  (sSeq (sIf (e2 eqD (.sl 1) (.ex (eC (.int 1)))) (sSeq (sAsg [0] 2 (eCall [true, false, false] c__law_list [(.sl 0), (.ex (e2 ixS (.ex (eLst [(eC (.int 0)), (eC (.int 1)), (eC (.int 4)), (eC (.int 20))])) (.ex (eCall [true, false] c__law_draw [(.sl 0), (.ex (eC (.int 4)))])))), (.ex (e2 ixS (.ex (eLst [(eC (.int 5)), (eC (.int 5)), (eC (.int 40))])) (.ex (eCall [true, false] c__law_draw [(.sl 0), (.ex (eC (.int 3)))]))))]))
  (sRet (eTup [(eVar 2), (eCall [false] c__law_said_list [(.ex (eVar 2))])]))) sNext)
  (sSeq (sIf (e2 eqD (.sl 1) (.ex (eC (.int 2)))) (sSeq (sAsg [0] 2 (eN (c1 tupleD) [(.ex (eCall [true, false] c__law_letters [(.sl 0), (.ex (e2 ixS (.ex (eLst [(eC (.int 0)), (eC (.int 1)), (eC (.int 5)), (eC (.int 60)), (eCall [true, false] c__law_draw [(.sl 0), (.ex (eC (.int 61)))])])) (.ex (eCall [true, false] c__law_draw [(.sl 0), (.ex (eC (.int 5)))]))))]))]))
  (sRet (eTup [(eVar 2), (eCall [false] c__law_said_word [(.ex (eVar 2))])]))) sNext)
  (sSeq (sIf (e2 eqD (.sl 1) (.ex (eC (.int 3)))) (sSeq (sAsg [0] 2 (eCall [true, false] c__law_machine [(.sl 0), (.ex (e2 ixS (.ex (eLst [(eC (.int 1)), (eC (.int 3)), (eC (.int 12)), (eC (.int 200))])) (.ex (eCall [true, false] c__law_draw [(.sl 0), (.ex (eC (.int 4)))]))))]))
  (sRet (eTup [(eVar 2), (eCall [false] c__law_said_machine [(.ex (eVar 2))])]))) sNext)
  (sSeq (sAsg [0] 2 (eCall [true, false] (c__law_saying 12) [(.sl 0), (.ex (e2 ixS (.ex (eLst [(eC (.int 1)), (eC (.int 3)), (eC (.int 4)), (eC (.int 12))])) (.ex (eCall [true, false] c__law_draw [(.sl 0), (.ex (eC (.int 4)))]))))]))
  (sRet (eTup [(eVar 2), (eCall [false] (c__law_said_saying 12) [(.ex (eVar 2))])])))))))
def c__law_thing : Cal := runB [true, false] 3 b__law_thing
theorem ok__law_thing (M : Md w K mg) : Ok P w K mg base 17 "_law_thing" "_law_thing" (top 27) ["_law_well_here", "_law_door"] [true, false] c__law_thing := by
  obtain ⟨a, fd, D⟩ := M.d__law_thing
  have nd := sc__law_thing.nd
  refine ok_of (N := N__law_thing) (k := 16) (body := b__law_thing) D sc__law_thing rfl (by decide) (fun cdv A outer s H E hr => ?_) (fun _ _ _ h => h)
  exact (ss_cons (ss_if (st_cmp (op_eqA hr.units) p_eqD (so_var 1) se_int) (ss_cons (ss_asg 2 (se_fn (ok__law_order M) hr (sa_cons (so_var 0) (sa_cons (so_ex (se_ix ix_X p_ixS (se_lst (sv_cons se_int (sv_cons se_int (sv_cons se_int (sv_cons se_int (sv_cons se_int (sv_cons (se_fn (ok__law_draw M) hr (sa_cons (so_var 0) (sa_cons (so_ex se_int) sa_nil)) (fun _ _ _ _ _ _ us hl => match us, hl with | [_, _], _ => rfl) ) sv_nil))))))) (se_fn (ok__law_draw M) hr (sa_cons (so_var 0) (sa_cons (so_ex se_int) sa_nil)) (fun _ _ _ _ _ _ us hl => match us, hl with | [_, _], _ => rfl) ))) sa_nil)) (fun _ _ _ _ _ _ us hl => match us, hl with | [_, _], _ => rfl) ) nd)
  (ss_one (ss_ret (se_tup (sv_cons (se_var 2) (sv_cons (se_fn (ok__law_said_order M) hr (sa_cons (so_ex (se_var 2)) sa_nil) (fun _ _ _ _ _ _ us hl => match us, hl with | [_], _ => rfl) ) sv_nil)))))) ss_nil)
  (ss_cons (ss_if (st_cmp (op_eqA hr.units) p_eqD (so_var 1) se_int) (ss_cons (ss_asg 2 (se_fn (ok__law_list M) hr (sa_cons (so_var 0) (sa_cons (so_ex (se_ix ix_X p_ixS (se_lst (sv_cons se_int (sv_cons se_int (sv_cons se_int (sv_cons se_int sv_nil))))) (se_fn (ok__law_draw M) hr (sa_cons (so_var 0) (sa_cons (so_ex se_int) sa_nil)) (fun _ _ _ _ _ _ us hl => match us, hl with | [_, _], _ => rfl) ))) (sa_cons (so_ex (se_ix ix_X p_ixS (se_lst (sv_cons se_int (sv_cons se_int (sv_cons se_int sv_nil)))) (se_fn (ok__law_draw M) hr (sa_cons (so_var 0) (sa_cons (so_ex se_int) sa_nil)) (fun _ _ _ _ _ _ us hl => match us, hl with | [_, _], _ => rfl) ))) sa_nil))) (fun _ _ _ _ _ _ us hl => match us, hl with | [_, _, _], _ => rfl) ) nd)
  (ss_one (ss_ret (se_tup (sv_cons (se_var 2) (sv_cons (se_fn (ok__law_said_list M) hr (sa_cons (so_ex (se_var 2)) sa_nil) (fun _ _ _ _ _ _ us hl => match us, hl with | [_], _ => rfl) ) sv_nil)))))) ss_nil)
  (ss_cons (ss_if (st_cmp (op_eqA hr.units) p_eqD (so_var 1) se_int) (ss_cons (ss_asg 2 (se_callTy call_tuple_of p_tupleD M.f_tuple bb_tuple (sa_cons (se_fn (ok__law_letters M) hr (sa_cons (so_var 0) (sa_cons (so_ex (se_ix ix_X p_ixS (se_lst (sv_cons se_int (sv_cons se_int (sv_cons se_int (sv_cons se_int (sv_cons (se_fn (ok__law_draw M) hr (sa_cons (so_var 0) (sa_cons (so_ex se_int) sa_nil)) (fun _ _ _ _ _ _ us hl => match us, hl with | [_, _], _ => rfl) ) sv_nil)))))) (se_fn (ok__law_draw M) hr (sa_cons (so_var 0) (sa_cons (so_ex se_int) sa_nil)) (fun _ _ _ _ _ _ us hl => match us, hl with | [_, _], _ => rfl) ))) sa_nil)) (fun _ _ _ _ _ _ us hl => match us, hl with | [_, _], _ => rfl) ) sa_nil)) nd)
  (ss_one (ss_ret (se_tup (sv_cons (se_var 2) (sv_cons (se_fn (ok__law_said_word M) hr (sa_cons (so_ex (se_var 2)) sa_nil) (fun _ _ _ _ _ _ us hl => match us, hl with | [_], _ => rfl) ) sv_nil)))))) ss_nil)
  (ss_cons (ss_if (st_cmp (op_eqA hr.units) p_eqD (so_var 1) se_int) (ss_cons (ss_asg 2 (se_fn (ok__law_machine M) hr (sa_cons (so_var 0) (sa_cons (so_ex (se_ix ix_X p_ixS (se_lst (sv_cons se_int (sv_cons se_int (sv_cons se_int (sv_cons se_int sv_nil))))) (se_fn (ok__law_draw M) hr (sa_cons (so_var 0) (sa_cons (so_ex se_int) sa_nil)) (fun _ _ _ _ _ _ us hl => match us, hl with | [_, _], _ => rfl) ))) sa_nil)) (fun _ _ _ _ _ _ us hl => match us, hl with | [_, _], _ => rfl) ) nd)
  (ss_one (ss_ret (se_tup (sv_cons (se_var 2) (sv_cons (se_fn (ok__law_said_machine M) hr (sa_cons (so_ex (se_var 2)) sa_nil) (fun _ _ _ _ _ _ us hl => match us, hl with | [_], _ => rfl) ) sv_nil)))))) ss_nil)
  (ss_cons (ss_asg 2 (se_fn (ok__law_saying M 12) hr (sa_cons (so_var 0) (sa_cons (so_ex (se_ix ix_X p_ixS (se_lst (sv_cons se_int (sv_cons se_int (sv_cons se_int (sv_cons se_int sv_nil))))) (se_fn (ok__law_draw M) hr (sa_cons (so_var 0) (sa_cons (so_ex se_int) sa_nil)) (fun _ _ _ _ _ _ us hl => match us, hl with | [_, _], _ => rfl) ))) sa_nil)) (fun _ _ _ _ _ _ us hl => match us, hl with | [_, _], _ => rfl) ) nd)
  (ss_one (ss_ret (se_tup (sv_cons (se_var 2) (sv_cons (se_fn (ok__law_said_saying M 12) hr (sa_cons (so_ex (se_var 2)) sa_nil) (fun _ _ _ _ _ _ us hl => match us, hl with | [_], _ => rfl) ) sv_nil))))))))))
abbrev N__law_same : List Str := ["_law_told", "_law_due", "_law_k"]
theorem sc__law_same : FnScope N__law_same ["_law_told", "_law_due"] (defScope (top 14)) := ⟨rfl, rfl, rfl, by decide +kernel, rfl, by decide +kernel, by decide +kernel⟩
def le1__law_same (c : Cal) : EF := (eCall [false, false] c [(.ex (e2 ixS (.sl 0) (.sl 2))), (.ex (e2 ixS (.sl 1) (.sl 2)))])
def b__law_same (c : Cal) : SF := (sSeq (sIf (e2 isD (.sl 1) (.ex (eC .non))) (sRet (e2 isD (.sl 0) (.ex (eC .non)))) sNext)
  (sSeq (sIf (e1 (isiD .bool) (.sl 1)) (sRet (eIf (eVar 1) (e2 isBD (.sl 0) (.ex (eC (.bl true)))) (e2 isBD (.sl 0) (.ex (eC (.bl false)))))) sNext)
  (sSeq (sIf (e1 (isiD .int) (.sl 1)) (sRet (eAnd (e1 (isiD .int) (.sl 0)) (eAnd (eNot (e1 (isiD .bool) (.sl 0))) (e2 eqD (.sl 0) (.sl 1))))) sNext)
  (sSeq (sIf (e1 (isiD .str) (.sl 1)) (sRet (eAnd (e1 (isiD .str) (.sl 0)) (e2 eqD (.sl 0) (.sl 1)))) sNext)
  (sSeq (sIf (eOr (e2 neD (.ex (e1 (isiD .tuple) (.sl 1))) (.ex (e1 (isiD .tuple) (.sl 0)))) (e2 neD (.ex (e1 (isiD .list) (.sl 1))) (.ex (e1 (isiD .list) (.sl 0))))) (sRet (eC (.bl false))) sNext)
  (sRet (eAnd (e2 eqD (.ex (eN (c1 lenD) [(.sl 0)])) (.ex (eN (c1 lenD) [(.sl 1)]))) (eN (c1 allD) [(.ex (eLc (srcC (srcR1 (eN (c1 lenD) [(.sl 1)]))) (tName 2) eYes (le1__law_same c) [2]))]))))))))
def c__law_same : Nat → Cal
  | 0 => fun _ => none
  | k + 1 => runB [false, false] 3 (b__law_same (c__law_same k))
theorem ok__law_same (M : Md w K mg) : ∀ k : Nat, Ok P w K mg base (0 + 1 + k) "_law_same" "_law_same" (top 14) ["_law_told", "_law_due"] [false, false] (c__law_same k)
  | 0 => by
    obtain ⟨a, fd, D⟩ := M.d__law_same
    exact ok_of (N := N__law_same) (k := 0) (body := sNever) D sc__law_same rfl (by decide) (fun cdv A outer s H E hr => ss_nevers) (fun _ _ _ h => by cases h)
  | n + 1 => by
    have ih := ok__law_same M n
    obtain ⟨a, fd, D⟩ := M.d__law_same
    have nd := sc__law_same.nd
    refine ok_of (N := N__law_same) (k := 0 + 1 + n) (body := b__law_same (c__law_same n)) D sc__law_same rfl (by decide) (fun cdv A outer s H E hr => ?_) (fun _ _ _ h => h)
    generalize c__law_same n = c at *
    exact (ss_cons (ss_if (st_cmp op_isN p_isD (so_var 1) se_non) (ss_one (ss_ret (se_cmp op_isN p_isD (so_var 0) se_non))) ss_nil)
  (ss_cons (ss_if (st_of (se_isi .bool (so_var 1) M.f_isinstance M.f_bool bb_bool)) (ss_one (ss_ret (se_if (st_of (se_var 1)) (se_cmp op_isBl p_isBD (so_var 0) se_bl) (se_cmp op_isBl p_isBD (so_var 0) se_bl)))) ss_nil)
  (ss_cons (ss_if (st_of (se_isi .int (so_var 1) M.f_isinstance M.f_int bb_int)) (ss_one (ss_ret (se_and (se_isi .int (so_var 0) M.f_isinstance M.f_int bb_int) (se_and (se_not (se_isi .bool (so_var 0) M.f_isinstance M.f_bool bb_bool)) (se_one (se_cmp (op_eqA hr.units) p_eqD (so_var 0) (so_var 1))))))) ss_nil)
  (ss_cons (ss_if (st_of (se_isi .str (so_var 1) M.f_isinstance M.f_str bb_str)) (ss_one (ss_ret (se_and (se_isi .str (so_var 0) M.f_isinstance M.f_str bb_str) (se_one (se_cmp (op_eqA hr.units) p_eqD (so_var 0) (so_var 1)))))) ss_nil)
  (ss_cons (ss_if (PW.pt (st_or (st_cmp (op_neA hr.units) p_neD (se_isi .tuple (so_var 1) M.f_isinstance M.f_tuple bb_tuple) (se_isi .tuple (so_var 0) M.f_isinstance M.f_tuple bb_tuple)) (st_or1 (st_cmp (op_neA hr.units) p_neD (se_isi .list (so_var 1) M.f_isinstance M.f_list bb_list) (se_isi .list (so_var 0) M.f_isinstance M.f_list bb_list))))) (ss_one (ss_ret se_bl)) ss_nil)
  (ss_one (ss_ret (se_and (se_cmp (op_eqA hr.units) p_eqD (se_callB call_len p_lenD M.f_len bb_len (sa_cons (so_var 0) sa_nil)) (se_callB call_len p_lenD M.f_len bb_len (sa_cons (so_var 1) sa_nil))) (se_one (se_callB (cr_all rfl) p_allD M.f_all bb_all (sa_cons (se_lc (pi_rg1 (se_callB call_len p_lenD M.f_len bb_len (sa_cons (so_var 1) sa_nil)) M.f_range) (srcC_ok srcR1_ok) (blkOk_by (own := [("_law_k", 2)]) (by first | kernel_rfl | rfl)) (tg_name 2) (fun _ _ _ _ _ => (pg_name nd (i := 2) rfl (by first | exact .inl rfl | exact .inr rfl))) (fun _ _ _ _ _ => st_yes) (fun _ _ _ _ _ => (se_fn ih hr (sa_cons (so_ex (se_ix ix_X p_ixS (so_var 0) (so_var 2))) (sa_cons (so_ex (se_ix ix_X p_ixS (so_var 1) (so_var 2))) sa_nil)) (fun _ _ _ _ _ _ us hl => match us, hl with | [_, _], _ => rfl) (hjk := Nat.le_refl _))) rfl nd) sa_nil)))))))))))
abbrev N_show_number : List Str := ["a", "top", "bottom"]
theorem sc_show_number : FnScope N_show_number ["a"] (defScope (top 3)) := ⟨rfl, rfl, rfl, by decide +kernel, rfl, by decide +kernel, by decide +kernel⟩
def b_show_number : SF := (sSeq (sTgt [] [1, 2] (tTplA 2 (tsCons (tName 1) (tsCons (tName 2) tsNil))) (eVar 0))
  (sRet (eIf (e2 eqD (.sl 2) (.ex (eC (.int 1)))) (eN (c1 strD) [(.sl 1)]) (e2 addD (.ex (e2 addD (.ex (eN (c1 strD) [(.sl 1)])) (.ex (eC (.str "/"))))) (.ex (eN (c1 strD) [(.sl 2)]))))))
def c_show_number : Cal := runB [false] 3 b_show_number
theorem ok_show_number (M : Md w K mg) : Ok P w K mg base 1 "show_number" "show_number" (top 3) ["a"] [false] c_show_number := by
  obtain ⟨a, fd, D⟩ := M.d_show_number
  have nd := sc_show_number.nd
  refine ok_of (N := N_show_number) (k := 0) (body := b_show_number) D sc_show_number rfl (by decide) (fun cdv A outer s H E hr => ?_) (fun _ _ _ h => h)
  exact (ss_cons (ss_tgt (tg_tupA (tgs_cons (tg_name 1) (tgs_cons (tg_name 2) tgs_nil))) (se_var 0) (pg_tupA rfl (pgs_cons (pg_name nd (i := 1) rfl (by first | exact .inl rfl | exact .inr rfl)) (pgs_cons (pg_name nd (i := 2) rfl (by first | exact .inl rfl | exact .inr rfl)) pgs_nil))))
  (ss_one (ss_ret (se_if (st_cmp (op_eqA hr.units) p_eqD (so_var 2) se_int) (se_callTy call_str_int p_strD M.f_str bb_str (sa_cons (so_var 1) sa_nil)) (se_op op_addD p_addD (se_op op_addD p_addD (se_callTy call_str_int p_strD M.f_str bb_str (sa_cons (so_var 1) sa_nil)) se_str) (se_callTy call_str_int p_strD M.f_str bb_str (sa_cons (so_var 2) sa_nil)))))))
abbrev N_listed : List Str := ["words", "between"]
theorem sc_listed : FnScope N_listed ["words", "between"] (defScope (top 4)) := ⟨rfl, rfl, rfl, by decide +kernel, rfl, by decide +kernel, by decide +kernel⟩
def b_listed : SF := (sRet (eIf (e2 gtD (.ex (eN (c1 lenD) [(.sl 0)])) (.ex (eC (.int 0)))) (emN m_join (.sl 1) [(.sl 0)]) (eC K_NONE)))
def c_listed : Cal := runB [false, false] 2 b_listed
theorem ok_listed (M : Md w K mg) : Ok P w K mg base 1 "listed" "listed" (top 4) ["words", "between"] [false, false] c_listed := by
  obtain ⟨a, fd, D⟩ := M.d_listed
  have nd := sc_listed.nd
  refine ok_of (N := N_listed) (k := 0) (body := b_listed) D sc_listed rfl (by decide) (fun cdv A outer s H E hr => ?_) (fun _ _ _ h => h)
  exact (ss_one (ss_ret (se_if (st_cmp op_gt p_gtD (se_callB call_len p_lenD M.f_len bb_len (sa_cons (so_var 0) sa_nil)) se_int) (se_sm PySem.F.slot_str_join PySem.F.type_str_join mt_join p_join (so_var 1) (sa_cons (so_var 0) sa_nil)) (M.k_NONE.elim fun _ h => h.elim fun _ h => se_glob h.1 h.2.1 h.2.2))))
abbrev N_show_order : List Str := ["order", "number"]
theorem sc_show_order : FnScope N_show_order ["order"] (defScope (top 5)) := ⟨rfl, rfl, rfl, by decide +kernel, rfl, by decide +kernel, by decide +kernel⟩
def le1_show_order : EF := (eN (c1 strD) [(.sl 1)])
def b_show_order : SF := (sRet (eCall [false, false] c_listed [(.ex (eLc (srcN 0) (tName 1) eYes le1_show_order [1])), (.ex (eC (.str " ")))]))
def c_show_order : Cal := runB [false] 2 b_show_order
theorem ok_show_order (M : Md w K mg) : Ok P w K mg base 2 "show_order" "show_order" (top 5) ["order"] [false] c_show_order := by
  obtain ⟨a, fd, D⟩ := M.d_show_order
  have nd := sc_show_order.nd
  refine ok_of (N := N_show_order) (k := 1) (body := b_show_order) D sc_show_order rfl (by decide) (fun cdv A outer s H E hr => ?_) (fun _ _ _ h => h)
  exact (ss_one (ss_ret (se_fn (ok_listed M) hr (sa_cons (so_ex (se_lc (pi_any (pv 0)) srcN_ok (blkOk_by (own := [("number", 1)]) (by first | kernel_rfl | rfl)) (tg_name 1) (fun _ _ _ _ _ => (pg_name nd (i := 1) rfl (by first | exact .inl rfl | exact .inr rfl))) (fun _ _ _ _ _ => st_yes) (fun _ _ _ _ _ => (se_callTy call_str_int p_strD M.f_str bb_str (sa_cons (so_var 1) sa_nil))) rfl nd)) (sa_cons (so_ex se_str) sa_nil)) (fun _ _ _ _ _ _ us hl => match us, hl with | [_, _], _ => rfl) )))
abbrev N_show_list : List Str := ["forbidden", "pattern"]
theorem sc_show_list : FnScope N_show_list ["forbidden"] (defScope (top 6)) := ⟨rfl, rfl, rfl, by decide +kernel, rfl, by decide +kernel, by decide +kernel⟩
def le1_show_list : EF := (eCall [false] c_show_order [(.ex (eVar 1))])
def b_show_list : SF := (sRet (eCall [false, false] c_listed [(.ex (eLc (srcN 0) (tName 1) eYes le1_show_list [1])), (.ex (eC (.str ", ")))]))
def c_show_list : Cal := runB [false] 2 b_show_list
theorem ok_show_list (M : Md w K mg) : Ok P w K mg base 3 "show_list" "show_list" (top 6) ["forbidden"] [false] c_show_list := by
  obtain ⟨a, fd, D⟩ := M.d_show_list
  have nd := sc_show_list.nd
  refine ok_of (N := N_show_list) (k := 2) (body := b_show_list) D sc_show_list rfl (by decide) (fun cdv A outer s H E hr => ?_) (fun _ _ _ h => h)
  exact (ss_one (ss_ret (se_fn (ok_listed M) hr (sa_cons (so_ex (se_lc (pi_any (pv 0)) srcN_ok (blkOk_by (own := [("pattern", 1)]) (by first | kernel_rfl | rfl)) (tg_name 1) (fun _ _ _ _ _ => (pg_name nd (i := 1) rfl (by first | exact .inl rfl | exact .inr rfl))) (fun _ _ _ _ _ => st_yes) (fun _ _ _ _ _ => (se_fn (ok_show_order M) hr (sa_cons (so_ex (se_var 1)) sa_nil) (fun _ _ _ _ _ _ us hl => match us, hl with | [_], _ => rfl) )) rfl nd)) (sa_cons (so_ex se_str) sa_nil)) (fun _ _ _ _ _ _ us hl => match us, hl with | [_, _], _ => rfl) )))
abbrev N_show_letter : List Str := ["letter", "slot", "way"]
theorem sc_show_letter : FnScope N_show_letter ["letter"] (defScope (top 7)) := ⟨rfl, rfl, rfl, by decide +kernel, rfl, by decide +kernel, by decide +kernel⟩
def b_show_letter : SF := (sSeq (sTgt [] [1, 2] (tTplA 2 (tsCons (tName 1) (tsCons (tName 2) tsNil))) (eVar 0))
  (sRet (e2 addD (.ex (eN (c1 strD) [(.sl 1)])) (.ex (e2 ixS (.ex (eC K_WAYS)) (.sl 2))))))
def c_show_letter : Cal := runB [false] 3 b_show_letter
theorem ok_show_letter (M : Md w K mg) : Ok P w K mg base 1 "show_letter" "show_letter" (top 7) ["letter"] [false] c_show_letter := by
  obtain ⟨a, fd, D⟩ := M.d_show_letter
  have nd := sc_show_letter.nd
  refine ok_of (N := N_show_letter) (k := 0) (body := b_show_letter) D sc_show_letter rfl (by decide) (fun cdv A outer s H E hr => ?_) (fun _ _ _ h => h)
  exact (ss_cons (ss_tgt (tg_tupA (tgs_cons (tg_name 1) (tgs_cons (tg_name 2) tgs_nil))) (se_var 0) (pg_tupA rfl (pgs_cons (pg_name nd (i := 1) rfl (by first | exact .inl rfl | exact .inr rfl)) (pgs_cons (pg_name nd (i := 2) rfl (by first | exact .inl rfl | exact .inr rfl)) pgs_nil))))
  (ss_one (ss_ret (se_op op_addD p_addD (se_callTy call_str_int p_strD M.f_str bb_str (sa_cons (so_var 1) sa_nil)) (se_ix ix_X p_ixS (M.k_WAYS.elim fun _ h => h.elim fun _ h => se_glob h.1 h.2.1 h.2.2) (so_var 2))))))
abbrev N_show_word : List Str := ["word", "letter"]
theorem sc_show_word : FnScope N_show_word ["word"] (defScope (top 8)) := ⟨rfl, rfl, rfl, by decide +kernel, rfl, by decide +kernel, by decide +kernel⟩
def le1_show_word : EF := (eCall [false] c_show_letter [(.ex (eVar 1))])
def b_show_word : SF := (sRet (eCall [false, false] c_listed [(.ex (eLc (srcN 0) (tName 1) eYes le1_show_word [1])), (.ex (eC (.str " ")))]))
def c_show_word : Cal := runB [false] 2 b_show_word
theorem ok_show_word (M : Md w K mg) : Ok P w K mg base 2 "show_word" "show_word" (top 8) ["word"] [false] c_show_word := by
  obtain ⟨a, fd, D⟩ := M.d_show_word
  have nd := sc_show_word.nd
  refine ok_of (N := N_show_word) (k := 1) (body := b_show_word) D sc_show_word rfl (by decide) (fun cdv A outer s H E hr => ?_) (fun _ _ _ h => h)
  exact (ss_one (ss_ret (se_fn (ok_listed M) hr (sa_cons (so_ex (se_lc (pi_any (pv 0)) srcN_ok (blkOk_by (own := [("letter", 1)]) (by first | kernel_rfl | rfl)) (tg_name 1) (fun _ _ _ _ _ => (pg_name nd (i := 1) rfl (by first | exact .inl rfl | exact .inr rfl))) (fun _ _ _ _ _ => st_yes) (fun _ _ _ _ _ => (se_fn (ok_show_letter M) hr (sa_cons (so_ex (se_var 1)) sa_nil) (fun _ _ _ _ _ _ us hl => match us, hl with | [_], _ => rfl) )) rfl nd)) (sa_cons (so_ex se_str) sa_nil)) (fun _ _ _ _ _ _ us hl => match us, hl with | [_, _], _ => rfl) )))
abbrev N_show_machine : List Str := ["machine", "rows", "ends", "lines", "index", "row", "name", "letter", "state"]
theorem sc_show_machine : FnScope N_show_machine ["machine"] (defScope (top 9)) := ⟨rfl, rfl, rfl, by decide +kernel, rfl, by decide +kernel, by decide +kernel⟩
def le1_show_machine : EF := (e2 addD (.ex (e2 addD (.ex (eCall [false] c_show_letter [(.ex (eVar 7))])) (.ex (eC (.str " "))))) (.ex (eN (c1 strD) [(.sl 8)])))
def fb1_show_machine : SF := (sSeq (sAsg [] 6 (e2 addD (.ex (eN (c1 strD) [(.sl 4)])) (.ex (eIf (e2 (inX false) (.sl 4) (.sl 2)) (eC (.str " end")) (eC (.str ""))))))
  (sApp 3 (e2 addD (.ex (e2 addD (.sl 6) (.ex (eC (.str " : "))))) (.ex (eCall [false, false] c_listed [(.ex (eLc (srcN 5) (tTplA 2 (tsCons (tName 7) (tsCons (tName 8) tsNil))) eYes le1_show_machine [7, 8])), (.ex (eC (.str ", ")))])))))
def b_show_machine : SF := (sSeq (sTgt [] [1, 2] (tTplA 2 (tsCons (tName 1) (tsCons (tName 2) tsNil))) (eVar 0))
  (sSeq (sAsg [] 3 (eLst []))
  (sSeq (sFor [] [4, 5] (srcEn (eVar 1)) (tTplA 2 (tsCons (tName 4) (tsCons (tName 5) tsNil)))
  fb1_show_machine)
  (sRet (emN m_join (.ex (eC (.str "\n"))) [(.sl 3)])))))
def c_show_machine : Cal := runB [false] 9 b_show_machine
theorem ok_show_machine (M : Md w K mg) : Ok P w K mg base 2 "show_machine" "show_machine" (top 9) ["machine"] [false] c_show_machine := by
  obtain ⟨a, fd, D⟩ := M.d_show_machine
  have nd := sc_show_machine.nd
  refine ok_of (N := N_show_machine) (k := 1) (body := b_show_machine) D sc_show_machine rfl (by decide) (fun cdv A outer s H E hr => ?_) (fun _ _ _ h => h)
  exact (ss_cons (ss_tgt (tg_tupA (tgs_cons (tg_name 1) (tgs_cons (tg_name 2) tgs_nil))) (se_var 0) (pg_tupA rfl (pgs_cons (pg_name nd (i := 1) rfl (by first | exact .inl rfl | exact .inr rfl)) (pgs_cons (pg_name nd (i := 2) rfl (by first | exact .inl rfl | exact .inr rfl)) pgs_nil))))
  (ss_cons (ss_asg 3 (se_lst sv_nil) nd)
  (ss_cons (ss_for (pi_enumA (se_var 1) M.f_enumerate) srcEn_ok (pg_tupA rfl (pgs_cons (pg_name nd (i := 4) rfl (by first | exact .inl rfl | exact .inr rfl)) (pgs_cons (pg_name nd (i := 5) rfl (by first | exact .inl rfl | exact .inr rfl)) pgs_nil))) (tg_tupA (tgs_cons (tg_name 4) (tgs_cons (tg_name 5) tgs_nil)))
  (ss_cons (ss_asg 6 (se_op op_addD p_addD (se_callTy call_str_int p_strD M.f_str bb_str (sa_cons (so_var 4) sa_nil)) (se_if (st_cmp op_inX p_inX (so_var 4) (so_var 2)) se_str se_str)) nd)
  (ss_one (ss_app 3 (se_op op_addD p_addD (se_op op_addD p_addD (so_var 6) se_str) (se_fn (ok_listed M) hr (sa_cons (so_ex (se_lc (pi_any (pv 5)) srcN_ok (blkOk_by (own := [("letter", 7), ("state", 8)]) (by first | kernel_rfl | rfl)) (tg_tupA (tgs_cons (tg_name 7) (tgs_cons (tg_name 8) tgs_nil))) (fun _ _ _ _ _ => (pg_tupA rfl (pgs_cons (pg_name nd (i := 7) rfl (by first | exact .inl rfl | exact .inr rfl)) (pgs_cons (pg_name nd (i := 8) rfl (by first | exact .inl rfl | exact .inr rfl)) pgs_nil)))) (fun _ _ _ _ _ => st_yes) (fun _ _ _ _ _ => (se_op op_addD p_addD (se_op op_addD p_addD (se_fn (ok_show_letter M) hr (sa_cons (so_ex (se_var 7)) sa_nil) (fun _ _ _ _ _ _ us hl => match us, hl with | [_], _ => rfl) ) se_str) (se_callTy call_str_int p_strD M.f_str bb_str (sa_cons (so_var 8) sa_nil)))) rfl nd)) (sa_cons (so_ex se_str) sa_nil)) (fun _ _ _ _ _ _ us hl => match us, hl with | [_, _], _ => rfl) ))))) .never rfl)
  (ss_one (ss_ret (se_sm PySem.F.slot_str_join PySem.F.type_str_join mt_join p_join se_str (sa_cons (so_var 3) sa_nil)))))))
abbrev N_show_saying : List Str := ["saying", "part"]
theorem sc_show_saying : FnScope N_show_saying ["saying"] (defScope (top 10)) := ⟨rfl, rfl, rfl, by decide +kernel, rfl, by decide +kernel, by decide +kernel⟩
def le1_show_saying (c : Cal) : EF := (eCall [false] c [(.ex (eVar 1))])
def b_show_saying (c : Cal) : SF := (sSeq (sIf (e2 eqD (.ex (e2 ixS (.sl 0) (.ex (eC (.int 0))))) (.ex (eC (.str "list")))) (sRet (e2 addD (.ex (e2 addD (.ex (eC (.str "(list ["))) (.ex (eCall [false] c_show_list [(.ex (e2 ixS (.sl 0) (.ex (eC (.int 1)))))])))) (.ex (eC (.str "])"))))) sNext)
  (sSeq (sIf (e2 eqD (.ex (e2 ixS (.sl 0) (.ex (eC (.int 0))))) (.ex (eC (.str "sorted")))) (sRet (e2 addD (.ex (e2 addD (.ex (eC (.str "(sorted "))) (.ex (e2 ixS (.sl 0) (.ex (eC (.int 1))))))) (.ex (eC (.str ")"))))) sNext)
  (sRet (e2 addD (.ex (e2 addD (.ex (eC (.str "("))) (.ex (emN m_join (.ex (eC (.str " "))) [(.ex (e2 addD (.ex (eLst [(e2 ixS (.sl 0) (.ex (eC (.int 0))))])) (.ex (eLc (srcC (srcA (eSl slS (.sl 0) (some (eC (.int 1))) none))) (tName 1) eYes (le1_show_saying c) [1]))))])))) (.ex (eC (.str ")")))))))
def c_show_saying : Nat → Cal
  | 0 => fun _ => none
  | k + 1 => runB [false] 2 (b_show_saying (c_show_saying k))
theorem ok_show_saying (M : Md w K mg) : ∀ k : Nat, Ok P w K mg base (3 + 1 + k) "show_saying" "show_saying" (top 10) ["saying"] [false] (c_show_saying k)
  | 0 => by
    obtain ⟨a, fd, D⟩ := M.d_show_saying
    exact ok_of (N := N_show_saying) (k := 3) (body := sNever) D sc_show_saying rfl (by decide) (fun cdv A outer s H E hr => ss_nevers) (fun _ _ _ h => by cases h)
  | n + 1 => by
    have ih := ok_show_saying M n
    obtain ⟨a, fd, D⟩ := M.d_show_saying
    have nd := sc_show_saying.nd
    refine ok_of (N := N_show_saying) (k := 3 + 1 + n) (body := b_show_saying (c_show_saying n)) D sc_show_saying rfl (by decide) (fun cdv A outer s H E hr => ?_) (fun _ _ _ h => h)
    generalize c_show_saying n = c at *
    exact (ss_cons (ss_if (st_cmp (op_eqA hr.units) p_eqD (se_ix ix_X p_ixS (so_var 0) se_int) se_str) (ss_one (ss_ret (se_op op_addD p_addD (se_op op_addD p_addD se_str (se_fn (ok_show_list M) hr (sa_cons (so_ex (se_ix ix_X p_ixS (so_var 0) se_int)) sa_nil) (fun _ _ _ _ _ _ us hl => match us, hl with | [_], _ => rfl) (hjk := by omega))) se_str))) ss_nil)
  (ss_cons (ss_if (st_cmp (op_eqA hr.units) p_eqD (se_ix ix_X p_ixS (so_var 0) se_int) se_str) (ss_one (ss_ret (se_op op_addD p_addD (se_op op_addD p_addD se_str (se_ix ix_X p_ixS (so_var 0) se_int)) se_str))) ss_nil)
  (ss_one (ss_ret (se_op op_addD p_addD (se_op op_addD p_addD se_str (se_sm PySem.F.slot_str_join PySem.F.type_str_join mt_join p_join se_str (sa_cons (se_op op_addD p_addD (se_lst (sv_cons (se_ix ix_X p_ixS (so_var 0) se_int) sv_nil)) (se_lc (pi_any (se_slice sl_X p_slS (so_var 0) (sp_some se_int) sp_none)) (srcC_ok srcA_ok) (blkOk_by (own := [("part", 1)]) (by first | kernel_rfl | rfl)) (tg_name 1) (fun _ _ _ _ _ => (pg_name nd (i := 1) rfl (by first | exact .inl rfl | exact .inr rfl))) (fun _ _ _ _ _ => st_yes) (fun _ _ _ _ _ => (se_fn ih hr (sa_cons (so_ex (se_var 1)) sa_nil) (fun _ _ _ _ _ _ us hl => match us, hl with | [_], _ => rfl) (hjk := Nat.le_refl _))) rfl nd)) sa_nil))) se_str)))))
abbrev N__law_shown : List Str := ["_law_door", "_law_thing_here", "_law_named"]
theorem sc__law_shown : FnScope N__law_shown ["_law_door", "_law_thing_here", "_law_named"] (defScope (top 31)) := ⟨rfl, rfl, rfl, by decide +kernel, rfl, by decide +kernel, by decide +kernel⟩
def b__law_shown : SF := (sSeq (sIf (e2 eqD (.sl 0) (.ex (eC (.int 0)))) (sRet (eIf (eVar 2) (eCallK [false] c_show_order [(.ex (eVar 1))] [0]) (eCall [false] c_show_order [(.ex (eVar 1))]))) sNext)
  (sSeq (sIf (e2 eqD (.sl 0) (.ex (eC (.int 1)))) (sRet (eIf (eVar 2) (eCallK [false] c_show_list [(.ex (eVar 1))] [0]) (eCall [false] c_show_list [(.ex (eVar 1))]))) sNext)
  (sSeq (sIf (e2 eqD (.sl 0) (.ex (eC (.int 2)))) (sRet (eIf (eVar 2) (eCallK [false] c_show_word [(.ex (eVar 1))] [0]) (eCall [false] c_show_word [(.ex (eVar 1))]))) sNext)
  (sSeq (sIf (e2 eqD (.sl 0) (.ex (eC (.int 3)))) (sRet (eIf (eVar 2) (eCallK [false] c_show_machine [(.ex (eVar 1))] [0]) (eCall [false] c_show_machine [(.ex (eVar 1))]))) sNext)
  (sSeq (sIf (e2 eqD (.sl 0) (.ex (eC (.int 4)))) (sRet (eIf (eVar 2) (eCallK [false] (c_show_saying 12) [(.ex (eVar 1))] [0]) (eCall [false] (c_show_saying 12) [(.ex (eVar 1))]))) sNext)
  (sRet (eIf (eVar 2) (eCallK [false] c_show_number [(.ex (eVar 1))] [0]) (eCall [false] c_show_number [(.ex (eVar 1))]))))))))
def c__law_shown : Cal := runB [false, false, false] 3 b__law_shown
theorem ok__law_shown (M : Md w K mg) : Ok P w K mg base 17 "_law_shown" "_law_shown" (top 31) ["_law_door", "_law_thing_here", "_law_named"] [false, false, false] c__law_shown := by
  obtain ⟨a, fd, D⟩ := M.d__law_shown
  have nd := sc__law_shown.nd
  refine ok_of (N := N__law_shown) (k := 16) (body := b__law_shown) D sc__law_shown rfl (by decide) (fun cdv A outer s H E hr => ?_) (fun _ _ _ h => h)
  exact (ss_cons (ss_if (st_cmp (op_eqA hr.units) p_eqD (so_var 0) se_int) (ss_one (ss_ret (se_if (st_of (se_var 2)) (se_fnK (is := [0]) (ok_show_order M) hr (sk_cons (so_ex (se_var 1)) sk_nil) (fun _ _ _ _ _ _ ws hl => match ws, hl with | _ :: _, _ => rfl | [], hl => by simp [pick] at hl) ) (se_fn (ok_show_order M) hr (sa_cons (so_ex (se_var 1)) sa_nil) (fun _ _ _ _ _ _ us hl => match us, hl with | [_], _ => rfl) )))) ss_nil)
  (ss_cons (ss_if (st_cmp (op_eqA hr.units) p_eqD (so_var 0) se_int) (ss_one (ss_ret (se_if (st_of (se_var 2)) (se_fnK (is := [0]) (ok_show_list M) hr (sk_cons (so_ex (se_var 1)) sk_nil) (fun _ _ _ _ _ _ ws hl => match ws, hl with | _ :: _, _ => rfl | [], hl => by simp [pick] at hl) ) (se_fn (ok_show_list M) hr (sa_cons (so_ex (se_var 1)) sa_nil) (fun _ _ _ _ _ _ us hl => match us, hl with | [_], _ => rfl) )))) ss_nil)
  (ss_cons (ss_if (st_cmp (op_eqA hr.units) p_eqD (so_var 0) se_int) (ss_one (ss_ret (se_if (st_of (se_var 2)) (se_fnK (is := [0]) (ok_show_word M) hr (sk_cons (so_ex (se_var 1)) sk_nil) (fun _ _ _ _ _ _ ws hl => match ws, hl with | _ :: _, _ => rfl | [], hl => by simp [pick] at hl) ) (se_fn (ok_show_word M) hr (sa_cons (so_ex (se_var 1)) sa_nil) (fun _ _ _ _ _ _ us hl => match us, hl with | [_], _ => rfl) )))) ss_nil)
  (ss_cons (ss_if (st_cmp (op_eqA hr.units) p_eqD (so_var 0) se_int) (ss_one (ss_ret (se_if (st_of (se_var 2)) (se_fnK (is := [0]) (ok_show_machine M) hr (sk_cons (so_ex (se_var 1)) sk_nil) (fun _ _ _ _ _ _ ws hl => match ws, hl with | _ :: _, _ => rfl | [], hl => by simp [pick] at hl) ) (se_fn (ok_show_machine M) hr (sa_cons (so_ex (se_var 1)) sa_nil) (fun _ _ _ _ _ _ us hl => match us, hl with | [_], _ => rfl) )))) ss_nil)
  (ss_cons (ss_if (st_cmp (op_eqA hr.units) p_eqD (so_var 0) se_int) (ss_one (ss_ret (se_if (st_of (se_var 2)) (se_fnK (is := [0]) (ok_show_saying M 12) hr (sk_cons (so_ex (se_var 1)) sk_nil) (fun _ _ _ _ _ _ ws hl => match ws, hl with | _ :: _, _ => rfl | [], hl => by simp [pick] at hl) ) (se_fn (ok_show_saying M 12) hr (sa_cons (so_ex (se_var 1)) sa_nil) (fun _ _ _ _ _ _ us hl => match us, hl with | [_], _ => rfl) )))) ss_nil)
  (ss_one (ss_ret (se_if (st_of (se_var 2)) (se_fnK (is := [0]) (ok_show_number M) hr (sk_cons (so_ex (se_var 1)) sk_nil) (fun _ _ _ _ _ _ ws hl => match ws, hl with | _ :: _, _ => rfl | [], hl => by simp [pick] at hl) ) (se_fn (ok_show_number M) hr (sa_cons (so_ex (se_var 1)) sa_nil) (fun _ _ _ _ _ _ us hl => match us, hl with | [_], _ => rfl) )))))))))
abbrev N_law : List Str := ["_law_script", "_law_rows", "_law_place", "_law_well_here", "_law_a", "_law_door", "_law_thing_here", "_law_said"]
theorem sc_law : FnScope N_law ["_law_script"] (defScope (top 32)) := ⟨rfl, rfl, rfl, by decide +kernel, rfl, by decide +kernel, by decide +kernel⟩
def fb1_law : SF := (sSeq (sTgt [] [6, 7] (tTplA 2 (tsCons (tName 6) (tsCons (tName 7) tsNil))) (eCall [true, false] c__law_thing [(.sl 3), (.ex (eVar 5))]))
  (sSeq (sIf (eNot (eCall [false, false] (c__law_same 1) [(.ex (eCall [false, false, false] c__law_shown [(.ex (eVar 5)), (.ex (eVar 6)), (.ex (e2 eqD (.ex (eCall [true, false] c__law_draw [(.sl 3), (.ex (eC (.int 2)))])) (.ex (eC (.int 0)))))])), (.ex (eVar 7))])) (sRet (eC (.bl false))) sNext)
  (sApp 1 (eTup [(eVar 5), (eVar 6), (eVar 7)]))))
def fb2_law : SF := (sSeq (sAsg [] 3 (eCall [false, false] c__law_well [(.ex (eVar 0)), (.ex (eVar 2))]))
  (sSeq (sAsg [] 4 (eCall [true] c__law_number [(.sl 3)]))
  (sSeq (sApp 1 (eTup [(eC (.int 5)), (eVar 4), (eIf (e2 eqD (.ex (e2 ixS (.sl 4) (.ex (eC (.int 1))))) (.ex (eC (.int 1)))) (eN (c1 strD) [(.ex (e2 ixS (.sl 4) (.ex (eC (.int 0)))))]) (e2 addD (.ex (e2 addD (.ex (eN (c1 strD) [(.ex (e2 ixS (.sl 4) (.ex (eC (.int 0)))))])) (.ex (eC (.str "/"))))) (.ex (eN (c1 strD) [(.ex (e2 ixS (.sl 4) (.ex (eC (.int 1)))))]))))]))
  (sFor [] [5] (srcR1 (eC (.int 5))) (tName 5)
  fb1_law))))
def fb3_law : SF := (sIf (eNot (eCall [false, false] (c__law_same 1) [(.ex (eCall [false, false, false] c__law_shown [(.ex (eVar 5)), (.ex (eVar 6)), (.ex (e2 ltD (.ex (eN (c1 lenD) [(.sl 7)])) (.ex (eC (.int 9)))))])), (.ex (eVar 7))])) (sRet (eC (.bl false))) sNext)
def b_law : SF := (sSeq (sAsg [] 1 (eLst []))
  (sSeq (sFor [] [2] (srcR1 (eN (c2 max2D) [(.ex (eC (.int 1))), (.ex (eN (c2 min2D) [(.ex (eC (.int 6))), (.ex (eN (c1 lenD) [(.sl 0)]))]))])) (tName 2)
  fb2_law)
  (sSeq (sFor [] [5, 6, 7] (srcA (e1 revD (.sl 1))) (tTplA 3 (tsCons (tName 5) (tsCons (tName 6) (tsCons (tName 7) tsNil))))
  fb3_law)
  (sRet (eC (.bl true))))))
def c_law : Cal := runB [false] 8 b_law
theorem ok_law (M : Md w K mg) : Ok P w K mg base 18 "law" "law" (top 32) ["_law_script"] [false] c_law := by
  obtain ⟨a, fd, D⟩ := M.d_law
  have nd := sc_law.nd
  refine ok_of (N := N_law) (k := 17) (body := b_law) D sc_law rfl (by decide) (fun cdv A outer s H E hr => ?_) (fun _ _ _ h => h)
  exact (ss_cons (ss_asg 1 (se_lst sv_nil) nd)
  (ss_cons (ss_for (pi_rg1 (se_callB (call_max2 rfl) p_max2D M.f_max bb_max (sa_cons se_int (sa_cons (se_callB (call_min2 rfl) p_min2D M.f_min bb_min (sa_cons se_int (sa_cons (se_callB call_len p_lenD M.f_len bb_len (sa_cons (so_var 0) sa_nil)) sa_nil))) sa_nil))) M.f_range) srcR1_ok (pg_name nd (i := 2) rfl (by first | exact .inl rfl | exact .inr rfl)) (tg_name 2)
  (ss_cons (ss_asg 3 (se_fn (ok__law_well M) hr (sa_cons (so_ex (se_var 0)) (sa_cons (so_ex (se_var 2)) sa_nil)) (fun _ _ _ _ _ _ us hl => match us, hl with | [_, _], _ => rfl) ) nd)
  (ss_cons (ss_asg 4 (se_fn (ok__law_number M) hr (sa_cons (so_var 3) sa_nil) (fun _ _ _ _ _ _ us hl => match us, hl with | [_], _ => rfl) ) nd)
  (ss_cons (ss_app 1 (se_tup (sv_cons se_int (sv_cons (se_var 4) (sv_cons (se_if (st_cmp (op_eqA hr.units) p_eqD (se_ix ix_X p_ixS (so_var 4) se_int) se_int) (se_callTy call_str_int p_strD M.f_str bb_str (sa_cons (se_ix ix_X p_ixS (so_var 4) se_int) sa_nil)) (se_op op_addD p_addD (se_op op_addD p_addD (se_callTy call_str_int p_strD M.f_str bb_str (sa_cons (se_ix ix_X p_ixS (so_var 4) se_int) sa_nil)) se_str) (se_callTy call_str_int p_strD M.f_str bb_str (sa_cons (se_ix ix_X p_ixS (so_var 4) se_int) sa_nil)))) sv_nil)))))
  (ss_one (ss_for (pi_rg1 se_int M.f_range) srcR1_ok (pg_name nd (i := 5) rfl (by first | exact .inl rfl | exact .inr rfl)) (tg_name 5)
  (ss_cons (ss_tgt (tg_tupA (tgs_cons (tg_name 6) (tgs_cons (tg_name 7) tgs_nil))) (se_fn (ok__law_thing M) hr (sa_cons (so_var 3) (sa_cons (so_ex (se_var 5)) sa_nil)) (fun _ _ _ _ _ _ us hl => match us, hl with | [_, _], _ => rfl) ) (pg_tupA rfl (pgs_cons (pg_name nd (i := 6) rfl (by first | exact .inl rfl | exact .inr rfl)) (pgs_cons (pg_name nd (i := 7) rfl (by first | exact .inl rfl | exact .inr rfl)) pgs_nil))))
  (ss_cons (ss_if (st_not (st_of (se_fn (ok__law_same M 1) hr (sa_cons (so_ex (se_fn (ok__law_shown M) hr (sa_cons (so_ex (se_var 5)) (sa_cons (so_ex (se_var 6)) (sa_cons (so_ex (se_cmp (op_eqA hr.units) p_eqD (se_fn (ok__law_draw M) hr (sa_cons (so_var 3) (sa_cons (so_ex se_int) sa_nil)) (fun _ _ _ _ _ _ us hl => match us, hl with | [_, _], _ => rfl) ) se_int)) sa_nil))) (fun _ _ _ _ _ _ us hl => match us, hl with | [_, _, _], _ => rfl) )) (sa_cons (so_ex (se_var 7)) sa_nil)) (fun _ _ _ _ _ _ us hl => match us, hl with | [_, _], _ => rfl) ))) (ss_one (ss_ret se_bl)) ss_nil)
  (ss_one (ss_app 1 (se_tup (sv_cons (se_var 5) (sv_cons (se_var 6) (sv_cons (se_var 7) sv_nil)))))))) .never rfl))))) .never rfl)
  (ss_cons (ss_for (pi_any (se_rev (so_var 1))) srcA_ok (pg_tupA rfl (pgs_cons (pg_name nd (i := 5) rfl (by first | exact .inl rfl | exact .inr rfl)) (pgs_cons (pg_name nd (i := 6) rfl (by first | exact .inl rfl | exact .inr rfl)) (pgs_cons (pg_name nd (i := 7) rfl (by first | exact .inl rfl | exact .inr rfl)) pgs_nil)))) (tg_tupA (tgs_cons (tg_name 5) (tgs_cons (tg_name 6) (tgs_cons (tg_name 7) tgs_nil))))
  (ss_one (ss_if (st_not (st_of (se_fn (ok__law_same M 1) hr (sa_cons (so_ex (se_fn (ok__law_shown M) hr (sa_cons (so_ex (se_var 5)) (sa_cons (so_ex (se_var 6)) (sa_cons (so_ex (se_cmp op_lt p_ltD (se_callB call_len p_lenD M.f_len bb_len (sa_cons (so_var 7) sa_nil)) se_int)) sa_nil))) (fun _ _ _ _ _ _ us hl => match us, hl with | [_, _, _], _ => rfl) )) (sa_cons (so_ex (se_var 7)) sa_nil)) (fun _ _ _ _ _ _ us hl => match us, hl with | [_, _], _ => rfl) ))) (ss_one (ss_ret se_bl)) ss_nil)) .never rfl)
  (ss_one (ss_ret se_bl)))))
end
end Wk

namespace Hd
open PySem PySem.Spec PyProof.Rows L2 Wk
def dOf (x y : Str) (i : Nat) : He.DefD := ⟨(x, none), y, y, defArgs (top i), defBody (top i), defScope (top i), [], []⟩
def fn_0 : List He.DefD := [dOf "_law_well" "_law_well" 12, dOf "_law_power" "_law_power" 29, dOf "_law_lowest" "_law_lowest" 28, dOf "_law_draw" "_law_draw" 13, dOf "_law_number" "_law_number" 30, dOf "_law_order" "_law_order" 15, dOf "_law_list" "_law_list" 16, dOf "_law_saying" "_law_saying" 19, dOf "_law_letters" "_law_letters" 17, dOf "_law_machine" "_law_machine" 18, dOf "_law_listed" "_law_listed" 20, dOf "_law_said_order" "_law_said_order" 21, dOf "_law_said_list" "_law_said_list" 22, dOf "_law_said_saying" "_law_said_saying" 26, dOf "_law_said_letter" "_law_said_letter" 23, dOf "_law_said_word" "_law_said_word" 24, dOf "_law_said_machine" "_law_said_machine" 25, dOf "_law_thing" "_law_thing" 27, dOf "_law_same" "_law_same" 14, dOf "show_number" "show_number" 3, dOf "listed" "listed" 4, dOf "show_order" "show_order" 5, dOf "show_list" "show_list" 6, dOf "show_letter" "show_letter" 7, dOf "show_word" "show_word" 8, dOf "show_machine" "show_machine" 9, dOf "show_saying" "show_saying" 10, dOf "_law_shown" "_law_shown" 31, dOf "law" "law" 32]
def fn : List He.DefD := fn_0
def fa_0 : List He.Fa := [.glo "_law_well", .glo "_law_power", .glo "_law_lowest", .glo "_law_draw", .glo "_law_number", .glo "_law_order", .glo "_law_list", .glo "_law_saying", .glo "_law_letters", .glo "_law_machine", .glo "_law_listed", .glo "_law_said_order", .glo "_law_said_list", .glo "_law_said_saying", .glo "_law_said_letter", .glo "_law_said_word", .glo "_law_said_machine", .glo "_law_thing", .glo "_law_same", .glo "show_number", .glo "listed", .glo "show_order", .glo "show_list", .glo "show_letter", .glo "show_word", .glo "show_machine", .glo "show_saying", .glo "_law_shown", .glo "law", .free "abs"]
def fa_1 : List He.Fa := [.free "all", .free "bool", .free "enumerate", .free "int", .free "isinstance", .free "len", .free "list", .free "max", .free "min", .free "range", .free "set", .free "sorted", .free "str", .free "tuple"]
def fa : List He.Fa := fa_0 ++ fa_1
def ts : List He.Tab := []
def ex (K : PySem.W.Frag) : Bool := PI.conD K "NONE" K_NONE && PI.conD K "WAYS" K_WAYS
abbrev R : PySem.W.OpenRow := PySem.W.OpenLaw.row PySem.Challenge.rw_bannedorders_k45_whole_texts_shown
abbrev hk : PySem.W.Hook := He.hookX 5 fa fn ts [] ex
def ob (s : PySem.W.SharedT) : He.AlX := He.obsX 5 fa fn ts [] ex (HandSHeadRun.getT s)
theorem ob_eq (s : PySem.W.SharedT) : ob s = hk.obs s.abs := He.obsX_eq (HandSHeadRun.getT_eq s)
def loose_0 : List PySem.Str := ["NONE", "WAYS", "_law_draw", "_law_letters", "_law_list", "_law_listed", "_law_lowest", "_law_machine", "_law_number", "_law_order", "_law_power", "_law_said_letter", "_law_said_list", "_law_said_machine", "_law_said_order", "_law_said_saying", "_law_said_word", "_law_same", "_law_saying", "_law_shown", "_law_thing", "_law_well", "listed", "show_letter", "show_list", "show_machine", "show_number", "show_order", "show_saying", "show_word"]
def loose : List PySem.Str := loose_0
theorem run (w : World) : HandSHeadRun.RunEq R (PySem.W.view R.prog [32]) hk ob 6000 loose w := by
  intro os
  kernel_rfl
theorem md {w : World} {K : PySem.W.Frag} {h : Heap} {mg : Str → Option Value} (X : K.In h) (G : h.Ns mainGlobals mg) (c : He.SaysX fa fn ts [] ex w h K) : Md w K mg := by
  have d := c.t.d
  have more : ex K = true := c.more
  have at_ : ∀ (i j : Nat) (x y : Str) (t : Nat), fn[i]? = some (dOf x y t) → fa[j]? = some (.glo x) → ∃ (a : Addr) (fd : FuncData), PI.DefAt K mg x y (top t) a fd := fun i j x y t h1 h2 => by
    obtain ⟨fd, F⟩ := d.def_ i h1
    have g := He.glo_ok X G (d.fact j h2)
    have e : He.fAd K (x, none) = He.ga K x := rfl
    exact ⟨_, fd, F, g⟩
  exact ⟨He.free_ok X G (d.fact 29 (f := .free "abs") rfl),
    He.free_ok X G (d.fact 30 (f := .free "all") rfl),
    He.free_ok X G (d.fact 31 (f := .free "bool") rfl),
    He.free_ok X G (d.fact 32 (f := .free "enumerate") rfl),
    He.free_ok X G (d.fact 33 (f := .free "int") rfl),
    He.free_ok X G (d.fact 34 (f := .free "isinstance") rfl),
    He.free_ok X G (d.fact 35 (f := .free "len") rfl),
    He.free_ok X G (d.fact 36 (f := .free "list") rfl),
    He.free_ok X G (d.fact 37 (f := .free "max") rfl),
    He.free_ok X G (d.fact 38 (f := .free "min") rfl),
    He.free_ok X G (d.fact 39 (f := .free "range") rfl),
    He.free_ok X G (d.fact 40 (f := .free "set") rfl),
    He.free_ok X G (d.fact 41 (f := .free "sorted") rfl),
    He.free_ok X G (d.fact 42 (f := .free "str") rfl),
    He.free_ok X G (d.fact 43 (f := .free "tuple") rfl),
    at_ 0 0 "_law_well" "_law_well" 12 rfl rfl,
    at_ 1 1 "_law_power" "_law_power" 29 rfl rfl,
    at_ 2 2 "_law_lowest" "_law_lowest" 28 rfl rfl,
    at_ 3 3 "_law_draw" "_law_draw" 13 rfl rfl,
    at_ 4 4 "_law_number" "_law_number" 30 rfl rfl,
    at_ 5 5 "_law_order" "_law_order" 15 rfl rfl,
    at_ 6 6 "_law_list" "_law_list" 16 rfl rfl,
    at_ 7 7 "_law_saying" "_law_saying" 19 rfl rfl,
    at_ 8 8 "_law_letters" "_law_letters" 17 rfl rfl,
    at_ 9 9 "_law_machine" "_law_machine" 18 rfl rfl,
    at_ 10 10 "_law_listed" "_law_listed" 20 rfl rfl,
    at_ 11 11 "_law_said_order" "_law_said_order" 21 rfl rfl,
    at_ 12 12 "_law_said_list" "_law_said_list" 22 rfl rfl,
    at_ 13 13 "_law_said_saying" "_law_said_saying" 26 rfl rfl,
    at_ 14 14 "_law_said_letter" "_law_said_letter" 23 rfl rfl,
    at_ 15 15 "_law_said_word" "_law_said_word" 24 rfl rfl,
    at_ 16 16 "_law_said_machine" "_law_said_machine" 25 rfl rfl,
    at_ 17 17 "_law_thing" "_law_thing" 27 rfl rfl,
    at_ 18 18 "_law_same" "_law_same" 14 rfl rfl,
    at_ 19 19 "show_number" "show_number" 3 rfl rfl,
    at_ 20 20 "listed" "listed" 4 rfl rfl,
    at_ 21 21 "show_order" "show_order" 5 rfl rfl,
    at_ 22 22 "show_list" "show_list" 6 rfl rfl,
    at_ 23 23 "show_letter" "show_letter" 7 rfl rfl,
    at_ 24 24 "show_word" "show_word" 8 rfl rfl,
    at_ 25 25 "show_machine" "show_machine" 9 rfl rfl,
    at_ 26 26 "show_saying" "show_saying" 10 rfl rfl,
    at_ 27 27 "_law_shown" "_law_shown" 31 rfl rfl,
    at_ 28 28 "law" "law" 32 rfl rfl,
    (by
    obtain ⟨v, u, h1, h2, h3⟩ := PI.conD_ok X G ((He.ba more).1)
    exact ⟨v, u, h1, h2, h3⟩),
    (by
    obtain ⟨v, u, h1, h2, h3⟩ := PI.conD_ok X G ((He.ba more).2)
    exact ⟨v, u, h1, h2, h3⟩)⟩
end Hd

namespace Wk
open PySem PySem.Spec PyProof.Rows L2 PI
/-! ### the well -/
def Wl (k : Int) (ds : List PI.D) : Prop := ∃ w0 w1 w2 : Int, ds = [.int w0, .int w1, .int w2] ∧ (0 ≤ w1 ∧ w1 < 10 ^ 25 + 13) ∧ 0 ≤ w2 ∧ w2 ≤ k
theorem Wl.mono {k k' : Int} {d : List PI.D} (h : Wl k d) (hk : k ≤ k') : Wl k' d := by
  obtain ⟨w0, w1, w2, e, h1, h2, h3⟩ := h
  exact ⟨w0, w1, w2, e, h1, h2, by omega⟩
theorem p29 : powB 10 29 = true := by decide +kernel
theorem p33 : powB 10 33 = true := by decide +kernel
theorem p6 : powB 10 6 = true := by decide +kernel
theorem p25 : powB 10 25 = true := by decide +kernel
theorem p18 : powB 10 18 = true := by decide +kernel
theorem p30 : powB 10 30 = true := by decide +kernel
theorem v_draw {k many : Int} {ws : List PI.D} (h : Wl k ws) (hk : k < 1000000) (hm : 0 < many) (hm2 : bts many ≤ 8000) :
    ∃ r ws', c__law_draw [.lst ws, .int many] = some ((false, .int r), [.lst ws']) ∧ 0 ≤ r ∧ r < many ∧ Wl (k + 1) ws' := by
  obtain ⟨w0, w1, w2, rfl, ⟨h1, h2⟩, h3, h4⟩ := h
  by_cases c : 0 < w0
  · refine ⟨w0 % many, [.int (w0 / many), .int w1, .int w2], ?_, Int.emod_nonneg _ (by omega), Int.emod_lt_of_pos _ hm, w0 / many, w1, w2, rfl, ⟨h1, h2⟩, h3, by omega⟩
    simp [c__law_draw, b__law_draw, c, mod_ok hm, div_bits hm hm2, ixN]
  · have b0 : mulB 49979693 (w2 + 1) = true := mul_small (by decide) (by omega)
    have b1 : powB (w1 + 49979693 * (w2 + 1)) 3 = true := pow3 (by omega)
    have g1 : 0 ≤ (w1 + 49979693 * (w2 + 1)) ^ 3 % 100000000000000000000000000319 := Int.emod_nonneg _ (by decide)
    have g2 : (w1 + 49979693 * (w2 + 1)) ^ 3 % 100000000000000000000000000319 < 100000000000000000000000000319 := Int.emod_lt_of_pos _ (by decide)
    have b3 : powB ((w1 + 49979693 * (w2 + 1)) ^ 3 % 100000000000000000000000000319 + 2038074751) 3 = true := pow3 (by
      generalize (w1 + 49979693 * (w2 + 1)) ^ 3 % 100000000000000000000000000319 = z at *
      omega)
    refine ⟨(((w1 + 49979693 * (w2 + 1)) ^ 3 % 100000000000000000000000000319 + 2038074751) ^ 3 % 1000000000000000000000000000000033) / 1000000 % many, [.int w0, .int w1, .int (w2 + 1)], ?_, Int.emod_nonneg _ (by omega), Int.emod_lt_of_pos _ hm, w0, w1, w2 + 1, rfl, ⟨h1, h2⟩, by omega, by omega⟩
    simp [c__law_draw, b__law_draw, c, p29, p33, p6, b0, b1, b3, mod_ok (by decide : (0 : Int) < 100000000000000000000000000319), mod_ok (by decide : (0 : Int) < 1000000000000000000000000000000033), div_small (by decide : (0 : Int) < 1000000) (by decide : (1000000 : Int).natAbs < 2 ^ 100), mod_ok hm, ixN]
/-- a draw of a small number -/
theorem v_dr {k : Int} {n : Nat} {ws : List PI.D} (h : Wl k ws) (hk : k < 1000000) (hm : 0 < n) (hm2 : n < 1000000) :
    ∃ (r : Nat) (ws' : List PI.D), c__law_draw [.lst ws, .int (n : Int)] = some ((false, .int (r : Int)), [.lst ws']) ∧ r < n ∧ Wl (k + 1) ws' := by
  obtain ⟨r, ws', h1, h2, h3, h4⟩ := v_draw (many := (n : Int)) h hk (by omega) (bts_small (by omega))
  obtain ⟨r, rfl⟩ := Int.eq_ofNat_of_zero_le h2
  exact ⟨r, ws', h1, by omega, h4⟩
/-- a draw of a number that is written -/
theorem v_dm {k m : Int} {ws : List PI.D} (h : Wl k ws) (hk : k < 1000000) (hm : 0 < m) (hm2 : m < 1000000) :
    ∃ (r : Nat) (ws' : List PI.D), c__law_draw [.lst ws, .int m] = some ((false, .int (r : Int)), [.lst ws']) ∧ (r : Int) < m ∧ Wl (k + 1) ws' := by
  obtain ⟨r, ws', h1, h2, h3, h4⟩ := v_draw (many := m) h hk hm (bts_small (by omega))
  obtain ⟨r, rfl⟩ := Int.eq_ofNat_of_zero_le h2
  exact ⟨r, ws', h1, h3, h4⟩
theorem v_well {ns : List Int} {p : Nat} (hb : ∀ z ∈ ns, Builtin.Int.intBits z ≤ 1048576) (hl : ns.length ≤ 63) (hp : p < 100) : ∃ ws, c__law_well [.frz (zL ns), .int (p : Int)] = some ((true, .lst ws), []) ∧ Wl 0 ws := by
  have m1 : mulB (p : Int) 179424691 = true := mul_small (by omega) (by decide)
  have key : ∀ x : Int, ((x * 86028157 + (p : Int) * 179424691 + 7919) % 10000000000000000000000013 < 10 ^ 25 + 13) ∧ 0 ≤ (x * 86028157 + (p : Int) * 179424691 + 7919) % 10000000000000000000000013 := fun x => by
    have h1 := Int.emod_lt_of_pos (x * 86028157 + (p : Int) * 179424691 + 7919) (by decide : (0 : Int) < 10000000000000000000000013)
    have h2 := Int.emod_nonneg (x * 86028157 + (p : Int) * 179424691 + 7919) (by decide : (10000000000000000000000013 : Int) ≠ 0)
    exact ⟨by omega, h2⟩
  by_cases c : p < ns.length
  · have hx : ns[p]? = some ns[p] := List.getElem?_eq_getElem c
    have bx : bts ns[p] ≤ 1048576 := hb _ (List.getElem_mem c)
    have m2 : mulB ns[p] 86028157 = true := mul_ok bx (by decide)
    refine ⟨[.int (if (if ns[p] < 0 then -ns[p] else ns[p]) - 1000000000000000000 > 0 then (if ns[p] < 0 then -ns[p] else ns[p]) - 1000000000000000000 else 0), .int ((ns[p] * 86028157 + (p : Int) * 179424691 + 7919) % 10000000000000000000000013), .int 0], ?_, _, _, _, rfl, ⟨(key _).2, (key _).1⟩, by omega, by omega⟩
    simp -implicitDefEqProofs [c__law_well, b__law_well, c, hx, p18, p25, m1, m2, mod_ok (by decide : (0 : Int) < 10000000000000000000000013)]
  · have m2 : mulB (p : Int) 104723 = true := mul_small (by omega) (by decide)
    have m3 : mulB (ns.length : Int) 15485863 = true := mul_small (by omega) (by decide)
    have bx : ((p : Int) * 104723 + (ns.length : Int) * 15485863).natAbs < 2 ^ 100 := by omega
    have m4 : mulB ((p : Int) * 104723 + (ns.length : Int) * 15485863) 86028157 = true := mul_small bx (by decide)
    have k12 := key ((p : Int) * 104723 + (ns.length : Int) * 15485863)
    generalize hx : (p : Int) * 104723 + (ns.length : Int) * 15485863 = x at *
    refine ⟨[.int (if (if x < 0 then -x else x) - 1000000000000000000 > 0 then (if x < 0 then -x else x) - 1000000000000000000 else 0), .int ((x * 86028157 + (p : Int) * 179424691 + 7919) % 10000000000000000000000013), .int 0], ?_, _, _, _, rfl, ⟨k12.2, k12.1⟩, by omega, by omega⟩
    simp -implicitDefEqProofs [c__law_well, b__law_well, c, p18, p25, m1, m2, m3, m4, hx, mod_ok (by decide : (0 : Int) < 10000000000000000000000013)]
/-! ### orders -/
theorem v_order {k : Int} {ws : List PI.D} {n : Nat} (hw : Wl k ws) (hk : k < 900000) (h0 : 0 ≤ k) (hn : n < 500) : ∃ os ws', c__law_order [.lst ws, .int (n : Int)] = some ((false, .tup (zL os)), [.lst ws']) ∧ os.Perm (rng n) ∧ Wl (k + n) ws' := by
  obtain ⟨env', h1, h2⟩ := fl_keep (T := tName 4) (f := fb1__law_order) (fun j env => ∃ ws' left found x, env = [some (true, .lst ws'), some (false, .int (n : Int)), some (true, .lst (zL left)), some (true, .lst (zL found)), x] ∧ (j ≤ n → Wl (k + j) ws' ∧ found.length = j ∧ left.length + j = n ∧ (found ++ left).Perm (rng n))) (rangeD 0 n) 0 [some (true, .lst ws), some (false, .int (n : Int)), some (true, .lst (zL (rng n))), some (true, .lst []), none]
    (fun j d env hd hr => by
      obtain ⟨ws1, left, found, x, rfl, hr⟩ := hr
      have hj : j < n := by
        have := (List.getElem?_eq_some_iff.mp hd).1
        rw [rangeD_len] at this
        exact this
      obtain ⟨w1, hf, hl, hp⟩ := hr (by omega)
      rw [Nat.zero_add] at w1 hf hl
      obtain ⟨r, ws2, d1, d2, d3⟩ := v_dr (n := left.length) w1 (by omega) (by omega) (by omega)
      have hx : left[r]? = some left[r] := List.getElem?_eq_getElem d2
      have sx : seqIndex? (r : Int) left.length = some r := by
        have := seq_ix (r := (r : Int)) (n := left.length) (by omega) (by omega)
        simpa using this
      have le : (left.eraseIdx r).length = left.length - 1 := List.length_eraseIdx_of_lt d2
      have hd' : d = .int ((0 : Int) + (j : Int)) := by
        rw [rangeD_get hj] at hd
        exact (Option.some.inj hd).symm
      subst hd'
      refine ⟨[some (true, .lst ws2), some (false, .int (n : Int)), some (true, .lst (zL (left.eraseIdx r))), some (true, .lst (zL (found ++ [left[r]]))), some (false, .int (0 + (j : Int)))], ?_, ws2, left.eraseIdx r, found ++ [left[r]], _, rfl, fun _ => ⟨?_, ?_, ?_, ?_⟩⟩
      · have b1 : -9223372036854775808 ≤ (r : Int) := by omega
        have b2 : (r : Int) < 9223372036854775808 := by omega
        have b3 : found.length < 1000000 := by omega
        simp -implicitDefEqProofs [fb1__law_order, d1, b1, b2, b3, sx, hx, zL_erase]
      · rw [Nat.zero_add]
        have e : k + ((j + 1 : Nat) : Int) = k + (j : Int) + 1 := by omega
        rw [e]
        exact d3
      · rw [List.length_append, hf, Nat.zero_add]
        rfl
      · rw [le]
        omega
      · rw [List.append_assoc]
        exact ((erase_perm hx).append_left found).trans hp)
    ⟨ws, rng n, [], none, rfl, fun _ => ⟨by simpa using hw, rfl, by rw [rng_len]; omega, .refl _⟩⟩
  obtain ⟨ws', left, found, x, rfl, hr⟩ := h2
  rw [rangeD_len, Nat.zero_add] at hr
  obtain ⟨w1, hf, hl, hp⟩ := hr (Nat.le_refl _)
  have e : left = [] := List.eq_nil_of_length_eq_zero (by omega)
  subst e
  rw [List.append_nil] at hp
  have src : srcR1 (eVar 1) [some (true, .lst ws), some (false, .int (n : Int)), some (true, .lst (zL (rng n))), some (true, .lst []), none] = some (rangeD 0 n, [some (true, .lst ws), some (false, .int (n : Int)), some (true, .lst (zL (rng n))), some (true, .lst []), none]) := srcR1_nat (fr := false) rfl (by omega)
  refine ⟨found, ws', ?_, hp, w1⟩
  simp -implicitDefEqProofs only [c__law_order, b__law_order]
  generalize hs : srcR1 (eVar 1) = F at src
  simp -implicitDefEqProofs [rgD_rng false n (by omega), src, h1]
end Wk

namespace Wk
open PySem PySem.Spec PyProof.Rows L2 PI
def tT (p : List Int) : PI.D := .tup (zL p)
/-- a pattern of one to m things -/
def Pt (m : Nat) (p : List Int) : Prop := ∃ n, 1 ≤ n ∧ n ≤ m ∧ p.Perm (rng n)
theorem v_list {k : Int} {ws : List PI.D} {most things : Nat} (hw : Wl k ws) (hk : k < 800000) (h0 : 0 ≤ k) (hm : most ≤ 20) (ht : 1 ≤ things) (ht2 : things ≤ 40) :
    ∃ (ps : List (List Int)) (ws' : List PI.D), c__law_list [.lst ws, .int (most : Int), .int (things : Int)] = some ((false, .tup (ps.map tT)), [.lst ws']) ∧ ps.length ≤ most ∧ (∀ p ∈ ps, Pt things p) ∧ Wl (k + 1000) ws' := by
  obtain ⟨q, ws0, a1, a2, a3⟩ := v_dr (n := most + 1) hw (by omega) (by omega) (by omega)
  have em : ((most + 1 : Nat) : Int) = (most : Int) + 1 := by omega
  rw [em] at a1
  obtain ⟨env', h1, h2⟩ := fl_keep (T := tName 4) (f := fb1__law_list) (fun j env => ∃ (ws' : List PI.D) (ps : List (List Int)) (x : Option (Bool × PI.D)), env = [some (true, .lst ws'), some (false, .int (most : Int)), some (false, .int (things : Int)), some (true, .lst (ps.map tT)), x] ∧ ps.length = j ∧ (∀ p ∈ ps, Pt things p) ∧ (j ≤ q → Wl (k + 1 + 41 * j) ws')) (rangeD 0 q) 0 [some (true, .lst ws0), some (false, .int (most : Int)), some (false, .int (things : Int)), some (true, .lst []), none]
    (fun j d env hd hr => by
      obtain ⟨ws1, ps, x, rfl, hl, hp, hr⟩ := hr
      have hj : j < q := by
        have := (List.getElem?_eq_some_iff.mp hd).1
        rw [rangeD_len] at this
        exact this
      have w1 := hr (by omega)
      rw [Nat.zero_add] at w1 hl
      obtain ⟨r, ws2, d1, d2, d3⟩ := v_dr (n := things) w1 (by omega) (by omega) (by omega)
      obtain ⟨os, ws3, e1, e2, e3⟩ := v_order (n := 1 + r) d3 (by omega) (by omega) (by omega)
      have er : ((1 + r : Nat) : Int) = 1 + (r : Int) := by omega
      rw [er] at e1 e3
      refine ⟨[some (true, .lst ws3), some (false, .int (most : Int)), some (false, .int (things : Int)), some (true, .lst ((ps ++ [os]).map tT)), some (false, d)], ?_, ws3, ps ++ [os], _, rfl, ?_, ?_, fun _ => ?_⟩
      · have b3 : ps.length < 1000000 := by omega
        simp -implicitDefEqProofs [fb1__law_list, d1, e1, b3, tT]
      · rw [List.length_append, hl]
        show j + 1 = 0 + j + 1
        omega
      · intro p hp'
        rcases List.mem_append.mp hp' with h | h
        · exact hp p h
        · rw [List.mem_singleton.mp h]
          exact ⟨1 + r, by omega, by omega, e2⟩
      · rw [Nat.zero_add]
        exact e3.mono (by omega))
    ⟨ws0, [], none, rfl, rfl, (fun p h => by cases h), fun _ => by simpa using a3⟩
  obtain ⟨ws', ps, x, rfl, hl, hp, hr⟩ := h2
  rw [rangeD_len, Nat.zero_add] at hr hl
  have src : srcR1 (eCall [true, false] c__law_draw [(.sl 0), (.ex (e2 addD (.sl 1) (.ex (eC (.int 1)))))]) [some (true, .lst ws), some (false, .int (most : Int)), some (false, .int (things : Int)), some (true, .lst []), none] = some (rangeD 0 q, [some (true, .lst ws0), some (false, .int (most : Int)), some (false, .int (things : Int)), some (true, .lst []), none]) := srcR1_nat (fr := false) (by simp -implicitDefEqProofs [a1]) (by omega)
  refine ⟨ps, ws', ?_, by omega, hp, (hr (Nat.le_refl _)).mono (by omega)⟩
  simp -implicitDefEqProofs only [c__law_list, b__law_list]
  generalize hs : srcR1 _ = F at src
  simp -implicitDefEqProofs [src, h1]
/-! ### letters -/
def tP (p : Int × Int) : PI.D := .tup [.int p.1, .int p.2]
/-- a letter whose slot is at most m -/
def Lt (m : Int) (p : Int × Int) : Prop := (1 ≤ p.1 ∧ p.1 ≤ m) ∧ 0 ≤ p.2 ∧ p.2 < 4
def bigM : Int := 1000000000000000000000000000000
theorem bts_big {x : Int} (h0 : 0 ≤ x) (h : x ≤ bigM) : bts x ≤ 8000 := by
  have e : bigM = 1000000000000000000000000000000 := rfl
  exact bts_small (by omega)
theorem v_letters {k : Int} {ws : List PI.D} {many : Nat} (hw : Wl k ws) (hk : k < 800000) (h0 : 0 ≤ k) (hm : many ≤ 60) :
    ∃ (ps : List (Int × Int)) (ws' : List PI.D), c__law_letters [.lst ws, .int (many : Int)] = some ((true, .lst (ps.map tP)), [.lst ws']) ∧ ps.length = many ∧ (∀ p ∈ ps, Lt bigM p) ∧ Wl (k + 3 * many) ws' := by
  obtain ⟨env', h1, h2⟩ := fl_keep (T := tName 3) (f := fb1__law_letters) (fun j env => ∃ (ws' : List PI.D) (ps : List (Int × Int)) (x y : Option (Bool × PI.D)), env = [some (true, .lst ws'), some (false, .int (many : Int)), some (true, .lst (ps.map tP)), x, y] ∧ ps.length = j ∧ (∀ p ∈ ps, Lt bigM p) ∧ (j ≤ many → Wl (k + 3 * j) ws')) (rangeD 0 many) 0 [some (true, .lst ws), some (false, .int (many : Int)), some (true, .lst []), none, none]
    (fun j d env hd hr => by
      obtain ⟨ws1, ps, x, y, rfl, hl, hp, hr⟩ := hr
      have hj : j < many := by
        have := (List.getElem?_eq_some_iff.mp hd).1
        rw [rangeD_len] at this
        exact this
      have w1 := hr (by omega)
      rw [Nat.zero_add] at w1 hl
      obtain ⟨r, ws2, d1, d2, d3⟩ := v_dm (m := 5) w1 (by omega) (by omega) (by omega)
      obtain ⟨z, e1, e2⟩ := at_mem (l := [PI.D.int 1, .int 3, .int 12, .int 999999999, .int (10 ^ 30)]) (r := (r : Int)) (n := 5) (by omega) (by omega) rfl
      obtain ⟨z, rfl, z1, z2⟩ : ∃ i, z = .int i ∧ 0 < i ∧ i ≤ bigM := by
        have e30 : (10 : Int) ^ 30 = bigM := by decide
        rw [e30] at e2
        simp only [List.mem_cons, List.not_mem_nil, or_false] at e2
        rcases e2 with rfl | rfl | rfl | rfl | rfl
        · exact ⟨_, rfl, by decide, by decide⟩
        · exact ⟨_, rfl, by decide, by decide⟩
        · exact ⟨_, rfl, by decide, by decide⟩
        · exact ⟨_, rfl, by decide, by decide⟩
        · exact ⟨_, rfl, by decide, by decide⟩
      obtain ⟨s, ws3, f1, f2, f3, f4⟩ := v_draw (many := z) d3 (by omega) z1 (bts_big (by omega) z2)
      obtain ⟨t, ws4, g1, g2, g3⟩ := v_dm (m := 4) f4 (by omega) (by omega) (by omega)
      have e1' : [PI.D.int 1, .int 3, .int 12, .int 999999999, .int 1000000000000000000000000000000][r]? = some (.int z) := by
        rw [← z_atn]
        exact e1
      refine ⟨[some (true, .lst ws4), some (false, .int (many : Int)), some (true, .lst ((ps ++ [(1 + s, (t : Int))]).map tP)), some (false, d), some (false, .int (1 + s))], ?_, ws4, ps ++ [(1 + s, (t : Int))], _, _, rfl, ?_, ?_, fun _ => ?_⟩
      · have b3 : ps.length < 1000000 := by omega
        simp -implicitDefEqProofs [fb1__law_letters, d1, e1', f1, g1, b3, tP, p30]
      · rw [List.length_append, hl]
        show j + 1 = 0 + j + 1
        omega
      · intro p hp'
        rcases List.mem_append.mp hp' with h | h
        · exact hp p h
        · rw [List.mem_singleton.mp h]
          exact ⟨⟨by show 1 ≤ 1 + s; omega, by show 1 + s ≤ bigM; omega⟩, by show (0 : Int) ≤ t; omega, by show (t : Int) < 4; omega⟩
      · rw [Nat.zero_add]
        exact g3.mono (by omega))
    ⟨ws, [], none, none, rfl, rfl, (fun p h => by cases h), fun _ => by simpa using hw⟩
  obtain ⟨ws', ps, x, y, rfl, hl, hp, hr⟩ := h2
  rw [rangeD_len, Nat.zero_add] at hr hl
  have src : srcR1 (eVar 1) [some (true, .lst ws), some (false, .int (many : Int)), some (true, .lst []), none, none] = some (rangeD 0 many, [some (true, .lst ws), some (false, .int (many : Int)), some (true, .lst []), none, none]) := srcR1_nat (fr := false) rfl (by omega)
  refine ⟨ps, ws', ?_, hl, hp, hr (Nat.le_refl _)⟩
  simp -implicitDefEqProofs only [c__law_letters, b__law_letters]
  generalize hs : srcR1 _ = F at src
  simp -implicitDefEqProofs [src, h1]
end Wk

namespace Wk
open PySem PySem.Spec PyProof.Rows L2 PI
abbrev Stp1 := (Int × Int) × Int
def tS (p : Stp1) : PI.D := .tup [tP p.1, .int p.2]
def tR (row : List Stp1) : PI.D := .tup (row.map tS)
structure RowOk (m : Int) (row : List Stp1) : Prop where
  len : row.length ≤ 12
  let_ : ∀ p ∈ row, Lt bigM p.1 ∧ 0 ≤ p.2 ∧ p.2 < m
  asc : row.Pairwise fun p q => lexB [p.1.1, p.1.2] [q.1.1, q.1.2] = true
structure EndsOk (m : Int) (ends : List Int) : Prop where
  mem : ∀ e ∈ ends, 0 ≤ e ∧ e < m
  asc : ends.Pairwise (· < ·)
def tPs (k : List Int) : Int × Int := (k.getD 0 0, k.getD 1 0)
theorem ss_pairs {ps : List (Int × Int)} (hl : ps.length ≤ 12) (h : ∀ p ∈ ps, Lt bigM p) : ∃ qs : List (Int × Int), ssD (.lst (ps.map tP)) = some (true, .lst (qs.map tP)) ∧ qs.length ≤ 12 ∧ (∀ p ∈ qs, Lt bigM p) ∧ qs.Pairwise fun p q => lexB [p.1, p.2] [q.1, q.2] = true := by
  have e : ps.map tP = (ps.map fun p => [p.1, p.2]).map fun k => PI.D.tup (zL k) := by rw [List.map_map]; rfl
  have ok : okSS (ps.map fun p => [p.1, p.2]) = true := by
    cases ps with
    | nil => rfl
    | cons p ps =>
      show (decide (0 < 2) && (([p.1, p.2] :: ps.map fun p => [p.1, p.2]).all fun m => decide (m.length = 2) && m.all fun i => decide (0 ≤ i)) && decide (([p.1, p.2] :: ps.map fun p => [p.1, p.2]).length < 64)) = true
      have h1 : (([p.1, p.2] :: ps.map fun p => [p.1, p.2]).all fun m => decide (m.length = 2) && m.all fun i => decide (0 ≤ i)) = true := by
        rw [List.all_eq_true]
        intro m hm
        have hm : m ∈ (p :: ps).map fun p => [p.1, p.2] := hm
        obtain ⟨q, hq, rfl⟩ := List.mem_map.mp hm
        have := h q hq
        simp [show 0 ≤ q.1 by have := this.1.1; omega, this.2.1]
      have h2 : ([p.1, p.2] :: ps.map fun p => [p.1, p.2]).length < 64 := by
        simp only [List.length_cons, List.length_map] at hl ⊢
        omega
      rw [h1, decide_eq_true h2]
      rfl
  have hs := ssort_sorted (ps.map fun p => [p.1, p.2])
  have hm : ∀ k ∈ ssort (ps.map fun p => [p.1, p.2]), ∃ p ∈ ps, k = [p.1, p.2] := fun k hk => by
    obtain ⟨p, hp, e⟩ := List.mem_map.mp (ssort_mem.mp hk)
    exact ⟨p, hp, e.symm⟩
  have hlen : (ssort (ps.map fun p => [p.1, p.2])).length ≤ ps.length := by
    have : ∀ l : List (List Int), (ssort l).length ≤ l.length := fun l => by
      induction l with
      | nil => exact Nat.le_refl _
      | cons k l ih =>
        have ins : ∀ (k : List Int) (m : List (List Int)), (insU k m).length ≤ m.length + 1 := fun k m => by
          induction m with
          | nil => exact Nat.le_refl _
          | cons x m ih =>
            unfold insU
            split
            · exact Nat.le_refl _
            · split
              · omega
              · simp only [List.length_cons]
                omega
        exact Nat.le_trans (ins k _) (Nat.succ_le_succ ih)
    have := this (ps.map fun p => [p.1, p.2])
    rw [List.length_map] at this
    exact this
  refine ⟨(ssort (ps.map fun p => [p.1, p.2])).map tPs, ?_, by rw [List.length_map]; omega, fun p hp => ?_, ?_⟩
  · rw [e, y_ss ok, List.map_map]
    congr 3
    refine List.map_congr_left fun k hk => ?_
    obtain ⟨p, hp, rfl⟩ := hm k hk
    rfl
  · obtain ⟨k, hk, rfl⟩ := List.mem_map.mp hp
    obtain ⟨p', hp', rfl⟩ := hm k hk
    exact h p' hp'
  · rw [List.pairwise_map]
    refine hs.imp_of_mem fun {a b} ha hb hab => ?_
    obtain ⟨p, hp, rfl⟩ := hm a ha
    obtain ⟨q, hq, rfl⟩ := hm b hb
    exact hab
theorem v_row {k : Int} {ws : List PI.D} {many : Nat} {qs : List (Int × Int)} {x1 x4 : Option (Bool × PI.D)} {rs : List PI.D} (hw : Wl k ws) (hk : k < 800000) (h0 : 0 ≤ k) (hm : 0 < many) (hm2 : many ≤ 200) (hq : qs.length ≤ 12) :
    ∃ (row : List Stp1) (ws' : List PI.D), eLc (srcN 5) (tName 6) eYes le1__law_machine [6] [some (true, .lst ws), x1, some (false, .int (many : Int)), some (true, .lst rs), x4, some (true, .lst (qs.map tP)), none, none] =
      some ((true, .lst (row.map tS)), [some (true, .lst ws'), x1, some (false, .int (many : Int)), some (true, .lst rs), x4, some (true, .lst (qs.map tP)), none, none]) ∧ row.map (·.1) = qs ∧ (∀ p ∈ row, 0 ≤ p.2 ∧ p.2 < many) ∧ Wl (k + 12) ws' := by
  obtain ⟨out, env', h1, h2⟩ := lcl_keep (T := tName 6) (c := eYes) (f := le1__law_machine) (vs := [6]) (fun j acc env => ∃ (ws' : List PI.D) (row : List Stp1), env = [some (true, .lst ws'), x1, some (false, .int (many : Int)), some (true, .lst rs), x4, none, none, none] ∧ acc = row.map tS ∧ row.map (·.1) = qs.take j ∧ (∀ p ∈ row, 0 ≤ p.2 ∧ p.2 < many) ∧ (j ≤ qs.length → Wl (k + j) ws')) (qs.map tP) 0 [] [some (true, .lst ws), x1, some (false, .int (many : Int)), some (true, .lst rs), x4, none, none, none]
    (fun j d acc env hd hr => by
      obtain ⟨ws1, row, rfl, rfl, hrow, hst, hr⟩ := hr
      rw [Nat.zero_add] at hr hrow
      rw [List.getElem?_map] at hd
      obtain ⟨q, hqj, rfl⟩ := Option.map_eq_some_iff.mp hd
      have hj : j < qs.length := (List.getElem?_eq_some_iff.mp hqj).1
      obtain ⟨r, ws2, d1, d2, d3⟩ := v_dr (n := many) (hr (by omega)) (by omega) hm (by omega)
      refine ⟨by simp -implicitDefEqProofs, _, _, true, _, rfl, rfl, fun _ => ⟨false, tS (q, (r : Int)), [some (true, .lst ws2), x1, some (false, .int (many : Int)), some (true, .lst rs), x4, none, some (false, tP q), none], ?_, ws2, row ++ [(q, (r : Int))], ?_, ?_, ?_, ?_, fun _ => ?_⟩, fun h => by cases h⟩
      · simp -implicitDefEqProofs [le1__law_machine, d1, tS]
      · simp -implicitDefEqProofs
      · rw [List.map_append]
        rfl
      · rw [List.map_append, hrow, Nat.zero_add, List.take_succ, hqj]
        rfl
      · intro p hp
        rcases List.mem_append.mp hp with h | h
        · exact hst p h
        · rw [List.mem_singleton.mp h]
          exact ⟨by show (0 : Int) ≤ r; omega, by show (r : Int) < many; omega⟩
      · rw [Nat.zero_add]
        exact d3.mono (by omega)) ⟨ws, [], rfl, rfl, rfl, (fun p h => by cases h), fun _ => by simpa using hw⟩
  obtain ⟨ws', row, rfl, ha, hrow, hst, hr⟩ := h2
  rw [List.length_map, Nat.zero_add] at hr hrow
  rw [List.nil_append] at ha
  subst ha
  refine ⟨row, ws', ?_, by rw [hrow, List.take_length], hst, (hr (Nat.le_refl _)).mono (by omega)⟩
  have hl : qs.length < 1000000 := by omega
  simp -implicitDefEqProofs [eLc, srcN, h1, hl]
def NO (x : Option (Bool × PI.D)) : Prop := x = none ∨ ∃ d, x = some (false, d)
structure MachOk (m : Nat) (rows : List (List Stp1)) (ends : List Int) : Prop where
  len : rows.length = m
  row : ∀ r ∈ rows, RowOk m r
  ends : EndsOk m ends
def tM (rows : List (List Stp1)) (ends : List Int) : PI.D := .tup [.tup (rows.map tR), .tup (zL ends)]
theorem v_machine {k : Int} {ws : List PI.D} {most : Nat} (hw : Wl k ws) (hk : k < 700000) (h0 : 0 ≤ k) (hm : 1 ≤ most) (hm2 : most ≤ 200) :
    ∃ (rows : List (List Stp1)) (ends : List Int) (m : Nat) (ws' : List PI.D), c__law_machine [.lst ws, .int (most : Int)] = some ((false, tM rows ends), [.lst ws']) ∧ 1 ≤ m ∧ m ≤ most ∧ MachOk m rows ends ∧ Wl (k + 12000) ws' := by
  obtain ⟨q, ws0, a1, a2, a3⟩ := v_dr (n := most) hw (by omega) (by omega) (by omega)
  have em : ((1 + q : Nat) : Int) = 1 + (q : Int) := by omega
  obtain ⟨m, hmq⟩ : ∃ m, m = 1 + q := ⟨_, rfl⟩
  obtain ⟨env1, h1, h2⟩ := fl_keep (T := tName 4) (f := fb1__law_machine) (fun j env => ∃ (ws' : List PI.D) (rows : List (List Stp1)) (x y : Option (Bool × PI.D)), env = [some (true, .lst ws'), some (false, .int (most : Int)), some (false, .int (m : Int)), some (true, .lst (rows.map tR)), x, y, none, none] ∧ rows.length = j ∧ (∀ r ∈ rows, RowOk m r) ∧ NO x ∧ (j ≤ m → Wl (k + 1 + 49 * j) ws')) (rangeD 0 m) 0 [some (true, .lst ws0), some (false, .int (most : Int)), some (false, .int (m : Int)), some (true, .lst []), none, none, none, none]
    (fun j d env hd hr => by
      obtain ⟨ws1, rows, x, y, rfl, hl, hp, hx, hr⟩ := hr
      have hj : j < m := by
        have := (List.getElem?_eq_some_iff.mp hd).1
        rw [rangeD_len] at this
        exact this
      have w1 := hr (by omega)
      rw [Nat.zero_add] at w1 hl
      obtain ⟨r, ws2, d1, d2, d3⟩ := v_dm (m := 5) w1 (by omega) (by omega) (by omega)
      obtain ⟨z, e1, e2⟩ := at_mem (l := [PI.D.int 0, .int 1, .int 2, .int 6, .int 12]) (r := (r : Int)) (n := 5) (by omega) (by omega) rfl
      obtain ⟨z, rfl, z2⟩ : ∃ i : Nat, z = .int (i : Int) ∧ i ≤ 12 := by
        simp only [List.mem_cons, List.not_mem_nil, or_false] at e2
        rcases e2 with rfl | rfl | rfl | rfl | rfl
        · exact ⟨0, rfl, by decide⟩
        · exact ⟨1, rfl, by decide⟩
        · exact ⟨2, rfl, by decide⟩
        · exact ⟨6, rfl, by decide⟩
        · exact ⟨12, rfl, by decide⟩
      have e1' : [PI.D.int 0, .int 1, .int 2, .int 6, .int 12][r]? = some (.int (z : Int)) := by
        rw [← z_atn]
        exact e1
      obtain ⟨ps, ws3, f1, f2, f3, f4⟩ := v_letters (many := z) d3 (by omega) (by omega) (by omega)
      obtain ⟨qs, g1, g2, g3, g4⟩ := ss_pairs (ps := ps) (by omega) f3
      obtain ⟨row, ws4, i1, i2, i3, i4⟩ := v_row (many := m) (qs := qs) (x1 := some (false, .int (most : Int))) (x4 := some (false, d)) (rs := rows.map tR) f4 (by omega) (by omega) (by omega) (by omega) g2
      generalize hlc : eLc (srcN 5) (tName 6) eYes le1__law_machine [6] = LC at i1
      refine ⟨[some (true, .lst ws4), some (false, .int (most : Int)), some (false, .int (m : Int)), some (true, .lst ((rows ++ [row]).map tR)), some (false, d), some (true, .lst (qs.map tP)), none, none], ?_, ws4, rows ++ [row], _, _, rfl, ?_, ?_, .inr ⟨_, rfl⟩, fun _ => ?_⟩
      · have b3 : rows.length < 1000000 := by omega
        simp -implicitDefEqProofs [fb1__law_machine, d1, e1', f1, g1, hlc, i1, b3, tR]
      · rw [List.length_append, hl]
        show j + 1 = 0 + j + 1
        omega
      · intro r' hr'
        rcases List.mem_append.mp hr' with h | h
        · exact hp r' h
        · rw [List.mem_singleton.mp h]
          refine ⟨?_, fun p hp' => ⟨g3 _ (by rw [← i2]; exact List.mem_map_of_mem hp'), i3 p hp'⟩, ?_⟩
          · have := congrArg List.length i2
            rw [List.length_map] at this
            omega
          · rw [← i2, List.pairwise_map] at g4
            exact g4
      · rw [Nat.zero_add]
        exact i4.mono (by omega))
    ⟨ws0, [], none, none, rfl, rfl, (fun p h => by cases h), .inl rfl, fun _ => by simpa using a3⟩
  obtain ⟨ws1, rows, x, y, rfl, hl, hp, hx, hr⟩ := h2
  rw [rangeD_len, Nat.zero_add] at hr hl
  have w1 := hr (Nat.le_refl _)
  obtain ⟨out, env2, j1, j2⟩ := lcl_keep (T := tName 4) (c := lc1__law_machine) (f := eVar 4) (vs := [4]) (fun j acc env => ∃ (ws' : List PI.D) (ends : List Int), env = [some (true, .lst ws'), some (false, .int (most : Int)), some (false, .int (m : Int)), some (true, .lst (rows.map tR)), x, y, none, none] ∧ acc = zL ends ∧ (∀ e ∈ ends, 0 ≤ e ∧ e < (j : Int)) ∧ ends.Pairwise (· < ·) ∧ (j ≤ m → Wl (k + 1 + 49 * m + j) ws')) (rangeD 0 m) 0 [] [some (true, .lst ws1), some (false, .int (most : Int)), some (false, .int (m : Int)), some (true, .lst (rows.map tR)), x, y, none, none]
    (fun j d acc env hd hr => by
      obtain ⟨ws2, ends, rfl, rfl, he1, he2, hr⟩ := hr
      have hj : j < m := by
        have := (List.getElem?_eq_some_iff.mp hd).1
        rw [rangeD_len] at this
        exact this
      have hd' : d = .int ((0 : Int) + (j : Int)) := by
        rw [rangeD_get hj] at hd
        exact (Option.some.inj hd).symm
      subst hd'
      rw [Nat.zero_add] at hr he1
      obtain ⟨r, ws3, d1, d2, d3⟩ := v_dm (m := 3) (hr (by omega)) (by omega) (by omega) (by omega)
      have hno : ∀ w : List PI.D, noOwn [some (true, PI.D.lst w), some (false, .int (most : Int)), some (false, .int (m : Int)), some (true, .lst (rows.map tR)), x, y, none, none] [4] = true := fun w => by
        rcases hx with rfl | ⟨d, rfl⟩ <;> simp -implicitDefEqProofs
      refine ⟨hno _, _, false, ((r : Int) == 0), [some (true, .lst ws3), some (false, .int (most : Int)), some (false, .int (m : Int)), some (true, .lst (rows.map tR)), some (false, .int (0 + (j : Int))), y, none, none], rfl, ?_, fun hb => ⟨false, .int (0 + (j : Int)), _, rfl, ws3, ends ++ [0 + (j : Int)], ?_, ?_, ?_, ?_, fun _ => ?_⟩, fun hb => ⟨ws3, ends, ?_, rfl, ?_, he2, fun _ => ?_⟩⟩
      · simp -implicitDefEqProofs [lc1__law_machine, d1]
      · simp -implicitDefEqProofs
      · simp -implicitDefEqProofs
      · intro e he
        rcases List.mem_append.mp he with h | h
        · have := he1 e h
          omega
        · rw [List.mem_singleton.mp h]
          omega
      · rw [List.pairwise_append]
        refine ⟨he2, .cons (fun _ h => by cases h) .nil, fun a ha b hb => ?_⟩
        rw [List.mem_singleton.mp hb]
        have := he1 a ha
        omega
      · rw [Nat.zero_add]
        exact d3.mono (by omega)
      · simp -implicitDefEqProofs
      · intro e he
        have := he1 e he
        omega
      · rw [Nat.zero_add]
        exact d3.mono (by omega)) ⟨ws1, [], rfl, rfl, (fun p h => by cases h), .nil, fun _ => by simpa using w1⟩
  obtain ⟨ws2, ends, rfl, he, he1, he2, hr2⟩ := j2
  rw [rangeD_len, Nat.zero_add] at hr2 he1
  rw [List.nil_append] at he
  subst he
  refine ⟨rows, ends, m, ws2, ?_, by omega, by omega, ⟨hl, hp, he1, he2⟩, (hr2 (Nat.le_refl _)).mono (by omega)⟩
  have src : srcR1 (eVar 2) [some (true, .lst ws0), some (false, .int (most : Int)), some (false, .int (m : Int)), some (true, .lst []), none, none, none, none] = some (rangeD 0 m, [some (true, .lst ws0), some (false, .int (most : Int)), some (false, .int (m : Int)), some (true, .lst []), none, none, none, none]) := srcR1_nat (fr := false) rfl (by omega)
  have src2 : srcR1 (eVar 2) [some (true, .lst ws1), some (false, .int (most : Int)), some (false, .int (m : Int)), some (true, .lst (rows.map tR)), x, y, none, none] = some (rangeD 0 m, [some (true, .lst ws1), some (false, .int (most : Int)), some (false, .int (m : Int)), some (true, .lst (rows.map tR)), x, y, none, none]) := srcR1_nat (fr := false) rfl (by omega)
  have hlm : m < 1000000 := by omega
  have hlc : eLc (srcC (srcR1 (eVar 2))) (tName 4) lc1__law_machine (eVar 4) [4] [some (true, .lst ws1), some (false, .int (most : Int)), some (false, .int (m : Int)), some (true, .lst (rows.map tR)), x, y, none, none] = some ((true, .lst (zL ends)), [some (true, .lst ws2), some (false, .int (most : Int)), some (false, .int (m : Int)), some (true, .lst (rows.map tR)), x, y, none, none]) := by
    unfold eLc srcC
    rw [src2]
    simp -implicitDefEqProofs [j1, rangeD_len, hlm]
  rw [← hmq] at em
  have hfor : sFor [0] [4] (srcR1 (eVar 2)) (tName 4) fb1__law_machine [some (true, .lst ws0), some (false, .int (most : Int)), some (false, .int (m : Int)), some (true, .lst []), none, none, none, none] = some (.nx, [some (true, .lst ws1), some (false, .int (most : Int)), some (false, .int (m : Int)), some (true, .lst (rows.map tR)), x, y, none, none]) := by
    rw [s_sFor, src]
    exact h1
  simp -implicitDefEqProofs only [c__law_machine, b__law_machine]
  generalize sFor [0] [4] (srcR1 (eVar 2)) (tName 4) fb1__law_machine = F at hfor
  generalize eLc (srcC (srcR1 (eVar 2))) (tName 4) lc1__law_machine (eVar 4) [4] = G at hlc
  simp -implicitDefEqProofs [a1, ← em, hfor, hlc, tM]
end Wk

namespace Wk
open PySem PySem.Spec PyProof.Rows L2 PI
/-! ### sayings -/
inductive Say where
  | list (ps : List (List Int)) | sorted (x : Str) | one (w : Str) (s : Say) | two (w : Str) (s t : Say)
def encS : Say → PI.D
  | .list ps => .tup [.str "list", .tup (ps.map tT)]
  | .sorted x => .tup [.str "sorted", .str x]
  | .one w s => .tup [.str w, encS s]
  | .two w s t => .tup [.str w, encS s, encS t]
def sorters4 : List Str := ["stack", "popper", "queues", "bubble"]
def ones3 : List Str := ["turned", "mirrored", "inverse"]
def twos2 : List Str := ["both", "either"]
def SayOk : Say → Prop
  | .list ps => ps.length ≤ 20 ∧ ∀ p ∈ ps, Pt 40 p
  | .sorted x => x ∈ sorters4
  | .one w s => w ∈ ones3 ∧ SayOk s
  | .two w s t => w ∈ twos2 ∧ SayOk s ∧ SayOk t
def deep : Say → Nat
  | .list _ => 1
  | .sorted _ => 1
  | .one _ s => deep s + 1
  | .two _ s t => max (deep s) (deep t) + 1
def leaves : Say → Nat
  | .list _ => 1
  | .sorted _ => 1
  | .one _ s => leaves s
  | .two _ s t => leaves s + leaves t
theorem Pt.mono {m n : Nat} {p : List Int} (h : Pt m p) (hm : m ≤ n) : Pt n p := by
  obtain ⟨k, h1, h2, h3⟩ := h
  exact ⟨k, h1, by omega, h3⟩
/-- one of a list of texts -/
theorem at_str {l : List Str} {r : Int} {n : Nat} (h1 : 0 ≤ r) (h2 : r < n) (hn : l.length = n) : ∃ x, atI (l.map PI.D.str) r = some (.str x) ∧ x ∈ l := by
  obtain ⟨d, e1, e2⟩ := at_mem (l := l.map PI.D.str) h1 h2 (by rw [List.length_map]; exact hn)
  obtain ⟨x, hx, rfl⟩ := List.mem_map.mp e2
  exact ⟨x, e1, hx⟩
theorem at_nats {l : List Nat} {r : Int} {n b : Nat} (h1 : 0 ≤ r) (h2 : r < n) (hn : l.length = n) (hb : ∀ x ∈ l, x ≤ b) : ∃ x : Nat, atI (l.map fun i : Nat => PI.D.int (i : Int)) r = some (.int (x : Int)) ∧ x ∈ l ∧ x ≤ b := by
  obtain ⟨d, e1, e2⟩ := at_mem (l := l.map fun i : Nat => PI.D.int (i : Int)) h1 h2 (by rw [List.length_map]; exact hn)
  obtain ⟨x, hx, rfl⟩ := List.mem_map.mp e2
  exact ⟨x, e1, hx, hb x hx⟩
def bud (d : Nat) : Nat := if d = 1 then 1100 else if d = 2 then 2300 else 2400 * d
def lvs (d : Nat) : Nat := if d = 1 then 1 else if d = 2 then 2 else 2 * d
theorem bud_le (d : Nat) (h : d ≤ 12) : bud d ≤ 30000 := by unfold bud; split <;> (try split) <;> omega
theorem bud_mono {d : Nat} (h : 2 ≤ d) : bud (d - 1) + 10 ≤ bud d := by unfold bud; repeat' split
                                                                        all_goals omega
theorem bud_two {d : Nat} (h : 2 ≤ d) : bud (d - 1) + bud (min (d - 1) 2) + 2 ≤ bud d := by unfold bud; repeat' split
                                                                                            all_goals omega
theorem bud_one {d : Nat} (h : 1 ≤ d) : 1100 ≤ bud d := by unfold bud; repeat' split
                                                           all_goals omega
theorem lvs_one {d : Nat} (h : 1 ≤ d) : 1 ≤ lvs d := by unfold lvs; repeat' split
                                                        all_goals omega
theorem lvs_mono {d : Nat} (h : 2 ≤ d) : lvs (d - 1) ≤ lvs d := by unfold lvs; repeat' split
                                                                   all_goals omega
theorem lvs_two {d : Nat} (h : 2 ≤ d) : lvs (d - 1) + lvs (min (d - 1) 2) ≤ lvs d := by unfold lvs; repeat' split
                                                                                        all_goals omega
theorem v_saying : ∀ (n d : Nat) (k : Int) (ws : List PI.D), 1 ≤ d → d ≤ n → d ≤ 12 → 0 ≤ k → k + bud d < 700000 → Wl k ws →
    ∃ (s : Say) (ws' : List PI.D), c__law_saying n [.lst ws, .int (d : Int)] = some ((false, encS s), [.lst ws']) ∧ SayOk s ∧ deep s ≤ d ∧ leaves s ≤ lvs d ∧ Wl (k + bud d) ws'
  | 0, d, k, ws, h1, h2, _, _, _, _ => by omega
  | n + 1, d, k, ws, h1, h2, h12, h0, hk, hw => by
    have B1 := bud_one h1
    -- the way
    obtain ⟨r, ws1, a1, a2, a3⟩ : ∃ (r : Nat) (ws1 : List PI.D), (∃ m, c__law_draw [.lst ws, .int m] = some ((false, .int (r : Int)), [.lst ws1]) ∧ (1 < d → m = 7) ∧ (¬ 1 < d → m = 2)) ∧ (r < 7 ∧ (¬ 1 < d → r < 2)) ∧ Wl (k + 1) ws1 := by
      by_cases c : 1 < d
      · obtain ⟨r, ws1, e1, e2, e3⟩ := v_dm (m := 7) hw (by omega) (by omega) (by omega)
        exact ⟨r, ws1, ⟨7, e1, fun _ => rfl, fun h => absurd c h⟩, ⟨by omega, fun h => absurd c h⟩, e3⟩
      · obtain ⟨r, ws1, e1, e2, e3⟩ := v_dm (m := 2) hw (by omega) (by omega) (by omega)
        exact ⟨r, ws1, ⟨2, e1, fun h => absurd h c, fun _ => rfl⟩, ⟨by omega, fun _ => by omega⟩, e3⟩
    obtain ⟨m, a1, am7, am2⟩ := a1
    have hway : ∀ (x2 x3 x4 : Option (Bool × PI.D)), (eIf (e2 gtD (.sl 1) (.ex (eC (.int 1)))) (eCall [true, false] c__law_draw [(.sl 0), (.ex (eC (.int 7)))]) (eCall [true, false] c__law_draw [(.sl 0), (.ex (eC (.int 2)))])) [some (true, .lst ws), some (false, .int (d : Int)), x2, x3, x4] = some ((false, .int (r : Int)), [some (true, .lst ws1), some (false, .int (d : Int)), x2, x3, x4]) := fun x2 x3 x4 => by
      by_cases c : 1 < d
      · have e := am7 c
        subst e
        have c' : (1 : Int) < d := by omega
        simp -implicitDefEqProofs [c', a1]
      · have e := am2 c
        subst e
        have c' : ¬ (1 : Int) < d := by omega
        simp -implicitDefEqProofs [c', a1]
    by_cases c0 : r = 0
    · subst c0
      obtain ⟨q, ws2, b1, b2, b3⟩ := v_dm (m := 4) a3 (by omega) (by omega) (by omega)
      obtain ⟨x, e1, _, e2⟩ := at_nats (l := [2, 2, 5, 20]) (r := (q : Int)) (n := 4) (b := 20) (by omega) (by omega) rfl (by decide)
      obtain ⟨q2, ws3, d1, d2, d3⟩ := v_dm (m := 3) b3 (by omega) (by omega) (by omega)
      obtain ⟨y, f1, f0, f2⟩ := at_nats (l := [5, 5, 40]) (r := (q2 : Int)) (n := 3) (b := 40) (by omega) (by omega) rfl (by decide)
      have hy : 1 ≤ y := by
        simp only [List.mem_cons, List.not_mem_nil, or_false] at f0
        omega
      obtain ⟨ps, ws4, g1, g2, g3, g4⟩ := v_list (most := x) (things := y) d3 (by omega) (by omega) e2 hy f2
      have e1' : [PI.D.int 2, .int 2, .int 5, .int 20][q]? = some (.int (x : Int)) := by rw [← z_atn]; exact e1
      have f1' : [PI.D.int 5, .int 5, .int 40][q2]? = some (.int (y : Int)) := by rw [← z_atn]; exact f1
      refine ⟨.list ps, ws4, ?_, ⟨by omega, fun p hp => (g3 p hp).mono f2⟩, by show 1 ≤ d; omega, lvs_one h1, g4.mono (by omega)⟩
      show runB _ _ (b__law_saying (c__law_saying n)) _ = _
      simp -implicitDefEqProofs only [b__law_saying]
      generalize hF : eIf _ _ _ = F at hway
      simp -implicitDefEqProofs [hway, b1, e1', d1, f1', g1, encS]
    · by_cases c1 : r = 1
      · subst c1
        obtain ⟨q, ws2, b1, b2, b3⟩ := v_dm (m := 4) a3 (by omega) (by omega) (by omega)
        obtain ⟨x, e1, e2⟩ := at_str (l := sorters4) (r := (q : Int)) (n := 4) (by omega) (by omega) rfl
        have e1' : [PI.D.str "stack", .str "popper", .str "queues", .str "bubble"][q]? = some (.str x) := by rw [← z_atn]; exact e1
        refine ⟨.sorted x, ws2, ?_, e2, by show 1 ≤ d; omega, lvs_one h1, b3.mono (by omega)⟩
        show runB _ _ (b__law_saying (c__law_saying n)) _ = _
        simp -implicitDefEqProofs only [b__law_saying]
        generalize hF : eIf _ _ _ = F at hway
        simp -implicitDefEqProofs [hway, b1, e1', encS]
      · have hd : 1 < d := by
          by_cases c : 1 < d
          · exact c
          · have := a2.2 c
            omega
        have e0 : ((d - 1 : Nat) : Int) = (d : Int) - 1 := by omega
        have nr0 : ((r : Int) == 0) = false := by simp; omega
        have nr1 : ((r : Int) == 1) = false := by simp; omega
        have B2 := bud_mono (d := d) (by omega)
        have B3 := bud_two (d := d) (by omega)
        have L2 := lvs_mono (d := d) (by omega)
        have L3 := lvs_two (d := d) (by omega)
        by_cases c5 : r < 5
        · obtain ⟨s, ws2, g1, g2, g3, g4, g6⟩ := v_saying n (d - 1) (k + 1) ws1 (by omega) (by omega) (by omega) (by omega) (by omega) a3
          rw [e0] at g1
          obtain ⟨x, e1, e2⟩ := at_str (l := ones3) (r := (r : Int) - 2) (n := 3) (by omega) (by omega) rfl
          have e1' : atI [PI.D.str "turned", .str "mirrored", .str "inverse"] ((r : Int) - 2) = some (.str x) := e1
          have c5' : (r : Int) < 5 := by omega
          refine ⟨.one x s, ws2, ?_, ⟨e2, g2⟩, by show deep s + 1 ≤ d; omega, by show leaves s ≤ lvs d; omega, g6.mono (by omega)⟩
          show runB _ _ (b__law_saying (c__law_saying n)) _ = _
          simp -implicitDefEqProofs only [b__law_saying]
          generalize hF : eIf _ _ _ = F at hway
          simp -implicitDefEqProofs [hway, nr0, nr1, c5', e1', g1, encS, c0, c1, c5]
        · obtain ⟨s, ws2, g1, g2, g3, g4, g6⟩ := v_saying n (d - 1) (k + 1) ws1 (by omega) (by omega) (by omega) (by omega) (by omega) a3
          rw [e0] at g1
          obtain ⟨d2, hd2⟩ : ∃ d2, d2 = min (d - 1) 2 := ⟨_, rfl⟩
          rw [← hd2] at B3 L3
          obtain ⟨t, ws3, i1, i2, i3, i4, i6⟩ := v_saying n d2 (k + 1 + bud (d - 1)) ws2 (by omega) (by omega) (by omega) (by omega) (by omega) g6
          have hmin : (if (2 : Int) < (d : Int) - 1 then (2 : Int) else (d : Int) - 1) = (d2 : Int) := by
            by_cases c : (2 : Int) < (d : Int) - 1
            · rw [if_pos c]
              omega
            · rw [if_neg c]
              omega
          obtain ⟨q, ws4, b1, b2, b3⟩ := v_dm (m := 2) i6 (by omega) (by omega) (by omega)
          obtain ⟨x, e1, e2⟩ := at_str (l := twos2) (r := (r : Int) - 5) (n := 2) (by omega) (by omega) rfl
          have e1' : atI [PI.D.str "both", .str "either"] ((r : Int) - 5) = some (.str x) := e1
          have c5' : ¬ (r : Int) < 5 := by omega
          have q01 : q = 0 ∨ q = 1 := by omega
          rcases q01 with rfl | rfl
          · refine ⟨.two x s t, ws4, ?_, ⟨e2, g2, i2⟩, by show max (deep s) (deep t) + 1 ≤ d; omega, by show leaves s + leaves t ≤ lvs d; omega, b3.mono (by omega)⟩
            show runB _ _ (b__law_saying (c__law_saying n)) _ = _
            simp -implicitDefEqProofs only [b__law_saying]
            generalize hF : eIf _ _ _ = F at hway
            simp -implicitDefEqProofs [hway, nr0, nr1, c5', e1', g1, hmin, i1, b1, encS, c0, c1, c5]
          · refine ⟨.two x t s, ws4, ?_, ⟨e2, i2, g2⟩, by show max (deep t) (deep s) + 1 ≤ d; omega, by show leaves t + leaves s ≤ lvs d; omega, b3.mono (by omega)⟩
            show runB _ _ (b__law_saying (c__law_saying n)) _ = _
            simp -implicitDefEqProofs only [b__law_saying]
            generalize hF : eIf _ _ _ = F at hway
            simp -implicitDefEqProofs [hway, nr0, nr1, c5', e1', g1, hmin, i1, b1, encS, c0, c1, c5]
end Wk

namespace Wk
open PySem PySem.Spec PyProof.Rows L2 PI
/-! ### the texts -/
def lstT (ws : List Str) (sep : Str) : Str := if ws = [] then "-" else Txt.join sep ws
def wsg (i : Int) : Str := sgn ([109, 108, 114, 102].getD i.toNat 0)
def tOrder (os : List Int) : Str := lstT (os.map strI) " "
def tList (ps : List (List Int)) : Str := lstT (ps.map tOrder) ", "
def tLetter (p : Int × Int) : Str := strI p.1 ++ wsg p.2
def tWord (ps : List (Int × Int)) : Str := lstT (ps.map tLetter) " "
def tStep (s : Stp1) : Str := tLetter s.1 ++ " " ++ strI s.2
def tEnd : Bool → Str
  | true => " end"
  | false => ""
def tName_ (i : Int) (ends : List Int) : Str := strI i ++ tEnd (ends.contains i)
def tLine (i : Int) (row : List Stp1) (ends : List Int) : Str := tName_ i ends ++ " : " ++ lstT (row.map tStep) ", "
def tLines : Nat → List (List Stp1) → List Int → List Str
  | _, [], _ => []
  | i, r :: rs, ends => tLine (i : Int) r ends :: tLines (i + 1) rs ends
def tMach (rows : List (List Stp1)) (ends : List Int) : Str := Txt.join "\n" (tLines 0 rows ends)
def tSay : Say → Str
  | .list ps => "(list [" ++ tList ps ++ "])"
  | .sorted x => "(sorted " ++ x ++ ")"
  | .one w s => "(" ++ Txt.join " " [w, tSay s] ++ ")"
  | .two w s t => "(" ++ Txt.join " " [w, tSay s, tSay t] ++ ")"
theorem okLit {x : Str} {n : Nat} (h : (decide (x.length ≤ n) && (tl x).all fun c => decide (c < 128)) = true) : OkS n x := by
  obtain ⟨h1, h2⟩ := Bool.and_eq_true_iff.mp h
  exact ⟨of_decide_eq_true h1, fun c hc => of_decide_eq_true (List.all_eq_true.mp h2 c hc)⟩
theorem ok_sp : OkS 1 (" " : Str) := okLit (by decide +kernel)
theorem ok_cs : OkS 2 (", " : Str) := okLit (by decide +kernel)
theorem ok_nl : OkS 1 ("\n" : Str) := okLit (by decide +kernel)
theorem ok_dash : OkS 1 ("-" : Str) := okLit (by decide +kernel)
theorem lstT_ok {ws : List Str} {sep : Str} {n k m : Nat} (hz : OkS k sep) (h : ∀ x ∈ ws, OkS n x) (hl : ws.length ≤ m) : OkS (m * (n + k) + 1) (lstT ws sep) := by
  unfold lstT
  split
  · exact ok_dash.mono (by omega)
  · exact (OkS.join hz h).mono (Nat.le_succ_of_le (Nat.mul_le_mul_right _ hl))
theorem lstT_join {ws : List Str} {sep : Str} {n k m : Nat} (hz : OkS k sep) (h : ∀ x ∈ ws, OkS n x) (hl : ws.length ≤ m) (hb : m * (n + k) ≤ 16777216) : joinB sep ws = true := join_ok hz h (Nat.le_trans (Nat.mul_le_mul_right _ hl) hb)
theorem lenD_le {x : Str} {n : Nat} (h : OkS n x) (hn : n ≤ 10000000) : x.length ≤ 10000000 := Nat.le_trans h.1 hn
theorem v_listed {ws : List Str} {sep : Str} {n k m : Nat} (hz : OkS k sep) (h : ∀ x ∈ ws, OkS n x) (hl : ws.length ≤ m) (hb : m * (n + k) ≤ 16777216) : c_listed [.lst (ws.map PI.D.str), .str sep] = some ((false, .str (lstT ws sep)), []) := by
  have hj := lstT_join hz h hl hb
  cases ws with
  | nil => rfl
  | cons w ws =>
    have e : lstT (w :: ws) sep = Txt.join sep (w :: ws) := if_neg (by simp)
    rw [e]
    have c : (0 : Int) < ((w :: ws).map PI.D.str).length := by simp only [List.length_map, List.length_cons]; omega
    generalize (w :: ws) = us at *
    simp -implicitDefEqProofs [c_listed, b_listed, hj]
    simp only [List.length_map] at c
    have c2 : 0 < us.length := by omega
    simp [c2]
theorem v_law_listed {ws : List Str} {sep : Str} {n k m : Nat} (hz : OkS k sep) (h : ∀ x ∈ ws, OkS n x) (hl : ws.length ≤ m) (hb : m * (n + k) ≤ 16777216) : c__law_listed [.lst (ws.map PI.D.str), .str sep] = some ((false, .str (lstT ws sep)), []) := by
  have hj := lstT_join hz h hl hb
  have he : neD (.lst (ws.map PI.D.str)) (.lst []) = some (false, .bl (!decide (ws = []))) := by
    rw [q_ne, eqB_strs0 fun x hx => (h x hx).strOk]
    rfl
  by_cases c : ws = []
  · subst c
    rfl
  · have e : lstT ws sep = Txt.join sep ws := if_neg c
    rw [e]
    simp -implicitDefEqProofs [c__law_listed, b__law_listed, he, c, hj]
/-- a comprehension over a tuple -/
theorem lc_tup {α : Type} {enc g : α → PI.D} {le : EF} {l : List α} (hl : l.length < 1000000) (h : ∀ a ∈ l, ∃ fr y, le [some (false, .tup (l.map enc)), some (false, enc a)] = some ((fr, g a), [some (false, .tup (l.map enc)), y])) :
    eLc (srcN 0) (tName 1) eYes le [1] [some (false, .tup (l.map enc)), none] = some ((true, .lst (l.map g)), [some (false, .tup (l.map enc)), none]) := by
  have hm := lcl_map (T := tName 1) (c := eYes) (f := le) (vs := [1]) (env := [some (false, .tup (l.map enc)), none]) (enc := enc) (g := g) rfl l fun a ha => by
    obtain ⟨fr, y, e⟩ := h a ha
    exact ⟨_, false, _, fr, _, rfl, rfl, e, rfl⟩
  unfold eLc srcN
  simp -implicitDefEqProofs [hm, hl]
/-- numbers of an order -/
theorem ok_small {os : List Int} {n : Nat} (hn : n ≤ 40) (h : os.Perm (rng n)) : ∀ x ∈ os.map strI, OkS 2 x := fun x hx => by
  obtain ⟨i, hi, rfl⟩ := List.mem_map.mp hx
  have := rng_mem.mp (h.mem_iff.mp hi)
  exact strI_ok (by omega) (by decide) (by show i < 10 ^ 2; omega)
theorem log_small {i : Int} (h : i.natAbs < 2 ^ 1900) : i.natAbs.log2 < 1920 := by
  by_cases c : i.natAbs = 0
  · rw [c]
    decide
  · exact Nat.lt_of_lt_of_le ((Nat.log2_lt c).mpr h) (by decide)
theorem log_lt {i : Int} (h : i.natAbs < 2 ^ 100) : i.natAbs.log2 < 1920 := log_small (Nat.lt_of_lt_of_le h (Nat.pow_le_pow_right (by decide) (by decide)))
theorem order_len {os : List Int} {n : Nat} (h : os.Perm (rng n)) : os.length = n := by rw [h.length_eq, rng_len]
theorem map_comp {α β γ : Type} (f : β → γ) (g : α → β) (l : List α) : l.map (fun a => f (g a)) = (l.map g).map f := by rw [List.map_map]; rfl
theorem v_said_order {os : List Int} {n : Nat} (hn : n ≤ 40) (h : os.Perm (rng n)) : c__law_said_order [.tup (zL os)] = some ((false, .str (tOrder os)), []) ∧ c_show_order [.tup (zL os)] = some ((false, .str (tOrder os)), []) := by
  have hl := order_len h
  have ok := ok_small hn h
  have hlen : (os.map strI).length ≤ 40 := by rw [List.length_map]; omega
  have l1 := v_law_listed (m := 40) ok_sp ok hlen (by decide)
  have l2 := v_listed (m := 40) ok_sp ok hlen (by decide)
  rw [← map_comp PI.D.str strI os] at l1 l2
  have le : ∀ (x : Option (Bool × PI.D)), ∀ a ∈ os, (eN (c1 strD) [(.sl 1)]) [x, some (false, .int a)] = some ((false, .str (strI a)), [x, some (false, .int a)]) := fun x a ha => by
    have := rng_mem.mp (h.mem_iff.mp ha)
    have b := log_lt (i := a) (by omega)
    simp -implicitDefEqProofs [b]
  have lc := lc_tup (enc := PI.D.int) (g := fun a => PI.D.str (strI a)) (le := eN (c1 strD) [(.sl 1)]) (l := os) (by omega) fun a ha => ⟨false, _, le _ a ha⟩
  have lc : eLc (srcN 0) (tName 1) eYes (eN (c1 strD) [(.sl 1)]) [1] [some (false, .tup (zL os)), none] = some ((true, .lst (os.map fun a => PI.D.str (strI a))), [some (false, .tup (zL os)), none]) := lc
  unfold tOrder
  constructor
  · unfold c__law_said_order b__law_said_order le1__law_said_order
    generalize eLc _ _ _ _ _ = F at lc
    simp -implicitDefEqProofs [lc, l1]
  · unfold c_show_order b_show_order le1_show_order
    generalize eLc _ _ _ _ _ = F at lc
    simp -implicitDefEqProofs [lc, l2]
theorem tOrder_ok {os : List Int} {n : Nat} (hn : n ≤ 40) (h : os.Perm (rng n)) : OkS 121 (tOrder os) := by
  have hl := order_len h
  exact (lstT_ok (m := 40) ok_sp (ok_small hn h) (by rw [List.length_map]; omega)).mono (by decide)
theorem v_said_list {ps : List (List Int)} (hl : ps.length ≤ 20) (h : ∀ p ∈ ps, Pt 40 p) : c__law_said_list [.tup (ps.map tT)] = some ((false, .str (tList ps)), []) ∧ c_show_list [.tup (ps.map tT)] = some ((false, .str (tList ps)), []) := by
  have ok : ∀ x ∈ ps.map tOrder, OkS 121 x := fun x hx => by
    obtain ⟨p, hp, rfl⟩ := List.mem_map.mp hx
    obtain ⟨n, h1, h2, h3⟩ := h p hp
    exact tOrder_ok h2 h3
  have hlen : (ps.map tOrder).length ≤ 20 := by rw [List.length_map]; omega
  have l1 := v_law_listed (m := 20) ok_cs ok hlen (by decide)
  have l2 := v_listed (m := 20) ok_cs ok hlen (by decide)
  rw [← map_comp PI.D.str tOrder ps] at l1 l2
  have lc1 := lc_tup (enc := tT) (g := fun p => PI.D.str (tOrder p)) (le := le1__law_said_list) (l := ps) (by omega) fun p hp => by
    obtain ⟨n, h1, h2, h3⟩ := h p hp
    exact ⟨false, _, by simp -implicitDefEqProofs [le1__law_said_list, tT, (v_said_order h2 h3).1]; rfl⟩
  have lc2 := lc_tup (enc := tT) (g := fun p => PI.D.str (tOrder p)) (le := le1_show_list) (l := ps) (by omega) fun p hp => by
    obtain ⟨n, h1, h2, h3⟩ := h p hp
    exact ⟨false, _, by simp -implicitDefEqProofs [le1_show_list, tT, (v_said_order h2 h3).2]; rfl⟩
  unfold tList
  constructor
  · unfold c__law_said_list b__law_said_list
    generalize eLc _ _ _ _ _ = F at lc1
    simp -implicitDefEqProofs [lc1, l1]
  · unfold c_show_list b_show_list
    generalize eLc _ _ _ _ _ = F at lc2
    simp -implicitDefEqProofs [lc2, l2]
theorem tList_ok {ps : List (List Int)} (hl : ps.length ≤ 20) (h : ∀ p ∈ ps, Pt 40 p) : OkS 2461 (tList ps) :=
  (lstT_ok (m := 20) ok_cs (fun x hx => by
    obtain ⟨p, hp, rfl⟩ := List.mem_map.mp hx
    obtain ⟨n, h1, h2, h3⟩ := h p hp
    exact tOrder_ok h2 h3) (by rw [List.length_map]; omega)).mono (by decide)
end Wk

namespace Wk
open PySem PySem.Spec PyProof.Rows L2 PI
/-! ### letters, words -/
theorem wsg_at {i : Int} (h : 0 ≤ i) (h4 : i < 4) : (if ("mlrf" : Str).length ≤ 10000000 then (atI ("mlrf" : Str).cps.toList i).bind fun c => some (false, PI.D.str (sgn c)) else none) = some (false, .str (wsg i)) := by
  obtain ⟨n, rfl⟩ := Int.eq_ofNat_of_zero_le h
  have : n = 0 ∨ n = 1 ∨ n = 2 ∨ n = 3 := by omega
  rcases this with rfl | rfl | rfl | rfl <;> rfl
theorem ix_mlrf {i : Int} (h : 0 ≤ i) (h4 : i < 4) : ixS (.str "mlrf") (.int i) = some (false, .str (wsg i)) := wsg_at h h4
theorem wsg_ok {i : Int} (h : 0 ≤ i) (h4 : i < 4) : OkS 1 (wsg i) := by
  obtain ⟨n, rfl⟩ := Int.eq_ofNat_of_zero_le h
  have : n = 0 ∨ n = 1 ∨ n = 2 ∨ n = 3 := by omega
  rcases this with rfl | rfl | rfl | rfl <;> exact okLit (by decide +kernel)
theorem slot_ok {p : Int × Int} (h : Lt bigM p) : OkS 31 (strI p.1) := by
  have e : bigM = 10 ^ 30 := by decide
  have e2 : (10 : Int) ^ 30 < 10 ^ 31 := by decide
  exact strI_ok (by have := h.1.1; omega) (by decide) (by have := h.1.2; omega)
theorem letter_ok {p : Int × Int} (h : Lt bigM p) : OkS 32 (tLetter p) := (slot_ok h).app (wsg_ok h.2.1 h.2.2)
theorem app_le {x y : Str} {n m : Nat} (hx : OkS n x) (hy : OkS m y) (h : n + m ≤ 10000000) : x.length + y.length ≤ 10000000 := by
  have := hx.1
  have := hy.1
  omega
theorem v_letter {p : Int × Int} (h : Lt bigM p) : c__law_said_letter [tP p] = some ((false, .str (tLetter p)), []) ∧ c_show_letter [tP p] = some ((false, .str (tLetter p)), []) := by
  have e : bigM = 1000000000000000000000000000000 := rfl
  have b := log_lt (i := p.1) (by have := h.1.1; have := h.1.2; omega)
  have hw := ix_mlrf h.2.1 h.2.2
  have ha := app_le (slot_ok h) (wsg_ok h.2.1 h.2.2) (by decide)
  constructor
  · generalize hF : ixS (.str "mlrf") = F at hw
    simp -implicitDefEqProofs [c__law_said_letter, b__law_said_letter, tP, b, hF, hw, ha, tLetter]
  · generalize hF : ixS (.str "mlrf") = F at hw
    simp -implicitDefEqProofs [c_show_letter, b_show_letter, tP, K_WAYS, b, hF, hw, ha, tLetter]
theorem v_word {ps : List (Int × Int)} (hl : ps.length ≤ 60) (h : ∀ p ∈ ps, Lt bigM p) : c__law_said_word [.tup (ps.map tP)] = some ((false, .str (tWord ps)), []) ∧ c_show_word [.tup (ps.map tP)] = some ((false, .str (tWord ps)), []) ∧ OkS 1981 (tWord ps) := by
  have ok : ∀ x ∈ ps.map tLetter, OkS 32 x := fun x hx => by
    obtain ⟨p, hp, rfl⟩ := List.mem_map.mp hx
    exact letter_ok (h p hp)
  have hlen : (ps.map tLetter).length ≤ 60 := by rw [List.length_map]; omega
  have l1 := v_law_listed (m := 60) ok_sp ok hlen (by decide)
  have l2 := v_listed (m := 60) ok_sp ok hlen (by decide)
  rw [← map_comp PI.D.str tLetter ps] at l1 l2
  have lc1 := lc_tup (enc := tP) (g := fun p => PI.D.str (tLetter p)) (le := le1__law_said_word) (l := ps) (by omega) fun p hp => by
    exact ⟨false, _, by simp -implicitDefEqProofs [le1__law_said_word, (v_letter (h p hp)).1]; rfl⟩
  have lc2 := lc_tup (enc := tP) (g := fun p => PI.D.str (tLetter p)) (le := le1_show_word) (l := ps) (by omega) fun p hp => by
    exact ⟨false, _, by simp -implicitDefEqProofs [le1_show_word, (v_letter (h p hp)).2]; rfl⟩
  unfold tWord
  refine ⟨?_, ?_, (lstT_ok (m := 60) ok_sp ok hlen).mono (by decide)⟩
  · unfold c__law_said_word b__law_said_word
    generalize eLc _ _ _ _ _ = F at lc1
    simp -implicitDefEqProofs [lc1, l1]
  · unfold c_show_word b_show_word
    generalize eLc _ _ _ _ _ = F at lc2
    simp -implicitDefEqProofs [lc2, l2]
/-! ### machines -/
theorem step_ok {m : Nat} (hm : m ≤ 200) {p : Stp1} (h : Lt bigM p.1 ∧ 0 ≤ p.2 ∧ p.2 < m) : OkS 3 (strI p.2) ∧ OkS 36 (tStep p) := by
  have o3 : OkS 3 (strI p.2) := strI_ok h.2.1 (by decide) (by have := h.2.2; show p.2 < 10 ^ 3; omega)
  exact ⟨o3, (((letter_ok h.1).app ok_sp).app o3).mono (by decide)⟩
theorem steps_ok {m : Nat} (hm : m ≤ 200) {row : List Stp1} (h : RowOk m row) : (∀ x ∈ row.map tStep, OkS 36 x) ∧ (row.map tStep).length ≤ 12 ∧ OkS 457 (lstT (row.map tStep) ", ") := by
  have ok : ∀ x ∈ row.map tStep, OkS 36 x := fun x hx => by
    obtain ⟨p, hp, rfl⟩ := List.mem_map.mp hx
    exact (step_ok hm (h.let_ p hp)).2
  have hlen : (row.map tStep).length ≤ 12 := by rw [List.length_map]; exact h.len
  exact ⟨ok, hlen, (lstT_ok (m := 12) ok_cs ok hlen).mono (by decide)⟩
theorem ok_end : OkS 4 (" end" : Str) := okLit (by decide +kernel)
theorem ok_emp : OkS 4 ("" : Str) := okLit (by decide +kernel)
theorem ok_col : OkS 3 (" : " : Str) := okLit (by decide +kernel)
theorem idx_ok {i : Nat} (hi : i < 200) : OkS 3 (strI (i : Int)) := strI_ok (by omega) (by decide) (by show (i : Int) < 10 ^ 3; omega)
theorem name_ok {i : Nat} (hi : i < 200) (ends : List Int) : OkS 7 (tName_ (i : Int) ends) := by
  unfold tName_
  cases ends.contains (i : Int)
  · exact (idx_ok hi).app ok_emp
  · exact (idx_ok hi).app ok_end
theorem line_ok {m : Nat} (hm : m ≤ 200) {i : Nat} (hi : i < 200) {row : List Stp1} (h : RowOk m row) (ends : List Int) : OkS 467 (tLine (i : Int) row ends) :=
  (((name_ok hi ends).app ok_col).app (steps_ok hm h).2.2).mono (by decide)
/-- a comprehension over a row with two targets -/
theorem lcl_row {le : EF} {vs : List Nat} {env : PI.Env} {i j : Nat} {row : List Stp1} (hn : noOwn env vs = true) (h : ∀ p ∈ row, ∃ fr e3, le (((wipeE env vs).set i (some (false, tP p.1))).set j (some (false, .int p.2))) = some ((fr, .str (tStep p)), e3) ∧ restE env e3 vs = env) :
    lcl (tTplA 2 (tsCons (tName i) (tsCons (tName j) tsNil))) eYes le vs (row.map tS) env = some (row.map fun p => .str (tStep p), env) :=
  lcl_map hn row fun p hp => by
    obtain ⟨fr, e3, h1, h2⟩ := h p hp
    exact ⟨_, false, _, fr, e3, rfl, rfl, h1, h2⟩
theorem tLines_len : ∀ (rows : List (List Stp1)) (i : Nat) (ends : List Int), (tLines i rows ends).length = rows.length
  | [], _, _ => rfl
  | r :: rs, i, ends => congrArg Nat.succ (tLines_len rs (i + 1) ends)
theorem tLines_get : ∀ (rows : List (List Stp1)) (i j : Nat) (ends : List Int), (tLines i rows ends)[j]? = rows[j]?.map fun r => tLine ((i + j : Nat) : Int) r ends
  | [], _, _, _ => by simp [tLines]
  | r :: rs, i, 0, ends => rfl
  | r :: rs, i, j + 1, ends => by
    show (tLines (i + 1) rs ends)[j]? = (rs[j]?).map _
    rw [tLines_get rs (i + 1) j ends]
    have e : i + 1 + j = i + (j + 1) := by omega
    rw [e]
theorem lines_ok {m : Nat} (hm : m ≤ 200) {rows : List (List Stp1)} {ends : List Int} (hl : rows.length = m) (h : ∀ r ∈ rows, RowOk m r) : ∀ x ∈ tLines 0 rows ends, OkS 467 x := fun x hx => by
  obtain ⟨j, hj⟩ := List.getElem?_of_mem hx
  rw [tLines_get, Nat.zero_add] at hj
  obtain ⟨r, hr, rfl⟩ := Option.map_eq_some_iff.mp hj
  have := (List.getElem?_eq_some_iff.mp hr).1
  exact line_ok hm (by omega) (h r (List.mem_of_getElem? hr)) ends
theorem log_nat {i : Nat} (hi : i < 1000000) : ((i : Int)).natAbs.log2 < 1920 := log_lt (by omega)
theorem take_lines {rows : List (List Stp1)} {ends : List Int} {j : Nat} {r : List Stp1} (hr : rows[j]? = some r) : (tLines 0 rows ends).take (j + 1) = (tLines 0 rows ends).take j ++ [tLine (j : Int) r ends] := by
  rw [List.take_succ, tLines_get, hr, Nat.zero_add]
  rfl
theorem lc_said_row {m : Nat} (hm : m ≤ 200) {rows : List (List Stp1)} {ends : List Int} {j : Nat} {r : List Stp1} (hrj : rows[j]? = some r) (hr : RowOk m r) {x1 x3 x4 x5 x6 : Option (Bool × PI.D)} (n4 : NO x4) (n5 : NO x5) :
    eLc (srcC (srcA (e2 ixS (.ex (e2 ixS (.sl 0) (.ex (eC (.int 0))))) (.sl 2)))) (tTplA 2 (tsCons (tName 4) (tsCons (tName 5) tsNil))) eYes le1__law_said_machine [4, 5] [some (false, tM rows ends), x1, some (false, .int (j : Int)), x3, x4, x5, x6] =
      some ((true, .lst (r.map fun p => .str (tStep p))), [some (false, tM rows ends), x1, some (false, .int (j : Int)), x3, x4, x5, x6]) := by
  have hno : noOwn [some (false, tM rows ends), x1, some (false, .int (j : Int)), x3, x4, x5, x6] [4, 5] = true := by
    rcases n4 with rfl | ⟨d, rfl⟩ <;> rcases n5 with rfl | ⟨d, rfl⟩ <;> rfl
  have hm' := lcl_row (le := le1__law_said_machine) (vs := [4, 5]) (i := 4) (j := 5) (row := r) hno fun p hp => by
    have s1 := step_ok hm (hr.let_ p hp)
    have b := log_lt (i := p.2) (by have := (hr.let_ p hp).2; omega)
    have a1 := app_le (letter_ok (hr.let_ p hp).1) ok_sp (by decide)
    have a2 := app_le ((letter_ok (hr.let_ p hp).1).app ok_sp) s1.1 (by decide)
    exact ⟨false, [some (false, tM rows ends), x1, some (false, .int (j : Int)), x3, some (false, tP p.1), some (false, .int p.2), x6], by simp -implicitDefEqProofs [le1__law_said_machine, (v_letter (hr.let_ p hp).1).1, b, a1, a2, tStep], rfl⟩
  have hrl : r.length < 1000000 := by have := hr.len; omega
  have src : srcC (srcA (e2 ixS (.ex (e2 ixS (.sl 0) (.ex (eC (.int 0))))) (.sl 2))) [some (false, tM rows ends), x1, some (false, .int (j : Int)), x3, x4, x5, x6] = some (r.map tS, [some (false, tM rows ends), x1, some (false, .int (j : Int)), x3, x4, x5, x6], none) := by
    simp -implicitDefEqProofs [srcC, srcA, tM, hrj, tR]
  unfold eLc
  rw [src]
  show (if (r.map tS).length < 1000000 then _ else none) = _
  rw [List.length_map, if_pos hrl]
  show (lcl _ _ _ _ (r.map tS) [some (false, tM rows ends), x1, some (false, .int (j : Int)), x3, x4, x5, x6]).bind _ = _
  rw [hm']
  rfl
theorem lc_show_row {m : Nat} (hm : m ≤ 200) {r : List Stp1} (hr : RowOk m r) {x0 x1 x2 x3 x4 x6 x7 x8 : Option (Bool × PI.D)} (n4 : NO x7) (n5 : NO x8) :
    eLc (srcN 5) (tTplA 2 (tsCons (tName 7) (tsCons (tName 8) tsNil))) eYes le1_show_machine [7, 8] [x0, x1, x2, x3, x4, some (false, tR r), x6, x7, x8] =
      some ((true, .lst (r.map fun p => .str (tStep p))), [x0, x1, x2, x3, x4, some (false, tR r), x6, x7, x8]) := by
  have hno : noOwn [x0, x1, x2, x3, x4, some (false, tR r), x6, x7, x8] [7, 8] = true := by
    rcases n4 with rfl | ⟨d, rfl⟩ <;> rcases n5 with rfl | ⟨d, rfl⟩ <;> rfl
  have hm' := lcl_row (le := le1_show_machine) (vs := [7, 8]) (i := 7) (j := 8) (row := r) hno fun p hp => by
    have s1 := step_ok hm (hr.let_ p hp)
    have b := log_lt (i := p.2) (by have := (hr.let_ p hp).2; omega)
    have a1 := app_le (letter_ok (hr.let_ p hp).1) ok_sp (by decide)
    have a2 := app_le ((letter_ok (hr.let_ p hp).1).app ok_sp) s1.1 (by decide)
    exact ⟨false, [x0, x1, x2, x3, x4, some (false, tR r), x6, some (false, tP p.1), some (false, .int p.2)], by simp -implicitDefEqProofs [le1_show_machine, (v_letter (hr.let_ p hp).1).2, b, a1, a2, tStep], rfl⟩
  have hrl : r.length < 1000000 := by have := hr.len; omega
  have src : srcN 5 [x0, x1, x2, x3, x4, some (false, tR r), x6, x7, x8] = some (r.map tS, [x0, x1, x2, x3, x4, some (false, tR r), x6, x7, x8], none) := rfl
  unfold eLc
  rw [src]
  show (if (r.map tS).length < 1000000 then _ else none) = _
  rw [List.length_map, if_pos hrl]
  show (lcl _ _ _ _ (r.map tS) [x0, x1, x2, x3, x4, some (false, tR r), x6, x7, x8]).bind _ = _
  rw [hm']
  rfl
theorem end_ok : ∀ b : Bool, OkS 4 (tEnd b)
  | true => ok_end
  | false => ok_emp
theorem v_said_machine {m : Nat} {rows : List (List Stp1)} {ends : List Int} (hm : m ≤ 200) (h : MachOk m rows ends) : c__law_said_machine [tM rows ends] = some ((false, .str (tMach rows ends)), []) := by
  have hl := h.len
  obtain ⟨env', h1, h2⟩ := fl_keep (T := tName 2) (f := fb1__law_said_machine) (fun j env => ∃ (ls : List Str) (x2 x3 x4 x5 x6 : Option (Bool × PI.D)), env = [some (false, tM rows ends), some (true, .lst (ls.map PI.D.str)), x2, x3, x4, x5, x6] ∧ ls = (tLines 0 rows ends).take j ∧ NO x4 ∧ NO x5) (rangeD 0 m) 0 [some (false, tM rows ends), some (true, .lst []), none, none, none, none, none]
    (fun j d env hd hr => by
      obtain ⟨ls, x2, x3, x4, x5, x6, rfl, hls, n4, n5⟩ := hr
      have hj : j < m := by
        have := (List.getElem?_eq_some_iff.mp hd).1
        rw [rangeD_len] at this
        exact this
      have hd' : d = .int ((0 : Int) + (j : Int)) := by
        rw [rangeD_get hj] at hd
        exact (Option.some.inj hd).symm
      rw [Int.zero_add] at hd'
      subst hd'
      rw [Nat.zero_add] at hls ⊢
      have hrj : rows[j]? = some rows[j] := List.getElem?_eq_getElem (by omega)
      generalize rows[j] = r at hrj
      have hr := h.row r (List.mem_of_getElem? hrj)
      obtain ⟨ok, hlen, ol⟩ := steps_ok hm hr
      have l1 := v_law_listed (m := 12) ok_cs ok hlen (by decide)
      rw [← map_comp PI.D.str tStep r] at l1
      have lc := lc_said_row hm (ends := ends) hrj hr (x1 := some (true, .lst (ls.map PI.D.str))) (x3 := x3) (x6 := x6) n4 n5
      have b : j.log2 < 1920 := log_nat (i := j) (by omega)
      have a1 : ∀ C, (strI (j : Int)).length + (tEnd C).length ≤ 10000000 := fun C => app_le (idx_ok (by omega)) (end_ok C) (by decide)
      have a2 := app_le (name_ok (i := j) (by omega) ends) ok_col (by decide)
      have a3 := app_le ((name_ok (i := j) (by omega) ends).app ok_col) ol (by decide)
      have hlt : ls.length < 1000000 := by rw [hls, List.length_take]; omega
      refine ⟨[some (false, tM rows ends), some (true, .lst ((ls ++ [tLine (j : Int) r ends]).map PI.D.str)), some (false, .int (j : Int)), some (false, .lst (r.map fun p => .str (tStep p))), x4, x5, some (false, .str (tName_ (j : Int) ends))], ?_, ls ++ [tLine (j : Int) r ends], _, _, _, _, _, rfl, ?_, n4, n5⟩
      · generalize hE : eLc _ _ _ _ = F at lc
        generalize hM : (fun p => PI.D.str (tStep p)) = M at *
        have hin : inX false (.int (j : Int)) (.tup (zL ends)) = some (false, .bl (ends.contains (j : Int))) := q_inF
        generalize hC : ends.contains (j : Int) = C at *
        have en : strI (j : Int) ++ tEnd C = tName_ (j : Int) ends := by unfold tName_; rw [hC]
        have at1 : ixS (tM rows ends) (.int 1) = some (false, .tup (zL ends)) := rfl
        have eL : tName_ (j : Int) ends ++ (" : " : Str) ++ lstT (r.map tStep) ", " = tLine (j : Int) r ends := rfl
        generalize tM rows ends = TM at *
        generalize hn : tName_ (j : Int) ends = NN at *
        generalize hq : lstT (r.map tStep) ", " = LL at *
        generalize tLine (j : Int) r ends = TL' at *
        simp -implicitDefEqProofs only [fb1__law_said_machine]
        rw [hE]
        have a1' := a1 C
        cases C with
        | true =>
          have en' : strI (j : Int) ++ (" end" : Str) = NN := en
          have a1' : (strI (j : Int)).length + (" end" : Str).length ≤ 10000000 := a1'
          simp -implicitDefEqProofs [lc, b, at1, hin, a1', en', a2, l1, a3, eL, hlt]
        | false =>
          have en' : strI (j : Int) ++ Str.empty = NN := en
          have a1' : (strI (j : Int)).length + Str.empty.length ≤ 10000000 := a1'
          simp -implicitDefEqProofs [lc, b, at1, hin, a1', en', a2, l1, a3, eL, hlt]
      · rw [hls]
        exact (take_lines hrj).symm)
    ⟨[], none, none, none, none, none, rfl, rfl, .inl rfl, .inl rfl⟩
  obtain ⟨ls, x2, x3, x4, x5, x6, rfl, hls, _, _⟩ := h2
  rw [rangeD_len, Nat.zero_add, List.take_of_length_le (by rw [tLines_len]; omega)] at hls
  have src : srcR1 (eN (c1 lenD) [(.ex (e2 ixS (.sl 0) (.ex (eC (.int 0)))))]) [some (false, tM rows ends), some (true, .lst []), none, none, none, none, none] = some (rangeD 0 m, [some (false, tM rows ends), some (true, .lst []), none, none, none, none, none]) := srcR1_nat (fr := false) (by simp -implicitDefEqProofs [tM, hl]) (by omega)
  have ok := lines_ok (ends := ends) hm hl h.row
  have hj := join_ok ok_nl ok (l := tLines 0 rows ends) (by rw [tLines_len]; omega)
  rw [← hls] at hj
  unfold tMach
  rw [← hls]
  simp -implicitDefEqProofs only [c__law_said_machine, b__law_said_machine]
  generalize hs : srcR1 _ = F at src
  generalize tM rows ends = TM at *
  simp -implicitDefEqProofs [src, h1, hj]
theorem enD_rows {rows : List (List Stp1)} : enD 0 (rows.map tR) = enD 0 (rows.map tR) := rfl
theorem v_show_machine {m : Nat} {rows : List (List Stp1)} {ends : List Int} (hm : m ≤ 200) (h : MachOk m rows ends) : c_show_machine [tM rows ends] = some ((false, .str (tMach rows ends)), []) := by
  have hl := h.len
  obtain ⟨env', h1, h2⟩ := fl_keep (T := tTplA 2 (tsCons (tName 4) (tsCons (tName 5) tsNil))) (f := fb1_show_machine) (fun j env => ∃ (ls : List Str) (x4 x5 x6 x7 x8 : Option (Bool × PI.D)), env = [some (false, tM rows ends), some (false, .tup (rows.map tR)), some (false, .tup (zL ends)), some (true, .lst (ls.map PI.D.str)), x4, x5, x6, x7, x8] ∧ ls = (tLines 0 rows ends).take j ∧ NO x7 ∧ NO x8) (enD 0 (rows.map tR)) 0 [some (false, tM rows ends), some (false, .tup (rows.map tR)), some (false, .tup (zL ends)), some (true, .lst []), none, none, none, none, none]
    (fun j d env hd hr => by
      obtain ⟨ls, x4, x5, x6, x7, x8, rfl, hls, n7, n8⟩ := hr
      rw [enD_get, Nat.zero_add, List.getElem?_map] at hd
      obtain ⟨d0, hd0, rfl⟩ := Option.map_eq_some_iff.mp hd
      obtain ⟨r, hrj, rfl⟩ := Option.map_eq_some_iff.mp hd0
      have hj : j < m := by rw [← hl]; exact (List.getElem?_eq_some_iff.mp hrj).1
      rw [Nat.zero_add] at hls ⊢
      have hr := h.row r (List.mem_of_getElem? hrj)
      obtain ⟨ok, hlen, ol⟩ := steps_ok hm hr
      have l1 := v_listed (m := 12) ok_cs ok hlen (by decide)
      rw [← map_comp PI.D.str tStep r] at l1
      have lc := lc_show_row hm hr (x0 := some (false, tM rows ends)) (x1 := some (false, .tup (rows.map tR))) (x2 := some (false, .tup (zL ends))) (x3 := some (true, .lst (ls.map PI.D.str))) (x4 := some (false, .int (j : Int))) (x6 := some (false, .str (tName_ (j : Int) ends))) n7 n8
      have b : j.log2 < 1920 := log_nat (i := j) (by omega)
      have a1 : ∀ C, (strI (j : Int)).length + (tEnd C).length ≤ 10000000 := fun C => app_le (idx_ok (by omega)) (end_ok C) (by decide)
      have a2 := app_le (name_ok (i := j) (by omega) ends) ok_col (by decide)
      have a3 := app_le ((name_ok (i := j) (by omega) ends).app ok_col) ol (by decide)
      have hlt : ls.length < 1000000 := by rw [hls, List.length_take]; omega
      refine ⟨[some (false, tM rows ends), some (false, .tup (rows.map tR)), some (false, .tup (zL ends)), some (true, .lst ((ls ++ [tLine (j : Int) r ends]).map PI.D.str)), some (false, .int (j : Int)), some (false, tR r), some (false, .str (tName_ (j : Int) ends)), x7, x8], ?_, ls ++ [tLine (j : Int) r ends], _, _, _, _, _, rfl, ?_, n7, n8⟩
      · generalize hE : eLc _ _ _ _ = F at lc
        generalize hM : (fun p => PI.D.str (tStep p)) = M at *
        have hin : inX false (.int (j : Int)) (.tup (zL ends)) = some (false, .bl (ends.contains (j : Int))) := q_inF
        have en : strI (j : Int) ++ tEnd (ends.contains (j : Int)) = tName_ (j : Int) ends := rfl
        have eL : tName_ (j : Int) ends ++ (" : " : Str) ++ lstT (r.map tStep) ", " = tLine (j : Int) r ends := rfl
        generalize tM rows ends = TM at *
        generalize hn : tName_ (j : Int) ends = NN at *
        generalize hq : lstT (r.map tStep) ", " = LL at *
        generalize tLine (j : Int) r ends = TL' at *
        generalize rows.map tR = TR at *
        cases hC : ends.contains (j : Int) with
        | true =>
          rw [hC] at hin en
          have en' : strI (j : Int) ++ (" end" : Str) = NN := en
          have a1' : (strI (j : Int)).length + (" end" : Str).length ≤ 10000000 := a1 true
          simp -implicitDefEqProofs only [fb1_show_machine]
          rw [hE]
          simp -implicitDefEqProofs [lc, b, hin, a1', en', a2, l1, a3, eL, hlt]
        | false =>
          rw [hC] at hin en
          have en' : strI (j : Int) ++ ("" : Str) = NN := en
          have a1' : (strI (j : Int)).length + ("" : Str).length ≤ 10000000 := a1 false
          simp -implicitDefEqProofs only [fb1_show_machine]
          rw [hE]
          simp -implicitDefEqProofs [lc, b, hin, a1', en', a2, l1, a3, eL, hlt]
      · rw [hls]
        exact (take_lines hrj).symm)
    ⟨[], none, none, none, none, none, rfl, rfl, .inl rfl, .inl rfl⟩
  obtain ⟨ls, x4, x5, x6, x7, x8, rfl, hls, _, _⟩ := h2
  rw [enD_len, List.length_map, Nat.zero_add, List.take_of_length_le (by rw [tLines_len]; omega)] at hls
  have ok := lines_ok (ends := ends) hm hl h.row
  have hj := join_ok ok_nl ok (l := tLines 0 rows ends) (by rw [tLines_len]; omega)
  rw [← hls] at hj
  have e0 : tTplA 2 (tsCons (tName 1) (tsCons (tName 2) tsNil)) (tM rows ends) [some (false, tM rows ends), none, none, none, none, none, none, none, none] = some [some (false, tM rows ends), some (false, .tup (rows.map tR)), some (false, .tup (zL ends)), none, none, none, none, none, none] := rfl
  unfold tMach
  rw [← hls]
  generalize tM rows ends = TM at *
  generalize rows.map tR = TR at *
  simp -implicitDefEqProofs [c_show_machine, b_show_machine, e0, h1, hj]
end Wk

namespace Wk
open PySem PySem.Spec PyProof.Rows L2 PI
/-! ### sayings -/
theorem lit1 : OkS 7 ("(list [" : Str) := okLit (by decide +kernel)
theorem lit2 : OkS 2 ("])" : Str) := okLit (by decide +kernel)
theorem lit3 : OkS 8 ("(sorted " : Str) := okLit (by decide +kernel)
theorem lit4 : OkS 1 (")" : Str) := okLit (by decide +kernel)
theorem lit5 : OkS 1 ("(" : Str) := okLit (by decide +kernel)
theorem ok_sorters {x : Str} (h : x ∈ sorters4) : OkS 6 x := by
  have key : (sorters4.all fun x => decide (x.length ≤ 6) && (tl x).all fun c => decide (c < 128)) = true := by decide +kernel
  exact okLit (List.all_eq_true.mp key x h)
theorem ok_ones {x : Str} (h : x ∈ ones3) : OkS 8 x ∧ x ≠ "list" ∧ x ≠ "sorted" := by
  have key : (ones3.all fun x => (decide (x.length ≤ 8) && (tl x).all fun c => decide (c < 128)) && (decide (x ≠ "list") && decide (x ≠ "sorted"))) = true := by decide +kernel
  have h2 := List.all_eq_true.mp key x h
  obtain ⟨h3, h4⟩ := Bool.and_eq_true_iff.mp h2
  obtain ⟨h5, h6⟩ := Bool.and_eq_true_iff.mp h4
  exact ⟨okLit h3, of_decide_eq_true h5, of_decide_eq_true h6⟩
theorem ok_twos {x : Str} (h : x ∈ twos2) : OkS 8 x ∧ x ≠ "list" ∧ x ≠ "sorted" := by
  have key : (twos2.all fun x => (decide (x.length ≤ 8) && (tl x).all fun c => decide (c < 128)) && (decide (x ≠ "list") && decide (x ≠ "sorted"))) = true := by decide +kernel
  have h2 := List.all_eq_true.mp key x h
  obtain ⟨h3, h4⟩ := Bool.and_eq_true_iff.mp h2
  obtain ⟨h5, h6⟩ := Bool.and_eq_true_iff.mp h4
  exact ⟨okLit h3, of_decide_eq_true h5, of_decide_eq_true h6⟩
theorem join2 {n m k : Nat} {z x y : Str} (hz : OkS k z) (hx : OkS n x) (hy : OkS m y) : OkS (n + k + m) (Txt.join z [x, y]) := by
  have e : tl (Txt.join z [x, y]) = tl x ++ (tl z ++ tl y) := by
    rw [TL.join_eq]
    exact TL.tl_join z [x, y]
  refine ⟨?_, fun c hc => ?_⟩
  · rw [TL.len_tl]
    show (tl (Txt.join z [x, y])).length ≤ _
    rw [e, List.length_append, List.length_append]
    have := hx.1
    have := hy.1
    have := hz.1
    rw [TL.len_tl] at *
    show (TL.tl x).length + ((TL.tl z).length + (TL.tl y).length) ≤ n + k + m
    omega
  · rw [e] at hc
    rcases List.mem_append.mp hc with hc | hc
    · exact hx.2 c hc
    · rcases List.mem_append.mp hc with hc | hc
      · exact hz.2 c hc
      · exact hy.2 c hc
theorem join3 {n m p k : Nat} {z x y u : Str} (hz : OkS k z) (hx : OkS n x) (hy : OkS m y) (hu : OkS p u) : OkS (n + k + (m + k + p)) (Txt.join z [x, y, u]) := by
  have h2 := join2 hz hy hu
  have e : tl (Txt.join z [x, y, u]) = tl x ++ (tl z ++ tl (Txt.join z [y, u])) := by
    rw [TL.join_eq, TL.join_eq]
    show TL.tl _ = TL.tl x ++ (TL.tl z ++ TL.tl _)
    rw [TL.tl_join, TL.tl_join]
    rfl
  refine ⟨?_, fun c hc => ?_⟩
  · rw [TL.len_tl]
    show (tl (Txt.join z [x, y, u])).length ≤ _
    rw [e, List.length_append, List.length_append]
    have := hx.1
    have := h2.1
    have := hz.1
    rw [TL.len_tl] at *
    show (TL.tl x).length + ((TL.tl z).length + (TL.tl (Txt.join z [y, u])).length) ≤ _
    omega
  · rw [e] at hc
    rcases List.mem_append.mp hc with hc | hc
    · exact hx.2 c hc
    · rcases List.mem_append.mp hc with hc | hc
      · exact hz.2 c hc
      · exact h2.2 c hc
theorem leaves_pos : ∀ s : Say, 1 ≤ leaves s
  | .list _ => Nat.le_refl _
  | .sorted _ => Nat.le_refl _
  | .one _ s => leaves_pos s
  | .two _ s t => by
    have := leaves_pos s
    show 1 ≤ leaves s + leaves t
    omega
theorem tSay_ok : ∀ {s : Say}, SayOk s → OkS (leaves s * (2700 + 20 * deep s)) (tSay s)
  | .list ps, h => ((lit1.app (tList_ok h.1 h.2)).app lit2).mono (by show _ ≤ 1 * (2700 + 20 * 1); omega)
  | .sorted x, h => ((lit3.app (ok_sorters h)).app lit4).mono (by show _ ≤ 1 * (2700 + 20 * 1); omega)
  | .one w s, h => by
    have h1 := tSay_ok h.2
    refine ((lit5.app (join2 ok_sp (ok_ones h.1).1 h1)).app lit4).mono ?_
    show _ ≤ leaves s * (2700 + 20 * (deep s + 1))
    have := leaves_pos s
    have e : leaves s * (2700 + 20 * (deep s + 1)) = leaves s * (2700 + 20 * deep s) + leaves s * 20 := by
      rw [Nat.mul_add 20, ← Nat.add_assoc, Nat.mul_add (leaves s) (2700 + 20 * deep s)]
    rw [e]
    omega
  | .two w s t, h => by
    have h1 := tSay_ok h.2.1
    have h2 := tSay_ok h.2.2
    refine ((lit5.app (join3 ok_sp (ok_twos h.1).1 h1 h2)).app lit4).mono ?_
    show _ ≤ (leaves s + leaves t) * (2700 + 20 * (max (deep s) (deep t) + 1))
    have p1 := leaves_pos s
    have p2 := leaves_pos t
    have e1 : leaves s * (2700 + 20 * deep s) ≤ leaves s * (2700 + 20 * max (deep s) (deep t)) := Nat.mul_le_mul_left _ (by omega)
    have e2 : leaves t * (2700 + 20 * deep t) ≤ leaves t * (2700 + 20 * max (deep s) (deep t)) := Nat.mul_le_mul_left _ (by omega)
    have e3 : (leaves s + leaves t) * (2700 + 20 * (max (deep s) (deep t) + 1)) = leaves s * (2700 + 20 * max (deep s) (deep t)) + leaves t * (2700 + 20 * max (deep s) (deep t)) + (leaves s + leaves t) * 20 := by
      rw [Nat.mul_add 20, ← Nat.add_assoc, Nat.mul_add (leaves s + leaves t), Nat.add_mul]
    rw [e3]
    omega
theorem tSay_le {s : Say} (h : SayOk s) (hd : deep s ≤ 12) (hl : leaves s ≤ 30) : OkS 90000 (tSay s) := (tSay_ok h).mono (by
  have : leaves s * (2700 + 20 * deep s) ≤ 30 * (2700 + 20 * 12) := Nat.mul_le_mul hl (by omega)
  omega)
/-- parts of a saying -/
def parts : Say → List Say
  | .one _ s => [s]
  | .two _ s t => [s, t]
  | _ => []
theorem small_add {a b : Nat} (h : a + b ≤ 1000) : a + b ≤ 1000000 := by omega
theorem lc_parts {c : Cal} {w : Str} {ss : List Say} (hs : ss.length ≤ 10) (h : ∀ s ∈ ss, c [encS s] = some ((false, .str (tSay s)), [])) :
    eLc (srcC (srcA (eSl slS (.sl 0) (some (eC (.int 1))) none))) (tName 1) eYes (le1__law_said_saying c) [1] [some (false, .tup (.str w :: ss.map encS)), none] = some ((true, .lst ((ss.map tSay).map PI.D.str)), [some (false, .tup (.str w :: ss.map encS)), none]) := by
  have hm := lcl_map (T := tName 1) (c := eYes) (f := le1__law_said_saying c) (vs := [1]) (env := [some (false, .tup (.str w :: ss.map encS)), none]) (enc := encS) (g := fun s => .str (tSay s)) rfl ss fun a ha =>
    ⟨_, false, _, false, [some (false, .tup (.str w :: ss.map encS)), some (false, encS a)], rfl, rfl, by simp -implicitDefEqProofs [le1__law_said_saying, h a ha], rfl⟩
  have cd : cutD (.str w :: ss.map encS) (some 1) none = ss.map encS := cut1_
  have src : srcC (srcA (eSl slS (.sl 0) (some (eC (.int 1))) none)) [some (false, .tup (.str w :: ss.map encS)), none] = some (ss.map encS, [some (false, .tup (.str w :: ss.map encS)), none], none) := by
    simp -implicitDefEqProofs [srcC, srcA]
  unfold eLc
  rw [src]
  show (if (ss.map encS).length < 1000000 then _ else none) = _
  rw [List.length_map, if_pos (by omega)]
  show (lcl _ _ _ _ (ss.map encS) _).bind _ = _
  rw [hm, List.map_map]
  rfl
theorem v_said_parts (n : Nat) {w : Str} {ss : List Say} (hs : ss.length ≤ 10) (n1 : w ≠ "list") (n2 : w ≠ "sorted") (ih : ∀ s ∈ ss, c__law_said_saying n [encS s] = some ((false, .str (tSay s)), []) ∧ c_show_saying n [encS s] = some ((false, .str (tSay s)), []))
    (hj : joinB " " (w :: ss.map tSay) = true) (a1 : ("(" : Str).length + (Txt.join " " (w :: ss.map tSay)).length ≤ 10000000) (a2 : (("(" : Str) ++ Txt.join " " (w :: ss.map tSay)).length + (")" : Str).length ≤ 10000000) :
    c__law_said_saying (n + 1) [.tup (.str w :: ss.map encS)] = some ((false, .str (("(" : Str) ++ Txt.join " " (w :: ss.map tSay) ++ (")" : Str))), []) ∧ c_show_saying (n + 1) [.tup (.str w :: ss.map encS)] = some ((false, .str (("(" : Str) ++ Txt.join " " (w :: ss.map tSay) ++ (")" : Str))), []) := by
  have hl : 1 + ss.length ≤ 1000000 := by omega
  constructor
  · show runB _ _ (b__law_said_saying (c__law_said_saying n)) _ = _
    have lc := lc_parts (w := w) hs fun s h => (ih s h).1
    generalize c__law_said_saying n = c at *
    simp -implicitDefEqProofs only [b__law_said_saying]
    generalize eLc _ _ _ _ _ = F at lc
    generalize hT : ss.map encS = T at *
    have e1 : (ss.map tSay).map PI.D.str = ss.map fun s => PI.D.str (tSay s) := by rw [List.map_map]; rfl
    have e2 : toStrs (PI.D.str w :: (ss.map tSay).map PI.D.str) = some (w :: ss.map tSay) := toStrs_map (w :: ss.map tSay)
    generalize hU : (ss.map tSay).map PI.D.str = U at *
    have hUl : U.length = ss.length := by rw [← hU, List.length_map, List.length_map]
    simp -implicitDefEqProofs [n1, n2, lc, hUl, hl, e2, hj, a1, a2]
  · show runB _ _ (b_show_saying (c_show_saying n)) _ = _
    have lc := lc_parts (w := w) hs fun s h => (ih s h).2
    generalize c_show_saying n = c at *
    have lc : eLc (srcC (srcA (eSl slS (.sl 0) (some (eC (.int 1))) none))) (tName 1) eYes (le1_show_saying c) [1] _ = _ := lc
    simp -implicitDefEqProofs only [b_show_saying]
    generalize eLc _ _ _ _ _ = F at lc
    generalize hT : ss.map encS = T at *
    have e2 : toStrs (PI.D.str w :: (ss.map tSay).map PI.D.str) = some (w :: ss.map tSay) := toStrs_map (w :: ss.map tSay)
    generalize hU : (ss.map tSay).map PI.D.str = U at *
    have hUl : U.length = ss.length := by rw [← hU, List.length_map, List.length_map]
    simp -implicitDefEqProofs [n1, n2, lc, hUl, hl, e2, hj, a1, a2]
theorem v_said_saying : ∀ (n : Nat) {s : Say}, SayOk s → deep s ≤ n → deep s ≤ 12 → leaves s ≤ 30 → c__law_said_saying n [encS s] = some ((false, .str (tSay s)), []) ∧ c_show_saying n [encS s] = some ((false, .str (tSay s)), [])
  | 0, s, _, h, _, _ => by cases s <;> simp [deep] at h
  | n + 1, .list ps, h, hd, _, _ => by
    have hl := v_said_list h.1 h.2
    have o := tList_ok h.1 h.2
    have a1 := app_le lit1 o (by decide)
    have a2 := app_le (lit1.app o) lit2 (by decide)
    have e : tSay (.list ps) = ("(list [" : Str) ++ tList ps ++ ("])" : Str) := rfl
    rw [e]
    constructor
    · show runB _ _ (b__law_said_saying (c__law_said_saying n)) _ = _
      simp -implicitDefEqProofs [b__law_said_saying, encS, hl.1, a1, a2]
    · show runB _ _ (b_show_saying (c_show_saying n)) _ = _
      simp -implicitDefEqProofs [b_show_saying, encS, hl.2, a1, a2]
  | n + 1, .sorted x, h, hd, _, _ => by
    have o := ok_sorters h
    have a1 := app_le lit3 o (by decide)
    have a2 := app_le (lit3.app o) lit4 (by decide)
    have e : tSay (.sorted x) = ("(sorted " : Str) ++ x ++ (")" : Str) := rfl
    have n1 : ("sorted" : Str) ≠ "list" := by decide +kernel
    rw [e]
    constructor
    · show runB _ _ (b__law_said_saying (c__law_said_saying n)) _ = _
      simp -implicitDefEqProofs [b__law_said_saying, encS, n1, a1, a2]
    · show runB _ _ (b_show_saying (c_show_saying n)) _ = _
      simp -implicitDefEqProofs [b_show_saying, encS, n1, a1, a2]
  | n + 1, .one w s, h, hd, h12, hl => by
    have hd : deep s + 1 ≤ n + 1 := hd
    have h12 : deep s + 1 ≤ 12 := h12
    have hl : leaves s ≤ 30 := hl
    obtain ⟨ow, n1, n2⟩ := ok_ones h.1
    have ih := v_said_saying n h.2 (by omega) (by omega) hl
    have os := tSay_le h.2 (by omega) hl
    have oj := join2 ok_sp ow os
    have hj : joinB " " [w, tSay s] = true := join_ok (n := 90000) ok_sp (fun x hx => by
      rcases List.mem_cons.mp hx with rfl | hx
      · exact ow.mono (by omega)
      · rw [List.mem_singleton.mp hx]
        exact os) (by show 2 * (90000 + 1) ≤ 16777216; decide)
    exact v_said_parts n (ss := [s]) (by simp) n1 n2 (fun t ht => by rw [List.mem_singleton.mp ht]; exact ih) hj (app_le lit5 oj (by decide)) (app_le (lit5.app oj) lit4 (by decide))
  | n + 1, .two w s t, h, hd, h12, hl => by
    have hd : max (deep s) (deep t) + 1 ≤ n + 1 := hd
    have h12 : max (deep s) (deep t) + 1 ≤ 12 := h12
    have hl : leaves s + leaves t ≤ 30 := hl
    obtain ⟨ow, n1, n2⟩ := ok_twos h.1
    have ih1 := v_said_saying n h.2.1 (by omega) (by omega) (by omega)
    have ih2 := v_said_saying n h.2.2 (by omega) (by omega) (by omega)
    have os := tSay_le h.2.1 (by omega) (by omega)
    have ot := tSay_le h.2.2 (by omega) (by omega)
    have oj := join3 ok_sp ow os ot
    have hj : joinB " " [w, tSay s, tSay t] = true := join_ok (n := 90000) ok_sp (fun x hx => by
      rcases List.mem_cons.mp hx with rfl | hx
      · exact ow.mono (by omega)
      · rcases List.mem_cons.mp hx with rfl | hx
        · exact os
        · rw [List.mem_singleton.mp hx]
          exact ot) (by show 3 * (90000 + 1) ≤ 16777216; decide)
    exact v_said_parts n (ss := [s, t]) (by simp) n1 n2 (fun u hu => by
      rcases List.mem_cons.mp hu with rfl | hu
      · exact ih1
      · rw [List.mem_singleton.mp hu]
        exact ih2) hj (app_le lit5 oj (by decide)) (app_le (lit5.app oj) lit4 (by decide))
end Wk

namespace Wk
open PySem PySem.Spec PyProof.Rows L2 PI
/-! ### numbers -/
theorem strI_neg (m : Nat) : tl (strI (Int.negSucc m)) = 45 :: TL.numL (m + 1) := by
  have e : strI (Int.negSucc m) = Str.ofString ("-" ++ toString ((m + 1 : Nat) : Int)) := rfl
  have e2 := TL.tl_num (m + 1)
  rw [e]
  show TL.tl _ = _
  rw [TL.tl_ofString] at *
  rw [String.toList_append, List.map_append, e2]
  rfl
theorem strI_abs {i : Int} {k : Nat} (hk : 0 < k) (h : i.natAbs < 10 ^ k) : OkS (k + 1) (strI i) := by
  cases i with
  | ofNat n => exact (strI_ok (i := (n : Int)) (by omega) hk (by have h : n < 10 ^ k := h; exact_mod_cast h)).mono (by omega)
  | negSucc m =>
    have h : m + 1 < 10 ^ k := h
    refine ⟨?_, fun c hc => ?_⟩
    · rw [TL.len_tl]
      show (tl (strI (Int.negSucc m))).length ≤ k + 1
      rw [strI_neg, List.length_cons]
      exact Nat.succ_le_succ (TL.numL_len hk h)
    · rw [strI_neg] at hc
      rcases List.mem_cons.mp hc with rfl | hc
      · decide
      · have := TL.numL_digits (m + 1) c hc
        omega
def tNum (a b : Int) : Str := if b = 1 then strI a else strI a ++ "/" ++ strI b
structure NumOk (a b : Int) : Prop where
  a : a.natAbs ≤ 10 ^ 301
  b : b.natAbs ≤ 10 ^ 301
theorem ten_lt : (10 : Nat) ^ 301 < 10 ^ 302 ∧ (10 : Nat) ^ 301 < 2 ^ 1900 := ⟨Nat.pow_lt_pow_right (by decide) (by decide), by decide +kernel⟩
theorem num_small {i : Int} (h : i.natAbs ≤ 10 ^ 301) : OkS 303 (strI i) ∧ i.natAbs.log2 < 1920 := ⟨strI_abs (by decide) (Nat.lt_of_le_of_lt h ten_lt.1), log_small (Nat.lt_of_le_of_lt h ten_lt.2)⟩
theorem ok_sla : OkS 1 ("/" : Str) := okLit (by decide +kernel)
theorem tNum_ok {a b : Int} (h : NumOk a b) : OkS 700 (tNum a b) := by
  unfold tNum
  split
  · exact (num_small h.a).1.mono (by omega)
  · exact (((num_small h.a).1.app ok_sla).app (num_small h.b).1).mono (by omega)
theorem v_show_number {a b : Int} (h : NumOk a b) : c_show_number [.tup [.int a, .int b]] = some ((false, .str (tNum a b)), []) := by
  obtain ⟨o1, l1⟩ := num_small h.a
  obtain ⟨o2, l2⟩ := num_small h.b
  have a1 := app_le o1 ok_sla (by decide)
  have a2 := app_le (o1.app ok_sla) o2 (by decide)
  by_cases c : b = 1
  · subst c
    have e : tNum a 1 = strI a := if_pos rfl
    rw [e]
    simp -implicitDefEqProofs [c_show_number, b_show_number, l1]
  · have e : tNum a b = strI a ++ "/" ++ strI b := if_neg c
    have c' : (b == 1) = false := beq_eq_false_iff_ne.mpr c
    rw [e]
    simp -implicitDefEqProofs [c_show_number, b_show_number, c', l1, l2, a1, a2]
theorem bts_pow {x : Int} {n : Nat} (h : x.natAbs < 2 ^ n) : bts x ≤ n := PyProof.Rows.intBits_le h
theorem v_power {n : Nat} (hn : n ≤ 300) : c__law_power [.int (n : Int)] = some ((false, .int ((10 ^ n : Nat) : Int)), []) := by
  obtain ⟨env', h1, h2⟩ := fl_keep (T := tName 2) (f := fb1__law_power) (fun j env => ∃ (x : Option (Bool × PI.D)), env = [some (false, .int (n : Int)), some (false, .int ((10 ^ j : Nat) : Int)), x]) (rangeD 0 n) 0 [some (false, .int (n : Int)), some (false, .int 1), none]
    (fun j d env hd hr => by
      obtain ⟨x, rfl⟩ := hr
      have hj : j < n := by
        have := (List.getElem?_eq_some_iff.mp hd).1
        rw [rangeD_len] at this
        exact this
      rw [Nat.zero_add]
      have hm : mulB ((10 ^ j : Nat) : Int) 10 = true := by
        refine mul_ok (Nat.le_trans (bts_pow (n := 1900) ?_) (by decide)) (by decide)
        rw [Int.natAbs_natCast]
        exact Nat.lt_of_le_of_lt (Nat.pow_le_pow_right (by decide) (by omega : j ≤ 301)) ten_lt.2
      have e : ((10 ^ (j + 1) : Nat) : Int) = ((10 ^ j : Nat) : Int) * 10 := by rw [Nat.pow_succ]; exact Int.natCast_mul _ _
      refine ⟨_, ?_, some (false, d), rfl⟩
      rw [e]
      generalize ((10 ^ j : Nat) : Int) = y at *
      simp -implicitDefEqProofs [fb1__law_power, hm]) ⟨none, rfl⟩
  obtain ⟨x, rfl⟩ := h2
  rw [rangeD_len, Nat.zero_add] at h1
  have src : srcR1 (eVar 0) [some (false, .int (n : Int)), some (false, .int 1), none] = some (rangeD 0 n, [some (false, .int (n : Int)), some (false, .int 1), none]) := srcR1_nat (fr := false) rfl (by omega)
  generalize ((10 ^ n : Nat) : Int) = y at *
  simp -implicitDefEqProofs only [c__law_power, b__law_power]
  generalize hs : srcR1 _ = F at src
  simp -implicitDefEqProofs [src, h1]
theorem w_lowest (t b : Option (Bool × PI.D)) : ∀ (m k : Nat) (one two : Int), 0 ≤ one → 0 ≤ two → 0 < one + two → two < 2 ^ m → 2 * m + 1 < k → ∃ g : Int, 0 < g ∧ (g ≤ one + two) ∧ wl wc1__law_lowest wb1__law_lowest k [t, b, some (false, .int one), some (false, .int two)] = some (.nx, [t, b, some (false, .int g), some (false, .int 0)]) := by
  have stop : ∀ (k : Nat) (one : Int), 0 < k → wl wc1__law_lowest wb1__law_lowest k [t, b, some (false, .int one), some (false, .int 0)] = some (.nx, [t, b, some (false, .int one), some (false, .int 0)]) := fun k one hk => by
    cases k with
    | zero => omega
    | succ k => exact wl_false (fr := false) (by simp [wc1__law_lowest])
  have go : ∀ (k : Nat) (one two : Int), 0 < two → wl wc1__law_lowest wb1__law_lowest (k + 1) [t, b, some (false, .int one), some (false, .int two)] = wl wc1__law_lowest wb1__law_lowest k [t, b, some (false, .int two), some (false, .int (one % two))] := fun k one two h => by
    have c : (two == 0) = false := beq_eq_false_iff_ne.mpr (by omega)
    exact wl_true (fr := false) (e := [t, b, some (false, .int one), some (false, .int two)]) (by simp [wc1__law_lowest, c]) (by simp [wb1__law_lowest, mod_ok h])
  intro m
  induction m with
  | zero =>
    intro k one two h1 h2 h3 h4 hk
    have e : two = 0 := by omega
    subst e
    exact ⟨one, by omega, by omega, stop k one (by omega)⟩
  | succ m ih =>
    intro k one two h1 h2 h3 h4 hk
    by_cases c : two = 0
    · subst c
      exact ⟨one, by omega, by omega, stop k one (by omega)⟩
    · obtain ⟨k, rfl⟩ : ∃ j, k = j + 1 := ⟨k - 1, by omega⟩
      rw [go k one two (by omega)]
      have r0 := Int.emod_nonneg one c
      have r1 := Int.emod_lt_of_pos one (by omega : 0 < two)
      generalize one % two = r at *
      by_cases c2 : r = 0
      · subst c2
        exact ⟨two, by omega, by omega, stop k two (by omega)⟩
      · obtain ⟨k, rfl⟩ : ∃ j, k = j + 1 := ⟨k - 1, by omega⟩
        rw [go k two r (by omega)]
        have s0 := Int.emod_nonneg two c2
        have s1 := Int.emod_lt_of_pos two (by omega : 0 < r)
        have s2 : two % r ≤ two - r := by
          have := Int.emod_add_mul_ediv two r
          have h5 : 1 ≤ two / r := Int.le_ediv_of_mul_le (by omega) (by omega)
          have h6 : r * 1 ≤ r * (two / r) := Int.mul_le_mul_of_nonneg_left h5 (by omega)
          omega
        have e2 : (2 : Int) ^ (m + 1) = 2 ^ m * 2 := Int.pow_succ ..
        rw [e2] at h4
        generalize two % r = s at *
        generalize (2 : Int) ^ m = Z at *
        obtain ⟨g, g1, g2, g3⟩ := ih k r s (by omega) s0 (by omega) (by omega) (by omega)
        exact ⟨g, g1, by omega, g3⟩
theorem div_abs {a g : Int} (hg : 0 < g) : (a / g).natAbs ≤ a.natAbs + 1 := by
  have h1 := Int.emod_add_mul_ediv a g
  have h2 := Int.emod_nonneg a (by omega : g ≠ 0)
  have h3 := Int.emod_lt_of_pos a hg
  by_cases c : 0 ≤ a
  · have := Int.ediv_le_self g c
    have := Int.ediv_nonneg c (by omega : 0 ≤ g)
    omega
  · have h4 : a / g < 0 := Int.ediv_neg_of_neg_of_pos (by omega) hg
    have h5 : (-(a / g) - 1) * 1 ≤ (-(a / g) - 1) * g := Int.mul_le_mul_of_nonneg_left (by omega) (by omega)
    have e : (-(a / g) - 1) * g = -(g * (a / g)) - g := by rw [Int.sub_mul, Int.neg_mul, Int.one_mul, Int.mul_comm]
    rw [e] at h5
    generalize g * (a / g) = z at *
    omega
theorem v_lowest {a b : Int} (ha : a.natAbs ≤ 10 ^ 300) (hb : 0 < b) (hb2 : b ≤ 10 ^ 300) : ∃ x y, c__law_lowest [.int a, .int b] = some ((false, .tup [.int x, .int y]), []) ∧ NumOk x y := by
  have t1 : (10 : Int) ^ 300 < 2 ^ 1000 := by decide +kernel
  have t2 : (10 : Nat) ^ 300 + 1 ≤ 10 ^ 301 := by decide +kernel
  have t3 : ((10 : Int) ^ 300) = ((10 ^ 300 : Nat) : Int) := by decide +kernel
  have t4 : 2 * (10 : Nat) ^ 300 < 2 ^ 1900 := by decide +kernel
  obtain ⟨g, g1, g2, g3⟩ := w_lowest (some (false, .int a)) (some (false, .int b)) 1000 1000000 (if a < 0 then -a else a) b (by split <;> omega) (by omega) (by split <;> omega) (by omega) (by decide)
  have hg : bts g ≤ 8000 := Nat.le_trans (bts_pow (n := 1900) (by
    generalize (10 : Nat) ^ 300 = Z at *
    have : g ≤ (a.natAbs : Int) + b := by
      split at g2 <;> omega
    omega)) (by decide)
  have da := div_bits (a := a) g1 hg
  have db := div_bits (a := b) g1 hg
  refine ⟨a / g, b / g, ?_, ⟨?_, ?_⟩⟩
  · simp -implicitDefEqProofs [c__law_lowest, b__law_lowest, sWhile, g3, da, db]
  · have := div_abs (a := a) g1
    omega
  · have := div_abs (a := b) g1
    omega
theorem v_number {k : Int} {ws : List PI.D} (hw : Wl k ws) (hk : k < 100000) (h0 : 0 ≤ k) : ∃ x y ws', c__law_number [.lst ws] = some ((false, .tup [.int x, .int y]), [.lst ws']) ∧ NumOk x y ∧ Wl (k + 10) ws' := by
  obtain ⟨r, ws1, a1, a2, a3⟩ := v_dm (m := 3) hw (by omega) (by omega) (by omega)
  obtain ⟨x, e1, e0, e2⟩ := at_nats (l := [2, 9, 299]) (r := (r : Int)) (n := 3) (b := 299) (by omega) (by omega) rfl (by decide)
  have e1' : [PI.D.int 2, .int 9, .int 299][r]? = some (.int (x : Int)) := by rw [← z_atn]; exact e1
  have hx : 1 ≤ x := by
    simp only [List.mem_cons, List.not_mem_nil, or_false] at e0
    omega
  obtain ⟨q, ws2, b1, b2, b3⟩ := v_dr (n := x) a3 (by omega) (by omega) (by omega)
  have hp := v_power (n := 1 + q) (by omega)
  have eq1 : ((1 + q : Nat) : Int) = 1 + (q : Int) := by omega
  rw [eq1] at hp
  have hg : ((10 ^ (1 + q) : Nat) : Int) ≤ 10 ^ 299 := by
    have := Nat.pow_le_pow_right (n := 10) (by decide) (show 1 + q ≤ 299 by omega)
    have e : ((10 ^ 299 : Nat) : Int) = 10 ^ 299 := by decide +kernel
    rw [← e]
    exact Int.ofNat_le.mpr this
  have hg0 : (0 : Int) < ((10 ^ (1 + q) : Nat) : Int) := Int.natCast_pos.mpr (Nat.pow_pos (by decide))
  have t1 : (10 : Int) ^ 299 * 2 < 10 ^ 300 := by decide +kernel
  have t3 : ((10 : Int) ^ 300) = ((10 ^ 300 : Nat) : Int) := by decide +kernel
  have t4 : (10 : Int) ^ 300 < 2 ^ 1900 := by decide +kernel
  have t5 : ((2 : Int) ^ 1900) = ((2 ^ 1900 : Nat) : Int) := by decide +kernel
  generalize ((10 ^ (1 + q) : Nat) : Int) = G at *
  have bG : bts G ≤ 8000 := Nat.le_trans (bts_pow (n := 1900) (by omega)) (by decide)
  have b2G : bts (2 * G) ≤ 8000 := Nat.le_trans (bts_pow (n := 1900) (by omega)) (by decide)
  have m2 : mulB 2 G = true := decide_eq_true (by
    have : bts 2 ≤ 100 := bts_pow (by decide)
    omega)
  obtain ⟨t, ws3, c1, c2, c3, c4⟩ := v_draw (many := 2 * G) b3 (by omega) (by omega) b2G
  obtain ⟨u, ws4, d1, d2, d3, d4⟩ := v_draw (many := G) c4 (by omega) hg0 bG
  obtain ⟨s, ws5, f1, f2, f3⟩ := v_dm (m := 2) d4 (by omega) (by omega) (by omega)
  obtain ⟨w, g1, g0⟩ := at_mem (l := [PI.D.int 0, .int u]) (r := (s : Int)) (n := 2) (by omega) (by omega) rfl
  obtain ⟨w, rfl, w0, w1⟩ : ∃ i, w = .int i ∧ 0 ≤ i ∧ i < G := by
    simp only [List.mem_cons, List.not_mem_nil, or_false] at g0
    rcases g0 with rfl | rfl
    · exact ⟨0, rfl, by omega, hg0⟩
    · exact ⟨u, rfl, d2, d3⟩
  have g1' : [PI.D.int 0, .int u][s]? = some (.int w) := by rw [← z_atn]; exact g1
  obtain ⟨y1, y2, l1, l2⟩ := v_lowest (a := t - G) (b := 1 + w) (by omega) (by omega) (by omega)
  refine ⟨y1, y2, ws5, ?_, l2, f3.mono (by omega)⟩
  simp -implicitDefEqProofs [c__law_number, b__law_number, a1, e1', b1, hp, m2, c1, d1, f1, g1', l1]
end Wk

namespace Wk
open PySem PySem.Spec PyProof.Rows L2 PI
inductive Th where
  | ord (os : List Int) | lst (ps : List (List Int)) | wrd (ps : List (Int × Int)) | mch (rows : List (List Stp1)) (ends : List Int) | say (s : Say) | num (a b : Int)
def Th.dr : Th → Int
  | .ord _ => 0 | .lst _ => 1 | .wrd _ => 2 | .mch _ _ => 3 | .say _ => 4 | .num _ _ => 5
def Th.enc : Th → PI.D
  | .ord os => .tup (zL os) | .lst ps => .tup (ps.map tT) | .wrd ps => .tup (ps.map tP) | .mch rows ends => tM rows ends | .say s => encS s | .num a b => .tup [.int a, .int b]
def Th.txt : Th → Str
  | .ord os => tOrder os | .lst ps => tList ps | .wrd ps => tWord ps | .mch rows ends => tMach rows ends | .say s => tSay s | .num a b => tNum a b
def Th.Ok : Th → Prop
  | .ord os => ∃ n, n ≤ 40 ∧ os.Perm (rng n)
  | .lst ps => ps.length ≤ 20 ∧ ∀ p ∈ ps, Pt 40 p
  | .wrd ps => ps.length ≤ 60 ∧ ∀ p ∈ ps, Lt bigM p
  | .mch rows ends => ∃ m, 1 ≤ m ∧ m ≤ 200 ∧ MachOk m rows ends
  | .say s => SayOk s ∧ deep s ≤ 12 ∧ leaves s ≤ 30
  | .num a b => NumOk a b
theorem Th.txt_ok {t : Th} (h : t.Ok) : OkS 100000 t.txt := by
  cases t with
  | ord os => obtain ⟨n, h1, h2⟩ := h; exact (tOrder_ok h1 h2).mono (by decide)
  | lst ps => exact (tList_ok h.1 h.2).mono (by decide)
  | wrd ps => exact (v_word h.1 h.2).2.2.mono (by decide)
  | mch rows ends =>
    obtain ⟨m, h1, h2, h3⟩ := h
    refine (OkS.join ok_nl (lines_ok (ends := ends) h2 h3.len h3.row)).mono ?_
    rw [tLines_len, h3.len]
    omega
  | say s => exact (tSay_le h.1 h.2.1 h.2.2).mono (by decide)
  | num a b => exact (tNum_ok h).mono (by decide)
theorem v_shown {t : Th} (h : t.Ok) (b : Bool) : c__law_shown [.int t.dr, t.enc, .bl b] = some ((false, .str t.txt), []) := by
  cases t with
  | ord os =>
    obtain ⟨n, h1, h2⟩ := h
    cases b <;> simp -implicitDefEqProofs [c__law_shown, b__law_shown, Th.dr, Th.enc, Th.txt, (v_said_order h1 h2).2]
  | lst ps => cases b <;> simp -implicitDefEqProofs [c__law_shown, b__law_shown, Th.dr, Th.enc, Th.txt, (v_said_list h.1 h.2).2]
  | wrd ps => cases b <;> simp -implicitDefEqProofs [c__law_shown, b__law_shown, Th.dr, Th.enc, Th.txt, (v_word h.1 h.2).2.1]
  | mch rows ends =>
    obtain ⟨m, h1, h2, h3⟩ := h
    cases b <;> simp -implicitDefEqProofs [c__law_shown, b__law_shown, Th.dr, Th.enc, Th.txt, v_show_machine h2 h3]
  | say s => cases b <;> simp -implicitDefEqProofs [c__law_shown, b__law_shown, Th.dr, Th.enc, Th.txt, (v_said_saying 12 h.1 h.2.1 h.2.1 h.2.2).2]
  | num a b' => cases b <;> simp -implicitDefEqProofs [c__law_shown, b__law_shown, Th.dr, Th.enc, Th.txt, v_show_number h]
theorem v_same (x : Str) : c__law_same 1 [.str x, .str x] = some ((false, .bl true), []) := by
  show runB _ _ (b__law_same (c__law_same 0)) _ = _
  simp -implicitDefEqProofs [b__law_same, isKT]
theorem at_nats2 {l : List PI.D} {r : Nat} {n b : Nat} (h2 : (r : Int) < n) (hn : l.length = n) (hb : ∀ d ∈ l, ∃ x : Nat, d = .int (x : Int) ∧ x ≤ b) : ∃ x : Nat, l[r]? = some (.int (x : Int)) ∧ PI.D.int (x : Int) ∈ l ∧ x ≤ b := by
  obtain ⟨d, e1, e2⟩ := at_mem (l := l) (r := (r : Int)) (by omega) h2 hn
  obtain ⟨x, rfl, hx⟩ := hb d e2
  rw [z_atn] at e1
  exact ⟨x, e1, e2, hx⟩
theorem v_thing {k : Int} {ws : List PI.D} {door : Nat} (hw : Wl k ws) (hk : k < 600000) (h0 : 0 ≤ k) (hd : door < 5) :
    ∃ (t : Th) (ws' : List PI.D), c__law_thing [.lst ws, .int (door : Int)] = some ((false, .tup [t.enc, .str t.txt]), [.lst ws']) ∧ t.dr = door ∧ t.Ok ∧ Wl (k + 40000) ws' := by
  have hdd : door = 0 ∨ door = 1 ∨ door = 2 ∨ door = 3 ∨ door = 4 := by omega
  rcases hdd with rfl | rfl | rfl | rfl | rfl
  · obtain ⟨q, ws1, a1, a2, a3⟩ := v_dm (m := 41) hw (by omega) (by omega) (by omega)
    obtain ⟨r, ws2, b1, b2, b3⟩ := v_dm (m := 6) a3 (by omega) (by omega) (by omega)
    obtain ⟨x, e1, _, e2⟩ := at_nats2 (l := [PI.D.int 0, .int 1, .int 5, .int 12, .int 40, .int (q : Int)]) (r := r) (n := 6) (b := 40) b2 rfl (by
      simp only [List.mem_cons, List.not_mem_nil, or_false]
      rintro d (rfl | rfl | rfl | rfl | rfl | rfl)
      · exact ⟨0, rfl, by omega⟩
      · exact ⟨1, rfl, by omega⟩
      · exact ⟨5, rfl, by omega⟩
      · exact ⟨12, rfl, by omega⟩
      · exact ⟨40, rfl, by omega⟩
      · exact ⟨q, rfl, by omega⟩)
    obtain ⟨os, ws3, g1, g2, g3⟩ := v_order (n := x) b3 (by omega) (by omega) (by omega)
    refine ⟨.ord os, ws3, ?_, rfl, ⟨x, e2, g2⟩, g3.mono (by omega)⟩
    simp -implicitDefEqProofs [c__law_thing, b__law_thing, a1, b1, e1, g1, (v_said_order e2 g2).1, Th.enc, Th.txt]
  · obtain ⟨r, ws2, b1, b2, b3⟩ := v_dm (m := 4) hw (by omega) (by omega) (by omega)
    obtain ⟨x, e1, _, e2⟩ := at_nats2 (l := [PI.D.int 0, .int 1, .int 4, .int 20]) (r := r) (n := 4) (b := 20) b2 rfl (by
      simp only [List.mem_cons, List.not_mem_nil, or_false]
      rintro d (rfl | rfl | rfl | rfl)
      · exact ⟨0, rfl, by omega⟩
      · exact ⟨1, rfl, by omega⟩
      · exact ⟨4, rfl, by omega⟩
      · exact ⟨20, rfl, by omega⟩)
    obtain ⟨r2, ws3, d1, d2, d3⟩ := v_dm (m := 3) b3 (by omega) (by omega) (by omega)
    obtain ⟨y, f1, f0, f2⟩ := at_nats2 (l := [PI.D.int 5, .int 5, .int 40]) (r := r2) (n := 3) (b := 40) d2 rfl (by
      simp only [List.mem_cons, List.not_mem_nil, or_false]
      rintro d (rfl | rfl | rfl)
      · exact ⟨5, rfl, by omega⟩
      · exact ⟨5, rfl, by omega⟩
      · exact ⟨40, rfl, by omega⟩)
    have hy : 1 ≤ y := by
      simp only [List.mem_cons, List.not_mem_nil, or_false, PI.D.int.injEq] at f0
      omega
    obtain ⟨ps, ws4, g1, g2, g3, g4⟩ := v_list (most := x) (things := y) d3 (by omega) (by omega) e2 hy f2
    have ok : ps.length ≤ 20 ∧ ∀ p ∈ ps, Pt 40 p := ⟨by omega, fun p hp => (g3 p hp).mono f2⟩
    refine ⟨.lst ps, ws4, ?_, rfl, ok, g4.mono (by omega)⟩
    simp -implicitDefEqProofs [c__law_thing, b__law_thing, b1, e1, d1, f1, g1, (v_said_list ok.1 ok.2).1, Th.enc, Th.txt]
  · obtain ⟨q, ws1, a1, a2, a3⟩ := v_dm (m := 61) hw (by omega) (by omega) (by omega)
    obtain ⟨r, ws2, b1, b2, b3⟩ := v_dm (m := 5) a3 (by omega) (by omega) (by omega)
    obtain ⟨x, e1, _, e2⟩ := at_nats2 (l := [PI.D.int 0, .int 1, .int 5, .int 60, .int (q : Int)]) (r := r) (n := 5) (b := 60) b2 rfl (by
      simp only [List.mem_cons, List.not_mem_nil, or_false]
      rintro d (rfl | rfl | rfl | rfl | rfl)
      · exact ⟨0, rfl, by omega⟩
      · exact ⟨1, rfl, by omega⟩
      · exact ⟨5, rfl, by omega⟩
      · exact ⟨60, rfl, by omega⟩
      · exact ⟨q, rfl, by omega⟩)
    obtain ⟨ps, ws3, g1, g2, g3, g4⟩ := v_letters (many := x) b3 (by omega) (by omega) e2
    have ok : ps.length ≤ 60 ∧ ∀ p ∈ ps, Lt bigM p := ⟨by omega, g3⟩
    refine ⟨.wrd ps, ws3, ?_, rfl, ok, g4.mono (by omega)⟩
    simp -implicitDefEqProofs [c__law_thing, b__law_thing, a1, b1, e1, g1, (v_word ok.1 ok.2).1, Th.enc, Th.txt]
  · obtain ⟨r, ws2, b1, b2, b3⟩ := v_dm (m := 4) hw (by omega) (by omega) (by omega)
    obtain ⟨x, e1, e0, e2⟩ := at_nats2 (l := [PI.D.int 1, .int 3, .int 12, .int 200]) (r := r) (n := 4) (b := 200) b2 rfl (by
      simp only [List.mem_cons, List.not_mem_nil, or_false]
      rintro d (rfl | rfl | rfl | rfl)
      · exact ⟨1, rfl, by omega⟩
      · exact ⟨3, rfl, by omega⟩
      · exact ⟨12, rfl, by omega⟩
      · exact ⟨200, rfl, by omega⟩)
    have hx : 1 ≤ x := by
      simp only [List.mem_cons, List.not_mem_nil, or_false, PI.D.int.injEq] at e0
      omega
    obtain ⟨rows, ends, m, ws3, g1, g2, g3, g4, g5⟩ := v_machine (most := x) b3 (by omega) (by omega) hx e2
    refine ⟨.mch rows ends, ws3, ?_, rfl, ⟨m, g2, by omega, g4⟩, g5.mono (by omega)⟩
    have sm := v_said_machine (by omega) g4
    generalize hT : tM rows ends = T at *
    simp -implicitDefEqProofs [c__law_thing, b__law_thing, b1, e1, g1, sm, Th.enc, Th.txt, hT]
  · obtain ⟨r, ws2, b1, b2, b3⟩ := v_dm (m := 4) hw (by omega) (by omega) (by omega)
    obtain ⟨x, e1, e0, e2⟩ := at_nats2 (l := [PI.D.int 1, .int 3, .int 4, .int 12]) (r := r) (n := 4) (b := 12) b2 rfl (by
      simp only [List.mem_cons, List.not_mem_nil, or_false]
      rintro d (rfl | rfl | rfl | rfl)
      · exact ⟨1, rfl, by omega⟩
      · exact ⟨3, rfl, by omega⟩
      · exact ⟨4, rfl, by omega⟩
      · exact ⟨12, rfl, by omega⟩)
    have hx : 1 ≤ x := by
      simp only [List.mem_cons, List.not_mem_nil, or_false, PI.D.int.injEq] at e0
      omega
    have B := bud_le x e2
    obtain ⟨s, ws3, g1, g2, g3, g4, g5⟩ := v_saying 12 x (k + 1) ws2 hx e2 e2 (by omega) (by omega) b3
    have hl : leaves s ≤ 30 := by
      have : lvs x ≤ 30 := by unfold lvs; repeat' split
                              all_goals omega
      omega
    refine ⟨.say s, ws3, ?_, rfl, ⟨g2, by omega, hl⟩, g5.mono (by omega)⟩
    have sm := (v_said_saying 12 g2 (by omega) (by omega) hl).1
    generalize hT : encS s = T at *
    simp -implicitDefEqProofs [c__law_thing, b__law_thing, b1, e1, g1, sm, Th.enc, Th.txt, hT]
def Th.row (t : Th) : PI.D := .tup [.int t.dr, t.enc, .str t.txt]
theorem v_law {ns : List Int} (hl : ns.length ≤ 63) (hb : ∀ z ∈ ns, Builtin.Int.intBits z ≤ 1048576) : c_law [.frz (ns.map PI.D.int)] = some ((false, .bl true), []) := by
  obtain ⟨m, hm, em⟩ : ∃ m : Nat, m ≤ 8 ∧ (if (if (ns.length : Int) < 6 then (ns.length : Int) else 6) > 1 then (if (ns.length : Int) < 6 then (ns.length : Int) else 6) else 1) = (m : Int) := by
    by_cases c1 : (ns.length : Int) < 6
    · rw [if_pos c1]
      by_cases c2 : (ns.length : Int) > 1
      · rw [if_pos c2]
        exact ⟨ns.length, by omega, rfl⟩
      · rw [if_neg c2]
        exact ⟨1, by decide, rfl⟩
    · rw [if_neg c1, if_pos (by decide)]
      exact ⟨6, by decide, rfl⟩
  -- the doors
  have doors : ∀ (p : Nat) (ts : List Th) (ws : List PI.D) (x2 x4 x5 x6 x7 : Option (Bool × PI.D)), (∀ t ∈ ts, t.Ok) → ts.length ≤ 6 * p + 1 → p < 100 → Wl 1000 ws → ∃ (ts' : List Th) (ws' : List PI.D) (y5 y6 y7 : Option (Bool × PI.D)), fl (tName 5) fb1_law (rangeD 0 5) [some (false, .frz (zL ns)), some (true, .lst (ts.map Th.row)), x2, some (true, .lst ws), x4, x5, x6, x7] = some (.nx, [some (false, .frz (zL ns)), some (true, .lst (ts'.map Th.row)), x2, some (true, .lst ws'), x4, y5, y6, y7]) ∧ (∀ t ∈ ts', t.Ok) ∧ ts'.length ≤ 6 * p + 6 := fun p ts ws x2 x4 x5 x6 x7 ok hlen hp hw => by
    obtain ⟨env', h1, h2⟩ := fl_keep (T := tName 5) (f := fb1_law) (fun j env => ∃ (ts' : List Th) (ws' : List PI.D) (y5 y6 y7 : Option (Bool × PI.D)), env = [some (false, .frz (zL ns)), some (true, .lst (ts'.map Th.row)), x2, some (true, .lst ws'), x4, y5, y6, y7] ∧ (∀ t ∈ ts', t.Ok) ∧ ts'.length = ts.length + j ∧ (j ≤ 5 → Wl (1000 + 40010 * j) ws')) (rangeD 0 5) 0 [some (false, .frz (zL ns)), some (true, .lst (ts.map Th.row)), x2, some (true, .lst ws), x4, x5, x6, x7]
      (fun j d env hd hr => by
        obtain ⟨ts1, ws1, y5, y6, y7, rfl, ok1, l1, w1⟩ := hr
        have hj : j < 5 := by
          have := (List.getElem?_eq_some_iff.mp hd).1
          rw [rangeD_len] at this
          exact this
        have hd' : d = .int ((0 : Int) + (j : Int)) := by
          rw [rangeD_get hj] at hd
          exact (Option.some.inj hd).symm
        rw [Int.zero_add] at hd'
        subst hd'
        rw [Nat.zero_add] at l1 w1 ⊢
        obtain ⟨t, ws2, a1, a2, a3, a4⟩ := v_thing (door := j) (w1 (by omega)) (by omega) (by omega) hj
        obtain ⟨r, ws3, b1, b2, b3⟩ := v_dm (m := 2) a4 (by omega) (by omega) (by omega)
        have s1 := v_shown a3 ((r : Int) == 0)
        rw [a2] at s1
        have s2 := v_same t.txt
        have er : t.row = .tup [.int (j : Int), t.enc, .str t.txt] := by unfold Th.row; rw [a2]
        refine ⟨[some (false, .frz (zL ns)), some (true, .lst ((ts1 ++ [t]).map Th.row)), x2, some (true, .lst ws3), x4, some (false, .int (j : Int)), some (false, t.enc), some (false, .str t.txt)], ?_, ts1 ++ [t], ws3, _, _, _, rfl, ?_, ?_, fun _ => ?_⟩
        · have hlt : ts1.length < 1000000 := by omega
          rw [List.map_append]
          simp -implicitDefEqProofs only [List.map, er]
          generalize t.enc = E at *
          generalize t.txt = X at *
          generalize hR : ts1.map Th.row = R at *
          have hRl : R.length < 1000000 := by rw [← hR, List.length_map]; exact hlt
          simp -implicitDefEqProofs [fb1_law, a1, b1, s1, s2, hRl]
        · intro u hu
          rcases List.mem_append.mp hu with h | h
          · exact ok1 u h
          · rw [List.mem_singleton.mp h]
            exact a3
        · rw [List.length_append, l1]
          rfl
        · exact b3.mono (by omega)) ⟨ts, ws, x5, x6, x7, rfl, ok, rfl, fun _ => by simpa using hw⟩
    obtain ⟨ts', ws', y5, y6, y7, rfl, ok', l', _⟩ := h2
    rw [rangeD_len, Nat.zero_add] at l'
    exact ⟨ts', ws', y5, y6, y7, h1, ok', by omega⟩
  -- the places
  obtain ⟨env1, h1, h2⟩ := fl_keep (T := tName 2) (f := fb2_law) (fun j env => ∃ (ts : List Th) (x2 x3 x4 x5 x6 x7 : Option (Bool × PI.D)), env = [some (false, .frz (zL ns)), some (true, .lst (ts.map Th.row)), x2, x3, x4, x5, x6, x7] ∧ (∀ t ∈ ts, t.Ok) ∧ ts.length ≤ 6 * j) (rangeD 0 m) 0 [some (false, .frz (zL ns)), some (true, .lst []), none, none, none, none, none, none]
    (fun j d env hd hr => by
      obtain ⟨ts, x2, x3, x4, x5, x6, x7, rfl, ok, hlen⟩ := hr
      have hj : j < m := by
        have := (List.getElem?_eq_some_iff.mp hd).1
        rw [rangeD_len] at this
        exact this
      have hd' : d = .int ((0 : Int) + (j : Int)) := by
        rw [rangeD_get hj] at hd
        exact (Option.some.inj hd).symm
      rw [Int.zero_add] at hd'
      subst hd'
      rw [Nat.zero_add] at hlen ⊢
      obtain ⟨ws, w1, w2⟩ := v_well (p := j) hb hl (by omega)
      obtain ⟨a, b, ws2, a1, a2, a3⟩ := v_number w2 (by omega) (by omega)
      obtain ⟨o1, l1⟩ := num_small a2.a
      obtain ⟨o2, l2⟩ := num_small a2.b
      have p1 := app_le o1 ok_sla (by decide)
      have p2 := app_le (o1.app ok_sla) o2 (by decide)
      obtain ⟨ts', ws', y5, y6, y7, g1, g2, g3⟩ := doors j (ts ++ [.num a b]) ws2 (some (false, .int (j : Int))) (some (false, .tup [.int a, .int b])) x5 x6 x7 (fun u hu => by
        rcases List.mem_append.mp hu with h | h
        · exact ok u h
        · rw [List.mem_singleton.mp h]
          exact a2) (by rw [List.length_append]; show ts.length + 1 ≤ _; omega) (by omega) (a3.mono (by omega))
      refine ⟨[some (false, .frz (zL ns)), some (true, .lst (ts'.map Th.row)), some (false, .int (j : Int)), some (true, .lst ws'), some (false, .tup [.int a, .int b]), y5, y6, y7], ?_, ts', _, _, _, _, _, _, rfl, g2, by omega⟩
      rw [List.map_append] at g1
      have er : (Th.num a b).row = .tup [.int 5, .tup [.int a, .int b], .str (tNum a b)] := rfl
      simp -implicitDefEqProofs only [List.map, er] at g1
      have hRl : (ts.map Th.row).length < 1000000 := by rw [List.length_map]; omega
      generalize ts.map Th.row = R at *
      generalize ts'.map Th.row = R' at *
      have src5 : ∀ env : PI.Env, srcR1 (eC (.int 5)) env = some (rangeD 0 5, env) := fun env => srcR1_nat (n := 5) (fr := false) rfl (by omega)
      generalize hs : srcR1 (eC (.int 5)) = F at src5
      by_cases c : b = 1
      · subst c
        have e : tNum a 1 = strI a := if_pos rfl
        rw [e] at g1
        simp -implicitDefEqProofs [fb2_law, w1, a1, l1, hRl, hs, src5, g1]
      · have e : tNum a b = strI a ++ "/" ++ strI b := if_neg c
        rw [e] at g1
        have c' : (b == 1) = false := beq_eq_false_iff_ne.mpr c
        simp -implicitDefEqProofs [fb2_law, w1, a1, c', l1, l2, p1, p2, hRl, hs, src5, g1]) ⟨[], none, none, none, none, none, none, rfl, (fun _ h => by cases h), by simp⟩
  obtain ⟨ts, x2, x3, x4, x5, x6, x7, rfl, ok, hlen⟩ := h2
  rw [rangeD_len, Nat.zero_add] at hlen
  -- again
  obtain ⟨env2, i1, i2⟩ := fl_keep (T := tTplA 3 (tsCons (tName 5) (tsCons (tName 6) (tsCons (tName 7) tsNil)))) (f := fb3_law) (fun j env => ∃ (y1 x5 x6 x7 : Option (Bool × PI.D)), env = [some (false, .frz (zL ns)), y1, x2, x3, x4, x5, x6, x7]) (ts.reverse.map Th.row) 0 [some (false, .frz (zL ns)), some (true, .lst (ts.map Th.row)), x2, x3, x4, x5, x6, x7]
    (fun j d env hd hr => by
      obtain ⟨y1, z5, z6, z7, rfl⟩ := hr
      rw [List.getElem?_map] at hd
      obtain ⟨t, ht, rfl⟩ := Option.map_eq_some_iff.mp hd
      have tok := ok t (List.mem_reverse.mp (List.mem_of_getElem? ht))
      have tl := (t.txt_ok tok).1
      have tl2 : t.txt.length ≤ 10000000 := by omega
      have s1 := v_shown tok (decide ((t.txt.length : Int) < 9))
      have s2 := v_same t.txt
      refine ⟨[some (false, .frz (zL ns)), y1, x2, x3, x4, some (false, .int t.dr), some (false, t.enc), some (false, .str t.txt)], ?_, y1, _, _, _, rfl⟩
      have er : t.row = .tup [.int t.dr, t.enc, .str t.txt] := rfl
      rw [er]
      generalize t.enc = E at *
      generalize t.txt = X at *
      generalize t.dr = Q at *
      simp -implicitDefEqProofs [fb3_law, tl2, s1, s2]) ⟨_, x5, x6, x7, rfl⟩
  obtain ⟨y1, z5, z6, z7, rfl⟩ := i2
  rw [List.map_reverse] at i1
  have src : srcR1 (eN (c2 max2D) [(.ex (eC (.int 1))), (.ex (eN (c2 min2D) [(.ex (eC (.int 6))), (.ex (eN (c1 lenD) [(.sl 0)]))]))]) [some (false, .frz (zL ns)), some (true, .lst []), none, none, none, none, none, none] = some (rangeD 0 m, [some (false, .frz (zL ns)), some (true, .lst []), none, none, none, none, none, none]) := by
    refine srcR1_nat (fr := false) ?_ (by omega)
    rw [← em]
    simp -implicitDefEqProofs
  show c_law [.frz (zL ns)] = _
  generalize ts.map Th.row = R at *
  unfold c_law b_law
  generalize hs : srcR1 _ = F at src
  have e2 : sFor [] [5, 6, 7] (srcA (e1 revD (.sl 1))) (tTplA 3 (tsCons (tName 5) (tsCons (tName 6) (tsCons (tName 7) tsNil)))) fb3_law [some (false, .frz (zL ns)), some (true, .lst R), x2, x3, x4, x5, x6, x7] = some (.nx, [some (false, .frz (zL ns)), y1, x2, x3, x4, z5, z6, z7]) := by
    rw [s_sFor]
    exact i1
  generalize sFor [] [5, 6, 7] _ _ _ = G at e2
  simp -implicitDefEqProofs [src, h1, e2]
end Wk

open PySem PySem.W PySem.Calls PyProof.Rows
theorem PySem.Challenge.cw_bannedorders_k45_whole_texts_shown_holds : PySem.Challenge.rw_bannedorders_k45_whole_texts_shown.Holds := by
  w_on; o_law
  refine HandSHeadRun.head_any (r := OpenLaw.row PySem.Challenge.rw_bannedorders_k45_whole_texts_shown) (q := view (OpenLaw.row PySem.Challenge.rw_bannedorders_k45_whole_texts_shown).prog [32]) (H := Hd.hk) (ob := Hd.ob) (M := 6000) (loose := Hd.loose) (d := HandSHeadRun.topDef (OpenLaw.row PySem.Challenge.rw_bannedorders_k45_whole_texts_shown).prog 32) (kwd := []) Hd.ob_eq
    (by kernel_rfl) (fun s => by kernel_rfl) Hd.run (by kernel_rfl) (by kernel_rfl) (by kernel_rfl) (by rfl) (by first | assumption | decide +kernel) (by decide +kernel) ⟨rfl, rfl, rfl, rfl, rfl, by decide +kernel⟩ ?hw ?hc
  case hw => w_witness2
  case hc =>
    refine PI.walk_pi (l := PySem.Challenge.rw_bannedorders_k45_whole_texts_shown) (n := 63) (k := 18) (x := "law") (st := Wk.top 32) (y := "_law_script") (f := Wk.c_law) rfl (by decide) (by kernel_rfl) ⟨rfl, by decide, by decide⟩ (by kernel_rfl) (fun _ _ _ _ _ _ us hl => match us, hl with | [_], _ => rfl) ?F (fun ns hl hb => Wk.v_law hl hb)
    intro w mg h Y G
    obtain ⟨K, KX, c⟩ := Y
    have M := Hd.md KX G c
    exact ⟨K, KX, M.d_law, fun base _ _ => Wk.ok_law M⟩

