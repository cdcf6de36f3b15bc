import PyProof.Rows.All
import Wide.All
import OpenK.AllK
import Wide.FinOn
import KE.KStateDown
import HandS.ForMost
import HandS.Walk
import HandS.Style
import HandS.More
import HandS.Defaults
import HandS.SortInts
import HandS.Head0
import HandS.Head1
import HandS.Head2
import HandS.HeadEnd
import HandS.HeadHook1
import HandS.HeadHook2
import HandS.HeadHook3
import HandS.HeadHook4
import HandS.EndBits
import HandS.Conv
import HandS.IsInst
import HandS.TupAny
import HandS.Wide
import HandS.WideBits
import HandS.NoneIn
import PySem.Challenge.RW_bannedorders_k38_whole_sorted_exactly_by
set_option Elab.async false
set_option linter.all false
set_option maxRecDepth 100000
set_option maxHeartbeats 4000000
namespace PI
open PySem PySem.Spec PyProof.Rows L2
/-! ### data by value -/
inductive D where
  | non | bl (b : Bool) | int (i : Int) | str (x : Str) | tup (ds : List D) | lst (ds : List D) | frz (ds : List D) | dct (ks : List D) (vs : List D)
/-- what stands in the written part at a: a tuple, a list -/
def KTup (K : PySem.W.Frag) (a : Addr) (vs : List V) : Prop := ∃ (o : Obj) (its : Array Value) (n : Nat), K.lookup a = some o ∧ o.cls = .type "tuple" ∧ o.data = .seq its n ∧ its.size ≤ sizeLine ∧ Vals vs its.toList
def KLst (K : PySem.W.Frag) (a : Addr) (vs : List V) : Prop := ∃ (o : Obj) (its : Array Value) (n : Nat), K.lookup a = some o ∧ o.cls = .type "list" ∧ o.dict = none ∧ o.data = .seq its n ∧ its.size ≤ sizeLine ∧ Vals vs its.toList
def TupAt (K : PySem.W.Frag) (S : Addr → Prop) (H : Hp) (a : Addr) (vs : List V) : Prop := (Rd H a (.tup vs) ∧ ¬ S a) ∨ KTup K a vs
def FrzAt (K : PySem.W.Frag) (S : Addr → Prop) (H : Hp) (a : Addr) (vs : List V) : Prop := (Rd H a (.lst vs) ∧ ¬ S a) ∨ KLst K a vs
mutual
inductive Rep (K : PySem.W.Frag) (S : Addr → Prop) (H : Hp) : V → D → Prop
  | non : Rep K S H .non .non
  | bl (b : Bool) : Rep K S H (.bl b) (.bl b)
  | int (i : Int) : Rep K S H (.int i) (.int i)
  | str (x : Str) : Rep K S H (.str x) (.str x)
  | tup {a : Addr} {vs : List V} {ds : List D} : TupAt K S H a vs → RepAll K S H vs ds → Rep K S H (.ref a) (.tup ds)
  | lst {a : Addr} {vs : List V} {ds : List D} : H a = some (.lst vs) → ¬ S a → RepAll K S H vs ds → Rep K S H (.ref a) (.lst ds)
  | frz {a : Addr} {vs : List V} {ds : List D} : FrzAt K S H a vs → RepAll K S H vs ds → Rep K S H (.ref a) (.frz ds)
inductive RepAll (K : PySem.W.Frag) (S : Addr → Prop) (H : Hp) : List V → List D → Prop
  | nil : RepAll K S H [] []
  | cons {v : V} {vs : List V} {d : D} {ds : List D} : Rep K S H v d → RepAll K S H vs ds → RepAll K S H (v :: vs) (d :: ds)
end
section
variable {K : PySem.W.Frag} {S S' : Addr → Prop} {H H' : Hp}
theorem TupAt.sq {a : Addr} {vs : List V} (h : TupAt K S H a vs) : SqT K H a vs := by
  rcases h with h | h
  · exact .inl h.1
  · exact .inr h
theorem FrzAt.sq {a : Addr} {vs : List V} (h : FrzAt K S H a vs) : SqL K H a vs := by
  rcases h with h | h
  · exact .inl h.1
  · exact .inr h
theorem TupAt.step {a : Addr} {vs : List V} (h : ∀ a o, H a = some o → ¬ S a → H' a = some o) (hs : ∀ a, S' a → S a ∨ H a = none) (t : TupAt K S H a vs) : TupAt K S' H' a vs := by
  rcases t with ⟨r, n⟩ | k
  · refine .inl ⟨?_, fun q => ?_⟩
    · rcases r with r | ⟨o, r⟩
      · exact .inl (h _ _ r n)
      · exact .inr ⟨o, h _ _ r n⟩
    · rcases hs a q with q | q
      · exact n q
      · rcases r with r | ⟨o, r⟩
        · rw [q] at r; cases r
        · rw [q] at r; cases r
  · exact .inr k
theorem FrzAt.step {a : Addr} {vs : List V} (h : ∀ a o, H a = some o → ¬ S a → H' a = some o) (hs : ∀ a, S' a → S a ∨ H a = none) (t : FrzAt K S H a vs) : FrzAt K S' H' a vs := by
  rcases t with ⟨r, n⟩ | k
  · refine .inl ⟨?_, fun q => ?_⟩
    · rcases r with r | ⟨o, r⟩
      · exact .inl (h _ _ r n)
      · exact .inr ⟨o, h _ _ r n⟩
    · rcases hs a q with q | q
      · exact n q
      · rcases r with r | ⟨o, r⟩
        · rw [q] at r; cases r
        · rw [q] at r; cases r
  · exact .inr k
mutual
theorem Rep.step (h : ∀ a o, H a = some o → ¬ S a → H' a = some o) (hs : ∀ a, S' a → S a ∨ H a = none) : ∀ {v : V} {d : D}, Rep K S H v d → Rep K S' H' v d
  | _, _, .non => .non
  | _, _, .bl b => .bl b
  | _, _, .int i => .int i
  | _, _, .str x => .str x
  | _, _, .tup t r => .tup (t.step h hs) (RepAll.step h hs r)
  | _, _, .lst e n r => .lst (h _ _ e n) (fun q => by
      rcases hs _ q with q | q
      · exact n q
      · rw [q] at e; cases e) (RepAll.step h hs r)
  | _, _, .frz t r => .frz (t.step h hs) (RepAll.step h hs r)
theorem RepAll.step (h : ∀ a o, H a = some o → ¬ S a → H' a = some o) (hs : ∀ a, S' a → S a ∨ H a = none) : ∀ {vs : List V} {ds : List D}, RepAll K S H vs ds → RepAll K S' H' vs ds
  | _, _, .nil => .nil
  | _, _, .cons r t => .cons (Rep.step h hs r) (RepAll.step h hs t)
end
/-- the heap grows -/
theorem Rep.grow (h : ∀ a o, H a = some o → H' a = some o) {v : V} {d : D} (r : Rep K S H v d) : Rep K S H' v d := r.step (fun a o e _ => h a o e) fun _ q => .inl q
theorem RepAll.grow (h : ∀ a o, H a = some o → H' a = some o) {vs : List V} {ds : List D} (r : RepAll K S H vs ds) : RepAll K S H' vs ds := r.step (fun a o e _ => h a o e) fun _ q => .inl q
theorem Rep.less (hs : ∀ a, S' a → S a) {v : V} {d : D} (r : Rep K S H v d) : Rep K S' H v d := r.step (fun a o e _ => e) fun _ q => .inl (hs _ q)
theorem RepAll.less (hs : ∀ a, S' a → S a) {vs : List V} {ds : List D} (r : RepAll K S H vs ds) : RepAll K S' H vs ds := r.step (fun a o e _ => e) fun _ q => .inl (hs _ q)
theorem RepAll.length : ∀ {vs : List V} {ds : List D}, RepAll K S H vs ds → vs.length = ds.length
  | _, _, .nil => rfl
  | _, _, .cons _ t => congrArg Nat.succ t.length
theorem RepAll.get : ∀ {vs : List V} {ds : List D} {i : Nat} {d : D}, RepAll K S H vs ds → ds[i]? = some d → ∃ v, vs[i]? = some v ∧ Rep K S H v d
  | _, _, _, _, .nil, e => by simp at e
  | _, _, 0, _, .cons r _, e => by
    have e := Option.some.inj e
    subst e
    exact ⟨_, rfl, r⟩
  | _, _, i + 1, _, .cons _ t, e => t.get (i := i) e
theorem RepAll.getV : ∀ {vs : List V} {ds : List D} {i : Nat} {v : V}, RepAll K S H vs ds → vs[i]? = some v → ∃ d, ds[i]? = some d ∧ Rep K S H v d
  | _, _, _, _, .nil, e => by simp at e
  | _, _, 0, _, .cons r _, e => by
    have e := Option.some.inj e
    subst e
    exact ⟨_, rfl, r⟩
  | _, _, i + 1, _, .cons _ t, e => t.getV (i := i) e
theorem RepAll.append : ∀ {vs us : List V} {ds es : List D}, RepAll K S H vs ds → RepAll K S H us es → RepAll K S H (vs ++ us) (ds ++ es)
  | _, _, _, _, .nil, s => s
  | _, _, _, _, .cons r t, s => .cons r (t.append s)
theorem RepAll.take : ∀ {vs : List V} {ds : List D} (n : Nat), RepAll K S H vs ds → RepAll K S H (vs.take n) (ds.take n)
  | _, _, 0, _ => .nil
  | _, _, _ + 1, .nil => .nil
  | _, _, n + 1, .cons r t => .cons r (t.take n)
theorem RepAll.drop : ∀ {vs : List V} {ds : List D} (n : Nat), RepAll K S H vs ds → RepAll K S H (vs.drop n) (ds.drop n)
  | _, _, 0, r => r
  | _, _, _ + 1, .nil => .nil
  | _, _, n + 1, .cons _ t => t.drop n
theorem RepAll.set : ∀ {vs : List V} {ds : List D} (i : Nat) {v : V} {d : D}, RepAll K S H vs ds → Rep K S H v d → RepAll K S H (vs.set i v) (ds.set i d)
  | _, _, _, _, _, .nil, _ => .nil
  | _, _, 0, _, _, .cons _ t, r => .cons r t
  | _, _, i + 1, _, _, .cons q t, r => .cons q (t.set i r)
theorem RepAll.reverse {vs : List V} {ds : List D} (h : RepAll K S H vs ds) : RepAll K S H vs.reverse ds.reverse := by
  induction h using RepAll.rec (motive_1 := fun _ _ _ => True) with
  | nil => exact .nil
  | cons r t _ ih =>
    rw [List.reverse_cons, List.reverse_cons]
    exact ih.append (.cons r .nil)
  | _ => trivial
theorem RepAll.dropLast {vs : List V} {ds : List D} (h : RepAll K S H vs ds) : RepAll K S H vs.dropLast ds.dropLast := by
  rw [List.dropLast_eq_take, List.dropLast_eq_take, h.length]
  exact h.take _
theorem RepAll.eraseIdx : ∀ {vs : List V} {ds : List D} (i : Nat), RepAll K S H vs ds → RepAll K S H (vs.eraseIdx i) (ds.eraseIdx i)
  | _, _, _, .nil => .nil
  | _, _, 0, .cons _ t => t
  | _, _, i + 1, .cons q t => .cons q (t.eraseIdx i)
theorem RepAll.ints : ∀ (ns : List Int), RepAll K S H (ns.map V.int) (ns.map D.int)
  | [] => .nil
  | n :: r => .cons (.int n) (RepAll.ints r)
theorem RepAll.of_ints : ∀ {vs : List V} {ns : List Int}, RepAll K S H vs (ns.map D.int) → vs = ns.map V.int
  | _, [], .nil => rfl
  | _, n :: r, .cons q t => by
    cases q
    rw [RepAll.of_ints t]
    rfl
theorem RepAll.bls : ∀ (ns : List Bool), RepAll K S H (ns.map V.bl) (ns.map D.bl)
  | [] => .nil
  | n :: r => .cons (.bl n) (RepAll.bls r)
theorem RepAll.of_bls : ∀ {vs : List V} {ns : List Bool}, RepAll K S H vs (ns.map D.bl) → vs = ns.map V.bl
  | _, [], .nil => rfl
  | _, n :: r, .cons q t => by
    cases q
    rw [RepAll.of_bls t]
    rfl
theorem RepAll.strs : ∀ (ns : List Str), RepAll K S H (ns.map V.str) (ns.map D.str)
  | [] => .nil
  | n :: r => .cons (.str n) (RepAll.strs r)
theorem RepAll.of_strs : ∀ {vs : List V} {ns : List Str}, RepAll K S H vs (ns.map D.str) → vs = ns.map V.str
  | _, [], .nil => rfl
  | _, n :: r, .cons q t => by
    cases q
    rw [RepAll.of_strs t]
    rfl
end
/-- a value that is read: an owned list's root may be avoided -/
def View (K : PySem.W.Frag) (S : Addr → Prop) (H : Hp) (v : V) (d : D) : Prop := Rep K S H v d ∨ ∃ a vs ds, v = .ref a ∧ d = .lst ds ∧ H a = some (.lst vs) ∧ RepAll K S H vs ds
inductive ViewAll (K : PySem.W.Frag) (S : Addr → Prop) (H : Hp) : List V → List D → Prop
  | nil : ViewAll K S H [] []
  | cons {v : V} {vs : List V} {d : D} {ds : List D} : View K S H v d → ViewAll K S H vs ds → ViewAll K S H (v :: vs) (d :: ds)
/-- what a primitive makes -/
structure Made (K : PySem.W.Frag) (S : Addr → Prop) (H : Hp) (w : Bool × D) (v : V) (H' : Hp) : Prop where
  keep : ∀ a o, H a = some o → H' a = some o
  new : w.1 = true → ∃ a vs ds, v = .ref a ∧ w.2 = .lst ds ∧ H a = none ∧ H' a = some (.lst vs) ∧ RepAll K (fun b => S b ∨ b = a) H' vs ds
  old : w.1 = false → Rep K S H' v w.2
section
variable {K : PySem.W.Frag} {S S' : Addr → Prop} {H H' : Hp}
theorem View.lst {v : V} {ds : List D} (h : View K S H v (.lst ds)) : ∃ a vs, v = .ref a ∧ H a = some (.lst vs) ∧ RepAll K S H vs ds := by
  rcases h with h | ⟨a, vs, es, e1, e2, e3, e4⟩
  · cases h with
    | lst e n r => exact ⟨_, _, rfl, e, r⟩
  · cases e2
    exact ⟨a, vs, e1, e3, e4⟩
theorem View.rep {v : V} {d : D} (h : View K S H v d) (n : ∀ ds, d ≠ .lst ds) : Rep K S H v d := by
  rcases h with h | ⟨a, vs, es, e1, e2, e3, e4⟩
  · exact h
  · exact absurd e2 (n _)
theorem Rep.tupD {v : V} {ds : List D} (h : Rep K S H v (.tup ds)) : ∃ a vs, v = .ref a ∧ TupAt K S H a vs ∧ RepAll K S H vs ds := by
  cases h with
  | tup t r => exact ⟨_, _, rfl, t, r⟩
theorem Rep.frzD {v : V} {ds : List D} (h : Rep K S H v (.frz ds)) : ∃ a vs, v = .ref a ∧ FrzAt K S H a vs ∧ RepAll K S H vs ds := by
  cases h with
  | frz t r => exact ⟨_, _, rfl, t, r⟩
theorem View.intD {v : V} {i : Int} (h : View K S H v (.int i)) : v = .int i := by
  cases h.rep (fun _ e => by cases e)
  rfl
theorem View.blD {v : V} {b : Bool} (h : View K S H v (.bl b)) : v = .bl b := by
  cases h.rep (fun _ e => by cases e)
  rfl
theorem View.strD {v : V} {x : Str} (h : View K S H v (.str x)) : v = .str x := by
  cases h.rep (fun _ e => by cases e)
  rfl
theorem View.nonD {v : V} (h : View K S H v .non) : v = .non := by
  cases h.rep (fun _ e => by cases e)
  rfl
theorem View.tupD {v : V} {ds : List D} (h : View K S H v (.tup ds)) : ∃ a vs, v = .ref a ∧ TupAt K S H a vs ∧ RepAll K S H vs ds := (h.rep (fun _ e => by cases e)).tupD
theorem View.frzD {v : V} {ds : List D} (h : View K S H v (.frz ds)) : ∃ a vs, v = .ref a ∧ FrzAt K S H a vs ∧ RepAll K S H vs ds := (h.rep (fun _ e => by cases e)).frzD
theorem made_old {v : V} {d : D} (r : Rep K S H v d) : Made K S H (false, d) v H := ⟨fun _ _ e => e, fun e => (nomatch e), fun _ => r⟩
theorem made_int (i : Int) : Made K S H (false, .int i) (.int i) H := made_old (.int i)
theorem made_bl (i : Bool) : Made K S H (false, .bl i) (.bl i) H := made_old (.bl i)
theorem made_str (i : Str) : Made K S H (false, .str i) (.str i) H := made_old (.str i)
theorem made_non : Made K S H (false, .non) .non H := made_old .non
theorem keep_upd {p : Addr} {o : HO} (hp : H p = none) : ∀ a u, H a = some u → upd H p o a = some u := fun a u e => by
  rw [upd_ne (ne_of_none e hp)]
  exact e
theorem RepAll.newAt {p : Addr} {o : HO} {vs : List V} {ds : List D} (hp : H p = none) (r : RepAll K S H vs ds) : RepAll K (fun b => S b ∨ b = p) (upd H p o) vs ds :=
  r.step (fun a u e _ => keep_upd hp a u e) fun a q => by
    rcases q with q | q
    · exact .inl q
    · subst q
      exact .inr hp
theorem made_lst {p : Addr} {vs : List V} {ds : List D} (hp : H p = none) (r : RepAll K S H vs ds) : Made K S H (true, .lst ds) (.ref p) (upd H p (.lst vs)) :=
  ⟨keep_upd hp, fun _ => ⟨p, vs, ds, rfl, rfl, hp, upd_same, r.newAt hp⟩, fun e => (nomatch e)⟩
theorem rep_tup {p : Addr} {vs : List V} {ds : List D} (hp : H p = none) (hs : ¬ S p) (r : RepAll K S H vs ds) : Rep K S (upd H p (.tup vs)) (.ref p) (.tup ds) :=
  .tup (.inl ⟨.inl upd_same, hs⟩) (r.grow (keep_upd hp))
theorem made_tup {p : Addr} {vs : List V} {ds : List D} (hp : H p = none) (hs : ¬ S p) (r : RepAll K S H vs ds) : Made K S H (false, .tup ds) (.ref p) (upd H p (.tup vs)) :=
  ⟨keep_upd hp, fun e => (nomatch e), fun _ => rep_tup hp hs r⟩
end
end PI

namespace PI
open PySem PySem.Spec PyProof.Rows L2
abbrev Env := List (Option (Bool × D))
/-- the address of an owned list -/
def Own (env : PI.Env) (σ : L2.St) (a : Addr) : Prop := ∃ (i : Nat) (d : D), env[i]? = some (some (true, d)) ∧ σ[i]? = some (some (V.ref a))
def Av (env : PI.Env) (σ : L2.St) (Z : Addr → Prop) (a : Addr) : Prop := Own env σ a ∨ Z a
abbrev Fz := Addr → Option HO
structure Rel (K : PySem.W.Frag) (F : Fz) (Z : Addr → Prop) (env : PI.Env) (σ : L2.St) (H : Hp) : Prop where
  len : env.length = σ.length
  sh : ∀ (i : Nat) (d : D), env[i]? = some (some (false, d)) → ∃ v : V, σ[i]? = some (some v) ∧ Rep K (Av env σ Z) H v d
  ow : ∀ (i : Nat) (d : D), env[i]? = some (some (true, d)) → ∃ (a : Addr) (vs : List V) (ds : List D), σ[i]? = some (some (V.ref a)) ∧ d = .lst ds ∧ H a = some (.lst vs) ∧ RepAll K (Av env σ Z) H vs ds
  dist : ∀ (i j : Nat) (d e : D) (a : Addr), env[i]? = some (some (true, d)) → env[j]? = some (some (true, e)) → σ[i]? = some (some (V.ref a)) → σ[j]? = some (some (V.ref a)) → i = j
  fr : ∀ (a : Addr) (o : HO), F a = some o → H a = some o ∧ ¬ Own env σ a
  z : ∀ a, Z a → H a ≠ none ∧ ¬ Own env σ a
section
variable {K : PySem.W.Frag} {F F' : Fz} {Z Z' : Addr → Prop} {env : PI.Env} {σ : L2.St} {H H' : Hp}
theorem Rel.dom (R : Rel K F Z env σ H) : ∀ a, Av env σ Z a → H a ≠ none := fun a h => by
  rcases h with ⟨i, d, h1, h2⟩ | h
  · obtain ⟨b, vs, ds, e1, e2, e3, e4⟩ := R.ow i d h1
    rw [h2] at e1
    cases e1
    rw [e3]
    exact fun q => by cases q
  · exact (R.z a h).1
theorem Rel.weakF (R : Rel K F Z env σ H) (h : ∀ a o, F' a = some o → F a = some o) : Rel K F' Z env σ H :=
  ⟨R.len, R.sh, R.ow, R.dist, fun a o e => R.fr a o (h a o e), R.z⟩
theorem av_less (h : ∀ a, Z' a → Z a) : ∀ a, Av env σ Z' a → Av env σ Z a := fun a q => by
  rcases q with q | q
  · exact .inl q
  · exact .inr (h a q)
theorem Rel.weakZ (R : Rel K F Z env σ H) (h : ∀ a, Z' a → Z a) : Rel K F Z' env σ H :=
  ⟨R.len, fun i d e => by
    obtain ⟨v, h1, h2⟩ := R.sh i d e
    exact ⟨v, h1, h2.less (av_less h)⟩, fun i d e => by
    obtain ⟨a, vs, ds, h1, h2, h3, h4⟩ := R.ow i d e
    exact ⟨a, vs, ds, h1, h2, h3, h4.less (av_less h)⟩, R.dist, R.fr, fun a q => R.z a (h a q)⟩
open Classical in
/-- all that is not owned is frozen -/
noncomputable def maxF (env : PI.Env) (σ : L2.St) (H : Hp) : Fz := fun a => if Own env σ a then none else H a
theorem maxF_some {a : Addr} {o : HO} : maxF env σ H a = some o ↔ H a = some o ∧ ¬ Own env σ a := by
  unfold maxF
  split
  · rename_i h
    exact ⟨fun q => (nomatch q), fun q => absurd h q.2⟩
  · rename_i h
    exact ⟨fun q => ⟨q, h⟩, fun q => q.1⟩
theorem Rel.max (R : Rel K F Z env σ H) : Rel K (maxF env σ H) Z env σ H := ⟨R.len, R.sh, R.ow, R.dist, fun a o e => maxF_some.mp e, R.z⟩
theorem Rel.le_max (R : Rel K F Z env σ H) : ∀ a o, F a = some o → maxF env σ H a = some o := fun a o e => maxF_some.mpr (R.fr a o e)
/-- new objects, some of them avoided from now on -/
theorem Rel.grow (R : Rel K F Z env σ H) (h : ∀ a o, H a = some o → H' a = some o) (hz : ∀ a, Z' a → Z a ∨ H a = none) (hz2 : ∀ a, Z' a → H' a ≠ none) : Rel K F Z' env σ H' := by
  have hs : ∀ a, Av env σ Z' a → Av env σ Z a ∨ H a = none := fun a q => by
    rcases q with q | q
    · exact .inl (.inl q)
    · rcases hz a q with q | q
      · exact .inl (.inr q)
      · exact .inr q
  refine ⟨R.len, fun i d e => ?_, fun i d e => ?_, R.dist, fun a o e => ⟨h _ _ (R.fr a o e).1, (R.fr a o e).2⟩, fun a q => ⟨hz2 a q, fun ho => ?_⟩⟩
  · obtain ⟨v, h1, h2⟩ := R.sh i d e
    exact ⟨v, h1, h2.step (fun a o e _ => h a o e) hs⟩
  · obtain ⟨a, vs, ds, h1, h2, h3, h4⟩ := R.ow i d e
    exact ⟨a, vs, ds, h1, h2, h _ _ h3, h4.step (fun a o e _ => h a o e) hs⟩
  · rcases hz a q with q | q
    · exact (R.z a q).2 ho
    · exact R.dom a (.inl ho) q
theorem Rel.grow0 (R : Rel K F Z env σ H) (h : ∀ a o, H a = some o → H' a = some o) : Rel K F Z env σ H' :=
  R.grow h (fun _ q => .inl q) fun a q => by
    cases e : H a with
    | none => exact absurd e (R.z a q).1
    | some o =>
      rw [h a o e]
      exact fun z => by cases z
theorem set_get {α : Type} {l : List α} {i j : Nat} {x y : α} (h : (l.set i x)[j]? = some y) : (i = j ∧ x = y ∧ i < l.length) ∨ (i ≠ j ∧ l[j]? = some y) := by
  by_cases e : i = j
  · subst e
    rw [List.getElem?_set] at h
    split at h
    · split at h
      · exact .inl ⟨rfl, Option.some.inj h, by assumption⟩
      · cases h
    · rename_i q
      exact absurd rfl q
  · rw [List.getElem?_set_ne e] at h
    exact .inr ⟨e, h⟩
theorem lt_of_get {α : Type} {l : List α} {i : Nat} {x : α} (h : l[i]? = some x) : i < l.length := (List.getElem?_eq_some_iff.mp h).1
/-- the owned list of a slot is shared -/
theorem own_share {i : Nat} {d : D} {a : Addr} (h : Own (env.set i (some (false, d))) σ a) : Own env σ a := by
  obtain ⟨j, e, h1, h2⟩ := h
  rcases set_get h1 with ⟨_, q, _⟩ | ⟨_, q⟩
  · cases q
  · exact ⟨j, e, q, h2⟩
theorem av_share {i : Nat} {d : D} {a : Addr} (h : Av (env.set i (some (false, d))) σ Z a) : Av env σ Z a := by
  rcases h with h | h
  · exact .inl (own_share h)
  · exact .inr h
theorem Rel.share (R : Rel K F Z env σ H) {i : Nat} {d : D} (h : env[i]? = some (some (true, d))) :
    Rel K F Z (env.set i (some (false, d))) σ H ∧ ∃ v : V, σ[i]? = some (some v) ∧ Rep K (Av (env.set i (some (false, d))) σ Z) H v d := by
  obtain ⟨a, vs, ds, h1, h2, h3, h4⟩ := R.ow i d h
  have r : Rep K (Av (env.set i (some (false, d))) σ Z) H (.ref a) d := by
    subst h2
    refine .lst h3 (fun q => ?_) (h4.less fun b q => av_share q)
    rcases q with ⟨j, e, q1, q2⟩ | q
    · rcases set_get q1 with ⟨_, q, _⟩ | ⟨ne, q⟩
      · cases q
      · exact ne (R.dist i j _ _ a h q h1 q2)
    · exact (R.z a q).2 ⟨i, _, h, h1⟩
  refine ⟨⟨by rw [List.length_set]; exact R.len, fun j e q => ?_, fun j e q => ?_, fun j k e f b q1 q2 => ?_, fun b o q => ⟨(R.fr b o q).1, fun z => (R.fr b o q).2 (own_share z)⟩, fun b q => ⟨(R.z b q).1, fun z => (R.z b q).2 (own_share z)⟩⟩, .ref a, h1, r⟩
  · rcases set_get q with ⟨rfl, q, _⟩ | ⟨_, q⟩
    · cases q
      exact ⟨.ref a, h1, r⟩
    · obtain ⟨v, e1, e2⟩ := R.sh j e q
      exact ⟨v, e1, e2.less fun b q => av_share q⟩
  · rcases set_get q with ⟨rfl, q, _⟩ | ⟨_, q⟩
    · cases q
    · obtain ⟨b, us, es, e1, e2, e3, e4⟩ := R.ow j e q
      exact ⟨b, us, es, e1, e2, e3, e4.less fun b q => av_share q⟩
  · rcases set_get q1 with ⟨_, q, _⟩ | ⟨_, q1⟩
    · cases q
    · rcases set_get q2 with ⟨_, q, _⟩ | ⟨_, q2⟩
      · cases q
      · exact R.dist j k e f b q1 q2
/-- the owned list of a slot is changed -/
theorem own_mut {i : Nat} {d e : D} {a : Addr} (h : env[i]? = some (some (true, d))) : Own (env.set i (some (true, e))) σ a ↔ Own env σ a := by
  have hi := lt_of_get h
  constructor
  · rintro ⟨j, f, h1, h2⟩
    rcases set_get h1 with ⟨rfl, _, _⟩ | ⟨_, q⟩
    · exact ⟨i, d, h, h2⟩
    · exact ⟨j, f, q, h2⟩
  · rintro ⟨j, f, h1, h2⟩
    by_cases q : i = j
    · subst q
      exact ⟨i, e, List.getElem?_set_self hi, h2⟩
    · exact ⟨j, f, by rw [List.getElem?_set_ne q]; exact h1, h2⟩
theorem Rel.mutate (R : Rel K F Z env σ H) {i : Nat} {d : D} {a : Addr} {us : List V} {es : List D} (h : env[i]? = some (some (true, d))) (ha : σ[i]? = some (some (V.ref a)))
    (hk : ∀ b o, b ≠ a → H b = some o → H' b = some o) (hn : H' a = some (.lst us)) (hr : RepAll K (Av env σ Z) H' us es) : Rel K F Z (env.set i (some (true, .lst es))) σ H' := by
  have hav : ∀ b, Av (env.set i (some (true, .lst es))) σ Z b → Av env σ Z b := fun b q => by
    rcases q with q | q
    · exact .inl ((own_mut h).mp q)
    · exact .inr q
  have hst : ∀ b o, H b = some o → ¬ Av env σ Z b → H' b = some o := fun b o e n => hk b o (fun z => n (.inl ⟨i, d, h, by rw [z]; exact ha⟩)) e
  refine ⟨by rw [List.length_set]; exact R.len, fun j e q => ?_, fun j e q => ?_, fun j k e f b q1 q2 h1 h2 => ?_, fun b o q => ⟨hk b o (fun z => (R.fr b o q).2 ⟨i, d, h, by rw [z]; exact ha⟩) (R.fr b o q).1, fun z => (R.fr b o q).2 ((own_mut h).mp z)⟩, fun b q => ⟨?_, fun z => (R.z b q).2 ((own_mut h).mp z)⟩⟩
  · rcases set_get q with ⟨_, q, _⟩ | ⟨_, q⟩
    · cases q
    · obtain ⟨v, e1, e2⟩ := R.sh j e q
      exact ⟨v, e1, e2.step hst fun b q => .inl (hav b q)⟩
  · rcases set_get q with ⟨rfl, q, _⟩ | ⟨ne, q⟩
    · cases q
      exact ⟨a, us, es, ha, rfl, hn, hr.less hav⟩
    · obtain ⟨b, ws, gs, e1, e2, e3, e4⟩ := R.ow j e q
      refine ⟨b, ws, gs, e1, e2, hk b _ (fun z => ?_) e3, e4.step hst fun b q => .inl (hav b q)⟩
      subst z
      exact ne (R.dist i j _ _ b h q ha e1)
  · have g : ∀ (m : Nat) (x : D), (env.set i (some (true, .lst es)))[m]? = some (some (true, x)) → ∃ y, env[m]? = some (some (true, y)) := fun m x q => by
      rcases set_get q with ⟨rfl, _, _⟩ | ⟨_, q⟩
      · exact ⟨d, h⟩
      · exact ⟨x, q⟩
    obtain ⟨y, g1⟩ := g j e q1
    obtain ⟨y', g2⟩ := g k f q2
    exact R.dist j k y y' b g1 g2 h1 h2
  · by_cases z : b = a
    · subst z
      rw [hn]
      exact fun q => by cases q
    · cases e : H b with
      | none => exact absurd e (R.z b q).1
      | some o =>
        rw [hk b o z e]
        exact fun q => by cases q
/-- a value is stored -/
theorem own_store {i : Nat} {d : D} {v : V} {a : Addr} (h : Own (env.set i (some (false, d))) (σ.set i (some v)) a) : Own env σ a := by
  obtain ⟨j, e, h1, h2⟩ := h
  rcases set_get h1 with ⟨_, q, _⟩ | ⟨ne, q⟩
  · cases q
  · rw [List.getElem?_set_ne ne] at h2
    exact ⟨j, e, q, h2⟩
theorem Rel.store (R : Rel K F Z env σ H) {i : Nat} {d : D} {v : V} (hi : i < env.length) (r : Rep K (Av env σ Z) H v d) : Rel K F Z (env.set i (some (false, d))) (σ.set i (some v)) H := by
  have hav : ∀ b, Av (env.set i (some (false, d))) (σ.set i (some v)) Z b → Av env σ Z b := fun b q => by
    rcases q with q | q
    · exact .inl (own_store q)
    · exact .inr q
  have hi2 : i < σ.length := R.len ▸ hi
  refine ⟨by rw [List.length_set, List.length_set]; exact R.len, fun j e q => ?_, fun j e q => ?_, fun j k e f b q1 q2 h1 h2 => ?_, fun b o q => ⟨(R.fr b o q).1, fun z => (R.fr b o q).2 (own_store z)⟩, fun b q => ⟨(R.z b q).1, fun z => (R.z b q).2 (own_store z)⟩⟩
  · rcases set_get q with ⟨rfl, q, _⟩ | ⟨ne, q⟩
    · cases q
      exact ⟨v, List.getElem?_set_self hi2, r.less hav⟩
    · obtain ⟨u, e1, e2⟩ := R.sh j e q
      exact ⟨u, by rw [List.getElem?_set_ne ne]; exact e1, e2.less hav⟩
  · rcases set_get q with ⟨rfl, q, _⟩ | ⟨ne, q⟩
    · cases q
    · obtain ⟨b, ws, gs, e1, e2, e3, e4⟩ := R.ow j e q
      exact ⟨b, ws, gs, by rw [List.getElem?_set_ne ne]; exact e1, e2, e3, e4.less hav⟩
  · rcases set_get q1 with ⟨_, q, _⟩ | ⟨n1, q1⟩
    · cases q
    · rcases set_get q2 with ⟨_, q, _⟩ | ⟨n2, q2⟩
      · cases q
      · rw [List.getElem?_set_ne n1] at h1
        rw [List.getElem?_set_ne n2] at h2
        exact R.dist j k e f b q1 q2 h1 h2
/-- a new list is stored: its slot owns it -/
theorem own_storeN {i : Nat} {d : D} {a b : Addr} (h : Own (env.set i (some (true, d))) (σ.set i (some (V.ref a))) b) : Own env σ b ∨ b = a := by
  obtain ⟨j, e, h1, h2⟩ := h
  rcases set_get h1 with ⟨rfl, q, _⟩ | ⟨ne, q⟩
  · rcases set_get h2 with ⟨_, q2, _⟩ | ⟨ne, _⟩
    · cases q2
      exact .inr rfl
    · exact absurd rfl ne
  · rw [List.getElem?_set_ne ne] at h2
    exact .inl ⟨j, e, q, h2⟩
theorem Rel.storeN (R : Rel K F (fun b => Z b ∨ b = a) env σ H) {i : Nat} {vs : List V} {ds : List D} (hi : i < env.length) (hF : F a = none) (hZ : ¬ Z a) (ha : H a = some (.lst vs))
    (r : RepAll K (Av env σ fun b => Z b ∨ b = a) H vs ds) : Rel K F Z (env.set i (some (true, .lst ds))) (σ.set i (some (V.ref a))) H := by
  have hav : ∀ b, Av (env.set i (some (true, .lst ds))) (σ.set i (some (V.ref a))) Z b → Av env σ (fun b => Z b ∨ b = a) b := fun b q => by
    rcases q with q | q
    · rcases own_storeN q with q | q
      · exact .inl q
      · exact .inr (.inr q)
    · exact .inr (.inl q)
  have nown : ¬ Own env σ a := (R.z a (.inr rfl)).2
  have hi2 : i < σ.length := R.len ▸ hi
  refine ⟨by rw [List.length_set, List.length_set]; exact R.len, fun j e q => ?_, fun j e q => ?_, fun j k e f b q1 q2 h1 h2 => ?_, fun b o q => ⟨(R.fr b o q).1, fun z => ?_⟩, fun b q => ⟨(R.z b (.inl q)).1, fun z => ?_⟩⟩
  · rcases set_get q with ⟨rfl, q, _⟩ | ⟨ne, q⟩
    · cases q
    · obtain ⟨u, e1, e2⟩ := R.sh j e q
      exact ⟨u, by rw [List.getElem?_set_ne ne]; exact e1, e2.less hav⟩
  · rcases set_get q with ⟨rfl, q, _⟩ | ⟨ne, q⟩
    · cases q
      exact ⟨a, vs, ds, List.getElem?_set_self hi2, rfl, ha, r.less hav⟩
    · obtain ⟨b, ws, gs, e1, e2, e3, e4⟩ := R.ow j e q
      exact ⟨b, ws, gs, by rw [List.getElem?_set_ne ne]; exact e1, e2, e3, e4.less hav⟩
  · have g : ∀ (m : Nat) (x : D), (env.set i (some (true, .lst ds)))[m]? = some (some (true, x)) → (σ.set i (some (V.ref a)))[m]? = some (some (V.ref b)) → (m = i ∧ b = a) ∨ (m ≠ i ∧ env[m]? = some (some (true, x)) ∧ σ[m]? = some (some (V.ref b))) := fun m x q z => by
      rcases set_get q with ⟨rfl, _, _⟩ | ⟨ne, q⟩
      · rcases set_get z with ⟨_, z, _⟩ | ⟨n, _⟩
        · cases z
          exact .inl ⟨rfl, rfl⟩
        · exact absurd rfl n
      · rw [List.getElem?_set_ne ne] at z
        exact .inr ⟨fun e => ne e.symm, q, z⟩
    rcases g j e q1 h1 with ⟨rfl, rfl⟩ | ⟨n1, a1, b1⟩
    · rcases g k f q2 h2 with ⟨rfl, _⟩ | ⟨n2, a2, b2⟩
      · rfl
      · exact absurd ⟨k, f, a2, b2⟩ nown
    · rcases g k f q2 h2 with ⟨rfl, rfl⟩ | ⟨n2, a2, b2⟩
      · exact absurd ⟨j, e, a1, b1⟩ nown
      · exact R.dist j k e f b a1 a2 b1 b2
  · rcases own_storeN z with z | z
    · exact (R.fr b o q).2 z
    · subst z
      rw [hF] at q
      cases q
  · rcases own_storeN z with z | z
    · exact (R.z b (.inl q)).2 z
    · subst z
      exact hZ q
end
end PI

namespace PI
open PySem PySem.Spec PyProof.Rows L2
abbrev W := Bool × D
abbrev EF := PI.Env → Option (W × PI.Env)
abbrev Re (K : PySem.W.Frag) (Z : Addr → Prop) (env : PI.Env) (σ : L2.St) (H : Hp) : Prop := Rel K (fun _ => none) Z env σ H
structure Trn (env : PI.Env) (σ : L2.St) (H : Hp) (env' : PI.Env) (H' : Hp) : Prop where
  own : ∀ a, Own env' σ a → Own env σ a
  keep : ∀ a o, H a = some o → ¬ Own env σ a → H' a = some o
  dom : ∀ a, H a ≠ none → H' a ≠ none
structure Res (K : PySem.W.Frag) (Z : Addr → Prop) (env : PI.Env) (σ : L2.St) (H : Hp) (w : W) (env' : PI.Env) (v : V) (H' : Hp) : Prop where
  re : Re K Z env' σ H'
  tr : Trn env σ H env' H'
  rep : Rep K (Av env' σ Z) H' v w.2
  new : w.1 = true → ∃ (a : Addr) (vs : List V) (ds : List D), v = V.ref a ∧ w.2 = .lst ds ∧ H a = none ∧ H' a = some (.lst vs) ∧ Re K (fun b => Z b ∨ b = a) env' σ H' ∧ RepAll K (Av env' σ fun b => Z b ∨ b = a) H' vs ds
/-- the reading of an expression by what it is worth -/
def SEr (K : PySem.W.Frag) (f : EF) : TE := fun σ H Q => ∃ Z env w env', Re K Z env σ H ∧ f env = some (w, env') ∧ ∀ v H', Res K Z env σ H w env' v H' → Q v H'
/-- an operand: an expression, a name that is only looked at -/
inductive Opd where
  | ex (f : EF) | sl (i : Nat)
inductive Op where
  | val (d : D) | slot (i : Nat)
def Opd.run : Opd → PI.Env → Option (Op × PI.Env)
  | .ex f, env => (f env).bind fun r => some (.val r.1.2, r.2)
  | .sl i, env => match env[i]? with
    | some (some _) => some (.slot i, env)
    | _ => none
def Op.get (env : PI.Env) : Op → Option D
  | .val d => some d
  | .slot i => match env[i]? with
    | some (some p) => some p.2
    | _ => none
def SOr (K : PySem.W.Frag) : Opd → TE
  | .ex f => SEr K f
  | .sl i => tVar i
def ORep (K : PySem.W.Frag) (S : Addr → Prop) (σ : L2.St) (H : Hp) : Op → V → Prop
  | .val d, v => Rep K S H v d
  | .slot i, v => σ[i]? = some (some v)
section
variable {K : PySem.W.Frag} {Z : Addr → Prop} {env env1 env2 : PI.Env} {σ : L2.St} {H H1 H2 : Hp}
theorem Trn.refl : Trn env σ H env H := ⟨fun _ q => q, fun _ _ q _ => q, fun _ q => q⟩
theorem Trn.trans (a : Trn env σ H env1 H1) (b : Trn env1 σ H1 env2 H2) : Trn env σ H env2 H2 :=
  ⟨fun x q => a.own x (b.own x q), fun x o q n => b.keep x o (a.keep x o q n) fun z => n (a.own x z), fun x q => b.dom x (a.dom x q)⟩
theorem dom_of {H H' : Hp} (h : ∀ a o, H a = some o → H' a = some o) : ∀ a, H a ≠ none → H' a ≠ none := fun a q => by
  cases e : H a with
  | none => exact absurd e q
  | some o =>
    rw [h a o e]
    exact fun z => by cases z
theorem Trn.grow (h : ∀ a o, H a = some o → H1 a = some o) : Trn env σ H env H1 := ⟨fun _ q => q, fun a o e _ => h a o e, dom_of h⟩
theorem Trn.av (a : Trn env σ H env1 H1) : ∀ b, Av env1 σ Z b → Av env σ Z b := fun b q => by
  rcases q with q | q
  · exact .inl (a.own b q)
  · exact .inr q
theorem Trn.rep (a : Trn env σ H env1 H1) {v : V} {d : D} (r : Rep K (Av env σ Z) H v d) : Rep K (Av env1 σ Z) H1 v d :=
  r.step (fun b o e n => a.keep b o e fun z => n (.inl z)) fun b q => .inl (a.av b q)
theorem Trn.repAll (a : Trn env σ H env1 H1) {v : List V} {d : List D} (r : RepAll K (Av env σ Z) H v d) : RepAll K (Av env1 σ Z) H1 v d :=
  r.step (fun b o e n => a.keep b o e fun z => n (.inl z)) fun b q => .inl (a.av b q)
theorem ORep.step {o : Op} {v : V} (a : Trn env σ H env1 H1) (r : ORep K (Av env σ Z) σ H o v) : ORep K (Av env1 σ Z) σ H1 o v := by
  cases o with
  | val d => exact a.rep r
  | slot i => exact r
theorem ORep.view {o : Op} {v : V} {d : D} (R : Re K Z env σ H) (r : ORep K (Av env σ Z) σ H o v) (g : o.get env = some d) : View K (Av env σ Z) H v d := by
  cases o with
  | val e =>
    cases g
    exact .inl r
  | slot i =>
    dsimp only [Op.get] at g
    have r : σ[i]? = some (some v) := r
    cases q : env[i]? with
    | none =>
      rw [q] at g
      cases g
    | some x =>
      rw [q] at g
      cases x with
      | none => cases g
      | some p =>
        obtain ⟨b, e⟩ := p
        cases g
        cases b with
        | false =>
          obtain ⟨u, h1, h2⟩ := R.sh i _ q
          rw [r] at h1
          cases h1
          exact .inl h2
        | true =>
          obtain ⟨a, vs, ds, h1, h2, h3, h4⟩ := R.ow i _ q
          rw [r] at h1
          cases h1
          exact .inr ⟨a, vs, ds, rfl, h2, h3, h4⟩
theorem Re.slot (R : Re K Z env σ H) {i : Nat} {p : Bool × D} (h : env[i]? = some (some p)) : ∃ v : V, σ[i]? = some (some v) := by
  obtain ⟨b, e⟩ := p
  cases b with
  | false =>
    obtain ⟨v, h1, _⟩ := R.sh i e h
    exact ⟨v, h1⟩
  | true =>
    obtain ⟨a, _, _, h1, _⟩ := R.ow i e h
    exact ⟨.ref a, h1⟩
theorem SOr.go {a : Opd} {o : Op} {Q : VK} (R : Re K Z env σ H) (h : a.run env = some (o, env1)) (q : ∀ v H1, Re K Z env1 σ H1 → Trn env σ H env1 H1 → ORep K (Av env1 σ Z) σ H1 o v → Q v H1) : SOr K a σ H Q := by
  cases a with
  | ex f =>
    dsimp only [Opd.run] at h
    cases e : f env with
    | none =>
      rw [e] at h
      cases h
    | some r =>
      rw [e] at h
      obtain ⟨w, e1⟩ := r
      cases h
      exact ⟨Z, env, w, e1, R, e, fun v H' x => q v H' x.re x.tr x.rep⟩
  | sl i =>
    dsimp only [Opd.run] at h
    cases e : env[i]? with
    | none =>
      rw [e] at h
      cases h
    | some x =>
      rw [e] at h
      cases x with
      | none => cases h
      | some p =>
        cases h
        obtain ⟨v, h1⟩ := R.slot e
        exact ⟨v, h1, q v H R .refl h1⟩
theorem made_res {w : W} {v : V} (R : Re K Z env1 σ H1) (t : Trn env σ H env1 H1) (m : Made K (Av env1 σ Z) H1 w v H2) : Res K Z env σ H w env1 v H2 := by
  have R2 : Re K Z env1 σ H2 := R.grow0 m.keep
  have t2 : Trn env σ H env1 H2 := t.trans (.grow m.keep)
  obtain ⟨b, d⟩ := w
  cases b with
  | false => exact ⟨R2, t2, m.old rfl, fun e => (nomatch e)⟩
  | true =>
    obtain ⟨a, vs, ds, h1, h2, h3, h4, h5⟩ := m.new rfl
    have na : ¬ Av env1 σ Z a := fun z => R.dom a z h3
    have hs : ∀ x, Av env1 σ (fun b => Z b ∨ b = a) x → Av env1 σ Z x ∨ x = a := fun x q => by
      rcases q with q | q | q
      · exact .inl (.inl q)
      · exact .inl (.inr q)
      · exact .inr q
    have hr : RepAll K (Av env1 σ fun b => Z b ∨ b = a) H2 vs ds := h5.less fun x q => hs x q
    refine ⟨R2, t2, ?_, fun _ => ⟨a, vs, ds, h1, h2, ?_, h4, ?_, hr⟩⟩
    · have h2 : d = .lst ds := h2
      show Rep K (Av env1 σ Z) H2 v d
      rw [h1, h2]
      exact .lst h4 na (hr.less fun x q => by
        rcases q with q | q
        · exact .inl q
        · exact .inr (.inl q))
    · cases e : H a with
      | none => rfl
      | some o => exact absurd h3 (t.dom a (by rw [e]; exact fun z => by cases z))
    · refine R.grow m.keep (fun x q => ?_) fun x q => ?_
      · rcases q with q | q
        · exact .inl q
        · subst q
          exact .inr h3
      · rcases q with q | q
        · exact dom_of m.keep x (R.z x q).1
        · subst q
          rw [h4]
          exact fun z => by cases z
end
/-! ### primitives -/
def P1Ok (K : PySem.W.Frag) (r : V → Hp → VK → Prop) (f : D → Option W) : Prop := ∀ (S : Addr → Prop) (H : Hp) (v : V) (d : D) (w : W) (Q : VK), (∀ a, S a → H a ≠ none) → View K S H v d → f d = some w → (∀ v' H', Made K S H w v' H' → Q v' H') → r v H Q
def P2Ok (K : PySem.W.Frag) (r : R2) (f : D → D → Option W) : Prop := ∀ (S : Addr → Prop) (H : Hp) (x y : V) (d e : D) (w : W) (Q : VK), (∀ a, S a → H a ≠ none) → View K S H x d → View K S H y e → f d e = some w → (∀ v' H', Made K S H w v' H' → Q v' H') → r x y H Q
def PnOk (K : PySem.W.Frag) (r : List V → Hp → VK → Prop) (f : List D → Option W) : Prop := ∀ (S : Addr → Prop) (H : Hp) (vs : List V) (ds : List D) (w : W) (Q : VK), (∀ a, S a → H a ≠ none) → ViewAll K S H vs ds → f ds = some w → (∀ v' H', Made K S H w v' H' → Q v' H') → r vs H Q
def e1 (f : D → Option W) (a : Opd) : EF := fun env => (a.run env).bind fun r => (r.1.get r.2).bind fun d => (f d).bind fun w => some (w, r.2)
def e2 (f : D → D → Option W) (a b : Opd) : EF := fun env => (a.run env).bind fun r => (b.run r.2).bind fun s => (r.1.get s.2).bind fun d => (s.1.get s.2).bind fun e => (f d e).bind fun w => some (w, s.2)
def runs : List Opd → PI.Env → Option (List Op × PI.Env)
  | [], env => some ([], env)
  | a :: as, env => (a.run env).bind fun r => (runs as r.2).bind fun s => some (r.1 :: s.1, s.2)
def gets (env : PI.Env) : List Op → Option (List D)
  | [] => some []
  | o :: os => (o.get env).bind fun d => (gets env os).bind fun ds => some (d :: ds)
def eN (f : List D → Option W) (as : List Opd) : EF := fun env => (runs as env).bind fun r => (gets r.2 r.1).bind fun ds => (f ds).bind fun w => some (w, r.2)
def SAr (K : PySem.W.Frag) : List Opd → TA
  | [] => tNil
  | a :: as => tCons (SOr K a) (SAr K as)
inductive OReps (K : PySem.W.Frag) (S : Addr → Prop) (σ : L2.St) (H : Hp) : List Op → List V → Prop
  | nil : OReps K S σ H [] []
  | cons {o : Op} {os : List Op} {v : V} {vs : List V} : ORep K S σ H o v → OReps K S σ H os vs → OReps K S σ H (o :: os) (v :: vs)
theorem obind {α β : Type} {x : Option α} {f : α → Option β} {b : β} (h : x.bind f = some b) : ∃ a, x = some a ∧ f a = some b := Option.bind_eq_some_iff.mp h
section
variable {K : PySem.W.Frag} {Z : Addr → Prop} {env env1 env2 : PI.Env} {σ : L2.St} {H H1 H2 : Hp}
theorem OReps.step {os : List Op} {vs : List V} (a : Trn env σ H env1 H1) : OReps K (Av env σ Z) σ H os vs → OReps K (Av env1 σ Z) σ H1 os vs := fun r => by
  induction r with
  | nil => exact .nil
  | cons r _ ih => exact .cons (r.step a) ih
theorem OReps.views {os : List Op} {vs : List V} (R : Re K Z env σ H) (r : OReps K (Av env σ Z) σ H os vs) : ∀ {ds : List D}, gets env os = some ds → ViewAll K (Av env σ Z) H vs ds := by
  induction r with
  | nil =>
    intro ds h
    cases h
    exact .nil
  | cons r _ ih =>
    intro ds h
    unfold gets at h
    obtain ⟨d, h1, h⟩ := obind h
    obtain ⟨es, h2, h⟩ := obind h
    cases h
    exact .cons (r.view R h1) (ih h2)
theorem SAr.go : ∀ {as : List Opd} {env : PI.Env} {H : Hp} {os : List Op} {env1 : PI.Env} {Q : List V → Hp → Prop}, Re K Z env σ H → runs as env = some (os, env1) → (∀ vs H1, Re K Z env1 σ H1 → Trn env σ H env1 H1 → OReps K (Av env1 σ Z) σ H1 os vs → Q vs H1) → SAr K as σ H Q
  | [], env, H, os, env1, Q, R, h, q => by
    cases h
    exact q [] H R .refl .nil
  | a :: as, env, H, os, env1, Q, R, h, q => by
    unfold runs at h
    obtain ⟨r, h1, h⟩ := obind h
    obtain ⟨s, h2, h⟩ := obind h
    cases h
    refine SOr.go R h1 fun v H1 R1 t1 o1 => ?_
    exact SAr.go R1 h2 fun vs H2 R2 t2 o2 => q (v :: vs) H2 R2 (t1.trans t2) (.cons (o1.step t2) o2)
theorem e1_go {r : V → Hp → VK → Prop} {f : D → Option W} {a : Opd} (p : P1Ok K r f) {Q : VK} (h : SEr K (e1 f a) σ H Q) : SOr K a σ H fun x H1 => r x H1 Q := by
  obtain ⟨Z, env, w, env', R, e, q⟩ := h
  obtain ⟨s, h1, e⟩ := obind e
  obtain ⟨d, h2, e⟩ := obind e
  obtain ⟨w', h3, e⟩ := obind e
  cases e
  exact SOr.go R h1 fun v H1 R1 t1 o1 => p _ H1 v d w Q R1.dom (o1.view R1 h2) h3 fun v' H' m => q v' H' (made_res R1 t1 m)
theorem e2_go {r : R2} {f : D → D → Option W} {a b : Opd} (p : P2Ok K r f) {Q : VK} (h : SEr K (e2 f a b) σ H Q) : tOp r (SOr K a) (SOr K b) σ H Q := by
  obtain ⟨Z, env, w, env', R, e, q⟩ := h
  obtain ⟨s, h1, e⟩ := obind e
  obtain ⟨t, h2, e⟩ := obind e
  obtain ⟨d, h3, e⟩ := obind e
  obtain ⟨d', h4, e⟩ := obind e
  obtain ⟨w', h5, e⟩ := obind e
  cases e
  exact SOr.go R h1 fun x H1 R1 t1 o1 => SOr.go R1 h2 fun y H2 R2 t2 o2 => p _ H2 x y d d' w Q R2.dom ((o1.step t2).view R2 h3) (o2.view R2 h4) h5 fun v' H' m => q v' H' (made_res R2 (t1.trans t2) m)
theorem eN_go {r : List V → Hp → VK → Prop} {f : List D → Option W} {as : List Opd} (p : PnOk K r f) {Q : VK} (h : SEr K (eN f as) σ H Q) : SAr K as σ H fun vs H1 => r vs H1 Q := by
  obtain ⟨Z, env, w, env', R, e, q⟩ := h
  obtain ⟨s, h1, e⟩ := obind e
  obtain ⟨ds, h2, e⟩ := obind e
  obtain ⟨w', h3, e⟩ := obind e
  cases e
  exact SAr.go R h1 fun vs H1 R1 t1 o1 => p _ H1 vs ds w Q R1.dom (o1.views R1 h2) h3 fun v' H' m => q v' H' (made_res R1 t1 m)
end
/-! ### the judgements weakened -/
section
variable {X : Cx} {e : Expr} {st : Stmt} {sts : List Stmt}
theorem PEi {t t' : TE} (h : PE X e t) (i : ∀ σ H Q, t' σ H Q → t σ H Q) : PE X e t' := ⟨fun pins s σ H Q I q => h.run pins s σ H Q I (i σ H Q q)⟩
theorem PTi {t t' : TT} (h : PT X e t) (i : ∀ σ H Q, t' σ H Q → t σ H Q) : PT X e t' := ⟨fun pins s σ H Q I q => h.run pins s σ H Q I (i σ H Q q)⟩
theorem PAi {es : List Expr} {t t' : TA} (h : PA X es t) (i : ∀ σ H Q, t' σ H Q → t σ H Q) : PA X es t' := ⟨fun pos pins s σ H Q I q => h.run pos pins s σ H Q I (i σ H Q q)⟩
theorem PSi {t t' : TS} (h : PS X st t) (i : ∀ D σ H, t' D σ H → t D σ H) : PS X st t' := ⟨fun pins s σ H D I q => h.run pins s σ H D I (i D σ H q)⟩
theorem PSsi {t t' : TS} (h : PSs X sts t) (i : ∀ D σ H, t' D σ H → t D σ H) : PSs X sts t' := ⟨fun pins s σ H D I q => h.run pins s σ H D I (i D σ H q)⟩
end
/-! ### names, constants -/
def eVar (i : Nat) : EF := fun env => match env[i]? with
  | some (some (true, d)) => some ((false, d), env.set i (some (false, d)))
  | some (some (false, d)) => some ((false, d), env)
  | _ => none
def eC (d : D) : EF := fun env => some ((false, d), env)
section
variable {K : PySem.W.Frag} {σ : L2.St} {H : Hp}
theorem eVar_go {i : Nat} {Q : VK} (h : SEr K (eVar i) σ H Q) : tVar i σ H Q := by
  obtain ⟨Z, env, w, env', R, e, q⟩ := h
  unfold eVar at e
  split at e
  · rename_i d g
    cases e
    obtain ⟨R2, v, h1, h2⟩ := R.share g
    exact ⟨v, h1, q v H ⟨R2, ⟨fun a z => own_share z, fun _ _ z _ => z, fun _ z => z⟩, h2, fun z => (nomatch z)⟩⟩
  · rename_i d g
    cases e
    obtain ⟨v, h1, h2⟩ := R.sh i d g
    exact ⟨v, h1, q v H ⟨R, .refl, h2, fun z => (nomatch z)⟩⟩
  · cases e
theorem eC_go {v : V} {d : D} (r : ∀ S H, Rep K S H v d) {Q : VK} (h : SEr K (eC d) σ H Q) : tC v σ H Q := by
  obtain ⟨Z, env, w, env', R, e, q⟩ := h
  cases e
  exact q v H ⟨R, .refl, r _ _, fun z => (nomatch z)⟩
end
section
variable {X : Cx} {pos : Pos}
theorem se_var (i : Nat) {x : Str} (hN : X.N[i]? = some x := by rfl) (hv : Vis X.env.scope x := by first | exact Or.inl rfl | exact Or.inr (Or.inl rfl) | exact Or.inr (Or.inr rfl)) (hd : (x == ("__debug__" : Str)) = false := by decide)
    (hcd : (x == ("__classdict__" : Str)) = false := by decide) : PE X (.Name x pos) (SEr X.K (eVar i)) := PEi (pv i hN hv hd hcd) fun _ _ _ h => eVar_go h
theorem so_var (i : Nat) {x : Str} (hN : X.N[i]? = some x := by rfl) (hv : Vis X.env.scope x := by first | exact Or.inl rfl | exact Or.inr (Or.inl rfl) | exact Or.inr (Or.inr rfl)) (hd : (x == ("__debug__" : Str)) = false := by decide)
    (hcd : (x == ("__classdict__" : Str)) = false := by decide) : PE X (.Name x pos) (SOr X.K (.sl i)) := pv i hN hv hd hcd
theorem so_ex {e : Expr} {f : EF} (h : PE X e (SEr X.K f)) : PE X e (SOr X.K (.ex f)) := h
theorem se_int {i : Int} {j} : PE X (.Constant (.int i) j pos) (SEr X.K (eC (.int i))) := PEi pe_int fun _ _ _ h => eC_go (fun _ _ => .int i) h
theorem se_bl {b : Bool} {j} : PE X (.Constant (.bool b) j pos) (SEr X.K (eC (.bl b))) := PEi pe_bl fun _ _ _ h => eC_go (fun _ _ => .bl b) h
theorem se_non {j} : PE X (.Constant .none j pos) (SEr X.K (eC .non)) := PEi pe_non fun _ _ _ h => eC_go (fun _ _ => .non) h
theorem se_str {x : Str} {j} : PE X (.Constant (.str x) j pos) (SEr X.K (eC (.str x))) := PEi pe_str fun _ _ _ h => eC_go (fun _ _ => .str x) h
/-- a constant of the module -/
theorem se_glob {x : Str} {d : D} {v : V} {u : Value} (hm : X.mg x = some u) (r : RelV v u) (rp : ∀ S H, Rep X.K S H v d) (hg : Gl X x := by rfl) (hd : (x == ("__debug__" : Str)) = false := by decide) : PE X (.Name x pos) (SEr X.K (eC d)) :=
  PEi (pe_glob hg hm r hd) fun _ _ _ h => eC_go rp h
theorem sa_nil : PA X [] (SAr X.K []) := pa_nil
theorem sa_cons {e : Expr} {es : List Expr} {a : Opd} {as : List Opd} (h : PE X e (SOr X.K a)) (hr : PA X es (SAr X.K as)) (hs : starEach (e :: es) X.env = (false, eval e X.env) :: starEach es X.env := by rfl) : PA X (e :: es) (SAr X.K (a :: as)) := pa_cons h hr hs
/-! ### operators -/
theorem se_op {op : Operator} {r : R2} {f : D → D → Option W} {a b : Expr} {oa ob : Opd} (ho : L2.OpR X (binaryOp op) r) (p : P2Ok X.K r f) (ha : PE X a (SOr X.K oa)) (hb : PE X b (SOr X.K ob)) : PE X (.BinOp a op b pos) (SEr X.K (e2 f oa ob)) :=
  PEi (pe_op ho ha hb) fun _ _ _ h => e2_go p h
theorem se_cmp {op : CmpOp} {r : R2} {f : D → D → Option W} {a b : Expr} {oa ob : Opd} (ho : L2.OpR X (compareOp op) r) (p : P2Ok X.K r f) (ha : PE X a (SOr X.K oa)) (hb : PE X b (SOr X.K ob)) (hm : behindInMarks op b = false := by rfl) : PE X (.Compare a [op] [b] pos) (SEr X.K (e2 f oa ob)) :=
  PEi (pe_cmpR ho ha hb hm) fun _ _ _ h => e2_go p h
theorem se_un {op : UnaryOp} {r : V → Hp → VK → Prop} {f : D → Option W} {a : Expr} {oa : Opd} (ho : UnR X (unaryOp op) r) (p : P1Ok X.K r f) (ha : PE X a (SOr X.K oa)) : PE X (.UnaryOp op a pos) (SEr X.K (e1 f oa)) :=
  PEi (pe_un ho ha) fun _ _ _ h => e1_go p h
theorem se_ix {r : R2} {f : D → D → Option W} {a b : Expr} {oa ob : Opd} (ho : IxR X r) (p : P2Ok X.K r f) (ha : PE X a (SOr X.K oa)) (hb : PE X b (SOr X.K ob)) (hs : PlainIx b := by exact fun _ _ => rfl) : PE X (.Subscript a b pos) (SEr X.K (e2 f oa ob)) :=
  PEi (pe_ix ho ha hb hs) fun _ _ _ h => e2_go p h
theorem se_callB {x : Str} {p2 : Pos} {e : Expr} {es : List Expr} {id : String} {r : List V → Hp → VK → Prop} {f : List D → Option W} {as : List Opd} (hc : CallR X (.builtin id) r) (p : PnOk X.K r f) (hm : X.mg x = none) (hv : bootBuiltins x = some (.builtin id)) (ha : PA X (e :: es) (SAr X.K as)) (hg : Gl X x := by rfl)
    (hn : x ≠ "__name__" := by decide) (hdb : (x == ("__debug__" : Str)) = false := by decide)
    (he : starEach (e :: es) X.env = (false, eval e X.env) :: starEach es X.env := by rfl) (hpl : (backTo pos (starEach es X.env)).any (·.1) = false := by rfl) : PE X (.Call (.Name x p2) (e :: es) [] pos) (SEr X.K (eN f as)) :=
  PEi (pe_callB hc hg hm hv ha hn hdb he hpl) fun _ _ _ h => eN_go p h
theorem se_callTy {x : Str} {p2 : Pos} {e : Expr} {es : List Expr} {T : String} {r : List V → Hp → VK → Prop} {f : List D → Option W} {as : List Opd} (hc : CallR X (.type T) r) (p : PnOk X.K r f) (hm : X.mg x = none) (hv : bootBuiltins x = some (.type T)) (ha : PA X (e :: es) (SAr X.K as)) (hg : Gl X x := by rfl)
    (hn : x ≠ "__name__" := by decide) (hdb : (x == ("__debug__" : Str)) = false := by decide)
    (he : starEach (e :: es) X.env = (false, eval e X.env) :: starEach es X.env := by rfl) (hpl : (backTo pos (starEach es X.env)).any (·.1) = false := by rfl) : PE X (.Call (.Name x p2) (e :: es) [] pos) (SEr X.K (eN f as)) :=
  PEi (pe_callTy hc hg hm hv ha hn hdb he hpl) fun _ _ _ h => eN_go p h
end
end PI

namespace PI
open PySem PySem.Spec PyProof.Rows L2
/-! ### tests -/
def STr (K : PySem.W.Frag) (f : EF) : TT := fun σ H Q => ∃ Z env fr b env', Re K Z env σ H ∧ f env = some ((fr, .bl b), env') ∧ ∀ H', Re K Z env' σ H' → Trn env σ H env' H' → Q b H'
def eAnd (f g : EF) : EF := fun env => (f env).bind fun r => match r.1.2 with
  | .bl true => g r.2
  | .bl false => some ((false, .bl false), r.2)
  | _ => none
def eOr (f g : EF) : EF := fun env => (f env).bind fun r => match r.1.2 with
  | .bl true => some ((false, .bl true), r.2)
  | .bl false => g r.2
  | _ => none
def eNot (f : EF) : EF := fun env => (f env).bind fun r => match r.1.2 with
  | .bl b => some ((false, .bl (!b)), r.2)
  | _ => none
def eIf (c f g : EF) : EF := fun env => (c env).bind fun r => match r.1.2 with
  | .bl true => f r.2
  | .bl false => g r.2
  | _ => none
section
variable {K : PySem.W.Frag} {Z : Addr → Prop} {env env1 env2 : PI.Env} {σ : L2.St} {H H1 H2 : Hp} {w : W} {v : V}
theorem Res.after (t : Trn env σ H env1 H1) (r : Res K Z env1 σ H1 w env2 v H2) : Res K Z env σ H w env2 v H2 :=
  ⟨r.re, t.trans r.tr, r.rep, fun e => by
    obtain ⟨a, vs, ds, h1, h2, h3, h4⟩ := r.new e
    refine ⟨a, vs, ds, h1, h2, ?_, h4⟩
    cases q : H a with
    | none => rfl
    | some o => exact absurd h3 (t.dom a (by rw [q]; exact fun z => by cases z))⟩
theorem res_old {d : D} (R : Re K Z env1 σ H1) (t : Trn env σ H env1 H1) (r : Rep K (Av env1 σ Z) H1 v d) : Res K Z env σ H (false, d) env1 v H1 := ⟨R, t, r, fun e => (nomatch e)⟩
theorem rep_bl {S : Addr → Prop} {v : V} {b : Bool} (h : Rep K S H v (.bl b)) : v = .bl b := by
  cases h
  rfl
theorem rep_int {S : Addr → Prop} {v : V} {b : Int} (h : Rep K S H v (.int b)) : v = .int b := by
  cases h
  rfl
theorem st_val {f : EF} {Q : Bool → Hp → Prop} (h : STr K f σ H Q) : tB (SEr K f) σ H Q := by
  obtain ⟨Z, env, fr, b, env', R, e, q⟩ := h
  exact ⟨Z, env, (fr, .bl b), env', R, e, fun v H' x => ⟨b, rep_bl x.rep, q H' x.re x.tr⟩⟩
theorem st_and_go {f g : EF} {Q : Bool → Hp → Prop} (h : STr K (eAnd f g) σ H Q) : tAnd (STr K f) (STr K g) σ H Q := by
  obtain ⟨Z, env, fr, b, env', R, e, q⟩ := h
  obtain ⟨r, h1, e⟩ := obind e
  obtain ⟨⟨fr1, d⟩, env1⟩ := r
  cases d with
  | bl c =>
    refine ⟨Z, env, fr1, c, env1, R, h1, fun H1 R1 t1 => ?_⟩
    cases c with
    | true => exact iteT ⟨Z, env1, fr, b, env', R1, e, fun H2 R2 t2 => q H2 R2 (t1.trans t2)⟩
    | false =>
      cases e
      exact iteF (q H1 R1 t1)
  | _ => cases e
theorem st_or_go {f g : EF} {Q : Bool → Hp → Prop} (h : STr K (eOr f g) σ H Q) : tOr (STr K f) (STr K g) σ H Q := by
  obtain ⟨Z, env, fr, b, env', R, e, q⟩ := h
  obtain ⟨r, h1, e⟩ := obind e
  obtain ⟨⟨fr1, d⟩, env1⟩ := r
  cases d with
  | bl c =>
    refine ⟨Z, env, fr1, c, env1, R, h1, fun H1 R1 t1 => ?_⟩
    cases c with
    | false => exact iteF ⟨Z, env1, fr, b, env', R1, e, fun H2 R2 t2 => q H2 R2 (t1.trans t2)⟩
    | true =>
      cases e
      exact iteT (q H1 R1 t1)
  | _ => cases e
theorem st_not_go {f : EF} {Q : Bool → Hp → Prop} (h : STr K (eNot f) σ H Q) : tNot (STr K f) σ H Q := by
  obtain ⟨Z, env, fr, b, env', R, e, q⟩ := h
  obtain ⟨r, h1, e⟩ := obind e
  obtain ⟨⟨fr1, d⟩, env1⟩ := r
  cases d with
  | bl c =>
    cases e
    exact ⟨Z, env, fr1, c, env1, R, h1, fun H1 R1 t1 => q H1 R1 t1⟩
  | _ => cases e
theorem eAnd_go {f g : EF} {Q : VK} (h : SEr K (eAnd f g) σ H Q) : tAndV (SEr K f) (SEr K g) σ H Q := by
  obtain ⟨Z, env, w, env', R, e, q⟩ := h
  obtain ⟨r, h1, e⟩ := obind e
  obtain ⟨⟨fr1, d⟩, env1⟩ := r
  cases d with
  | bl c =>
    refine ⟨Z, env, _, env1, R, h1, fun v H1 x => ⟨c, rep_bl x.rep, ?_⟩⟩
    cases c with
    | true => exact iteT ⟨Z, env1, w, env', x.re, e, fun v2 H2 y => q v2 H2 (y.after x.tr)⟩
    | false =>
      cases e
      exact iteF (q _ H1 (res_old x.re x.tr (.bl false)))
  | _ => cases e
theorem eOr_go {f g : EF} {Q : VK} (h : SEr K (eOr f g) σ H Q) : tOrV (SEr K f) (SEr K g) σ H Q := by
  obtain ⟨Z, env, w, env', R, e, q⟩ := h
  obtain ⟨r, h1, e⟩ := obind e
  obtain ⟨⟨fr1, d⟩, env1⟩ := r
  cases d with
  | bl c =>
    refine ⟨Z, env, _, env1, R, h1, fun v H1 x => ⟨c, rep_bl x.rep, ?_⟩⟩
    cases c with
    | false => exact iteF ⟨Z, env1, w, env', x.re, e, fun v2 H2 y => q v2 H2 (y.after x.tr)⟩
    | true =>
      cases e
      exact iteT (q _ H1 (res_old x.re x.tr (.bl true)))
  | _ => cases e
theorem eNot_go {f : EF} {Q : VK} (h : SEr K (eNot f) σ H Q) : tNotV (SEr K f) σ H Q := by
  obtain ⟨Z, env, w, env', R, e, q⟩ := h
  obtain ⟨r, h1, e⟩ := obind e
  obtain ⟨⟨fr1, d⟩, env1⟩ := r
  cases d with
  | bl c =>
    cases e
    exact ⟨Z, env, _, env1, R, h1, fun v H1 x => ⟨c, rep_bl x.rep, q _ H1 (res_old x.re x.tr (.bl _))⟩⟩
  | _ => cases e
theorem eIf_go {c f g : EF} {Q : VK} (h : SEr K (eIf c f g) σ H Q) : tIf (STr K c) (SEr K f) (SEr K g) σ H Q := by
  obtain ⟨Z, env, w, env', R, e, q⟩ := h
  obtain ⟨r, h1, e⟩ := obind e
  obtain ⟨⟨fr1, d⟩, env1⟩ := r
  cases d with
  | bl c =>
    refine ⟨Z, env, fr1, c, env1, R, h1, fun H1 R1 t1 => ?_⟩
    cases c with
    | true => exact iteT ⟨Z, env1, w, env', R1, e, fun v2 H2 y => q v2 H2 (y.after t1)⟩
    | false => exact iteF ⟨Z, env1, w, env', R1, e, fun v2 H2 y => q v2 H2 (y.after t1)⟩
  | _ => cases e
end
section
variable {X : Cx} {pos : Pos} {a b c : Expr} {rest : List Expr} {f g h : EF}
/-- a test by its value -/
theorem st_of (p : PE X a (SEr X.K f)) (he : ∀ whole, isTrue a X.env whole = (do let v ← whole; standAt a.pos; holding [v] (truthy v)) := by intro _; rfl) : PT X a (STr X.K f) := PTi (pt_val p he) fun _ _ _ q => st_val q
theorem tB_test (t : TE) : tB t = tTest t := rfl
theorem st_cmp {op : CmpOp} {r : R2} {f : D → D → Option W} {oa ob : Opd} (ho : L2.OpR X (compareOp op) r) (p : P2Ok X.K r f) (ha : PE X a (SOr X.K oa)) (hb : PE X b (SOr X.K ob)) (hm : behindInMarks op b = false := by rfl) : PT X (.Compare a [op] [b] pos) (STr X.K (e2 f oa ob)) := by
  refine PTi (pt_cmpR ho ha hb hm) fun σ H Q q => ?_
  have q := st_val q
  exact e2_go (K := X.K) (Q := fun x H1 => ∃ c, x = .bl c ∧ Q c H1) p q
theorem st_and (ha : PT X a (STr X.K f)) (hb : PW X (.BoolOp .And (b :: rest) pos) (STr X.K g)) : PW X (.BoolOp .And (a :: b :: rest) pos) (STr X.K (eAnd f g)) :=
  ⟨fun wh pins s σ H Q I q => (pw_and ha hb).run wh pins s σ H Q I (st_and_go q)⟩
theorem st_and1 (ha : PT X a (STr X.K f)) : PW X (.BoolOp .And [a] pos) (STr X.K f) := pw_and1 ha
theorem st_or (ha : PT X a (STr X.K f)) (hb : PW X (.BoolOp .Or (b :: rest) pos) (STr X.K g)) : PW X (.BoolOp .Or (a :: b :: rest) pos) (STr X.K (eOr f g)) :=
  ⟨fun wh pins s σ H Q I q => (pw_or ha hb).run wh pins s σ H Q I (st_or_go q)⟩
theorem st_or1 (ha : PT X a (STr X.K f)) : PW X (.BoolOp .Or [a] pos) (STr X.K f) := pw_or1 ha
theorem st_not (ha : PT X a (STr X.K f)) : PT X (.UnaryOp .Not a pos) (STr X.K (eNot f)) := PTi (pt_not ha) fun _ _ _ q => st_not_go q
theorem se_and (ha : PE X a (SEr X.K f)) (hb : PE X (.BoolOp .And (b :: rest) pos) (SEr X.K g)) : PE X (.BoolOp .And (a :: b :: rest) pos) (SEr X.K (eAnd f g)) := PEi (pe_and ha hb) fun _ _ _ q => eAnd_go q
theorem se_or (ha : PE X a (SEr X.K f)) (hb : PE X (.BoolOp .Or (b :: rest) pos) (SEr X.K g)) : PE X (.BoolOp .Or (a :: b :: rest) pos) (SEr X.K (eOr f g)) := PEi (pe_or ha hb) fun _ _ _ q => eOr_go q
theorem se_one {op} (ha : PE X a (SEr X.K f)) : PE X (.BoolOp op [a] pos) (SEr X.K f) := pe_one ha
theorem se_not (ha : PE X a (SEr X.K f)) : PE X (.UnaryOp .Not a pos) (SEr X.K (eNot f)) := PEi (pe_not ha) fun _ _ _ q => eNot_go q
theorem se_if (hc : PT X c (STr X.K h)) (ha : PE X a (SEr X.K f)) (hb : PE X b (SEr X.K g)) : PE X (.IfExp c a b pos) (SEr X.K (eIf h f g)) := PEi (pe_ifExp hc ha hb) fun _ _ _ q => eIf_go q
end
/-! ### values in a row -/
def vals : List EF → PI.Env → Option (List D × PI.Env)
  | [], env => some ([], env)
  | f :: fs, env => (f env).bind fun r => (vals fs r.2).bind fun s => some (r.1.2 :: s.1, s.2)
def SVr (K : PySem.W.Frag) : List EF → TA
  | [] => tNil
  | f :: fs => tCons (SEr K f) (SVr K fs)
def eTup (fs : List EF) : EF := fun env => (vals fs env).bind fun r => some ((false, .tup r.1), r.2)
def eLst (fs : List EF) : EF := fun env => (vals fs env).bind fun r => some ((true, .lst r.1), r.2)
section
variable {K : PySem.W.Frag} {Z : Addr → Prop} {env env1 env2 : PI.Env} {σ : L2.St} {H H1 H2 : Hp} {w : W} {v : V}
theorem SVr.go : ∀ {fs : List EF} {env : PI.Env} {H : Hp} {ds : List D} {env1 : PI.Env} {Q : List V → Hp → Prop}, Re K Z env σ H → vals fs env = some (ds, env1) → (∀ vs H1, vs.length = fs.length → Re K Z env1 σ H1 → Trn env σ H env1 H1 → RepAll K (Av env1 σ Z) H1 vs ds → Q vs H1) → SVr K fs σ H Q
  | [], env, H, os, env1, Q, R, h, q => by
    cases h
    exact q [] H rfl R .refl .nil
  | a :: as, env, H, os, env1, Q, R, h, q => by
    unfold vals at h
    obtain ⟨r, h1, h⟩ := obind h
    obtain ⟨s, h2, h⟩ := obind h
    cases h
    obtain ⟨w, env2⟩ := r
    refine ⟨Z, env, w, env2, R, h1, fun v H1 x => ?_⟩
    exact SVr.go x.re h2 fun vs H2 l R2 t2 o2 => q (v :: vs) H2 (congrArg Nat.succ l) R2 (x.tr.trans t2) (.cons (t2.rep x.rep) o2)
theorem eTup_go {fs : List EF} (hl : fs.length ≤ 1000) {Q : VK} (h : SEr K (eTup fs) σ H Q) : tTup (SVr K fs) σ H Q := by
  obtain ⟨Z, env, w, env', R, e, q⟩ := h
  obtain ⟨r, h1, e⟩ := obind e
  cases e
  exact SVr.go R h1 fun vs H1 l R1 t1 o1 => ⟨Nat.le_of_lt (small1000 (by omega)), fun p hp => q _ _ (made_res R1 t1 (made_tup hp (fun z => R1.dom p z hp) o1))⟩
theorem eLst_go {fs : List EF} (hl : fs.length ≤ 1000) {Q : VK} (h : SEr K (eLst fs) σ H Q) : tLst (SVr K fs) σ H Q := by
  obtain ⟨Z, env, w, env', R, e, q⟩ := h
  obtain ⟨r, h1, e⟩ := obind e
  cases e
  exact SVr.go R h1 fun vs H1 l R1 t1 o1 => ⟨Nat.le_of_lt (small1000 (by omega)), fun p hp => q _ _ (made_res R1 t1 (made_lst hp o1))⟩
end
section
variable {X : Cx} {pos : Pos} {e : Expr} {es : List Expr} {f : EF} {fs : List EF}
theorem sv_nil : PA X [] (SVr X.K []) := pa_nil
theorem sv_cons (h : PE X e (SEr X.K f)) (hr : PA X es (SVr X.K fs)) (hs : starEach (e :: es) X.env = (false, eval e X.env) :: starEach es X.env := by rfl) : PA X (e :: es) (SVr X.K (f :: fs)) := pa_cons h hr hs
theorem se_tup {x1} (h : PA X es (SVr X.K fs)) (hl : fs.length ≤ 1000 := by decide) : PE X (.Tuple es x1 pos) (SEr X.K (eTup fs)) := PEi (pe_tup h) fun _ _ _ q => eTup_go hl q
theorem se_lst (h : PA X es (SVr X.K fs)) (hl : fs.length ≤ 1000 := by decide) : PE X (.List es pos) (SEr X.K (eLst fs)) := PEi (pe_lst h) fun _ _ _ q => eLst_go hl q
end
/-! ### a < b < c -/
def eCh (f g : D → D → Option W) (a b c : Opd) : EF := fun env => (a.run env).bind fun r => (b.run r.2).bind fun s => (r.1.get s.2).bind fun d => (s.1.get s.2).bind fun e => (f d e).bind fun w => match w with
  | (false, .bl true) => (c.run s.2).bind fun t => (s.1.get t.2).bind fun e => (t.1.get t.2).bind fun k => (g e k).bind fun w => some (w, t.2)
  | (false, .bl false) => some ((false, .bl false), s.2)
  | _ => none
section
variable {K : PySem.W.Frag} {σ : L2.St} {H : Hp}
theorem eCh_go {r r' : R2} {f g : D → D → Option W} {a b c : Opd} (p : P2Ok K r f) (p' : P2Ok K r' g) {Q : VK} (h : SEr K (eCh f g a b c) σ H Q) : tChain r r' (SOr K a) (SOr K b) (SOr K c) σ H Q := by
  obtain ⟨Z, env, w, env', R, e, q⟩ := h
  obtain ⟨s, h1, e⟩ := obind e
  obtain ⟨t, h2, e⟩ := obind e
  obtain ⟨d, h3, e⟩ := obind e
  obtain ⟨d', h4, e⟩ := obind e
  obtain ⟨w', h5, e⟩ := obind e
  refine SOr.go R h1 fun x H1 R1 t1 o1 => SOr.go R1 h2 fun y H2 R2 t2 o2 => p _ H2 x y d d' w' _ R2.dom ((o1.step t2).view R2 h3) (o2.view R2 h4) h5 fun v' H' m => ?_
  obtain ⟨fr, d1⟩ := w'
  cases fr with
  | true => cases e
  | false =>
    cases d1 with
    | bl k =>
      have ev := rep_bl (m.old rfl)
      refine ⟨k, ev, ?_⟩
      have R3 : Re K Z t.2 σ H' := R2.grow0 m.keep
      have t3 : Trn t.2 σ H2 t.2 H' := .grow m.keep
      cases k with
      | false =>
        cases e
        exact iteF (q _ H' (res_old R3 ((t1.trans t2).trans t3) (.bl false)))
      | true =>
        obtain ⟨u, h6, e⟩ := obind e
        obtain ⟨d2, h7, e⟩ := obind e
        obtain ⟨d3, h8, e⟩ := obind e
        obtain ⟨w2, h9, e⟩ := obind e
        cases e
        refine iteT (SOr.go R3 h6 fun z H4 R4 t4 o4 => p' _ H4 y z d2 d3 w Q R4.dom (((o2.step t3).step t4).view R4 h7) (o4.view R4 h8) h9 fun v2 H5 m2 => q v2 H5 (made_res R4 (((t1.trans t2).trans t3).trans t4) m2))
    | _ => cases e
end
section
variable {X : Cx} {pos : Pos} {a b c : Expr}
theorem se_chain {op op' : CmpOp} {r r' : R2} {f g : D → D → Option W} {oa ob oc : Opd} (ho : L2.OpR X (compareOp op) r) (p : P2Ok X.K r f) (ho' : L2.OpR X (compareOp op') r') (p' : P2Ok X.K r' g) (ha : PE X a (SOr X.K oa)) (hb : PE X b (SOr X.K ob)) (hc : PE X c (SOr X.K oc)) (hm : lastMarks [op, op'] [b, c] = false := by rfl) :
    PE X (.Compare a [op, op'] [b, c] pos) (SEr X.K (eCh f g oa ob oc)) := PEi (pe_chain ho ho' ha hb hc (hm := hm)) fun _ _ _ q => eCh_go p p' q
end
/-! ### slices -/
def prt : Option EF → PI.Env → Option (Option Int × PI.Env)
  | none, env => some (none, env)
  | some f, env => (f env).bind fun r => match r.1.2 with
    | .int i => some (some i, r.2)
    | _ => none
def SPr (K : PySem.W.Frag) : Option EF → TO
  | none => tNoPart
  | some f => tPart (SEr K f)
def P3Ok (K : PySem.W.Frag) (r : V → Option Int → Option Int → Hp → VK → Prop) (f : D → Option Int → Option Int → Option W) : Prop := ∀ (S : Addr → Prop) (H : Hp) (v : V) (d : D) (lo hi : Option Int) (w : W) (Q : VK), (∀ a, S a → H a ≠ none) → View K S H v d → f d lo hi = some w → (∀ v' H', Made K S H w v' H' → Q v' H') → r v lo hi H Q
def eSl (f : D → Option Int → Option Int → Option W) (a : Opd) (lo hi : Option EF) : EF := fun env => (a.run env).bind fun r => (prt lo r.2).bind fun s => (prt hi s.2).bind fun t => (r.1.get t.2).bind fun d => (f d s.1 t.1).bind fun w => some (w, t.2)
section
variable {K : PySem.W.Frag} {Z : Addr → Prop} {env env1 : PI.Env} {σ : L2.St} {H : Hp}
theorem SPr.go {f : Option EF} {o : Option Int} {Q : Option Int → Hp → Prop} (R : Re K Z env σ H) (h : prt f env = some (o, env1)) (q : ∀ H1, Re K Z env1 σ H1 → Trn env σ H env1 H1 → Q o H1) : SPr K f σ H Q := by
  cases f with
  | none =>
    cases h
    exact q H R .refl
  | some f =>
    obtain ⟨r, h1, e⟩ := obind h
    obtain ⟨⟨fr1, d⟩, env2⟩ := r
    cases d with
    | int i =>
      cases e
      exact ⟨Z, env, _, env2, R, h1, fun v H1 x => ⟨i, rep_int x.rep, q H1 x.re x.tr⟩⟩
    | _ => cases e
theorem eSl_go {r : V → Option Int → Option Int → Hp → VK → Prop} {f : D → Option Int → Option Int → Option W} {a : Opd} {lo hi : Option EF} (p : P3Ok K r f) {Q : VK} (h : SEr K (eSl f a lo hi) σ H Q) : tSl r (SOr K a) (SPr K lo) (SPr K hi) σ H Q := by
  obtain ⟨Z, env, w, env', R, e, q⟩ := h
  obtain ⟨s, h1, e⟩ := obind e
  obtain ⟨t, h2, e⟩ := obind e
  obtain ⟨u, h3, e⟩ := obind e
  obtain ⟨d, h4, e⟩ := obind e
  obtain ⟨w', h5, e⟩ := obind e
  cases e
  exact SOr.go R h1 fun x H1 R1 t1 o1 => SPr.go R1 h2 fun H2 R2 t2 => SPr.go R2 h3 fun H3 R3 t3 => p _ H3 x d _ _ w Q R3.dom (((o1.step t2).step t3).view R3 h4) h5 fun v' H' m => q v' H' (made_res R3 ((t1.trans t2).trans t3) m)
end
section
variable {X : Cx} {pos p2 : Pos} {a : Expr} {lo hi : Option Expr}
theorem sp_none : L2.PO X none (SPr X.K none) := po_none
theorem sp_some {e : Expr} {f : EF} (h : PE X e (SEr X.K f)) : L2.PO X (some e) (SPr X.K (some f)) := po_some h
theorem se_slice {r : V → Option Int → Option Int → Hp → VK → Prop} {f : D → Option Int → Option Int → Option W} {oa : Opd} {l h : Option EF} (hr : SlR X r) (p : P3Ok X.K r f) (ha : PE X a (SOr X.K oa)) (hl : L2.PO X lo (SPr X.K l)) (hu : L2.PO X hi (SPr X.K h)) :
    PE X (.Subscript a (.Slice lo hi none p2) pos) (SEr X.K (eSl f oa l h)) := PEi (pe_slice hr ha hl hu) fun _ _ _ q => eSl_go p q
end
/-! ### lists that lose an item -/
def ePop (i : Nat) : EF := fun env => match env[i]? with
  | some (some (true, .lst ds)) => match ds[ds.length - 1]? with
    | some d => some ((false, d), env.set i (some (true, .lst ds.dropLast)))
    | none => none
  | _ => none
def isOwn (env : PI.Env) (i : Nat) : Bool := match env[i]? with
  | some (some (true, .lst _)) => true
  | _ => false
def ePopAt (i : Nat) (f : EF) : EF := fun env => match isOwn env i with
  | true => (f env).bind fun r => match r.1.2 with
    | .int k => if -(2 ^ 63) ≤ k ∧ k < 2 ^ 63 then (match r.2[i]? with
      | some (some (true, .lst ds)) => (seqIndex? k ds.length).bind fun j => (ds[j]?).bind fun d => some ((false, d), r.2.set i (some (true, .lst (ds.eraseIdx j))))
      | _ => none) else none
    | _ => none
  | false => none
section
variable {K : PySem.W.Frag} {Z : Addr → Prop} {env env1 : PI.Env} {σ : L2.St} {H H' : Hp}
theorem keep_ne {a : Addr} {o : HO} : ∀ b u, b ≠ a → H b = some u → upd H a o b = some u := fun b u n e => by
  rw [upd_ne n]
  exact e
theorem mut_trn {i : Nat} {d d' : D} {a : Addr} {o : HO} (h : env[i]? = some (some (true, d))) (ha : σ[i]? = some (some (V.ref a))) : Trn env σ H (env.set i (some (true, d'))) (upd H a o) :=
  ⟨fun b q => (own_mut h).mp q, fun b u e n => keep_ne b u (fun z => n ⟨i, d, h, by rw [z]; exact ha⟩) e, fun b q => by
    by_cases z : b = a
    · subst z
      rw [upd_same]
      exact fun z => by cases z
    · rw [upd_ne z]
      exact q⟩
theorem av_mut {i : Nat} {d d' : D} {b : Addr} (h : env[i]? = some (some (true, d))) : Av (env.set i (some (true, d'))) σ Z b ↔ Av env σ Z b := by
  unfold Av
  rw [own_mut h]
/-- the owned list at i becomes another one of things that were known -/
theorem Rel.mutU (R : Re K Z env σ H) {i : Nat} {d : D} {a : Addr} {us : List V} {es : List D} (h : env[i]? = some (some (true, d))) (ha : σ[i]? = some (some (V.ref a))) (hr : RepAll K (Av env σ Z) H us es) :
    Re K Z (env.set i (some (true, .lst es))) σ (upd H a (.lst us)) ∧ (∀ {v : V} {e : D}, Rep K (Av env σ Z) H v e → Rep K (Av (env.set i (some (true, .lst es))) σ Z) (upd H a (.lst us)) v e) := by
  have st : ∀ b u, H b = some u → ¬ Av env σ Z b → upd H a (.lst us) b = some u := fun b u e n => keep_ne b u (fun z => n (.inl ⟨i, d, h, by rw [z]; exact ha⟩)) e
  refine ⟨R.mutate h ha keep_ne upd_same (hr.step st fun b q => .inl q), fun {v e} r => r.step st fun b q => .inl ((av_mut h).mp q)⟩
theorem ePop_go {i : Nat} {Q : VK} (h : SEr K (ePop i) σ H Q) : tBM0 K "list" rPop (tVar i) σ H Q := by
  obtain ⟨Z, env, w, env', R, e, q⟩ := h
  unfold ePop at e
  split at e
  · rename_i ds g
    split at e
    · rename_i d hd
      cases e
      obtain ⟨a, vs, es, h1, h2, h3, h4⟩ := R.ow i _ g
      cases h2
      obtain ⟨v, hv, rv⟩ := h4.get hd
      obtain ⟨R2, st⟩ := R.mutU (us := vs.dropLast) (es := ds.dropLast) g h1 h4.dropLast
      exact ⟨.ref a, h1, .inl ⟨rfl, _, .inl (.inl h3)⟩, a, vs, v, rfl, rfl, h3, by rw [h4.length]; exact hv, q v _ (res_old R2 (mut_trn g h1) (st rv))⟩
    · cases e
  · cases e
theorem isOwn_at {i : Nat} (h : isOwn env i = true) : ∃ ds, env[i]? = some (some (true, .lst ds)) := by
  unfold isOwn at h
  split at h
  · exact ⟨_, by assumption⟩
  · cases h
theorem own_list (R : Re K Z env σ H) {i : Nat} (h : isOwn env i = true) : ∃ (a : Addr) (vs : List V) (ds : List D), σ[i]? = some (some (V.ref a)) ∧ env[i]? = some (some (true, .lst ds)) ∧ H a = some (.lst vs) ∧ RepAll K (Av env σ Z) H vs ds ∧ tyV K "list" (V.ref a) H := by
  obtain ⟨ds, g⟩ := isOwn_at h
  obtain ⟨a, vs, es, h1, h2, h3, h4⟩ := R.ow i _ g
  cases h2
  exact ⟨a, vs, ds, h1, g, h3, h4, .inl ⟨rfl, _, .inl (.inl h3)⟩⟩
theorem ePopAt_go {i : Nat} {f : EF} {Q : VK} (h : SEr K (ePopAt i f) σ H Q) : tBM K "list" rPopAt (tVar i) (tCons (SEr K f) tNil) σ H Q := by
  obtain ⟨Z, env, w, env', R, e, q⟩ := h
  unfold ePopAt at e
  cases hw : isOwn env i with
  | false =>
    rw [hw] at e
    cases e
  | true =>
    rw [hw] at e
    obtain ⟨a, vs0, ds0, h1, _, _, _, ty⟩ := own_list R hw
    obtain ⟨r, g1, e⟩ := obind e
    obtain ⟨⟨fr1, d⟩, env1⟩ := r
    cases d with
    | int k =>
      dsimp only at e
      split at e
      · rename_i hk
        split at e
        · rename_i ds g
          obtain ⟨j, hj, e⟩ := obind e
          obtain ⟨d, hd, e⟩ := obind e
          cases e
          refine ⟨.ref a, h1, ty, Z, env, _, env1, R, g1, fun v H1 x => ?_⟩
          obtain ⟨b, vs, es, g2, g3, g4, g5⟩ := x.re.ow i _ g
          cases g3
          rw [h1] at g2
          cases g2
          obtain ⟨u, hu, ru⟩ := g5.get hd
          have ev := rep_int x.rep
          subst ev
          obtain ⟨R2, st⟩ := Rel.mutU x.re (us := vs.eraseIdx j) (es := ds.eraseIdx j) g h1 (g5.eraseIdx j)
          exact ⟨a, vs, k, j, u, rfl, rfl, g4, hk.1, hk.2, by rw [g5.length]; exact hj, hu, q u _ (res_old R2 (x.tr.trans (mut_trn g h1)) (st ru))⟩
        · cases e
      · cases e
    | _ => cases e
end
end PI

namespace PI
open PySem PySem.Spec PyProof.Rows L2
inductive Ctl where
  | nx | bk | ct | rt (w : W)
abbrev SF := PI.Env → Option (Ctl × PI.Env)
abbrev Z0 : Addr → Prop := fun _ => False
structure Stp (env : PI.Env) (σ : L2.St) (H : Hp) (env' : PI.Env) (σ' : L2.St) (H' : Hp) : Prop where
  own : ∀ a, Own env' σ' a → Own env σ a ∨ H a = none
  keep : ∀ a o, H a = some o → ¬ Own env σ a → H' a = some o
  dom : ∀ a, H a ≠ none → H' a ≠ none
def PinK (P : List Nat) (σ σ' : L2.St) : Prop := ∀ i ∈ P, σ'[i]? = σ[i]?
structure RetR (K : PySem.W.Frag) (Z : Addr → Prop) (env : PI.Env) (σ : L2.St) (H : Hp) (env' : PI.Env) (σ' : L2.St) (w : W) (v : V) (H' : Hp) : Prop where
  old : w.1 = false → Re K Z env' σ' H' ∧ Rep K (Av env' σ' Z) H' v w.2
  new : w.1 = true → ∃ (a : Addr) (vs : List V) (ds : List D), v = V.ref a ∧ w.2 = .lst ds ∧ (Own env σ a ∨ H a = none) ∧ H' a = some (.lst vs) ∧ Re K (fun b => Z b ∨ b = a) env' σ' H' ∧ RepAll K (Av env' σ' fun b => Z b ∨ b = a) H' vs ds
/-- what is to be shown behind a statement -/
def Post (K : PySem.W.Frag) (P : List Nat) (Z : Addr → Prop) (env : PI.Env) (σ : L2.St) (H : Hp) (D : Ends) (c : Ctl) (env' : PI.Env) : Prop := match c with
  | .nx => ∀ σ' H', Re K Z env' σ' H' → Stp env σ H env' σ' H' → PinK P σ σ' → D.nx σ' H'
  | .bk => ∀ σ' H', Re K Z env' σ' H' → Stp env σ H env' σ' H' → PinK P σ σ' → D.bk σ' H'
  | .ct => ∀ σ' H', Re K Z env' σ' H' → Stp env σ H env' σ' H' → PinK P σ σ' → D.ct σ' H'
  | .rt w => ∀ v σ' H', Stp env σ H env' σ' H' → PinK P σ σ' → RetR K Z env σ H env' σ' w v H' → D.rt v H'
def SSr (K : PySem.W.Frag) (P : List Nat) (f : SF) : TS := fun D σ H => ∃ Z env c env', Re K Z env σ H ∧ f env = some (c, env') ∧ Post K P Z env σ H D c env'
section
variable {K : PySem.W.Frag} {P : List Nat} {Z : Addr → Prop} {env env1 env2 env' : PI.Env} {σ σ1 σ2 : L2.St} {H H1 H2 : Hp} {D : Ends} {c : Ctl}
theorem Stp.refl : Stp env σ H env σ H := ⟨fun _ q => .inl q, fun _ _ q _ => q, fun _ q => q⟩
theorem none_back {a : Addr} (h : H a ≠ none → H1 a ≠ none) (q : H1 a = none) : H a = none := by
  cases e : H a with
  | none => rfl
  | some o => exact absurd q (h (by rw [e]; exact fun z => by cases z))
theorem Stp.trans (a : Stp env σ H env1 σ1 H1) (b : Stp env1 σ1 H1 env2 σ2 H2) : Stp env σ H env2 σ2 H2 :=
  ⟨fun x q => by
    rcases b.own x q with q | q
    · exact a.own x q
    · exact .inr (none_back (a.dom x) q), fun x o q n => b.keep x o (a.keep x o q n) (fun z => by
      rcases a.own x z with z | z
      · exact n z
      · rw [z] at q
        cases q), fun x q => b.dom x (a.dom x q)⟩
theorem Trn.stp (t : Trn env σ H env1 H1) : Stp env σ H env1 σ H1 := ⟨fun a q => .inl (t.own a q), t.keep, t.dom⟩
theorem PinK.refl : PinK P σ σ := fun _ _ => rfl
theorem PinK.trans (a : PinK P σ σ1) (b : PinK P σ1 σ2) : PinK P σ σ2 := fun i hi => (b i hi).trans (a i hi)
theorem RetR.after {w : W} {v : V} {H' : Hp} {σ' : L2.St} (s : Stp env σ H env1 σ1 H1) (r : RetR K Z env1 σ1 H1 env' σ' w v H') : RetR K Z env σ H env' σ' w v H' :=
  ⟨r.old, fun e => by
    obtain ⟨a, vs, ds, h1, h2, h3, h4⟩ := r.new e
    refine ⟨a, vs, ds, h1, h2, ?_, h4⟩
    rcases h3 with h3 | h3
    · exact s.own a h3
    · exact .inr (none_back (s.dom a) h3)⟩
theorem Post.after (s : Stp env σ H env1 σ1 H1) (p : PinK P σ σ1) (q : Post K P Z env σ H D c env') : Post K P Z env1 σ1 H1 D c env' := by
  cases c with
  | nx => exact fun σ' H' R t k => q σ' H' R (s.trans t) (p.trans k)
  | bk => exact fun σ' H' R t k => q σ' H' R (s.trans t) (p.trans k)
  | ct => exact fun σ' H' R t k => q σ' H' R (s.trans t) (p.trans k)
  | rt w => exact fun v σ' H' t k r => q v σ' H' (s.trans t) (p.trans k) (r.after s)
/-- the ends change -/
theorem Post.ends {D' : Ends} (q : Post K P Z env σ H D c env') (h1 : c = .nx → ∀ σ' H', D.nx σ' H' → D'.nx σ' H') (h2 : c = .bk → ∀ σ' H', D.bk σ' H' → D'.bk σ' H') (h3 : c = .ct → ∀ σ' H', D.ct σ' H' → D'.ct σ' H') (h4 : ∀ v H', D.rt v H' → D'.rt v H') : Post K P Z env σ H D' c env' := by
  cases c with
  | nx => exact fun σ' H' R t k => h1 rfl _ _ (q σ' H' R t k)
  | bk => exact fun σ' H' R t k => h2 rfl _ _ (q σ' H' R t k)
  | ct => exact fun σ' H' R t k => h3 rfl _ _ (q σ' H' R t k)
  | rt w => exact fun v σ' H' t k r => h4 _ _ (q v σ' H' t k r)
theorem set_ge {α : Type} {l : List α} {i : Nat} {x : α} (h : ¬ i < l.length) : l.set i x = l := List.set_eq_of_length_le (by omega)
theorem Rel.store2 (R : Re K Z env σ H) {i : Nat} {d : PI.D} {v : V} (r : Rep K (Av env σ Z) H v d) : Re K Z (env.set i (some (false, d))) (σ.set i (some v)) H := by
  by_cases h : i < env.length
  · exact R.store h r
  · rw [set_ge h, set_ge (by rw [← R.len]; exact h)]
    exact R
end
/-! ### plain statements -/
def sNext : SF := fun env => some (.nx, env)
def sSeq (f g : SF) : SF := fun env => (f env).bind fun r => match r.1 with
  | .nx => g r.2
  | c => some (c, r.2)
def sBrk : SF := fun env => some (.bk, env)
def sCnt : SF := fun env => some (.ct, env)
def sNever : SF := fun _ => none
def sExp (f : EF) : SF := fun env => (f env).bind fun r => some (.nx, r.2)
def sRet (f : EF) : SF := fun env => (f env).bind fun r => some (.rt r.1, r.2)
def sRetV (P : List Nat) (i : Nat) : SF := fun env => match env[i]? with
  | some (some (true, d)) => match P.contains i with
    | false => some (.rt (true, d), env.set i none)
    | true => none
  | some (some (false, d)) => some (.rt (false, d), env)
  | _ => none
def sRetN : SF := fun env => some (.rt (false, .non), env)
def sIf (c : EF) (f g : SF) : SF := fun env => (c env).bind fun r => match r.1.2 with
  | .bl true => f r.2
  | .bl false => g r.2
  | _ => none
def sAsg (P : List Nat) (i : Nat) (f : EF) : SF := fun env => match P.contains i with
  | true => none
  | false => (f env).bind fun r => some (.nx, r.2.set i (some r.1))
def sAug (P : List Nat) (i : Nat) (op : Int → Int → Int) (f : EF) : SF := fun env => match P.contains i with
  | true => none
  | false => match env[i]? with
    | some (some (false, .int a)) => (f env).bind fun r => match r.1.2 with
      | .int b => some (.nx, r.2.set i (some (false, .int (op a b))))
      | _ => none
    | _ => none
section
variable {K : PySem.W.Frag} {P : List Nat} {Z : Addr → Prop} {env env1 env2 env' : PI.Env} {σ σ1 σ2 : L2.St} {H H1 H2 : Hp} {D : Ends} {c : Ctl}
theorem sNext_go (h : SSr K P sNext D σ H) : tNext D σ H := by
  obtain ⟨Z, env, c, env', R, e, q⟩ := h
  cases e
  exact q σ H R .refl .refl
theorem sBrk_go (h : SSr K P sBrk D σ H) : tBreak D σ H := by
  obtain ⟨Z, env, c, env', R, e, q⟩ := h
  cases e
  exact q σ H R .refl .refl
theorem sCnt_go (h : SSr K P sCnt D σ H) : tCont D σ H := by
  obtain ⟨Z, env, c, env', R, e, q⟩ := h
  cases e
  exact q σ H R .refl .refl
theorem sNever_go (h : SSr K P sNever D σ H) : tNever D σ H := by
  obtain ⟨Z, env, c, env', R, e, q⟩ := h
  cases e
theorem sSeq_go {f g : SF} (h : SSr K P (sSeq f g) D σ H) : tSeq (SSr K P f) (SSr K P g) D σ H := by
  obtain ⟨Z, env, c, env', R, e, q⟩ := h
  obtain ⟨⟨c1, env1⟩, h1, e⟩ := obind e
  refine ⟨Z, env, c1, env1, R, h1, ?_⟩
  cases c1 with
  | nx => exact fun σ1 H1 R1 t k => ⟨Z, env1, c, env', R1, e, q.after t k⟩
  | bk => cases e; exact q
  | ct => cases e; exact q
  | rt w => cases e; exact q
theorem sExp_go {f : EF} (h : SSr K P (sExp f) D σ H) : tDrop (SEr K f) D σ H := by
  obtain ⟨Z, env, c, env', R, e, q⟩ := h
  obtain ⟨r, h1, e⟩ := obind e
  cases e
  exact ⟨Z, env, r.1, r.2, R, h1, fun v H' x => q σ H' x.re x.tr.stp .refl⟩
theorem sRet_go {f : EF} (h : SSr K P (sRet f) D σ H) : tRet (SEr K f) D σ H := by
  obtain ⟨Z, env, c, env', R, e, q⟩ := h
  obtain ⟨r, h1, e⟩ := obind e
  cases e
  refine ⟨Z, env, r.1, r.2, R, h1, fun v H' x => q v σ H' x.tr.stp .refl ⟨fun _ => ⟨x.re, x.rep⟩, fun hw => ?_⟩⟩
  obtain ⟨a, vs, ds, h1, h2, h3, h4, h5, h6⟩ := x.new hw
  exact ⟨a, vs, ds, h1, h2, .inr h3, h4, h5, h6⟩
theorem sRetN_go (h : SSr K P sRetN D σ H) : tRetN D σ H := by
  obtain ⟨Z, env, c, env', R, e, q⟩ := h
  cases e
  exact q .non σ H .refl .refl ⟨fun _ => ⟨R, .non⟩, fun z => (nomatch z)⟩
/-- the owned list of a slot is let go, and avoided -/
theorem Rel.dropS (R : Re K Z env σ H) {i : Nat} {d : PI.D} {a : Addr} (h : env[i]? = some (some (true, d))) (ha : σ[i]? = some (some (V.ref a))) :
    Re K (fun b => Z b ∨ b = a) (env.set i none) σ H ∧ (∀ b, Own (env.set i none) σ b → Own env σ b) ∧ ∀ b, Av (env.set i none) σ (fun b => Z b ∨ b = a) b → Av env σ Z b := by
  have ow : ∀ b, Own (env.set i none) σ b → Own env σ b := fun b ⟨j, e, h1, h2⟩ => by
    rcases set_get h1 with ⟨_, q, _⟩ | ⟨_, q⟩
    · cases q
    · exact ⟨j, e, q, h2⟩
  have nown : ¬ Own (env.set i none) σ a := fun ⟨j, e, h1, h2⟩ => by
    rcases set_get h1 with ⟨_, q, _⟩ | ⟨ne, q⟩
    · cases q
    · exact ne (R.dist i j _ _ a h q ha h2)
  have av : ∀ b, Av (env.set i none) σ (fun b => Z b ∨ b = a) b → Av env σ Z b := fun b q => by
    rcases q with q | q | q
    · exact .inl (ow b q)
    · exact .inr q
    · subst q
      exact .inl ⟨i, d, h, ha⟩
  obtain ⟨a', vs, ds, g1, g2, g3, g4⟩ := R.ow i d h
  rw [ha] at g1
  cases g1
  refine ⟨⟨by rw [List.length_set]; exact R.len, fun j e q => ?_, fun j e q => ?_, fun j k e f b q1 q2 => ?_, fun b o q => (nomatch q), fun b q => ?_⟩, ow, av⟩
  · rcases set_get q with ⟨_, q, _⟩ | ⟨_, q⟩
    · cases q
    · obtain ⟨v, e1, e2⟩ := R.sh j e q
      exact ⟨v, e1, e2.less av⟩
  · rcases set_get q with ⟨_, q, _⟩ | ⟨_, q⟩
    · cases q
    · obtain ⟨b, us, es, e1, e2, e3, e4⟩ := R.ow j e q
      exact ⟨b, us, es, e1, e2, e3, e4.less av⟩
  · rcases set_get q1 with ⟨_, q, _⟩ | ⟨_, q1⟩
    · cases q
    · rcases set_get q2 with ⟨_, q, _⟩ | ⟨_, q2⟩
      · cases q
      · exact R.dist j k e f b q1 q2
  · rcases q with q | q
    · exact ⟨(R.z b q).1, fun z => (R.z b q).2 (ow b z)⟩
    · subst q
      refine ⟨?_, nown⟩
      rw [g3]
      exact fun z => by cases z
theorem sRetV_go {i : Nat} (h : SSr K P (sRetV P i) D σ H) : tRet (tVar i) D σ H := by
  obtain ⟨Z, env, c, env', R, e, q⟩ := h
  unfold sRetV at e
  split at e
  · rename_i d g
    split at e
    · cases e
      obtain ⟨a, vs, ds, h1, h2, h3, h4⟩ := R.ow i d g
      obtain ⟨R2, ow, av⟩ := R.dropS g h1
      refine ⟨.ref a, h1, q (.ref a) σ H ⟨fun b z => .inl (ow b z), fun b o z _ => z, fun b z => z⟩ .refl ⟨fun z => (nomatch z), fun _ => ⟨a, vs, ds, rfl, h2, .inl ⟨i, d, g, h1⟩, h3, R2, h4.less av⟩⟩⟩
    · cases e
  · rename_i d g
    cases e
    obtain ⟨v, h1, h2⟩ := R.sh i d g
    exact ⟨v, h1, q v σ H .refl .refl ⟨fun _ => ⟨R, h2⟩, fun z => (nomatch z)⟩⟩
  · cases e
theorem sIf_go {t : EF} {f g : SF} (h : SSr K P (sIf t f g) D σ H) : tIfS (STr K t) (SSr K P f) (SSr K P g) D σ H := by
  obtain ⟨Z, env, c, env', R, e, q⟩ := h
  obtain ⟨⟨⟨fr, d⟩, env1⟩, h1, e⟩ := obind e
  cases d with
  | bl b =>
    refine ⟨Z, env, fr, b, env1, R, h1, fun H1 R1 t1 => ?_⟩
    cases b with
    | true => exact iteT ⟨Z, env1, c, env', R1, e, q.after t1.stp .refl⟩
    | false => exact iteF ⟨Z, env1, c, env', R1, e, q.after t1.stp .refl⟩
  | _ => cases e
theorem pin_set {i : Nat} {x : Option V} (h : P.contains i = false) : PinK P σ (σ.set i x) := fun j hj => by
  by_cases e : i = j
  · subst e
    rw [List.contains_eq_mem, decide_eq_false_iff_not] at h
    exact absurd hj h
  · rw [List.getElem?_set_ne e]
theorem sAsg_go {i : Nat} {f : EF} (h : SSr K P (sAsg P i f) D σ H) : tAsg (SEr K f) (gName i) D σ H := by
  obtain ⟨Z, env, c, env', R, e, q⟩ := h
  unfold sAsg at e
  cases hp : P.contains i with
  | true =>
    rw [hp] at e
    cases e
  | false =>
    rw [hp] at e
    obtain ⟨⟨⟨fr, d⟩, env1⟩, h1, e⟩ := obind e
    cases e
    refine ⟨Z, env, _, env1, R, h1, fun v H1 x => ?_⟩
    show D.nx (σ.set i (some v)) H1
    cases fr with
    | false =>
      exact q _ H1 (Rel.store2 x.re x.rep) ⟨fun a z => .inl (x.tr.own a (own_store z)), x.tr.keep, x.tr.dom⟩ (pin_set hp)
    | true =>
      obtain ⟨a, vs, ds, g1, g2, g3, g4, g5, g6⟩ := x.new rfl
      have g2 : d = .lst ds := g2
      subst g1 g2
      by_cases hi : i < env1.length
      · exact q _ H1 (g5.storeN hi rfl (fun z => (R.z a z).1 g3) g4 g6) ⟨fun b z => by
          rcases own_storeN z with z | z
          · exact .inl (x.tr.own b z)
          · subst z
            exact .inr g3, x.tr.keep, x.tr.dom⟩ (pin_set hp)
      · have q : Post K P Z env σ H D .nx (env1.set i (some (true, .lst ds))) := q
        rw [set_ge hi] at q
        rw [set_ge (by rw [← x.re.len]; exact hi)]
        exact q σ H1 x.re x.tr.stp .refl
theorem sAug_go {i : Nat} {op : Int → Int → Int} {f : EF} (h : SSr K P (sAug P i op f) D σ H) : tAug i (SEr K f) (ipI op) D σ H := by
  obtain ⟨Z, env, c, env', R, e, q⟩ := h
  unfold sAug at e
  cases hp : P.contains i with
  | true =>
    rw [hp] at e
    cases e
  | false =>
    rw [hp] at e
    dsimp only at e
    split at e
    · rename_i a g
      obtain ⟨⟨⟨fr, d⟩, env1⟩, h1, e⟩ := obind e
      obtain ⟨v, k1, k2⟩ := R.sh i _ g
      have ev := rep_int k2
      subst ev
      cases d with
      | int b =>
        cases e
        refine ⟨.int a, k1, Z, env, _, env1, R, h1, fun v H1 x => ?_⟩
        have ev := rep_int x.rep
        subst ev
        exact ⟨a, b, rfl, rfl, q _ H1 (Rel.store2 x.re (.int _)) ⟨fun a z => .inl (x.tr.own a (own_store z)), x.tr.keep, x.tr.dom⟩ (pin_set hp)⟩
      | _ => cases e
    · cases e
end
section
variable {X : Cx} {pos : Pos} {P : List Nat} {st : Stmt} {rest : List Stmt} {f g : SF}
theorem ss_nil : PSs X [] (SSr X.K P sNext) := PSsi pss_nil fun _ _ _ h => sNext_go h
theorem ss_cons (h1 : PS X st (SSr X.K P f)) (h2 : PSs X rest (SSr X.K P g)) : PSs X (st :: rest) (SSr X.K P (sSeq f g)) := PSsi (pss_cons h1 h2) fun _ _ _ h => sSeq_go h
theorem ss_one (h1 : PS X st (SSr X.K P f)) : PSs X [st] (SSr X.K P f) := pss_one h1
theorem ss_pass : PS X (.Pass pos) (SSr X.K P sNext) := PSi ps_pass fun _ _ _ h => sNext_go h
theorem ss_brk : PS X (.Break pos) (SSr X.K P sBrk) := PSi ps_break fun _ _ _ h => sBrk_go h
theorem ss_cnt : PS X (.Continue pos) (SSr X.K P sCnt) := PSi ps_continue fun _ _ _ h => sCnt_go h
theorem ss_never : PS X st (SSr X.K P sNever) := PSi ps_never fun _ _ _ h => sNever_go h
theorem ss_expr {e : Expr} {f : EF} (he : PE X e (SEr X.K f)) (hs : swapsWith e none pos.line X.env = pure false := by rfl) : PS X (.Expr e pos) (SSr X.K P (sExp f)) := PSi (ps_expr he hs) fun _ _ _ h => sExp_go h
theorem ss_ret {e : Expr} {f : EF} (he : PE X e (SEr X.K f)) : PS X (.Return (some e) pos) (SSr X.K P (sRet f)) := PSi (ps_ret he) fun _ _ _ h => sRet_go h
theorem ss_retV (i : Nat) {x : Str} {p2 : Pos} (hN : X.N[i]? = some x := by rfl) (hv : Vis X.env.scope x := by first | exact Or.inl rfl | exact Or.inr (Or.inl rfl) | exact Or.inr (Or.inr rfl)) (hd : (x == ("__debug__" : Str)) = false := by decide)
    (hcd : (x == ("__classdict__" : Str)) = false := by decide) : PS X (.Return (some (.Name x p2)) pos) (SSr X.K P (sRetV P i)) := PSi (ps_ret (pv i hN hv hd hcd)) fun _ _ _ h => sRetV_go h
theorem ss_retN : PS X (.Return none pos) (SSr X.K P sRetN) := PSi ps_retN fun _ _ _ h => sRetN_go h
theorem ss_if {c : Expr} {t : EF} {a b : List Stmt} (hc : PT X c (STr X.K t)) (ha : PSs X a (SSr X.K P f)) (hb : PSs X b (SSr X.K P g)) : PS X (.If c a b pos) (SSr X.K P (sIf t f g)) := PSi (ps_if hc ha hb) fun _ _ _ h => sIf_go h
theorem ss_asg (i : Nat) {x : Str} {e : Expr} {f : EF} {p2 : Pos} (he : PE X e (SEr X.K f)) (hN : X.N.Nodup) (hi : X.N[i]? = some x := by rfl) (hx : Loc X.env.scope x := by first | exact Or.inl rfl | exact Or.inr rfl) (hs : swapsWith e (some (.Name x p2)) pos.line X.env = pure false := by rfl) (hf : X.fn x = true ∨ X.env.scope.names.lookup x = some .local := by first | exact .inl rfl | exact .inr rfl) :
    PS X (.Assign [.Name x p2] e pos) (SSr X.K P (sAsg P i f)) := PSi (ps_set hN hi hx he hs hf) fun _ _ _ h => sAsg_go h
theorem ss_aug (i : Nat) {x : Str} {e : Expr} {f : EF} {p2 : Pos} {op : Operator} {o : Int → Int → Int} (ho : PIp X op (ipI o)) (he : PE X e (SEr X.K f)) (hN : X.N.Nodup) (hi : X.N[i]? = some x := by rfl) (hx : Loc X.env.scope x := by first | exact Or.inl rfl | exact Or.inr rfl) (hf : X.fn x = true ∨ X.env.scope.names.lookup x = some .local := by first | exact .inl rfl | exact .inr rfl) :
    PS X (.AugAssign (.Name x p2) op e pos) (SSr X.K P (sAug P i o f)) := PSi (ps_aug hN hi hx he ho hf) fun _ _ _ h => sAug_go h
end
end PI

namespace PI
open PySem PySem.Spec PyProof.Rows L2
/-! ### lists that change -/
def sApp (i : Nat) (f : EF) : SF := fun env => match isOwn env i with
  | true => (f env).bind fun r => match r.2[i]? with
    | some (some (true, .lst ds)) => if ds.length < 1000000 then some (.nx, r.2.set i (some (true, .lst (ds ++ [r.1.2])))) else none
    | _ => none
  | false => none
def sExt (i : Nat) (o : Opd) : SF := fun env => match isOwn env i with
  | true => (o.run env).bind fun r => (r.1.get r.2).bind fun d => match d with
    | .lst es => (match r.2[i]? with
      | some (some (true, .lst ds)) => if ds.length + es.length < 1000000 then some (.nx, r.2.set i (some (true, .lst (ds ++ es)))) else none
      | _ => none)
    | _ => none
  | false => none
def sIns (i : Nat) (k f : EF) : SF := fun env => match isOwn env i with
  | true => (k env).bind fun r => (f r.2).bind fun s => match r.1.2 with
    | .int j => (match s.2[i]? with
      | some (some (true, .lst ds)) => if ds.length < 1000000 ∧ 0 ≤ j ∧ j < 1000000 then some (.nx, s.2.set i (some (true, .lst (ds.take j.toNat ++ [s.1.2] ++ ds.drop j.toNat)))) else none
      | _ => none)
    | _ => none
  | false => none
def sSet (i : Nat) (k f : EF) : SF := fun env => (f env).bind fun r => match isOwn r.2 i with
  | true => (k r.2).bind fun s => match s.1.2 with
    | .int j => (match s.2[i]? with
      | some (some (true, .lst ds)) => (ixN ds.length j).bind fun m => some (.nx, s.2.set i (some (true, .lst (ds.set m r.1.2))))
      | _ => none)
    | _ => none
  | false => none
theorem mil {n : Nat} (h : n < 1000000) : n < sizeLine := Nat.lt_trans h (by decide)
section
variable {K : PySem.W.Frag} {P : List Nat} {env env1 env2 env' : PI.Env} {σ σ1 σ2 : L2.St} {H H1 H2 : Hp} {D : Ends} {c : Ctl}
theorem slot_list {Z : Addr → Prop} (R : Re K Z env σ H) {i : Nat} {ds : List PI.D} (g : env[i]? = some (some (true, .lst ds))) : ∃ (a : Addr) (vs : List V), σ[i]? = some (some (V.ref a)) ∧ H a = some (.lst vs) ∧ RepAll K (Av env σ Z) H vs ds := by
  obtain ⟨a, vs, es, h1, h2, h3, h4⟩ := R.ow i _ g
  cases h2
  exact ⟨a, vs, h1, h3, h4⟩
theorem sApp_go {i : Nat} {f : EF} (h : SSr K P (sApp i f) D σ H) : tDrop (tBM K "list" rAppend (tVar i) (SVr K [f])) D σ H := by
  obtain ⟨Z, env, c, env', R, e, q⟩ := h
  unfold sApp at e
  cases hw : isOwn env i with
  | false =>
    rw [hw] at e
    cases e
  | true =>
    rw [hw] at e
    obtain ⟨a, vs0, ds0, h1, _, _, _, ty⟩ := own_list R hw
    obtain ⟨⟨w, env1⟩, g1, e⟩ := obind e
    dsimp only at e
    split at e
    · rename_i ds g
      split at e
      · rename_i hz
        cases e
        refine ⟨.ref a, h1, ty, Z, env, w, env1, R, g1, fun v H1 x => ?_⟩
        obtain ⟨b, vs, k1, k2, k3⟩ := slot_list x.re g
        rw [h1] at k1
        cases k1
        obtain ⟨R2, st⟩ := Rel.mutU x.re g h1 (k3.append (.cons x.rep .nil))
        refine ⟨a, vs, v, rfl, rfl, k2, mil (by rw [k3.length]; exact hz), q σ _ R2 (x.tr.trans (mut_trn g h1)).stp .refl⟩
      · cases e
    · cases e
theorem sExt_go {i : Nat} {o : Opd} (h : SSr K P (sExt i o) D σ H) : tDrop (tBM K "list" rExtend (tVar i) (SAr K [o])) D σ H := by
  obtain ⟨Z, env, c, env', R, e, q⟩ := h
  unfold sExt at e
  cases hw : isOwn env i with
  | false =>
    rw [hw] at e
    cases e
  | true =>
    rw [hw] at e
    obtain ⟨a, vs0, ds0, h1, _, _, _, ty⟩ := own_list R hw
    obtain ⟨⟨p, env1⟩, g1, e⟩ := obind e
    obtain ⟨d, g2, e⟩ := obind e
    cases d with
    | lst es =>
      dsimp only at e
      split at e
      · rename_i ds g
        split at e
        · rename_i hz
          cases e
          refine ⟨.ref a, h1, ty, SOr.go R g1 fun v H1 R1 t1 o1 => ?_⟩
          obtain ⟨b, us, m1, m2, m3⟩ := (o1.view R1 g2).lst
          subst m1
          obtain ⟨b', vs, k1, k2, k3⟩ := slot_list R1 g
          rw [h1] at k1
          cases k1
          obtain ⟨R2, st⟩ := Rel.mutU R1 g h1 (k3.append m3)
          exact ⟨a, b, vs, us, rfl, rfl, k2, m2, Nat.le_of_lt (mil (by rw [k3.length, m3.length]; exact hz)), q σ _ R2 (t1.trans (mut_trn g h1)).stp .refl⟩
        · cases e
      · cases e
    | _ => cases e
theorem sIns_go {i : Nat} {k f : EF} (h : SSr K P (sIns i k f) D σ H) : tDrop (tBM K "list" (fun x vs H Q => ∃ (l : Addr) (xs : List V) (i : Int) (y : V), x = .ref l ∧ vs = [.int i, y] ∧ H l = some (.lst xs) ∧ xs.length < sizeLine ∧ 0 ≤ i ∧ i < 2 ^ 63 ∧
    Q .non (upd H l (.lst (xs.take i.toNat ++ [y] ++ xs.drop i.toNat)))) (tVar i) (SVr K [k, f])) D σ H := by
  obtain ⟨Z, env, c, env', R, e, q⟩ := h
  unfold sIns at e
  cases hw : isOwn env i with
  | false =>
    rw [hw] at e
    cases e
  | true =>
    rw [hw] at e
    obtain ⟨a, vs0, ds0, h1, _, _, _, ty⟩ := own_list R hw
    obtain ⟨⟨w, env1⟩, g1, e⟩ := obind e
    obtain ⟨⟨w2, env2⟩, g2, e⟩ := obind e
    dsimp only at e
    split at e
    · rename_i j gj
      split at e
      · rename_i ds g
        split at e
        · rename_i hz
          cases e
          refine ⟨.ref a, h1, ty, Z, env, w, env1, R, g1, fun v H1 x => ⟨Z, env1, w2, env2, x.re, g2, fun u H2 y => ?_⟩⟩
          obtain ⟨b, vs, k1, k2, k3⟩ := slot_list y.re g
          rw [h1] at k1
          cases k1
          have ev : v = .int j := by
            have r := x.rep
            rw [gj] at r
            exact rep_int r
          subst ev
          obtain ⟨R2, st⟩ := Rel.mutU y.re g h1 (((k3.take j.toNat).append (.cons y.rep .nil)).append (k3.drop j.toNat))
          refine ⟨a, vs, j, u, rfl, rfl, k2, mil (by rw [k3.length]; exact hz.1), hz.2.1, Int.lt_trans hz.2.2 (by decide), q σ _ R2 ((x.tr.trans y.tr).trans (mut_trn g h1)).stp .refl⟩
        · cases e
      · cases e
    · cases e
theorem sSet_go {i : Nat} {k f : EF} (h : SSr K P (sSet i k f) D σ H) : tAsg (SEr K f) (gSub (tVar i) (SEr K k) rSetL) D σ H := by
  obtain ⟨Z, env, c, env', R, e, q⟩ := h
  obtain ⟨⟨w, env1⟩, g1, e⟩ := obind e
  cases hw : isOwn env1 i with
  | false =>
    dsimp only at e
    rw [hw] at e
    cases e
  | true =>
    dsimp only at e
    rw [hw] at e
    obtain ⟨⟨w2, env2⟩, g2, e⟩ := obind e
    dsimp only at e
    split at e
    · rename_i j gj
      split at e
      · rename_i ds g
        obtain ⟨m, gm, e⟩ := obind e
        cases e
        refine ⟨Z, env, w, env1, R, g1, fun v H1 x => ?_⟩
        obtain ⟨a, vs0, ds0, h1, _, _, _, ty⟩ := own_list x.re hw
        refine ⟨.ref a, h1, Z, env1, w2, env2, x.re, g2, fun u H2 y => ?_⟩
        obtain ⟨b, vs, k1, k2, k3⟩ := slot_list y.re g
        rw [h1] at k1
        cases k1
        have ev : u = .int j := by
          have r := y.rep
          rw [gj] at r
          exact rep_int r
        subst ev
        obtain ⟨R2, st⟩ := Rel.mutU y.re g h1 (k3.set m (y.tr.rep x.rep))
        exact ⟨a, vs, j, m, rfl, rfl, k2, by rw [k3.length]; exact gm, q σ _ R2 ((x.tr.trans y.tr).trans (mut_trn g h1)).stp .refl⟩
      · cases e
    · cases e
end
section
variable {X : Cx} {pos p1 p2 p3 p4 : Pos} {P : List Nat} {x : Str} {e k : Expr} {f g : EF} {o : Opd}
theorem se_pop (i : Nat) (hN : X.N[i]? = some x := by rfl) (hv : Vis X.env.scope x := by first | exact Or.inl rfl | exact Or.inr (Or.inl rfl) | exact Or.inr (Or.inr rfl)) (hd : (x == ("__debug__" : Str)) = false := by decide) (hcd : (x == ("__classdict__" : Str)) = false := by decide)
    (hbase : attributeBase (.Name x p1) "pop" X.env (eval (.Name x p1) X.env) = eval (.Name x p1) X.env := by rfl) (hline : (p2.endLine == pos.line) = true := by rfl) : PE X (.Call (.Attribute (.Name x p1) "pop" p2) [] [] pos) (SEr X.K (ePop i)) :=
  PEi (pe_bm0 PySem.F.plainAttrs_list PySem.F.slot_list_pop PySem.F.type_list_pop mt_pop (pv i hN hv hd hcd) hbase hline) fun _ _ _ q => ePop_go q
theorem se_popAt (i : Nat) (he : PE X e (SEr X.K f)) (hN : X.N[i]? = some x := by rfl) (hv : Vis X.env.scope x := by first | exact Or.inl rfl | exact Or.inr (Or.inl rfl) | exact Or.inr (Or.inr rfl)) (hd : (x == ("__debug__" : Str)) = false := by decide) (hcd : (x == ("__classdict__" : Str)) = false := by decide)
    (hs : starEach [e] X.env = (false, eval e X.env) :: starEach [] X.env := by rfl)
    (hbase : attributeBase (.Name x p1) "pop" X.env (eval (.Name x p1) X.env) = eval (.Name x p1) X.env := by rfl)
    (hfew : ((backTo pos (starEach [e] X.env)).all (fun x => !x.1) && (backToKw pos (keywordEach [] X.env)).all (fun x => x.1.isSome)
      && decide ([e].length + ([] : List Keyword).length + (if ([] : List Keyword).isEmpty then 0 else 1) < 30)) = true := by rfl)
    (hline : (p2.endLine == pos.line) = true := by rfl) (hplain : (backTo pos (starEach [] X.env)).any (·.1) = false := by rfl) : PE X (.Call (.Attribute (.Name x p1) "pop" p2) [e] [] pos) (SEr X.K (ePopAt i f)) :=
  PEi (pe_bm PySem.F.plainAttrs_list PySem.F.slot_list_pop PySem.F.type_list_pop mt_popAt (pv i hN hv hd hcd) (pa_cons he pa_nil hs) hbase hfew hline hs hplain) fun _ _ _ q => ePopAt_go q
theorem ss_app (i : Nat) (he : PE X e (SEr X.K f)) (hN : X.N[i]? = some x := by rfl) (hv : Vis X.env.scope x := by first | exact Or.inl rfl | exact Or.inr (Or.inl rfl) | exact Or.inr (Or.inr rfl)) (hd : (x == ("__debug__" : Str)) = false := by decide) (hcd : (x == ("__classdict__" : Str)) = false := by decide)
    (hs : starEach [e] X.env = (false, eval e X.env) :: starEach [] X.env := by rfl)
    (hbase : attributeBase (.Name x p1) "append" X.env (eval (.Name x p1) X.env) = eval (.Name x p1) X.env := by rfl)
    (hfew : ((backTo p3 (starEach [e] X.env)).all (fun x => !x.1) && (backToKw p3 (keywordEach [] X.env)).all (fun x => x.1.isSome)
      && decide ([e].length + ([] : List Keyword).length + (if ([] : List Keyword).isEmpty then 0 else 1) < 30)) = true := by rfl)
    (hline : (p2.endLine == p3.line) = true := by rfl) (hplain : (backTo p3 (starEach [] X.env)).any (·.1) = false := by rfl) (hsw : swapsWith (.Call (.Attribute (.Name x p1) "append" p2) [e] [] p3) none pos.line X.env = pure false := by rfl) :
    PS X (.Expr (.Call (.Attribute (.Name x p1) "append" p2) [e] [] p3) pos) (SSr X.K P (sApp i f)) :=
  PSi (ps_expr (pe_bm PySem.F.plainAttrs_list PySem.F.slot_list_append PySem.F.type_list_append mt_append (pv i hN hv hd hcd) (pa_cons he pa_nil hs) hbase hfew hline hs hplain) hsw) fun _ _ _ q => sApp_go q
theorem ss_ext (i : Nat) (he : PE X e (SOr X.K o)) (hN : X.N[i]? = some x := by rfl) (hv : Vis X.env.scope x := by first | exact Or.inl rfl | exact Or.inr (Or.inl rfl) | exact Or.inr (Or.inr rfl)) (hd : (x == ("__debug__" : Str)) = false := by decide) (hcd : (x == ("__classdict__" : Str)) = false := by decide)
    (hs : starEach [e] X.env = (false, eval e X.env) :: starEach [] X.env := by rfl)
    (hbase : attributeBase (.Name x p1) "extend" X.env (eval (.Name x p1) X.env) = eval (.Name x p1) X.env := by rfl)
    (hfew : ((backTo p3 (starEach [e] X.env)).all (fun x => !x.1) && (backToKw p3 (keywordEach [] X.env)).all (fun x => x.1.isSome)
      && decide ([e].length + ([] : List Keyword).length + (if ([] : List Keyword).isEmpty then 0 else 1) < 30)) = true := by rfl)
    (hline : (p2.endLine == p3.line) = true := by rfl) (hplain : (backTo p3 (starEach [] X.env)).any (·.1) = false := by rfl) (hsw : swapsWith (.Call (.Attribute (.Name x p1) "extend" p2) [e] [] p3) none pos.line X.env = pure false := by rfl) :
    PS X (.Expr (.Call (.Attribute (.Name x p1) "extend" p2) [e] [] p3) pos) (SSr X.K P (sExt i o)) :=
  PSi (ps_expr (pe_bm PySem.F.plainAttrs_list PySem.F.slot_list_extend PySem.F.type_list_extend mt_extend (pv i hN hv hd hcd) (pa_cons he pa_nil hs) hbase hfew hline hs hplain) hsw) fun _ _ _ q => sExt_go q
theorem ss_ins (i : Nat) (hk : PE X k (SEr X.K g)) (he : PE X e (SEr X.K f)) (hN : X.N[i]? = some x := by rfl) (hv : Vis X.env.scope x := by first | exact Or.inl rfl | exact Or.inr (Or.inl rfl) | exact Or.inr (Or.inr rfl)) (hd : (x == ("__debug__" : Str)) = false := by decide) (hcd : (x == ("__classdict__" : Str)) = false := by decide)
    (hs : starEach [k, e] X.env = (false, eval k X.env) :: starEach [e] X.env := by rfl) (hs2 : starEach [e] X.env = (false, eval e X.env) :: starEach [] X.env := by rfl)
    (hbase : attributeBase (.Name x p1) "insert" X.env (eval (.Name x p1) X.env) = eval (.Name x p1) X.env := by rfl)
    (hfew : ((backTo p3 (starEach [k, e] X.env)).all (fun x => !x.1) && (backToKw p3 (keywordEach [] X.env)).all (fun x => x.1.isSome)
      && decide ([k, e].length + ([] : List Keyword).length + (if ([] : List Keyword).isEmpty then 0 else 1) < 30)) = true := by rfl)
    (hline : (p2.endLine == p3.line) = true := by rfl) (hplain : (backTo p3 (starEach [e] X.env)).any (·.1) = false := by rfl) (hsw : swapsWith (.Call (.Attribute (.Name x p1) "insert" p2) [k, e] [] p3) none pos.line X.env = pure false := by rfl) :
    PS X (.Expr (.Call (.Attribute (.Name x p1) "insert" p2) [k, e] [] p3) pos) (SSr X.K P (sIns i g f)) :=
  PSi (ps_expr (pe_bm PySem.F.plainAttrs_list PySem.F.slot_list_insert PySem.F.type_list_insert mt_insert (pv i hN hv hd hcd) (pa_cons hk (pa_cons he pa_nil hs2) hs) hbase hfew hline hs hplain) hsw) fun _ _ _ q => sIns_go q
theorem ss_set (i : Nat) (he : PE X e (SEr X.K f)) (hpg : PG X (.Subscript (.Name x p1) k p2) (gSub (tVar i) (SEr X.K g) rSetL))
    (hs : swapsWithSole [.Subscript (.Name x p1) k p2] e pos.line X.env = pure false := by rfl) (hw : swappedStores [.Subscript (.Name x p1) k p2] e X.env = pure none := by rfl)
    (h1 : (assignEach [.Subscript (.Name x p1) k p2] X.env).map (·.2) = [assign (.Subscript (.Name x p1) k p2) X.env] := by rfl) :
    PS X (.Assign [.Subscript (.Name x p1) k p2] e pos) (SSr X.K P (sSet i g f)) := PSi (ps_asg he hpg hs hw h1) fun _ _ _ q => sSet_go q
end
end PI

namespace PI
open PySem PySem.Spec PyProof.Rows L2
/-! ### targets -/
abbrev TF := PI.D → PI.Env → Option PI.Env
/-- a target: js the slots that it stores to -/
def TgOk (K : PySem.W.Frag) (g : TG) (T : TF) (js : List Nat) : Prop := ∀ (Z : Addr → Prop) (env : PI.Env) (σ : L2.St) (H : Hp) (v : V) (d : PI.D) (env' : PI.Env) (Q : L2.St → Hp → Prop), Re K Z env σ H → Rep K (Av env σ Z) H v d → T d env = some env' →
  (∀ σ', Re K Z env' σ' H → (∀ a, Own env' σ' a → Own env σ a) → (∀ i, i ∉ js → σ'[i]? = σ[i]?) → σ'.length = σ.length → Q σ' H) → g v σ H Q
def TgsOk (K : PySem.W.Frag) (g : TGs) (T : List PI.D → PI.Env → Option PI.Env) (js : List Nat) : Prop := ∀ (Z : Addr → Prop) (env : PI.Env) (σ : L2.St) (H : Hp) (vs : List V) (ds : List PI.D) (env' : PI.Env) (Q : L2.St → Hp → Prop), Re K Z env σ H → RepAll K (Av env σ Z) H vs ds → T ds env = some env' →
  (∀ σ', Re K Z env' σ' H → (∀ a, Own env' σ' a → Own env σ a) → (∀ i, i ∉ js → σ'[i]? = σ[i]?) → σ'.length = σ.length → Q σ' H) → g vs σ H Q
def tName (i : Nat) : TF := fun d env => some (env.set i (some (false, d)))
def tsNil : List PI.D → PI.Env → Option PI.Env
  | [], env => some env
  | _ :: _, _ => none
def tsCons (T : TF) (U : List PI.D → PI.Env → Option PI.Env) : List PI.D → PI.Env → Option PI.Env
  | d :: ds, env => (T d env).bind fun e => U ds e
  | [], _ => none
def tTpl (n : Nat) (U : List PI.D → PI.Env → Option PI.Env) : TF
  | .tup ds, env => if ds.length = n then U ds env else none
  | _, _ => none
section
variable {K : PySem.W.Frag} {P : List Nat} {env env1 env2 env' : PI.Env} {σ σ1 σ2 : L2.St} {H H1 H2 : Hp} {D : Ends} {c : Ctl}
theorem tg_name (i : Nat) : TgOk K (gName i) (tName i) [i] := fun Z env σ H v d env' Q R r e q => by
  cases e
  exact q _ (Rel.store2 R r) (fun a z => own_store z) (fun j hj => by rw [List.getElem?_set_ne (fun z => hj (by rw [← z]; exact List.mem_cons_self))]) (List.length_set ..)
theorem tgs_nil : TgsOk K gNil tsNil [] := fun Z env σ H vs ds env' Q R r e q => by
  cases r with
  | nil =>
    cases e
    exact ⟨rfl, q σ R (fun a z => z) (fun _ _ => rfl) rfl⟩
  | cons r t => cases e
theorem tgs_cons {g : TG} {T : TF} {js : List Nat} {gs : TGs} {U : List PI.D → PI.Env → Option PI.Env} {ks : List Nat} (h : TgOk K g T js) (hs : TgsOk K gs U ks) : TgsOk K (gCons g gs) (tsCons T U) (js ++ ks) := fun Z env σ H vs ds env' Q R r e q => by
  cases r with
  | nil => cases e
  | cons r t =>
    obtain ⟨env1, h1, e⟩ := obind e
    refine ⟨_, _, rfl, h Z env σ H _ _ env1 _ R r h1 fun σ1 R1 o1 k1 l1 => ?_⟩
    have av : ∀ b, Av env1 σ1 Z b → Av env σ Z b := fun b z => by
      rcases z with z | z
      · exact .inl (o1 b z)
      · exact .inr z
    exact hs Z env1 σ1 H _ _ env' Q R1 (t.less av) e fun σ2 R2 o2 k2 l2 => q σ2 R2 (fun a z => o1 a (o2 a z)) (fun i hi => by
      rw [List.mem_append, not_or] at hi
      rw [k2 i hi.2, k1 i hi.1]) (l2.trans l1)
theorem tg_tup {n : Nat} {gs : TGs} {U : List PI.D → PI.Env → Option PI.Env} {ks : List Nat} (hs : TgsOk K gs U ks) : TgOk K (gTup K n gs) (tTpl n U) ks := fun Z env σ H v d env' Q R r e q => by
  cases d with
  | tup ds =>
    dsimp only [tTpl] at e
    split at e
    · rename_i hn
      obtain ⟨a, vs, rfl, t, ra⟩ := r.tupD
      exact ⟨a, vs, rfl, t.sq, by rw [ra.length]; exact hn, hs Z env σ H vs ds env' Q R ra e q⟩
    · cases e
  | _ => cases e
/-! ### a, b = e by a tuple -/
def sTgt (P : List Nat) (js : List Nat) (T : TF) (f : EF) : SF := fun env => match js.any fun j => P.contains j with
  | true => none
  | false => (f env).bind fun r => (T r.1.2 r.2).bind fun e => some (.nx, e)
theorem pin_js {js : List Nat} {σ' : L2.St} (h : (js.any fun j => P.contains j) = false) (k : ∀ i, i ∉ js → σ'[i]? = σ[i]?) : PinK P σ σ' := fun i hi => k i fun hj => by
  have h1 := List.any_eq_false.mp h i hj
  rw [List.contains_eq_mem, decide_eq_true_eq] at h1
  exact h1 hi
theorem sTgt_go {js : List Nat} {T : TF} {f : EF} {g : TG} (hT : TgOk K g T js) (h : SSr K P (sTgt P js T f) D σ H) : tAsg (SEr K f) g D σ H := by
  obtain ⟨Z, env, c, env', R, e, q⟩ := h
  unfold sTgt at e
  cases hp : js.any fun j => P.contains j with
  | true =>
    rw [hp] at e
    cases e
  | false =>
    rw [hp] at e
    obtain ⟨⟨w, env1⟩, h1, e⟩ := obind e
    obtain ⟨env2, h2, e⟩ := obind e
    cases e
    refine ⟨Z, env, w, env1, R, h1, fun v H1 x => hT Z env1 σ H1 v w.2 _ _ x.re x.rep h2 fun σ' R2 o2 k2 l2 => q σ' H1 R2 ⟨fun a z => .inl (x.tr.own a (o2 a z)), x.tr.keep, x.tr.dom⟩ (pin_js hp k2)⟩
end
/-! ### a, b = x, y: values with new lists among them -/
def valsW : List EF → PI.Env → Option (List W × PI.Env)
  | [], env => some ([], env)
  | f :: fs, env => (f env).bind fun r => (valsW fs r.2).bind fun s => some (r.1 :: s.1, s.2)
def FrA (l : List (W × V)) (b : Addr) : Prop := ∃ p ∈ l, p.1.1 = true ∧ p.2 = V.ref b
def WOk (K : PySem.W.Frag) (S : Addr → Prop) (H : Hp) (p : W × V) : Prop := (p.1.1 = true → ∃ (a : Addr) (vs : List V) (ds : List PI.D), p.2 = V.ref a ∧ p.1.2 = .lst ds ∧ H a = some (.lst vs) ∧ RepAll K S H vs ds) ∧ (p.1.1 = false → Rep K S H p.2 p.1.2)
structure Row (K : PySem.W.Frag) (Z : Addr → Prop) (env : PI.Env) (σ : L2.St) (H : Hp) (l : List (W × V)) : Prop where
  re : Re K (fun b => Z b ∨ FrA l b) env σ H
  ok : ∀ p ∈ l, WOk K (Av env σ fun b => Z b ∨ FrA l b) H p
  pw : l.Pairwise fun p q => p.1.1 = true → q.1.1 = true → p.2 ≠ q.2
  zd : ∀ b, FrA l b → ¬ Z b
section
variable {K : PySem.W.Frag} {P : List Nat} {Z : Addr → Prop} {env env1 env2 env' : PI.Env} {σ σ1 σ2 : L2.St} {H H1 H2 : Hp} {D : Ends} {c : Ctl}
theorem frA_cons {p : W × V} {l : List (W × V)} {b : Addr} : FrA (p :: l) b ↔ (p.1.1 = true ∧ p.2 = V.ref b) ∨ FrA l b := by
  constructor
  · rintro ⟨q, hq, h1, h2⟩
    rcases List.mem_cons.mp hq with rfl | hq
    · exact .inl ⟨h1, h2⟩
    · exact .inr ⟨q, hq, h1, h2⟩
  · rintro (⟨h1, h2⟩ | ⟨q, hq, h1, h2⟩)
    · exact ⟨p, List.mem_cons_self, h1, h2⟩
    · exact ⟨q, List.mem_cons_of_mem _ hq, h1, h2⟩
theorem frA_nil {b : Addr} : ¬ FrA [] b := fun ⟨_, h, _⟩ => by cases h
theorem WOk.less {S S' : Addr → Prop} {p : W × V} (h : ∀ b, S' b → S b) (x : WOk K S H p) : WOk K S' H p :=
  ⟨fun e => by
    obtain ⟨a, vs, ds, h1, h2, h3, h4⟩ := x.1 e
    exact ⟨a, vs, ds, h1, h2, h3, h4.less h⟩, fun e => (x.2 e).less h⟩
theorem valsW_go : ∀ {fs : List EF} {Z : Addr → Prop} {env : PI.Env} {H : Hp} {ws : List W} {env1 : PI.Env} {Q : List V → Hp → Prop}, Re K Z env σ H → valsW fs env = some (ws, env1) →
    (∀ vs H1, vs.length = fs.length → ws.length = fs.length → Row K Z env1 σ H1 (ws.zip vs) → Trn env σ H env1 H1 → (∀ b, FrA (ws.zip vs) b → H b = none) → Q vs H1) → SVr K fs σ H Q
  | [], Z, env, H, ws, env1, Q, R, h, q => by
    cases h
    exact q [] H rfl rfl ⟨R.weakZ fun b z => z.elim id fun z => absurd z frA_nil, (fun p hp => by cases hp), .nil, fun b z => absurd z frA_nil⟩ .refl fun b z => absurd z frA_nil
  | f :: fs, Z, env, H, ws, env1, Q, R, h, q => by
    unfold valsW at h
    obtain ⟨⟨w, env2⟩, h1, h⟩ := obind h
    obtain ⟨⟨ws2, env3⟩, h2, h⟩ := obind h
    cases h
    refine ⟨Z, env, w, env2, R, h1, fun v H1 x => ?_⟩
    obtain ⟨fr, d⟩ := w
    cases fr with
    | false =>
      refine valsW_go x.re h2 fun vs H2 l l2 r t nw => q (v :: vs) H2 (congrArg Nat.succ l) (congrArg Nat.succ l2) ?_ (x.tr.trans t) fun b z => ?_
      · have fe : ∀ b, FrA (((false, d), v) :: ws2.zip vs) b → FrA (ws2.zip vs) b := fun b z => by
          rcases frA_cons.mp z with ⟨z, _⟩ | z
          · cases z
          · exact z
        have av : ∀ b, Av env3 σ (fun b => Z b ∨ FrA (((false, d), v) :: ws2.zip vs) b) b → Av env3 σ (fun b => Z b ∨ FrA (ws2.zip vs) b) b := fun b z => by
          rcases z with z | z | z
          · exact .inl z
          · exact .inr (.inl z)
          · exact .inr (.inr (fe b z))
        refine ⟨r.re.weakZ fun b z => z.elim .inl fun z => .inr (fe b z), fun p hp => ?_, .cons (fun p hp z => (nomatch z)) r.pw, fun b z => r.zd b (fe b z)⟩
        rcases List.mem_cons.mp hp with rfl | hp
        · refine ⟨fun e => (nomatch e), fun _ => ?_⟩
          refine x.rep.step (fun a o e n => t.keep a o e fun z => n (.inl z)) fun b z => ?_
          rcases av b z with z | z | z
          · exact .inl (.inl (t.own b z))
          · exact .inl (.inr z)
          · exact .inr (nw b z)
        · exact (r.ok p hp).less av
      · rcases frA_cons.mp z with ⟨z, _⟩ | z
        · cases z
        · exact none_back (x.tr.dom b) (nw b z)
    | true =>
      obtain ⟨a, vs0, ds, g1, g2, g3, g4, g5, g6⟩ := x.new rfl
      have g2 : d = .lst ds := g2
      subst g1 g2
      refine valsW_go g5 h2 fun vs H2 l l2 r t nw => q (.ref a :: vs) H2 (congrArg Nat.succ l) (congrArg Nat.succ l2) ?_ (x.tr.trans t) fun b z => ?_
      · have fe : ∀ b, FrA (((true, PI.D.lst ds), V.ref a) :: ws2.zip vs) b → b = a ∨ FrA (ws2.zip vs) b := fun b z => by
          rcases frA_cons.mp z with ⟨_, z⟩ | z
          · cases z
            exact .inl rfl
          · exact .inr z
        have av : ∀ b, Av env3 σ (fun b => Z b ∨ FrA (((true, PI.D.lst ds), V.ref a) :: ws2.zip vs) b) b → Av env3 σ (fun b => (Z b ∨ b = a) ∨ FrA (ws2.zip vs) b) b := fun b z => by
          rcases z with z | z | z
          · exact .inl z
          · exact .inr (.inl (.inl z))
          · rcases fe b z with z | z
            · exact .inr (.inl (.inr z))
            · exact .inr (.inr z)
        have na : ¬ Own env2 σ a := (g5.z a (.inr rfl)).2
        refine ⟨r.re.weakZ fun b z => ?_, fun p hp => ?_, .cons (fun p hp z z2 => ?_) r.pw, fun b z zz => ?_⟩
        · rcases z with z | z
          · exact .inl (.inl z)
          · rcases fe b z with z | z
            · exact .inl (.inr z)
            · exact .inr z
        · rcases List.mem_cons.mp hp with rfl | hp
          · refine ⟨fun _ => ⟨a, vs0, ds, rfl, rfl, t.keep a _ g4 na, ?_⟩, fun e => (nomatch e)⟩
            refine g6.step (fun a o e n => t.keep a o e fun z => n (.inl z)) fun b z => ?_
            rcases av b z with z | z | z
            · exact .inl (.inl (t.own b z))
            · exact .inl (.inr z)
            · exact .inr (nw b z)
          · exact (r.ok p hp).less av
        · intro e
          have : H1 a = none := nw a ⟨p, hp, z2, e.symm⟩
          rw [g4] at this
          cases this
        · rcases fe b z with z | z
          · subst z
            exact (R.z b zz).1 g3
          · exact r.zd b z (.inl zz)
      · rcases frA_cons.mp z with ⟨_, z⟩ | z
        · cases z
          exact g3
        · exact none_back (x.tr.dom b) (nw b z)
/-- the first of a row is stored -/
theorem Row.store {p : W × V} {l : List (W × V)} {i : Nat} (r : Row K Z env σ H (p :: l)) : Row K Z (env.set i (some p.1)) (σ.set i (some p.2)) H l ∧ ∀ b, Own (env.set i (some p.1)) (σ.set i (some p.2)) b → Own env σ b ∨ FrA (p :: l) b := by
  obtain ⟨⟨fr, d⟩, v⟩ := p
  have pw := List.pairwise_cons.mp r.pw
  have ok := r.ok _ List.mem_cons_self
  have lo : ∀ b, FrA l b → FrA (((fr, d), v) :: l) b := fun b z => frA_cons.mpr (.inr z)
  cases fr with
  | false =>
    have ow : ∀ b, Own (env.set i (some (false, d))) (σ.set i (some v)) b → Own env σ b := fun b z => own_store z
    have av : ∀ b, Av (env.set i (some (false, d))) (σ.set i (some v)) (fun b => Z b ∨ FrA l b) b → Av env σ (fun b => Z b ∨ FrA (((false, d), v) :: l) b) b := fun b z => by
      rcases z with z | z | z
      · exact .inl (ow b z)
      · exact .inr (.inl z)
      · exact .inr (.inr (lo b z))
    refine ⟨⟨(Rel.store2 r.re (ok.2 rfl)).weakZ fun b z => z.elim .inl fun z => .inr (lo b z), fun q hq => (r.ok q (List.mem_cons_of_mem _ hq)).less av, pw.2, fun b z => r.zd b (lo b z)⟩, fun b z => .inl (ow b z)⟩
  | true =>
    obtain ⟨a, vs, ds, h1, h2, h3, h4⟩ := ok.1 rfl
    have h1 : v = .ref a := h1
    have h2 : d = .lst ds := h2
    subst h1 h2
    have fa : FrA (((true, PI.D.lst ds), V.ref a) :: l) a := frA_cons.mpr (.inl ⟨rfl, rfl⟩)
    have nl : ¬ FrA l a := fun ⟨q, hq, q1, q2⟩ => pw.1 q hq rfl q1 q2.symm
    have hz : ∀ b, ((Z b ∨ FrA l b) ∨ b = a) → (Z b ∨ FrA (((true, PI.D.lst ds), V.ref a) :: l) b) := fun b z => by
      rcases z with (z | z) | z
      · exact .inl z
      · exact .inr (lo b z)
      · subst z
        exact .inr fa
    have ow : ∀ b, Own (env.set i (some (true, PI.D.lst ds))) (σ.set i (some (V.ref a))) b → Own env σ b ∨ b = a := fun b z => own_storeN z
    have av : ∀ b, Av (env.set i (some (true, PI.D.lst ds))) (σ.set i (some (V.ref a))) (fun b => Z b ∨ FrA l b) b → Av env σ (fun b => Z b ∨ FrA (((true, PI.D.lst ds), V.ref a) :: l) b) b := fun b z => by
      rcases z with z | z | z
      · rcases ow b z with z | z
        · exact .inl z
        · subst z
          exact .inr (.inr fa)
      · exact .inr (.inl z)
      · exact .inr (.inr (lo b z))
    have R2 : Re K (fun b => (Z b ∨ FrA l b) ∨ b = a) env σ H := r.re.weakZ hz
    refine ⟨⟨?_, fun q hq => (r.ok q (List.mem_cons_of_mem _ hq)).less av, pw.2, fun b z => r.zd b (lo b z)⟩, fun b z => ?_⟩
    · by_cases hi : i < env.length
      · exact R2.storeN hi rfl (fun z => z.elim (r.zd a fa) nl) h3 (h4.less (av_less hz))
      · show Re K (fun b => Z b ∨ FrA l b) (env.set i (some (true, PI.D.lst ds))) (σ.set i (some (V.ref a))) H
        rw [set_ge hi, set_ge (by rw [← r.re.len]; exact hi)]
        exact R2.weakZ fun b z => .inl z
    · rcases ow b z with z | z
      · exact .inl z
      · subst z
        exact .inr fa
def sPar2 (P : List Nat) (i j : Nat) (f g : EF) : SF := fun env => match P.contains i || P.contains j with
  | true => none
  | false => (valsW [f, g] env).bind fun r => match r.1 with
    | [u, v] => some (.nx, (r.2.set i (some u)).set j (some v))
    | _ => none
def sPar3 (P : List Nat) (i j k : Nat) (f g h : EF) : SF := fun env => match P.contains i || (P.contains j || P.contains k) with
  | true => none
  | false => (valsW [f, g, h] env).bind fun r => match r.1 with
    | [u, v, x] => some (.nx, ((r.2.set i (some u)).set j (some v)).set k (some x))
    | _ => none
theorem Row.nil (r : Row K Z env σ H []) : Re K Z env σ H := r.re.weakZ fun b z => .inl z
theorem sPar2_go {i j : Nat} {f g : EF} (h : SSr K P (sPar2 P i j f g) D σ H) : tPar i j (SVr K [f, g]) D σ H := by
  obtain ⟨Z, env, c, env', R, e, q⟩ := h
  unfold sPar2 at e
  cases hp : P.contains i || P.contains j with
  | true =>
    rw [hp] at e
    cases e
  | false =>
    rw [hp] at e
    obtain ⟨h1, h2⟩ := Bool.or_eq_false_iff.mp hp
    obtain ⟨⟨ws, env1⟩, g1, e⟩ := obind e
    refine valsW_go R g1 fun vs H1 l l2 r t nw => ?_
    match vs, ws, l, l2, r, e, nw with
    | [v, w], [u, x], _, _, r, e, nw =>
      cases e
      obtain ⟨r1, o1⟩ := Row.store (i := i) (p := (u, v)) (l := [(x, w)]) r
      obtain ⟨r2, o2⟩ := Row.store (i := j) (p := (x, w)) (l := []) r1
      refine ⟨v, w, rfl, q _ H1 r2.nil ⟨fun b z => ?_, t.keep, t.dom⟩ ((pin_set h1).trans (pin_set h2))⟩
      rcases o2 b z with z | z
      · rcases o1 b z with z | z
        · exact .inl (t.own b z)
        · exact .inr (nw b z)
      · exact .inr (nw b (frA_cons.mpr (.inr z)))
theorem sPar3_go {i j k : Nat} {f g h : EF} (hh : SSr K P (sPar3 P i j k f g h) D σ H) : tPar3 i j k (SVr K [f, g, h]) D σ H := by
  obtain ⟨Z, env, c, env', R, e, q⟩ := hh
  unfold sPar3 at e
  cases hp : P.contains i || (P.contains j || P.contains k) with
  | true =>
    rw [hp] at e
    cases e
  | false =>
    rw [hp] at e
    obtain ⟨h1, h2⟩ := Bool.or_eq_false_iff.mp hp
    obtain ⟨h2, h3⟩ := Bool.or_eq_false_iff.mp h2
    obtain ⟨⟨ws, env1⟩, g1, e⟩ := obind e
    refine valsW_go R g1 fun vs H1 l l2 r t nw => ?_
    match vs, ws, l, l2, r, e, nw with
    | [v, w, y], [u, x, z], _, _, r, e, nw =>
      cases e
      obtain ⟨r1, o1⟩ := Row.store (i := i) (p := (u, v)) (l := [(x, w), (z, y)]) r
      obtain ⟨r2, o2⟩ := Row.store (i := j) (p := (x, w)) (l := [(z, y)]) r1
      obtain ⟨r3, o3⟩ := Row.store (i := k) (p := (z, y)) (l := []) r2
      refine ⟨v, w, y, rfl, q _ H1 r3.nil ⟨fun b z => ?_, t.keep, t.dom⟩ (((pin_set h1).trans (pin_set h2)).trans (pin_set h3))⟩
      rcases o3 b z with z | z
      · rcases o2 b z with z | z
        · rcases o1 b z with z | z
          · exact .inl (t.own b z)
          · exact .inr (nw b z)
        · exact .inr (nw b (frA_cons.mpr (.inr z)))
      · exact .inr (nw b (frA_cons.mpr (.inr (frA_cons.mpr (.inr z)))))
end
section
variable {X : Cx} {pos : Pos} {P : List Nat}
theorem ss_tgt {tg e : Expr} {f : EF} {g : TG} {T : TF} {js : List Nat} (hT : TgOk X.K g T js) (he : PE X e (SEr X.K f)) (hg : PG X tg g) (hs : swapsWithSole [tg] e pos.line X.env = pure false := by rfl) (hw : swappedStores [tg] e X.env = pure none := by rfl)
    (h1 : (assignEach [tg] X.env).map (·.2) = [assign tg X.env] := by rfl) : PS X (.Assign [tg] e pos) (SSr X.K P (sTgt P js T f)) := PSi (ps_asg he hg hs hw h1) fun _ _ _ q => sTgt_go hT q
theorem ss_par2 (i j : Nat) {x y : Str} {a b : Expr} {f g : EF} {px py pt : Pos} {kt k2 pt2} (ha : PA X [a, b] (SVr X.K [f, g])) (hc : X.calm = true) (hN : X.N.Nodup) (hi : X.N[i]? = some x := by rfl) (hj : X.N[j]? = some y := by rfl) (hij : i ≠ j := by decide)
    (hx : X.env.scope.names.lookup x = some .local := by rfl) (hy : X.env.scope.names.lookup y = some .local := by rfl)
    (hw : swappedStores [.Tuple [.Name x px, .Name y py] kt pt] (.Tuple [a, b] k2 pt2) X.env = pure (some [x, y]) := by rfl)
    (hs : swapsWithSole [.Tuple [.Name x px, .Name y py] kt pt] (.Tuple [a, b] k2 pt2) pos.line X.env = pure false := by rfl) :
    PS X (.Assign [.Tuple [.Name x px, .Name y py] kt pt] (.Tuple [a, b] k2 pt2) pos) (SSr X.K P (sPar2 P i j f g)) := PSi (ps_par hc hN hi hj hij hx hy ha hw hs) fun _ _ _ q => sPar2_go q
theorem ss_par3 (i j l : Nat) {x y z : Str} {a b c : Expr} {f g h : EF} {px py pz pt : Pos} {kt k2 pt2} (ha : PA X [a, b, c] (SVr X.K [f, g, h])) (hc : X.calm = true) (hN : X.N.Nodup) (hi : X.N[i]? = some x := by rfl) (hj : X.N[j]? = some y := by rfl) (hl : X.N[l]? = some z := by rfl) (hij : i ≠ j := by decide) (hil : i ≠ l := by decide) (hjl : j ≠ l := by decide)
    (hx : X.env.scope.names.lookup x = some .local := by rfl) (hy : X.env.scope.names.lookup y = some .local := by rfl) (hz : X.env.scope.names.lookup z = some .local := by rfl)
    (hw : swappedStores [.Tuple [.Name x px, .Name y py, .Name z pz] kt pt] (.Tuple [a, b, c] k2 pt2) X.env = pure (some [x, y, z]) := by rfl)
    (hs : swapsWithSole [.Tuple [.Name x px, .Name y py, .Name z pz] kt pt] (.Tuple [a, b, c] k2 pt2) pos.line X.env = pure false := by rfl) :
    PS X (.Assign [.Tuple [.Name x px, .Name y py, .Name z pz] kt pt] (.Tuple [a, b, c] k2 pt2) pos) (SSr X.K P (sPar3 P i j l f g h)) := PSi (ps_par3 hc hN hi hj hl hij hil hjl hx hy hz ha hw hs) fun _ _ _ q => sPar3_go q
end
end PI

namespace PI
open PySem PySem.Spec PyProof.Rows L2
/-! ### while -/
def wl (c : EF) (f : SF) : Nat → SF
  | 0 => fun _ => none
  | n + 1 => fun env => (c env).bind fun r => match r.1.2 with
    | .bl false => some (.nx, r.2)
    | .bl true => (f r.2).bind fun s => match s.1 with
      | .nx => wl c f n s.2
      | .ct => wl c f n s.2
      | .bk => some (.nx, s.2)
      | .rt w => some (.rt w, s.2)
    | _ => none
/-- at most a million turns -/
def sWhile (c : EF) (f : SF) : SF := wl c f 1000000
section
variable {K : PySem.W.Frag} {P : List Nat} {env env1 env2 env' : PI.Env} {σ σ1 σ2 : L2.St} {H H1 H2 : Hp} {D : Ends} {c : Ctl}
theorem sWhile_go {t : EF} {f : SF} (h : SSr K P (sWhile t f) D σ H) : tWhile (STr K t) (SSr K P f) D σ H := by
  obtain ⟨Z, env, c, env', R, e, q⟩ := h
  refine ⟨fun m σ' H' => ∃ env1, Re K Z env1 σ' H' ∧ wl t f m env1 = some (c, env') ∧ Post K P Z env1 σ' H' D c env', ⟨1000000, env, R, e, q⟩, fun m σ1 H1 hW => ?_⟩
  obtain ⟨env1, R1, e1, q1⟩ := hW
  cases m with
  | zero => cases e1
  | succ m =>
    obtain ⟨⟨⟨fr, d⟩, env2⟩, g1, e1⟩ := obind e1
    cases d with
    | bl b =>
      refine ⟨Z, env1, fr, b, env2, R1, g1, fun H2 R2 t2 => ?_⟩
      have q2 := q1.after t2.stp .refl
      cases b with
      | false =>
        cases e1
        exact iteF (q2 σ1 H2 R2 .refl .refl)
      | true =>
        obtain ⟨⟨c3, env3⟩, g3, e1⟩ := obind e1
        refine iteT ⟨fun σ' H' => ∃ env1, Re K Z env1 σ' H' ∧ wl t f m env1 = some (c, env') ∧ Post K P Z env1 σ' H' D c env', fun σ' H' n => ⟨m, Nat.lt_succ_self m, n⟩, Z, env2, c3, env3, R2, g3, ?_⟩
        cases c3 with
        | nx => exact fun σ' H' R3 t3 k3 => ⟨env3, R3, e1, q2.after t3 k3⟩
        | ct => exact fun σ' H' R3 t3 k3 => ⟨env3, R3, e1, q2.after t3 k3⟩
        | bk =>
          cases e1
          exact fun σ' H' R3 t3 k3 => q2 σ' H' R3 t3 k3
        | rt w =>
          cases e1
          exact fun v σ' H' t3 k3 r3 => q2 v σ' H' t3 k3 r3
    | _ => cases e1
end
/-! ### what is walked -/
abbrev SrcF := PI.Env → Option (List PI.D × PI.Env)
def SrcGood (K : PySem.W.Frag) (O1 S1 : Addr → Prop) (H1 : Hp) (J : It) (ds : List PI.D) : Prop := ∃ (G : Hp → Prop) (Y : Nat → Hp → V → Hp → Prop), Walk J ds.length G Y ∧
  ∀ (H2 : Hp) (S2 : Addr → Prop), (∀ b o, H1 b = some o → ¬ O1 b → H2 b = some o) → (∀ b, S2 b → S1 b ∨ H1 b = none) → (∀ b, S2 b → H2 b ≠ none) →
    G H2 ∧ ∀ i x H', i < ds.length → Y i H2 x H' → (∀ b o, H2 b = some o → H' b = some o) ∧ ∃ d, ds[i]? = some d ∧ Rep K S2 H' x d
def SrcOk (K : PySem.W.Frag) (wi : TI) (src : SrcF) : Prop := ∀ (Z : Addr → Prop) (env : PI.Env) (σ : L2.St) (H : Hp) (R : It → Hp → Prop) (ds : List PI.D) (env1 : PI.Env), Re K Z env σ H → src env = some (ds, env1) →
  (∀ J H1, Re K Z env1 σ H1 → Trn env σ H env1 H1 → SrcGood K (Own env1 σ) (Av env1 σ Z) H1 J ds → R J H1) → wi σ H R
/-- the items of a list, of a tuple -/
def srcL (f : EF) : SrcF := fun env => (f env).bind fun r => match r.1.2 with
  | .lst ds => some (ds, r.2)
  | .frz ds => some (ds, r.2)
  | _ => none
def srcT (f : EF) : SrcF := fun env => (f env).bind fun r => match r.1.2 with
  | .tup ds => some (ds, r.2)
  | _ => none
def rangeD (lo : Int) (n : Nat) : List PI.D := (List.range n).map fun (i : Nat) => PI.D.int (lo + (i : Int))
def srcR1 (f : EF) : SrcF := fun env => (f env).bind fun r => match r.1.2 with
  | .int n => if -(2 ^ 62) ≤ n ∧ n < 2 ^ 62 then some (rangeD 0 n.toNat, r.2) else none
  | _ => none
def srcR2 (f g : EF) : SrcF := fun env => (f env).bind fun r => (g r.2).bind fun s => match r.1.2 with
  | .int a => (match s.1.2 with
    | .int b => if (-(2 ^ 62) ≤ a ∧ a < 2 ^ 62) ∧ -(2 ^ 62) ≤ b ∧ b < 2 ^ 62 then some (rangeD a (b - a).toNat, s.2) else none
    | _ => none)
  | _ => none
section
variable {K : PySem.W.Frag}
theorem src_items {O1 S1 S2 : Addr → Prop} {H1 H2 : Hp} {vs : List V} {ds : List PI.D} (r : RepAll K S1 H1 vs ds) (hO : ∀ a, O1 a → S1 a) (h1 : ∀ b o, H1 b = some o → ¬ O1 b → H2 b = some o) (h2 : ∀ b, S2 b → S1 b ∨ H1 b = none) : RepAll K S2 H2 vs ds :=
  r.step (fun a o e n => h1 a o e fun z => n (hO a z)) h2
theorem srcL_ok {f : EF} : SrcOk K (iList K (SEr K f)) (srcL f) := fun Z env σ H R ds env1 R0 e q => by
  obtain ⟨⟨⟨fr, d⟩, env2⟩, g1, e⟩ := obind e
  refine ⟨Z, env, (fr, d), env2, R0, g1, fun v H1 x => ?_⟩
  have key : ∃ (a : Addr) (vs : List V), v = .ref a ∧ FrzAt K (Av env2 σ Z) H1 a vs ∧ RepAll K (Av env2 σ Z) H1 vs ds ∧ env2 = env1 := by
    cases d with
    | lst es =>
      cases e
      have r := x.rep
      cases r with
      | lst h n r => exact ⟨_, _, rfl, .inl ⟨.inl h, n⟩, r, rfl⟩
    | frz es =>
      cases e
      obtain ⟨a, vs, h1, h2, h3⟩ := x.rep.frzD
      exact ⟨a, vs, h1, h2, h3, rfl⟩
    | _ => cases e
  obtain ⟨a, vs, rfl, ha, hr, rfl⟩ := key
  have hl := hr.length
  refine ⟨a, rfl, ⟨vs, ha.sq⟩, q _ H1 x.re x.tr ⟨fun H => SqL K H a vs, YAt vs, ?_, fun H2 S2 h1 h2 h3 => ⟨?_, fun i y H' hi hy => ?_⟩⟩⟩
  · rw [← hl]
    exact walk_list
  · exact (ha.step (H' := H2) (S' := S2) (fun a o e n => h1 a o e fun z => n (.inl z)) h2).sq
  · obtain ⟨rfl, hy⟩ := hy
    exact ⟨fun _ _ z => z, (src_items hr (fun a z => .inl z) h1 h2).getV hy⟩
theorem srcT_ok {f : EF} : SrcOk K (iTup K (SEr K f)) (srcT f) := fun Z env σ H R ds env1 R0 e q => by
  obtain ⟨⟨⟨fr, d⟩, env2⟩, g1, e⟩ := obind e
  refine ⟨Z, env, (fr, d), env2, R0, g1, fun v H1 x => ?_⟩
  cases d with
  | tup es =>
    cases e
    obtain ⟨a, vs, rfl, ha, hr⟩ := x.rep.tupD
    have hl := hr.length
    refine ⟨a, rfl, ⟨vs, ha.sq⟩, q _ H1 x.re x.tr ⟨fun H => SqT K H a vs, YAt vs, ?_, fun H2 S2 h1 h2 h3 => ⟨?_, fun i y H' hi hy => ?_⟩⟩⟩
    · rw [← hl]
      exact walk_tup
    · exact (ha.step (H' := H2) (S' := S2) (fun a o e n => h1 a o e fun z => n (.inl z)) h2).sq
    · obtain ⟨rfl, hy⟩ := hy
      exact ⟨fun _ _ z => z, (src_items hr (fun a z => .inl z) h1 h2).getV hy⟩
  | _ => cases e
theorem rangeD_len (lo : Int) (n : Nat) : (rangeD lo n).length = n := by
  unfold rangeD
  rw [List.length_map, List.length_range]
theorem rangeD_get {lo : Int} {n i : Nat} (h : i < n) : (rangeD lo n)[i]? = some (.int (lo + i)) := by
  unfold rangeD
  rw [List.getElem?_map, List.getElem?_range h]
  rfl
theorem range_good {O1 S1 : Addr → Prop} {H1 : Hp} {lo : Int} {n : Nat} : SrcGood K O1 S1 H1 (Itr lo n) (rangeD lo n) :=
  ⟨fun _ => True, YFn fun i => .int (lo + i), by rw [rangeD_len]; exact walk_range, fun H2 S2 h1 h2 h3 => ⟨trivial, fun i y H' hi hy => by
    obtain ⟨rfl, rfl⟩ := hy
    rw [rangeD_len] at hi
    exact ⟨fun _ _ z => z, _, rangeD_get hi, .int _⟩⟩⟩
theorem srcR1_ok {f : EF} : SrcOk K (iRng1 (SVr K [f])) (srcR1 f) := fun Z env σ H R ds env1 R0 e q => by
  obtain ⟨⟨⟨fr, d⟩, env2⟩, g1, e⟩ := obind e
  refine ⟨Z, env, (fr, d), env2, R0, g1, fun v H1 x => ?_⟩
  cases d with
  | int n =>
    dsimp only at e
    split at e
    · rename_i hn
      cases e
      have ev := rep_int x.rep
      subst ev
      exact ⟨n, rfl, hn.1, hn.2, q _ H1 x.re x.tr range_good⟩
    · cases e
  | _ => cases e
theorem srcR2_ok {f g : EF} : SrcOk K (iRng2 (SVr K [f, g])) (srcR2 f g) := fun Z env σ H R ds env1 R0 e q => by
  obtain ⟨⟨⟨fr, d⟩, env2⟩, g1, e⟩ := obind e
  obtain ⟨⟨⟨fr2, d2⟩, env3⟩, g2, e⟩ := obind e
  refine ⟨Z, env, (fr, d), env2, R0, g1, fun v H1 x => ⟨Z, env2, (fr2, d2), env3, x.re, g2, fun u H2 y => ?_⟩⟩
  cases d with
  | int a =>
    cases d2 with
    | int b =>
      dsimp only at e
      split at e
      · rename_i hn
        cases e
        have ev := rep_int x.rep
        have eu := rep_int y.rep
        subst ev eu
        exact ⟨a, b, rfl, ⟨hn.1.1, hn.1.2, hn.2.1, hn.2.2⟩, q _ H2 y.re (x.tr.trans y.tr) range_good⟩
      · cases e
    | _ => cases e
  | _ => cases e
end
/-! ### for -/
def fl (T : TF) (f : SF) : List PI.D → SF
  | [], env => some (.nx, env)
  | d :: ds, env => (T d env).bind fun e => (f e).bind fun s => match s.1 with
    | .nx => fl T f ds s.2
    | .ct => fl T f ds s.2
    | .bk => some (.nx, s.2)
    | .rt w => some (.rt w, s.2)
def sFor (P js : List Nat) (src : SrcF) (T : TF) (f : SF) : SF := fun env => match js.any fun j => P.contains j with
  | true => none
  | false => (src env).bind fun r => fl T f r.1 r.2
section
variable {K : PySem.W.Frag} {P : List Nat} {env env1 env2 env' : PI.Env} {σ σ1 σ2 : L2.St} {H H1 H2 : Hp} {D : Ends} {c : Ctl}
theorem sFor_go {js : List Nat} {src : SrcF} {T : TF} {f : SF} {g : TG} {wi : TI} (hs : SrcOk K wi src) (hT : TgOk K g T js) (h : SSr K P (sFor P js src T f) D σ H) : tFor wi g (SSr K P f) D σ H := by
  obtain ⟨Z, env, c, env', R, e, q⟩ := h
  unfold sFor at e
  cases hp : js.any fun j => P.contains j with
  | true =>
    rw [hp] at e
    cases e
  | false =>
    rw [hp] at e
    obtain ⟨⟨ds, env1⟩, g1, e⟩ := obind e
    refine hs Z env σ H _ ds env1 R g1 fun J H1 R1 t1 good => ?_
    obtain ⟨G, Y, w, hg⟩ := good
    have key : ∀ envi σ' H', Re K Z envi σ' H' → Stp env1 σ H1 envi σ' H' → G H' ∧ ∀ i x H2, i < ds.length → Y i H' x H2 → (∀ b o, H' b = some o → H2 b = some o) ∧ ∃ d, ds[i]? = some d ∧ Rep K (Av envi σ' Z) H2 x d := fun envi σ' H' R' s' =>
      hg H' (Av envi σ' Z) (fun b o e n => s'.keep b o e n) (fun b z => by
        rcases z with z | z
        · rcases s'.own b z with z | z
          · exact .inl (.inl z)
          · exact .inr z
        · exact .inl (.inr z)) (fun b z => R'.dom b z)
    refine for_it w (fun i σ' H' => ∃ envi, Re K Z envi σ' H' ∧ fl T f (ds.drop i) envi = some (c, env') ∧ Post K P Z envi σ' H' D c env' ∧ Stp env1 σ H1 envi σ' H') ⟨env1, R1, e, q.after t1.stp .refl, .refl⟩ (fun i σ' H' hi hP => ?_) (fun i x σ' H' H2 hi hP hY => ?_) fun σ' H' hP => ?_
    · obtain ⟨envi, R', e', q', s'⟩ := hP
      exact (key envi σ' H' R' s').1
    · obtain ⟨envi, R', e', q', s'⟩ := hP
      obtain ⟨gr, d, hd, rd⟩ := (key envi σ' H' R' s').2 i x H2 hi hY
      have ed : ds.drop i = d :: ds.drop (i + 1) := by
        obtain ⟨hl, hd⟩ := List.getElem?_eq_some_iff.mp hd
        rw [List.drop_eq_getElem_cons hl, hd]
      rw [ed] at e'
      obtain ⟨enva, ga, e'⟩ := obind e'
      obtain ⟨⟨c3, env3⟩, g3, e'⟩ := obind e'
      have R2 : Re K Z envi σ' H2 := R'.grow0 gr
      refine hT Z envi σ' H2 x d enva _ R2 rd ga fun σ2 R3 o3 k3 l3 => ⟨Z, enva, c3, env3, R3, g3, ?_⟩
      have sA : Stp envi σ' H' enva σ2 H2 := ⟨fun a z => .inl (o3 a z), fun a o z _ => gr a o z, dom_of gr⟩
      have q2 := q'.after sA (pin_js hp k3)
      have sB := s'.trans sA
      cases c3 with
      | nx => exact fun σ4 H4 R4 t4 k4 => ⟨env3, R4, e', q2.after t4 k4, sB.trans t4⟩
      | ct => exact fun σ4 H4 R4 t4 k4 => ⟨env3, R4, e', q2.after t4 k4, sB.trans t4⟩
      | bk =>
        cases e'
        exact fun σ4 H4 R4 t4 k4 => q2 σ4 H4 R4 t4 k4
      | rt w =>
        cases e'
        exact fun v σ4 H4 t4 k4 r4 => q2 v σ4 H4 t4 k4 r4
    · obtain ⟨envi, R', e', q', s'⟩ := hP
      rw [List.drop_eq_nil_of_le (Nat.le_refl _)] at e'
      cases e'
      exact q' σ' H' R' .refl .refl
end
section
variable {X : Cx} {pos : Pos} {P : List Nat}
theorem ss_while {c : Expr} {body : List Stmt} {t : EF} {f : SF} (hc : PT X c (STr X.K t)) (hb : PSs X body (SSr X.K P f)) (hp : PassesOwn (model X.prog X.w) X.A X.env X.xe) : PS X (.While c body [] pos) (SSr X.K P (sWhile t f)) := PSi (ps_while hp hc hb) fun _ _ _ q => sWhile_go q
theorem ss_for {tg iter : Expr} {body : List Stmt} {wi : TI} {g : TG} {src : SrcF} {T : TF} {js : List Nat} {f : SF} (hi : PI X tg iter wi) (hs : SrcOk X.K wi src) (hg : PG X tg g) (hT : TgOk X.K g T js) (hb : PSs X body (SSr X.K P f)) (hp : PassesOwn (model X.prog X.w) X.A X.env X.xe) (hc : X.calm = true)
    (hx : ∀ x, foldedSetIterable iter X.env x = pure x := by intro _; rfl) : PS X (.For tg iter body [] pos) (SSr X.K P (sFor P js src T f)) := PSi (ps_for hp hc hi hg hb hx) fun _ _ _ q => sFor_go hs hT q
end
end PI

namespace PI
open PySem PySem.Spec PyProof.Rows L2
/-! ### comprehensions -/
def wipeE (env : PI.Env) : List Nat → PI.Env
  | [] => env
  | v :: vs => (wipeE env vs).set v none
def restE (base ec : PI.Env) : List Nat → PI.Env
  | [] => ec
  | v :: vs => (restE base ec vs).set v (base[v]?.getD none)
def ownAt (env : PI.Env) (i : Nat) : Bool := match env[i]? with
  | some (some (true, _)) => true
  | _ => false
def noOwn (env : PI.Env) (vs : List Nat) : Bool := vs.all fun v => !ownAt env v
/-- the kept items, the names behind -/
def lcl (T : TF) (c f : EF) (vs : List Nat) : List PI.D → PI.Env → Option (List PI.D × PI.Env)
  | [], env => some ([], env)
  | d :: ds, env => match noOwn env vs with
    | false => none
    | true => (T d (wipeE env vs)).bind fun e => (c e).bind fun r => match r.1.2 with
      | .bl true => (f r.2).bind fun s => (lcl T c f vs ds (restE env s.2 vs)).bind fun t => some (s.1.2 :: t.1, t.2)
      | .bl false => lcl T c f vs ds (restE env r.2 vs)
      | _ => none
/-- what a comprehension walks: the items, the names meanwhile, the slot that is hidden -/
abbrev SrcC := PI.Env → Option (List PI.D × PI.Env × Option (Nat × List PI.D))
def undoE (env : PI.Env) : Option (Nat × List PI.D) → PI.Env
  | none => env
  | some p => env.set p.1 (some (true, .lst p.2))
def SrcCOk (K : PySem.W.Frag) (wi : TI) (src : SrcC) : Prop := ∀ (Z : Addr → Prop) (env : PI.Env) (σ : L2.St) (H : Hp) (R : It → Hp → Prop) (ds : List PI.D) (env1 : PI.Env) (hid : Option (Nat × List PI.D)), Re K Z env σ H → src env = some (ds, env1, hid) →
  (∀ J H1 (Z1 : Addr → Prop), Re K Z1 env1 σ H1 → Trn env σ H env1 H1 → SrcGood K (Own env1 σ) (Av env1 σ Z1) H1 J ds →
    (∀ (Zx : Addr → Prop) (env2 : PI.Env) (H2 : Hp), Re K (fun b => Z1 b ∨ Zx b) env2 σ H2 → (∀ b o, H1 b = some o → ¬ Own env1 σ b → H2 b = some o) → (∀ b, Own env2 σ b → Own env1 σ b) → (∀ b, Zx b → H1 b = none) →
      Re K (fun b => Z b ∨ Zx b) (undoE env2 hid) σ H2 ∧ (∀ b, Av (undoE env2 hid) σ (fun b => Z b ∨ Zx b) b → Av env2 σ (fun b => Z1 b ∨ Zx b) b) ∧ ∀ b, Own (undoE env2 hid) σ b → Own env σ b) → R J H1) → wi σ H R
def srcC (src : SrcF) : SrcC := fun env => (src env).bind fun r => some (r.1, r.2, none)
/-- the owned list of a name, hidden meanwhile -/
def srcH (i : Nat) : SrcC := fun env => match env[i]? with
  | some (some (true, .lst ds)) => some (ds, env.set i none, some (i, ds))
  | some (some (false, .lst ds)) => some (ds, env, none)
  | _ => none
def eLc (src : SrcC) (T : TF) (c f : EF) (vs : List Nat) : EF := fun env => (src env).bind fun r => if r.1.length < 1000000 then (lcl T c f vs r.1 r.2.1).bind fun t => some ((true, .lst t.1), undoE t.2 r.2.2) else none
def eYes : EF := fun env => some ((false, .bl true), env)
section
variable {K : PySem.W.Frag} {Z : Addr → Prop} {env env1 env2 env' : PI.Env} {σ σ1 σ2 : L2.St} {H H1 H2 : Hp}
theorem srcC_ok {wi : TI} {src : SrcF} (h : SrcOk K wi src) : SrcCOk K wi (srcC src) := fun Z env σ H R ds env1 hid R0 e q => by
  obtain ⟨⟨ds2, env2⟩, g1, e⟩ := obind e
  cases e
  exact h Z env σ H R _ _ R0 g1 fun J H1 R1 t1 good => q J H1 Z R1 t1 good fun Zx env2 H2 R2 _ o2 _ => ⟨R2, fun _ z => z, fun b z => t1.own b (o2 b z)⟩
theorem list_set_self {α : Type} {l : List α} {i : Nat} {x : α} (h : l[i]? = some x) : l.set i x = l := by
  apply List.ext_getElem?
  intro j
  by_cases e : i = j
  · subst e
    rw [List.getElem?_set_self (lt_of_get h), h]
  · rw [List.getElem?_set_ne e]
theorem srcH_ok {i : Nat} : SrcCOk K (iList K (tVar i)) (srcH i) := fun Z env σ H R ds env1 hid R0 e q => by
  unfold srcH at e
  split at e
  · rename_i es g
    cases e
    obtain ⟨a, vs, h1, h2, h3⟩ := slot_list R0 g
    obtain ⟨R1, ow, av⟩ := R0.dropS g h1
    have nown : ¬ Own (env.set i none) σ a := (R1.z a (.inr rfl)).2
    have hl := h3.length
    refine ⟨.ref a, h1, a, rfl, ⟨vs, .inl (.inl h2)⟩, q _ H (fun b => Z b ∨ b = a) R1 ⟨ow, fun b o z _ => z, fun b z => z⟩ ⟨fun H => SqL K H a vs, YAt vs, ?_, fun H2 S2 k1 k2 k3 => ⟨.inl (.inl (k1 a _ h2 nown)), fun j y H' hj hy => ?_⟩⟩ fun Zx env2 H2 R2 k2 o2 z2 => ?_⟩
    · rw [← hl]
      exact walk_list
    · obtain ⟨rfl, hy⟩ := hy
      refine ⟨fun _ _ z => z, RepAll.getV ?_ hy⟩
      refine (h3.less av).step (fun b o e n => k1 b o e fun z => n (.inl z)) k2
    · have hnx : ¬ Zx a := fun z => by
        have := z2 a z
        rw [h2] at this
        cases this
      have hz : ∀ b, ((Z b ∨ Zx b) ∨ b = a) → ((Z b ∨ b = a) ∨ Zx b) := fun b z => by
        rcases z with (z | z) | z
        · exact .inl (.inl z)
        · exact .inr z
        · exact .inl (.inr z)
      have ha2 : H2 a = some (.lst vs) := k2 a _ h2 nown
      have hr : RepAll K (Av env2 σ fun b => (Z b ∨ Zx b) ∨ b = a) H2 vs ds := (h3.less av).step (fun b o e n => k2 b o e fun z => n (.inl z)) fun b z => by
        rcases z with z | (z | z) | z
        · exact .inl (.inl (o2 b z))
        · exact .inl (.inr (.inl z))
        · exact .inr (z2 b z)
        · exact .inl (.inr (.inr z))
      have li : i < env2.length := by
        have := R2.len
        have := lt_of_get h1
        omega
      have R3 := (R2.weakZ hz).storeN (i := i) li rfl (fun z => z.elim (fun z => (R0.z a z).2 ⟨i, _, g, h1⟩) hnx) ha2 hr
      have es : σ.set i (some (V.ref a)) = σ := list_set_self h1
      rw [es] at R3
      have ow2 : ∀ b, Own (env2.set i (some (true, .lst ds))) σ b → Own env2 σ b ∨ b = a := fun b z => by
        rw [← es] at z
        exact (own_storeN z).imp (fun z => by rw [es] at *; exact z) id
      refine ⟨R3, fun b z => ?_, fun b z => ?_⟩
      · rcases z with z | z
        · rcases ow2 b z with z | z
          · exact .inl z
          · exact .inr (.inl (.inr z))
        · rcases z with z | z
          · exact .inr (.inl (.inl z))
          · exact .inr (.inr z)
      · rcases ow2 b z with z | z
        · exact ow b (o2 b z)
        · subst z
          exact ⟨i, _, g, h1⟩
  · rename_i es g
    cases e
    obtain ⟨v, h1, h2⟩ := R0.sh i _ g
    cases h2 with
    | lst h n r =>
      rename_i a vs
      have hl := r.length
      refine ⟨.ref a, h1, a, rfl, ⟨vs, .inl (.inl h)⟩, q _ H Z R0 .refl ⟨fun H => SqL K H a vs, YAt vs, ?_, fun H2 S2 k1 k2 k3 => ⟨.inl (.inl (k1 a _ h fun z => n (.inl z))), fun j y H' hj hy => ?_⟩⟩ fun Zx env2 H2 R2 _ o2 _ => ⟨R2, fun _ z => z, o2⟩⟩
      · rw [← hl]
        exact walk_list
      · obtain ⟨rfl, hy⟩ := hy
        exact ⟨fun _ _ z => z, (src_items r (fun a z => .inl z) k1 k2).getV hy⟩
  · cases e
/-! the block's slots -/
theorem wipeE_len : ∀ vs : List Nat, (wipeE env vs).length = env.length
  | [] => rfl
  | v :: vs => by
    unfold wipeE
    rw [List.length_set, wipeE_len vs]
theorem wipeE_some {i : Nat} {x : Bool × PI.D} : ∀ {vs : List Nat}, (wipeE env vs)[i]? = some (some x) → env[i]? = some (some x) ∧ i ∉ vs
  | [], h => ⟨h, by simp⟩
  | v :: vs, h => by
    unfold wipeE at h
    rcases set_get h with ⟨_, q, _⟩ | ⟨ne, q⟩
    · cases q
    · obtain ⟨h1, h2⟩ := wipeE_some q
      exact ⟨h1, fun z => (List.mem_cons.mp z).elim (fun z => ne z.symm) h2⟩
theorem noOwn_at {vs : List Nat} (h : noOwn env vs = true) {i : Nat} {d : PI.D} (g : env[i]? = some (some (true, d))) : i ∉ vs := fun hi => by
  have q := List.all_eq_true.mp h i hi
  unfold ownAt at q
  rw [g] at q
  cases q
theorem wipe_get {i : Nat} : ∀ {vs : List Nat}, i ∉ vs → (wipe σ vs)[i]? = σ[i]?
  | [], _ => rfl
  | v :: vs, h => by
    unfold wipe
    rw [List.getElem?_set_ne (fun e => h (by rw [e]; exact List.mem_cons_self)), wipe_get fun z => h (List.mem_cons_of_mem _ z)]
theorem wipeE_get {i : Nat} : ∀ {vs : List Nat}, i ∉ vs → (wipeE env vs)[i]? = env[i]?
  | [], _ => rfl
  | v :: vs, h => by
    unfold wipeE
    rw [List.getElem?_set_ne (fun e => h (by rw [e]; exact List.mem_cons_self)), wipeE_get fun z => h (List.mem_cons_of_mem _ z)]
theorem own_wipe {vs : List Nat} (h : noOwn env vs = true) {a : Addr} : Own (wipeE env vs) (wipe σ vs) a ↔ Own env σ a := by
  constructor
  · rintro ⟨i, d, h1, h2⟩
    obtain ⟨g1, g2⟩ := wipeE_some h1
    rw [wipe_get g2] at h2
    exact ⟨i, d, g1, h2⟩
  · rintro ⟨i, d, h1, h2⟩
    have n := noOwn_at h h1
    exact ⟨i, d, by rw [wipeE_get n]; exact h1, by rw [wipe_get n]; exact h2⟩
theorem Rel.wipe (R : Re K Z env σ H) {vs : List Nat} (h : noOwn env vs = true) : Re K Z (wipeE env vs) (wipe σ vs) H := by
  have av : ∀ b, Av (wipeE env vs) (L2.wipe σ vs) Z b → Av env σ Z b := fun b z => z.imp (own_wipe h).mp id
  refine ⟨by rw [wipeE_len, wipe_length]; exact R.len, fun i d g => ?_, fun i d g => ?_, fun i j d e a g1 g2 h1 h2 => ?_, fun a o z => (nomatch z), fun a z => ⟨(R.z a z).1, fun q => (R.z a z).2 ((own_wipe h).mp q)⟩⟩
  · obtain ⟨g1, g2⟩ := wipeE_some g
    obtain ⟨v, h1, h2⟩ := R.sh i d g1
    exact ⟨v, by rw [wipe_get g2]; exact h1, h2.less av⟩
  · obtain ⟨g1, g2⟩ := wipeE_some g
    obtain ⟨a, us, ds, h1, h2, h3, h4⟩ := R.ow i d g1
    exact ⟨a, us, ds, by rw [wipe_get g2]; exact h1, h2, h3, h4.less av⟩
  · obtain ⟨g1, n1⟩ := wipeE_some g1
    obtain ⟨g2, n2⟩ := wipeE_some g2
    rw [wipe_get n1] at h1
    rw [wipe_get n2] at h2
    exact R.dist i j d e a g1 g2 h1 h2
theorem wipe_eq {vs js : List Nat} (hj : ∀ j ∈ js, j ∈ vs) (k : ∀ i, i ∉ js → σ2[i]? = (wipe σ vs)[i]?) (l : σ2.length = (wipe σ vs).length) : wipe σ2 vs = wipe σ vs := by
  apply List.ext_getElem?
  intro i
  by_cases h : i ∈ vs
  · have key : ∀ (τ : L2.St) (us : List Nat), i ∈ us → i < τ.length → (wipe τ us)[i]? = some none := fun τ us => by
      induction us with
      | nil => intro q; cases q
      | cons v us ih =>
        intro q ql
        unfold wipe
        by_cases e : v = i
        · subst e
          rw [List.getElem?_set_self (by rw [wipe_length]; exact ql)]
        · rw [List.getElem?_set_ne e]
          exact ih ((List.mem_cons.mp q).resolve_left fun z => e z.symm) ql
    rw [wipe_length] at l
    by_cases hi : i < σ.length
    · rw [key σ vs h hi, key σ2 vs h (by omega)]
    · rw [List.getElem?_eq_none (by rw [wipe_length]; omega), List.getElem?_eq_none (by rw [wipe_length]; omega)]
  · rw [wipe_get h, k i fun z => h (hj i z), wipe_get h]
theorem restE_len {ec : PI.Env} : ∀ vs : List Nat, (restE env ec vs).length = ec.length
  | [] => rfl
  | v :: vs => by
    unfold restE
    rw [List.length_set, restE_len vs]
theorem restE_out {ec : PI.Env} {i : Nat} : ∀ {vs : List Nat}, i ∉ vs → (restE env ec vs)[i]? = ec[i]?
  | [], _ => rfl
  | v :: vs, h => by
    unfold restE
    rw [List.getElem?_set_ne (fun e => h (by rw [e]; exact List.mem_cons_self)), restE_out fun z => h (List.mem_cons_of_mem _ z)]
theorem restE_in {ec : PI.Env} {i : Nat} {x : Bool × PI.D} : ∀ {vs : List Nat}, i ∈ vs → (restE env ec vs)[i]? = some (some x) → env[i]? = some (some x)
  | v :: vs, h, g => by
    unfold restE at g
    rcases set_get g with ⟨e, q, _⟩ | ⟨ne, q⟩
    · subst e
      cases z : env[v]? with
      | none =>
        rw [z] at q
        cases q
      | some y =>
        rw [z] at q
        have q : y = some x := q
        rw [q]
    · exact restE_in ((List.mem_cons.mp h).resolve_left fun z => ne z.symm) q
/-- behind a turn -/
theorem Rel.rest {ec : PI.Env} {σc : L2.St} {vs : List Nat} (R : Re K Z env σ H) (hn : noOwn env vs = true) (Rc : Re K Z ec σc H2) (hs : ∀ i, i ∉ vs → σc[i]? = σ[i]?) (hl : σc.length = σ.length) (ho : ∀ a, Own ec σc a → Own env σ a)
    (hk : ∀ a o, H a = some o → ¬ Own env σ a → H2 a = some o) : Re K Z (restE env ec vs) σ H2 ∧ (∀ a, Own (restE env ec vs) σ a → Own ec σc a) := by
  have ow : ∀ i d, (restE env ec vs)[i]? = some (some (true, d)) → i ∉ vs ∧ ec[i]? = some (some (true, d)) := fun i d g => by
    by_cases h : i ∈ vs
    · exact absurd h (noOwn_at hn (restE_in h g))
    · rw [restE_out h] at g
      exact ⟨h, g⟩
  have owA : ∀ a, Own (restE env ec vs) σ a → Own ec σc a := fun a ⟨i, d, h1, h2⟩ => by
    obtain ⟨n, g⟩ := ow i d h1
    exact ⟨i, d, g, by rw [hs i n]; exact h2⟩
  have av : ∀ a, Av (restE env ec vs) σ Z a → Av ec σc Z a := fun a z => z.imp (owA a) id
  refine ⟨⟨by rw [restE_len, Rc.len, hl], fun i d g => ?_, fun i d g => ?_, fun i j d e a g1 g2 h1 h2 => ?_, fun a o z => (nomatch z), fun a z => ⟨(Rc.z a z).1, fun q => (Rc.z a z).2 (owA a q)⟩⟩, owA⟩
  · by_cases h : i ∈ vs
    · obtain ⟨v, h1, h2⟩ := R.sh i d (restE_in h g)
      exact ⟨v, h1, h2.step (fun a o e n => hk a o e fun z => n (.inl z)) fun a z => .inl ((av a z).imp (ho a) id)⟩
    · rw [restE_out h] at g
      obtain ⟨v, h1, h2⟩ := Rc.sh i d g
      exact ⟨v, by rw [← hs i h]; exact h1, h2.less av⟩
  · obtain ⟨n, g⟩ := ow i d g
    obtain ⟨a, us, ds, h1, h2, h3, h4⟩ := Rc.ow i d g
    exact ⟨a, us, ds, by rw [← hs i n]; exact h1, h2, h3, h4.less av⟩
  · obtain ⟨n1, g1⟩ := ow i d g1
    obtain ⟨n2, g2⟩ := ow j e g2
    exact Rc.dist i j d e a g1 g2 (by rw [hs i n1]; exact h1) (by rw [hs j n2]; exact h2)
theorem eLc_go {src : SrcC} {T : TF} {c f : EF} {vs js : List Nat} {wi : TI} {g : TG} (hs : SrcCOk K wi src) (hT : TgOk K g T js) (hj : ∀ j ∈ js, j ∈ vs) {Q : VK} (h : SEr K (eLc src T c f vs) σ H Q) : tLc wi g (STr K c) (SEr K f) vs σ H Q := by
  obtain ⟨Z, env, w, env', R, e, q⟩ := h
  obtain ⟨⟨ds, env1, hid⟩, g1, e⟩ := obind e
  dsimp only at e
  split at e
  · rename_i hlen
    obtain ⟨⟨out, envF⟩, g2, e⟩ := obind e
    cases e
    refine hs Z env σ H _ ds env1 hid R g1 fun J H1 Z1 R1 t1 good undo => ?_
    obtain ⟨G, Y, w, hg⟩ := good
    intro Dl hD
    -- the invariant
    let ZD : Addr → Prop := fun b => Z1 b ∨ b = Dl
    have hD' : ∀ b u, H1 b = some u → upd H1 Dl (.lst []) b = some u := keep_upd hD
    have R1' : Re K ZD env1 σ (upd H1 Dl (.lst [])) := R1.grow hD' (fun b z => z.imp id fun z => by rw [z]; exact hD) fun b z => by
      rcases z with z | z
      · exact dom_of hD' b (R1.z b z).1
      · rw [z, upd_same]
        exact fun q => by cases q
    let Pv : Nat → Hp → Prop := fun i H' => ∃ envi accv accd rest, Re K ZD envi σ H' ∧ lcl T c f vs (ds.drop i) envi = some (rest, envF) ∧ accd ++ rest = out ∧ accd.length ≤ i ∧ H' Dl = some (.lst accv) ∧ RepAll K (Av envi σ ZD) H' accv accd ∧
      (∀ a, Own envi σ a → Own env1 σ a) ∧ (∀ a o, H1 a = some o → ¬ Own env1 σ a → H' a = some o) ∧ (∀ a, H1 a ≠ none → H' a ≠ none)
    have key : ∀ i H', Pv i H' → G H' ∧ ∀ envi, Re K ZD envi σ H' → (∀ a, Own envi σ a → Own env1 σ a) → ∀ i x H2, i < ds.length → Y i H' x H2 → (∀ b o, H' b = some o → H2 b = some o) ∧ ∃ d, ds[i]? = some d ∧ Rep K (Av envi σ ZD) H2 x d := fun i H' hP => by
      obtain ⟨envi, accv, accd, rest, R', _, _, _, _, _, o', k', d'⟩ := hP
      have hx : ∀ env2, Re K ZD env2 σ H' → (∀ a, Own env2 σ a → Own env1 σ a) → _ := fun env2 R2 o2 => hg H' (Av env2 σ ZD) k' (fun b z => by
        rcases z with z | z | z
        · exact .inl (.inl (o2 b z))
        · exact .inl (.inr z)
        · rw [z]
          exact .inr hD) fun b z => R2.dom b z
      exact ⟨(hx envi R' o').1, fun env2 R2 o2 => (hx env2 R2 o2).2⟩
    refine lc_it w Pv ⟨env1, [], [], out, R1', g2, rfl, Nat.le_refl _, upd_same, .nil, fun a z => z, fun a o z _ => hD' a o z, dom_of hD'⟩ (fun i H' hi hP => (key i H' hP).1) (fun i x H' H2 hi hP hY => ?_) fun H' hP => ?_
    · have hk := (key i H' hP).2
      obtain ⟨envi, accv, accd, rest, R', e', ea, hal, hDl, hra, o', k', d'⟩ := hP
      obtain ⟨gr, d, hd, rd⟩ := hk envi R' o' i x H2 hi hY
      have ed : ds.drop i = d :: ds.drop (i + 1) := by
        obtain ⟨hl, hd⟩ := List.getElem?_eq_some_iff.mp hd
        rw [List.drop_eq_getElem_cons hl, hd]
      rw [ed] at e'
      unfold lcl at e'
      cases hno : noOwn envi vs with
      | false =>
        rw [hno] at e'
        cases e'
      | true =>
        rw [hno] at e'
        obtain ⟨enva, ga, e'⟩ := obind e'
        obtain ⟨⟨⟨frb, db⟩, envb⟩, gb, e'⟩ := obind e'
        have R2 : Re K ZD envi σ H2 := R'.grow0 gr
        have Rw : Re K ZD (wipeE envi vs) (wipe σ vs) H2 := R2.wipe hno
        have avw : ∀ b, Av (wipeE envi vs) (wipe σ vs) ZD b → Av envi σ ZD b := fun b z => z.imp (own_wipe hno).mp id
        refine hT ZD (wipeE envi vs) (wipe σ vs) H2 x d enva _ Rw (rd.less avw) ga fun σ3 R3 o3 k3 l3 => ⟨wipe_eq hj k3 l3, ?_⟩
        have hs3 : ∀ i, i ∉ vs → σ3[i]? = σ[i]? := fun i hi => by rw [k3 i fun z => hi (hj i z), wipe_get hi]
        have hl3 : σ3.length = σ.length := by rw [l3, wipe_length]
        have oA : ∀ a, Own enva σ3 a → Own envi σ a := fun a z => (own_wipe hno).mp (o3 a z)
        cases db with
        | bl b =>
          refine ⟨ZD, enva, frb, b, envb, R3, gb, fun H3 Rb tb => ?_⟩
          have oB : ∀ a, Own envb σ3 a → Own envi σ a := fun a z => oA a (tb.own a z)
          have kB : ∀ a o, H2 a = some o → ¬ Own envi σ a → H3 a = some o := fun a o z n => tb.keep a o z fun y => n (oA a y)
          have nD : ∀ env2 σ2 H2, Re K ZD env2 σ2 H2 → ¬ Own env2 σ2 Dl := fun env2 σ2 H2 r => (r.z Dl (.inr rfl)).2
          cases b with
          | false =>
            obtain ⟨R4, o4⟩ := R2.rest hno Rb hs3 hl3 oB kB
            refine iteF ⟨restE envi envb vs, accv, accd, rest, R4, e', ea, by omega, kB Dl _ (gr _ _ hDl) (nD _ _ _ R'), hra.step (fun a o z n => kB a o (gr a o z) fun y => n (.inl y)) (fun a z => .inl (z.imp (fun z => oB a (o4 a z)) id)), fun a z => o' a (oB a (o4 a z)), fun a o z n => kB a o (gr a o (k' a o z n)) fun y => n (o' a y), fun a z => tb.dom a (dom_of gr a (d' a z))⟩
          | true =>
            obtain ⟨⟨w4, envc⟩, gc, e'⟩ := obind e'
            obtain ⟨⟨out2, envF2⟩, gd, e'⟩ := obind e'
            cases e'
            refine iteT ⟨ZD, envb, w4, envc, Rb, gc, fun y H4 x4 => ?_⟩
            have oC : ∀ a, Own envc σ3 a → Own envi σ a := fun a z => oB a (x4.tr.own a z)
            have kC : ∀ a o, H2 a = some o → ¬ Own envi σ a → H4 a = some o := fun a o z n => x4.tr.keep a o (kB a o z n) fun y => n (oB a y)
            obtain ⟨R4, o4⟩ := R2.rest hno x4.re hs3 hl3 oC kC
            have hD4 : H4 Dl = some (.lst accv) := kC Dl _ (gr _ _ hDl) (nD _ _ _ R')
            have hra4 : RepAll K (Av (restE envi envc vs) σ ZD) H4 accv accd := hra.step (fun a o z n => kC a o (gr a o z) fun y => n (.inl y)) fun a z => .inl (z.imp (fun z => oC a (o4 a z)) id)
            have hy : Rep K (Av (restE envi envc vs) σ ZD) H4 y w4.2 := x4.rep.less fun a z => z.imp (o4 a) id
            have st5 : ∀ b u, H4 b = some u → ¬ Av (restE envi envc vs) σ ZD b → upd H4 Dl (.lst (accv ++ [y])) b = some u := fun b u z n => keep_ne b u (fun q => n (.inr (.inr q))) z
            have R5 : Re K ZD (restE envi envc vs) σ (upd H4 Dl (.lst (accv ++ [y]))) := by
              have nDo := nD _ _ _ R4
              have hne : ∀ a u, a ≠ Dl → H4 a = some u → upd H4 Dl (.lst (accv ++ [y])) a = some u := fun a u n z => keep_ne a u n z
              refine ⟨R4.len, fun i d g => ?_, fun i d g => ?_, R4.dist, fun a o z => (nomatch z), fun a z => ⟨?_, (R4.z a z).2⟩⟩
              · obtain ⟨v, h1, h2⟩ := R4.sh i d g
                exact ⟨v, h1, h2.step st5 fun a z => .inl z⟩
              · obtain ⟨a, us, es, h1, h2, h3, h4⟩ := R4.ow i d g
                exact ⟨a, us, es, h1, h2, hne a _ (fun q => nDo (by rw [← q]; exact ⟨i, d, g, h1⟩)) h3, h4.step st5 fun a z => .inl z⟩
              · by_cases q : a = Dl
                · rw [q, upd_same]
                  exact fun z => by cases z
                · rw [upd_ne q]
                  exact (R4.z a z).1
            refine ⟨accv, hD4, mil (by rw [hra.length]; omega), restE envi envc vs, accv ++ [y], accd ++ [w4.2], out2, R5, gd, ?_, ?_, upd_same, (hra4.append (.cons hy .nil)).step st5 fun a z => .inl z, fun a z => o' a (oC a (o4 a z)), fun a o z n => ?_, fun a z => ?_⟩
            · rw [List.append_assoc]
              exact ea
            · rw [List.length_append]
              show accd.length + 1 ≤ i + 1
              omega
            · refine keep_ne a o (fun q => ?_) (kC a o (gr a o (k' a o z n)) fun y => n (o' a y))
              rw [q, hD] at z
              cases z
            · by_cases q : a = Dl
              · rw [q, upd_same]
                exact fun z => by cases z
              · rw [upd_ne q]
                exact x4.tr.dom a (tb.dom a (dom_of gr a (d' a z)))
        | _ => cases e'
    · obtain ⟨envi, accv, accd, rest, R', e', ea, hal, hDl, hra, o', k', d'⟩ := hP
      rw [List.drop_eq_nil_of_le (Nat.le_refl _)] at e'
      cases e'
      rw [List.append_nil] at ea
      subst ea
      obtain ⟨R5, a5, o5⟩ := undo (fun b => b = Dl) envF H' R' k' o' fun b z => by rw [z]; exact hD
      have hn : H Dl = none := none_back (t1.dom Dl) hD
      have tr : Trn env σ H (undoE envF hid) H' := ⟨o5, fun a o z n => k' a o (t1.keep a o z n) fun y => n (t1.own a y), fun a z => d' a (t1.dom a z)⟩
      have r5 : RepAll K (Av (undoE envF hid) σ fun b => Z b ∨ b = Dl) H' accv accd := hra.less a5
      refine q (.ref Dl) H' ⟨R5.weakZ fun b z => .inl z, tr, ?_, fun _ => ⟨Dl, accv, accd, rfl, rfl, hn, hDl, R5, r5⟩⟩
      exact .lst hDl (fun z => by
        rcases z with z | z
        · exact (R5.z Dl (.inr rfl)).2 z
        · exact (R.z Dl z).1 hn) (r5.less fun b z => z.imp id .inl)
  · cases e
end
section
variable {X : Cx} {pos : Pos} {P : List Nat}
theorem st_yes : PTs X [] (STr X.K eYes) := ⟨fun pins s σ H Q I h => by
  obtain ⟨Z, env, fr, b, env', R, e, q⟩ := h
  cases e
  exact pts_nil.run pins s σ H Q I (q H R .refl)⟩
theorem st_ones {c : Expr} {t : EF} (h : PT X c (STr X.K t)) : PTs X [c] (STr X.K t) := pts_one h
theorem se_lc {elt tg iter : Expr} {ifs : List Expr} {scope : Scope} {own : List (Str × Nat)} {wi : TI} {g : TG} {src : SrcC} {T : TF} {js : List Nat} {c f : EF} (hi : PI X tg iter wi) (hs : SrcCOk X.K wi src) (ok : BlkOk X.N X.env.scope scope own) (hT : TgOk X.K g T js)
    (hg : ∀ (s : Shared) (H : Hp) (C : Addr) (cl : List (Str × Addr)) (fp : List Addr), PG (X.blk s H scope (compEnvC scope cl C X.env) fp) tg g) (ht : ∀ (s : Shared) (H : Hp) (C : Addr) (cl : List (Str × Addr)) (fp : List Addr), PTs (X.blk s H scope (compEnvC scope cl C X.env) fp) ifs (STr X.K c))
    (he : ∀ (s : Shared) (H : Hp) (C : Addr) (cl : List (Str × Addr)) (fp : List Addr), PE (X.blk s H scope (compEnvC scope cl C X.env) fp) elt (SEr X.K f)) (hc : X.calm = true) (hN : X.N.Nodup) (hj : ∀ j ∈ js, j ∈ own.map (·.2) := by decide) (hx : ∀ x, foldedSetIterable iter X.env x = pure x := by intro _; rfl) :
    PE X (.ListComp elt [⟨tg, iter, ifs, 0⟩] scope pos) (SEr X.K (eLc src T c f (own.map (·.2)))) := PEi (pe_lc hc hN hi ok hg ht he hx) fun _ _ _ q => eLc_go hs hT hj q
theorem ss_setLc (i : Nat) {y : Str} {py spos : Pos} {elt tg iter : Expr} {ifs : List Expr} {scope : Scope} {own : List (Str × Nat)} {wi : TI} {g : TG} {src : SrcC} {T : TF} {js : List Nat} {c f : EF} (hi : PI X tg iter wi) (hs : SrcCOk X.K wi src) (ok : BlkOk X.N X.env.scope scope own) (hT : TgOk X.K g T js)
    (hg : ∀ (s : Shared) (H : Hp) (C : Addr) (cl : List (Str × Addr)) (fp : List Addr), PG (X.blk s H scope (compEnvC scope cl C X.env) fp) tg g) (ht : ∀ (s : Shared) (H : Hp) (C : Addr) (cl : List (Str × Addr)) (fp : List Addr), PTs (X.blk s H scope (compEnvC scope cl C X.env) fp) ifs (STr X.K c))
    (he : ∀ (s : Shared) (H : Hp) (C : Addr) (cl : List (Str × Addr)) (fp : List Addr), PE (X.blk s H scope (compEnvC scope cl C X.env) fp) elt (SEr X.K f)) (hc : X.calm = true) (hN : X.N.Nodup)
    (hsw : swapsWith (.ListComp elt [⟨tg, iter, ifs, 0⟩] scope pos) (some (.Name y py)) spos.line X.env = pure true) (hy : X.N[i]? = some y := by rfl) (hyl : X.env.scope.names.lookup y = some .local := by rfl) (hj : ∀ j ∈ js, j ∈ own.map (·.2) := by decide) (hx : ∀ x, foldedSetIterable iter X.env x = pure x := by intro _; rfl) :
    PS X (.Assign [.Name y py] (.ListComp elt [⟨tg, iter, ifs, 0⟩] scope pos) spos) (SSr X.K P (sAsg P i (eLc src T c f (own.map (·.2))))) := PSi (ps_setLc hc hN hy hyl hsw hi ok hg ht he hx) fun D σ H q => by
  have h : SEr X.K (eLc src T c f (own.map (·.2))) σ H fun x H1 => gName i x σ H1 D.nx := sAsg_go q
  exact eLc_go hs hT hj h
end
end PI

namespace PI
open PySem PySem.Spec PyProof.Rows L2
/-! ### what a def promises, by what it is worth -/
def muts : List Bool → List V → List V
  | true :: ms, v :: vs => v :: muts ms vs
  | false :: ms, _ :: vs => muts ms vs
  | _, _ => []
def ArgR (K : PySem.W.Frag) (S : Addr → Prop) (H : Hp) : Bool → V → PI.D → Prop
  | false, v, d => Rep K S H v d
  | true, v, d => ∃ (a : Addr) (us : List V) (xs : List PI.D), v = V.ref a ∧ d = .lst xs ∧ H a = some (.lst us) ∧ RepAll K S H us xs
inductive ArgsR (K : PySem.W.Frag) (S : Addr → Prop) (H : Hp) : List Bool → List V → List PI.D → Prop
  | nil : ArgsR K S H [] [] []
  | cons {m : Bool} {ms : List Bool} {v : V} {vs : List V} {d : PI.D} {ds : List PI.D} : ArgR K S H m v d → ArgsR K S H ms vs ds → ArgsR K S H (m :: ms) (v :: vs) (d :: ds)
inductive OutsR (K : PySem.W.Frag) (S : Addr → Prop) (H : Hp) : List V → List PI.D → Prop
  | nil : OutsR K S H [] []
  | cons {a : Addr} {vs us : List V} {xs ds : List PI.D} : H a = some (.lst us) → RepAll K S H us xs → OutsR K S H vs ds → OutsR K S H (V.ref a :: vs) (.lst xs :: ds)
abbrev Cal := List PI.D → Option (W × List PI.D)
structure CPost (K : PySem.W.Frag) (S : Addr → Prop) (modes : List Bool) (vs : List V) (H : Hp) (w : W) (outs : List PI.D) (v : V) (H' : Hp) : Prop where
  keep : ∀ a o, H a = some o → V.ref a ∉ muts modes vs → H' a = some o
  dom : ∀ a, H a ≠ none → H' a ≠ none
  outs : OutsR K (fun b => S b ∨ (w.1 = true ∧ v = V.ref b)) H' (muts modes vs) outs
  old : w.1 = false → Rep K S H' v w.2
  new : w.1 = true → ∃ (a : Addr) (us : List V) (xs : List PI.D), v = V.ref a ∧ w.2 = .lst xs ∧ H a = none ∧ H' a = some (.lst us) ∧ RepAll K (fun b => S b ∨ b = a) H' us xs
def spOf (K : PySem.W.Frag) (modes : List Bool) (f : Cal) : Sp := fun vs H Q _ => ∃ (S : Addr → Prop) (ds : List PI.D) (w : W) (outs : List PI.D), (∀ a, S a → H a ≠ none) ∧ (∀ a, V.ref a ∈ muts modes vs → S a) ∧ ArgsR K S H modes vs ds ∧ (muts modes vs).Nodup ∧
  f ds = some (w, outs) ∧ ∀ v H', CPost K S modes vs H w outs v H' → Q v H'
/-! ### the def's own run -/
def envOf : List Bool → List PI.D → PI.Env
  | m :: ms, d :: ds => some (m, d) :: envOf ms ds
  | _, _ => []
def tp : Nat → List Bool → List Nat
  | _, [] => []
  | n, true :: ms => n :: tp (n + 1) ms
  | n, false :: ms => tp (n + 1) ms
def fins (env : PI.Env) : List Nat → Option (List PI.D)
  | [] => some []
  | i :: is => match env[i]? with
    | some (some (true, d)) => (fins env is).bind fun ds => some (d :: ds)
    | _ => none
def runB (modes : List Bool) (n : Nat) (body : SF) : Cal := fun ds => (body (envOf modes ds ++ List.replicate (n - modes.length) none)).bind fun r => match r.1 with
  | .rt w => (fins r.2 (tp 0 modes)).bind fun o => some (w, o)
  | .nx => (fins r.2 (tp 0 modes)).bind fun o => some ((false, .non), o)
  | _ => none
section
variable {K : PySem.W.Frag} {S : Addr → Prop} {H H' : Hp}
theorem ArgsR.len1 {ms : List Bool} {vs : List V} {ds : List PI.D} (h : ArgsR K S H ms vs ds) : vs.length = ms.length ∧ ds.length = ms.length := by
  induction h with
  | nil => exact ⟨rfl, rfl⟩
  | cons _ _ ih => exact ⟨congrArg Nat.succ ih.1, congrArg Nat.succ ih.2⟩
theorem ArgsR.at {ms : List Bool} {vs : List V} {ds : List PI.D} (h : ArgsR K S H ms vs ds) : ∀ {i : Nat} {x : Bool × PI.D}, (envOf ms ds)[i]? = some (some x) → ∃ v, vs[i]? = some v ∧ ms[i]? = some x.1 ∧ ArgR K S H x.1 v x.2 := by
  induction h with
  | nil => intro i x e; simp [envOf] at e
  | cons a t ih =>
    intro i x e
    cases i with
    | zero =>
      have e := Option.some.inj (Option.some.inj e)
      subst e
      exact ⟨_, rfl, rfl, a⟩
    | succ i => exact ih (i := i) e
theorem ArgsR.env_len {ms : List Bool} {vs : List V} {ds : List PI.D} (h : ArgsR K S H ms vs ds) : (envOf ms ds).length = vs.length := by
  induction h with
  | nil => rfl
  | cons _ _ ih => exact congrArg Nat.succ ih
theorem mem_muts : ∀ {ms : List Bool} {vs : List V} {v : V}, v ∈ muts ms vs ↔ ∃ i : Nat, ms[i]? = some true ∧ vs[i]? = some v
  | [], _, v => ⟨fun h => by simp [muts] at h, fun ⟨i, h, _⟩ => by simp at h⟩
  | _ :: _, [], v => ⟨fun h => by simp [muts] at h, fun ⟨i, _, h⟩ => by simp at h⟩
  | true :: ms, u :: vs, v => by
    show v ∈ u :: muts ms vs ↔ _
    rw [List.mem_cons, mem_muts]
    constructor
    · rintro (rfl | ⟨i, h1, h2⟩)
      · exact ⟨0, rfl, rfl⟩
      · exact ⟨i + 1, h1, h2⟩
    · rintro ⟨i, h1, h2⟩
      cases i with
      | zero => exact .inl (Option.some.inj h2).symm
      | succ i => exact .inr ⟨i, h1, h2⟩
  | false :: ms, u :: vs, v => by
    show v ∈ muts ms vs ↔ _
    rw [mem_muts]
    constructor
    · rintro ⟨i, h1, h2⟩
      exact ⟨i + 1, h1, h2⟩
    · rintro ⟨i, h1, h2⟩
      cases i with
      | zero => cases h1
      | succ i => exact ⟨i, h1, h2⟩
theorem muts_inj : ∀ {ms : List Bool} {vs : List V} {v : V} {i j : Nat}, (muts ms vs).Nodup → ms[i]? = some true → ms[j]? = some true → vs[i]? = some v → vs[j]? = some v → i = j
  | [], _, v, i, j, _, h, _, _, _ => by simp at h
  | _ :: _, [], v, i, j, _, _, _, h, _ => by simp at h
  | true :: ms, u :: vs, v, i, j, nd, h1, h2, h3, h4 => by
    have nd : (u :: muts ms vs).Nodup := nd
    obtain ⟨n1, n2⟩ := List.nodup_cons.mp nd
    cases i with
    | zero =>
      cases j with
      | zero => rfl
      | succ j =>
        have e : u = v := Option.some.inj h3
        subst e
        exact absurd (mem_muts.mpr ⟨j, h2, h4⟩) n1
    | succ i =>
      cases j with
      | zero =>
        have e : u = v := Option.some.inj h4
        subst e
        exact absurd (mem_muts.mpr ⟨i, h1, h3⟩) n1
      | succ j => exact congrArg Nat.succ (muts_inj (ms := ms) (vs := vs) n2 h1 h2 h3 h4)
  | false :: ms, u :: vs, v, i, j, nd, h1, h2, h3, h4 => by
    cases i with
    | zero => cases h1
    | succ i =>
      cases j with
      | zero => cases h2
      | succ j => exact congrArg Nat.succ (muts_inj (ms := ms) (vs := vs) nd h1 h2 h3 h4)
theorem mem_tp : ∀ {ms : List Bool} {n i : Nat}, i ∈ tp n ms ↔ ∃ j, i = n + j ∧ ms[j]? = some true
  | [], n, i => ⟨fun h => (nomatch h), fun ⟨j, _, h⟩ => by simp at h⟩
  | true :: ms, n, i => by
    show i ∈ n :: tp (n + 1) ms ↔ _
    rw [List.mem_cons, mem_tp]
    constructor
    · rintro (rfl | ⟨j, h1, h2⟩)
      · exact ⟨0, rfl, rfl⟩
      · exact ⟨j + 1, by omega, h2⟩
    · rintro ⟨j, h1, h2⟩
      cases j with
      | zero => exact .inl h1
      | succ j => exact .inr ⟨j, by omega, h2⟩
  | false :: ms, n, i => by
    show i ∈ tp (n + 1) ms ↔ _
    rw [mem_tp]
    constructor
    · rintro ⟨j, h1, h2⟩
      exact ⟨j + 1, by omega, h2⟩
    · rintro ⟨j, h1, h2⟩
      cases j with
      | zero => cases h2
      | succ j => exact ⟨j, by omega, h2⟩
theorem fins_own {env : PI.Env} : ∀ {is : List Nat} {outs : List PI.D}, fins env is = some outs → ∀ i ∈ is, ∃ d, env[i]? = some (some (true, d))
  | [], _, _, i, hi => by cases hi
  | k :: is, outs, h, i, hi => by
    unfold fins at h
    split at h
    · rename_i d g
      obtain ⟨ds, h1, h⟩ := obind h
      rcases List.mem_cons.mp hi with rfl | hi
      · exact ⟨d, g⟩
      · exact fins_own h1 i hi
    · cases h
/-- the pinned lists at the end -/
theorem fins_outs {env : PI.Env} {σ : L2.St} {Z S' : Addr → Prop} (R : Re K Z env σ H) : ∀ {ms : List Bool} {vs : List V} {n : Nat} {outs : List PI.D}, (∀ j v, ms[j]? = some true → vs[j]? = some v → σ[n + j]? = some (some v)) → fins env (tp n ms) = some outs → vs.length = ms.length → (∀ a, S' a → Av env σ Z a) → OutsR K S' H (muts ms vs) outs
  | [], _, n, outs, _, h, _, _ => by
    cases h
    exact .nil
  | _ :: _, [], n, outs, _, h, l, _ => by cases l
  | true :: ms, v :: vs, n, outs, hp, h, l, hs => by
    have h : fins env (n :: tp (n + 1) ms) = some outs := h
    unfold fins at h
    split at h
    · rename_i d g
      obtain ⟨ds, h1, h⟩ := obind h
      cases h
      obtain ⟨a, us, xs, k1, k2, k3, k4⟩ := R.ow n d g
      have kv := hp 0 v rfl rfl
      rw [Nat.add_zero, k1] at kv
      cases kv
      subst k2
      exact .cons k3 (k4.less hs) (fins_outs R (ms := ms) (vs := vs) (n := n + 1) (fun j u h2 h3 => by
        have := hp (j + 1) u h2 h3
        rw [← this]
        congr 1
        omega) h1 (Nat.succ.inj l) hs)
    · cases h
  | false :: ms, v :: vs, n, outs, hp, h, l, hs => fins_outs R (ms := ms) (vs := vs) (n := n + 1) (fun j u h2 h3 => by
        have := hp (j + 1) u h2 h3
        rw [← this]
        congr 1
        omega) h (Nat.succ.inj l) hs
theorem start_get {N : List Str} {vs : List V} {i : Nat} {v : V} (h : (L2.start N vs)[i]? = some (some v)) : vs[i]? = some v := by
  unfold L2.start at h
  by_cases hi : i < vs.length
  · rw [List.getElem?_append_left (by simpa using hi), List.getElem?_map] at h
    cases e : vs[i]? with
    | none =>
      rw [e] at h
      cases h
    | some u =>
      rw [e] at h
      exact congrArg some (Option.some.inj (Option.some.inj h))
  · rw [List.getElem?_append_right (by simpa using hi), List.getElem?_replicate] at h
    split at h <;> cases h
theorem start_of {N : List Str} {vs : List V} {i : Nat} {v : V} (h : vs[i]? = some v) : (L2.start N vs)[i]? = some (some v) := by
  unfold L2.start
  rw [List.getElem?_append_left (by rw [List.length_map]; exact lt_of_get h), List.getElem?_map, h]
  rfl
/-- THE RULE for a def -/
theorem run_ok {modes : List Bool} {N : List Str} {body : SF} {f : Cal} {vs : List V} {Q : VK} {E : XK} (hn : modes.length ≤ N.length) (hf : ∀ ds w outs, f ds = some (w, outs) → runB modes N.length body ds = some (w, outs)) (h : spOf K modes f vs H Q E) :
    SSr K (tp 0 modes) body { nx := fun _ H' => Q .non H', rt := Q } (L2.start N vs) H := by
  obtain ⟨S, ds, w, outs, hS, hM, hA, hnd, hfd, q⟩ := h
  have hr := hf ds w outs hfd
  obtain ⟨⟨c, env'⟩, h1, h2⟩ := obind hr
  obtain ⟨lv, ld⟩ := hA.len1
  have he := hA.env_len
  let env0 := envOf modes ds ++ List.replicate (N.length - modes.length) (none : Option (Bool × PI.D))
  have at0 : ∀ (i : Nat) (x : Bool × PI.D), env0[i]? = some (some x) → ∃ v, vs[i]? = some v ∧ modes[i]? = some x.1 ∧ ArgR K S H x.1 v x.2 := fun i x e => by
    by_cases hi : i < (envOf modes ds).length
    · rw [List.getElem?_append_left hi] at e
      exact hA.at e
    · rw [List.getElem?_append_right (by omega), List.getElem?_replicate] at e
      split at e <;> cases e
  have own0 : ∀ a, Own env0 (L2.start N vs) a → V.ref a ∈ muts modes vs := fun a ⟨i, d, e1, e2⟩ => by
    obtain ⟨v, k1, k2, k3⟩ := at0 i _ e1
    have := start_get e2
    exact mem_muts.mpr ⟨i, k2, this⟩
  have own1 : ∀ a, V.ref a ∈ muts modes vs → Own env0 (L2.start N vs) a := fun a ha => by
    obtain ⟨i, k1, k2⟩ := mem_muts.mp ha
    have hi : i < modes.length := lt_of_get k1
    have : ∃ d, (envOf modes ds)[i]? = some (some (true, d)) := by
      have key : ∀ (ms : List Bool) (es : List PI.D) (j : Nat), es.length = ms.length → ms[j]? = some true → ∃ d, (envOf ms es)[j]? = some (some (true, d)) := by
        intro ms
        induction ms with
        | nil => intro es j _ z; simp at z
        | cons m ms ih =>
          intro es j l z
          cases es with
          | nil => cases l
          | cons d es =>
            cases j with
            | zero =>
              have : m = true := Option.some.inj z
              subst this
              exact ⟨d, rfl⟩
            | succ j => exact ih es j (Nat.succ.inj l) z
      exact key modes ds i ld k1
    obtain ⟨d, e⟩ := this
    exact ⟨i, d, by show (envOf modes ds ++ _)[i]? = _; rw [List.getElem?_append_left (lt_of_get e)]; exact e, start_of k2⟩
  let Z : Addr → Prop := fun b => S b ∧ ¬ Own env0 (L2.start N vs) b
  have av : ∀ b, Av env0 (L2.start N vs) Z b → S b := fun b z => z.elim (fun z => hM b (own0 b z)) fun z => z.1
  have R0 : Re K Z env0 (L2.start N vs) H := by
    refine ⟨?_, fun i d e => ?_, fun i d e => ?_, fun i j d e a e1 e2 s1 s2 => ?_, fun a o z => (nomatch z), fun a z => ⟨hS a z.1, z.2⟩⟩
    · show (envOf modes ds ++ _).length = (vs.map some ++ List.replicate (N.length - vs.length) none).length
      rw [List.length_append, List.length_append, List.length_replicate, List.length_replicate, List.length_map, he, lv]
    · obtain ⟨v, k1, k2, k3⟩ := at0 i _ e
      exact ⟨v, start_of k1, Rep.less av k3⟩
    · obtain ⟨v, k1, k2, a, us, xs, k3, k4, k5, k6⟩ := at0 i _ e
      subst k3
      exact ⟨a, us, xs, start_of k1, k4, k5, k6.less av⟩
    · obtain ⟨v, k1, k2, k3⟩ := at0 i _ e1
      obtain ⟨u, l1, l2, l3⟩ := at0 j _ e2
      exact muts_inj hnd k2 l2 (start_get s1) (start_get s2)
  refine ⟨Z, env0, c, env', R0, h1, ?_⟩
  -- the ends
  have pin : ∀ {σ' : L2.St}, PinK (tp 0 modes) (L2.start N vs) σ' → ∀ j v, modes[j]? = some true → vs[j]? = some v → σ'[0 + j]? = some (some v) := fun {σ'} k j v e1 e2 => by
    rw [k (0 + j) (mem_tp.mpr ⟨j, rfl, e1⟩), Nat.zero_add]
    exact start_of e2
  have keepM : ∀ {σ' : L2.St} {H' : Hp}, Stp env0 (L2.start N vs) H env' σ' H' → ∀ a o, H a = some o → V.ref a ∉ muts modes vs → H' a = some o := fun {σ' H'} t a o z n => t.keep a o z fun y => n (own0 a y)
  have ownF : ∀ {σ' : L2.St} {o : List PI.D}, PinK (tp 0 modes) (L2.start N vs) σ' → fins env' (tp 0 modes) = some o → ∀ b, Own env0 (L2.start N vs) b → Own env' σ' b := fun {σ' o} k hfi b z => by
    obtain ⟨i, e1, e2⟩ := mem_muts.mp (own0 b z)
    obtain ⟨d, g⟩ := fins_own hfi i (mem_tp.mpr ⟨i, by omega, e1⟩)
    have := pin k i _ e1 e2
    rw [Nat.zero_add] at this
    exact ⟨i, d, g, this⟩
  have sub : ∀ {σ' : L2.St} {o : List PI.D}, PinK (tp 0 modes) (L2.start N vs) σ' → fins env' (tp 0 modes) = some o → ∀ b, S b → Av env' σ' Z b := fun {σ' o} k hfi b z => by
    by_cases hb : Own env0 (L2.start N vs) b
    · exact .inl (ownF k hfi b hb)
    · exact .inr ⟨z, hb⟩
  cases c with
  | bk => cases h2
  | ct => cases h2
  | nx =>
    obtain ⟨o, hfi, h2⟩ := obind h2
    cases h2
    exact fun σ' H' R' t k => q .non H' ⟨keepM t, t.dom, fins_outs R' (pin k) hfi lv (fun a z => by
      rcases z with z | z
      · exact sub k hfi a z
      · cases z.1), fun _ => .non, fun z => (nomatch z)⟩
  | rt w' =>
    obtain ⟨o, hfi, h2⟩ := obind h2
    cases h2
    intro v σ' H' t k r
    obtain ⟨fr, d⟩ := w
    cases fr with
    | false =>
      obtain ⟨R', rp⟩ := r.old rfl
      exact q v H' ⟨keepM t, t.dom, fins_outs R' (pin k) hfi lv (fun a z => by
        rcases z with z | z
        · exact sub k hfi a z
        · cases z.1), fun _ => rp.less (sub k hfi), fun z => (nomatch z)⟩
    | true =>
      obtain ⟨a, us, xs, k1, k2, k3, k4, k5, k6⟩ := r.new rfl
      have na : ¬ Own env' σ' a := (k5.z a (.inr rfl)).2
      have hn : H a = none := by
        rcases k3 with k3 | k3
        · exact absurd (ownF k hfi a k3) na
        · exact k3
      have sub2 : ∀ b, (S b ∨ b = a) → Av env' σ' (fun b => Z b ∨ b = a) b := fun b z => by
        rcases z with z | z
        · exact (sub k hfi b z).imp id .inl
        · exact .inr (.inr z)
      refine q v H' ⟨keepM t, t.dom, fins_outs k5 (pin k) hfi lv (fun b z => sub2 b (z.imp id fun z => ?_)), fun z => (nomatch z), fun _ => ⟨a, us, xs, k1, k2, hn, k4, k6.less sub2⟩⟩
      have := z.2
      rw [k1] at this
      cases this
      rfl
end
/-! ### calls -/
def okOp (env : PI.Env) : Bool → Op → Bool
  | false, .val _ => true
  | true, .slot i => isOwn env i
  | _, _ => false
def okOps (env : PI.Env) : List Bool → List Op → Bool
  | [], [] => true
  | m :: ms, o :: os => okOp env m o && okOps env ms os
  | _, _ => false
def slotsOf : List Bool → List Op → List Nat
  | true :: ms, .slot i :: os => i :: slotsOf ms os
  | _ :: ms, _ :: os => slotsOf ms os
  | _, _ => []
def wback : List Nat → List PI.D → PI.Env → Option PI.Env
  | [], [], env => some env
  | i :: is, d :: ds, env => (wback is ds env).bind fun e => some (e.set i (some (true, d)))
  | _, _, _ => none
def pick {α : Type} (is : List Nat) (l : List α) : List α := is.filterMap fun i => l[i]?
def nodupB : List Nat → Bool
  | [] => true
  | i :: is => !is.contains i && nodupB is
def callO (modes : List Bool) (f : Cal) (ops : List Op) (env : PI.Env) : Option (W × PI.Env) := match okOps env modes ops && nodupB (slotsOf modes ops) with
  | true => (gets env ops).bind fun ds => (f ds).bind fun r => (wback (slotsOf modes ops) r.2 env).bind fun e => some (r.1, e)
  | false => none
def eCall (modes : List Bool) (f : Cal) (as : List Opd) : EF := fun env => (runs as env).bind fun r => callO modes f r.1 r.2
def eCallK (modes : List Bool) (f : Cal) (as : List Opd) (is : List Nat) : EF := fun env => (runs as env).bind fun r => callO modes f (pick is r.1) r.2
section
variable {K : PySem.W.Frag} {Z : Addr → Prop} {env env1 env2 env' : PI.Env} {σ : L2.St} {H H1 H2 : Hp}
theorem nodupB_ok : ∀ {is : List Nat}, nodupB is = true → is.Nodup
  | [], _ => .nil
  | i :: is, h => by
    obtain ⟨h1, h2⟩ := Bool.and_eq_true_iff.mp h
    refine List.nodup_cons.mpr ⟨fun z => ?_, nodupB_ok h2⟩
    rw [List.contains_eq_mem, decide_eq_true z] at h1
    cases h1
theorem args_of {S : Addr → Prop} (R : Re K Z env σ H) : ∀ {modes : List Bool} {ops : List Op} {vs : List V} {ds : List PI.D}, okOps env modes ops = true → OReps K (Av env σ Z) σ H ops vs → gets env ops = some ds → ArgsR K (Av env σ Z) H modes vs ds ∧
    (muts modes vs).length = (slotsOf modes ops).length ∧ ∀ (k : Nat) (v : V), (muts modes vs)[k]? = some v → ∃ (i : Nat) (d : PI.D) (a : Addr), (slotsOf modes ops)[k]? = some i ∧ env[i]? = some (some (true, d)) ∧ σ[i]? = some (some v) ∧ v = V.ref a
  | [], [], vs, ds, _, o, g => by
    cases o
    cases g
    exact ⟨.nil, rfl, fun k v h => by cases h⟩
  | [], _ :: _, vs, ds, h, _, _ => by cases h
  | _ :: _, [], vs, ds, h, _, _ => by cases h
  | m :: ms, op :: os, vs, ds, h, o, g => by
    obtain ⟨h1, h2⟩ := Bool.and_eq_true_iff.mp h
    cases o with
    | cons o1 o2 =>
      unfold gets at g
      obtain ⟨d, g1, g⟩ := obind g
      obtain ⟨es, g2, g⟩ := obind g
      cases g
      obtain ⟨i1, i2, i3⟩ := args_of (S := S) R h2 o2 g2
      cases m with
      | false =>
        cases op with
        | val e =>
          cases g1
          exact ⟨.cons (m := false) o1 i1, i2, i3⟩
        | slot i => cases h1
      | true =>
        cases op with
        | val e => cases h1
        | slot i =>
          obtain ⟨a, vs0, ds0, k1, k2, k3, k4, _⟩ := own_list R (show isOwn env i = true from h1)
          have o1 : σ[i]? = some (some _) := o1
          rw [k1] at o1
          cases o1
          have g1 : (match env[i]? with | some (some p) => some p.2 | _ => none) = some d := g1
          rw [k2] at g1
          cases g1
          refine ⟨.cons (m := true) ⟨a, vs0, ds0, rfl, rfl, k3, k4⟩ i1, congrArg Nat.succ i2, fun k v hk => ?_⟩
          cases k with
          | zero =>
            have e : V.ref a = v := Option.some.inj hk
            subst e
            exact ⟨i, _, a, rfl, k2, k1, rfl⟩
          | succ k => exact i3 k v hk
theorem wback_get : ∀ {is : List Nat} {ds : List PI.D} {env e : PI.Env}, wback is ds env = some e → is.Nodup → (∀ i ∈ is, i < env.length) → e.length = env.length ∧ (∀ (k i : Nat), is[k]? = some i → ∃ d : PI.D, ds[k]? = some d ∧ e[i]? = some (some (true, d))) ∧ ∀ (i : Nat), i ∉ is → e[i]? = env[i]?
  | [], [], env, e, h, _, _ => by
    cases h
    exact ⟨rfl, fun k i z => by simp at z, fun i _ => rfl⟩
  | [], _ :: _, _, _, h, _, _ => by cases h
  | _ :: _, [], _, _, h, _, _ => by cases h
  | j :: is, d :: ds, env, e, h, nd, hl => by
    unfold wback at h
    obtain ⟨e1, h1, h⟩ := obind h
    cases h
    obtain ⟨n1, n2⟩ := List.nodup_cons.mp nd
    obtain ⟨l, a, b⟩ := wback_get h1 n2 fun i hi => hl i (List.mem_cons_of_mem _ hi)
    refine ⟨by rw [List.length_set]; exact l, fun k i z => ?_, fun i hi => ?_⟩
    · cases k with
      | zero =>
        have z : j = i := Option.some.inj z
        subst z
        exact ⟨d, rfl, List.getElem?_set_self (by rw [l]; exact hl j List.mem_cons_self)⟩
      | succ k =>
        have z : is[k]? = some i := z
        obtain ⟨d', z1, z2⟩ := a k i z
        refine ⟨d', z1, ?_⟩
        rw [List.getElem?_set_ne fun q => n1 (by rw [q]; exact List.mem_of_getElem? z)]
        exact z2
    · rw [List.getElem?_set_ne fun q => hi (by rw [q]; exact List.mem_cons_self)]
      exact b i fun z => hi (List.mem_cons_of_mem _ z)
theorem OutsR.at {S : Addr → Prop} {vs : List V} {ds : List PI.D} (h : OutsR K S H vs ds) : ∀ {k : Nat} {v : V}, vs[k]? = some v → ∃ (a : Addr) (us : List V) (xs : List PI.D), v = V.ref a ∧ ds[k]? = some (.lst xs) ∧ H a = some (.lst us) ∧ RepAll K S H us xs := by
  induction h with
  | nil => intro k v e; simp at e
  | cons h1 h2 _ ih =>
    intro k v e
    cases k with
    | zero =>
      have e := Option.some.inj e
      subst e
      exact ⟨_, _, _, rfl, rfl, h1, h2⟩
    | succ k => exact ih (k := k) e
theorem callO_go {modes : List Bool} {f : Cal} {ops : List Op} {vs : List V} {w : W} {Q : VK} {E : XK} (R : Re K Z env1 σ H1) (t : Trn env σ H env1 H1) (o : OReps K (Av env1 σ Z) σ H1 ops vs) (e : callO modes f ops env1 = some (w, env')) (q : ∀ v H', Res K Z env σ H w env' v H' → Q v H') : spOf K modes f vs H1 Q E := by
  unfold callO at e
  cases ho : okOps env1 modes ops && nodupB (slotsOf modes ops) with
  | false =>
    rw [ho] at e
    cases e
  | true =>
    rw [ho] at e
    obtain ⟨h1, h2⟩ := Bool.and_eq_true_iff.mp ho
    have nd := nodupB_ok h2
    obtain ⟨ds, g1, e⟩ := obind e
    obtain ⟨⟨w2, outs⟩, g2, e⟩ := obind e
    obtain ⟨e1, g3, e⟩ := obind e
    have hw : w = w2 := (congrArg Prod.fst (Option.some.inj e)).symm
    have hen : env' = e1 := (congrArg Prod.snd (Option.some.inj e)).symm
    subst hw hen
    obtain ⟨hA, hl, hm⟩ := args_of (S := Z) R h1 o g1
    have inv : ∀ {k : Nat} {i : Nat}, (slotsOf modes ops)[k]? = some i → ∃ (d : PI.D) (a : Addr), (muts modes vs)[k]? = some (V.ref a) ∧ env1[i]? = some (some (true, d)) ∧ σ[i]? = some (some (V.ref a)) := fun {k i} z => by
      have hk : k < (muts modes vs).length := by rw [hl]; exact lt_of_get z
      obtain ⟨j, d, a, z1, z2, z3, z4⟩ := hm k _ (List.getElem?_eq_getElem hk)
      rw [z] at z1
      cases z1
      exact ⟨d, a, by rw [List.getElem?_eq_getElem hk, z4], z2, by rw [z3, z4]⟩
    have mown : ∀ a, V.ref a ∈ muts modes vs → Own env1 σ a := fun a ha => by
      obtain ⟨k, hk⟩ := List.getElem?_of_mem ha
      obtain ⟨i, d, b, z1, z2, z3, z4⟩ := hm k _ hk
      exact ⟨i, d, z2, z3⟩
    have mnd : (muts modes vs).Nodup := by
      refine List.pairwise_iff_getElem.mpr fun j k hj hk hjk he => ?_
      have hk' : k < (slotsOf modes ops).length := by rw [← hl]; exact hk
      have hj' : j < (slotsOf modes ops).length := by omega
      obtain ⟨d1, a1, x1, x2, x3⟩ := inv (List.getElem?_eq_getElem hj')
      obtain ⟨d2, a2, y1, y2, y3⟩ := inv (List.getElem?_eq_getElem hk')
      rw [List.getElem?_eq_getElem hj] at x1
      rw [List.getElem?_eq_getElem hk] at y1
      have he2 := (Option.some.inj x1).symm.trans (he.trans (Option.some.inj y1))
      cases he2
      have := R.dist _ _ _ _ _ x2 y2 x3 y3
      exact (List.pairwise_iff_getElem.mp nd) j k hj' hk' hjk this
    refine ⟨Av env1 σ Z, ds, w, outs, R.dom, fun a ha => .inl (mown a ha), hA, mnd, g2, fun v H2 c => q v H2 ?_⟩
    obtain ⟨el, ea, eb⟩ := wback_get g3 nd fun i hi => by
      obtain ⟨k, hk⟩ := List.getElem?_of_mem hi
      obtain ⟨d, a, _, z, _⟩ := inv hk
      exact lt_of_get z
    have st : ∀ b u, H1 b = some u → ¬ Av env1 σ Z b → H2 b = some u := fun b u z n => c.keep b u z fun y => n (.inl (mown b y))
    have slot_of : ∀ {i : Nat} {d : PI.D}, env'[i]? = some (some (true, d)) → (∃ k, (slotsOf modes ops)[k]? = some i ∧ outs[k]? = some d) ∨ (i ∉ slotsOf modes ops ∧ env1[i]? = some (some (true, d))) := fun {i d} z => by
      by_cases hi : i ∈ slotsOf modes ops
      · obtain ⟨k, hk⟩ := List.getElem?_of_mem hi
        obtain ⟨d', z1, z2⟩ := ea k i hk
        rw [z] at z2
        cases z2
        exact .inl ⟨k, hk, z1⟩
      · rw [eb i hi] at z
        exact .inr ⟨hi, z⟩
    have own1 : ∀ b, Own env' σ b → Own env1 σ b := fun b ⟨i, d, z1, z2⟩ => by
      rcases slot_of z1 with ⟨k, y1, _⟩ | ⟨_, y⟩
      · obtain ⟨d', a, _, x2, _⟩ := inv y1
        exact ⟨i, d', x2, z2⟩
      · exact ⟨i, d, y, z2⟩
    have hAv : ∀ {Z' : Addr → Prop}, (∀ b, Z' b → Z b ∨ H1 b = none) → ∀ b, Av env' σ Z' b → Av env1 σ Z b ∨ H1 b = none := fun {Z'} hz b z => by
      rcases z with z | z
      · exact .inl (.inl (own1 b z))
      · exact (hz b z).imp .inr id
    have main : ∀ Z' : Addr → Prop, (∀ b, Z' b → Z b ∨ H1 b = none) → (∀ b, Z' b → H2 b ≠ none) → (∀ b, Av env' σ Z' b → Av env1 σ Z b ∨ (w.1 = true ∧ v = V.ref b)) → Re K Z' env' σ H2 := fun Z' hz hz2 hz3 => by
      have hnz : ∀ b, Z' b → ¬ Own env' σ b := fun b z y => by
        rcases hz b z with z | z
        · exact (R.z b z).2 (own1 b y)
        · exact R.dom b (.inl (own1 b y)) z
      refine ⟨by rw [el]; exact R.len, fun i d z => ?_, fun i d z => ?_, fun i j d e' a z1 z2 s1 s2 => ?_, fun a o z => (nomatch z), fun a z => ⟨hz2 a z, hnz a z⟩⟩
      · have hi : i ∉ slotsOf modes ops := fun hi => by
          obtain ⟨k, hk⟩ := List.getElem?_of_mem hi
          obtain ⟨d', z1, z2⟩ := ea k i hk
          rw [z] at z2
          cases z2
        rw [eb i hi] at z
        obtain ⟨u, k1, k2⟩ := R.sh i d z
        exact ⟨u, k1, k2.step st (hAv hz)⟩
      · rcases slot_of z with ⟨k, y1, y2⟩ | ⟨hi, y⟩
        · obtain ⟨d', a, x1, x2, x3⟩ := inv y1
          obtain ⟨a', us, xs, w1, w2, w3, w4⟩ := c.outs.at x1
          cases w1
          rw [y2] at w2
          cases w2
          exact ⟨a, us, xs, x3, rfl, w3, w4.less hz3⟩
        · obtain ⟨a, us, xs, k1, k2, k3, k4⟩ := R.ow i d y
          refine ⟨a, us, xs, k1, k2, c.keep a _ k3 fun ha => ?_, k4.step st (hAv hz)⟩
          obtain ⟨k, hk⟩ := List.getElem?_of_mem ha
          obtain ⟨j, d', b, z1, z2, z3, z4⟩ := hm k _ hk
          have := R.dist _ _ _ _ _ y z2 k1 z3
          subst this
          exact hi (List.mem_of_getElem? z1)
      · have : ∀ {i : Nat} {d : PI.D}, env'[i]? = some (some (true, d)) → ∃ d', env1[i]? = some (some (true, d')) := fun {i d} z => by
          rcases slot_of z with ⟨k, y1, _⟩ | ⟨_, y⟩
          · obtain ⟨d', _, _, x2, _⟩ := inv y1
            exact ⟨d', x2⟩
          · exact ⟨d, y⟩
        obtain ⟨d1, y1⟩ := this z1
        obtain ⟨d2, y2⟩ := this z2
        exact R.dist i j d1 d2 a y1 y2 s1 s2
    have RZ : Re K Z env' σ H2 := main Z (fun b z => .inl z) (fun b z => c.dom b (R.z b z).1) fun b z => .inl (z.imp (own1 b) id)
    have tr : Trn env σ H env' H2 := ⟨fun a z => t.own a (own1 a z), fun a u z n => c.keep a u (t.keep a u z n) fun y => n (t.own a (mown a y)), fun a z => c.dom a (t.dom a z)⟩
    obtain ⟨fr, d⟩ := w
    cases fr with
    | false => exact ⟨RZ, tr, (c.old rfl).less fun b z => z.imp (own1 b) id, fun z => (nomatch z)⟩
    | true =>
      obtain ⟨a, us, xs, k1, k2, k3, k4, k5⟩ := c.new rfl
      have k2 : d = .lst xs := k2
      subst k1 k2
      have av2 : ∀ b, Av env' σ (fun b => Z b ∨ b = a) b → Av env1 σ Z b ∨ b = a := fun b z => by
        rcases z with z | z | z
        · exact .inl (.inl (own1 b z))
        · exact .inl (.inr z)
        · exact .inr z
      have hr : RepAll K (Av env' σ fun b => Z b ∨ b = a) H2 us xs := k5.less av2
      refine ⟨RZ, tr, .lst k4 (fun z => ?_) (hr.less fun b z => z.imp id .inl), fun _ => ⟨a, us, xs, rfl, rfl, none_back (t.dom a) k3, k4, main (fun b => Z b ∨ b = a) (fun b z => z.imp id fun z => by rw [z]; exact k3) (fun b z => ?_) (fun b z => (av2 b z).imp id fun z => ⟨rfl, by rw [z]⟩), hr⟩⟩
      · exact R.dom a (z.imp (own1 a) id) k3
      · rcases z with z | z
        · exact c.dom b (R.z b z).1
        · rw [z, k4]
          exact fun z => by cases z
theorem eCall_go {modes : List Bool} {f : Cal} {as : List Opd} {Q : VK} {E : XK} (h : SEr K (eCall modes f as) σ H Q) : tCall (spOf K modes f) [] E (SAr K as) σ H Q := by
  obtain ⟨Z, env, w, env', R, e, q⟩ := h
  obtain ⟨⟨ops, env1⟩, h1, e⟩ := obind e
  refine SAr.go R h1 fun vs H1 R1 t1 o1 => ?_
  show spOf K modes f (vs ++ []) H1 Q E
  rw [List.append_nil]
  exact callO_go R1 t1 o1 e q
theorem OReps.pick {S : Addr → Prop} {ops : List Op} {vs : List V} (h : OReps K S σ H ops vs) : ∀ is : List Nat, OReps K S σ H (PI.pick is ops) (PI.pick is vs) := by
  have key : ∀ i : Nat, (ops[i]? = none ∧ vs[i]? = none) ∨ ∃ o v, ops[i]? = some o ∧ vs[i]? = some v ∧ ORep K S σ H o v := by
    induction h with
    | nil => intro i; exact .inl ⟨rfl, rfl⟩
    | cons r _ ih =>
      intro i
      cases i with
      | zero => exact .inr ⟨_, _, rfl, rfl, r⟩
      | succ i => exact ih i
  intro is
  unfold PI.pick
  induction is with
  | nil => exact .nil
  | cons i is ih =>
    rcases key i with ⟨k1, k2⟩ | ⟨o, v, k1, k2, k3⟩
    · rw [List.filterMap_cons, List.filterMap_cons, k1, k2]
      exact ih
    · rw [List.filterMap_cons, List.filterMap_cons, k1, k2]
      exact .cons k3 ih
theorem runs_app : ∀ {as bs : List Opd} {env : PI.Env}, runs (as ++ bs) env = (runs as env).bind fun r => (runs bs r.2).bind fun s => some (r.1 ++ s.1, s.2)
  | [], bs, env => by
    show runs bs env = (runs bs env).bind fun s => some (s.1, s.2)
    cases runs bs env <;> rfl
  | a :: as, bs, env => by
    show ((a.run env).bind fun r => (runs (as ++ bs) r.2).bind fun s => some (r.1 :: s.1, s.2)) = ((a.run env).bind fun r => (runs as r.2).bind fun s => some (r.1 :: s.1, s.2)).bind _
    cases a.run env with
    | none => rfl
    | some r =>
      show ((runs (as ++ bs) r.2).bind fun s => some (r.1 :: s.1, s.2)) = ((runs as r.2).bind fun s => some (r.1 :: s.1, s.2)).bind _
      rw [runs_app]
      cases runs as r.2 with
      | none => rfl
      | some s =>
        show ((runs bs s.2).bind fun t => some (s.1 ++ t.1, t.2)).bind _ = (runs bs s.2).bind _
        cases runs bs s.2 <;> rfl
theorem OReps.app {S : Addr → Prop} {o1 o2 : List Op} {v1 v2 : List V} (h : OReps K S σ H o1 v1) (h2 : OReps K S σ H o2 v2) : OReps K S σ H (o1 ++ o2) (v1 ++ v2) := by
  induction h with
  | nil => exact h2
  | cons r _ ih => exact .cons r ih
theorem eCallK_go {modes : List Bool} {f : Cal} {as bs : List Opd} {is : List Nat} {Q : VK} {E : XK} (h : SEr K (eCallK modes f (as ++ bs) is) σ H Q) : SAr K as σ H fun vs H1 => SAr K bs σ H1 fun zs H2 => spOf K modes f (pick is (vs ++ zs)) H2 Q E := by
  obtain ⟨Z, env, w, env', R, e, q⟩ := h
  obtain ⟨⟨ops, env1⟩, h1, e⟩ := obind e
  rw [runs_app] at h1
  obtain ⟨r, g1, h1⟩ := obind h1
  obtain ⟨s, g2, h1⟩ := obind h1
  cases h1
  exact SAr.go R g1 fun vs H1 R1 t1 o1 => SAr.go R1 g2 fun zs H2 R2 t2 o2 => callO_go R2 (t1.trans t2) (((o1.step t2).app o2).pick is) e q
end
/-! ### a def that keeps its promise, as a caller finds it -/
structure CallOk (P : Program) (w : World) (K : PySem.W.Frag) (mg : Str → Option Value) (base : Heap) (k : Nat) (x : Str) (ps : List Str) (modes : List Bool) (f : Cal) : Prop where
  ex : ∃ (a : Addr) (fd : FuncData), FnOk P w K mg base CX0 k a fd ps (spOf K modes f) ∧ mg x = some (.ref a) ∧ PySem.W.keepIn K (.ref a) = true ∧ Binds K fd ps []
  kw : ∃ (a : Addr) (fd : FuncData), FnOk P w K mg base CX0 k a fd ps (spOf K modes f) ∧ mg x = some (.ref a) ∧ PySem.W.keepIn K (.ref a) = true ∧ fd.defaults = .none
section
variable {X : Cx} {k : Nat} {x : Str} {p pos : Pos} {e : Expr} {es : List Expr} {ps : List Str} {modes : List Bool} {f : Cal} {as : List Opd}
theorem se_call {j : Nat} (G : CallOk X.prog X.w X.K X.mg X.base j x ps modes f) (hr : Room k X.A) (ha : PA X (e :: es) (SAr X.K as)) (hjk : j ≤ k := by decide) (hg : Gl X x := by rfl) (hdb : (x == ("__debug__" : Str)) = false := by decide) (he : starEach (e :: es) X.env = (false, eval e X.env) :: starEach es X.env := by rfl) (hpl : (backTo pos (starEach es X.env)).any (·.1) = false := by rfl) :
    PE X (.Call (.Name x p) (e :: es) [] pos) (SEr X.K (eCall modes f as)) := by
  obtain ⟨a, fd, F, hm, hk, hb⟩ := G.ex
  exact PEi (pe_call F (hr.mono hjk) hg hm hk hb .nil pass0 ha hdb he hpl) fun _ _ _ q => eCall_go q
theorem se_call0 {j : Nat} (G : CallOk X.prog X.w X.K X.mg X.base j x ps modes f) (hr : Room k X.A) (hjk : j ≤ k := by decide) (hg : Gl X x := by rfl) (hdb : (x == ("__debug__" : Str)) = false := by decide) :
    PE X (.Call (.Name x p) [] [] pos) (SEr X.K (eCall modes f [])) := by
  obtain ⟨a, fd, F, hm, hk, hb⟩ := G.ex
  exact PEi (pe_call0 F (hr.mono hjk) hg hm hk hb .nil pass0 hdb) fun _ _ _ q => eCall_go q
end
end PI

namespace PI
open PySem PySem.Spec PyProof.Rows L2
theorem opr_or {X : Cx} {f : Value → Value → Sem Value} {r r' : R2} (h : L2.OpR X f r) (h' : L2.OpR X f r') : L2.OpR X f fun x y H Q => r x y H Q ∨ r' x y H Q := fun pins s σ H x y v u Q I rx ry q =>
  q.elim (fun q => h pins s σ H x y v u Q I rx ry q) fun q => h' pins s σ H x y v u Q I rx ry q
/-! ### + -/
def addD : PI.D → PI.D → Option W
  | .int i, .int j => some (false, .int (i + j))
  | .str x, .str y => if x.length + y.length ≤ 10000000 then some (false, .str (x ++ y)) else none
  | .tup xs, .tup ys => if xs.length + ys.length ≤ 1000000 then some (false, .tup (xs ++ ys)) else none
  | .lst xs, .lst ys => if xs.length + ys.length ≤ 1000000 then some (true, .lst (xs ++ ys)) else none
  | _, _ => none
def rStrCat : R2 := fun x y H Q => ∃ i j, x = .str i ∧ y = .str j ∧ i.length + j.length ≤ sizeLine ∧ Q (.str (i ++ j)) H
def rAddD (K : PySem.W.Frag) : R2 := fun x y H Q => ((rI0 (fun i j => .int (i + j)) x y H Q ∨ rStrCat x y H Q) ∨ rCatA K x y H Q) ∨ rCat x y H Q
theorem op_addD {X : Cx} : L2.OpR X (binaryOp .Add) (rAddD X.K) := opr_or (opr_or (opr_or op_add op_add_str) op_catA) op_cat
theorem sz7 {n : Nat} (h : n ≤ 10000000) : n ≤ sizeLine := Nat.le_trans h (by decide)
theorem sz6 {n : Nat} (h : n ≤ 1000000) : n ≤ sizeLine := Nat.le_trans h (by decide)
theorem p_addD {K : PySem.W.Frag} : P2Ok K (rAddD K) addD := fun S H x y d e w Q hS hx hy hf q => by
  cases d with
  | int i =>
    cases e with
    | int j =>
      cases hf
      exact .inl (.inl (.inl ⟨i, j, hx.intD, hy.intD, q _ H (made_int _)⟩))
    | _ => cases hf
  | str i =>
    cases e with
    | str j =>
      dsimp only [addD] at hf
      split at hf
      · rename_i hz
        cases hf
        exact .inl (.inl (.inr ⟨i, j, hx.strD, hy.strD, sz7 hz, q _ H (made_str _)⟩))
      · cases hf
    | _ => cases hf
  | tup xs =>
    cases e with
    | tup ys =>
      dsimp only [addD] at hf
      split at hf
      · rename_i hz
        cases hf
        obtain ⟨a, vs, rfl, h1, h2⟩ := hx.tupD
        obtain ⟨b, us, rfl, h3, h4⟩ := hy.tupD
        refine .inl (.inr ⟨a, b, vs, us, rfl, rfl, h1.sq, h3.sq, by rw [h2.length, h4.length]; exact sz6 hz, fun z => ?_, fun _ z => ?_, fun _ _ p hp => q _ _ (made_tup hp (fun z => hS p z hp) (h2.append h4))⟩)
        · have : xs = [] := List.eq_nil_of_length_eq_zero (by rw [← h2.length, z]; rfl)
          subst this
          exact q _ H (made_old (.tup h3 h4))
        · have : ys = [] := List.eq_nil_of_length_eq_zero (by rw [← h4.length, z]; rfl)
          subst this
          rw [List.append_nil] at q
          exact q _ H (made_old (.tup h1 h2))
      · cases hf
    | _ => cases hf
  | lst xs =>
    cases e with
    | lst ys =>
      dsimp only [addD] at hf
      split at hf
      · rename_i hz
        cases hf
        obtain ⟨a, vs, rfl, h1, h2⟩ := hx.lst
        obtain ⟨b, us, rfl, h3, h4⟩ := hy.lst
        exact .inr ⟨a, b, vs, us, rfl, rfl, h1, h3, by rw [h2.length, h4.length]; exact sz6 hz, fun p hp => q _ _ (made_lst hp (h2.append h4))⟩
      · cases hf
    | _ => cases hf
  | _ => cases hf
/-! ### ints -/
def iiD (f : Int → Int → PI.D) : PI.D → PI.D → Option W
  | .int i, .int j => some (false, f i j)
  | _, _ => none
theorem p_ii {K : PySem.W.Frag} {g : Int → Int → V} {f : Int → Int → PI.D} (h : ∀ i j S H, Rep K S H (g i j) (f i j)) : P2Ok K (rI0 g) (iiD f) := fun S H x y d e w Q hS hx hy hf q => by
  cases d with
  | int i =>
    cases e with
    | int j =>
      cases hf
      exact ⟨i, j, hx.intD, hy.intD, q _ H (made_old (h i j S H))⟩
    | _ => cases hf
  | _ => cases hf
def iiC (C : Int → Int → Bool) (f : Int → Int → PI.D) : PI.D → PI.D → Option W
  | .int i, .int j => if C i j then some (false, f i j) else none
  | _, _ => none
theorem p_iiC {K : PySem.W.Frag} {C : Int → Int → Prop} {c : Int → Int → Bool} {g : Int → Int → V} {f : Int → Int → PI.D} (hc : ∀ i j, c i j = true → C i j) (h : ∀ i j S H, Rep K S H (g i j) (f i j)) : P2Ok K (rI C g) (iiC c f) := fun S H x y d e w Q hS hx hy hf q => by
  cases d with
  | int i =>
    cases e with
    | int j =>
      dsimp only [iiC] at hf
      split at hf
      · rename_i hz
        cases hf
        exact ⟨i, j, hx.intD, hy.intD, hc i j hz, q _ H (made_old (h i j S H))⟩
      · cases hf
    | _ => cases hf
  | _ => cases hf
def subD := iiD fun i j => .int (i - j)
theorem p_subD {K : PySem.W.Frag} : P2Ok K (rI0 fun i j => .int (i - j)) subD := p_ii fun _ _ _ _ => .int _
/-- how many bits -/
abbrev bts (i : Int) : Nat := Builtin.Int.intBits i
def mulB (i j : Int) : Bool := decide (bts i + bts j ≤ 134217728)
def mulD := iiC mulB fun i j => .int (i * j)
theorem p_mulD {K : PySem.W.Frag} : P2Ok K (rI CMulX fun i j => .int (i * j)) mulD := p_iiC (fun i j h => by
  have h1 : bts i + bts j ≤ 134217728 := of_decide_eq_true h
  show (bts i : Int) + (bts j : Int) ≤ 134217728
  omega) fun _ _ _ _ => .int _
def divB (_ j : Int) : Bool := decide (0 < j ∧ bts j ≤ 8000)
def fdivD := iiC divB fun i j => .int (i / j)
theorem bts_lt {i : Int} {n : Nat} (h : bts i ≤ n) : i.natAbs < 2 ^ n := by
  unfold bts Builtin.Int.intBits at h
  split at h
  · rename_i h0
    have : i = 0 := by simpa using h0
    subst this
    exact Nat.two_pow_pos n
  · exact Nat.lt_of_lt_of_le Nat.lt_log2_self (Nat.pow_le_pow_right (by decide) h)
theorem p_fdivD {K : PySem.W.Frag} : P2Ok K (rI CDivW fun i j => .int (i / j)) fdivD := p_iiC (fun i j h => by
  obtain ⟨h1, h2⟩ := of_decide_eq_true h
  exact wide_div h1 (bts_lt (n := 8000) h2) (by decide) (by decide)) fun _ _ _ _ => .int _
def modB (_ j : Int) : Bool := decide (0 < j)
def modD := iiC modB fun i j => .int (i % j)
theorem p_modD {K : PySem.W.Frag} : P2Ok K (rI (fun _ j => 0 < j) fun i j => .int (i % j)) modD := p_iiC (fun i j h => of_decide_eq_true h) fun _ _ _ _ => .int _
def CPowW (i j : Int) : Prop := 0 ≤ j ∧ (Builtin.Int.intBits i : Int) * j ≤ 2 ^ 27
def powB (i j : Int) : Bool := decide (0 ≤ j ∧ (bts i : Int) * j ≤ 134217728)
def powD := iiC powB fun i j => .int (i ^ j.toNat)
theorem op_powW {X : Cx} : L2.OpR X (binaryOp .Pow) (rI CPowW fun i j => .int (i ^ j.toNat)) := opI fun _ _ _ _ _ _ _ hc q => pow_int hc.1 hc.2 q
theorem p_powD {K : PySem.W.Frag} : P2Ok K (rI CPowW fun i j => .int (i ^ j.toNat)) powD := p_iiC (fun i j h => by
  obtain ⟨h1, h2⟩ := of_decide_eq_true h
  exact ⟨h1, h2⟩) fun _ _ _ _ => .int _
def negD : PI.D → Option W
  | .int i => some (false, .int (-i))
  | _ => none
theorem p_negD {K : PySem.W.Frag} : P1Ok K (rU fun i => .int (-i)) negD := fun S H v d w Q hS hx hf q => by
  cases d with
  | int i =>
    cases hf
    exact ⟨i, hx.intD, q _ H (made_int _)⟩
  | _ => cases hf
/-! ### comparisons -/
def ltD := iiD fun i j => .bl (decide (i < j))
def leD := iiD fun i j => .bl (decide (i ≤ j))
def gtD := iiD fun i j => .bl (decide (j < i))
def geD := iiD fun i j => .bl (decide (j ≤ i))
theorem p_ltD {K : PySem.W.Frag} : P2Ok K (rI0 fun i j => .bl (decide (i < j))) ltD := p_ii fun _ _ _ _ => .bl _
theorem p_leD {K : PySem.W.Frag} : P2Ok K (rI0 fun i j => .bl (decide (i ≤ j))) leD := p_ii fun _ _ _ _ => .bl _
theorem p_gtD {K : PySem.W.Frag} : P2Ok K (rI0 fun i j => .bl (decide (j < i))) gtD := p_ii fun _ _ _ _ => .bl _
theorem p_geD {K : PySem.W.Frag} : P2Ok K (rI0 fun i j => .bl (decide (j ≤ i))) geD := p_ii fun _ _ _ _ => .bl _
/-- x is None -/
def isD : PI.D → PI.D → Option W
  | .non, .non => some (false, .bl true)
  | _, .non => some (false, .bl false)
  | _, _ => none
def isntD : PI.D → PI.D → Option W
  | .non, .non => some (false, .bl false)
  | _, .non => some (false, .bl true)
  | _, _ => none
theorem view_ne {K : PySem.W.Frag} {S : Addr → Prop} {H : Hp} {x : V} {d : PI.D} (h : View K S H x d) (n : d ≠ .non) : x ≠ .non := fun e => by
  subst e
  rcases h with h | ⟨a, _, _, e, _⟩
  · cases h
    exact n rfl
  · cases e
theorem p_isD {K : PySem.W.Frag} : P2Ok K (fun x y H Q => y = .non ∧ Q (.bl (decide (x = .non))) H) isD := fun S H x y d e w Q hS hx hy hf q => by
  cases e with
  | non =>
    refine ⟨hy.nonD, ?_⟩
    cases d with
    | non =>
      cases hf
      rw [hx.nonD]
      exact q _ H (made_bl _)
    | _ =>
      cases hf
      rw [decide_eq_false (view_ne hx (by intro z; cases z))]
      exact q _ H (made_bl _)
  | _ => cases d <;> cases hf
theorem p_isntD {K : PySem.W.Frag} : P2Ok K (fun x y H Q => y = .non ∧ Q (.bl (!decide (x = .non))) H) isntD := fun S H x y d e w Q hS hx hy hf q => by
  cases e with
  | non =>
    refine ⟨hy.nonD, ?_⟩
    cases d with
    | non =>
      cases hf
      rw [hx.nonD]
      exact q _ H (made_bl _)
    | _ =>
      cases hf
      rw [decide_eq_false (view_ne hx (by intro z; cases z))]
      exact q _ H (made_bl _)
  | _ => cases d <;> cases hf
/-! ### == by data -/
mutual
def toPy : PI.D → PyData
  | .non => .none
  | .bl b => .bool b
  | .int i => .int i
  | .str x => .str x
  | .tup ds => .tuple (toPys ds)
  | .lst ds => .list (toPys ds)
  | .frz ds => .list (toPys ds)
  | .dct _ _ => .dict []
def toPys : List PI.D → List PyData
  | [] => []
  | d :: ds => toPy d :: toPys ds
end
mutual
theorem Rep.dp {K : PySem.W.Frag} {S : Addr → Prop} {H : Hp} : ∀ {v : V} {d : PI.D}, Rep K S H v d → Dp K H v (toPy d)
  | _, _, .non => .non
  | _, _, .bl b => .bl b
  | _, _, .int i => .int i
  | _, _, .str x => .str x
  | _, _, .tup t r => .tup t.sq (RepAll.dp r)
  | _, _, .lst e n r => .lst (.inl (.inl e)) (RepAll.dp r)
  | _, _, .frz t r => .lst t.sq (RepAll.dp r)
theorem RepAll.dp {K : PySem.W.Frag} {S : Addr → Prop} {H : Hp} : ∀ {vs : List V} {ds : List PI.D}, RepAll K S H vs ds → DpAll K H vs (toPys ds)
  | _, _, .nil => .nil
  | _, _, .cons r t => .cons (Rep.dp r) (RepAll.dp t)
end
theorem View.dp {K : PySem.W.Frag} {S : Addr → Prop} {H : Hp} {v : V} {d : PI.D} (h : View K S H v d) : Dp K H v (toPy d) := by
  rcases h with h | ⟨a, vs, ds, rfl, rfl, h1, h2⟩
  · exact h.dp
  · exact .lst (.inl (.inl h1)) h2.dp
/-- two scalars that == tells apart as data does -/
def scD : PI.D → PI.D → Option Bool
  | .int i, .int j => some (i == j)
  | .bl a, .bl b => some (a == b)
  | .str x, .str y => some (decide (x = y))
  | .non, .non => some true
  | .non, .int _ => some false
  | .int _, .non => some false
  | _, _ => none
def eqB (d e : PI.D) : Option Bool := match scD d e with
  | some b => some b
  | none => if SeqAt.shaped (toPy d) && SeqAt.shaped (toPy e) then some (PyData.eqv (toPy d) (toPy e)) else none
def eqD (d e : PI.D) : Option W := (eqB d e).bind fun b => some (false, .bl b)
def neD (d e : PI.D) : Option W := (eqB d e).bind fun b => some (false, .bl (!b))
def rEqA (K : PySem.W.Frag) : R2 := fun x y H Q => rEq x y H Q ∨ rEqD K x y H Q
def rNeA (K : PySem.W.Frag) : R2 := fun x y H Q => rNe x y H Q ∨ rNeD K x y H Q
theorem op_eqA {X : Cx} (hu : X.A.units + 64 < cLine) : L2.OpR X (compareOp .Eq) (rEqA X.K) := opr_or op_eq (op_eqD hu)
theorem op_neA {X : Cx} (hu : X.A.units + 64 < cLine) : L2.OpR X (compareOp .NotEq) (rNeA X.K) := opr_or op_ne (op_neD hu)
theorem sc_ok {K : PySem.W.Frag} {S : Addr → Prop} {H : Hp} {x y : V} {d e : PI.D} {b : Bool} (hx : View K S H x d) (hy : View K S H y e) (h : scD d e = some b) : scal x y = true ∧ decide (x = y) = b := by
  cases d with
  | int i =>
    cases e with
    | int j =>
      cases h
      rw [hx.intD, hy.intD]
      exact ⟨rfl, dec_int⟩
    | non =>
      cases h
      rw [hx.intD, hy.nonD]
      exact ⟨rfl, rfl⟩
    | _ => cases h
  | bl i =>
    cases e with
    | bl j =>
      cases h
      rw [hx.blD, hy.blD]
      refine ⟨rfl, ?_⟩
      cases i <;> cases j <;> rfl
    | _ => cases h
  | str i =>
    cases e with
    | str j =>
      cases h
      rw [hx.strD, hy.strD]
      refine ⟨rfl, ?_⟩
      by_cases z : i = j
      · subst z
        rw [decide_eq_true rfl, decide_eq_true rfl]
      · rw [decide_eq_false z, decide_eq_false (fun q => z (V.str.inj q))]
    | _ => cases h
  | non =>
    cases e with
    | non =>
      cases h
      rw [hx.nonD, hy.nonD]
      exact ⟨rfl, rfl⟩
    | int j =>
      cases h
      rw [hx.nonD, hy.intD]
      exact ⟨rfl, rfl⟩
    | _ => cases h
  | _ => cases e <;> cases h
theorem p_eqD {K : PySem.W.Frag} : P2Ok K (rEqA K) eqD := fun S H x y d e w Q hS hx hy hf q => by
  obtain ⟨b, h1, h2⟩ := obind hf
  cases h2
  unfold eqB at h1
  split at h1
  · rename_i c hc
    cases h1
    obtain ⟨k1, k2⟩ := sc_ok hx hy hc
    exact .inl ⟨k1, by rw [k2]; exact q _ H (made_bl _)⟩
  · split at h1
    · rename_i hz
      cases h1
      obtain ⟨z1, z2⟩ := Bool.and_eq_true_iff.mp hz
      exact .inr ⟨_, _, hx.dp, hy.dp, z1, z2, q _ H (made_bl _)⟩
    · cases h1
theorem p_neD {K : PySem.W.Frag} : P2Ok K (rNeA K) neD := fun S H x y d e w Q hS hx hy hf q => by
  obtain ⟨b, h1, h2⟩ := obind hf
  cases h2
  unfold eqB at h1
  split at h1
  · rename_i c hc
    cases h1
    obtain ⟨k1, k2⟩ := sc_ok hx hy hc
    exact .inl ⟨k1, by rw [k2]; exact q _ H (made_bl _)⟩
  · split at h1
    · rename_i hz
      cases h1
      obtain ⟨z1, z2⟩ := Bool.and_eq_true_iff.mp hz
      exact .inr ⟨_, _, hx.dp, hy.dp, z1, z2, q _ H (made_bl _)⟩
    · cases h1
/-! ### x in xs, of ints -/
def toInts : List PI.D → Option (List Int)
  | [] => some []
  | .int i :: ds => (toInts ds).bind fun is => some (i :: is)
  | _ :: _ => none
theorem toInts_ok : ∀ {ds : List PI.D} {is : List Int}, toInts ds = some is → ds = is.map PI.D.int
  | [], is, h => by
    cases h
    rfl
  | d :: ds, is, h => by
    cases d with
    | int i =>
      obtain ⟨js, h1, h2⟩ := obind h
      cases h2
      rw [toInts_ok h1]
      rfl
    | _ => cases h
theorem toInts_map : ∀ is : List Int, toInts (is.map PI.D.int) = some is
  | [] => rfl
  | i :: is => by
    show (toInts (is.map PI.D.int)).bind (fun js => some (i :: js)) = _
    rw [toInts_map is]
    rfl
def seqD : PI.D → Option (List PI.D)
  | .tup ds => some ds
  | .lst ds => some ds
  | .frz ds => some ds
  | _ => none
theorem view_seq {K : PySem.W.Frag} {S : Addr → Prop} {H : Hp} {v : V} {d : PI.D} {ds : List PI.D} (h : View K S H v d) (e : seqD d = some ds) : ∃ (a : Addr) (vs : List V), v = .ref a ∧ (SqL K H a vs ∨ SqT K H a vs) ∧ RepAll K S H vs ds := by
  cases d with
  | tup es =>
    cases e
    obtain ⟨a, vs, h1, h2, h3⟩ := h.tupD
    exact ⟨a, vs, h1, .inr h2.sq, h3⟩
  | lst es =>
    cases e
    obtain ⟨a, vs, h1, h2, h3⟩ := h.lst
    exact ⟨a, vs, h1, .inl (.inl (.inl h2)), h3⟩
  | frz es =>
    cases e
    obtain ⟨a, vs, h1, h2, h3⟩ := h.frzD
    exact ⟨a, vs, h1, .inl h2.sq, h3⟩
  | _ => cases e
def inD (neg : Bool) : PI.D → PI.D → Option W
  | .int i, d => (seqD d).bind fun ds => (toInts ds).bind fun is => some (false, .bl (if neg then !is.contains i else is.contains i))
  | _, _ => none
theorem flat_ints (is : List Int) : (is.map V.int).all flatV = true := by
  induction is with
  | nil => rfl
  | cons i is ih => exact ih
theorem inV_ints (i : Int) (is : List Int) : inV (.int i) (is.map V.int) = is.contains i := by
  unfold inV
  induction is with
  | nil => rfl
  | cons j is ih =>
    rw [List.map_cons, List.any_cons, ih, List.contains_cons]
    congr 1
    show (j == i) = (i == j)
    exact Bool.beq_comm
theorem p_inD {K : PySem.W.Frag} {neg : Bool} : P2Ok K (rIn K neg) (inD neg) := fun S H x y d e w Q hS hx hy hf q => by
  cases d with
  | int i =>
    obtain ⟨ds, h1, hf⟩ := obind hf
    obtain ⟨is, h2, hf⟩ := obind hf
    cases hf
    obtain ⟨a, vs, rfl, h3, h4⟩ := view_seq hy h1
    rw [toInts_ok h2] at h4
    have := h4.of_ints
    subst this
    rw [hx.intD]
    refine ⟨a, _, rfl, h3, rfl, flat_ints is, ?_⟩
    rw [inV_ints]
    exact q _ H (made_bl _)
  | _ => cases hf
/-! ### items and slices -/
def ixD : PI.D → PI.D → Option W
  | d, .int i => (seqD d).bind fun ds => (atI ds i).bind fun e => some (false, e)
  | _, _ => none
theorem repAll_atI {K : PySem.W.Frag} {S : Addr → Prop} {H : Hp} {vs : List V} {ds : List PI.D} {i : Int} {e : PI.D} (r : RepAll K S H vs ds) (h : atI ds i = some e) : ∃ v, atI vs i = some v ∧ Rep K S H v e := by
  unfold atI at h ⊢
  rw [r.length]
  obtain ⟨j, h1, h2⟩ := obind h
  rw [h1]
  exact r.get h2
def rIxA (K : PySem.W.Frag) : R2 := fun x y H Q => rIxL K x y H Q ∨ rIxT K x y H Q
theorem ix_A {X : Cx} : IxR X (rIxA X.K) := ix_list.or ix_tup
theorem p_ixD {K : PySem.W.Frag} : P2Ok K (rIxA K) ixD := fun S H x y d e w Q hS hx hy hf q => by
  cases e with
  | int i =>
    obtain ⟨ds, h1, hf⟩ := obind hf
    obtain ⟨z, h2, hf⟩ := obind hf
    cases hf
    obtain ⟨a, vs, rfl, h3, h4⟩ := view_seq hx h1
    obtain ⟨v, h5, h6⟩ := repAll_atI h4 h2
    rcases h3 with h3 | h3
    · exact .inl ⟨a, vs, i, v, rfl, hy.intD, h3, h5, q _ H (made_old h6)⟩
    · exact .inr ⟨a, vs, i, v, rfl, hy.intD, h3, h5, q _ H (made_old h6)⟩
  | _ => cases d <;> cases hf
def cutD (ds : List PI.D) (lo hi : Option Int) : List PI.D := (ds.drop (HT.sIx ds.length 0 lo)).take (HT.sIx ds.length ds.length hi - HT.sIx ds.length 0 lo)
def slD : PI.D → Option Int → Option Int → Option W
  | .tup ds, lo, hi => some (false, .tup (cutD ds lo hi))
  | .lst ds, lo, hi => some (true, .lst (cutD ds lo hi))
  | .frz ds, lo, hi => some (true, .lst (cutD ds lo hi))
  | _, _, _ => none
theorem repAll_cut {K : PySem.W.Frag} {S : Addr → Prop} {H : Hp} {vs : List V} {ds : List PI.D} {lo hi : Option Int} (r : RepAll K S H vs ds) : RepAll K S H (cutV vs lo hi) (cutD ds lo hi) := by
  unfold cutV cutD
  rw [r.length]
  exact (r.drop _).take _
theorem slr_or {X : Cx} {r r' : V → Option Int → Option Int → Hp → VK → Prop} (h : SlR X r) (h' : SlR X r') : SlR X (fun x lo hi H Q => r x lo hi H Q ∨ r' x lo hi H Q) := SlR.or h h'
theorem sl_A {X : Cx} : SlR X (fun x lo hi H Q => rSlL X.K x lo hi H Q ∨ rSlA X.K x lo hi H Q) := slr_or sl_list sl_tupA
theorem p_slD {K : PySem.W.Frag} : P3Ok K (fun x lo hi H Q => rSlL K x lo hi H Q ∨ rSlA K x lo hi H Q) slD := fun S H v d lo hi w Q hS hx hf q => by
  cases d with
  | tup ds =>
    cases hf
    obtain ⟨a, vs, rfl, h1, h2⟩ := hx.tupD
    refine .inr ⟨a, vs, rfl, h1.sq, fun z => ?_, fun _ p hp => q _ _ (made_tup hp (fun z => hS p z hp) (repAll_cut h2))⟩
    have e : cutD ds lo hi = ds := by
      unfold cutD
      rw [← h2.length, z.1, z.2, List.drop_zero, Nat.sub_zero, h2.length]
      exact List.take_length
    rw [e] at q
    exact q _ H (made_old (.tup h1 h2))
  | lst ds =>
    cases hf
    obtain ⟨a, vs, rfl, h1, h2⟩ := hx.lst
    exact .inl ⟨a, vs, rfl, .inl (.inl h1), fun p hp => q _ _ (made_lst hp (repAll_cut h2))⟩
  | frz ds =>
    cases hf
    obtain ⟨a, vs, rfl, h1, h2⟩ := hx.frzD
    exact .inl ⟨a, vs, rfl, h1.sq, fun p hp => q _ _ (made_lst hp (repAll_cut h2))⟩
  | _ => cases hf
/-- xs[::-1] of a list -/
def revD : PI.D → Option W
  | .lst ds => some (true, .lst ds.reverse)
  | _ => none
theorem p_revD {K : PySem.W.Frag} : P1Ok K (fun x H Q => ∃ a xs, x = .ref a ∧ SqL K H a xs ∧ ∀ p, H p = none → Q (.ref p) (upd H p (.lst xs.reverse))) revD := fun S H v d w Q hS hx hf q => by
  cases d with
  | lst ds =>
    cases hf
    obtain ⟨a, vs, rfl, h1, h2⟩ := hx.lst
    exact ⟨a, vs, rfl, .inl (.inl h1), fun p hp => q _ _ (made_lst hp h2.reverse)⟩
  | _ => cases hf
theorem se_rev {X : Cx} {e : Expr} {o : Opd} {k : Nat} {p1 p2 p3 pos : Pos} (he : PE X e (SOr X.K o)) : PE X (.Subscript e (.Slice none none (some (.UnaryOp .USub (.Constant (.int 1) k p1) p2)) p3) pos) (SEr X.K (e1 revD o)) :=
  PEi (pe_revL he) fun _ _ _ q => e1_go p_revD q
/-! ### calls of what is built in -/
theorem views1 {K : PySem.W.Frag} {S : Addr → Prop} {H : Hp} {vs : List V} {d : PI.D} (h : ViewAll K S H vs [d]) : ∃ v, vs = [v] ∧ View K S H v d := by
  cases h with
  | cons a t =>
    cases t
    exact ⟨_, rfl, a⟩
theorem views2 {K : PySem.W.Frag} {S : Addr → Prop} {H : Hp} {vs : List V} {d e : PI.D} (h : ViewAll K S H vs [d, e]) : ∃ v u, vs = [v, u] ∧ View K S H v d ∧ View K S H u e := by
  cases h with
  | cons a t =>
    obtain ⟨u, h1, h2⟩ := views1 t
    subst h1
    exact ⟨_, _, rfl, a, h2⟩
def c1 (f : PI.D → Option W) : List PI.D → Option W
  | [d] => f d
  | _ => none
def c2 (f : PI.D → PI.D → Option W) : List PI.D → Option W
  | [d, e] => f d e
  | _ => none
theorem p_c1 {K : PySem.W.Frag} {r : List V → Hp → VK → Prop} {f : PI.D → Option W} (h : ∀ (S : Addr → Prop) (H : Hp) (v : V) (d : PI.D) (w : W) (Q : VK), (∀ a, S a → H a ≠ none) → View K S H v d → f d = some w → (∀ v' H', Made K S H w v' H' → Q v' H') → r [v] H Q) : PnOk K r (c1 f) := fun S H vs ds w Q hS hv hf q => by
  cases ds with
  | nil => cases hf
  | cons d ds =>
    cases ds with
    | nil =>
      obtain ⟨v, rfl, hx⟩ := views1 hv
      exact h S H v d w Q hS hx hf q
    | cons e es => cases hf
theorem p_c2g {K : PySem.W.Frag} {r : List V → Hp → VK → Prop} {f : PI.D → PI.D → Option W} (h : ∀ (S : Addr → Prop) (H : Hp) (v u : V) (d e : PI.D) (w : W) (Q : VK), (∀ a, S a → H a ≠ none) → View K S H v d → View K S H u e → f d e = some w → (∀ v' H', Made K S H w v' H' → Q v' H') → r [v, u] H Q) : PnOk K r (c2 f) := fun S H vs ds w Q hS hv hf q => by
  cases ds with
  | nil => cases hf
  | cons d ds =>
    cases ds with
    | nil => cases hf
    | cons e es =>
      cases es with
      | nil =>
        obtain ⟨v, u, rfl, hx, hy⟩ := views2 hv
        exact h S H v u d e w Q hS hx hy hf q
      | cons _ _ => cases hf
def lenD : PI.D → Option W
  | .str x => if x.length ≤ 10000000 then some (false, .int x.length) else none
  | d => (seqD d).bind fun ds => some (false, .int ds.length)
theorem p_lenD {K : PySem.W.Frag} : PnOk K (fun xs H Q => ∃ x n, xs = [x] ∧ LenV K x H n ∧ Q (.int n) H) (c1 lenD) := p_c1 fun S H v d w Q hS hx hf q => by
  have sq : ∀ es, seqD d = some es → w = (false, .int es.length) → ∃ x n, [v] = [x] ∧ LenV K x H n ∧ Q (.int n) H := fun es h1 h2 => by
    subst h2
    obtain ⟨a, us, rfl, h3, h4⟩ := view_seq hx h1
    refine ⟨.ref a, us.length, rfl, ?_, by rw [h4.length]; exact q _ H (made_int _)⟩
    rcases h3 with h3 | h3
    · exact .inl ⟨us, h3, rfl⟩
    · exact .inr ⟨us, h3, rfl⟩
  cases d with
  | str x =>
    dsimp only [lenD] at hf
    split at hf
    · rename_i hz
      cases hf
      rw [hx.strD]
      exact ⟨.str x, x.length, rfl, ⟨sz7 hz, rfl⟩, q _ H (made_int _)⟩
    · cases hf
  | tup es => exact sq es rfl (Option.some.inj hf).symm
  | lst es => exact sq es rfl (Option.some.inj hf).symm
  | frz es => exact sq es rfl (Option.some.inj hf).symm
  | _ => cases hf
def absD : PI.D → Option W
  | .int i => some (false, .int (if i < 0 then -i else i))
  | _ => none
theorem p_absD {K : PySem.W.Frag} : PnOk K (fun xs H Q => ∃ i, xs = [.int i] ∧ Q (.int (if i < 0 then -i else i)) H) (c1 absD) := p_c1 fun S H v d w Q hS hx hf q => by
  cases d with
  | int i =>
    cases hf
    rw [hx.intD]
    exact ⟨i, rfl, q _ H (made_int _)⟩
  | _ => cases hf
def max2D := iiD fun i j => .int (if j > i then j else i)
def min2D := iiD fun i j => .int (if j < i then j else i)
theorem p_c2 {K : PySem.W.Frag} {f : PI.D → PI.D → Option W} {g : Int → Int → Int} (hf : f = iiD fun i j => .int (g i j)) : PnOk K (fun xs H Q => ∃ i j, xs = [.int i, .int j] ∧ Q (.int (g i j)) H) (c2 f) := p_c2g fun S H v u d e w Q hS hx hy hfe q => by
  subst hf
  cases d with
  | int i =>
    cases e with
    | int j =>
      cases hfe
      rw [hx.intD, hy.intD]
      exact ⟨i, j, rfl, q _ H (made_int _)⟩
    | _ => cases hfe
  | _ => cases hfe
theorem p_max2D {K : PySem.W.Frag} : PnOk K (fun xs H Q => ∃ i j, xs = [.int i, .int j] ∧ Q (.int (if j > i then j else i)) H) (c2 max2D) := p_c2 rfl
theorem p_min2D {K : PySem.W.Frag} : PnOk K (fun xs H Q => ∃ i j, xs = [.int i, .int j] ∧ Q (.int (if j < i then j else i)) H) (c2 min2D) := p_c2 rfl
def intD : PI.D → Option W
  | .int i => some (false, .int i)
  | .bl b => some (false, .int (if b then 1 else 0))
  | _ => none
theorem p_intD {K : PySem.W.Frag} : PnOk K (fun xs H Q => (∃ i, xs = [.int i] ∧ Q (.int i) H) ∨ ∃ k, xs = [.bl k] ∧ Q (.int (if k then 1 else 0)) H) (c1 intD) := p_c1 fun S H v d w Q hS hx hf q => by
  cases d with
  | int i =>
    cases hf
    rw [hx.intD]
    exact .inl ⟨i, rfl, q _ H (made_int _)⟩
  | bl i =>
    cases hf
    rw [hx.blD]
    exact .inr ⟨i, rfl, q _ H (made_int _)⟩
  | _ => cases hf
def listD (d : PI.D) : Option W := (seqD d).bind fun ds => some (true, .lst ds)
theorem p_listD {K : PySem.W.Frag} : PnOk K (fun xs H Q => ∃ p ys, xs = [.ref p] ∧ (SqL K H p ys ∨ SqT K H p ys) ∧ ∀ l, H l = none → Q (.ref l) (upd H l (.lst ys))) (c1 listD) := p_c1 fun S H v d w Q hS hx hf q => by
  obtain ⟨es, h1, h2⟩ := obind hf
  cases h2
  obtain ⟨a, us, rfl, h3, h4⟩ := view_seq hx h1
  exact ⟨a, us, rfl, h3, fun l hl => q _ _ (made_lst hl h4)⟩
def tupleD : PI.D → Option W
  | .tup ds => some (false, .tup ds)
  | .lst ds => some (false, .tup ds)
  | _ => none
theorem p_tupleD {K : PySem.W.Frag} : PnOk K (fun xs H Q => ∃ p ys, xs = [.ref p] ∧ ((SqL K H p ys ∧ ∀ l, H l = none → Q (.ref l) (upd H l (.tup ys))) ∨ (SqT K H p ys ∧ Q (.ref p) H))) (c1 tupleD) := p_c1 fun S H v d w Q hS hx hf q => by
  cases d with
  | tup es =>
    cases hf
    obtain ⟨a, us, rfl, h1, h2⟩ := hx.tupD
    exact ⟨a, us, rfl, .inr ⟨h1.sq, q _ H (made_old (.tup h1 h2))⟩⟩
  | lst es =>
    cases hf
    obtain ⟨a, us, rfl, h1, h2⟩ := hx.lst
    exact ⟨a, us, rfl, .inl ⟨.inl (.inl h1), fun p hp => q _ _ (made_tup hp (fun z => hS p z hp) h2)⟩⟩
  | _ => cases hf
def toBls : List PI.D → Option (List Bool)
  | [] => some []
  | .bl i :: ds => (toBls ds).bind fun is => some (i :: is)
  | _ :: _ => none
theorem toBls_ok : ∀ {ds : List PI.D} {is : List Bool}, toBls ds = some is → ds = is.map PI.D.bl
  | [], is, h => by
    cases h
    rfl
  | d :: ds, is, h => by
    cases d with
    | bl i =>
      obtain ⟨js, h1, h2⟩ := obind h
      cases h2
      rw [toBls_ok h1]
      rfl
    | _ => cases h
theorem toBls_map : ∀ is : List Bool, toBls (is.map PI.D.bl) = some is
  | [] => rfl
  | i :: is => by
    show (toBls (is.map PI.D.bl)).bind (fun js => some (i :: js)) = _
    rw [toBls_map is]
    rfl
def allD : PI.D → Option W
  | .lst ds => (toBls ds).bind fun bs => some (false, .bl (bs.all id))
  | _ => none
def anyD : PI.D → Option W
  | .lst ds => (toBls ds).bind fun bs => some (false, .bl (bs.any id))
  | _ => none
theorem p_allD {K : PySem.W.Frag} : PnOk K (rAll K) (c1 allD) := p_c1 fun S H v d w Q hS hx hf q => by
  cases d with
  | lst es =>
    obtain ⟨bs, h1, h2⟩ := obind hf
    cases h2
    obtain ⟨a, us, rfl, h3, h4⟩ := hx.lst
    rw [toBls_ok h1] at h4
    have := h4.of_bls
    subst this
    exact ⟨a, bs, rfl, .inl (.inl h3), q _ H (made_bl _)⟩
  | _ => cases hf
theorem p_anyD {K : PySem.W.Frag} : PnOk K (rAny K) (c1 anyD) := p_c1 fun S H v d w Q hS hx hf q => by
  cases d with
  | lst es =>
    obtain ⟨bs, h1, h2⟩ := obind hf
    cases h2
    obtain ⟨a, us, rfl, h3, h4⟩ := hx.lst
    rw [toBls_ok h1] at h4
    have := h4.of_bls
    subst this
    exact ⟨a, bs, rfl, .inl (.inl h3), q _ H (made_bl _)⟩
  | _ => cases hf
/-- isinstance(x, T) -/
inductive Kd where
  | int | bool | str | tuple | list
def Kd.nm : Kd → String
  | .int => "int"
  | .bool => "bool"
  | .str => "str"
  | .tuple => "tuple"
  | .list => "list"
inductive Tag where
  | non | bool | int | str | tuple | list
def Tag.nm : Tag → String
  | .non => "NoneType"
  | .bool => "bool"
  | .int => "int"
  | .str => "str"
  | .tuple => "tuple"
  | .list => "list"
def tagOf : PI.D → Option Tag
  | .non => some .non
  | .bl _ => some .bool
  | .int _ => some .int
  | .str _ => some .str
  | .tup _ => some .tuple
  | .lst _ => some .list
  | .frz _ => some .list
  | .dct _ _ => none
def isKT : Kd → Tag → Bool
  | .int, .int => true
  | .int, .bool => true
  | .bool, .bool => true
  | .str, .str => true
  | .tuple, .tuple => true
  | .list, .list => true
  | _, _ => false
def tyN (d : PI.D) : Option String := (tagOf d).bind fun t => some t.nm
def isiD (k : Kd) (d : PI.D) : Option W := (tagOf d).bind fun t => some (false, .bl (isKT k t))
theorem kit_all (k : Kd) (t : Tag) : kitB t.nm k.nm = some (isKT k t) := by
  cases k <;> cases t <;> decide +kernel
theorem view_ty {K : PySem.W.Frag} {S : Addr → Prop} {H : Hp} {v : V} {d : PI.D} {n : String} (h : View K S H v d) (e : tyN d = some n) : TyX K H v (.type n) := by
  cases d with
  | non =>
    cases e
    rw [h.nonD]
    exact .base .non
  | bl b =>
    cases e
    rw [h.blD]
    exact .base (.bl b)
  | int i =>
    cases e
    rw [h.intD]
    exact .base (.int i)
  | str x =>
    cases e
    rw [h.strD]
    exact .base (.str x)
  | tup ds =>
    cases e
    obtain ⟨a, vs, rfl, h1, h2⟩ := h.tupD
    rcases h1 with ⟨h1 | ⟨o, h1⟩, _⟩ | ⟨o, its, m, h1, h2, _⟩
    · exact .base (.tup h1)
    · exact .fTuple h1
    · exact .kTuple h1 h2
  | lst ds =>
    cases e
    obtain ⟨a, vs, rfl, h1, h2⟩ := h.lst
    exact .base (.lst h1)
  | frz ds =>
    cases e
    obtain ⟨a, vs, rfl, h1, h2⟩ := h.frzD
    rcases h1 with ⟨h1 | ⟨o, h1⟩, _⟩ | ⟨o, its, m, h1, h2, _⟩
    · exact .base (.lst h1)
    · exact .base (.frz h1)
    · exact .kList h1 h2
  | dct _ _ => cases e
theorem eIsi_go {K : PySem.W.Frag} {σ : L2.St} {H : Hp} {k : Kd} {o : Opd} {Q : VK} (h : SEr K (e1 (isiD k) o) σ H Q) : tCons (SOr K o) (tCons (tC (.ty k.nm)) tNil) σ H fun xs H1 => rIsi K xs H1 Q := by
  refine e1_go (r := fun v H1 Q => rIsi K [v, .ty k.nm] H1 Q) (fun S H v d w Q hS hx hf q => ?_) h
  obtain ⟨t, h1, h2⟩ := obind hf
  cases h2
  have h3 : tyN d = some t.nm := by
    unfold tyN
    rw [h1] <;> rfl
  exact ⟨v, .ty k.nm, .type t.nm, .type k.nm, isKT k t, rfl, .ty _, view_ty hx h3, kit_ty (kit_all k t), q _ H (made_bl _)⟩
theorem se_isi {X : Cx} (k : Kd) {e : Expr} {o : Opd} {p p2 pos : Pos} (he : PE X e (SOr X.K o)) (hm : X.mg "isinstance" = none) (hm2 : X.mg (Str.ofString k.nm) = none) (hv : bootBuiltins (Str.ofString k.nm) = some (.type k.nm)) (hg : Gl X "isinstance" := by rfl) (hg2 : Gl X (Str.ofString k.nm) := by rfl)
    (hn : Str.ofString k.nm ≠ "__name__" := by decide) (hd : (Str.ofString k.nm == ("__debug__" : Str)) = false := by decide)
    (hs : starEach [e, .Name (Str.ofString k.nm) p2] X.env = (false, eval e X.env) :: starEach [.Name (Str.ofString k.nm) p2] X.env := by rfl) (hs2 : starEach [.Name (Str.ofString k.nm) p2] X.env = (false, eval (.Name (Str.ofString k.nm) p2) X.env) :: starEach [] X.env := by rfl)
    (hpl : (backTo pos (starEach [.Name (Str.ofString k.nm) p2] X.env)).any (·.1) = false := by rfl) : PE X (.Call (.Name "isinstance" p) [e, .Name (Str.ofString k.nm) p2] [] pos) (SEr X.K (e1 (isiD k) o)) :=
  PEi (pe_callB call_isi hg hm (by decide +kernel) (pa_cons he (pa_cons (pe_bltn (v := V.ty k.nm) hg2 hm2 hv rfl hn hd) pa_nil hs2) hs) (by decide) (by decide) hs hpl) fun _ _ _ q => eIsi_go q
/-! ### a range in the place of a list -/
def rgD (tup : Bool) (a b : PI.D) : Option W := match a, b with
  | .int i, .int j => if -(2 ^ 62) ≤ i ∧ i < 2 ^ 62 ∧ -(2 ^ 62) ≤ j ∧ j < 2 ^ 62 ∧ (j - i).toNat ≤ 1000000 then some (if tup then (false, .tup (rangeD i (j - i).toNat)) else (true, .lst (rangeD i (j - i).toNat))) else none
  | _, _ => none
theorem rg_rep {K : PySem.W.Frag} {S : Addr → Prop} {H : Hp} (i j : Int) : RepAll K S H (rgV i j) (rangeD i (j - i).toNat) := by
  unfold rgV rangeD
  generalize List.range (j - i).toNat = l
  induction l with
  | nil => exact .nil
  | cons n l ih => exact .cons (.int _) ih
theorem rg_ok {i j : Int} (h : -(2 ^ 62) ≤ i ∧ i < 2 ^ 62 ∧ -(2 ^ 62) ≤ j ∧ j < 2 ^ 62 ∧ (j - i).toNat ≤ 1000000) : RgOk i j := ⟨h.1, h.2.1, h.2.2.1, h.2.2.2.1, Nat.le_trans h.2.2.2.2 (by decide)⟩
def rgK (tup : Bool) : R2 := fun x y H Q => ∃ i j, x = .int i ∧ y = .int j ∧ RgOk i j ∧ ∀ q, H q = none → Q (.ref q) (upd H q (if tup then .tup (rgV i j) else .lst (rgV i j)))
theorem p_rgD {K : PySem.W.Frag} {tup : Bool} : P2Ok K (rgK tup) (rgD tup) := fun S H x y d e w Q hS hx hy hf q => by
  cases d with
  | int i =>
    cases e with
    | int j =>
      dsimp only [rgD] at hf
      split at hf
      · rename_i hz
        refine ⟨i, j, hx.intD, hy.intD, rg_ok hz, fun p hp => ?_⟩
        cases tup with
        | true =>
          cases hf
          exact q _ _ (made_tup hp (fun z => hS p z hp) (rg_rep i j))
        | false =>
          cases hf
          exact q _ _ (made_lst hp (rg_rep i j))
      · cases hf
    | _ => cases hf
  | _ => cases hf
theorem p_rg1 {K : PySem.W.Frag} {tup : Bool} : P1Ok K (fun y H Q => ∃ j, y = .int j ∧ RgOk 0 j ∧ ∀ q, H q = none → Q (.ref q) (upd H q (if tup then .tup (rgV 0 j) else .lst (rgV 0 j)))) (rgD tup (.int 0)) := fun S H v d w Q hS hx hf q => by
  cases d with
  | int j =>
    dsimp only [rgD] at hf
    split at hf
    · rename_i hz
      refine ⟨j, hx.intD, rg_ok hz, fun p hp => ?_⟩
      cases tup with
      | true =>
        cases hf
        exact q _ _ (made_tup hp (fun z => hS p z hp) (rg_rep 0 j))
      | false =>
        cases hf
        exact q _ _ (made_lst hp (rg_rep 0 j))
    · cases hf
  | _ => cases hf
section
variable {X : Cx} {a b : Expr} {oa ob : Opd} {p p2 pos : Pos}
theorem rg2 (ha : PE X a (SOr X.K oa)) (hb : PE X b (SOr X.K ob)) (hm : X.mg "range" = none) (hg : Gl X "range" := by rfl) (na : starEach [a, b] X.env = (false, eval a X.env) :: starEach [b] X.env := by rfl) (nb : starEach [b] X.env = (false, eval b X.env) :: starEach [] X.env := by rfl) (hp : (backTo pos (starEach [b] X.env)).any (·.1) = false := by rfl) :
    PRg X (.Call (.Name "range" p) [a, b] [] pos) (tRg2 (SOr X.K oa) (SOr X.K ob)) := prg_2 hg hm ha hb na nb hp
theorem rg1 (ha : PE X a (SOr X.K oa)) (hm : X.mg "range" = none) (hg : Gl X "range" := by rfl) (na : starEach [a] X.env = (false, eval a X.env) :: starEach [] X.env := by rfl) : PRg X (.Call (.Name "range" p) [a] [] pos) (tRg1 (SOr X.K oa)) := prg_1 hg hm ha na
theorem se_listRg2 {e : Expr} (he : PRg X e (tRg2 (SOr X.K oa) (SOr X.K ob))) (hc : X.calm = true) (hm : X.mg "list" = none) (hg : Gl X "list" := by rfl) (na : starEach [e] X.env = (false, eval e X.env) :: starEach [] X.env := by rfl) : PE X (.Call (.Name "list" p) [e] [] pos) (SEr X.K (e2 (rgD false) oa ob)) :=
  PEi (pe_listRg hc hg hm he na) fun σ H Q q => e2_go p_rgD q
theorem se_tupRg2 {e : Expr} (he : PRg X e (tRg2 (SOr X.K oa) (SOr X.K ob))) (hc : X.calm = true) (hm : X.mg "tuple" = none) (hg : Gl X "tuple" := by rfl) (na : starEach [e] X.env = (false, eval e X.env) :: starEach [] X.env := by rfl) : PE X (.Call (.Name "tuple" p) [e] [] pos) (SEr X.K (e2 (rgD true) oa ob)) :=
  PEi (pe_tupRg hc hg hm he na) fun σ H Q q => e2_go p_rgD q
theorem se_listRg1 {e : Expr} (he : PRg X e (tRg1 (SOr X.K oa))) (hc : X.calm = true) (hm : X.mg "list" = none) (hg : Gl X "list" := by rfl) (na : starEach [e] X.env = (false, eval e X.env) :: starEach [] X.env := by rfl) : PE X (.Call (.Name "list" p) [e] [] pos) (SEr X.K (e1 (rgD false (.int 0)) oa)) :=
  PEi (pe_listRg hc hg hm he na) fun σ H Q q => e1_go p_rg1 q
theorem se_tupRg1 {e : Expr} (he : PRg X e (tRg1 (SOr X.K oa))) (hc : X.calm = true) (hm : X.mg "tuple" = none) (hg : Gl X "tuple" := by rfl) (na : starEach [e] X.env = (false, eval e X.env) :: starEach [] X.env := by rfl) : PE X (.Call (.Name "tuple" p) [e] [] pos) (SEr X.K (e1 (rgD true (.int 0)) oa)) :=
  PEi (pe_tupRg hc hg hm he na) fun σ H Q q => e1_go p_rg1 q
end
/-! ### sorted of ints, of a list or a tuple -/
def isort (l : List Int) : List Int := l.mergeSort fun a b => decide (a ≤ b)
theorem isort_perm (l : List Int) : (isort l).Perm l := List.mergeSort_perm l _
theorem isort_sorted (l : List Int) : (isort l).Pairwise (· ≤ ·) := by
  have h := List.pairwise_mergeSort (le := fun a b : Int => decide (a ≤ b)) (fun a b c h1 h2 => by
    have h1 := of_decide_eq_true h1
    have h2 := of_decide_eq_true h2
    exact decide_eq_true (Int.le_trans h1 h2)) (fun a b => by
    rcases Int.le_total a b with h | h
    · rw [decide_eq_true h] <;> rfl
    · rw [decide_eq_true h, Bool.or_true]) l
  exact h.imp fun q => of_decide_eq_true q
theorem sorted_uniq {l m : List Int} (hp : l.Perm m) (h1 : l.Pairwise (· ≤ ·)) (h2 : m.Pairwise (· ≤ ·)) : l = m := hp.eq_of_pairwise (fun _ _ _ _ p q => Int.le_antisymm p q) h1 h2
theorem isort_of {l m : List Int} (hp : m.Perm l) (h : m.Pairwise (· ≤ ·)) : m = isort l := sorted_uniq (hp.trans (isort_perm l).symm) h (isort_sorted l)
def sortedD (d : PI.D) : Option W := (seqD d).bind fun ds => (toInts ds).bind fun is => some (true, .lst ((isort is).map PI.D.int))
section
variable {prog : Program} {w : World} {A : Around} {E : Value → Shared → Prop} {s : Shared}
theorem collect_tup {l : Addr} {vs : List Value} {Q : List Value → Shared → Prop} (hl : IsTup s.heap l vs.toArray) (hsz : vs.length ≤ sizeLine)
    (hq : Q vs { s with heap := (s.heap.push (seqObj "list" #[] 0)).update s.heap.objs.size (Obj.mapSeq (· ++ vs.toArray)) }) : wpAny (model prog w) A (collect (.ref l)) Q E s := by
  obtain ⟨ob, lo, cc, nn, dd⟩ := hl
  unfold collect
  refine wpAny_bind (wpAny_runValue (codeAny_builtin entry_proto_collect' ?_))
  show wpAny _ _ (do again (.builtin "list.__iadd__" ⟨[← newList [], .ref l], []⟩)) _ _ s
  refine wpAny_bind (wpAny_newList (wpAny_pure ⟨Code.quiet_builtin _ (by decide +kernel), codeAny_builtin entry_list_iadd' ?_⟩))
  show wpAny _ _ (Builtin.List.listExtendWith (.ref s.heap.objs.size) (.ref l) (.ref s.heap.objs.size)) _ _ { s with heap := s.heap.push (seqObj "list" #[] 0) }
  unfold Builtin.List.listExtendWith
  have lo2 : (s.heap.push (seqObj "list" #[] 0)).get? l = some ob := Heap.get?_push_of_some _ lo
  refine wpAny_bind (wpAny_typeOf (T := "tuple") ⟨ob, lo2, cc⟩ ?_)
  have tt : (Value.type "tuple" == Value.type "tuple") = true := by rfl
  rw [if_pos (by rw [tt, Bool.or_true])]
  refine wpAny_bind (listItems_at lo2 dd ?_)
  refine wpAny_bind (listItems_at (xs := #[]) (n := 0) (Heap.get?_push_size _ rfl) rfl ?_)
  rw [if_neg (by simp)]
  have fits : (#[] ++ vs.toArray).size ≤ sizeLine + 1 := by
    simp only [Array.size_append, List.size_toArray, List.length_nil]
    omega
  refine wpAny_bind (listUpdate_at (xs := #[]) (n := 0) (Heap.get?_push_size _ rfl) rfl ?_ (Nat.zero_le _) fits)
  refine wpAny_pure ?_
  refine wpAny_bind (wpAny_load (get?_update_seq (Heap.get?_push_size _ rfl) _) ?_)
  have ee : ((#[] : Array Value) ++ vs.toArray).toList = vs := by simp
  show wpAny _ _ (pure ((#[] : Array Value) ++ vs.toArray).toList) Q E _
  rw [ee]
  exact wpAny_pure hq
/-- sorted of a tuple -/
theorem sorted_tup {l : Addr} {vs : List Value} {ltv : Value → Value → Bool} {Q : Value → Shared → Prop} (O : SrtO.Swo ltv) (hl : IsTup s.heap l vs.toArray) (hz : vs.length ≤ sizeLine)
    (hS : 2 ≤ vs.length → ∀ (hp : Heap) (b : Addr), hp.get? b = some (seqObj "list" vs.toArray 0) → (∀ c o, s.heap.get? c = some o → c ≠ b ∧ hp.get? c = some o) → SrtO.SortableO prog w A.in1.in1 { s with heap := hp } b vs ltv)
    (hq : ∀ out : List Value, SrtO.Srtd ltv out → SrtO.Stb ltv out vs → Q (.ref (s.heap.objs.size + 1)) { s with heap := sortedAll s.heap vs out.toArray }) : wpAny (model prog w) A (call (.builtin "sorted") [.ref l]) Q E s := by
  refine Calls.call_function_entry kind_sorted plain_sorted entry_sorted (args_sorted1 _) ?_
  unfold Builtin.«sorted»
  refine wpAny_bind (m := checkCount "sorted" 1 1 _) (wpAny_pure (wpAny_bind (collect_tup hl hz ?_)))
  refine wpAny_bind (wpAny_newList ?_ hz)
  have e1 : ((s.heap.push (seqObj "list" #[] 0)).update s.heap.objs.size (Obj.mapSeq (· ++ vs.toArray))).objs.size = s.heap.objs.size + 1 := (Heap.size_update ..).trans (size_push' ..)
  have e2 : (((s.heap.push (seqObj "list" #[] 0)).update s.heap.objs.size (Obj.mapSeq (· ++ vs.toArray))).push (seqObj "list" vs.toArray 0)).get? (s.heap.objs.size + 1) = some (seqObj "list" vs.toArray 0) := by
    rw [← e1]
    exact Heap.get?_push_size _ rfl
  have e3 : ∀ c o, s.heap.get? c = some o → c ≠ s.heap.objs.size + 1 ∧ (((s.heap.push (seqObj "list" #[] 0)).update s.heap.objs.size (Obj.mapSeq (· ++ vs.toArray))).push (seqObj "list" vs.toArray 0)).get? c = some o := fun c o z => by
    have lt : c < s.heap.objs.size := Heap.lt_size z
    refine ⟨Nat.ne_of_lt (Nat.lt_succ_of_lt lt), Heap.get?_push_of_some _ ?_⟩
    rw [Heap.get?_update_ne _ _ _ _ (Nat.ne_of_lt lt)]
    exact Heap.get?_push_of_some _ z
  show wpAny _ _ _ _ _ { s with heap := ((s.heap.push (seqObj "list" #[] 0)).update s.heap.objs.size (Obj.mapSeq (· ++ vs.toArray))).push (seqObj "list" vs.toArray 0) }
  rw [e1]
  refine wpAny_bind (wpAny_holding (wpAny_call_entry slot_list_sort ⟨_, e2, rfl⟩ entry_list_sort (SrtO.list_sort_ord O e2 hz (fun h2 => hS h2 _ _ e2 e3) fun out h1 h2 => ⟨_, rfl, wpAny_pure ⟨_, rfl, hq out h1 h2⟩⟩) (args_list_sort _)))
end
end PI

namespace PI
open PySem PySem.Spec PyProof.Rows L2
def rSortT (K : PySem.W.Frag) : List V → Hp → VK → Prop := fun vs H Q => ∃ (a : Addr) (ns : List Int), vs = [V.ref a] ∧ SqT K H a (ns.map V.int) ∧ ∀ (m : List Int) (p : Addr), m.Perm ns → m.Pairwise (· ≤ ·) → H p = none → Q (.ref p) (upd H p (.lst (m.map V.int)))
theorem cr_sortT2 {X : Cx} : CallR X (.builtin "sorted") (rSortT X.K) := by
  intro pins s σ H vs us Q I r h
  obtain ⟨a, ns, rfl, hs, q⟩ := h
  obtain ⟨its, rv, ht, hz⟩ := I.tuple hs
  have hi := rv.ints
  have lz : its.length ≤ sizeLine := by
    rw [← rv.length]
    exact hz
  rw [Vals.ref1 r]
  refine sorted_tup SrtO.swo_int ht lz (fun h2 _ _ _ _ => SrtO.ints_sortable hi h2) fun out h1 h2 => ?_
  obtain ⟨k1, k2, k3⟩ := SrtO.ints_out hi h1 h2
  obtain ⟨ep, e⟩ := PyProof.Rows.sortedAll_at s.heap its out.toArray
  have lo : ((out.map SrtO.iv).map V.int).length ≤ sizeLine := by
    rw [List.length_map] at hz ⊢
    rw [k2.length_eq]
    exact hz
  exact ⟨V.ref (s.heap.objs.size + 1), upd H (s.heap.objs.size + 1) (.lst ((out.map SrtO.iv).map V.int)), I.laid (t' := s.toks) (fun _ _ => PyProof.Rows.sortedAll_old) (Nat.le_succ _) ⟨lo, out, ep, vals_of_ints k1, e⟩, rfl, q _ _ k2 k3 (I.hok.fresh (Nat.le_succ _))⟩
theorem cr_sortA {X : Cx} : CallR X (.builtin "sorted") (fun vs H Q => rSortedI X.K vs H Q ∨ rSortT X.K vs H Q) := CallR.or cr_sortedI cr_sortT2
theorem p_sortedD {K : PySem.W.Frag} : PnOk K (fun vs H Q => rSortedI K vs H Q ∨ rSortT K vs H Q) (c1 sortedD) := p_c1 fun S H v d w Q hS hx hf q => by
  obtain ⟨es, h1, hf⟩ := obind hf
  obtain ⟨is, h2, hf⟩ := obind hf
  cases hf
  obtain ⟨a, us, rfl, h3, h4⟩ := view_seq hx h1
  rw [toInts_ok h2] at h4
  have := h4.of_ints
  subst this
  have fin : ∀ (m : List Int) (p : Addr), m.Perm is → m.Pairwise (· ≤ ·) → H p = none → Q (.ref p) (upd H p (.lst (m.map V.int))) := fun m p k1 k2 k3 => by
    have e := isort_of k1 k2
    subst e
    exact q _ _ (made_lst k3 (.ints _))
  rcases h3 with h3 | h3
  · exact .inl ⟨a, is, rfl, h3, fin⟩
  · exact .inr ⟨a, is, rfl, h3, fin⟩
/-! ### constants of the module -/
mutual
def kD (K : PySem.W.Frag) : PI.D → Value → Bool
  | .non, .none => true
  | .bl b, .bool c => b == c
  | .int i, .int j _ => decide (i = j)
  | .str x, .str y _ => decide (x = y)
  | .tup ds, .ref a => match K.lookup a with
    | some ⟨.type c, _, .seq its _, _⟩ => decide (c = "tuple") && (decide (its.size ≤ sizeLine) && kDs K ds its.toList)
    | _ => false
  | _, _ => false
def kDs (K : PySem.W.Frag) : List PI.D → List Value → Bool
  | [], [] => true
  | d :: ds, u :: us => kD K d u && kDs K ds us
  | _, _ => false
end
mutual
theorem kD_ok {K : PySem.W.Frag} : ∀ {d : PI.D} {u : Value}, kD K d u = true → ∃ v, RelV v u ∧ ∀ S H, Rep K S H v d
  | .non, u, h => by
    cases u with
    | none => exact ⟨.non, rfl, fun _ _ => .non⟩
    | _ => cases h
  | .bl b, u, h => by
    cases u with
    | bool c =>
      have e : b = c := eq_of_beq h
      subst e
      exact ⟨.bl b, rfl, fun _ _ => .bl b⟩
    | _ => cases h
  | .int i, u, h => by
    cases u with
    | int j t =>
      have e : i = j := of_decide_eq_true h
      subst e
      exact ⟨.int i, ⟨t, rfl⟩, fun _ _ => .int i⟩
    | _ => cases h
  | .str x, u, h => by
    cases u with
    | str y t =>
      have e : x = y := of_decide_eq_true h
      subst e
      exact ⟨.str x, ⟨t, rfl⟩, fun _ _ => .str x⟩
    | _ => cases h
  | .tup ds, u, h => by
    cases u with
    | ref a =>
      have h : (match K.lookup a with
        | some ⟨.type c, _, .seq its _, _⟩ => decide (c = "tuple") && (decide (its.size ≤ sizeLine) && kDs K ds its.toList)
        | _ => false) = true := h
      cases q : K.lookup a with
      | none =>
        rw [q] at h
        cases h
      | some o =>
        obtain ⟨oc, od, dt, sl⟩ := o
        rw [q] at h
        cases oc with
        | type c =>
          cases dt with
          | seq its n =>
            obtain ⟨h1, h2⟩ := Bool.and_eq_true_iff.mp (show (decide (c = "tuple") && (decide (its.size ≤ sizeLine) && kDs K ds its.toList)) = true from h)
            obtain ⟨h3, h4⟩ := Bool.and_eq_true_iff.mp h2
            obtain ⟨vs, r1, r2⟩ := kDs_ok h4
            exact ⟨.ref a, rfl, fun S H => .tup (.inr ⟨_, its, n, q, congrArg Value.type (of_decide_eq_true h1), rfl, of_decide_eq_true h3, r1⟩) (r2 S H)⟩
          | _ => cases h
        | _ => cases dt <;> cases h
    | _ => cases h
  | .lst ds, u, h => by cases u <;> cases h
  | .frz ds, u, h => by cases u <;> cases h
  | .dct _ _, u, h => by cases u <;> cases h
theorem kDs_ok {K : PySem.W.Frag} : ∀ {ds : List PI.D} {us : List Value}, kDs K ds us = true → ∃ vs, Vals vs us ∧ ∀ S H, RepAll K S H vs ds
  | [], [], _ => ⟨[], .nil, fun _ _ => .nil⟩
  | [], _ :: _, h => by cases h
  | _ :: _, [], h => by cases h
  | d :: ds, u :: us, h => by
    obtain ⟨h1, h2⟩ := Bool.and_eq_true_iff.mp (show (kD K d u && kDs K ds us) = true from h)
    obtain ⟨v, r1, r2⟩ := kD_ok h1
    obtain ⟨vs, s1, s2⟩ := kDs_ok h2
    exact ⟨v :: vs, .cons r1 s1, fun S H => .cons (r2 S H) (s2 S H)⟩
end
/-- the module's name x stands for d -/
def conD (K : PySem.W.Frag) (x : Str) (d : PI.D) : Bool := match PySem.W.nsIn K mainGlobals x with
  | some (some u) => kD K d u
  | _ => false
theorem conD_ok {K : PySem.W.Frag} {h : Heap} {mg : Str → Option Value} {x : Str} {d : PI.D} (X : K.In h) (G : h.Ns mainGlobals mg) (c : conD K x d = true) : ∃ (v : V) (u : Value), mg x = some u ∧ RelV v u ∧ ∀ S H, Rep K S H v d := by
  unfold conD at c
  split at c
  · rename_i u e
    obtain ⟨v, r1, r2⟩ := kD_ok c
    exact ⟨v, u, PySem.W.mg_of X G e, r1, r2⟩
  · cases c
/-- a dict of the module with text keys: its entries -/
structure KTab (K : PySem.W.Frag) (w : World) (mg : Str → Option Value) (x : Str) (kvs : List (Str × PI.D)) : Prop where
  ex : ∃ (a : Addr) (es : Array DictEntry) (n : Nat), mg x = some (.ref a) ∧ KDict K w a es n ∧ ∀ q ∈ kvs, ∃ u, PySem.W.nsIn K a q.1 = some (some u) ∧ kD K q.2 u = true
def lookT (kvs : List (Str × PI.D)) (z : Str) : Option PI.D := (kvs.find? fun q => decide (q.1 = z)).bind fun q => some q.2
theorem lookT_ok {kvs : List (Str × PI.D)} {z : Str} {d : PI.D} (h : lookT kvs z = some d) : (z, d) ∈ kvs := by
  obtain ⟨q, h1, h2⟩ := obind h
  cases h2
  have h3 := List.find?_some h1
  have h4 := List.mem_of_find?_eq_some h1
  have h5 : q.1 = z := of_decide_eq_true h3
  rw [← h5]
  exact h4
def kinD (kvs : List (Str × PI.D)) : PI.D → Option W
  | .str z => (lookT kvs z).bind fun _ => some (false, .bl true)
  | _ => none
def kgetD (kvs : List (Str × PI.D)) : PI.D → Option W
  | .str z => (lookT kvs z).bind fun d => some (false, d)
  | _ => none
section
variable {X : Cx} {x : Str} {kvs : List (Str × PI.D)} {e : Expr} {o : Opd} {p pos : Pos}
theorem se_kin (T : KTab X.K X.w X.mg x kvs) (he : PE X e (SOr X.K o)) (hg : Gl X x := by rfl) (hd : (x == ("__debug__" : Str)) = false := by decide) (hm : behindInMarks .In (.Name x p) = false := by rfl) : PE X (.Compare e [.In] [.Name x p] pos) (SEr X.K (e1 (kinD kvs) o)) := by
  obtain ⟨a, es, n, h1, D, h3⟩ := T.ex
  refine PEi (pe_cmpR (op_in_kd D) he (pe_glob (v := V.ref a) hg h1 rfl hd) hm) fun σ H Q q => ?_
  refine e1_go (r := fun y H1 Q => ∃ (z : Str) (r : Option Value), y = .str z ∧ V.ref a = .ref a ∧ PySem.W.nsIn X.K a z = some r ∧ Q (.bl r.isSome) H1) (fun S H v d w Q hS hx hf q => ?_) q
  cases d with
  | str z =>
    obtain ⟨d', g1, g2⟩ := obind hf
    cases g2
    obtain ⟨u, g3, _⟩ := h3 _ (lookT_ok g1)
    exact ⟨z, some u, hx.strD, rfl, g3, q _ H (made_bl _)⟩
  | _ => cases hf
end
/-! ### a def keeps its promise -/
structure DefAt (K : PySem.W.Frag) (mg : Str → Option Value) (x : Str) (st : Stmt) (a : Addr) (fd : FuncData) : Prop where
  fn : FunD K x x (defArgs st) (defBody st) (defScope st) [] [] a fd
  gl : mg x = some (.ref a)
/-- as a caller finds it -/
structure Ok (P : Program) (w : World) (K : PySem.W.Frag) (mg : Str → Option Value) (base : Heap) (k : Nat) (x : Str) (st : Stmt) (ps : List Str) (modes : List Bool) (f : Cal) : Prop where
  ex : ∃ (a : Addr) (fd : FuncData), FnOk P w K mg base CX0 k a fd ps (spOf K modes f) ∧ DefAt K mg x st a fd
theorem ok_of {P : Program} {w : World} {K : PySem.W.Frag} {mg : Str → Option Value} {base : Heap} {k : Nat} {x : Str} {st : Stmt} {N ps : List Str} {modes : List Bool} {f : Cal} {body : SF} {a : Addr} {fd : FuncData}
    (F : DefAt K mg x st a fd) (S : FnScope N ps (defScope st)) (lm : modes.length = ps.length) (ln : ps.length ≤ N.length)
    (hb : ∀ (cdv : Value) (A : Around) (outer : List PySem.Env) (s : Shared) (H : Hp) (E : XK), Room k (A.deeper (envOfC x (defScope st) s.heap.objs.size a cdv)) → PSs (cxOf CX0 P w K mg base N x (defScope st) a cdv A outer s H E).nox (defBody st) (SSr K (tp 0 modes) body))
    (hf : ∀ ds w outs, f ds = some (w, outs) → runB modes N.length body ds = some (w, outs)) : Ok P w K mg base (k + 1) x st ps modes f := by
  refine ⟨a, fd, F.fn.ok S (fun vs H Q E h => ?_) (fun cdv A outer s H vs Q E hr h => ⟨_, PSs.nox (hb cdv A outer s H E hr), run_ok (by omega) hf h⟩), F⟩
  obtain ⟨S', ds, w', outs, _, _, hA, _⟩ := h
  rw [hA.len1.1, lm]
section
variable {X : Cx} {k j : Nat} {x : Str} {st : Stmt} {p pos : Pos} {e : Expr} {es : List Expr} {ps : List Str} {modes : List Bool} {f : Cal} {as bs : List Opd}
theorem se_fn (G : Ok X.prog X.w X.K X.mg X.base j x st ps modes f) (hr : Room k X.A) (ha : PA X (e :: es) (SAr X.K as))
    (hb : ∀ (kV doc pm : Value) (an : Option Addr) (cdv ct : Value) (us : List Value), us.length = ps.length → bindArgs (PySem.W.fnOf x x (defArgs st) (defBody st) (defScope st) .none kV doc pm an cdv ct) ⟨us, []⟩ = pure (ps.zip us))
    (hjk : j ≤ k := by decide) (hg : Gl X x := by rfl) (hdb : (x == ("__debug__" : Str)) = false := by decide) (he : starEach (e :: es) X.env = (false, eval e X.env) :: starEach es X.env := by rfl) (hpl : (backTo pos (starEach es X.env)).any (·.1) = false := by rfl) :
    PE X (.Call (.Name x p) (e :: es) [] pos) (SEr X.K (eCall modes f as)) := by
  obtain ⟨a, fd, F, D⟩ := G.ex
  exact PEi (pe_call F (hr.mono hjk) hg D.gl D.fn.kp (D.fn.bindsN hb) .nil pass0 ha hdb he hpl) fun _ _ _ q => eCall_go q
theorem se_fn0 (G : Ok X.prog X.w X.K X.mg X.base j x st ps modes f) (hr : Room k X.A)
    (hb : ∀ (kV doc pm : Value) (an : Option Addr) (cdv ct : Value) (us : List Value), us.length = ps.length → bindArgs (PySem.W.fnOf x x (defArgs st) (defBody st) (defScope st) .none kV doc pm an cdv ct) ⟨us, []⟩ = pure (ps.zip us))
    (hjk : j ≤ k := by decide) (hg : Gl X x := by rfl) (hdb : (x == ("__debug__" : Str)) = false := by decide) :
    PE X (.Call (.Name x p) [] [] pos) (SEr X.K (eCall modes f [])) := by
  obtain ⟨a, fd, F, D⟩ := G.ex
  exact PEi (pe_call0 F (hr.mono hjk) hg D.gl D.fn.kp (D.fn.bindsN hb) .nil pass0 hdb) fun _ _ _ q => eCall_go q
theorem pick_vals (is : List Nat) {vs : List V} {us : List Value} (r : Vals vs us) : Vals (pick is vs) (pick is us) := by
  unfold pick
  induction is with
  | nil => exact .nil
  | cons i is ih =>
    rw [List.filterMap_cons, List.filterMap_cons]
    cases e : vs[i]? with
    | none =>
      rw [r.none_of e]
      exact ih
    | some v =>
      obtain ⟨u, h1, h2⟩ := r.get e
      rw [h1]
      exact .cons h2 ih
def SKr (K : PySem.W.Frag) (bs : List Opd) : TA := SAr K bs
theorem sk_nil : PK X [] (SAr X.K []) := pk_nil
theorem sk_cons {kws : List Keyword} {nm : Option Str} {kpos : Pos} {o : Opd} (ha : PE X e (SOr X.K o)) (hr : PK X kws (SAr X.K bs)) : PK X (⟨nm, e, kpos⟩ :: kws) (SAr X.K (o :: bs)) := pk_cons ha hr
/-- f(k = v, ..), no positional ones -/
theorem se_fnK {kws : List Keyword} {ks : List Str} {is : List Nat} (G : Ok X.prog X.w X.K X.mg X.base j x st ps modes f) (hr : Room k X.A) (hkw : PK X kws (SAr X.K bs))
    (hb : ∀ (kV doc pm : Value) (an : Option Addr) (cdv ct : Value) (ws : List Value), (pick is ws).length = ps.length → bindArgs (PySem.W.fnOf x x (defArgs st) (defBody st) (defScope st) .none kV doc pm an cdv ct) ⟨[], ks.zip ws⟩ = pure (ps.zip (pick is ws)))
    (hjk : j ≤ k := by decide) (hall : (backToKw pos (keywordEach kws X.env)).all (·.1.isSome) = true := by rfl) (hks : (backToKw pos (keywordEach kws X.env)).filterMap (·.1) = ks := by rfl) (hg : Gl X x := by rfl)
    (hdb : (x == ("__debug__" : Str)) = false := by decide) (hpl : ((backTo pos (starEach [] X.env)).any (·.1) || (backToKw pos (keywordEach kws X.env)).any (·.1.isNone)) = false := by rfl) :
    PE X (.Call (.Name x p) [] kws pos) (SEr X.K (eCallK modes f bs is)) := by
  obtain ⟨a, fd, F, D⟩ := G.ex
  refine ⟨fun pins s σ H Q I h => ?_⟩
  have h : SAr X.K bs σ H fun zs H2 => spOf X.K modes f (pick is ([] ++ zs)) H2 Q E0 := eCallK_go (as := []) h
  refine wpAny_Call_Name_kw (ld_glob I hg D.gl ?_ hdb)
  refine PySem.W.callWith_KW0 (h₀ := X.base) I.ok.mod.kin D.fn.kp hall ?_ hpl
  refine thn (hkw.run pos pins s σ H _ I h) fun ws s2 ⟨zs, H2, I2, rz, q2⟩ => ⟨I2.kIn, ?_⟩
  rw [hks]
  have bt : BindsTo s2 fd ⟨[], ks.zip ws⟩ (ps.zip (pick is ws)) := by
    obtain ⟨oc, od, dV, kV, doc, pm, an, cdv, ct, osl, rfl, lk, hcd, hD, hK⟩ := D.fn.ex
    rcases hD with ⟨_, rfl⟩ | ⟨e, _⟩
    · refine .of_eq (hb kV doc pm an cdv ct ws ?_)
      rw [← (pick_vals is rz).length]
      exact F.len _ _ _ _ q2
    · exact absurd rfl e
  refine wpAny_call (codeAny_mono (F.run X.A X.stack s2 H2 ⟨[], ks.zip ws⟩ (pick is ws) (pick is zs) Q E0 (hr.mono hjk) I2.env0 bt (pick_vals is rz) q2) fun r s' hq => ?_)
  cases r with
  | error e => exact hq.elim
  | ok fl =>
    cases fl with
    | ret u => exact I2.after hq
    | next => exact hq.elim
    | brk => exact hq.elim
    | cont => exact hq.elim
end
end PI

namespace PI
open PySem PySem.Spec PyProof.Rows L2
/-! ### walks over lists or tuples -/
def iAny (K : PySem.W.Frag) (t : TE) : TI := fun σ H R => iList K t σ H R ∨ iTup K t σ H R
theorem pi_any {X : Cx} {tg e : Expr} {t : TE} (h : PE X e t) : L2.PI X tg e (iAny X.K t) := ⟨fun pins s σ H R I q => q.elim (fun q => (pi_list h).run pins s σ H R I q) fun q => (pi_tup h).run pins s σ H R I q⟩
def srcA (f : EF) : SrcF := fun env => (f env).bind fun r => match r.1.2 with
  | .lst ds => some (ds, r.2)
  | .frz ds => some (ds, r.2)
  | .tup ds => some (ds, r.2)
  | _ => none
theorem srcA_ok {K : PySem.W.Frag} {f : EF} : SrcOk K (iAny K (SEr K f)) (srcA f) := fun Z env σ H R ds env1 R0 e q => by
  obtain ⟨⟨⟨fr, d⟩, env2⟩, g1, e⟩ := obind e
  cases d with
  | lst es =>
    cases e
    exact .inl (srcL_ok Z env σ H R _ _ R0 (by show (f env).bind _ = _; rw [g1]; rfl) q)
  | frz es =>
    cases e
    exact .inl (srcL_ok Z env σ H R _ _ R0 (by show (f env).bind _ = _; rw [g1]; rfl) q)
  | tup es =>
    cases e
    exact .inr (srcT_ok Z env σ H R _ _ R0 (by show (f env).bind _ = _; rw [g1]; rfl) q)
  | _ => cases e
/-- what a name holds, hidden meanwhile when it owns it -/
def srcN (i : Nat) : SrcC := fun env => match env[i]? with
  | some (some (true, .lst ds)) => some (ds, env.set i none, some (i, ds))
  | some (some (false, .lst ds)) => some (ds, env, none)
  | some (some (false, .frz ds)) => some (ds, env, none)
  | some (some (false, .tup ds)) => some (ds, env, none)
  | _ => none
theorem srcN_ok {K : PySem.W.Frag} {i : Nat} : SrcCOk K (iAny K (tVar i)) (srcN i) := fun Z env σ H R ds env1 hid R0 e q => by
  unfold srcN at e
  have un : ∀ (es : List PI.D) (d : PI.D), env[i]? = some (some (false, d)) → eVar i env = some ((false, d), env) := fun es d g => by
    unfold eVar
    rw [g]
  split at e
  · rename_i es g
    exact .inl (srcH_ok Z env σ H R ds env1 hid R0 (by unfold srcH; rw [g]; exact e) q)
  · rename_i es g
    exact .inl (srcH_ok Z env σ H R ds env1 hid R0 (by unfold srcH; rw [g]; exact e) q)
  · rename_i es g
    cases e
    have h := srcC_ok (srcL_ok (K := K) (f := eVar i)) Z env σ H R _ _ none R0 (by unfold srcC srcL; rw [un [] _ g]; rfl) q
    exact .inl (eVar_go h)
  · rename_i es g
    cases e
    have h := srcC_ok (srcT_ok (K := K) (f := eVar i)) Z env σ H R _ _ none R0 (by unfold srcC srcT; rw [un [] _ g]; rfl) q
    exact .inr (eVar_go h)
  · cases e
end PI

namespace PI
open PySem PySem.Spec PyProof.Rows L2
section
variable {X : Cx} {pos : Pos} {a b c : Expr}
theorem st_chain {op op' : CmpOp} {r r' : R2} {f g : PI.D → PI.D → Option W} {oa ob oc : Opd} (ho : L2.OpR X (compareOp op) r) (p : P2Ok X.K r f) (ho' : L2.OpR X (compareOp op') r') (p' : P2Ok X.K r' g) (ha : PE X a (SOr X.K oa)) (hb : PE X b (SOr X.K ob)) (hc : PE X c (SOr X.K oc)) (hm : lastMarks [op, op'] [b, c] = false := by rfl) :
    PT X (.Compare a [op, op'] [b, c] pos) (STr X.K (eCh f g oa ob oc)) := by
  refine PTi (pt_chain ho ho' ha hb hc (hm := hm)) fun σ H Q q => ?_
  exact eCh_go (K := X.K) (Q := fun x H1 => ∃ c, x = .bl c ∧ Q c H1) p p' (st_val q)
theorem st_kin {x : Str} {kvs : List (Str × PI.D)} {e : Expr} {o : Opd} {p : Pos} (T : KTab X.K X.w X.mg x kvs) (he : PE X e (SOr X.K o)) (hg : Gl X x := by rfl) (hd : (x == ("__debug__" : Str)) = false := by decide) (hm : behindInMarks .In (.Name x p) = false := by rfl) : PT X (.Compare e [.In] [.Name x p] pos) (STr X.K (e1 (kinD kvs) o)) := by
  obtain ⟨a, es, n, h1, D, h3⟩ := T.ex
  refine PTi (pt_cmpR (op_in_kd D) he (pe_glob (v := V.ref a) hg h1 rfl hd) hm) fun σ H Q q => ?_
  refine e1_go (Q := fun x H1 => ∃ c, x = .bl c ∧ Q c H1) (r := fun y H1 Q => ∃ (z : Str) (r : Option Value), y = .str z ∧ V.ref a = .ref a ∧ PySem.W.nsIn X.K a z = some r ∧ Q (.bl r.isSome) H1) (fun S H v d w Q hS hx hf q => ?_) (st_val q)
  cases d with
  | str z =>
    obtain ⟨d', g1, g2⟩ := obind hf
    cases g2
    obtain ⟨u, g3, _⟩ := h3 _ (lookT_ok g1)
    exact ⟨z, some u, hx.strD, rfl, g3, q _ H (made_bl _)⟩
  | _ => cases hf
/-- d[key], d a dict of the module -/
theorem se_kget {x : Str} {kvs : List (Str × PI.D)} {e : Expr} {o : Opd} {p : Pos} (T : KTab X.K X.w X.mg x kvs) (he : PE X e (SOr X.K o)) (hs : PlainIx e := by exact fun _ _ => rfl) (hg : Gl X x := by rfl) (hd : (x == ("__debug__" : Str)) = false := by decide) : PE X (.Subscript (.Name x p) e pos) (SEr X.K (e1 (kgetD kvs) o)) := by
  obtain ⟨a, es, n, h1, D, h3⟩ := T.ex
  refine PEi (pe_ix ix_kdict (pe_glob (v := V.ref a) hg h1 rfl hd) he hs) fun σ H Q q => ?_
  refine e1_go (r := fun y H1 Q => rIxD X.K X.w (V.ref a) y H1 Q) (fun S H v d w Q hS hx hf q => ?_) q
  cases d with
  | str z =>
    obtain ⟨d', g1, g2⟩ := obind hf
    cases g2
    obtain ⟨u, g3, g4⟩ := h3 _ (lookT_ok g1)
    obtain ⟨v', r1, r2⟩ := kD_ok g4
    exact ⟨a, z, v', rfl, hx.strD, ⟨es, n, u, D.at_, D.lit, g3, r1⟩, q _ H (made_old (r2 S H))⟩
  | _ => cases hf
variable {tg : Expr} {p : Pos} {f g : EF}
theorem pi_rg1 (ha : PE X a (SEr X.K f)) (hm : X.mg "range" = none) (hg : Gl X "range" := by rfl) (hs : starEach [a] X.env = [(false, eval a X.env)] := by rfl) (hs1 : starEach [a] X.env = (false, eval a X.env) :: starEach [] X.env := by rfl) : L2.PI X tg (.Call (.Name "range" p) [a] [] pos) (iRng1 (SVr X.K [f])) := pi_range1 hg hm (sv_cons ha sv_nil hs1) hs
theorem pi_rg2 (ha : PE X a (SEr X.K f)) (hb : PE X b (SEr X.K g)) (hm : X.mg "range" = none) (hg : Gl X "range" := by rfl) (hs : starEach [a, b] X.env = [(false, eval a X.env), (false, eval b X.env)] := by rfl) (hs2 : starEach [b] X.env = [(false, eval b X.env)] := by rfl)
    (hs3 : starEach [a, b] X.env = (false, eval a X.env) :: starEach [b] X.env := by rfl) (hs4 : starEach [b] X.env = (false, eval b X.env) :: starEach [] X.env := by rfl) : L2.PI X tg (.Call (.Name "range" p) [a, b] [] pos) (iRng2 (SVr X.K [f, g])) := pi_range2 hg hm (sv_cons ha (sv_cons hb sv_nil hs4) hs3) hs hs2
end
/-! ### the end of a law -/
theorem DefAt.same {K : PySem.W.Frag} {mg : Str → Option Value} {x : Str} {st : Stmt} {a : Addr} {fd fd' : FuncData} (h : DefAt K mg x st a fd) (h' : DefAt K mg x st a fd') : fd = fd' := by
  obtain ⟨_, _, _, _, _, _, _, _, _, _, _, lk, _, _, _⟩ := h.fn.ex
  obtain ⟨_, _, _, _, _, _, _, _, _, _, _, lk', _, _, _⟩ := h'.fn.ex
  rw [lk] at lk'
  have e := congrArg Obj.data (Option.some.inj lk')
  exact Data.func.inj e
theorem walk_pi {l : PySem.W.OpenLaw} {n k : Nat} {q : Program} {loose : List Str} {XP : (Str → Option Value) → Heap → Prop} {YP : World → Heap → Prop} {d : DefRec} {x : Str} {st : Stmt} {y : Str} {f : Cal}
    (hn : l.most = some n) (hn2 : n ≤ sizeLine) (hdf : d.params.defaults = []) (hr : Room k callerA) (hx : d.name = x)
    (hbind : ∀ (kV doc pm : Value) (an : Option Addr) (cdv ct : Value) (us : List Value), us.length = [y].length → bindArgs (PySem.W.fnOf x x (defArgs st) (defBody st) (defScope st) .none kV doc pm an cdv ct) ⟨us, []⟩ = pure ([y].zip us))
    (F : ∀ (w : World) (mg : Str → Option Value) (h : Heap), YP w h → h.Ns mainGlobals mg →
      ∃ (K : PySem.W.Frag), K.In h ∧ (∃ (fa : Addr) (fd : FuncData), DefAt K mg x st fa fd) ∧ ∀ base : Heap, K.In base → base.Ns mainGlobals mg → Ok l.prog w K mg base k x st [y] [false] f)
    (hlaw : ∀ ns : List Int, ns.length ≤ n → (∀ z ∈ ns, Builtin.Int.intBits z ≤ 1048576) → f [.frz (ns.map PI.D.int)] = some ((false, .bl true), [])) :
    PySem.W.WalkO q loose XP YP l.row.toRowW d [] (fun f vs => PySem.call f vs) := by
  refine Att.attach_callB hn hdf fun w s₀ s₁ mg mb fa o pm cd doc a vs ns G Y ho hd hcd hmg hobj hints hlen hbits hg => ?_
  obtain ⟨K, KX, ⟨a0, fd, D0⟩, hF⟩ := F w mg _ Y G.T.g
  rw [hx] at hmg
  have ea := D0.gl.symm.trans hmg
  cases ea
  have key : ∀ base : Heap, K.In base → base.Ns mainGlobals mg → FnOk l.prog w K mg base CX0 k fa fd [y] (spOf K [false] f) := fun base h1 h2 => by
    obtain ⟨a1, fd1, h3, D1⟩ := (hF base h1 h2).ex
    have ea := D0.gl.symm.trans D1.gl
    cases ea
    rw [D0.same D1]
    exact h3
  refine law_call (CX := CX0) KX G.T.g G.T.b G.T.builtins G.T.nolimit hg hobj hints (Nat.le_trans hlen hn2) hr key (fun s u => ?_) (fun H hO hS => ?_) fun H e s' z => z
  · exact D0.fn.bindsA hbind s [u] rfl
  · refine ⟨fun _ => False, [.frz (ns.map PI.D.int)], (false, .bl true), [], fun _ z => z.elim, (fun b z => (nomatch (show V.ref b ∈ ([] : List V) from z))), .cons (m := false) ?_ .nil, .nil, hlaw ns hlen hbits, fun v H' c => rep_bl (c.old rfl)⟩
    refine .frz (vs := ns.map V.int) ?_ (.ints ns)
    rcases hS with hS | hS
    · exact .inl ⟨hS, id⟩
    · exact .inr hS
end PI
namespace PI
open PySem PySem.Spec PyProof.Rows L2
/-- the dict that stands at x holds kvs -/
def tabB (K : PySem.W.Frag) (x : Str) (kvs : List (Str × PI.D)) : Bool := kvs.all fun q => match PySem.W.nsIn K (He.ga K x) q.1 with
  | some (some u) => kD K q.2 u
  | _ => false
theorem tab_ok {K : PySem.W.Frag} {w : World} {mg : Str → Option Value} {x : Str} {kvs : List (Str × PI.D)} (hm : mg x = some (.ref (He.ga K x))) (hD : ∃ es n, KDict K w (He.ga K x) es n) (h : tabB K x kvs = true) : KTab K w mg x kvs := by
  obtain ⟨es, n, D⟩ := hD
  refine ⟨_, es, n, hm, D, fun q hq => ?_⟩
  have h1 := List.all_eq_true.mp h q hq
  split at h1
  · rename_i u e
    exact ⟨u, e, h1⟩
  · cases h1
end PI

namespace PI
open PySem PySem.Spec PyProof.Rows L2
def zL (l : List Int) : List PI.D := l.map PI.D.int
/-- values as data: equal values, equal data -/
structure EncOk {α : Type} [DecidableEq α] (e : α → PI.D) (n : Nat) : Prop where
  eqv : ∀ a b, PyData.eqv (toPy (e a)) (toPy (e b)) = decide (a = b)
  lay : ∀ a, PyData.canLay0 (toPy (e a)) = true
  dep : ∀ a, PyData.depth (toPy (e a)) ≤ n
theorem enc_int : EncOk PI.D.int 0 := ⟨fun a b => by
  show PyData.eqv (.int a) (.int b) = _
  rw [PyData.eqv]
  by_cases h : a = b
  · subst h; simp
  · simp [h], fun a => by simp [toPy, PyData.canLay0], fun a => by simp [toPy, PyData.depth]⟩
theorem enc_bl : EncOk PI.D.bl 0 := ⟨fun a b => by
  show PyData.eqv (.bool a) (.bool b) = _
  rw [PyData.eqv]
  cases a <;> cases b <;> rfl, fun a => by simp [toPy, PyData.canLay0], fun a => by simp [toPy, PyData.depth]⟩
section
variable {α : Type} [DecidableEq α] {e : α → PI.D} {n : Nat}
theorem toPys_map (l : List α) : toPys (l.map e) = l.map fun a => toPy (e a) := by
  induction l with
  | nil => rfl
  | cons a l ih =>
    show toPy (e a) :: toPys (l.map e) = _
    rw [ih]
    rfl
theorem enc_all (h : EncOk e n) : (∀ l m : List α, PyData.eqvAll (toPys (l.map e)) (toPys (m.map e)) = decide (l = m)) ∧ (∀ l : List α, PyData.canLayAll0 (toPys (l.map e)) = true) ∧ ∀ l : List α, PyData.depthAll (toPys (l.map e)) ≤ n := by
  refine ⟨fun l => ?_, fun l => ?_, fun l => ?_⟩
  · induction l with
    | nil =>
      intro m
      cases m with
      | nil => rfl
      | cons b m => rfl
    | cons a l ih =>
      intro m
      cases m with
      | nil => rfl
      | cons b m =>
        show PyData.eqvAll (toPy (e a) :: toPys (l.map e)) (toPy (e b) :: toPys (m.map e)) = _
        rw [PyData.eqvAll, h.eqv, ih]
        by_cases h1 : a = b <;> by_cases h2 : l = m <;> simp [h1, h2]
  · induction l with
    | nil => rfl
    | cons a l ih =>
      show PyData.canLayAll0 (toPy (e a) :: toPys (l.map e)) = true
      rw [PyData.canLayAll0, h.lay, ih]
      rfl
  · induction l with
    | nil => exact Nat.zero_le _
    | cons a l ih =>
      show PyData.depthAll (toPy (e a) :: toPys (l.map e)) ≤ n
      rw [PyData.depthAll]
      exact Nat.max_le.mpr ⟨h.dep a, ih⟩
theorem enc_tup (h : EncOk e n) : EncOk (fun l : List α => PI.D.tup (l.map e)) (n + 1) := ⟨fun a b => by
  show PyData.eqv (.tuple (toPys (a.map e))) (.tuple (toPys (b.map e))) = _
  rw [PyData.eqv]
  exact (enc_all h).1 a b, fun a => by
  show PyData.canLay0 (.tuple (toPys (a.map e))) = true
  rw [PyData.canLay0]
  exact (enc_all h).2.1 a, fun a => by
  show PyData.depth (.tuple (toPys (a.map e))) ≤ n + 1
  rw [PyData.depth]
  exact Nat.succ_le_succ ((enc_all h).2.2 a)⟩
theorem enc_lst (h : EncOk e n) : EncOk (fun l : List α => PI.D.lst (l.map e)) (n + 1) := ⟨fun a b => by
  show PyData.eqv (.list (toPys (a.map e))) (.list (toPys (b.map e))) = _
  rw [PyData.eqv]
  exact (enc_all h).1 a b, fun a => by
  show PyData.canLay0 (.list (toPys (a.map e))) = true
  rw [PyData.canLay0]
  exact (enc_all h).2.1 a, fun a => by
  show PyData.depth (.list (toPys (a.map e))) ≤ n + 1
  rw [PyData.depth]
  exact Nat.succ_le_succ ((enc_all h).2.2 a)⟩
theorem shaped_of {d : PI.D} (h1 : PyData.canLay0 (toPy d) = true) (h2 : PyData.depth (toPy d) ≤ 64) : SeqAt.shaped (toPy d) = true := by
  unfold SeqAt.shaped
  rw [h1, decide_eq_true h2]
  rfl
theorem eqB_enc (h : EncOk e n) (hn : n ≤ 64) {a b : α} (hs : scD (e a) (e b) = none) : eqB (e a) (e b) = some (decide (a = b)) := by
  unfold eqB
  rw [hs]
  dsimp only
  rw [shaped_of (h.lay a) (Nat.le_trans (h.dep a) hn), shaped_of (h.lay b) (Nat.le_trans (h.dep b) hn), h.eqv]
  rfl
theorem eqB_tup (h : EncOk e n) (hn : n ≤ 63) (l m : List α) : eqB (.tup (l.map e)) (.tup (m.map e)) = some (decide (l = m)) := eqB_enc (enc_tup h) (by omega) rfl
theorem eqB_lst (h : EncOk e n) (hn : n ≤ 63) (l m : List α) : eqB (.lst (l.map e)) (.lst (m.map e)) = some (decide (l = m)) := eqB_enc (enc_lst h) (by omega) rfl
theorem eqB_tup0 (h : EncOk e n) (hn : n ≤ 63) (l : List α) : eqB (.tup (l.map e)) (.tup []) = some (decide (l = [])) := eqB_tup h hn l []
theorem eqB_lst0 (h : EncOk e n) (hn : n ≤ 63) (l : List α) : eqB (.lst (l.map e)) (.lst []) = some (decide (l = [])) := eqB_lst h hn l []
end
theorem enc_zt : EncOk (fun l : List Int => PI.D.tup (zL l)) 1 := enc_tup enc_int
theorem enc_zl : EncOk (fun l : List Int => PI.D.lst (zL l)) 1 := enc_lst enc_int
theorem eqT (l m : List Int) : eqB (.tup (zL l)) (.tup (zL m)) = some (decide (l = m)) := eqB_tup enc_int (by decide) l m
theorem eqL (l m : List Int) : eqB (.lst (zL l)) (.lst (zL m)) = some (decide (l = m)) := eqB_lst enc_int (by decide) l m
theorem eqT0 (l : List Int) : eqB (.tup (zL l)) (.tup []) = some (decide (l = [])) := eqB_tup enc_int (by decide) l []
theorem eqL0 (l : List Int) : eqB (.lst (zL l)) (.lst []) = some (decide (l = [])) := eqB_lst enc_int (by decide) l []
/-! ### places -/
theorem at_nat {α : Type} (l : List α) (i : Nat) : atI l (i : Int) = l[i]? := by
  unfold atI ixN
  rw [if_pos (by omega)]
  by_cases h : i < l.length
  · rw [if_pos (by omega)]
    simp
  · rw [if_neg (by omega), List.getElem?_eq_none (by omega)]
    rfl
theorem at_0 {α : Type} (l : List α) : atI l 0 = l[0]? := at_nat l 0
theorem at_1 {α : Type} (l : List α) : atI l 1 = l[1]? := at_nat l 1
theorem at_2 {α : Type} (l : List α) : atI l 2 = l[2]? := at_nat l 2
theorem at_last {α : Type} (l : List α) : atI l (-1) = l.getLast? := by
  unfold atI ixN
  rw [if_neg (by decide), List.getLast?_eq_getElem?]
  cases l with
  | nil => rfl
  | cons a l =>
    rw [if_pos (by simp only [List.length_cons]; omega)]
    have e : ((-1 : Int) + ((a :: l).length : Nat)).toNat = (a :: l).length - 1 := by simp only [List.length_cons]; omega
    rw [e]
    rfl
theorem cut_take {α : Type} {ds : List PI.D} (k : Nat) : cutD ds none (some (k : Int)) = ds.take k := by
  unfold cutD
  rw [HT.sIx_none, HT.sIx_nat, List.drop_zero, Nat.sub_zero]
  by_cases h : k ≤ ds.length
  · rw [Nat.min_eq_left h]
  · rw [Nat.min_eq_right (by omega), List.take_of_length_le (Nat.le_refl _), List.take_of_length_le (by omega)]
theorem cut_drop {ds : List PI.D} (k : Nat) : cutD ds (some (k : Int)) none = ds.drop k := by
  unfold cutD
  rw [HT.sIx_none, HT.sIx_nat]
  by_cases h : k ≤ ds.length
  · rw [Nat.min_eq_left h, List.take_of_length_le (by rw [List.length_drop]; omega)]
  · rw [Nat.min_eq_right (by omega), List.drop_of_length_le (Nat.le_refl _), List.drop_of_length_le (by omega)]
    exact List.take_nil
theorem cut_1 {ds : List PI.D} : cutD ds none (some 1) = ds.take 1 := cut_take (α := Int) 1
theorem cut1_ {ds : List PI.D} : cutD ds (some 1) none = ds.drop 1 := cut_drop 1
theorem zL_get (l : List Int) (i : Nat) : (zL l)[i]? = l[i]?.map PI.D.int := List.getElem?_map
theorem zL_len (l : List Int) : (zL l).length = l.length := List.length_map _
theorem zL_last (l : List Int) : (zL l).getLast? = l.getLast?.map PI.D.int := List.getLast?_map
theorem zL_app (l m : List Int) : zL l ++ zL m = zL (l ++ m) := List.map_append.symm
theorem zL_app1 (l : List Int) (x : Int) : zL l ++ [PI.D.int x] = zL (l ++ [x]) := by rw [← zL_app]; rfl
theorem zL_rev (l : List Int) : (zL l).reverse = zL l.reverse := List.map_reverse.symm
theorem zL_dropLast (l : List Int) : (zL l).dropLast = zL l.dropLast := (List.map_dropLast).symm
theorem zL_take (l : List Int) (k : Nat) : (zL l).take k = zL (l.take k) := List.map_take.symm
theorem zL_drop (l : List Int) (k : Nat) : (zL l).drop k = zL (l.drop k) := List.map_drop.symm
end PI

namespace PI
open PySem PySem.Spec PyProof.Rows L2
@[simp] theorem s_e1 (f : D → Option W) (a : Opd) (env : PI.Env) : e1 f a env = ((a.run env).bind fun r => (r.1.get r.2).bind fun d => (f d).bind fun w => some (w, r.2)) := id rfl
@[simp] theorem s_e2 (f : D → D → Option W) (a b : Opd) (env : PI.Env) : e2 f a b env = ((a.run env).bind fun r => (b.run r.2).bind fun s => (r.1.get s.2).bind fun d => (s.1.get s.2).bind fun e => (f d e).bind fun w => some (w, s.2)) := id rfl
@[simp] theorem s_eN (f : List D → Option W) (as : List Opd) (env : PI.Env) : eN f as env = ((runs as env).bind fun r => (gets r.2 r.1).bind fun ds => (f ds).bind fun w => some (w, r.2)) := id rfl
@[simp] theorem s_eVar (i : Nat) (env : PI.Env) : eVar i env = (match env[i]? with
  | some (some (true, d)) => some ((false, d), env.set i (some (false, d)))
  | some (some (false, d)) => some ((false, d), env)
  | _ => none) := id rfl
@[simp] theorem s_eC (d : D) (env : PI.Env) : eC d env = (some ((false, d), env)) := id rfl
@[simp] theorem s_eAnd (f g : EF) (env : PI.Env) : eAnd f g env = ((f env).bind fun r => match r.1.2 with
  | .bl true => g r.2
  | .bl false => some ((false, .bl false), r.2)
  | _ => none) := id rfl
@[simp] theorem s_eOr (f g : EF) (env : PI.Env) : eOr f g env = ((f env).bind fun r => match r.1.2 with
  | .bl true => some ((false, .bl true), r.2)
  | .bl false => g r.2
  | _ => none) := id rfl
@[simp] theorem s_eNot (f : EF) (env : PI.Env) : eNot f env = ((f env).bind fun r => match r.1.2 with
  | .bl b => some ((false, .bl (!b)), r.2)
  | _ => none) := id rfl
@[simp] theorem s_eIf (c f g : EF) (env : PI.Env) : eIf c f g env = ((c env).bind fun r => match r.1.2 with
  | .bl true => f r.2
  | .bl false => g r.2
  | _ => none) := id rfl
@[simp] theorem s_eTup (fs : List EF) (env : PI.Env) : eTup fs env = ((vals fs env).bind fun r => some ((false, .tup r.1), r.2)) := id rfl
@[simp] theorem s_eLst (fs : List EF) (env : PI.Env) : eLst fs env = ((vals fs env).bind fun r => some ((true, .lst r.1), r.2)) := id rfl
@[simp] theorem s_eCh (f g : D → D → Option W) (a b c : Opd) (env : PI.Env) : eCh f g a b c env = ((a.run env).bind fun r => (b.run r.2).bind fun s => (r.1.get s.2).bind fun d => (s.1.get s.2).bind fun e => (f d e).bind fun w => match w with
  | (false, .bl true) => (c.run s.2).bind fun t => (s.1.get t.2).bind fun e => (t.1.get t.2).bind fun k => (g e k).bind fun w => some (w, t.2)
  | (false, .bl false) => some ((false, .bl false), s.2)
  | _ => none) := id rfl
@[simp] theorem s_eSl (f : D → Option Int → Option Int → Option W) (a : Opd) (lo hi : Option EF) (env : PI.Env) : eSl f a lo hi env = ((a.run env).bind fun r => (prt lo r.2).bind fun s => (prt hi s.2).bind fun t => (r.1.get t.2).bind fun d => (f d s.1 t.1).bind fun w => some (w, t.2)) := id rfl
@[simp] theorem s_ePop (i : Nat) (env : PI.Env) : ePop i env = (match env[i]? with
  | some (some (true, .lst ds)) => match ds[ds.length - 1]? with
    | some d => some ((false, d), env.set i (some (true, .lst ds.dropLast)))
    | none => none
  | _ => none) := id rfl
@[simp] theorem s_ePopAt (i : Nat) (f : EF) (env : PI.Env) : ePopAt i f env = (match isOwn env i with
  | true => (f env).bind fun r => match r.1.2 with
    | .int k => if -(2 ^ 63) ≤ k ∧ k < 2 ^ 63 then (match r.2[i]? with
      | some (some (true, .lst ds)) => (seqIndex? k ds.length).bind fun j => (ds[j]?).bind fun d => some ((false, d), r.2.set i (some (true, .lst (ds.eraseIdx j))))
      | _ => none) else none
    | _ => none
  | false => none) := id rfl
@[simp] theorem s_sNext (env : PI.Env) : sNext env = (some (.nx, env)) := id rfl
@[simp] theorem s_sSeq (f g : SF) (env : PI.Env) : sSeq f g env = ((f env).bind fun r => match r.1 with
  | .nx => g r.2
  | c => some (c, r.2)) := id rfl
@[simp] theorem s_sBrk (env : PI.Env) : sBrk env = (some (.bk, env)) := id rfl
@[simp] theorem s_sCnt (env : PI.Env) : sCnt env = (some (.ct, env)) := id rfl
@[simp] theorem s_sNever (env : PI.Env) : sNever env = (none) := id rfl
@[simp] theorem s_sExp (f : EF) (env : PI.Env) : sExp f env = ((f env).bind fun r => some (.nx, r.2)) := id rfl
@[simp] theorem s_sRet (f : EF) (env : PI.Env) : sRet f env = ((f env).bind fun r => some (.rt r.1, r.2)) := id rfl
@[simp] theorem s_sRetV (P : List Nat) (i : Nat) (env : PI.Env) : sRetV P i env = (match env[i]? with
  | some (some (true, d)) => match P.contains i with
    | false => some (.rt (true, d), env.set i none)
    | true => none
  | some (some (false, d)) => some (.rt (false, d), env)
  | _ => none) := id rfl
@[simp] theorem s_sRetN (env : PI.Env) : sRetN env = (some (.rt (false, .non), env)) := id rfl
@[simp] theorem s_sIf (c : EF) (f g : SF) (env : PI.Env) : sIf c f g env = ((c env).bind fun r => match r.1.2 with
  | .bl true => f r.2
  | .bl false => g r.2
  | _ => none) := id rfl
@[simp] theorem s_sAsg (P : List Nat) (i : Nat) (f : EF) (env : PI.Env) : sAsg P i f env = (match P.contains i with
  | true => none
  | false => (f env).bind fun r => some (.nx, r.2.set i (some r.1))) := id rfl
@[simp] theorem s_sAug (P : List Nat) (i : Nat) (op : Int → Int → Int) (f : EF) (env : PI.Env) : sAug P i op f env = (match P.contains i with
  | true => none
  | false => match env[i]? with
    | some (some (false, .int a)) => (f env).bind fun r => match r.1.2 with
      | .int b => some (.nx, r.2.set i (some (false, .int (op a b))))
      | _ => none
    | _ => none) := id rfl
@[simp] theorem s_sApp (i : Nat) (f : EF) (env : PI.Env) : sApp i f env = (match isOwn env i with
  | true => (f env).bind fun r => match r.2[i]? with
    | some (some (true, .lst ds)) => if ds.length < 1000000 then some (.nx, r.2.set i (some (true, .lst (ds ++ [r.1.2])))) else none
    | _ => none
  | false => none) := id rfl
@[simp] theorem s_sExt (i : Nat) (o : Opd) (env : PI.Env) : sExt i o env = (match isOwn env i with
  | true => (o.run env).bind fun r => (r.1.get r.2).bind fun d => match d with
    | .lst es => (match r.2[i]? with
      | some (some (true, .lst ds)) => if ds.length + es.length < 1000000 then some (.nx, r.2.set i (some (true, .lst (ds ++ es)))) else none
      | _ => none)
    | _ => none
  | false => none) := id rfl
@[simp] theorem s_sIns (i : Nat) (k f : EF) (env : PI.Env) : sIns i k f env = (match isOwn env i with
  | true => (k env).bind fun r => (f r.2).bind fun s => match r.1.2 with
    | .int j => (match s.2[i]? with
      | some (some (true, .lst ds)) => if ds.length < 1000000 ∧ 0 ≤ j ∧ j < 1000000 then some (.nx, s.2.set i (some (true, .lst (ds.take j.toNat ++ [s.1.2] ++ ds.drop j.toNat)))) else none
      | _ => none)
    | _ => none
  | false => none) := id rfl
@[simp] theorem s_sSet (i : Nat) (k f : EF) (env : PI.Env) : sSet i k f env = ((f env).bind fun r => match isOwn r.2 i with
  | true => (k r.2).bind fun s => match s.1.2 with
    | .int j => (match s.2[i]? with
      | some (some (true, .lst ds)) => (ixN ds.length j).bind fun m => some (.nx, s.2.set i (some (true, .lst (ds.set m r.1.2))))
      | _ => none)
    | _ => none
  | false => none) := id rfl
@[simp] theorem s_tName (i : Nat) (d : PI.D) (env : PI.Env) : tName i d env = (some (env.set i (some (false, d)))) := id rfl
@[simp] theorem s_sTgt (P : List Nat) (js : List Nat) (T : TF) (f : EF) (env : PI.Env) : sTgt P js T f env = (match js.any fun j => P.contains j with
  | true => none
  | false => (f env).bind fun r => (T r.1.2 r.2).bind fun e => some (.nx, e)) := id rfl
@[simp] theorem s_sPar2 (P : List Nat) (i j : Nat) (f g : EF) (env : PI.Env) : sPar2 P i j f g env = (match P.contains i || P.contains j with
  | true => none
  | false => (valsW [f, g] env).bind fun r => match r.1 with
    | [u, v] => some (.nx, (r.2.set i (some u)).set j (some v))
    | _ => none) := id rfl
@[simp] theorem s_sPar3 (P : List Nat) (i j k : Nat) (f g h : EF) (env : PI.Env) : sPar3 P i j k f g h env = (match P.contains i || (P.contains j || P.contains k) with
  | true => none
  | false => (valsW [f, g, h] env).bind fun r => match r.1 with
    | [u, v, x] => some (.nx, ((r.2.set i (some u)).set j (some v)).set k (some x))
    | _ => none) := id rfl
@[simp] theorem s_srcL (f : EF) (env : PI.Env) : srcL f env = ((f env).bind fun r => match r.1.2 with
  | .lst ds => some (ds, r.2)
  | .frz ds => some (ds, r.2)
  | _ => none) := id rfl
@[simp] theorem s_srcT (f : EF) (env : PI.Env) : srcT f env = ((f env).bind fun r => match r.1.2 with
  | .tup ds => some (ds, r.2)
  | _ => none) := id rfl
@[simp] theorem s_srcR1 (f : EF) (env : PI.Env) : srcR1 f env = ((f env).bind fun r => match r.1.2 with
  | .int n => if -(2 ^ 62) ≤ n ∧ n < 2 ^ 62 then some (rangeD 0 n.toNat, r.2) else none
  | _ => none) := id rfl
@[simp] theorem s_srcR2 (f g : EF) (env : PI.Env) : srcR2 f g env = ((f env).bind fun r => (g r.2).bind fun s => match r.1.2 with
  | .int a => (match s.1.2 with
    | .int b => if (-(2 ^ 62) ≤ a ∧ a < 2 ^ 62) ∧ -(2 ^ 62) ≤ b ∧ b < 2 ^ 62 then some (rangeD a (b - a).toNat, s.2) else none
    | _ => none)
  | _ => none) := id rfl
@[simp] theorem s_sFor (P js : List Nat) (src : SrcF) (T : TF) (f : SF) (env : PI.Env) : sFor P js src T f env = (match js.any fun j => P.contains j with
  | true => none
  | false => (src env).bind fun r => fl T f r.1 r.2) := id rfl
@[simp] theorem s_srcC (src : SrcF) (env : PI.Env) : srcC src env = ((src env).bind fun r => some (r.1, r.2, none)) := id rfl
@[simp] theorem s_srcH (i : Nat) (env : PI.Env) : srcH i env = (match env[i]? with
  | some (some (true, .lst ds)) => some (ds, env.set i none, some (i, ds))
  | some (some (false, .lst ds)) => some (ds, env, none)
  | _ => none) := id rfl
@[simp] theorem s_eLc (src : SrcC) (T : TF) (c f : EF) (vs : List Nat) (env : PI.Env) : eLc src T c f vs env = ((src env).bind fun r => if r.1.length < 1000000 then (lcl T c f vs r.1 r.2.1).bind fun t => some ((true, .lst t.1), undoE t.2 r.2.2) else none) := id rfl
@[simp] theorem s_eYes (env : PI.Env) : eYes env = (some ((false, .bl true), env)) := id rfl
@[simp] theorem s_runB (modes : List Bool) (n : Nat) (body : SF) (ds : List PI.D) : runB modes n body ds = ((body (envOf modes ds ++ List.replicate (n - modes.length) none)).bind fun r => match r.1 with
  | .rt w => (fins r.2 (tp 0 modes)).bind fun o => some (w, o)
  | .nx => (fins r.2 (tp 0 modes)).bind fun o => some ((false, .non), o)
  | _ => none) := id rfl
@[simp] theorem s_eCall (modes : List Bool) (f : Cal) (as : List Opd) (env : PI.Env) : eCall modes f as env = ((runs as env).bind fun r => callO modes f r.1 r.2) := id rfl
@[simp] theorem s_eCallK (modes : List Bool) (f : Cal) (as : List Opd) (is : List Nat) (env : PI.Env) : eCallK modes f as is env = ((runs as env).bind fun r => callO modes f (pick is r.1) r.2) := id rfl
@[simp] theorem s_srcA (f : EF) (env : PI.Env) : srcA f env = ((f env).bind fun r => match r.1.2 with
  | .lst ds => some (ds, r.2)
  | .frz ds => some (ds, r.2)
  | .tup ds => some (ds, r.2)
  | _ => none) := id rfl
@[simp] theorem s_srcN (i : Nat) (env : PI.Env) : srcN i env = (match env[i]? with
  | some (some (true, .lst ds)) => some (ds, env.set i none, some (i, ds))
  | some (some (false, .lst ds)) => some (ds, env, none)
  | some (some (false, .frz ds)) => some (ds, env, none)
  | some (some (false, .tup ds)) => some (ds, env, none)
  | _ => none) := id rfl
section
variable {f g : EF} {fs : List EF} {a : Opd} {as : List Opd} {env e : PI.Env} {i j : Nat} {d : PI.D} {ds es : List PI.D} {o : Op} {os : List Op} {m n : Int} {b c : Bool} {x y : Str} {T : TF} {U : List PI.D → PI.Env → Option PI.Env} {ms : List Bool}
@[simp] theorem h_runex : (Opd.ex f).run env = (f env).bind fun r => some (.val r.1.2, r.2) := id rfl
@[simp] theorem h_runsl : (Opd.sl i).run env = (match env[i]? with | some (some _) => some (.slot i, env) | _ => none) := id rfl
@[simp] theorem h_getv : Op.get env (.val d) = some d := id rfl
@[simp] theorem h_gets : Op.get env (.slot i) = (match env[i]? with | some (some p) => some p.2 | _ => none) := id rfl
@[simp] theorem h_runs0 : runs [] env = some ([], env) := id rfl
@[simp] theorem h_runs1 : runs (a :: as) env = (a.run env).bind fun r => (runs as r.2).bind fun s => some (r.1 :: s.1, s.2) := id rfl
@[simp] theorem h_gets0 : gets env [] = some [] := id rfl
@[simp] theorem h_gets1 : gets env (o :: os) = (o.get env).bind fun d => (gets env os).bind fun ds => some (d :: ds) := id rfl
@[simp] theorem h_vals0 : vals [] env = some ([], env) := id rfl
@[simp] theorem h_vals1 : vals (f :: fs) env = (f env).bind fun r => (vals fs r.2).bind fun s => some (r.1.2 :: s.1, s.2) := id rfl
@[simp] theorem h_valsW0 : valsW [] env = some ([], env) := id rfl
@[simp] theorem h_valsW1 : valsW (f :: fs) env = (f env).bind fun r => (valsW fs r.2).bind fun s => some (r.1 :: s.1, s.2) := id rfl
@[simp] theorem h_prt0 : prt none env = some (none, env) := id rfl
@[simp] theorem h_prt1 : prt (some f) env = (f env).bind fun r => match r.1.2 with | .int i => some (some i, r.2) | _ => none := id rfl
@[simp] theorem h_tsNil : tsNil [] env = some env := id rfl
@[simp] theorem h_tsCons : tsCons T U (d :: ds) env = (T d env).bind fun e => U ds e := id rfl
@[simp] theorem h_tTpl {k : Nat} : tTpl k U (.tup ds) env = (if ds.length = k then U ds env else none) := id rfl
@[simp] theorem h_envOf0 : envOf [] ds = [] := by cases ds <;> rfl
@[simp] theorem h_envOf1 : envOf (b :: ms) (d :: ds) = some (b, d) :: envOf ms ds := id rfl
@[simp] theorem h_tp0 : tp i [] = [] := id rfl
@[simp] theorem h_tpt : tp i (true :: ms) = i :: tp (i + 1) ms := id rfl
@[simp] theorem h_tpf : tp i (false :: ms) = tp (i + 1) ms := id rfl
@[simp] theorem h_fins0 : fins env [] = some [] := id rfl
@[simp] theorem h_fins1 {is : List Nat} : fins env (i :: is) = (match env[i]? with | some (some (true, d)) => (fins env is).bind fun ds => some (d :: ds) | _ => none) := id rfl
@[simp] theorem h_okv : okOp env false (.val d) = true := id rfl
@[simp] theorem h_oks : okOp env true (.slot i) = isOwn env i := id rfl
@[simp] theorem h_isOwn : isOwn env i = (match env[i]? with | some (some (true, .lst _)) => true | _ => false) := id rfl
@[simp] theorem h_okOps0 : okOps env [] [] = true := id rfl
@[simp] theorem h_okOps1 : okOps env (b :: ms) (o :: os) = (okOp env b o && okOps env ms os) := id rfl
@[simp] theorem h_sl0 : slotsOf [] os = [] := by cases os <;> rfl
@[simp] theorem h_slt : slotsOf (true :: ms) (.slot i :: os) = i :: slotsOf ms os := id rfl
@[simp] theorem h_slf : slotsOf (false :: ms) (o :: os) = slotsOf ms os := by cases o <;> rfl
@[simp] theorem h_nd0 : nodupB [] = true := id rfl
@[simp] theorem h_nd1 {is : List Nat} : nodupB (i :: is) = (!is.contains i && nodupB is) := id rfl
@[simp] theorem h_wb0 : wback [] [] env = some env := id rfl
@[simp] theorem h_wb1 {is : List Nat} : wback (i :: is) (d :: ds) env = (wback is ds env).bind fun e => some (e.set i (some (true, d))) := id rfl
@[simp] theorem h_callO {F : Cal} : callO ms F os env = (match okOps env ms os && nodupB (slotsOf ms os) with | true => (gets env os).bind fun ds => (F ds).bind fun r => (wback (slotsOf ms os) r.2 env).bind fun e => some (r.1, e) | false => none) := id rfl
@[simp] theorem h_wipe0 : wipeE env [] = env := id rfl
@[simp] theorem h_wipe1 {is : List Nat} : wipeE env (i :: is) = (wipeE env is).set i none := id rfl
@[simp] theorem h_rest0 : restE env e [] = e := id rfl
@[simp] theorem h_rest1 {is : List Nat} : restE env e (i :: is) = (restE env e is).set i (env[i]?.getD none) := id rfl
@[simp] theorem h_undo0 : undoE env none = env := id rfl
@[simp] theorem h_undo1 {p : Nat × List PI.D} : undoE env (some p) = env.set p.1 (some (true, .lst p.2)) := id rfl
@[simp] theorem h_ownAt : ownAt env i = (match env[i]? with | some (some (true, _)) => true | _ => false) := id rfl
@[simp] theorem h_noOwn {is : List Nat} : noOwn env is = is.all fun v => !ownAt env v := id rfl
@[simp] theorem h_fl0 {h : SF} : fl T h [] env = some (.nx, env) := id rfl
@[simp] theorem h_lcl0 {is : List Nat} : lcl T f g is [] env = some ([], env) := id rfl
@[simp] theorem q_addi : addD (.int m) (.int n) = some (false, .int (m + n)) := id rfl
@[simp] theorem q_adds : addD (.str x) (.str y) = if x.length + y.length ≤ 10000000 then some (false, .str (x ++ y)) else none := id rfl
@[simp] theorem q_addt : addD (.tup ds) (.tup es) = if ds.length + es.length ≤ 1000000 then some (false, .tup (ds ++ es)) else none := id rfl
@[simp] theorem q_addl : addD (.lst ds) (.lst es) = if ds.length + es.length ≤ 1000000 then some (true, .lst (ds ++ es)) else none := id rfl
@[simp] theorem q_sub : subD (.int m) (.int n) = some (false, .int (m - n)) := id rfl
@[simp] theorem q_mul : mulD (.int m) (.int n) = if mulB m n then some (false, .int (m * n)) else none := id rfl
@[simp] theorem q_fdiv : fdivD (.int m) (.int n) = if divB m n then some (false, .int (m / n)) else none := id rfl
@[simp] theorem q_mod : modD (.int m) (.int n) = if modB m n then some (false, .int (m % n)) else none := id rfl
@[simp] theorem q_pow : powD (.int m) (.int n) = if powB m n then some (false, .int (m ^ n.toNat)) else none := id rfl
@[simp] theorem q_neg : negD (.int m) = some (false, .int (-m)) := id rfl
@[simp] theorem q_lt : ltD (.int m) (.int n) = some (false, .bl (decide (m < n))) := id rfl
@[simp] theorem q_le : leD (.int m) (.int n) = some (false, .bl (decide (m ≤ n))) := id rfl
@[simp] theorem q_gt : gtD (.int m) (.int n) = some (false, .bl (decide (n < m))) := id rfl
@[simp] theorem q_ge : geD (.int m) (.int n) = some (false, .bl (decide (n ≤ m))) := id rfl
@[simp] theorem q_eqi : eqD (.int m) (.int n) = some (false, .bl (m == n)) := id rfl
@[simp] theorem q_eqb : eqD (.bl b) (.bl c) = some (false, .bl (b == c)) := id rfl
@[simp] theorem q_eqs : eqD (.str x) (.str y) = some (false, .bl (decide (x = y))) := id rfl
@[simp] theorem q_nei : neD (.int m) (.int n) = some (false, .bl (!(m == n))) := id rfl
@[simp] theorem q_neb : neD (.bl b) (.bl c) = some (false, .bl (!(b == c))) := id rfl
@[simp] theorem q_nes : neD (.str x) (.str y) = some (false, .bl (!decide (x = y))) := id rfl
theorem q_eq : eqD d d' = (eqB d d').bind fun b => some (false, .bl b) := id rfl
theorem q_ne : neD d d' = (eqB d d').bind fun b => some (false, .bl (!b)) := id rfl
@[simp] theorem q_eqT {l k : List Int} : eqD (.tup (zL l)) (.tup (zL k)) = some (false, .bl (decide (l = k))) := by rw [q_eq, eqT]; rfl
@[simp] theorem q_eqL {l k : List Int} : eqD (.lst (zL l)) (.lst (zL k)) = some (false, .bl (decide (l = k))) := by rw [q_eq, eqL]; rfl
@[simp] theorem q_eqT0 {l : List Int} : eqD (.tup (zL l)) (.tup []) = some (false, .bl (decide (l = []))) := by rw [q_eq, eqT0]; rfl
@[simp] theorem q_eqL0 {l : List Int} : eqD (.lst (zL l)) (.lst []) = some (false, .bl (decide (l = []))) := by rw [q_eq, eqL0]; rfl
@[simp] theorem q_neT {l k : List Int} : neD (.tup (zL l)) (.tup (zL k)) = some (false, .bl (!decide (l = k))) := by rw [q_ne, eqT]; rfl
@[simp] theorem q_neL {l k : List Int} : neD (.lst (zL l)) (.lst (zL k)) = some (false, .bl (!decide (l = k))) := by rw [q_ne, eqL]; rfl
@[simp] theorem q_neT0 {l : List Int} : neD (.tup (zL l)) (.tup []) = some (false, .bl (!decide (l = []))) := by rw [q_ne, eqT0]; rfl
@[simp] theorem q_neL0 {l : List Int} : neD (.lst (zL l)) (.lst []) = some (false, .bl (!decide (l = []))) := by rw [q_ne, eqL0]; rfl
@[simp] theorem q_eq00 : eqD (.lst []) (.lst []) = some (false, .bl true) := q_eqL0 (l := [])
@[simp] theorem q_ne00 : neD (.lst []) (.lst []) = some (false, .bl false) := q_neL0 (l := [])
@[simp] theorem q_eq00t : eqD (.tup []) (.tup []) = some (false, .bl true) := q_eqT0 (l := [])
@[simp] theorem q_ne00t : neD (.tup []) (.tup []) = some (false, .bl false) := q_neT0 (l := [])
@[simp] theorem q_seqt : seqD (.tup ds) = some ds := id rfl
@[simp] theorem q_seql : seqD (.lst ds) = some ds := id rfl
@[simp] theorem q_seqf : seqD (.frz ds) = some ds := id rfl
@[simp] theorem q_ixt : ixD (.tup ds) (.int m) = (atI ds m).bind fun e => some (false, e) := id rfl
@[simp] theorem q_ixl : ixD (.lst ds) (.int m) = (atI ds m).bind fun e => some (false, e) := id rfl
@[simp] theorem q_ixf : ixD (.frz ds) (.int m) = (atI ds m).bind fun e => some (false, e) := id rfl
@[simp] theorem q_slt {lo hi : Option Int} : slD (.tup ds) lo hi = some (false, .tup (cutD ds lo hi)) := id rfl
@[simp] theorem q_sll {lo hi : Option Int} : slD (.lst ds) lo hi = some (true, .lst (cutD ds lo hi)) := id rfl
@[simp] theorem q_slf {lo hi : Option Int} : slD (.frz ds) lo hi = some (true, .lst (cutD ds lo hi)) := id rfl
@[simp] theorem q_rev : revD (.lst ds) = some (true, .lst ds.reverse) := id rfl
@[simp] theorem q_c1 {F : PI.D → Option W} : c1 F [d] = F d := id rfl
@[simp] theorem q_c2 {F : PI.D → PI.D → Option W} {d' : PI.D} : c2 F [d, d'] = F d d' := id rfl
@[simp] theorem q_lent : lenD (.tup ds) = some (false, .int ds.length) := id rfl
@[simp] theorem q_lenl : lenD (.lst ds) = some (false, .int ds.length) := id rfl
@[simp] theorem q_lenf : lenD (.frz ds) = some (false, .int ds.length) := id rfl
@[simp] theorem q_abs : absD (.int m) = some (false, .int (if m < 0 then -m else m)) := id rfl
@[simp] theorem q_max : max2D (.int m) (.int n) = some (false, .int (if n > m then n else m)) := id rfl
@[simp] theorem q_min : min2D (.int m) (.int n) = some (false, .int (if n < m then n else m)) := id rfl
@[simp] theorem q_inti : intD (.int m) = some (false, .int m) := id rfl
@[simp] theorem q_intb : intD (.bl b) = some (false, .int (if b then 1 else 0)) := id rfl
@[simp] theorem q_listt : listD (.tup ds) = some (true, .lst ds) := id rfl
@[simp] theorem q_listl : listD (.lst ds) = some (true, .lst ds) := id rfl
@[simp] theorem q_tupt : tupleD (.tup ds) = some (false, .tup ds) := id rfl
@[simp] theorem q_tupl : tupleD (.lst ds) = some (false, .tup ds) := id rfl
@[simp] theorem q_isn1 : isD .non .non = some (false, .bl true) := id rfl
@[simp] theorem q_isn2 : isD (.int m) .non = some (false, .bl false) := id rfl
@[simp] theorem q_isn3 : isD (.bl b) .non = some (false, .bl false) := id rfl
@[simp] theorem q_isn4 : isD (.tup ds) .non = some (false, .bl false) := id rfl
@[simp] theorem q_isn5 : isD (.lst ds) .non = some (false, .bl false) := id rfl
@[simp] theorem q_isn6 : isD (.str x) .non = some (false, .bl false) := id rfl
@[simp] theorem q_isnt1 : isntD .non .non = some (false, .bl false) := id rfl
@[simp] theorem q_isnt2 : isntD (.int m) .non = some (false, .bl true) := id rfl
@[simp] theorem q_isnt3 : isntD (.bl b) .non = some (false, .bl true) := id rfl
@[simp] theorem q_isnt4 : isntD (.tup ds) .non = some (false, .bl true) := id rfl
@[simp] theorem q_isnt5 : isntD (.lst ds) .non = some (false, .bl true) := id rfl
@[simp] theorem q_isi {k : Kd} : isiD k d = (tagOf d).bind fun t => some (false, .bl (isKT k t)) := id rfl
@[simp] theorem q_tag0 : tagOf .non = some .non := id rfl
@[simp] theorem q_tag1 : tagOf (.bl b) = some .bool := id rfl
@[simp] theorem q_tag2 : tagOf (.int m) = some .int := id rfl
@[simp] theorem q_tag3 : tagOf (.str x) = some .str := id rfl
@[simp] theorem q_tag4 : tagOf (.tup ds) = some .tuple := id rfl
@[simp] theorem q_tag5 : tagOf (.lst ds) = some .list := id rfl
@[simp] theorem q_tag6 : tagOf (.frz ds) = some .list := id rfl
@[simp] theorem q_toInts {l : List Int} : toInts (zL l) = some l := toInts_map l
@[simp] theorem q_inF {l : List Int} : inD false (.int m) (.tup (zL l)) = some (false, .bl (l.contains m)) := by
  show ((toInts (zL l)).bind _) = _
  rw [q_toInts]; rfl
@[simp] theorem q_inT {l : List Int} : inD true (.int m) (.tup (zL l)) = some (false, .bl (!l.contains m)) := by
  show ((toInts (zL l)).bind _) = _
  rw [q_toInts]; rfl
@[simp] theorem q_inFl {l : List Int} : inD false (.int m) (.lst (zL l)) = some (false, .bl (l.contains m)) := by
  show ((toInts (zL l)).bind _) = _
  rw [q_toInts]; rfl
@[simp] theorem q_inTl {l : List Int} : inD true (.int m) (.lst (zL l)) = some (false, .bl (!l.contains m)) := by
  show ((toInts (zL l)).bind _) = _
  rw [q_toInts]; rfl
@[simp] theorem q_sortT {l : List Int} : sortedD (.tup (zL l)) = some (true, .lst (zL (isort l))) := by
  show ((toInts (zL l)).bind _) = _
  rw [q_toInts]; rfl
@[simp] theorem q_sortL {l : List Int} : sortedD (.lst (zL l)) = some (true, .lst (zL (isort l))) := by
  show ((toInts (zL l)).bind _) = _
  rw [q_toInts]; rfl
end
@[simp] theorem z_len (l : List Int) : (zL l).length = l.length := zL_len l
@[simp] theorem z_nil : zL [] = [] := id rfl
@[simp] theorem z_app (l m : List Int) : zL l ++ zL m = zL (l ++ m) := zL_app l m
@[simp] theorem z_app1 (l : List Int) (x : Int) : zL l ++ [PI.D.int x] = zL (l ++ [x]) := zL_app1 l x
@[simp] theorem z_appc (l m : List Int) (x : Int) : zL l ++ PI.D.int x :: zL m = zL (l ++ x :: m) := zL_app l (x :: m)
@[simp] theorem z_rev (l : List Int) : (zL l).reverse = zL l.reverse := zL_rev l
@[simp] theorem z_dropLast (l : List Int) : (zL l).dropLast = zL l.dropLast := zL_dropLast l
@[simp] theorem z_take (l : List Int) (k : Nat) : (zL l).take k = zL (l.take k) := zL_take l k
@[simp] theorem z_drop (l : List Int) (k : Nat) : (zL l).drop k = zL (l.drop k) := zL_drop l k
@[simp] theorem z_get (l : List Int) (i : Nat) : (zL l)[i]? = l[i]?.map PI.D.int := zL_get l i
@[simp] theorem z_getE (l : List Int) (i : Nat) (h : i < (zL l).length) : (zL l)[i]'h = PI.D.int (l[i]'(by rw [zL_len] at h; exact h)) := by simp [zL]
@[simp] theorem z_last (l : List Int) : (zL l).getLast? = l.getLast?.map PI.D.int := zL_last l
@[simp] theorem z_atn (l : List PI.D) (i : Nat) : atI l (i : Int) = l[i]? := at_nat l i
@[simp] theorem z_at0 (l : List PI.D) : atI l 0 = l[0]? := at_0 l
@[simp] theorem z_at1 (l : List PI.D) : atI l 1 = l[1]? := at_1 l
@[simp] theorem z_at2 (l : List PI.D) : atI l 2 = l[2]? := at_2 l
@[simp] theorem z_atl (l : List PI.D) : atI l (-1) = l.getLast? := at_last l
@[simp] theorem z_cut1 (ds : List PI.D) : cutD ds none (some 1) = ds.take 1 := cut_1
@[simp] theorem z_cut2 (ds : List PI.D) : cutD ds (some 1) none = ds.drop 1 := cut1_
@[simp] theorem z_cutn (ds : List PI.D) (k : Nat) : cutD ds none (some (k : Int)) = ds.take k := cut_take (α := Int) k
@[simp] theorem z_cutd (ds : List PI.D) (k : Nat) : cutD ds (some (k : Int)) none = ds.drop k := cut_drop k
@[simp] theorem z_set (l : List Int) (i : Nat) (x : Int) : (zL l).set i (.int x) = zL (l.set i x) := (List.map_set).symm
theorem z_cons (x : Int) (l : List Int) : zL (x :: l) = .int x :: zL l := id rfl
theorem z_range (lo : Int) (n : Nat) : rangeD lo n = zL ((List.range n).map fun (i : Nat) => lo + (i : Int)) := by
  unfold rangeD zL
  rw [List.map_map]
  rfl
end PI

namespace PI
open PySem PySem.Spec PyProof.Rows L2
/-- a, b, .. = a tuple or a list of that length -/
def tTplA (n : Nat) (U : List PI.D → PI.Env → Option PI.Env) : TF := fun d env => match d with
  | .tup ds => if ds.length = n then U ds env else none
  | .lst ds => if ds.length = n then U ds env else none
  | .frz ds => if ds.length = n then U ds env else none
  | _ => none
def gTupA (K : PySem.W.Frag) (n : Nat) (t : TGs) : TG := fun v σ H Q => gTup K n t v σ H Q ∨ gUnl K n t v σ H Q
theorem pg_or {X : Cx} {tg : Expr} {g g' : TG} (h : PG X tg g) (h' : PG X tg g') : PG X tg fun v σ H Q => g v σ H Q ∨ g' v σ H Q := ⟨fun pins s σ H v u Q I r q => q.elim (fun q => h.run pins s σ H v u Q I r q) fun q => h'.run pins s σ H v u Q I r q⟩
theorem pg_tupA {X : Cx} {pos : Pos} {es : List Expr} {k : Nat} {t : TGs} {n : Nat} (hc : X.calm = true) (h : PGs X es t) (hn : (assignEach es X.env).length = n := by rfl) (hst : (assignEach es X.env).findIdx? (·.1) = none := by rfl) : PG X (.Tuple es k pos) (gTupA X.K n t) := pg_or (pg_tup hc h hn hst) (pg_unl hc h hn hst)
theorem tg_tupA {K : PySem.W.Frag} {n : Nat} {gs : TGs} {U : List PI.D → PI.Env → Option PI.Env} {ks : List Nat} (hs : TgsOk K gs U ks) : TgOk K (gTupA K n gs) (tTplA n U) ks := fun Z env σ H v d env' Q R r e q => by
  cases d with
  | tup ds =>
    dsimp only [tTplA] at e
    split at e
    · rename_i hn
      obtain ⟨a, vs, rfl, t, ra⟩ := r.tupD
      exact .inl ⟨a, vs, rfl, t.sq, by rw [ra.length]; exact hn, hs Z env σ H vs ds env' Q R ra e q⟩
    · cases e
  | lst ds =>
    dsimp only [tTplA] at e
    split at e
    · rename_i hn
      cases r with
      | lst h ns ra => exact .inr ⟨_, _, rfl, .inl (.inl h), by rw [ra.length]; exact hn, hs Z env σ H _ ds env' Q R ra e q⟩
    · cases e
  | frz ds =>
    dsimp only [tTplA] at e
    split at e
    · rename_i hn
      obtain ⟨a, vs, rfl, t, ra⟩ := r.frzD
      exact .inr ⟨a, vs, rfl, t.sq, by rw [ra.length]; exact hn, hs Z env σ H vs ds env' Q R ra e q⟩
    · cases e
  | _ => cases e
@[simp] theorem h_tTplA1 {k : Nat} {U : List PI.D → PI.Env → Option PI.Env} {ds : List PI.D} {env : PI.Env} : tTplA k U (.tup ds) env = (if ds.length = k then U ds env else none) := id rfl
@[simp] theorem h_tTplA2 {k : Nat} {U : List PI.D → PI.Env → Option PI.Env} {ds : List PI.D} {env : PI.Env} : tTplA k U (.lst ds) env = (if ds.length = k then U ds env else none) := id rfl
end PI

namespace Wk
open PySem PySem.Spec PyProof.Rows L2 PI
def top (i : Nat) : Stmt := PySem.Challenge.pw_bannedorders_k38_whole_sorted_exactly_by.main.body.getD i (.Pass ⟨0, 0, 0, 0⟩)
theorem bb_abs : bootBuiltins "abs" = some (.builtin "abs") := by decide +kernel
theorem bb_all : bootBuiltins "all" = some (.builtin "all") := by decide +kernel
theorem bb_bool : bootBuiltins "bool" = some (.type "bool") := by decide +kernel
theorem bb_int : bootBuiltins "int" = some (.type "int") := by decide +kernel
theorem bb_isinstance : bootBuiltins "isinstance" = some (.builtin "isinstance") := by decide +kernel
theorem bb_len : bootBuiltins "len" = some (.builtin "len") := by decide +kernel
theorem bb_list : bootBuiltins "list" = some (.type "list") := by decide +kernel
theorem bb_max : bootBuiltins "max" = some (.builtin "max") := by decide +kernel
theorem bb_min : bootBuiltins "min" = some (.builtin "min") := by decide +kernel
theorem bb_range : bootBuiltins "range" = some (.type "range") := by decide +kernel
theorem bb_sorted : bootBuiltins "sorted" = some (.builtin "sorted") := by decide +kernel
theorem bb_str : bootBuiltins "str" = some (.type "str") := by decide +kernel
theorem bb_tuple : bootBuiltins "tuple" = some (.type "tuple") := by decide +kernel
def T_LISTS : List (Str × PI.D) := [("stack", (.tup [(.tup [(.int 2), (.int 3), (.int 1)])])), ("popper", (.tup [(.tup [(.int 2), (.int 3), (.int 1)]), (.tup [(.int 3), (.int 1), (.int 2)])])), ("queues", (.tup [(.tup [(.int 3), (.int 2), (.int 1)])])), ("bubble", (.tup [(.tup [(.int 2), (.int 3), (.int 1)]), (.tup [(.int 3), (.int 2), (.int 1)])]))]
structure Md (w : World) (K : PySem.W.Frag) (mg : Str → Option Value) : Prop where
  f_abs : mg "abs" = none
  f_all : mg "all" = none
  f_bool : mg "bool" = none
  f_int : mg "int" = none
  f_isinstance : mg "isinstance" = none
  f_len : mg "len" = none
  f_list : mg "list" = none
  f_max : mg "max" = none
  f_min : mg "min" = none
  f_range : mg "range" = none
  f_sorted : mg "sorted" = none
  f_str : mg "str" = none
  f_tuple : mg "tuple" = none
  d__law_lists : ∃ (a : Addr) (fd : FuncData), DefAt K mg "_law_lists" (top 34) a fd
  d__law_well : ∃ (a : Addr) (fd : FuncData), DefAt K mg "_law_well" (top 27) a fd
  d__law_same : ∃ (a : Addr) (fd : FuncData), DefAt K mg "_law_same" (top 29) a fd
  d__law_orders : ∃ (a : Addr) (fd : FuncData), DefAt K mg "_law_orders" (top 32) a fd
  d__law_dip : ∃ (a : Addr) (fd : FuncData), DefAt K mg "_law_dip" (top 28) a fd
  d__law_shows : ∃ (a : Addr) (fd : FuncData), DefAt K mg "_law_shows" (top 30) a fd
  d__law_lets : ∃ (a : Addr) (fd : FuncData), DefAt K mg "_law_lets" (top 31) a fd
  d__law_let : ∃ (a : Addr) (fd : FuncData), DefAt K mg "_law_let" (top 35) a fd
  d_is_sorter : ∃ (a : Addr) (fd : FuncData), DefAt K mg "is_sorter" (top 12) a fd
  d_check_sorter : ∃ (a : Addr) (fd : FuncData), DefAt K mg "check_sorter" (top 13) a fd
  d_is_integer : ∃ (a : Addr) (fd : FuncData), DefAt K mg "is_integer" (top 5) a fd
  d_are_integers : ∃ (a : Addr) (fd : FuncData), DefAt K mg "are_integers" (top 6) a fd
  d_is_order_of : ∃ (a : Addr) (fd : FuncData), DefAt K mg "is_order_of" (top 7) a fd
  d_is_order : ∃ (a : Addr) (fd : FuncData), DefAt K mg "is_order" (top 9) a fd
  d_check_order : ∃ (a : Addr) (fd : FuncData), DefAt K mg "check_order" (top 14) a fd
  d_by_stack : ∃ (a : Addr) (fd : FuncData), DefAt K mg "by_stack" (top 15) a fd
  d_by_popper : ∃ (a : Addr) (fd : FuncData), DefAt K mg "by_popper" (top 16) a fd
  d_merged : ∃ (a : Addr) (fd : FuncData), DefAt K mg "merged" (top 17) a fd
  d_by_queues : ∃ (a : Addr) (fd : FuncData), DefAt K mg "by_queues" (top 18) a fd
  d_by_bubble : ∃ (a : Addr) (fd : FuncData), DefAt K mg "by_bubble" (top 19) a fd
  d_made_by : ∃ (a : Addr) (fd : FuncData), DefAt K mg "made_by" (top 20) a fd
  d_made : ∃ (a : Addr) (fd : FuncData), DefAt K mg "made" (top 23) a fd
  d_risen : ∃ (a : Addr) (fd : FuncData), DefAt K mg "risen" (top 21) a fd
  d_does_sort : ∃ (a : Addr) (fd : FuncData), DefAt K mg "does_sort" (top 22) a fd
  d_sorts : ∃ (a : Addr) (fd : FuncData), DefAt K mg "sorts" (top 24) a fd
  d__law_right : ∃ (a : Addr) (fd : FuncData), DefAt K mg "_law_right" (top 37) a fd
  d_list_of : ∃ (a : Addr) (fd : FuncData), DefAt K mg "list_of" (top 25) a fd
  d__law_exchanged : ∃ (a : Addr) (fd : FuncData), DefAt K mg "_law_exchanged" (top 36) a fd
  d_law : ∃ (a : Addr) (fd : FuncData), DefAt K mg "law" (top 38) a fd
  t_LISTS : KTab K w mg "LISTS" T_LISTS
section
variable {P : Program} {w : World} {K : PySem.W.Frag} {mg : Str → Option Value} {base : Heap}
theorem ss_nevers {X : Cx} {sts : List Stmt} {P : List Nat} : PSs X sts (SSr X.K P sNever) := ⟨fun pins s σ H D I h => by
  obtain ⟨Z, env, c, env2, R, e, q⟩ := h
  cases e⟩
abbrev N__law_lists : List Str := ["found"]
theorem sc__law_lists : FnScope N__law_lists [] (defScope (top 34)) := ⟨rfl, rfl, rfl, by decide +kernel, rfl, by decide +kernel, by decide +kernel⟩
def b__law_lists : SF := (sSeq (sAsg [] 0 (eLst [(eTup [(eC (.str "stack")), (eTup [(eTup [(eC (.int 2)), (eC (.int 3)), (eC (.int 1))])])]), (eTup [(eC (.str "popper")), (eTup [(eTup [(eC (.int 2)), (eC (.int 3)), (eC (.int 1))]), (eTup [(eC (.int 3)), (eC (.int 1)), (eC (.int 2))])])])]))
  (sRet (e2 addD (.sl 0) (.ex (eLst [(eTup [(eC (.str "queues")), (eTup [(eTup [(eC (.int 3)), (eC (.int 2)), (eC (.int 1))])])]), (eTup [(eC (.str "bubble")), (eTup [(eTup [(eC (.int 2)), (eC (.int 3)), (eC (.int 1))]), (eTup [(eC (.int 3)), (eC (.int 2)), (eC (.int 1))])])])])))))
def c__law_lists : Cal := runB [] 1 b__law_lists
theorem ok__law_lists (M : Md w K mg) : Ok P w K mg base 1 "_law_lists" (top 34) [] [] c__law_lists := by
  obtain ⟨a, fd, D⟩ := M.d__law_lists
  have nd := sc__law_lists.nd
  refine ok_of (N := N__law_lists) (k := 0) (body := b__law_lists) D sc__law_lists rfl (by decide) (fun cdv A outer s H E hr => ?_) (fun _ _ _ h => h)
  exact (ss_cons (ss_asg 0 (se_lst (sv_cons (se_tup (sv_cons se_str (sv_cons (se_tup (sv_cons (se_tup (sv_cons se_int (sv_cons se_int (sv_cons se_int sv_nil)))) sv_nil)) sv_nil))) (sv_cons (se_tup (sv_cons se_str (sv_cons (se_tup (sv_cons (se_tup (sv_cons se_int (sv_cons se_int (sv_cons se_int sv_nil)))) (sv_cons (se_tup (sv_cons se_int (sv_cons se_int (sv_cons se_int sv_nil)))) sv_nil))) sv_nil))) sv_nil))) nd)
  (ss_one (ss_ret (se_op op_addD p_addD (so_var 0) (se_lst (sv_cons (se_tup (sv_cons se_str (sv_cons (se_tup (sv_cons (se_tup (sv_cons se_int (sv_cons se_int (sv_cons se_int sv_nil)))) sv_nil)) sv_nil))) (sv_cons (se_tup (sv_cons se_str (sv_cons (se_tup (sv_cons (se_tup (sv_cons se_int (sv_cons se_int (sv_cons se_int sv_nil)))) (sv_cons (se_tup (sv_cons se_int (sv_cons se_int (sv_cons se_int sv_nil)))) sv_nil))) sv_nil))) sv_nil)))))))
abbrev N__law_well : List Str := ["script", "place", "cell"]
theorem sc__law_well : FnScope N__law_well ["script", "place"] (defScope (top 27)) := ⟨rfl, rfl, rfl, by decide +kernel, rfl, by decide +kernel, by decide +kernel⟩
def b__law_well : SF := (sSeq (sAsg [] 2 (eIf (e2 ltD (.sl 1) (.ex (eN (c1 lenD) [(.sl 0)]))) (e2 ixD (.sl 0) (.sl 1)) (e2 addD (.ex (e2 mulD (.sl 1) (.ex (eC (.int 7919))))) (.ex (e2 mulD (.ex (eN (c1 lenD) [(.sl 0)])) (.ex (eC (.int 104729))))))))
  (sRet (eLst [(eN (c2 max2D) [(.ex (eC (.int 0))), (.ex (e2 subD (.ex (eN (c1 absD) [(.sl 2)])) (.ex (e2 powD (.ex (eC (.int 10))) (.ex (eC (.int 18)))))))]), (e2 modD (.ex (eN (c1 intD) [(.ex (e2 addD (.ex (e2 addD (.ex (e2 mulD (.sl 2) (.ex (eC (.int 48611))))) (.ex (e2 mulD (.sl 1) (.ex (eC (.int 6700417))))))) (.ex (eC (.int 31337)))))])) (.ex (e2 addD (.ex (e2 powD (.ex (eC (.int 10))) (.ex (eC (.int 24))))) (.ex (eC (.int 7)))))), (eC (.int 0))])))
def c__law_well : Cal := runB [false, false] 3 b__law_well
theorem ok__law_well (M : Md w K mg) : Ok P w K mg base 1 "_law_well" (top 27) ["script", "place"] [false, false] c__law_well := by
  obtain ⟨a, fd, D⟩ := M.d__law_well
  have nd := sc__law_well.nd
  refine ok_of (N := N__law_well) (k := 0) (body := b__law_well) D sc__law_well rfl (by decide) (fun cdv A outer s H E hr => ?_) (fun _ _ _ h => h)
  exact (ss_cons (ss_asg 2 (se_if (st_cmp op_lt p_ltD (so_var 1) (se_callB call_len p_lenD M.f_len bb_len (sa_cons (so_var 0) sa_nil))) (se_ix ix_A p_ixD (so_var 0) (so_var 1)) (se_op op_addD p_addD (se_op op_mulX p_mulD (so_var 1) se_int) (se_op op_mulX p_mulD (se_callB call_len p_lenD M.f_len bb_len (sa_cons (so_var 0) sa_nil)) se_int))) nd)
  (ss_one (ss_ret (se_lst (sv_cons (se_callB (call_max2 rfl) p_max2D M.f_max bb_max (sa_cons se_int (sa_cons (se_op op_sub p_subD (se_callB call_abs p_absD M.f_abs bb_abs (sa_cons (so_var 2) sa_nil)) (se_op op_powW p_powD se_int se_int)) sa_nil))) (sv_cons (se_op op_mod p_modD (se_callTy call_int1 p_intD M.f_int bb_int (sa_cons (se_op op_addD p_addD (se_op op_addD p_addD (se_op op_mulX p_mulD (so_var 2) se_int) (se_op op_mulX p_mulD (so_var 1) se_int)) se_int) sa_nil)) (se_op op_addD p_addD (se_op op_powW p_powD se_int se_int) se_int)) (sv_cons se_int sv_nil)))))))
abbrev N__law_same : List Str := ["told", "due", "kind", "spot"]
theorem sc__law_same : FnScope N__law_same ["told", "due"] (defScope (top 29)) := ⟨rfl, rfl, rfl, by decide +kernel, rfl, by decide +kernel, by decide +kernel⟩
def fb1__law_same (c : Cal) : SF := (sIf (eNot (eCall [false, false] c [(.ex (e2 ixD (.sl 0) (.sl 3))), (.ex (e2 ixD (.sl 1) (.sl 3)))])) (sRet (eC (.bl false))) sNext)
def b__law_same (c : Cal) : SF := (sSeq (sIf (e2 isD (.sl 1) (.ex (eC .non))) (sRet (e2 isD (.sl 0) (.ex (eC .non)))) sNext)
  (sSeq (sIf (e1 (isiD .bool) (.sl 1)) (sRet (eAnd (e1 (isiD .bool) (.sl 0)) (e2 eqD (.sl 0) (.sl 1)))) sNext)
  (sSeq (sIf (eOr (e1 (isiD .tuple) (.sl 1)) (e1 (isiD .list) (.sl 1))) (sSeq (sAsg [] 2 (eIf (e1 (isiD .tuple) (.sl 1)) (e1 (isiD .tuple) (.sl 0)) (e1 (isiD .list) (.sl 0))))
  (sSeq (sIf (eOr (eNot (eVar 2)) (e2 neD (.ex (eN (c1 lenD) [(.sl 0)])) (.ex (eN (c1 lenD) [(.sl 1)])))) (sRet (eC (.bl false))) sNext)
  (sSeq (sFor [] [3] (srcR1 (eN (c1 lenD) [(.sl 1)])) (tName 3)
  (fb1__law_same c))
  (sRet (eC (.bl true)))))) sNext)
  (sSeq (sIf (e1 (isiD .str) (.sl 1)) (sRet (eAnd (e1 (isiD .str) (.sl 0)) (e2 eqD (.sl 0) (.sl 1)))) sNext)
  (sRet (eAnd (e1 (isiD .int) (.sl 0)) (eAnd (eNot (e1 (isiD .bool) (.sl 0))) (e2 eqD (.sl 0) (.sl 1)))))))))
def c__law_same : Nat → Cal
  | 0 => fun _ => none
  | k + 1 => runB [false, false] 4 (b__law_same (c__law_same k))
theorem ok__law_same (M : Md w K mg) : ∀ k : Nat, Ok P w K mg base (0 + 1 + k) "_law_same" (top 29) ["told", "due"] [false, false] (c__law_same k)
  | 0 => by
    obtain ⟨a, fd, D⟩ := M.d__law_same
    exact ok_of (N := N__law_same) (k := 0) (body := sNever) D sc__law_same rfl (by decide) (fun cdv A outer s H E hr => ss_nevers) (fun _ _ _ h => by cases h)
  | n + 1 => by
    have ih := ok__law_same M n
    obtain ⟨a, fd, D⟩ := M.d__law_same
    have nd := sc__law_same.nd
    refine ok_of (N := N__law_same) (k := 0 + 1 + n) (body := b__law_same (c__law_same n)) D sc__law_same rfl (by decide) (fun cdv A outer s H E hr => ?_) (fun _ _ _ h => h)
    generalize c__law_same n = c at *
    exact (ss_cons (ss_if (st_cmp op_isN p_isD (so_var 1) se_non) (ss_one (ss_ret (se_cmp op_isN p_isD (so_var 0) se_non))) ss_nil)
  (ss_cons (ss_if (st_of (se_isi .bool (so_var 1) M.f_isinstance M.f_bool bb_bool)) (ss_one (ss_ret (se_and (se_isi .bool (so_var 0) M.f_isinstance M.f_bool bb_bool) (se_one (se_cmp (op_eqA hr.units) p_eqD (so_var 0) (so_var 1)))))) ss_nil)
  (ss_cons (ss_if (PW.pt (st_or (st_of (se_isi .tuple (so_var 1) M.f_isinstance M.f_tuple bb_tuple)) (st_or1 (st_of (se_isi .list (so_var 1) M.f_isinstance M.f_list bb_list))))) (ss_cons (ss_asg 2 (se_if (st_of (se_isi .tuple (so_var 1) M.f_isinstance M.f_tuple bb_tuple)) (se_isi .tuple (so_var 0) M.f_isinstance M.f_tuple bb_tuple) (se_isi .list (so_var 0) M.f_isinstance M.f_list bb_list)) nd)
  (ss_cons (ss_if (PW.pt (st_or (st_not (st_of (se_var 2))) (st_or1 (st_cmp (op_neA hr.units) p_neD (se_callB call_len p_lenD M.f_len bb_len (sa_cons (so_var 0) sa_nil)) (se_callB call_len p_lenD M.f_len bb_len (sa_cons (so_var 1) sa_nil)))))) (ss_one (ss_ret se_bl)) ss_nil)
  (ss_cons (ss_for (pi_rg1 (se_callB call_len p_lenD M.f_len bb_len (sa_cons (so_var 1) sa_nil)) M.f_range) srcR1_ok (pg_name nd (i := 3) rfl (by first | exact .inl rfl | exact .inr rfl)) (tg_name 3)
  (ss_one (ss_if (st_not (st_of (se_fn ih hr (sa_cons (so_ex (se_ix ix_A p_ixD (so_var 0) (so_var 3))) (sa_cons (so_ex (se_ix ix_A p_ixD (so_var 1) (so_var 3))) sa_nil)) (fun _ _ _ _ _ _ us hl => match us, hl with | [_, _], _ => rfl) (hjk := Nat.le_refl _)))) (ss_one (ss_ret se_bl)) ss_nil)) .never rfl)
  (ss_one (ss_ret se_bl))))) ss_nil)
  (ss_cons (ss_if (st_of (se_isi .str (so_var 1) M.f_isinstance M.f_str bb_str)) (ss_one (ss_ret (se_and (se_isi .str (so_var 0) M.f_isinstance M.f_str bb_str) (se_one (se_cmp (op_eqA hr.units) p_eqD (so_var 0) (so_var 1)))))) ss_nil)
  (ss_one (ss_ret (se_and (se_isi .int (so_var 0) M.f_isinstance M.f_int bb_int) (se_and (se_not (se_isi .bool (so_var 0) M.f_isinstance M.f_bool bb_bool)) (se_one (se_cmp (op_eqA hr.units) p_eqD (so_var 0) (so_var 1)))))))))))
abbrev N__law_orders : List Str := ["n", "found", "turn", "further", "row", "number"]
theorem sc__law_orders : FnScope N__law_orders ["n"] (defScope (top 32)) := ⟨rfl, rfl, rfl, by decide +kernel, rfl, by decide +kernel, by decide +kernel⟩
def lc1__law_orders : EF := (e2 (inD true) (.sl 5) (.sl 4))
def le1__law_orders : EF := (e2 addD (.sl 4) (.ex (eTup [(eVar 5)])))
def fb1__law_orders : SF := (sAsg [] 3 (e2 addD (.sl 3) (.ex (eLc (srcC (srcR2 (eC (.int 1)) (e2 addD (.sl 0) (.ex (eC (.int 1)))))) (tName 5) lc1__law_orders le1__law_orders [5]))))
def fb2__law_orders : SF := (sSeq (sAsg [] 3 (eLst []))
  (sSeq (sFor [] [4] (srcA (eVar 1)) (tName 4)
  fb1__law_orders)
  (sAsg [] 1 (eVar 3))))
def b__law_orders : SF := (sSeq (sAsg [] 1 (eLst [(eTup [])]))
  (sSeq (sFor [] [2] (srcR1 (eVar 0)) (tName 2)
  fb2__law_orders)
  (sRetV [] 1)))
def c__law_orders : Cal := runB [false] 6 b__law_orders
theorem ok__law_orders (M : Md w K mg) : Ok P w K mg base 1 "_law_orders" (top 32) ["n"] [false] c__law_orders := by
  obtain ⟨a, fd, D⟩ := M.d__law_orders
  have nd := sc__law_orders.nd
  refine ok_of (N := N__law_orders) (k := 0) (body := b__law_orders) D sc__law_orders rfl (by decide) (fun cdv A outer s H E hr => ?_) (fun _ _ _ h => h)
  exact (ss_cons (ss_asg 1 (se_lst (sv_cons (se_tup sv_nil) sv_nil)) nd)
  (ss_cons (ss_for (pi_rg1 (se_var 0) M.f_range) srcR1_ok (pg_name nd (i := 2) rfl (by first | exact .inl rfl | exact .inr rfl)) (tg_name 2)
  (ss_cons (ss_asg 3 (se_lst sv_nil) nd)
  (ss_cons (ss_for (pi_any (se_var 1)) srcA_ok (pg_name nd (i := 4) rfl (by first | exact .inl rfl | exact .inr rfl)) (tg_name 4)
  (ss_one (ss_asg 3 (se_op op_addD p_addD (so_var 3) (se_lc (pi_rg2 se_int (se_op op_addD p_addD (so_var 0) se_int) M.f_range) (srcC_ok srcR2_ok) (blkOk_by (own := [("number", 5)]) (by first | kernel_rfl | rfl)) (tg_name 5) (fun _ _ _ _ _ => (pg_name nd (i := 5) rfl (by first | exact .inl rfl | exact .inr rfl))) (fun _ _ _ _ _ => (st_ones (st_cmp op_notIn_seq p_inD (so_var 5) (so_var 4)))) (fun _ _ _ _ _ => (se_op op_addD p_addD (so_var 4) (se_tup (sv_cons (se_var 5) sv_nil)))) rfl nd)) nd)) .never rfl)
  (ss_one (ss_asg 1 (se_var 3) nd)))) .never rfl)
  (ss_one (ss_retV 1))))
abbrev N__law_dip : List Str := ["well", "many", "figure", "mixed"]
theorem sc__law_dip : FnScope N__law_dip ["well", "many"] (defScope (top 28)) := ⟨rfl, rfl, rfl, by decide +kernel, rfl, by decide +kernel, by decide +kernel⟩
def b__law_dip : SF := (sSeq (sIf (e2 gtD (.ex (e2 ixD (.sl 0) (.ex (eC (.int 0))))) (.ex (eC (.int 0)))) (sSeq (sAsg [0] 2 (e2 modD (.ex (eN (c1 intD) [(.ex (e2 ixD (.sl 0) (.ex (eC (.int 0)))))])) (.sl 1)))
  (sSeq (sSet 0 (eC (.int 0)) (e2 fdivD (.ex (e2 ixD (.sl 0) (.ex (eC (.int 0))))) (.sl 1)))
  (sRetV [0] 2))) sNext)
  (sSeq (sSet 0 (eC (.int 2)) (e2 addD (.ex (e2 ixD (.sl 0) (.ex (eC (.int 2))))) (.ex (eC (.int 1)))))
  (sSeq (sAsg [0] 3 (e2 modD (.ex (e2 powD (.ex (eN (c1 intD) [(.ex (e2 addD (.ex (e2 ixD (.sl 0) (.ex (eC (.int 1))))) (.ex (e2 mulD (.ex (eC (.int 1000003))) (.ex (e2 ixD (.sl 0) (.ex (eC (.int 2)))))))))])) (.ex (eC (.int 3))))) (.ex (e2 addD (.ex (e2 powD (.ex (eC (.int 10))) (.ex (eC (.int 25))))) (.ex (eC (.int 13)))))))
  (sSeq (sAsg [0] 3 (e2 modD (.ex (e2 powD (.ex (eN (c1 intD) [(.ex (e2 addD (.sl 3) (.ex (e2 mulD (.ex (eC (.int 77347))) (.ex (e2 ixD (.sl 0) (.ex (eC (.int 2)))))))))])) (.ex (eC (.int 2))))) (.ex (e2 addD (.ex (e2 powD (.ex (eC (.int 10))) (.ex (eC (.int 24))))) (.ex (eC (.int 7)))))))
  (sRet (e2 modD (.ex (eN (c1 intD) [(.ex (e2 fdivD (.sl 3) (.ex (eC (.int 4096)))))])) (.sl 1)))))))
def c__law_dip : Cal := runB [true, false] 4 b__law_dip
theorem ok__law_dip (M : Md w K mg) : Ok P w K mg base 1 "_law_dip" (top 28) ["well", "many"] [true, false] c__law_dip := by
  obtain ⟨a, fd, D⟩ := M.d__law_dip
  have nd := sc__law_dip.nd
  refine ok_of (N := N__law_dip) (k := 0) (body := b__law_dip) D sc__law_dip rfl (by decide) (fun cdv A outer s H E hr => ?_) (fun _ _ _ h => h)
  exact (ss_cons (ss_if (st_cmp op_gt p_gtD (se_ix ix_A p_ixD (so_var 0) se_int) se_int) (ss_cons (ss_asg 2 (se_op op_mod p_modD (se_callTy call_int1 p_intD M.f_int bb_int (sa_cons (se_ix ix_A p_ixD (so_var 0) se_int) sa_nil)) (so_var 1)) nd)
  (ss_cons (ss_set 0 (se_op op_fdivW p_fdivD (se_ix ix_A p_ixD (so_var 0) se_int) (so_var 1)) (pg_sub (pv 0) se_int set_list))
  (ss_one (ss_retV 2)))) ss_nil)
  (ss_cons (ss_set 0 (se_op op_addD p_addD (se_ix ix_A p_ixD (so_var 0) se_int) se_int) (pg_sub (pv 0) se_int set_list))
  (ss_cons (ss_asg 3 (se_op op_mod p_modD (se_op op_powW p_powD (se_callTy call_int1 p_intD M.f_int bb_int (sa_cons (se_op op_addD p_addD (se_ix ix_A p_ixD (so_var 0) se_int) (se_op op_mulX p_mulD se_int (se_ix ix_A p_ixD (so_var 0) se_int))) sa_nil)) se_int) (se_op op_addD p_addD (se_op op_powW p_powD se_int se_int) se_int)) nd)
  (ss_cons (ss_asg 3 (se_op op_mod p_modD (se_op op_powW p_powD (se_callTy call_int1 p_intD M.f_int bb_int (sa_cons (se_op op_addD p_addD (so_var 3) (se_op op_mulX p_mulD se_int (se_ix ix_A p_ixD (so_var 0) se_int))) sa_nil)) se_int) (se_op op_addD p_addD (se_op op_powW p_powD se_int se_int) se_int)) nd)
  (ss_one (ss_ret (se_op op_mod p_modD (se_callTy call_int1 p_intD M.f_int bb_int (sa_cons (se_op op_fdivW p_fdivD (so_var 3) se_int) sa_nil)) (so_var 1))))))))
abbrev N__law_shows : List Str := ["order", "pattern", "rows", "row", "at", "place", "k"]
theorem sc__law_shows : FnScope N__law_shows ["order", "pattern"] (defScope (top 30)) := ⟨rfl, rfl, rfl, by decide +kernel, rfl, by decide +kernel, by decide +kernel⟩
def lc1__law_shows : EF := (e2 neD (.ex (e2 ltD (.ex (e2 ixD (.sl 0) (.ex (e2 ixD (.sl 3) (.sl 6))))) (.ex (e2 ixD (.sl 0) (.sl 5))))) (.ex (e2 ltD (.ex (e2 ixD (.sl 1) (.sl 6))) (.ex (e2 ixD (.sl 1) (.sl 4))))))
def fb1__law_shows : SF := (sIf (e2 eqD (.ex (eLc (srcC (srcR1 (eVar 4))) (tName 6) lc1__law_shows (eVar 6) [6])) (.ex (eLst []))) (sApp 2 (e2 addD (.sl 3) (.ex (eTup [(eVar 5)])))) sNext)
def wc1__law_shows : EF := (e2 neD (.sl 2) (.ex (eLst [])))
def wb1__law_shows : SF := (sSeq (sAsg [] 3 (ePop 2))
  (sSeq (sAsg [] 4 (eN (c1 lenD) [(.sl 3)]))
  (sSeq (sIf (e2 eqD (.sl 4) (.ex (eN (c1 lenD) [(.sl 1)]))) (sRet (eC (.bl true))) sNext)
  (sFor [] [5] (srcR2 (eIf (e2 neD (.sl 3) (.ex (eTup []))) (e2 addD (.ex (e2 ixD (.sl 3) (.ex (e1 negD (.ex (eC (.int 1))))))) (.ex (eC (.int 1)))) (eC (.int 0))) (e2 addD (.ex (e2 addD (.ex (e2 subD (.ex (eN (c1 lenD) [(.sl 0)])) (.ex (eN (c1 lenD) [(.sl 1)])))) (.sl 4))) (.ex (eC (.int 1))))) (tName 5)
  fb1__law_shows))))
def b__law_shows : SF := (sSeq (sAsg [] 2 (eLst [(eTup [])]))
  (sSeq (sWhile wc1__law_shows wb1__law_shows)
  (sRet (eC (.bl false)))))
def c__law_shows : Cal := runB [false, false] 7 b__law_shows
theorem ok__law_shows (M : Md w K mg) : Ok P w K mg base 1 "_law_shows" (top 30) ["order", "pattern"] [false, false] c__law_shows := by
  obtain ⟨a, fd, D⟩ := M.d__law_shows
  have nd := sc__law_shows.nd
  refine ok_of (N := N__law_shows) (k := 0) (body := b__law_shows) D sc__law_shows rfl (by decide) (fun cdv A outer s H E hr => ?_) (fun _ _ _ h => h)
  exact (ss_cons (ss_asg 2 (se_lst (sv_cons (se_tup sv_nil) sv_nil)) nd)
  (ss_cons (ss_while (st_cmp (op_neA hr.units) p_neD (so_var 2) (se_lst sv_nil)) (ss_cons (ss_asg 3 (se_pop 2) nd)
  (ss_cons (ss_asg 4 (se_callB call_len p_lenD M.f_len bb_len (sa_cons (so_var 3) sa_nil)) nd)
  (ss_cons (ss_if (st_cmp (op_eqA hr.units) p_eqD (so_var 4) (se_callB call_len p_lenD M.f_len bb_len (sa_cons (so_var 1) sa_nil))) (ss_one (ss_ret se_bl)) ss_nil)
  (ss_one (ss_for (pi_rg2 (se_if (st_cmp (op_neA hr.units) p_neD (so_var 3) (se_tup sv_nil)) (se_op op_addD p_addD (se_ix ix_A p_ixD (so_var 3) (se_un un_neg p_negD se_int)) se_int) se_int) (se_op op_addD p_addD (se_op op_addD p_addD (se_op op_sub p_subD (se_callB call_len p_lenD M.f_len bb_len (sa_cons (so_var 0) sa_nil)) (se_callB call_len p_lenD M.f_len bb_len (sa_cons (so_var 1) sa_nil))) (so_var 4)) se_int) M.f_range) srcR2_ok (pg_name nd (i := 5) rfl (by first | exact .inl rfl | exact .inr rfl)) (tg_name 5)
  (ss_one (ss_if (st_cmp (op_eqA hr.units) p_eqD (se_lc (pi_rg1 (se_var 4) M.f_range) (srcC_ok srcR1_ok) (blkOk_by (own := [("k", 6)]) (by first | kernel_rfl | rfl)) (tg_name 6) (fun _ _ _ _ _ => (pg_name nd (i := 6) rfl (by first | exact .inl rfl | exact .inr rfl))) (fun _ _ _ _ _ => (st_ones (st_cmp (op_neA hr.units) p_neD (se_cmp op_lt p_ltD (se_ix ix_A p_ixD (so_var 0) (se_ix ix_A p_ixD (so_var 3) (so_var 6))) (se_ix ix_A p_ixD (so_var 0) (so_var 5))) (se_cmp op_lt p_ltD (se_ix ix_A p_ixD (so_var 1) (so_var 6)) (se_ix ix_A p_ixD (so_var 1) (so_var 4)))))) (fun _ _ _ _ _ => (se_var 6)) rfl nd) (se_lst sv_nil)) (ss_one (ss_app 2 (se_op op_addD p_addD (so_var 3) (se_tup (sv_cons (se_var 5) sv_nil))))) ss_nil)) .never rfl))))) .never)
  (ss_one (ss_ret se_bl))))
abbrev N__law_lets : List Str := ["forbidden", "order", "pattern"]
theorem sc__law_lets : FnScope N__law_lets ["forbidden", "order"] (defScope (top 31)) := ⟨rfl, rfl, rfl, by decide +kernel, rfl, by decide +kernel, by decide +kernel⟩
def lc1__law_lets : EF := (eCall [false, false] c__law_shows [(.ex (eVar 1)), (.ex (eVar 2))])
def b__law_lets : SF := (sRet (e2 eqD (.ex (eLc (srcN 0) (tName 2) lc1__law_lets (eVar 2) [2])) (.ex (eLst []))))
def c__law_lets : Cal := runB [false, false] 3 b__law_lets
theorem ok__law_lets (M : Md w K mg) : Ok P w K mg base 2 "_law_lets" (top 31) ["forbidden", "order"] [false, false] c__law_lets := by
  obtain ⟨a, fd, D⟩ := M.d__law_lets
  have nd := sc__law_lets.nd
  refine ok_of (N := N__law_lets) (k := 1) (body := b__law_lets) D sc__law_lets rfl (by decide) (fun cdv A outer s H E hr => ?_) (fun _ _ _ h => h)
  exact (ss_one (ss_ret (se_cmp (op_eqA hr.units) p_eqD (se_lc (pi_any (pv 0)) srcN_ok (blkOk_by (own := [("pattern", 2)]) (by first | kernel_rfl | rfl)) (tg_name 2) (fun _ _ _ _ _ => (pg_name nd (i := 2) rfl (by first | exact .inl rfl | exact .inr rfl))) (fun _ _ _ _ _ => (st_ones (st_of (se_fn (ok__law_shows M) hr (sa_cons (so_ex (se_var 1)) (sa_cons (so_ex (se_var 2)) sa_nil)) (fun _ _ _ _ _ _ us hl => match us, hl with | [_, _], _ => rfl) )))) (fun _ _ _ _ _ => (se_var 2)) rfl nd) (se_lst sv_nil))))
abbrev N__law_let : List Str := ["well", "forbidden", "n", "order", "size", "places", "first", "found", "turn", "at", "height", "row", "number"]
theorem sc__law_let : FnScope N__law_let ["well", "forbidden", "n"] (defScope (top 35)) := ⟨rfl, rfl, rfl, by decide +kernel, rfl, by decide +kernel, by decide +kernel⟩
def le1__law_let : EF := (e2 addD (.sl 12) (.ex (eN (c1 intD) [(.ex (e2 geD (.sl 12) (.sl 10)))])))
def fb1__law_let : SF := (sSeq (sAsg [0] 11 (eN (c1 tupleD) [(.ex (eLc (srcN 3) (tName 12) eYes le1__law_let [12]))]))
  (sSeq (sAsg [0] 11 (e2 addD (.ex (e2 addD (.ex (eSl slD (.sl 11) none (some (eVar 9)))) (.ex (eTup [(eVar 10)])))) (.ex (eSl slD (.sl 11) (some (eVar 9)) none))))
  (sIf (eAnd (e2 eqD (.sl 7) (.ex (eLst []))) (eCall [false, false] c__law_lets [(.ex (eVar 1)), (.ex (eVar 11))])) (sAsg [0] 7 (eLst [(eVar 11)])) sNext)))
def fb2__law_let : SF := (sSeq (sAsg [0] 9 (e2 ixD (.sl 5) (.ex (e2 modD (.ex (eN (c1 intD) [(.ex (e2 addD (.sl 6) (.sl 8)))])) (.sl 4)))))
  (sFor [0] [10] (srcA (eLst [(eVar 4), (eC (.int 1)), (e2 addD (.ex (eC (.int 1))) (.ex (eCall [true, false] c__law_dip [(.sl 0), (.ex (eVar 4))])))])) (tName 10)
  fb1__law_let))
def fb3__law_let : SF := (sSeq (sPar2 [0] 5 6 (e1 (rgD false (.int 0)) (.sl 4)) (eCall [true, false] c__law_dip [(.sl 0), (.ex (eVar 4))]))
  (sSeq (sAsg [0] 7 (eLst []))
  (sSeq (sFor [0] [8] (srcR1 (eVar 4)) (tName 8)
  fb2__law_let)
  (sAsg [0] 3 (eIf (e2 neD (.sl 7) (.ex (eLst []))) (e2 ixD (.sl 7) (.ex (eC (.int 0)))) (e2 addD (.sl 3) (.ex (eTup [(eVar 4)]))))))))
def b__law_let : SF := (sSeq (sAsg [0] 3 (eTup []))
  (sSeq (sFor [0] [4] (srcR2 (eC (.int 1)) (e2 addD (.sl 2) (.ex (eC (.int 1))))) (tName 4)
  fb3__law_let)
  (sRetV [0] 3)))
def c__law_let : Cal := runB [true, false, false] 13 b__law_let
theorem ok__law_let (M : Md w K mg) : Ok P w K mg base 3 "_law_let" (top 35) ["well", "forbidden", "n"] [true, false, false] c__law_let := by
  obtain ⟨a, fd, D⟩ := M.d__law_let
  have nd := sc__law_let.nd
  refine ok_of (N := N__law_let) (k := 2) (body := b__law_let) D sc__law_let rfl (by decide) (fun cdv A outer s H E hr => ?_) (fun _ _ _ h => h)
  exact (ss_cons (ss_asg 3 (se_tup sv_nil) nd)
  (ss_cons (ss_for (pi_rg2 se_int (se_op op_addD p_addD (so_var 2) se_int) M.f_range) srcR2_ok (pg_name nd (i := 4) rfl (by first | exact .inl rfl | exact .inr rfl)) (tg_name 4)
  (ss_cons (ss_par2 5 6 (sv_cons (se_listRg1 (rg1 (so_var 4) M.f_range) rfl M.f_list) (sv_cons (se_fn (ok__law_dip M) hr (sa_cons (so_var 0) (sa_cons (so_ex (se_var 4)) sa_nil)) (fun _ _ _ _ _ _ us hl => match us, hl with | [_, _], _ => rfl) ) sv_nil)) rfl nd)
  (ss_cons (ss_asg 7 (se_lst sv_nil) nd)
  (ss_cons (ss_for (pi_rg1 (se_var 4) M.f_range) srcR1_ok (pg_name nd (i := 8) rfl (by first | exact .inl rfl | exact .inr rfl)) (tg_name 8)
  (ss_cons (ss_asg 9 (se_ix ix_A p_ixD (so_var 5) (se_op op_mod p_modD (se_callTy call_int1 p_intD M.f_int bb_int (sa_cons (se_op op_addD p_addD (so_var 6) (so_var 8)) sa_nil)) (so_var 4))) nd)
  (ss_one (ss_for (pi_any (se_lst (sv_cons (se_var 4) (sv_cons se_int (sv_cons (se_op op_addD p_addD se_int (se_fn (ok__law_dip M) hr (sa_cons (so_var 0) (sa_cons (so_ex (se_var 4)) sa_nil)) (fun _ _ _ _ _ _ us hl => match us, hl with | [_, _], _ => rfl) )) sv_nil))))) srcA_ok (pg_name nd (i := 10) rfl (by first | exact .inl rfl | exact .inr rfl)) (tg_name 10)
  (ss_cons (ss_asg 11 (se_callTy call_tuple_of p_tupleD M.f_tuple bb_tuple (sa_cons (se_lc (pi_any (pv 3)) srcN_ok (blkOk_by (own := [("number", 12)]) (by first | kernel_rfl | rfl)) (tg_name 12) (fun _ _ _ _ _ => (pg_name nd (i := 12) rfl (by first | exact .inl rfl | exact .inr rfl))) (fun _ _ _ _ _ => st_yes) (fun _ _ _ _ _ => (se_op op_addD p_addD (so_var 12) (se_callTy call_int1 p_intD M.f_int bb_int (sa_cons (se_cmp op_ge p_geD (so_var 12) (so_var 10)) sa_nil)))) rfl nd) sa_nil)) nd)
  (ss_cons (ss_asg 11 (se_op op_addD p_addD (se_op op_addD p_addD (se_slice sl_A p_slD (so_var 11) sp_none (sp_some (se_var 9))) (se_tup (sv_cons (se_var 10) sv_nil))) (se_slice sl_A p_slD (so_var 11) (sp_some (se_var 9)) sp_none)) nd)
  (ss_one (ss_if (PW.pt (st_and (st_cmp (op_eqA hr.units) p_eqD (so_var 7) (se_lst sv_nil)) (st_and1 (st_of (se_fn (ok__law_lets M) hr (sa_cons (so_ex (se_var 1)) (sa_cons (so_ex (se_var 11)) sa_nil)) (fun _ _ _ _ _ _ us hl => match us, hl with | [_, _], _ => rfl) ))))) (ss_one (ss_asg 7 (se_lst (sv_cons (se_var 11) sv_nil)) nd)) ss_nil)))) .never rfl))) .never rfl)
  (ss_one (ss_asg 3 (se_if (st_cmp (op_neA hr.units) p_neD (so_var 7) (se_lst sv_nil)) (se_ix ix_A p_ixD (so_var 7) se_int) (se_op op_addD p_addD (so_var 3) (se_tup (sv_cons (se_var 4) sv_nil)))) nd))))) .never rfl)
  (ss_one (ss_retV 3))))
abbrev N_is_sorter : List Str := ["told"]
theorem sc_is_sorter : FnScope N_is_sorter ["told"] (defScope (top 12)) := ⟨rfl, rfl, rfl, by decide +kernel, rfl, by decide +kernel, by decide +kernel⟩
def b_is_sorter : SF := (sRet (eAnd (e1 (isiD .str) (.sl 0)) (e1 (kinD T_LISTS) (.sl 0))))
def c_is_sorter : Cal := runB [false] 1 b_is_sorter
theorem ok_is_sorter (M : Md w K mg) : Ok P w K mg base 1 "is_sorter" (top 12) ["told"] [false] c_is_sorter := by
  obtain ⟨a, fd, D⟩ := M.d_is_sorter
  have nd := sc_is_sorter.nd
  refine ok_of (N := N_is_sorter) (k := 0) (body := b_is_sorter) D sc_is_sorter rfl (by decide) (fun cdv A outer s H E hr => ?_) (fun _ _ _ h => h)
  exact (ss_one (ss_ret (se_and (se_isi .str (so_var 0) M.f_isinstance M.f_str bb_str) (se_one (se_kin M.t_LISTS (so_var 0))))))
abbrev N_check_sorter : List Str := ["sorter"]
theorem sc_check_sorter : FnScope N_check_sorter ["sorter"] (defScope (top 13)) := ⟨rfl, rfl, rfl, by decide +kernel, rfl, by decide +kernel, by decide +kernel⟩
def b_check_sorter : SF := (sIf (eNot (eCall [false] c_is_sorter [(.ex (eVar 0))])) sNever sNext)
def c_check_sorter : Cal := runB [false] 1 b_check_sorter
theorem ok_check_sorter (M : Md w K mg) : Ok P w K mg base 2 "check_sorter" (top 13) ["sorter"] [false] c_check_sorter := by
  obtain ⟨a, fd, D⟩ := M.d_check_sorter
  have nd := sc_check_sorter.nd
  refine ok_of (N := N_check_sorter) (k := 1) (body := b_check_sorter) D sc_check_sorter rfl (by decide) (fun cdv A outer s H E hr => ?_) (fun _ _ _ h => h)
  exact (ss_one (ss_if (st_not (st_of (se_fn (ok_is_sorter M) hr (sa_cons (so_ex (se_var 0)) sa_nil) (fun _ _ _ _ _ _ us hl => match us, hl with | [_], _ => rfl) ))) (ss_one ss_never) ss_nil))
abbrev N_is_integer : List Str := ["value"]
theorem sc_is_integer : FnScope N_is_integer ["value"] (defScope (top 5)) := ⟨rfl, rfl, rfl, by decide +kernel, rfl, by decide +kernel, by decide +kernel⟩
def b_is_integer : SF := (sRet (eAnd (e1 (isiD .int) (.sl 0)) (eNot (e1 (isiD .bool) (.sl 0)))))
def c_is_integer : Cal := runB [false] 1 b_is_integer
theorem ok_is_integer (M : Md w K mg) : Ok P w K mg base 1 "is_integer" (top 5) ["value"] [false] c_is_integer := by
  obtain ⟨a, fd, D⟩ := M.d_is_integer
  have nd := sc_is_integer.nd
  refine ok_of (N := N_is_integer) (k := 0) (body := b_is_integer) D sc_is_integer rfl (by decide) (fun cdv A outer s H E hr => ?_) (fun _ _ _ h => h)
  exact (ss_one (ss_ret (se_and (se_isi .int (so_var 0) M.f_isinstance M.f_int bb_int) (se_one (se_not (se_isi .bool (so_var 0) M.f_isinstance M.f_bool bb_bool))))))
abbrev N_are_integers : List Str := ["value", "a"]
theorem sc_are_integers : FnScope N_are_integers ["value"] (defScope (top 6)) := ⟨rfl, rfl, rfl, by decide +kernel, rfl, by decide +kernel, by decide +kernel⟩
def le1_are_integers : EF := (eCall [false] c_is_integer [(.ex (eVar 1))])
def b_are_integers : SF := (sRet (eAnd (e1 (isiD .tuple) (.sl 0)) (eN (c1 allD) [(.ex (eLc (srcN 0) (tName 1) eYes le1_are_integers [1]))])))
def c_are_integers : Cal := runB [false] 2 b_are_integers
theorem ok_are_integers (M : Md w K mg) : Ok P w K mg base 2 "are_integers" (top 6) ["value"] [false] c_are_integers := by
  obtain ⟨a, fd, D⟩ := M.d_are_integers
  have nd := sc_are_integers.nd
  refine ok_of (N := N_are_integers) (k := 1) (body := b_are_integers) D sc_are_integers rfl (by decide) (fun cdv A outer s H E hr => ?_) (fun _ _ _ h => h)
  exact (ss_one (ss_ret (se_and (se_isi .tuple (so_var 0) M.f_isinstance M.f_tuple bb_tuple) (se_one (se_callB (cr_all rfl) p_allD M.f_all bb_all (sa_cons (se_lc (pi_any (pv 0)) srcN_ok (blkOk_by (own := [("a", 1)]) (by first | kernel_rfl | rfl)) (tg_name 1) (fun _ _ _ _ _ => (pg_name nd (i := 1) rfl (by first | exact .inl rfl | exact .inr rfl))) (fun _ _ _ _ _ => st_yes) (fun _ _ _ _ _ => (se_fn (ok_is_integer M) hr (sa_cons (so_ex (se_var 1)) sa_nil) (fun _ _ _ _ _ _ us hl => match us, hl with | [_], _ => rfl) )) rfl nd) sa_nil))))))
abbrev N_is_order_of : List Str := ["told"]
theorem sc_is_order_of : FnScope N_is_order_of ["told"] (defScope (top 7)) := ⟨rfl, rfl, rfl, by decide +kernel, rfl, by decide +kernel, by decide +kernel⟩
def b_is_order_of : SF := (sRet (eAnd (eCall [false] c_are_integers [(.ex (eVar 0))]) (e2 eqD (.ex (eN (c1 sortedD) [(.sl 0)])) (.ex (e2 (rgD false) (.ex (eC (.int 1))) (.ex (e2 addD (.ex (eN (c1 lenD) [(.sl 0)])) (.ex (eC (.int 1))))))))))
def c_is_order_of : Cal := runB [false] 1 b_is_order_of
theorem ok_is_order_of (M : Md w K mg) : Ok P w K mg base 3 "is_order_of" (top 7) ["told"] [false] c_is_order_of := by
  obtain ⟨a, fd, D⟩ := M.d_is_order_of
  have nd := sc_is_order_of.nd
  refine ok_of (N := N_is_order_of) (k := 2) (body := b_is_order_of) D sc_is_order_of rfl (by decide) (fun cdv A outer s H E hr => ?_) (fun _ _ _ h => h)
  exact (ss_one (ss_ret (se_and (se_fn (ok_are_integers M) hr (sa_cons (so_ex (se_var 0)) sa_nil) (fun _ _ _ _ _ _ us hl => match us, hl with | [_], _ => rfl) ) (se_one (se_cmp (op_eqA hr.units) p_eqD (se_callB cr_sortA p_sortedD M.f_sorted bb_sorted (sa_cons (so_var 0) sa_nil)) (se_listRg2 (rg2 se_int (se_op op_addD p_addD (se_callB call_len p_lenD M.f_len bb_len (sa_cons (so_var 0) sa_nil)) se_int) M.f_range) rfl M.f_list))))))
abbrev N_is_order : List Str := ["told"]
theorem sc_is_order : FnScope N_is_order ["told"] (defScope (top 9)) := ⟨rfl, rfl, rfl, by decide +kernel, rfl, by decide +kernel, by decide +kernel⟩
def b_is_order : SF := (sRet (eCall [false] c_is_order_of [(.ex (eVar 0))]))
def c_is_order : Cal := runB [false] 1 b_is_order
theorem ok_is_order (M : Md w K mg) : Ok P w K mg base 4 "is_order" (top 9) ["told"] [false] c_is_order := by
  obtain ⟨a, fd, D⟩ := M.d_is_order
  have nd := sc_is_order.nd
  refine ok_of (N := N_is_order) (k := 3) (body := b_is_order) D sc_is_order rfl (by decide) (fun cdv A outer s H E hr => ?_) (fun _ _ _ h => h)
  exact (ss_one (ss_ret (se_fn (ok_is_order_of M) hr (sa_cons (so_ex (se_var 0)) sa_nil) (fun _ _ _ _ _ _ us hl => match us, hl with | [_], _ => rfl) )))
abbrev N_check_order : List Str := ["order"]
theorem sc_check_order : FnScope N_check_order ["order"] (defScope (top 14)) := ⟨rfl, rfl, rfl, by decide +kernel, rfl, by decide +kernel, by decide +kernel⟩
def b_check_order : SF := (sIf (eNot (eCall [false] c_is_order [(.ex (eVar 0))])) sNever sNext)
def c_check_order : Cal := runB [false] 1 b_check_order
theorem ok_check_order (M : Md w K mg) : Ok P w K mg base 5 "check_order" (top 14) ["order"] [false] c_check_order := by
  obtain ⟨a, fd, D⟩ := M.d_check_order
  have nd := sc_check_order.nd
  refine ok_of (N := N_check_order) (k := 4) (body := b_check_order) D sc_check_order rfl (by decide) (fun cdv A outer s H E hr => ?_) (fun _ _ _ h => h)
  exact (ss_one (ss_if (st_not (st_of (se_fn (ok_is_order M) hr (sa_cons (so_ex (se_var 0)) sa_nil) (fun _ _ _ _ _ _ us hl => match us, hl with | [_], _ => rfl) ))) (ss_one ss_never) ss_nil))
abbrev N_by_stack : List Str := ["order", "left", "stack", "number"]
theorem sc_by_stack : FnScope N_by_stack ["order"] (defScope (top 15)) := ⟨rfl, rfl, rfl, by decide +kernel, rfl, by decide +kernel, by decide +kernel⟩
def wc1_by_stack : EF := (eAnd (e2 neD (.sl 2) (.ex (eLst []))) (e2 ltD (.ex (e2 ixD (.sl 2) (.ex (e1 negD (.ex (eC (.int 1))))))) (.sl 3)))
def wb1_by_stack : SF := (sApp 1 (ePop 2))
def fb1_by_stack : SF := (sSeq (sWhile wc1_by_stack wb1_by_stack)
  (sApp 2 (eVar 3)))
def b_by_stack : SF := (sSeq (sPar2 [] 1 2 (eLst []) (eLst []))
  (sSeq (sFor [] [3] (srcA (eVar 0)) (tName 3)
  fb1_by_stack)
  (sRet (eN (c1 tupleD) [(.ex (e2 addD (.sl 1) (.ex (e1 revD (.sl 2)))))]))))
def c_by_stack : Cal := runB [false] 4 b_by_stack
theorem ok_by_stack (M : Md w K mg) : Ok P w K mg base 1 "by_stack" (top 15) ["order"] [false] c_by_stack := by
  obtain ⟨a, fd, D⟩ := M.d_by_stack
  have nd := sc_by_stack.nd
  refine ok_of (N := N_by_stack) (k := 0) (body := b_by_stack) D sc_by_stack rfl (by decide) (fun cdv A outer s H E hr => ?_) (fun _ _ _ h => h)
  exact (ss_cons (ss_par2 1 2 (sv_cons (se_lst sv_nil) (sv_cons (se_lst sv_nil) sv_nil)) rfl nd)
  (ss_cons (ss_for (pi_any (se_var 0)) srcA_ok (pg_name nd (i := 3) rfl (by first | exact .inl rfl | exact .inr rfl)) (tg_name 3)
  (ss_cons (ss_while (PW.pt (st_and (st_cmp (op_neA hr.units) p_neD (so_var 2) (se_lst sv_nil)) (st_and1 (st_cmp op_lt p_ltD (se_ix ix_A p_ixD (so_var 2) (se_un un_neg p_negD se_int)) (so_var 3))))) (ss_one (ss_app 1 (se_pop 2))) .never)
  (ss_one (ss_app 2 (se_var 3)))) .never rfl)
  (ss_one (ss_ret (se_callTy call_tuple_of p_tupleD M.f_tuple bb_tuple (sa_cons (se_op op_addD p_addD (so_var 1) (se_rev (so_var 2))) sa_nil))))))
abbrev N_by_popper : List Str := ["order", "left", "stack", "number"]
theorem sc_by_popper : FnScope N_by_popper ["order"] (defScope (top 16)) := ⟨rfl, rfl, rfl, by decide +kernel, rfl, by decide +kernel, by decide +kernel⟩
def fb1_by_popper : SF := (sSeq (sIf (eAnd (e2 neD (.sl 2) (.ex (eLst []))) (e2 ltD (.ex (e2 ixD (.sl 2) (.ex (e1 negD (.ex (eC (.int 1))))))) (.sl 3))) (sSeq (sExt 1 (.ex (e1 revD (.sl 2))))
  (sAsg [] 2 (eLst []))) sNext)
  (sApp 2 (eVar 3)))
def b_by_popper : SF := (sSeq (sPar2 [] 1 2 (eLst []) (eLst []))
  (sSeq (sFor [] [3] (srcA (eVar 0)) (tName 3)
  fb1_by_popper)
  (sRet (eN (c1 tupleD) [(.ex (e2 addD (.sl 1) (.ex (e1 revD (.sl 2)))))]))))
def c_by_popper : Cal := runB [false] 4 b_by_popper
theorem ok_by_popper (M : Md w K mg) : Ok P w K mg base 1 "by_popper" (top 16) ["order"] [false] c_by_popper := by
  obtain ⟨a, fd, D⟩ := M.d_by_popper
  have nd := sc_by_popper.nd
  refine ok_of (N := N_by_popper) (k := 0) (body := b_by_popper) D sc_by_popper rfl (by decide) (fun cdv A outer s H E hr => ?_) (fun _ _ _ h => h)
  exact (ss_cons (ss_par2 1 2 (sv_cons (se_lst sv_nil) (sv_cons (se_lst sv_nil) sv_nil)) rfl nd)
  (ss_cons (ss_for (pi_any (se_var 0)) srcA_ok (pg_name nd (i := 3) rfl (by first | exact .inl rfl | exact .inr rfl)) (tg_name 3)
  (ss_cons (ss_if (PW.pt (st_and (st_cmp (op_neA hr.units) p_neD (so_var 2) (se_lst sv_nil)) (st_and1 (st_cmp op_lt p_ltD (se_ix ix_A p_ixD (so_var 2) (se_un un_neg p_negD se_int)) (so_var 3))))) (ss_cons (ss_ext 1 (se_rev (so_var 2)))
  (ss_one (ss_asg 2 (se_lst sv_nil) nd))) ss_nil)
  (ss_one (ss_app 2 (se_var 3)))) .never rfl)
  (ss_one (ss_ret (se_callTy call_tuple_of p_tupleD M.f_tuple bb_tuple (sa_cons (se_op op_addD p_addD (so_var 1) (se_rev (so_var 2))) sa_nil))))))
abbrev N_merged : List Str := ["one", "other", "left", "i", "j"]
theorem sc_merged : FnScope N_merged ["one", "other"] (defScope (top 17)) := ⟨rfl, rfl, rfl, by decide +kernel, rfl, by decide +kernel, by decide +kernel⟩
def wc1_merged : EF := (eAnd (e2 ltD (.sl 3) (.ex (eN (c1 lenD) [(.sl 0)]))) (e2 ltD (.sl 4) (.ex (eN (c1 lenD) [(.sl 1)]))))
def wb1_merged : SF := (sIf (e2 ltD (.ex (e2 ixD (.sl 0) (.sl 3))) (.ex (e2 ixD (.sl 1) (.sl 4)))) (sSeq (sApp 2 (e2 ixD (.sl 0) (.sl 3)))
  (sAug [] 3 (fun i j => i + j) (eC (.int 1)))) (sSeq (sApp 2 (e2 ixD (.sl 1) (.sl 4)))
  (sAug [] 4 (fun i j => i + j) (eC (.int 1)))))
def b_merged : SF := (sSeq (sPar3 [] 2 3 4 (eLst []) (eC (.int 0)) (eC (.int 0)))
  (sSeq (sWhile wc1_merged wb1_merged)
  (sRet (e2 addD (.ex (e2 addD (.sl 2) (.ex (eSl slD (.sl 0) (some (eVar 3)) none)))) (.ex (eSl slD (.sl 1) (some (eVar 4)) none))))))
def c_merged : Cal := runB [false, false] 5 b_merged
theorem ok_merged (M : Md w K mg) : Ok P w K mg base 1 "merged" (top 17) ["one", "other"] [false, false] c_merged := by
  obtain ⟨a, fd, D⟩ := M.d_merged
  have nd := sc_merged.nd
  refine ok_of (N := N_merged) (k := 0) (body := b_merged) D sc_merged rfl (by decide) (fun cdv A outer s H E hr => ?_) (fun _ _ _ h => h)
  exact (ss_cons (ss_par3 2 3 4 (sv_cons (se_lst sv_nil) (sv_cons se_int (sv_cons se_int sv_nil))) rfl nd)
  (ss_cons (ss_while (PW.pt (st_and (st_cmp op_lt p_ltD (so_var 3) (se_callB call_len p_lenD M.f_len bb_len (sa_cons (so_var 0) sa_nil))) (st_and1 (st_cmp op_lt p_ltD (so_var 4) (se_callB call_len p_lenD M.f_len bb_len (sa_cons (so_var 1) sa_nil)))))) (ss_one (ss_if (st_cmp op_lt p_ltD (se_ix ix_A p_ixD (so_var 0) (so_var 3)) (se_ix ix_A p_ixD (so_var 1) (so_var 4))) (ss_cons (ss_app 2 (se_ix ix_A p_ixD (so_var 0) (so_var 3)))
  (ss_one (ss_aug 3 ip_add se_int nd))) (ss_cons (ss_app 2 (se_ix ix_A p_ixD (so_var 1) (so_var 4)))
  (ss_one (ss_aug 4 ip_add se_int nd))))) .never)
  (ss_one (ss_ret (se_op op_addD p_addD (se_op op_addD p_addD (so_var 2) (se_slice sl_A p_slD (so_var 0) (sp_some (se_var 3)) sp_none)) (se_slice sl_A p_slD (so_var 1) (sp_some (se_var 4)) sp_none))))))
end
end Wk

namespace PI
open PySem PySem.Spec PyProof.Rows L2
/-- names that own nothing -/
theorem re_flat {K : PySem.W.Frag} {env : PI.Env} {σ : L2.St} {H : Hp} (hl : env.length = σ.length) (hs : ∀ (i : Nat) (x : Bool × PI.D), env[i]? = some (some x) → x.1 = false ∧ ∃ v : V, σ[i]? = some (some v) ∧ Rep K (fun _ => False) H v x.2) : Re K Z0 env σ H := by
  have no : ∀ a, ¬ Own env σ a := fun a ⟨i, d, e1, e2⟩ => by
    have := (hs i _ e1).1
    cases this
  refine ⟨hl, fun i d e => ?_, fun i d e => ?_, fun i j d e a e1 e2 s1 s2 => ?_, fun a o z => (nomatch z), fun a z => z.elim⟩
  · obtain ⟨_, v, h1, h2⟩ := hs i _ e
    exact ⟨v, h1, h2.less fun a z => z.elim (fun z => (no a z).elim) id⟩
  · have := (hs i _ e).1
    cases this
  · have := (hs i _ e1).1
    cases this
end PI
namespace Wk
open PySem PySem.Spec PyProof.Rows L2 PI
section
variable {P : Program} {w : World} {K : PySem.W.Frag} {mg : Str → Option Value} {base : Heap}
abbrev N_by_queues : List Str := ["order", "rows", "number", "free", "row"]
theorem sc_by_queues : FnScope N_by_queues ["order"] (defScope (top 18)) := ⟨rfl, rfl, rfl, by decide +kernel, rfl, by decide +kernel, by decide +kernel⟩
def fits (l : List Int) (x : Int) : Bool := match l.getLast? with
  | none => true
  | some y => decide (y < x)
def qStep (p : List Int × List Int) (x : Int) : List Int × List Int := if fits p.1 x then (p.1 ++ [x], p.2) else if fits p.2 x then (p.1, p.2 ++ [x]) else (p.1 ++ [x], p.2)
def qRows (is : List Int) : List Int × List Int := is.foldl qStep ([], [])
def c_by_queues : Cal
  | [.tup es] => (toInts es).bind fun is => if is.length < 1000 then (c_merged [.lst (zL (qRows is).1), .lst (zL (qRows is).2)]).bind fun r => match r.1 with
    | (true, .lst m) => some ((false, .tup m), [])
    | _ => none
    else none
  | _ => none
def eTestQ : EF := (eOr (e2 eqD (.sl 4) (.ex (eLst []))) (e2 ltD (.ex (e2 ixD (.sl 4) (.ex (e1 negD (.ex (eC (.int 1))))))) (.sl 2)))
def eFreeQ : EF := (e2 neD (.sl 3) (.ex (eLst [])))
theorem testQ (x0 x1 x3 : Option (Bool × PI.D)) (l : List Int) (n : Int) : eTestQ [x0, x1, some (false, .int n), x3, some (false, .lst (zL l))] = some ((false, .bl (fits l n)), [x0, x1, some (false, .int n), x3, some (false, .lst (zL l))]) := by
  unfold eTestQ eOr
  have h1 : e2 eqD (.sl 4) (.ex (eLst [])) [x0, x1, some (false, .int n), x3, some (false, .lst (zL l))] = some ((false, .bl (decide (l = []))), [x0, x1, some (false, .int n), x3, some (false, .lst (zL l))]) := by
    show ((eqD (.lst (zL l)) (.lst [])).bind fun w => some (w, _)) = _
    unfold eqD
    rw [eqL0]
    rfl
  rw [h1]
  by_cases h : l = []
  · subst h
    rfl
  · rw [decide_eq_false h]
    have e : ixD (.lst (zL l)) (.int (-1)) = (l.getLast?.map PI.D.int).bind fun e => some (false, e) := by
      show (atI (zL l) (-1)).bind _ = _
      rw [at_last, zL_last]
    have h2 : e2 ixD (.sl 4) (.ex (e1 negD (.ex (eC (.int 1))))) [x0, x1, some (false, .int n), x3, some (false, .lst (zL l))] = (l.getLast?.map PI.D.int).bind fun d => some ((false, d), [x0, x1, some (false, .int n), x3, some (false, .lst (zL l))]) := by
      show (ixD (.lst (zL l)) (.int (-1))).bind _ = _
      rw [e]
      cases l.getLast? <;> rfl
    show ((e2 ixD (.sl 4) (.ex (e1 negD (.ex (eC (.int 1))))) [x0, x1, some (false, .int n), x3, some (false, .lst (zL l))]).bind fun r => some (Op.val r.1.2, r.2)).bind _ = _
    rw [h2]
    cases hl : l.getLast? with
    | none => exact absurd (List.getLast?_eq_none_iff.mp hl) h
    | some y =>
      have : fits l n = decide (y < n) := by unfold fits; rw [hl]
      rw [this]
      rfl
theorem freeQ (x0 x1 x2 x4 : Option (Bool × PI.D)) (fs : List (List Int)) : eFreeQ [x0, x1, x2, some (false, .lst (fs.map fun l => PI.D.lst (zL l))), x4] = some ((false, .bl (!decide (fs = []))), [x0, x1, x2, some (false, .lst (fs.map fun l => PI.D.lst (zL l))), x4]) := by
  show ((neD (.lst (fs.map fun l => PI.D.lst (zL l))) (.lst [])).bind fun w => some (w, _)) = _
  unfold neD
  rw [eqB_lst0 enc_zl (by decide)]
  rfl
abbrev rTupQ (K : PySem.W.Frag) : List V → Hp → VK → Prop := fun xs H Q => ∃ p ys, xs = [.ref p] ∧ ((SqL K H p ys ∧ ∀ l, H l = none → Q (.ref l) (upd H l (.tup ys))) ∨ (SqT K H p ys ∧ Q (.ref p) H))
def tLoopQ (K : PySem.W.Frag) : TS := tSeq (tAsg (tLc (iTup K (tVar 1)) (gName 4) (STr K eTestQ) (tVar 4) [4]) (gName 3)) (tSeq (tAsg (tIf (STr K eFreeQ) (tOp (rIxL K) (tVar 3) (tC (.int 0))) (tOp (rIxT K) (tVar 1) (tC (.int 0)))) (gName 4)) (tDrop (tBM K "list" rAppend (tVar 4) (tCons (tVar 2) tNil))))
def tBodyQ (K : PySem.W.Frag) : TS := tSeq (tAsg (tTup (tCons (tLst tNil) (tCons (tLst tNil) tNil))) (gName 1)) (tSeq (tFor (iTup K (tVar 0)) (gName 2) (tLoopQ K))
  (tRet (tCB (rTupQ K) (tCons (tCall (spOf K [false, false] c_merged) [] E0 (tCons (tOp (rIxT K) (tVar 1) (tC (.int 0))) (tCons (tOp (rIxT K) (tVar 1) (tC (.int 1))) tNil))) tNil))))
/-- both rows, in their places -/
structure QH (A B T : Addr) (H0 : Hp) (p : List Int × List Int) (H : Hp) : Prop where
  hT : H T = some (.tup [.ref A, .ref B])
  hA : H A = some (.lst (p.1.map V.int))
  hB : H B = some (.lst (p.2.map V.int))
  old : ∀ a o, H0 a = some o → H a = some o
theorem QH.grow {A B T : Addr} {H0 H H' : Hp} {p : List Int × List Int} (q : QH A B T H0 p H) (h : ∀ a o, H a = some o → H' a = some o) : QH A B T H0 p H' := ⟨h _ _ q.hT, h _ _ q.hA, h _ _ q.hB, fun a o e => h _ _ (q.old a o e)⟩
theorem rep_row {C : Addr} {H : Hp} {l : List Int} (h : H C = some (.lst (l.map V.int))) : Rep K (fun _ => False) H (.ref C) (.lst (zL l)) := .lst h id (.ints l)
theorem pure_loopQ {A B T a0 : Addr} {H0 H : Hp} {n : Int} {p : List Int × List Int} {x3 x4 : Option V} {D : Ends} (hAB : A ≠ B) (hAT : A ≠ T) (hBT : B ≠ T) (nA : H0 A = none) (nB : H0 B = none) (hz1 : p.1.length < 1000) (hz2 : p.2.length < 1000) (q : QH A B T H0 p H)
    (hD : ∀ x3 x4 H', QH A B T H0 (qStep p n) H' → D.nx [some (.ref a0), some (.ref T), some (.int n), x3, x4] H') : tLoopQ K D [some (.ref a0), some (.ref T), some (.int n), x3, x4] H := by
  obtain ⟨l1, l2⟩ := p
  let rows : List (Addr × List Int) := [(A, l1), (B, l2)]
  refine ⟨.ref T, rfl, T, rfl, ⟨[.ref A, .ref B], .inl (.inl q.hT)⟩, fun L hL => ?_⟩
  have qL : QH A B T H0 (l1, l2) (upd H L (.lst [])) := q.grow (keep_upd hL)
  have LA : A ≠ L := fun e => by rw [← e, q.hA] at hL; cases hL
  have LB : B ≠ L := fun e => by rw [← e, q.hB] at hL; cases hL
  have LT : T ≠ L := fun e => by rw [← e, q.hT] at hL; cases hL
  have LO : ∀ a o, H0 a = some o → a ≠ L := fun a o z e => by rw [← e, q.old a o z] at hL; cases hL
  let acc : Nat → List (Addr × List Int) := fun i => (rows.take i).filter fun r => fits r.2 n
  have key := lc_it (J := Itt K T) (n := [V.ref A, V.ref B].length) (G := fun H => SqT K H T [.ref A, .ref B]) (Y := YAt [.ref A, .ref B]) walk_tup (g := gName 4) (tt := STr K eTestQ) (te := tVar 4) (vs := [4]) (σ := [some (V.ref a0), some (V.ref T), some (V.int n), x3, x4]) (H1 := H) (D := L)
    (Qd := fun H1 => gName 3 (.ref L) [some (.ref a0), some (.ref T), some (.int n), x3, x4] H1 fun σ1 H1 => (tSeq (tAsg (tIf (STr K eFreeQ) (tOp (rIxL K) (tVar 3) (tC (.int 0))) (tOp (rIxT K) (tVar 1) (tC (.int 0)))) (gName 4)) (tDrop (tBM K "list" rAppend (tVar 4) (tCons (tVar 2) tNil)))) D σ1 H1)
    (fun i H' => QH A B T H0 (l1, l2) H' ∧ H' L = some (.lst ((acc i).map fun r => V.ref r.1))) ⟨qL, upd_same⟩ (fun i H' hi hP => .inl (.inl hP.1.hT)) (fun i x H' H2 hi hP hY => ?_) (fun H' hP => ?_)
  · exact key
  · obtain ⟨rfl, hx⟩ := hY
    obtain ⟨qi, hLi⟩ := hP
    have row : ∃ C l, rows[i]? = some (C, l) ∧ x = .ref C ∧ H2 C = some (.lst (l.map V.int)) := by
      have hi : i < 2 := hi
      rcases (by omega : i = 0 ∨ i = 1) with rfl | rfl
      · cases hx
        exact ⟨A, l1, rfl, rfl, qi.hA⟩
      · cases hx
        exact ⟨B, l2, rfl, rfl, qi.hB⟩
    obtain ⟨C, l, hr, rfl, hC⟩ := row
    have st : acc (i + 1) = acc i ++ (if fits l n then [(C, l)] else []) := by
      show (rows.take (i + 1)).filter _ = (rows.take i).filter _ ++ _
      rw [List.take_add_one, List.filter_append, hr]
      congr 1
      show List.filter (fun r => fits r.2 n) [(C, l)] = _
      cases hf : fits l n <;> simp [hf]
    refine ⟨rfl, Z0, [none, none, some (false, .int n), none, some (false, .lst (zL l))], false, fits l n, _, re_flat rfl (fun j y e => ?_), testQ _ _ _ l n, fun H3 R3 t3 => ?_⟩
    · rcases j with _ | _ | _ | _ | _ | j
      · cases e
      · cases e
      · cases e
        exact ⟨rfl, .int n, rfl, .int n⟩
      · cases e
      · cases e
        exact ⟨rfl, .ref C, rfl, rep_row hC⟩
      · cases e
    · have gr : ∀ a o, H2 a = some o → H3 a = some o := fun a o z => t3.keep a o z fun ⟨j, d, e, _⟩ => by
        rcases j with _ | _ | _ | _ | _ | j <;> cases e
      have q3 := qi.grow gr
      cases hf : fits l n with
      | false =>
        rw [hf] at st
        refine iteF ⟨q3, ?_⟩
        rw [st, if_neg (by decide), List.append_nil]
        exact gr _ _ hLi
      | true =>
        rw [hf] at st
        refine iteT ⟨.ref C, rfl, _, gr _ _ hLi, ?_, ?_, ?_⟩
        · rw [List.length_map]
          have h1 : (acc i).length ≤ (rows.take i).length := List.length_filter_le _ _
          have h2 : (rows.take i).length ≤ 2 := by rw [List.length_take]; exact Nat.min_le_right _ _
          have h3 : (2 : Nat) < sizeLine := by decide
          omega
        · refine ⟨?_, ?_, ?_, fun a o z => ?_⟩
          · rw [upd_ne LT]; exact q3.hT
          · rw [upd_ne LA]; exact q3.hA
          · rw [upd_ne LB]; exact q3.hB
          · rw [upd_ne (LO a o z)]; exact q3.old a o z
        · rw [upd_same, st, if_pos rfl, List.map_append]
          rfl
  · obtain ⟨qi, hLi⟩ := hP
    have e2 : acc [V.ref A, V.ref B].length = rows.filter fun r => fits r.2 n := rfl
    rw [e2] at hLi
    let fs := rows.filter fun r => fits r.2 n
    have hrep : RepAll K (fun _ => False) H' (fs.map fun r => V.ref r.1) ((fs.map (·.2)).map fun l => PI.D.lst (zL l)) := by
      have all : ∀ r ∈ fs, H' r.1 = some (.lst (r.2.map V.int)) := fun r hr => by
        have hr := (List.mem_filter.mp hr).1
        rcases List.mem_cons.mp hr with rfl | hr
        · exact qi.hA
        · rcases List.mem_cons.mp hr with rfl | hr
          · exact qi.hB
          · cases hr
      revert all
      generalize fs = gs
      intro all
      induction gs with
      | nil => exact .nil
      | cons r gs ih => exact .cons (rep_row (all r List.mem_cons_self)) (ih fun r' h => all r' (List.mem_cons_of_mem _ h))
    refine ⟨Z0, [none, none, none, some (false, .lst ((fs.map (·.2)).map fun l => PI.D.lst (zL l))), none], false, !decide (fs.map (·.2) = []), _, re_flat rfl (fun j y e => ?_), freeQ _ _ _ _ _, fun H3 R3 t3 => ?_⟩
    · rcases j with _ | _ | _ | _ | _ | j
      · cases e
      · cases e
      · cases e
      · cases e
        exact ⟨rfl, .ref L, rfl, .lst hLi id hrep⟩
      · cases e
      · cases e
    · have gr : ∀ a o, H' a = some o → H3 a = some o := fun a o z => t3.keep a o z fun ⟨j, d, e, _⟩ => by
        rcases j with _ | _ | _ | _ | _ | j <;> cases e
      have q3 := qi.grow gr
      have hL3 := gr _ _ hLi
      have app1 : ∀ y3, (tDrop (tBM K "list" rAppend (tVar 4) (tCons (tVar 2) tNil))) D [some (.ref a0), some (.ref T), some (.int n), y3, some (.ref A)] H3 ∨ qStep (l1, l2) n ≠ (l1 ++ [n], l2) := fun y3 => by
        by_cases hq : qStep (l1, l2) n = (l1 ++ [n], l2)
        · refine .inl ⟨.ref A, rfl, .inl ⟨rfl, _, .inl (.inl q3.hA)⟩, .int n, rfl, A, _, _, rfl, rfl, q3.hA, ?_, ?_⟩
          · rw [List.length_map]
            exact Nat.lt_trans hz1 (by decide)
          · refine hD _ _ _ ?_
            rw [hq]
            refine ⟨?_, ?_, ?_, fun a o z => ?_⟩
            · rw [upd_ne hAT.symm]; exact q3.hT
            · rw [upd_same, List.map_append]; rfl
            · rw [upd_ne hAB.symm]; exact q3.hB
            · rw [upd_ne fun e => by rw [e, nA] at z; cases z]; exact q3.old a o z
        · exact .inr hq
      have app2 : ∀ y3, (tDrop (tBM K "list" rAppend (tVar 4) (tCons (tVar 2) tNil))) D [some (.ref a0), some (.ref T), some (.int n), y3, some (.ref B)] H3 ∨ qStep (l1, l2) n ≠ (l1, l2 ++ [n]) := fun y3 => by
        by_cases hq : qStep (l1, l2) n = (l1, l2 ++ [n])
        · refine .inl ⟨.ref B, rfl, .inl ⟨rfl, _, .inl (.inl q3.hB)⟩, .int n, rfl, B, _, _, rfl, rfl, q3.hB, ?_, ?_⟩
          · rw [List.length_map]
            exact Nat.lt_trans hz2 (by decide)
          · refine hD _ _ _ ?_
            rw [hq]
            refine ⟨?_, ?_, ?_, fun a o z => ?_⟩
            · rw [upd_ne hBT.symm]; exact q3.hT
            · rw [upd_ne hAB]; exact q3.hA
            · rw [upd_same, List.map_append]; rfl
            · rw [upd_ne fun e => by rw [e, nB] at z; cases z]; exact q3.old a o z
        · exact .inr hq
      cases h1 : fits l1 n with
      | true =>
        have ef : fs = (A, l1) :: ([(B, l2)].filter fun r => fits r.2 n) := by
          show List.filter _ _ = _
          rw [List.filter_cons_of_pos (by exact h1)]
        have eq1 : qStep (l1, l2) n = (l1 ++ [n], l2) := by unfold qStep; rw [if_pos h1]
        have hd : (!decide (fs.map (·.2) = [])) = true := by rw [ef]; rfl
        rw [hd]
        refine iteT ⟨.ref L, rfl, L, _, 0, .ref A, rfl, rfl, .inl (.inl hL3), ?_, (app1 _).resolve_right fun z => z eq1⟩
        rw [at_0]
        show (fs.map _)[0]? = _
        rw [ef]
        rfl
      | false =>
        cases h2 : fits l2 n with
        | true =>
          have ef : fs = [(B, l2)] := by
            show List.filter _ _ = _
            rw [List.filter_cons_of_neg (by simp [h1]), List.filter_cons_of_pos (by exact h2)]
            rfl
          have eq1 : qStep (l1, l2) n = (l1, l2 ++ [n]) := by unfold qStep; rw [if_neg (by simp [h1]), if_pos h2]
          have hd : (!decide (fs.map (·.2) = [])) = true := by rw [ef]; rfl
          rw [hd]
          refine iteT ⟨.ref L, rfl, L, _, 0, .ref B, rfl, rfl, .inl (.inl hL3), ?_, (app2 _).resolve_right fun z => z eq1⟩
          rw [at_0]
          show (fs.map _)[0]? = _
          rw [ef]
          rfl
        | false =>
          have ef : fs = [] := by
            show List.filter _ _ = _
            rw [List.filter_cons_of_neg (by simp [h1]), List.filter_cons_of_neg (by simp [h2])]
            rfl
          have eq1 : qStep (l1, l2) n = (l1 ++ [n], l2) := by unfold qStep; rw [if_neg (by simp [h1]), if_neg (by simp [h2])]
          have hd : (!decide (fs.map (·.2) = [])) = false := by rw [ef]; rfl
          rw [hd]
          exact iteF ⟨.ref T, rfl, T, _, 0, .ref A, rfl, rfl, .inl (.inl q3.hT), rfl, (app1 _).resolve_right fun z => z eq1⟩
theorem qRows_len (is : List Int) : (qRows is).1.length ≤ is.length ∧ (qRows is).2.length ≤ is.length := by
  have key : ∀ (is : List Int) (p : List Int × List Int), (is.foldl qStep p).1.length ≤ p.1.length + is.length ∧ (is.foldl qStep p).2.length ≤ p.2.length + is.length := by
    intro is
    induction is with
    | nil => intro p; exact ⟨Nat.le_refl _, Nat.le_refl _⟩
    | cons x is ih =>
      intro p
      have st : (qStep p x).1.length ≤ p.1.length + 1 ∧ (qStep p x).2.length ≤ p.2.length + 1 := by
        unfold qStep
        split
        · exact ⟨by simp, by simp⟩
        · split
          · exact ⟨by simp, by simp⟩
          · exact ⟨by simp, by simp⟩
      obtain ⟨h1, h2⟩ := ih (qStep p x)
      rw [List.foldl_cons, List.length_cons]
      exact ⟨by omega, by omega⟩
  have := key is ([], [])
  simpa [qRows] using this
theorem qRows_take {is : List Int} {i : Nat} {x : Int} (h : is[i]? = some x) : qRows (is.take (i + 1)) = qStep (qRows (is.take i)) x := by
  unfold qRows
  rw [List.take_add_one, h, List.foldl_append]
  rfl
theorem pure_bodyQ {vs : List V} {H : Hp} {Q : VK} {E : XK} (h : spOf K [false] c_by_queues vs H Q E) : tBodyQ K { nx := fun _ H' => Q .non H', rt := Q } (L2.start N_by_queues vs) H := by
  obtain ⟨S, ds, w', outs, hS, hM, hA, nd, hf, q⟩ := h
  cases hA with
  | cons a1 a2 =>
    cases a2
    rename_i v d
    have a1 : Rep K S H v d := a1
    cases d with
    | tup es =>
      have hf : ((toInts es).bind fun is => if is.length < 1000 then (c_merged [.lst (zL (qRows is).1), .lst (zL (qRows is).2)]).bind fun r => match r.1 with
        | (true, .lst m) => some ((false, .tup m), [])
        | _ => none
        else none) = some (w', outs) := hf
      obtain ⟨is, hi, hf⟩ := obind hf
      split at hf
      · rename_i hlen
        obtain ⟨⟨⟨fr, dm⟩, om⟩, hm, hf⟩ := obind hf
        have key : ∃ m, fr = true ∧ dm = .lst m ∧ w' = (false, .tup m) ∧ outs = [] := by
          cases fr with
          | false => cases dm <;> cases hf
          | true =>
            cases dm with
            | lst m =>
              cases hf
              exact ⟨m, rfl, rfl, rfl, rfl⟩
            | _ => cases hf
        obtain ⟨m, rfl, rfl, rfl, rfl⟩ := key
        obtain ⟨a0, us, rfl, ta, ra⟩ := a1.tupD
        have e0 := toInts_ok hi
        subst e0
        have e1 := ra.of_ints
        subst e1
        refine ⟨Nat.zero_le _, fun A hA0 => ⟨Nat.zero_le _, fun B hB0 => ⟨show 2 ≤ sizeLine by decide, fun T hT0 => ?_⟩⟩⟩
        have hBA : B ≠ A := fun e => by rw [e, upd_same] at hB0; cases hB0
        have hB1 : H B = none := by rw [upd_ne hBA] at hB0; exact hB0
        have hTB : T ≠ B := fun e => by rw [e, upd_same] at hT0; cases hT0
        rw [upd_ne hTB] at hT0
        have hTA : T ≠ A := fun e => by rw [e, upd_same] at hT0; cases hT0
        rw [upd_ne hTA] at hT0
        have q0 : QH A B T H ([], []) (upd (upd (upd H A (.lst [])) B (.lst [])) T (.tup [.ref A, .ref B])) := by
          refine ⟨upd_same, ?_, ?_, fun a o z => ?_⟩
          · rw [upd_ne hTA.symm, upd_ne hBA.symm, upd_same]; rfl
          · rw [upd_ne hTB.symm, upd_same]; rfl
          · have nT : a ≠ T := fun e => by rw [e, hT0] at z; cases z
            have nB : a ≠ B := fun e => by rw [e, hB1] at z; cases z
            have nA : a ≠ A := fun e => by rw [e, hA0] at z; cases z
            rw [upd_ne nT, upd_ne nB, upd_ne nA]
            exact z
        have sq : ∀ {p H'}, QH A B T H p H' → SqT K H' a0 (is.map V.int) := fun {p H'} qh => (ta.step (S' := fun _ => False) (fun a o z _ => qh.old a o z) fun a z => z.elim).sq
        refine ⟨.ref a0, rfl, a0, rfl, ⟨_, sq q0⟩, for_it walk_tup (fun k σ' H' => (∃ x2 x3 x4, σ' = [some (.ref a0), some (.ref T), x2, x3, x4]) ∧ QH A B T H (qRows (is.take k)) H') ⟨⟨_, _, _, rfl⟩, by rw [List.take_zero]; exact q0⟩ (fun i σ' H' _ hP => sq hP.2) (fun i x σ' H' H2 hi hP hY => ?_) fun σ' H' hP => ?_⟩
        · obtain ⟨rfl, hx⟩ := hY
          obtain ⟨⟨x2, x3, x4, rfl⟩, qi⟩ := hP
          rw [List.getElem?_map] at hx
          cases hz : is[i]? with
          | none =>
            rw [hz] at hx
            cases hx
          | some z =>
            rw [hz] at hx
            cases hx
            have hl := qRows_len (is.take i)
            have hl2 : (is.take i).length ≤ is.length := by rw [List.length_take]; exact Nat.min_le_right _ _
            refine pure_loopQ hBA.symm hTA.symm hTB.symm hA0 hB1 (by omega) (by omega) qi fun y3 y4 H4 q4 => ?_
            refine ⟨⟨_, _, _, rfl⟩, ?_⟩
            rw [qRows_take hz]
            exact q4
        · obtain ⟨⟨x2, x3, x4, rfl⟩, qi⟩ := hP
          rw [List.length_map, List.take_length] at qi
          have nS : ∀ {C : Addr}, H C = none → ¬ S C := fun {C} hn z => hS C z hn
          refine ⟨.ref T, rfl, T, _, 0, .ref A, rfl, rfl, .inl (.inl qi.hT), rfl, .ref T, rfl, T, _, 1, .ref B, rfl, rfl, .inl (.inl qi.hT), rfl, S, [.lst (zL (qRows is).1), .lst (zL (qRows is).2)], _, _, fun a z => ?_, fun a z => (nomatch (show V.ref a ∈ ([] : List V) from z)),
            .cons (m := false) (.lst qi.hA (nS hA0) (.ints _)) (.cons (m := false) (.lst qi.hB (nS hB1) (.ints _)) .nil), .nil, hm, fun v H2 cp => ?_⟩
          · intro e
            cases z2 : H a with
            | none => exact hS a z z2
            | some o =>
              rw [qi.old a o z2] at e
              cases e
          · obtain ⟨a, us, xs, rfl, e2, h3, h4, h5⟩ := cp.new rfl
            cases e2
            have gr : ∀ b o, H b = some o → H2 b = some o := fun b o z => cp.keep b o (qi.old b o z) fun z => (nomatch (show V.ref b ∈ ([] : List V) from z))
            refine ⟨a, us, rfl, .inl ⟨.inl (.inl h4), fun l hl => q (.ref l) _ ⟨fun b o z _ => keep_upd hl b o (gr b o z), fun b z => ?_, .nil, fun _ => ?_, fun z => (nomatch z)⟩⟩⟩
            · cases z2 : H b with
              | none => exact absurd z2 z
              | some o =>
                rw [keep_upd hl b o (gr b o z2)]
                exact fun z => (nomatch z)
            · have nl : ¬ S l := fun z => by
                cases z2 : H l with
                | none => exact hS l z z2
                | some o =>
                  rw [gr l o z2] at hl
                  cases hl
              exact rep_tup hl nl (h5.less fun b z => .inl z)
      · cases hf
    | _ => cases hf
theorem ok_by_queues (M : Md w K mg) : Ok P w K mg base 2 "by_queues" (top 18) ["order"] [false] c_by_queues := by
  obtain ⟨a, fd, D⟩ := M.d_by_queues
  have nd := sc_by_queues.nd
  obtain ⟨am, fm, Fm, Dm⟩ := (ok_merged (P := P) (base := base) M).ex
  refine ⟨a, fd, D.fn.ok sc_by_queues (fun vs H Q E h => ?_) (fun cdv A outer s H vs Q E hr h => ⟨tBodyQ K, PSs.nox ?_, pure_bodyQ h⟩), D⟩
  · obtain ⟨S', ds, w', outs, _, _, hA, _⟩ := h
    exact hA.len1.1
  · exact pss_cons (ps_set (i := 1) nd rfl (by first | exact .inl rfl | exact .inr rfl) (pe_tup (pa_cons (pe_lst pa_nil) (pa_cons (pe_lst pa_nil) pa_nil))))
      (pss_cons (ps_for .never rfl (pi_tup (pv 0)) (pg_name nd (i := 2) rfl (by first | exact .inl rfl | exact .inr rfl))
        (pss_cons (ps_setLc (i := 3) rfl nd rfl rfl (sw_true rfl rfl rfl rfl) (pi_tup (pv 1)) (blkOk_by (own := [("row", 4)]) (by first | kernel_rfl | rfl)) (fun _ _ _ _ _ => pg_name nd (i := 4) rfl (by first | exact .inl rfl | exact .inr rfl))
            (fun _ _ _ _ _ => pts_one (PW.pt (st_or (st_cmp (op_eqA hr.units) p_eqD (so_var 4) (se_lst sv_nil)) (st_or1 (st_cmp op_lt p_ltD (se_ix ix_A p_ixD (so_var 4) (se_un un_neg p_negD se_int)) (so_var 2)))))) (fun _ _ _ _ _ => pv 4))
          (pss_cons (ps_set (i := 4) nd rfl (by first | exact .inl rfl | exact .inr rfl) (pe_ifExp (st_cmp (op_neA hr.units) p_neD (so_var 3) (se_lst sv_nil)) (pe_ix ix_list (pv 3) pe_int (fun _ _ => rfl)) (pe_ix ix_tup (pv 1) pe_int (fun _ _ => rfl))))
            (pss_one (ps_expr (pe_bm PySem.F.plainAttrs_list PySem.F.slot_list_append PySem.F.type_list_append mt_append (pv 4) (pa_cons (pv 2) pa_nil)))))))
        (pss_one (ps_ret (pe_callTy call_tuple_of rfl M.f_tuple bb_tuple (pa_cons (pe_call Fm (hr.mono (by decide)) rfl Dm.gl Dm.fn.kp (Dm.fn.bindsN fun _ _ _ _ _ _ us hl => match us, hl with | [_, _], _ => rfl) .nil pass0 (pa_cons (pe_ix ix_tup (pv 1) pe_int (fun _ _ => rfl)) (pa_cons (pe_ix ix_tup (pv 1) pe_int (fun _ _ => rfl)) pa_nil))) pa_nil)))))
end
end Wk

namespace Wk
open PySem PySem.Spec PyProof.Rows L2 PI
section
variable {P : Program} {w : World} {K : PySem.W.Frag} {mg : Str → Option Value} {base : Heap}

abbrev N_by_bubble : List Str := ["order", "left", "number"]
theorem sc_by_bubble : FnScope N_by_bubble ["order"] (defScope (top 19)) := ⟨rfl, rfl, rfl, by decide +kernel, rfl, by decide +kernel, by decide +kernel⟩
def fb1_by_bubble : SF := (sIf (eAnd (e2 neD (.sl 1) (.ex (eLst []))) (e2 ltD (.sl 2) (.ex (e2 ixD (.sl 1) (.ex (e1 negD (.ex (eC (.int 1))))))))) (sIns 1 (e2 subD (.ex (eN (c1 lenD) [(.sl 1)])) (.ex (eC (.int 1)))) (eVar 2)) (sApp 1 (eVar 2)))
def b_by_bubble : SF := (sSeq (sAsg [] 1 (eLst []))
  (sSeq (sFor [] [2] (srcA (eVar 0)) (tName 2)
  fb1_by_bubble)
  (sRet (eN (c1 tupleD) [(.sl 1)]))))
def c_by_bubble : Cal := runB [false] 3 b_by_bubble
theorem ok_by_bubble (M : Md w K mg) : Ok P w K mg base 1 "by_bubble" (top 19) ["order"] [false] c_by_bubble := by
  obtain ⟨a, fd, D⟩ := M.d_by_bubble
  have nd := sc_by_bubble.nd
  refine ok_of (N := N_by_bubble) (k := 0) (body := b_by_bubble) D sc_by_bubble rfl (by decide) (fun cdv A outer s H E hr => ?_) (fun _ _ _ h => h)
  exact (ss_cons (ss_asg 1 (se_lst sv_nil) nd)
  (ss_cons (ss_for (pi_any (se_var 0)) srcA_ok (pg_name nd (i := 2) rfl (by first | exact .inl rfl | exact .inr rfl)) (tg_name 2)
  (ss_one (ss_if (PW.pt (st_and (st_cmp (op_neA hr.units) p_neD (so_var 1) (se_lst sv_nil)) (st_and1 (st_cmp op_lt p_ltD (so_var 2) (se_ix ix_A p_ixD (so_var 1) (se_un un_neg p_negD se_int)))))) (ss_one (ss_ins 1 (se_op op_sub p_subD (se_callB call_len p_lenD M.f_len bb_len (sa_cons (so_var 1) sa_nil)) se_int) (se_var 2))) (ss_one (ss_app 1 (se_var 2))))) .never rfl)
  (ss_one (ss_ret (se_callTy call_tuple_of p_tupleD M.f_tuple bb_tuple (sa_cons (so_var 1) sa_nil))))))
abbrev N_made_by : List Str := ["sorter", "order"]
theorem sc_made_by : FnScope N_made_by ["sorter", "order"] (defScope (top 20)) := ⟨rfl, rfl, rfl, by decide +kernel, rfl, by decide +kernel, by decide +kernel⟩
def b_made_by : SF := (sSeq (sIf (e2 eqD (.sl 0) (.ex (eC (.str "stack")))) (sRet (eCall [false] c_by_stack [(.ex (eVar 1))])) sNext)
  (sSeq (sIf (e2 eqD (.sl 0) (.ex (eC (.str "popper")))) (sRet (eCall [false] c_by_popper [(.ex (eVar 1))])) sNext)
  (sRet (eIf (e2 eqD (.sl 0) (.ex (eC (.str "queues")))) (eCall [false] c_by_queues [(.ex (eVar 1))]) (eCall [false] c_by_bubble [(.ex (eVar 1))])))))
def c_made_by : Cal := runB [false, false] 2 b_made_by
theorem ok_made_by (M : Md w K mg) : Ok P w K mg base 3 "made_by" (top 20) ["sorter", "order"] [false, false] c_made_by := by
  obtain ⟨a, fd, D⟩ := M.d_made_by
  have nd := sc_made_by.nd
  refine ok_of (N := N_made_by) (k := 2) (body := b_made_by) D sc_made_by rfl (by decide) (fun cdv A outer s H E hr => ?_) (fun _ _ _ h => h)
  exact (ss_cons (ss_if (st_cmp (op_eqA hr.units) p_eqD (so_var 0) se_str) (ss_one (ss_ret (se_fn (ok_by_stack M) hr (sa_cons (so_ex (se_var 1)) sa_nil) (fun _ _ _ _ _ _ us hl => match us, hl with | [_], _ => rfl) ))) ss_nil)
  (ss_cons (ss_if (st_cmp (op_eqA hr.units) p_eqD (so_var 0) se_str) (ss_one (ss_ret (se_fn (ok_by_popper M) hr (sa_cons (so_ex (se_var 1)) sa_nil) (fun _ _ _ _ _ _ us hl => match us, hl with | [_], _ => rfl) ))) ss_nil)
  (ss_one (ss_ret (se_if (st_cmp (op_eqA hr.units) p_eqD (so_var 0) se_str) (se_fn (ok_by_queues M) hr (sa_cons (so_ex (se_var 1)) sa_nil) (fun _ _ _ _ _ _ us hl => match us, hl with | [_], _ => rfl) ) (se_fn (ok_by_bubble M) hr (sa_cons (so_ex (se_var 1)) sa_nil) (fun _ _ _ _ _ _ us hl => match us, hl with | [_], _ => rfl) ))))))
abbrev N_made : List Str := ["sorter", "order"]
theorem sc_made : FnScope N_made ["sorter", "order"] (defScope (top 23)) := ⟨rfl, rfl, rfl, by decide +kernel, rfl, by decide +kernel, by decide +kernel⟩
def b_made : SF := (sSeq (sExp (eCall [false] c_check_sorter [(.ex (eVar 0))]))
  (sSeq (sExp (eCall [false] c_check_order [(.ex (eVar 1))]))
  (sRet (eCall [false, false] c_made_by [(.ex (eVar 0)), (.ex (eVar 1))]))))
def c_made : Cal := runB [false, false] 2 b_made
theorem ok_made (M : Md w K mg) : Ok P w K mg base 6 "made" (top 23) ["sorter", "order"] [false, false] c_made := by
  obtain ⟨a, fd, D⟩ := M.d_made
  have nd := sc_made.nd
  refine ok_of (N := N_made) (k := 5) (body := b_made) D sc_made rfl (by decide) (fun cdv A outer s H E hr => ?_) (fun _ _ _ h => h)
  exact (ss_cons (ss_expr (se_fn (ok_check_sorter M) hr (sa_cons (so_ex (se_var 0)) sa_nil) (fun _ _ _ _ _ _ us hl => match us, hl with | [_], _ => rfl) ))
  (ss_cons (ss_expr (se_fn (ok_check_order M) hr (sa_cons (so_ex (se_var 1)) sa_nil) (fun _ _ _ _ _ _ us hl => match us, hl with | [_], _ => rfl) ))
  (ss_one (ss_ret (se_fn (ok_made_by M) hr (sa_cons (so_ex (se_var 0)) (sa_cons (so_ex (se_var 1)) sa_nil)) (fun _ _ _ _ _ _ us hl => match us, hl with | [_, _], _ => rfl) )))))
abbrev N_risen : List Str := ["n"]
theorem sc_risen : FnScope N_risen ["n"] (defScope (top 21)) := ⟨rfl, rfl, rfl, by decide +kernel, rfl, by decide +kernel, by decide +kernel⟩
def b_risen : SF := (sRet (e2 (rgD true) (.ex (eC (.int 1))) (.ex (e2 addD (.sl 0) (.ex (eC (.int 1)))))))
def c_risen : Cal := runB [false] 1 b_risen
theorem ok_risen (M : Md w K mg) : Ok P w K mg base 1 "risen" (top 21) ["n"] [false] c_risen := by
  obtain ⟨a, fd, D⟩ := M.d_risen
  have nd := sc_risen.nd
  refine ok_of (N := N_risen) (k := 0) (body := b_risen) D sc_risen rfl (by decide) (fun cdv A outer s H E hr => ?_) (fun _ _ _ h => h)
  exact (ss_one (ss_ret (se_tupRg2 (rg2 se_int (se_op op_addD p_addD (so_var 0) se_int) M.f_range) rfl M.f_tuple)))
abbrev N_does_sort : List Str := ["sorter", "order"]
theorem sc_does_sort : FnScope N_does_sort ["sorter", "order"] (defScope (top 22)) := ⟨rfl, rfl, rfl, by decide +kernel, rfl, by decide +kernel, by decide +kernel⟩
def b_does_sort : SF := (sRet (e2 eqD (.ex (eCall [false, false] c_made_by [(.ex (eVar 0)), (.ex (eVar 1))])) (.ex (eCall [false] c_risen [(.ex (eN (c1 lenD) [(.sl 1)]))]))))
def c_does_sort : Cal := runB [false, false] 2 b_does_sort
theorem ok_does_sort (M : Md w K mg) : Ok P w K mg base 4 "does_sort" (top 22) ["sorter", "order"] [false, false] c_does_sort := by
  obtain ⟨a, fd, D⟩ := M.d_does_sort
  have nd := sc_does_sort.nd
  refine ok_of (N := N_does_sort) (k := 3) (body := b_does_sort) D sc_does_sort rfl (by decide) (fun cdv A outer s H E hr => ?_) (fun _ _ _ h => h)
  exact (ss_one (ss_ret (se_cmp (op_eqA hr.units) p_eqD (se_fn (ok_made_by M) hr (sa_cons (so_ex (se_var 0)) (sa_cons (so_ex (se_var 1)) sa_nil)) (fun _ _ _ _ _ _ us hl => match us, hl with | [_, _], _ => rfl) ) (se_fn (ok_risen M) hr (sa_cons (so_ex (se_callB call_len p_lenD M.f_len bb_len (sa_cons (so_var 1) sa_nil))) sa_nil) (fun _ _ _ _ _ _ us hl => match us, hl with | [_], _ => rfl) ))))
abbrev N_sorts : List Str := ["sorter", "order"]
theorem sc_sorts : FnScope N_sorts ["sorter", "order"] (defScope (top 24)) := ⟨rfl, rfl, rfl, by decide +kernel, rfl, by decide +kernel, by decide +kernel⟩
def b_sorts : SF := (sSeq (sExp (eCall [false] c_check_sorter [(.ex (eVar 0))]))
  (sSeq (sExp (eCall [false] c_check_order [(.ex (eVar 1))]))
  (sRet (eCall [false, false] c_does_sort [(.ex (eVar 0)), (.ex (eVar 1))]))))
def c_sorts : Cal := runB [false, false] 2 b_sorts
theorem ok_sorts (M : Md w K mg) : Ok P w K mg base 6 "sorts" (top 24) ["sorter", "order"] [false, false] c_sorts := by
  obtain ⟨a, fd, D⟩ := M.d_sorts
  have nd := sc_sorts.nd
  refine ok_of (N := N_sorts) (k := 5) (body := b_sorts) D sc_sorts rfl (by decide) (fun cdv A outer s H E hr => ?_) (fun _ _ _ h => h)
  exact (ss_cons (ss_expr (se_fn (ok_check_sorter M) hr (sa_cons (so_ex (se_var 0)) sa_nil) (fun _ _ _ _ _ _ us hl => match us, hl with | [_], _ => rfl) ))
  (ss_cons (ss_expr (se_fn (ok_check_order M) hr (sa_cons (so_ex (se_var 1)) sa_nil) (fun _ _ _ _ _ _ us hl => match us, hl with | [_], _ => rfl) ))
  (ss_one (ss_ret (se_fn (ok_does_sort M) hr (sa_cons (so_ex (se_var 0)) (sa_cons (so_ex (se_var 1)) sa_nil)) (fun _ _ _ _ _ _ us hl => match us, hl with | [_, _], _ => rfl) )))))
abbrev N__law_right : List Str := ["sorter", "forbidden", "order", "due"]
theorem sc__law_right : FnScope N__law_right ["sorter", "forbidden", "order"] (defScope (top 37)) := ⟨rfl, rfl, rfl, by decide +kernel, rfl, by decide +kernel, by decide +kernel⟩
def b__law_right : SF := (sSeq (sAsg [] 3 (eCall [false, false] c__law_lets [(.ex (eVar 1)), (.ex (eVar 2))]))
  (sSeq (sIf (eNot (eCall [false, false] (c__law_same 4) [(.ex (eLst [(eCall [false, false] c_sorts [(.ex (eVar 0)), (.ex (eVar 2))]), (eCallK [false, false] c_sorts [(.ex (eVar 2)), (.ex (eVar 0))] [1, 0])])), (.ex (eLst [(eVar 3), (eVar 3)]))])) (sRet (eC (.bl false))) sNext)
  (sRet (eOr (eNot (eVar 3)) (eCall [false, false] (c__law_same 4) [(.ex (eCall [false, false] c_made [(.ex (eVar 0)), (.ex (eVar 2))])), (.ex (e2 (rgD true) (.ex (eC (.int 1))) (.ex (e2 addD (.ex (eN (c1 lenD) [(.sl 2)])) (.ex (eC (.int 1)))))))])))))
def c__law_right : Cal := runB [false, false, false] 4 b__law_right
theorem ok__law_right (M : Md w K mg) : Ok P w K mg base 7 "_law_right" (top 37) ["sorter", "forbidden", "order"] [false, false, false] c__law_right := by
  obtain ⟨a, fd, D⟩ := M.d__law_right
  have nd := sc__law_right.nd
  refine ok_of (N := N__law_right) (k := 6) (body := b__law_right) D sc__law_right rfl (by decide) (fun cdv A outer s H E hr => ?_) (fun _ _ _ h => h)
  exact (ss_cons (ss_asg 3 (se_fn (ok__law_lets M) hr (sa_cons (so_ex (se_var 1)) (sa_cons (so_ex (se_var 2)) sa_nil)) (fun _ _ _ _ _ _ us hl => match us, hl with | [_, _], _ => rfl) ) nd)
  (ss_cons (ss_if (st_not (st_of (se_fn (ok__law_same M 4) hr (sa_cons (so_ex (se_lst (sv_cons (se_fn (ok_sorts M) hr (sa_cons (so_ex (se_var 0)) (sa_cons (so_ex (se_var 2)) sa_nil)) (fun _ _ _ _ _ _ us hl => match us, hl with | [_, _], _ => rfl) ) (sv_cons (se_fnK (is := [1, 0]) (ok_sorts M) hr (sk_cons (so_ex (se_var 2)) (sk_cons (so_ex (se_var 0)) sk_nil)) (fun _ _ _ _ _ _ ws hl => match ws, hl with | _ :: _ :: _, _ => rfl | [], hl => by simp [pick] at hl | [_], hl => by simp [pick] at hl) ) sv_nil)))) (sa_cons (so_ex (se_lst (sv_cons (se_var 3) (sv_cons (se_var 3) sv_nil)))) sa_nil)) (fun _ _ _ _ _ _ us hl => match us, hl with | [_, _], _ => rfl) ))) (ss_one (ss_ret se_bl)) ss_nil)
  (ss_one (ss_ret (se_or (se_not (se_var 3)) (se_one (se_fn (ok__law_same M 4) hr (sa_cons (so_ex (se_fn (ok_made M) hr (sa_cons (so_ex (se_var 0)) (sa_cons (so_ex (se_var 2)) sa_nil)) (fun _ _ _ _ _ _ us hl => match us, hl with | [_, _], _ => rfl) )) (sa_cons (so_ex (se_tupRg2 (rg2 se_int (se_op op_addD p_addD (se_callB call_len p_lenD M.f_len bb_len (sa_cons (so_var 2) sa_nil)) se_int) M.f_range) rfl M.f_tuple)) sa_nil)) (fun _ _ _ _ _ _ us hl => match us, hl with | [_, _], _ => rfl) )))))))
abbrev N_list_of : List Str := ["sorter"]
theorem sc_list_of : FnScope N_list_of ["sorter"] (defScope (top 25)) := ⟨rfl, rfl, rfl, by decide +kernel, rfl, by decide +kernel, by decide +kernel⟩
def b_list_of : SF := (sSeq (sExp (eCall [false] c_check_sorter [(.ex (eVar 0))]))
  (sRet (e1 (kgetD T_LISTS) (.sl 0))))
def c_list_of : Cal := runB [false] 1 b_list_of
theorem ok_list_of (M : Md w K mg) : Ok P w K mg base 3 "list_of" (top 25) ["sorter"] [false] c_list_of := by
  obtain ⟨a, fd, D⟩ := M.d_list_of
  have nd := sc_list_of.nd
  refine ok_of (N := N_list_of) (k := 2) (body := b_list_of) D sc_list_of rfl (by decide) (fun cdv A outer s H E hr => ?_) (fun _ _ _ h => h)
  exact (ss_cons (ss_expr (se_fn (ok_check_sorter M) hr (sa_cons (so_ex (se_var 0)) sa_nil) (fun _ _ _ _ _ _ us hl => match us, hl with | [_], _ => rfl) ))
  (ss_one (ss_ret (se_kget M.t_LISTS (so_var 0)))))
abbrev N__law_exchanged : List Str := ["order", "at", "other", "things"]
theorem sc__law_exchanged : FnScope N__law_exchanged ["order", "at", "other"] (defScope (top 36)) := ⟨rfl, rfl, rfl, by decide +kernel, rfl, by decide +kernel, by decide +kernel⟩
def b__law_exchanged : SF := (sSeq (sAsg [] 3 (eN (c1 listD) [(.sl 0)]))
  (sSeq (sSet 3 (eVar 1) (e2 ixD (.sl 0) (.sl 2)))
  (sSeq (sSet 3 (eVar 2) (e2 ixD (.sl 0) (.sl 1)))
  (sRet (eN (c1 tupleD) [(.sl 3)])))))
def c__law_exchanged : Cal := runB [false, false, false] 4 b__law_exchanged
theorem ok__law_exchanged (M : Md w K mg) : Ok P w K mg base 1 "_law_exchanged" (top 36) ["order", "at", "other"] [false, false, false] c__law_exchanged := by
  obtain ⟨a, fd, D⟩ := M.d__law_exchanged
  have nd := sc__law_exchanged.nd
  refine ok_of (N := N__law_exchanged) (k := 0) (body := b__law_exchanged) D sc__law_exchanged rfl (by decide) (fun cdv A outer s H E hr => ?_) (fun _ _ _ h => h)
  exact (ss_cons (ss_asg 3 (se_callTy call_list_of p_listD M.f_list bb_list (sa_cons (so_var 0) sa_nil)) nd)
  (ss_cons (ss_set 3 (se_ix ix_A p_ixD (so_var 0) (so_var 2)) (pg_sub (pv 3) (se_var 1) set_list))
  (ss_cons (ss_set 3 (se_ix ix_A p_ixD (so_var 0) (so_var 1)) (pg_sub (pv 3) (se_var 2) set_list))
  (ss_one (ss_ret (se_callTy call_tuple_of p_tupleD M.f_tuple bb_tuple (sa_cons (so_var 3) sa_nil)))))))
abbrev N_law : List Str := ["script", "sorter", "forbidden", "n", "order", "spot", "well", "at", "other"]
theorem sc_law : FnScope N_law ["script"] (defScope (top 38)) := ⟨rfl, rfl, rfl, by decide +kernel, rfl, by decide +kernel, by decide +kernel⟩
def fb1_law : SF := (sIf (eNot (eCall [false, false, false] c__law_right [(.ex (eVar 1)), (.ex (eVar 2)), (.ex (eVar 4))])) (sRet (eC (.bl false))) sNext)
def fb2_law : SF := (sFor [] [4] (srcA (eCall [false] c__law_orders [(.ex (eVar 3))])) (tName 4)
  fb1_law)
def fb3_law : SF := (sSeq (sIf (eNot (eCall [false, false] (c__law_same 4) [(.ex (eLst [(eCall [false] c_list_of [(.ex (eVar 1))]), (eCallK [false] c_list_of [(.ex (eVar 1))] [0])])), (.ex (eLst [(eVar 2), (eVar 2)]))])) (sRet (eC (.bl false))) sNext)
  (sFor [] [3] (srcR1 (eC (.int 6))) (tName 3)
  fb2_law))
def fb4_law : SF := (sSeq (sAsg [] 4 (eCall [true, false, false] c__law_let [(.sl 6), (.ex (eVar 2)), (.ex (e2 addD (.ex (eC (.int 6))) (.ex (eCall [true, false] c__law_dip [(.sl 6), (.ex (eC (.int 7)))]))))]))
  (sSeq (sIf (eNot (eCall [false, false, false] c__law_right [(.ex (eVar 1)), (.ex (eVar 2)), (.ex (eVar 4))])) (sRet (eC (.bl false))) sNext)
  (sSeq (sTgt [] [7, 8] (tTplA 2 (tsCons (tName 7) (tsCons (tName 8) tsNil))) (eN (c1 sortedD) [(.ex (eLst [(eCall [true, false] c__law_dip [(.sl 6), (.ex (eN (c1 lenD) [(.sl 4)]))]), (eCall [true, false] c__law_dip [(.sl 6), (.ex (eN (c1 lenD) [(.sl 4)]))])]))]))
  (sIf (eNot (eCall [false, false, false] c__law_right [(.ex (eVar 1)), (.ex (eVar 2)), (.ex (eCall [false, false, false] c__law_exchanged [(.ex (eVar 4)), (.ex (eVar 7)), (.ex (eVar 8))]))])) (sRet (eC (.bl false))) sNext))))
def fb5_law : SF := (sSeq (sAsg [] 6 (eCall [false, false] c__law_well [(.ex (eVar 0)), (.ex (eVar 5))]))
  (sFor [] [1, 2] (srcA (eCall [] c__law_lists [])) (tTplA 2 (tsCons (tName 1) (tsCons (tName 2) tsNil)))
  fb4_law))
def b_law : SF := (sSeq (sFor [] [1, 2] (srcA (eCall [] c__law_lists [])) (tTplA 2 (tsCons (tName 1) (tsCons (tName 2) tsNil)))
  fb3_law)
  (sSeq (sFor [] [5] (srcR1 (eN (c2 max2D) [(.ex (eC (.int 1))), (.ex (eN (c2 min2D) [(.ex (eC (.int 6))), (.ex (eN (c1 lenD) [(.sl 0)]))]))])) (tName 5)
  fb5_law)
  (sRet (eC (.bl true)))))
def c_law : Cal := runB [false] 9 b_law
theorem ok_law (M : Md w K mg) : Ok P w K mg base 8 "law" (top 38) ["script"] [false] c_law := by
  obtain ⟨a, fd, D⟩ := M.d_law
  have nd := sc_law.nd
  refine ok_of (N := N_law) (k := 7) (body := b_law) D sc_law rfl (by decide) (fun cdv A outer s H E hr => ?_) (fun _ _ _ h => h)
  exact (ss_cons (ss_for (pi_any (se_fn0 (ok__law_lists M) hr (fun _ _ _ _ _ _ us hl => match us, hl with | [], _ => rfl) )) srcA_ok (pg_tupA rfl (pgs_cons (pg_name nd (i := 1) rfl (by first | exact .inl rfl | exact .inr rfl)) (pgs_cons (pg_name nd (i := 2) rfl (by first | exact .inl rfl | exact .inr rfl)) pgs_nil))) (tg_tupA (tgs_cons (tg_name 1) (tgs_cons (tg_name 2) tgs_nil)))
  (ss_cons (ss_if (st_not (st_of (se_fn (ok__law_same M 4) hr (sa_cons (so_ex (se_lst (sv_cons (se_fn (ok_list_of M) hr (sa_cons (so_ex (se_var 1)) sa_nil) (fun _ _ _ _ _ _ us hl => match us, hl with | [_], _ => rfl) ) (sv_cons (se_fnK (is := [0]) (ok_list_of M) hr (sk_cons (so_ex (se_var 1)) sk_nil) (fun _ _ _ _ _ _ ws hl => match ws, hl with | _ :: _, _ => rfl | [], hl => by simp [pick] at hl) ) sv_nil)))) (sa_cons (so_ex (se_lst (sv_cons (se_var 2) (sv_cons (se_var 2) sv_nil)))) sa_nil)) (fun _ _ _ _ _ _ us hl => match us, hl with | [_, _], _ => rfl) ))) (ss_one (ss_ret se_bl)) ss_nil)
  (ss_one (ss_for (pi_rg1 se_int M.f_range) srcR1_ok (pg_name nd (i := 3) rfl (by first | exact .inl rfl | exact .inr rfl)) (tg_name 3)
  (ss_one (ss_for (pi_any (se_fn (ok__law_orders M) hr (sa_cons (so_ex (se_var 3)) sa_nil) (fun _ _ _ _ _ _ us hl => match us, hl with | [_], _ => rfl) )) srcA_ok (pg_name nd (i := 4) rfl (by first | exact .inl rfl | exact .inr rfl)) (tg_name 4)
  (ss_one (ss_if (st_not (st_of (se_fn (ok__law_right M) hr (sa_cons (so_ex (se_var 1)) (sa_cons (so_ex (se_var 2)) (sa_cons (so_ex (se_var 4)) sa_nil))) (fun _ _ _ _ _ _ us hl => match us, hl with | [_, _, _], _ => rfl) ))) (ss_one (ss_ret se_bl)) ss_nil)) .never rfl)) .never rfl))) .never rfl)
  (ss_cons (ss_for (pi_rg1 (se_callB (call_max2 rfl) p_max2D M.f_max bb_max (sa_cons se_int (sa_cons (se_callB (call_min2 rfl) p_min2D M.f_min bb_min (sa_cons se_int (sa_cons (se_callB call_len p_lenD M.f_len bb_len (sa_cons (so_var 0) sa_nil)) sa_nil))) sa_nil))) M.f_range) srcR1_ok (pg_name nd (i := 5) rfl (by first | exact .inl rfl | exact .inr rfl)) (tg_name 5)
  (ss_cons (ss_asg 6 (se_fn (ok__law_well M) hr (sa_cons (so_ex (se_var 0)) (sa_cons (so_ex (se_var 5)) sa_nil)) (fun _ _ _ _ _ _ us hl => match us, hl with | [_, _], _ => rfl) ) nd)
  (ss_one (ss_for (pi_any (se_fn0 (ok__law_lists M) hr (fun _ _ _ _ _ _ us hl => match us, hl with | [], _ => rfl) )) srcA_ok (pg_tupA rfl (pgs_cons (pg_name nd (i := 1) rfl (by first | exact .inl rfl | exact .inr rfl)) (pgs_cons (pg_name nd (i := 2) rfl (by first | exact .inl rfl | exact .inr rfl)) pgs_nil))) (tg_tupA (tgs_cons (tg_name 1) (tgs_cons (tg_name 2) tgs_nil)))
  (ss_cons (ss_asg 4 (se_fn (ok__law_let M) hr (sa_cons (so_var 6) (sa_cons (so_ex (se_var 2)) (sa_cons (so_ex (se_op op_addD p_addD se_int (se_fn (ok__law_dip M) hr (sa_cons (so_var 6) (sa_cons (so_ex se_int) sa_nil)) (fun _ _ _ _ _ _ us hl => match us, hl with | [_, _], _ => rfl) ))) sa_nil))) (fun _ _ _ _ _ _ us hl => match us, hl with | [_, _, _], _ => rfl) ) nd)
  (ss_cons (ss_if (st_not (st_of (se_fn (ok__law_right M) hr (sa_cons (so_ex (se_var 1)) (sa_cons (so_ex (se_var 2)) (sa_cons (so_ex (se_var 4)) sa_nil))) (fun _ _ _ _ _ _ us hl => match us, hl with | [_, _, _], _ => rfl) ))) (ss_one (ss_ret se_bl)) ss_nil)
  (ss_cons (ss_tgt (tg_tupA (tgs_cons (tg_name 7) (tgs_cons (tg_name 8) tgs_nil))) (se_callB cr_sortA p_sortedD M.f_sorted bb_sorted (sa_cons (se_lst (sv_cons (se_fn (ok__law_dip M) hr (sa_cons (so_var 6) (sa_cons (so_ex (se_callB call_len p_lenD M.f_len bb_len (sa_cons (so_var 4) sa_nil))) sa_nil)) (fun _ _ _ _ _ _ us hl => match us, hl with | [_, _], _ => rfl) ) (sv_cons (se_fn (ok__law_dip M) hr (sa_cons (so_var 6) (sa_cons (so_ex (se_callB call_len p_lenD M.f_len bb_len (sa_cons (so_var 4) sa_nil))) sa_nil)) (fun _ _ _ _ _ _ us hl => match us, hl with | [_, _], _ => rfl) ) sv_nil))) sa_nil)) (pg_tupA rfl (pgs_cons (pg_name nd (i := 7) rfl (by first | exact .inl rfl | exact .inr rfl)) (pgs_cons (pg_name nd (i := 8) rfl (by first | exact .inl rfl | exact .inr rfl)) pgs_nil))))
  (ss_one (ss_if (st_not (st_of (se_fn (ok__law_right M) hr (sa_cons (so_ex (se_var 1)) (sa_cons (so_ex (se_var 2)) (sa_cons (so_ex (se_fn (ok__law_exchanged M) hr (sa_cons (so_ex (se_var 4)) (sa_cons (so_ex (se_var 7)) (sa_cons (so_ex (se_var 8)) sa_nil))) (fun _ _ _ _ _ _ us hl => match us, hl with | [_, _, _], _ => rfl) )) sa_nil))) (fun _ _ _ _ _ _ us hl => match us, hl with | [_, _, _], _ => rfl) ))) (ss_one (ss_ret se_bl)) ss_nil))))) .never rfl))) .never rfl)
  (ss_one (ss_ret se_bl))))
end
end Wk

namespace Hd
open PySem PySem.Spec PyProof.Rows L2 Wk
def dOf (x : Str) (i : Nat) : He.DefD := ⟨(x, none), x, x, defArgs (top i), defBody (top i), defScope (top i), [], []⟩
def fn_0 : List He.DefD := [dOf "_law_lists" 34, dOf "_law_well" 27, dOf "_law_same" 29, dOf "_law_orders" 32, dOf "_law_dip" 28, dOf "_law_shows" 30, dOf "_law_lets" 31, dOf "_law_let" 35, dOf "is_sorter" 12, dOf "check_sorter" 13, dOf "is_integer" 5, dOf "are_integers" 6, dOf "is_order_of" 7, dOf "is_order" 9, dOf "check_order" 14, dOf "by_stack" 15, dOf "by_popper" 16, dOf "merged" 17, dOf "by_queues" 18, dOf "by_bubble" 19, dOf "made_by" 20, dOf "made" 23, dOf "risen" 21, dOf "does_sort" 22, dOf "sorts" 24, dOf "_law_right" 37, dOf "list_of" 25, dOf "_law_exchanged" 36, dOf "law" 38]
def fn : List He.DefD := fn_0
def fa_0 : List He.Fa := [.glo "_law_lists", .glo "_law_well", .glo "_law_same", .glo "_law_orders", .glo "_law_dip", .glo "_law_shows", .glo "_law_lets", .glo "_law_let", .glo "is_sorter", .glo "check_sorter", .glo "is_integer", .glo "are_integers", .glo "is_order_of", .glo "is_order", .glo "check_order", .glo "by_stack", .glo "by_popper", .glo "merged", .glo "by_queues", .glo "by_bubble", .glo "made_by", .glo "made", .glo "risen", .glo "does_sort", .glo "sorts", .glo "_law_right", .glo "list_of", .glo "_law_exchanged", .glo "law", .glo "LISTS"]
def fa_1 : List He.Fa := [.free "abs", .free "all", .free "bool", .free "int", .free "isinstance", .free "len", .free "list", .free "max", .free "min", .free "range", .free "sorted", .free "str", .free "tuple"]
def fa : List He.Fa := fa_0 ++ fa_1
def ts : List He.Tab := [((fun K => He.ga K "LISTS"), ["stack", "popper", "queues", "bubble"])]
def ex (K : PySem.W.Frag) : Bool := PI.tabB K "LISTS" T_LISTS
abbrev R : PySem.W.OpenRow := PySem.W.OpenLaw.row PySem.Challenge.rw_bannedorders_k38_whole_sorted_exactly_by
abbrev hk : PySem.W.Hook := He.hookX 5 fa fn ts [] ex
def ob (s : PySem.W.SharedT) : He.AlX := He.obsX 5 fa fn ts [] ex (HandSHeadRun.getT s)
theorem ob_eq (s : PySem.W.SharedT) : ob s = hk.obs s.abs := He.obsX_eq (HandSHeadRun.getT_eq s)
def loose_0 : List PySem.Str := ["InvalidOrder", "InvalidSorter", "LISTS", "OrderError", "_law_dip", "_law_exchanged", "_law_let", "_law_lets", "_law_lists", "_law_order", "_law_orders", "_law_right", "_law_same", "_law_shows", "_law_well", "are_integers", "by_bubble", "by_popper", "by_queues", "by_stack", "check_order", "check_sorter", "does_sort", "is_integer", "is_order", "is_order_of", "is_sorter", "list_of", "made", "made_by"]
def loose_1 : List PySem.Str := ["merged", "risen", "sorts"]
def loose : List PySem.Str := loose_0 ++ loose_1
theorem run (w : World) : HandSHeadRun.RunEq R (PySem.W.view R.prog [38]) hk ob 4000 loose w := by
  refine PySem.W.byRow2 "special-get-raises" (P := fun w => HandSHeadRun.RunEq R (PySem.W.view R.prog [38]) hk ob 4000 loose w) ?_ ?_ w
  · intro w os
    kernel_rfl
  · intro w os
    kernel_rfl
theorem md {w : World} {K : PySem.W.Frag} {h : Heap} {mg : Str → Option Value} (X : K.In h) (G : h.Ns mainGlobals mg) (c : He.SaysX fa fn ts [] ex w h K) : Md w K mg := by
  have d := c.t.d
  have more : ex K = true := c.more
  have at_ : ∀ (i j : Nat) (x : Str) (t : Nat), fn[i]? = some (dOf x t) → fa[j]? = some (.glo x) → ∃ (a : Addr) (fd : FuncData), PI.DefAt K mg x (top t) a fd := fun i j x t h1 h2 => by
    obtain ⟨fd, F⟩ := d.def_ i h1
    have g := He.glo_ok X G (d.fact j h2)
    have e : He.fAd K (x, none) = He.ga K x := rfl
    exact ⟨_, fd, F, g⟩
  exact ⟨He.free_ok X G (d.fact 30 (f := .free "abs") rfl),
    He.free_ok X G (d.fact 31 (f := .free "all") rfl),
    He.free_ok X G (d.fact 32 (f := .free "bool") rfl),
    He.free_ok X G (d.fact 33 (f := .free "int") rfl),
    He.free_ok X G (d.fact 34 (f := .free "isinstance") rfl),
    He.free_ok X G (d.fact 35 (f := .free "len") rfl),
    He.free_ok X G (d.fact 36 (f := .free "list") rfl),
    He.free_ok X G (d.fact 37 (f := .free "max") rfl),
    He.free_ok X G (d.fact 38 (f := .free "min") rfl),
    He.free_ok X G (d.fact 39 (f := .free "range") rfl),
    He.free_ok X G (d.fact 40 (f := .free "sorted") rfl),
    He.free_ok X G (d.fact 41 (f := .free "str") rfl),
    He.free_ok X G (d.fact 42 (f := .free "tuple") rfl),
    at_ 0 0 "_law_lists" 34 rfl rfl,
    at_ 1 1 "_law_well" 27 rfl rfl,
    at_ 2 2 "_law_same" 29 rfl rfl,
    at_ 3 3 "_law_orders" 32 rfl rfl,
    at_ 4 4 "_law_dip" 28 rfl rfl,
    at_ 5 5 "_law_shows" 30 rfl rfl,
    at_ 6 6 "_law_lets" 31 rfl rfl,
    at_ 7 7 "_law_let" 35 rfl rfl,
    at_ 8 8 "is_sorter" 12 rfl rfl,
    at_ 9 9 "check_sorter" 13 rfl rfl,
    at_ 10 10 "is_integer" 5 rfl rfl,
    at_ 11 11 "are_integers" 6 rfl rfl,
    at_ 12 12 "is_order_of" 7 rfl rfl,
    at_ 13 13 "is_order" 9 rfl rfl,
    at_ 14 14 "check_order" 14 rfl rfl,
    at_ 15 15 "by_stack" 15 rfl rfl,
    at_ 16 16 "by_popper" 16 rfl rfl,
    at_ 17 17 "merged" 17 rfl rfl,
    at_ 18 18 "by_queues" 18 rfl rfl,
    at_ 19 19 "by_bubble" 19 rfl rfl,
    at_ 20 20 "made_by" 20 rfl rfl,
    at_ 21 21 "made" 23 rfl rfl,
    at_ 22 22 "risen" 21 rfl rfl,
    at_ 23 23 "does_sort" 22 rfl rfl,
    at_ 24 24 "sorts" 24 rfl rfl,
    at_ 25 25 "_law_right" 37 rfl rfl,
    at_ 26 26 "list_of" 25 rfl rfl,
    at_ 27 27 "_law_exchanged" 36 rfl rfl,
    at_ 28 28 "law" 38 rfl rfl,
    PI.tab_ok (He.glo_ok X G (d.fact 29 (f := .glo "LISTS") rfl)) (c.t.tab 0 rfl) (more)⟩
end Hd

namespace PI
open PySem PySem.Spec PyProof.Rows L2
/-- a loop: R of the state, of the items to come and of the names -/
theorem fl_fold {α β : Type} {T : TF} {f : SF} {d : α → PI.D} {st : β → α → β} (R : β → List α → PI.Env → Prop) (hs : ∀ s a r env, R s (a :: r) env → ∃ env', ((T (d a) env).bind f) = some (.nx, env') ∧ R (st s a) r env') :
    ∀ (l : List α) (s : β) (env : PI.Env), R s l env → ∃ env', fl T f (l.map d) env = some (.nx, env') ∧ R (l.foldl st s) [] env'
  | [], s, env, h => ⟨env, rfl, h⟩
  | a :: l, s, env, h => by
    obtain ⟨e1, h1, h2⟩ := hs s a l env h
    obtain ⟨e2, h3, h4⟩ := fl_fold R hs l (st s a) e1 h2
    refine ⟨e2, ?_, h4⟩
    show ((T (d a) env).bind fun e => (f e).bind fun s => match s.1 with
      | .nx => fl T f (l.map d) s.2
      | .ct => fl T f (l.map d) s.2
      | .bk => some (.nx, s.2)
      | .rt w => some (.rt w, s.2)) = _
    obtain ⟨e0, k1, k2⟩ := obind h1
    rw [k1]
    show (f e0).bind _ = _
    rw [k2]
    exact h3
theorem fl_foldZ {β : Type} {T : TF} {f : SF} {st : β → Int → β} (R : β → List Int → PI.Env → Prop) (hs : ∀ s a r env, R s (a :: r) env → ∃ env', ((T (.int a) env).bind f) = some (.nx, env') ∧ R (st s a) r env')
    (l : List Int) (s : β) (env : PI.Env) (h : R s l env) : ∃ env', fl T f (zL l) env = some (.nx, env') ∧ R (l.foldl st s) [] env' := fl_fold R hs l s env h
theorem wl_false {c : EF} {f : SF} {n : Nat} {env e : PI.Env} {fr : Bool} (h : c env = some ((fr, .bl false), e)) : wl c f (n + 1) env = some (.nx, e) := by
  show (c env).bind _ = _
  rw [h]
  rfl
theorem wl_true {c : EF} {f : SF} {n : Nat} {env e e' : PI.Env} {fr : Bool} (h : c env = some ((fr, .bl true), e)) (hf : f e = some (.nx, e')) : wl c f (n + 1) env = wl c f n e' := by
  show (c env).bind _ = _
  rw [h]
  show (f e).bind _ = _
  rw [hf]
  rfl
end PI
namespace Wk
open PySem PySem.Spec PyProof.Rows L2 PI
/-! ### the stack -/
def popW (x : Int) : List Int → List Int → List Int × List Int
  | left, [] => (left, [])
  | left, y :: r => if y < x then popW x (left ++ [y]) r else (left, y :: r)
theorem popW_len (x : Int) : ∀ (r left : List Int), (popW x left r).1.length + (popW x left r).2.length = left.length + r.length
  | [], left => rfl
  | y :: r, left => by
    unfold popW
    split
    · rw [popW_len x r]
      simp only [List.length_append, List.length_cons, List.length_nil]
      omega
    · rfl
def stkS (p : List Int × List Int) (x : Int) : List Int × List Int := ((popW x p.1 p.2).1, x :: (popW x p.1 p.2).2)
def byStack (os : List Int) : List Int := (os.foldl stkS ([], [])).1 ++ (os.foldl stkS ([], [])).2
theorem w_by_stack (o : Option (Bool × PI.D)) (x : Int) : ∀ (r left : List Int) (n : Nat), r.length < n → left.length + r.length < 1000 → wl wc1_by_stack wb1_by_stack n [o, some (true, .lst (zL left)), some (true, .lst (zL r.reverse)), some (false, .int x)] =
    some (.nx, [o, some (true, .lst (zL (popW x left r).1)), some (true, .lst (zL (popW x left r).2.reverse)), some (false, .int x)])
  | r, left, 0, h, _ => by omega
  | [], left, n + 1, h, hl => wl_false (fr := false) (by simp [wc1_by_stack, popW])
  | y :: r, left, n + 1, h, hl => by
    have h : r.length < n := by simp only [List.length_cons] at h; omega
    simp only [List.length_cons] at hl
    by_cases c : y < x
    · refine (wl_true (fr := false) (e := [o, some (true, .lst (zL left)), some (true, .lst (zL (y :: r).reverse)), some (false, .int x)]) (e' := [o, some (true, .lst (zL (left ++ [y]))), some (true, .lst (zL r.reverse)), some (false, .int x)]) (by simp [wc1_by_stack, c]) ?_).trans ?_
      · simp [wb1_by_stack]
        omega
      · rw [w_by_stack o x r (left ++ [y]) n h (by simp only [List.length_append, List.length_cons, List.length_nil]; omega)]
        rw [popW, if_pos c]
    · refine (wl_false (fr := false) (e := [o, some (true, .lst (zL left)), some (true, .lst (zL (y :: r).reverse)), some (false, .int x)]) (by simp [wc1_by_stack, c])).trans ?_
      rw [popW, if_neg c]
theorem foldl_len {β : Type} {st : β → Int → β} {m : β → Nat} (h : ∀ s x, m (st s x) = m s + 1) : ∀ (l : List Int) (s : β), m (l.foldl st s) = m s + l.length
  | [], s => rfl
  | a :: l, s => by
    rw [List.foldl_cons, foldl_len h l, h, List.length_cons]
    omega
theorem stkS_len (p : List Int × List Int) (x : Int) : (stkS p x).1.length + (stkS p x).2.length = p.1.length + p.2.length + 1 := by
  have := popW_len x p.2 p.1
  show (popW x p.1 p.2).1.length + (x :: (popW x p.1 p.2).2).length = _
  rw [List.length_cons]
  omega
theorem v_by_stack (os : List Int) (ho : os.length < 1000) : c_by_stack [.tup (zL os)] = some ((false, .tup (zL (byStack os))), []) := by
  obtain ⟨env', h1, h2⟩ := fl_foldZ (T := tName 3) (f := fb1_by_stack) (st := stkS) (fun p rest env => p.1.length + p.2.length + rest.length < 1000 ∧ ∃ x, env = [some (false, .tup (zL os)), some (true, .lst (zL p.1)), some (true, .lst (zL p.2.reverse)), x]) (fun p a r env h => by
    obtain ⟨hl, x, rfl⟩ := h
    simp only [List.length_cons] at hl
    refine ⟨_, ?_, ?_, some (false, .int a), rfl⟩
    · have w := w_by_stack (some (false, .tup (zL os))) a p.2 p.1 1000000 (by omega) (by omega)
      have hp := popW_len a p.2 p.1
      simp [fb1_by_stack, sWhile, w, stkS]
      omega
    · have := stkS_len p a
      omega) os ([], []) [some (false, .tup (zL os)), some (true, .lst []), some (true, .lst []), none] ⟨by simpa using ho, none, rfl⟩
  obtain ⟨_, x, rfl⟩ := h2
  have hz := foldl_len (m := fun p => p.1.length + p.2.length) stkS_len os ([], [])
  simp only [List.length_nil, Nat.zero_add, Nat.add_zero] at hz
  have hb : (os.foldl stkS ([], [])).1.length + (os.foldl stkS ([], [])).2.length ≤ 1000000 := by omega
  simp [c_by_stack, b_by_stack]
  rw [h1]
  simp [byStack, hb]
/-! ### the popper -/
def popS (p : List Int × List Int) (x : Int) : List Int × List Int := match p.2 with
  | [] => (p.1, [x])
  | y :: r => if y < x then (p.1 ++ p.2, [x]) else (p.1, x :: p.2)
def byPopper (os : List Int) : List Int := (os.foldl popS ([], [])).1 ++ (os.foldl popS ([], [])).2
theorem popS_len (p : List Int × List Int) (x : Int) : (popS p x).1.length + (popS p x).2.length = p.1.length + p.2.length + 1 := by
  obtain ⟨l, r⟩ := p
  unfold popS
  cases r with
  | nil => rfl
  | cons y r =>
    dsimp only
    split
    · simp only [List.length_append, List.length_cons, List.length_nil]
    · simp only [List.length_cons]
      omega
theorem v_by_popper (os : List Int) (ho : os.length < 1000) : c_by_popper [.tup (zL os)] = some ((false, .tup (zL (byPopper os))), []) := by
  obtain ⟨env', h1, h2⟩ := fl_foldZ (T := tName 3) (f := fb1_by_popper) (st := popS) (fun p rest env => p.1.length + p.2.length + rest.length < 1000 ∧ ∃ x, env = [some (false, .tup (zL os)), some (true, .lst (zL p.1)), some (true, .lst (zL p.2.reverse)), x]) (fun p a r env h => by
    obtain ⟨hl, x, rfl⟩ := h
    obtain ⟨l, k⟩ := p
    simp only [List.length_cons] at hl
    refine ⟨_, ?_, ?_, some (false, .int a), rfl⟩
    · cases k with
      | nil => simp [fb1_by_popper, popS] <;> rfl
      | cons y k =>
        simp only [List.length_cons] at hl
        have hb : l.length + (k.length + 1) < 1000000 := by omega
        have hb2 : k.length + 1 < 1000000 := by omega
        by_cases c : y < a <;> simp [fb1_by_popper, popS, c, hb, hb2] <;> rfl
    · have := popS_len (l, k) a
      simp only at this hl
      omega) os ([], []) [some (false, .tup (zL os)), some (true, .lst []), some (true, .lst []), none] ⟨by simpa using ho, none, rfl⟩
  obtain ⟨_, x, rfl⟩ := h2
  have hz := foldl_len (m := fun p => p.1.length + p.2.length) popS_len os ([], [])
  simp only [List.length_nil, Nat.zero_add, Nat.add_zero] at hz
  have hb : (os.foldl popS ([], [])).1.length + (os.foldl popS ([], [])).2.length ≤ 1000000 := by omega
  simp [c_by_popper, b_by_popper]
  rw [h1]
  simp [byPopper, hb]
end Wk

namespace PI
open PySem PySem.Spec PyProof.Rows L2
theorem fl_nx {T : TF} {f : SF} {d : PI.D} {ds : List PI.D} {env env' : PI.Env} (h : (T d env).bind f = some (.nx, env')) : fl T f (d :: ds) env = fl T f ds env' := by
  obtain ⟨e0, k1, k2⟩ := obind h
  show ((T d env).bind fun e => (f e).bind fun s => match s.1 with
    | .nx => fl T f ds s.2
    | .ct => fl T f ds s.2
    | .bk => some (.nx, s.2)
    | .rt w => some (.rt w, s.2)) = _
  rw [k1]
  show (f e0).bind _ = _
  rw [k2]
  rfl
end PI
namespace Wk
open PySem PySem.Spec PyProof.Rows L2 PI
/-! ### two rows -/
def mrg : List Int → List Int → List Int
  | [], bs => bs
  | a :: as, [] => a :: as
  | a :: as, b :: bs => if a < b then a :: mrg as (b :: bs) else b :: mrg (a :: as) bs
termination_by as bs => as.length + bs.length
theorem mrg_nil (l : List Int) : mrg l [] = l := by
  cases l with
  | nil => rw [mrg]
  | cons a l => rw [mrg]
theorem mrg_len : ∀ (n : Nat) (a b : List Int), a.length + b.length = n → (mrg a b).length = n := by
  intro n
  induction n with
  | zero =>
    intro a b h
    cases a with
    | nil =>
      rw [mrg]
      simpa using h
    | cons x a => simp at h
  | succ n ih =>
    intro a b h
    cases a with
    | nil =>
      rw [mrg]
      simpa using h
    | cons x a =>
      cases b with
      | nil =>
        rw [mrg]
        simpa using h
      | cons y b =>
        rw [mrg]
        simp only [List.length_cons] at h
        split
        · rw [List.length_cons, ih a (y :: b) (by simp only [List.length_cons]; omega)]
        · rw [List.length_cons, ih (x :: a) b (by simp only [List.length_cons]; omega)]
theorem drop_at {l : List Int} {i : Nat} (h : i < l.length) : ∃ x, l[i]? = some x ∧ l.drop i = x :: l.drop (i + 1) := ⟨l[i], List.getElem?_eq_getElem h, List.drop_eq_getElem_cons h⟩
theorem w_merged (a b : List Int) (ha : a.length + b.length < 1000) : ∀ (n i j : Nat) (left : List Int), (a.length - i) + (b.length - j) < n → i ≤ a.length → j ≤ b.length → left.length = i + j →
    ∃ (left' : List Int) (i' j' : Nat), wl wc1_merged wb1_merged n [some (false, .lst (zL a)), some (false, .lst (zL b)), some (true, .lst (zL left)), some (false, .int (i : Int)), some (false, .int (j : Int))] =
      some (.nx, [some (false, .lst (zL a)), some (false, .lst (zL b)), some (true, .lst (zL left')), some (false, .int (i' : Int)), some (false, .int (j' : Int))]) ∧
      left' ++ (a.drop i' ++ b.drop j') = left ++ mrg (a.drop i) (b.drop j) ∧ left'.length ≤ a.length + b.length := by
  intro n
  induction n with
  | zero => intro i j left h; omega
  | succ n ih =>
    intro i j left h hi hj hl
    by_cases c1 : i < a.length
    · by_cases c2 : j < b.length
      · obtain ⟨x, hx, dx⟩ := drop_at c1
        obtain ⟨y, hy, dy⟩ := drop_at c2
        have c1' : (i : Int) < a.length := by omega
        have c2' : (j : Int) < b.length := by omega
        have hz : left.length < 1000000 := by omega
        have cond : wc1_merged [some (false, .lst (zL a)), some (false, .lst (zL b)), some (true, .lst (zL left)), some (false, .int (i : Int)), some (false, .int (j : Int))] = some ((false, .bl true), [some (false, .lst (zL a)), some (false, .lst (zL b)), some (true, .lst (zL left)), some (false, .int (i : Int)), some (false, .int (j : Int))]) := by
          simp [wc1_merged, c1, c2]
        by_cases c : x < y
        · obtain ⟨l', i', j', h1, h2, h3⟩ := ih (i + 1) j (left ++ [x]) (by omega) (by omega) hj (by simp only [List.length_append, List.length_cons, List.length_nil]; omega)
          refine ⟨l', i', j', (wl_true cond ?_).trans h1, ?_, h3⟩
          · simp [wb1_merged, hx, hy, c, hz] <;> rfl
          · rw [h2, dx, dy, mrg, if_pos c, List.append_assoc]
            rfl
        · obtain ⟨l', i', j', h1, h2, h3⟩ := ih i (j + 1) (left ++ [y]) (by omega) hi (by omega) (by simp only [List.length_append, List.length_cons, List.length_nil]; omega)
          refine ⟨l', i', j', (wl_true cond ?_).trans h1, ?_, h3⟩
          · simp [wb1_merged, hx, hy, c, hz] <;> rfl
          · rw [h2, dx, dy, mrg, if_neg c, List.append_assoc]
            rfl
      · have c2' : ¬ (j : Int) < b.length := by omega
        refine ⟨left, i, j, wl_false (fr := false) (by simp [wc1_merged, c1, c2]), ?_, by omega⟩
        rw [List.drop_of_length_le (l := b) (by omega), mrg_nil, List.append_nil]
    · refine ⟨left, i, j, wl_false (fr := false) (by simp [wc1_merged, c1]), ?_, by omega⟩
      rw [List.drop_of_length_le (l := a) (by omega), mrg]
      rfl
theorem v_merged (a b : List Int) (h : a.length + b.length < 1000) : c_merged [.lst (zL a), .lst (zL b)] = some ((true, .lst (zL (mrg a b))), []) := by
  obtain ⟨l', i', j', h1, h2, h3⟩ := w_merged a b h 1000000 0 0 [] (by omega) (by omega) (by omega) rfl
  have hb : l'.length + (a.length - i') ≤ 1000000 := by omega
  have hb2 : l'.length + (a.length - i') + (b.length - j') ≤ 1000000 := by omega
  have h1 : wl wc1_merged wb1_merged 1000000 [some (false, .lst (zL a)), some (false, .lst (zL b)), some (true, .lst []), some (false, .int 0), some (false, .int 0)] = _ := h1
  simp [c_merged, b_merged, sWhile]
  rw [h1]
  have e : mrg a b = l' ++ (a.drop i' ++ b.drop j') := h2.symm
  simp [hb, hb2, e]
def gtLast (l : List Int) (x : Int) : Bool := match l.getLast? with
  | none => false
  | some y => decide (x < y)
def lStep (p : List Int × List Int) (x : Int) : List Int × List Int := if fits p.1 x || gtLast p.2 x then (p.1 ++ [x], p.2) else (p.1, p.2 ++ [x])
theorem lStep_len (p : List Int × List Int) (x : Int) : (lStep p x).1.length + (lStep p x).2.length = p.1.length + p.2.length + 1 := by
  unfold lStep
  split <;> simp only [List.length_append, List.length_cons, List.length_nil] <;> omega
def lRows (os : List Int) : List Int × List Int := os.foldl lStep ([], [])
end Wk

namespace Wk
open PySem PySem.Spec PyProof.Rows L2 PI
/-! ### the held number -/
def bubS (p : List Int × Int) (x : Int) : List Int × Int := if x < p.2 then (p.1 ++ [x], p.2) else (p.1 ++ [p.2], x)
def byBubble : List Int → List Int
  | [] => []
  | x :: xs => (xs.foldl bubS ([], x)).1 ++ [(xs.foldl bubS ([], x)).2]
theorem bubS_len (p : List Int × Int) (x : Int) : (bubS p x).1.length = p.1.length + 1 := by
  unfold bubS
  split <;> simp
theorem v_by_bubble (os : List Int) (ho : os.length < 1000) : c_by_bubble [.tup (zL os)] = some ((false, .tup (zL (byBubble os))), []) := by
  cases os with
  | nil => simp [c_by_bubble, b_by_bubble, byBubble]
  | cons y os =>
    have f1 : (tName 2 (.int y) [some (false, .tup (zL (y :: os))), some (true, .lst []), none]).bind fb1_by_bubble = some (.nx, [some (false, .tup (zL (y :: os))), some (true, .lst (zL ([] ++ [y]))), some (false, .int y)]) := by
      simp [fb1_by_bubble] <;> rfl
    obtain ⟨env', h1, h2⟩ := fl_foldZ (T := tName 2) (f := fb1_by_bubble) (st := bubS) (fun p rest env => p.1.length + rest.length < 1000 ∧ ∃ x, env = [some (false, .tup (zL (y :: os))), some (true, .lst (zL (p.1 ++ [p.2]))), x]) (fun p a r env h => by
      obtain ⟨hl, x, rfl⟩ := h
      obtain ⟨l, k⟩ := p
      simp only [List.length_cons] at hl
      refine ⟨_, ?_, ?_, some (false, .int a), rfl⟩
      · have hb : l.length + 1 < 1000000 := by omega
        have hb2 : (l.length : Int) + 1 - 1 = l.length := by omega
        have hb3 : (l.length : Int) < 1000000 := by omega
        by_cases c : a < k <;> simp [fb1_by_bubble, bubS, c, hb, hb2, hb3]
      · have := bubS_len (l, k) a
        simp only at this hl
        omega) os ([], y) [some (false, .tup (zL (y :: os))), some (true, .lst (zL ([] ++ [y]))), some (false, .int y)] ⟨by simp only [List.length_cons, List.length_nil] at ho ⊢; omega, _, rfl⟩
    obtain ⟨_, x, rfl⟩ := h2
    have h3 := (fl_nx (ds := zL os) f1).trans h1
    have h3 : fl (tName 2) fb1_by_bubble (zL (y :: os)) [some (false, .tup (zL (y :: os))), some (true, .lst []), none] = _ := h3
    simp [c_by_bubble, b_by_bubble]
    rw [h3]
    simp [byBubble]
/-! ### what is made is the order, led about -/
theorem popW_app (x : Int) : ∀ (r left : List Int), (popW x left r).1 ++ (popW x left r).2 = left ++ r
  | [], left => rfl
  | y :: r, left => by
    rw [popW]
    split
    · rw [popW_app x r, List.append_assoc]
      rfl
    · rfl
theorem fold_perm {st : List Int × List Int → Int → List Int × List Int} (h : ∀ p x, ((st p x).1 ++ (st p x).2).Perm (x :: (p.1 ++ p.2))) : ∀ (l : List Int) (p : List Int × List Int), ((l.foldl st p).1 ++ (l.foldl st p).2).Perm (l ++ (p.1 ++ p.2))
  | [], p => .refl _
  | a :: l, p => by
    rw [List.foldl_cons]
    exact (fold_perm h l (st p a)).trans (((h p a).append_left l).trans List.perm_middle)
theorem stk_perm (os : List Int) : (byStack os).Perm os := by
  have := fold_perm (st := stkS) (fun p x => by
    show ((popW x p.1 p.2).1 ++ x :: (popW x p.1 p.2).2).Perm _
    rw [← popW_app x p.2 p.1]
    exact List.perm_middle) os ([], [])
  simpa [byStack] using this
theorem pop_perm (os : List Int) : (byPopper os).Perm os := by
  have := fold_perm (st := popS) (fun p x => by
    obtain ⟨l, r⟩ := p
    cases r with
    | nil =>
      show (l ++ [x]).Perm (x :: (l ++ []))
      rw [List.append_nil]
      exact List.perm_append_singleton x l
    | cons y r =>
      show ((if y < x then (l ++ y :: r, [x]) else (l, x :: y :: r)).1 ++ (if y < x then (l ++ y :: r, [x]) else (l, x :: y :: r)).2).Perm _
      split
      · exact List.perm_append_singleton x _
      · exact List.perm_middle) os ([], [])
  simpa [byPopper] using this
theorem mrg_perm : ∀ (n : Nat) (a b : List Int), a.length + b.length = n → (mrg a b).Perm (a ++ b) := by
  intro n
  induction n with
  | zero =>
    intro a b h
    cases a with
    | nil =>
      rw [mrg]
      exact .refl _
    | cons x a => simp at h
  | succ n ih =>
    intro a b h
    cases a with
    | nil =>
      rw [mrg]
      exact .refl _
    | cons x a =>
      cases b with
      | nil =>
        rw [mrg, List.append_nil]
      | cons y b =>
        rw [mrg]
        simp only [List.length_cons] at h
        split
        · exact (ih a (y :: b) (by simp only [List.length_cons]; omega)).cons x
        · exact ((ih (x :: a) b (by simp only [List.length_cons]; omega)).cons y).trans List.perm_middle.symm
theorem lStep_perm (p : List Int × List Int) (x : Int) : ((lStep p x).1 ++ (lStep p x).2).Perm (x :: (p.1 ++ p.2)) := by
  unfold lStep
  split
  · show (p.1 ++ [x] ++ p.2).Perm _
    rw [List.append_assoc]
    exact List.perm_middle
  · show (p.1 ++ (p.2 ++ [x])).Perm _
    rw [← List.append_assoc]
    exact List.perm_append_singleton x _
def byQueues (os : List Int) : List Int := mrg (lRows os).1 (lRows os).2
theorem que_perm (os : List Int) : (byQueues os).Perm os := by
  have := fold_perm (st := lStep) lStep_perm os ([], [])
  exact (mrg_perm _ _ _ rfl).trans (by simpa [lRows] using this)
theorem bub_perm (os : List Int) : (byBubble os).Perm os := by
  have key : ∀ (l : List Int) (p : List Int × Int), ((l.foldl bubS p).1 ++ [(l.foldl bubS p).2]).Perm (l ++ (p.1 ++ [p.2])) := by
    intro l
    induction l with
    | nil => intro p; exact .refl _
    | cons a l ih =>
      intro p
      rw [List.foldl_cons]
      have st : ((bubS p a).1 ++ [(bubS p a).2]).Perm (a :: (p.1 ++ [p.2])) := by
        unfold bubS
        split
        · show (p.1 ++ [a] ++ [p.2]).Perm _
          rw [List.append_assoc]
          exact List.perm_middle
        · exact List.perm_append_singleton a _
      exact (ih (bubS p a)).trans ((st.append_left l).trans List.perm_middle)
  cases os with
  | nil => exact .refl _
  | cons y os => exact (key os ([], y)).trans (by simpa using List.perm_append_singleton y os)
/-- the program's rows are the law's -/
theorem rows_same (os : List Int) (nd : os.Nodup) : qRows os = lRows os := by
  have key : ∀ (l : List Int) (p : List Int × List Int), l.Nodup → (∀ x ∈ l, x ∉ p.2) → l.foldl qStep p = l.foldl lStep p := by
    intro l
    induction l with
    | nil => intro p _ _; rfl
    | cons a l ih =>
      intro p nd h
      obtain ⟨n1, n2⟩ := List.nodup_cons.mp nd
      have e : qStep p a = lStep p a := by
        unfold qStep lStep
        cases h1 : fits p.1 a with
        | true => rfl
        | false =>
          have ha : a ∉ p.2 := h a List.mem_cons_self
          cases h2 : p.2.getLast? with
          | none => simp [fits, gtLast, h2]
          | some y =>
            have hy : y ≠ a := fun e => ha (by rw [← e]; exact List.mem_of_getLast? h2)
            by_cases c : y < a
            · have c2 : ¬ a < y := by omega
              simp [fits, gtLast, h2, c, c2]
            · have c2 : a < y := by omega
              simp [fits, gtLast, h2, c, c2]
      rw [List.foldl_cons, List.foldl_cons, e]
      refine ih _ n2 fun x hx => ?_
      have hx1 := h x (List.mem_cons_of_mem _ hx)
      unfold lStep
      split
      · exact hx1
      · intro z
        rcases List.mem_append.mp z with z | z
        · exact hx1 z
        · rw [List.mem_singleton.mp z] at hx
          exact n1 hx
  exact key os ([], []) nd fun _ _ z => (nomatch z)
theorem v_by_queues (os : List Int) (ho : os.length < 1000) (nd : os.Nodup) : c_by_queues [.tup (zL os)] = some ((false, .tup (zL (byQueues os))), []) := by
  have hl := (fold_perm (st := lStep) lStep_perm os ([], [])).length_eq
  simp only [List.append_nil, List.length_append] at hl
  have hm := v_merged (lRows os).1 (lRows os).2 (by unfold lRows; omega)
  show ((toInts (zL os)).bind _) = _
  rw [q_toInts]
  show (if os.length < 1000 then _ else _) = _
  rw [if_pos ho, rows_same os nd, hm]
  rfl
end Wk

namespace PI
open PySem PySem.Spec PyProof.Rows L2
theorem lcl_map {α : Type} {T : TF} {c f : EF} {vs : List Nat} {env : PI.Env} {enc g : α → PI.D} (hn : noOwn env vs = true) : ∀ (l : List α), (∀ a ∈ l, ∃ e1 fr e2 fr' e3, T (enc a) (wipeE env vs) = some e1 ∧ c e1 = some ((fr, .bl true), e2) ∧ f e2 = some ((fr', g a), e3) ∧ restE env e3 vs = env) → lcl T c f vs (l.map enc) env = some (l.map g, env)
  | [], _ => rfl
  | a :: l, h => by
    obtain ⟨e1, fr, e2, fr', e3, h1, h2, h3, h4⟩ := h a List.mem_cons_self
    have ih := lcl_map (g := g) hn l fun b hb => h b (List.mem_cons_of_mem _ hb)
    show lcl T c f vs (enc a :: l.map enc) env = _
    unfold lcl
    rw [hn]
    dsimp only
    rw [h1]
    show (c e1).bind _ = _
    rw [h2]
    show (f e2).bind _ = _
    rw [h3]
    show (lcl T c f vs (l.map enc) (restE env e3 vs)).bind _ = _
    rw [h4, ih]
    rfl
theorem lcl_filter {α : Type} {T : TF} {c f : EF} {vs : List Nat} {env : PI.Env} {enc g : α → PI.D} {p : α → Bool} (hn : noOwn env vs = true) : ∀ (l : List α), (∀ a ∈ l, ∃ e1 fr e2, T (enc a) (wipeE env vs) = some e1 ∧ c e1 = some ((fr, .bl (p a)), e2) ∧ restE env e2 vs = env ∧ (p a = true → ∃ fr' e3, f e2 = some ((fr', g a), e3) ∧ restE env e3 vs = env)) → lcl T c f vs (l.map enc) env = some ((l.filter p).map g, env)
  | [], _ => rfl
  | a :: l, h => by
    obtain ⟨e1, fr, e2, h1, h2, h3, h4⟩ := h a List.mem_cons_self
    have ih := lcl_filter (g := g) (p := p) hn l fun b hb => h b (List.mem_cons_of_mem _ hb)
    show lcl T c f vs (enc a :: l.map enc) env = _
    unfold lcl
    rw [hn]
    dsimp only
    rw [h1]
    show (c e1).bind _ = _
    rw [h2]
    cases hp : p a with
    | true =>
      obtain ⟨fr', e3, h5, h6⟩ := h4 hp
      show (f e2).bind _ = _
      rw [h5]
      show (lcl T c f vs (l.map enc) (restE env e3 vs)).bind _ = _
      rw [h6, ih, List.filter_cons_of_pos hp]
      rfl
    | false =>
      show lcl T c f vs (l.map enc) (restE env e2 vs) = _
      rw [h3, ih, List.filter_cons_of_neg (by simp [hp])]
/-- 1, 2, .., n -/
def rng (n : Nat) : List Int := (List.range n).map fun (i : Nat) => (1 : Int) + (i : Int)
theorem rng_len (n : Nat) : (rng n).length = n := by simp [rng]
theorem rng_sorted (n : Nat) : (rng n).Pairwise (· < ·) := by
  unfold rng
  rw [List.pairwise_map]
  exact List.pairwise_lt_range.imp fun h => by omega
theorem rng_nodup (n : Nat) : (rng n).Nodup := (rng_sorted n).imp fun h => by omega
theorem rgD_rng (t : Bool) (n : Nat) (h : n ≤ 1000000) : rgD t (.int 1) (.int ((n : Int) + 1)) = some (if t then (false, .tup (zL (rng n))) else (true, .lst (zL (rng n)))) := by
  have e : ((n : Int) + 1 - 1).toNat = n := by omega
  unfold rgD
  dsimp only
  rw [if_pos ⟨by decide, by decide, by omega, by omega, by rw [e]; exact h⟩, e, z_range]
  cases t <;> rfl
theorem isort_rng {os : List Int} {n : Nat} (h : os.Perm (rng n)) : isort os = rng n := (isort_of h.symm ((rng_sorted n).imp fun h => Int.le_of_lt h)).symm
end PI
namespace Wk
open PySem PySem.Spec PyProof.Rows L2 PI
theorem v_is_integer (n : Int) : c_is_integer [.int n] = some ((false, .bl true), []) := by simp [c_is_integer, b_is_integer, isKT]
theorem v_are_integers (os : List Int) (ho : os.length < 1000) : c_are_integers [.tup (zL os)] = some ((false, .bl true), []) := by
  have h := lcl_map (T := tName 1) (c := eYes) (f := le1_are_integers) (vs := [1]) (env := [some (false, .tup (zL os)), none]) (enc := PI.D.int) (g := fun _ => PI.D.bl true) (by simp) os fun a _ => by
    refine ⟨[some (false, .tup (zL os)), some (false, .int a)], false, [some (false, .tup (zL os)), some (false, .int a)], false, [some (false, .tup (zL os)), some (false, .int a)], by simp, by simp, by simp [le1_are_integers, v_is_integer], by simp⟩
  have h : lcl (tName 1) eYes le1_are_integers [1] (zL os) [some (false, .tup (zL os)), none] = _ := h
  have hb : os.length < 1000000 := by omega
  have e : os.map (fun _ => PI.D.bl true) = (os.map fun _ => true).map PI.D.bl := by rw [List.map_map]; rfl
  have ea : allD (.lst (os.map fun _ => PI.D.bl true)) = some (false, .bl true) := by
    rw [e]
    show (toBls _).bind _ = _
    rw [toBls_map]
    simp
  simp [c_are_integers, b_are_integers, isKT, hb, h, ea]
theorem v_is_order {os : List Int} {n : Nat} (hn : n < 1000) (h : os.Perm (rng n)) : c_is_order [.tup (zL os)] = some ((false, .bl true), []) := by
  have hl : os.length = n := by rw [h.length_eq, rng_len]
  have h1 := v_are_integers os (by omega)
  have h2 := rgD_rng false n (by omega)
  have h3 : c_is_order_of [.tup (zL os)] = some ((false, .bl true), []) := by
    simp -implicitDefEqProofs [c_is_order_of, b_is_order_of, h1, hl, h2, isort_rng h]
  simp -implicitDefEqProofs [c_is_order, b_is_order, h3]
/-- the four sorters -/
inductive Srt where
  | st | po | qu | bu
def Srt.nm : Srt → Str
  | .st => "stack"
  | .po => "popper"
  | .qu => "queues"
  | .bu => "bubble"
def Srt.mk : Srt → List Int → List Int
  | .st => byStack
  | .po => byPopper
  | .qu => byQueues
  | .bu => byBubble
theorem mk_perm (s : Srt) (os : List Int) : (s.mk os).Perm os := by
  cases s with
  | st => exact stk_perm os
  | po => exact pop_perm os
  | qu => exact que_perm os
  | bu => exact bub_perm os
theorem s1 : (("popper" : Str) = "stack") = False := by decide +kernel
theorem s2 : (("queues" : Str) = "stack") = False := by decide +kernel
theorem s3 : (("queues" : Str) = "popper") = False := by decide +kernel
theorem s4 : (("bubble" : Str) = "stack") = False := by decide +kernel
theorem s5 : (("bubble" : Str) = "popper") = False := by decide +kernel
theorem s6 : (("bubble" : Str) = "queues") = False := by decide +kernel
theorem v_made_by (s : Srt) {os : List Int} (ho : os.length < 1000) (nd : os.Nodup) : c_made_by [.str s.nm, .tup (zL os)] = some ((false, .tup (zL (s.mk os))), []) := by
  cases s with
  | st => simp [c_made_by, b_made_by, Srt.nm, Srt.mk, v_by_stack os ho]
  | po => simp [c_made_by, b_made_by, Srt.nm, Srt.mk, v_by_popper os ho, s1]
  | qu => simp [c_made_by, b_made_by, Srt.nm, Srt.mk, v_by_queues os ho nd, s2, s3]
  | bu => simp [c_made_by, b_made_by, Srt.nm, Srt.mk, v_by_bubble os ho, s4, s5, s6]
theorem v_is_sorter (s : Srt) : c_is_sorter [.str s.nm] = some ((false, .bl true), []) := by
  cases s <;> rfl
theorem v_check_sorter (s : Srt) : c_check_sorter [.str s.nm] = some ((false, .non), []) := by
  simp [c_check_sorter, b_check_sorter, v_is_sorter]
theorem v_check_order {os : List Int} {n : Nat} (hn : n < 1000) (h : os.Perm (rng n)) : c_check_order [.tup (zL os)] = some ((false, .non), []) := by
  simp [c_check_order, b_check_order, v_is_order hn h]
theorem v_made (s : Srt) {os : List Int} {n : Nat} (hn : n < 1000) (h : os.Perm (rng n)) : c_made [.str s.nm, .tup (zL os)] = some ((false, .tup (zL (s.mk os))), []) := by
  have hl : os.length = n := by rw [h.length_eq, rng_len]
  have nd : os.Nodup := h.symm.nodup (rng_nodup n)
  simp [c_made, b_made, v_check_sorter, v_check_order hn h, v_made_by s (by omega : os.length < 1000) nd]
theorem v_sorts (s : Srt) {os : List Int} {n : Nat} (hn : n < 1000) (h : os.Perm (rng n)) : c_sorts [.str s.nm, .tup (zL os)] = some ((false, .bl (decide (s.mk os = rng n))), []) := by
  have hl : os.length = n := by rw [h.length_eq, rng_len]
  have nd : os.Nodup := h.symm.nodup (rng_nodup n)
  have h1 : c_risen [.int (n : Int)] = some ((false, .tup (zL (rng n))), []) := by
    simp -implicitDefEqProofs [c_risen, b_risen, rgD_rng true n (by omega)]
  have h2 : c_does_sort [.str s.nm, .tup (zL os)] = some ((false, .bl (decide (s.mk os = rng n))), []) := by
    simp -implicitDefEqProofs [c_does_sort, b_does_sort, v_made_by s (by omega : os.length < 1000) nd, hl, h1]
  simp -implicitDefEqProofs [c_sorts, b_sorts, v_check_sorter, v_check_order hn h, h2]
end Wk

namespace PI
open PySem PySem.Spec PyProof.Rows L2
theorem mul_ok {a b : Int} (h1 : bts a ≤ 1048576) (hb : b.natAbs < 2 ^ 100) : mulB a b = true := by
  have h2 : bts b ≤ 100 := PyProof.Rows.intBits_le hb
  exact decide_eq_true (by omega)
theorem small_lt {a : Int} (h : a.natAbs < 2 ^ 100) {n : Nat} (hn : 100 ≤ n) : a.natAbs < 2 ^ n := Nat.lt_of_lt_of_le h (Nat.pow_le_pow_right (by decide) hn)
theorem mul_small {a b : Int} (ha : a.natAbs < 2 ^ 100) (hb : b.natAbs < 2 ^ 100) : mulB a b = true := mul_ok (Nat.le_trans (PyProof.Rows.intBits_le ha) (by decide)) hb
theorem pow_small {a : Int} (n : Int) (ha : a.natAbs < 2 ^ 100) (h0 : 0 ≤ n) (hn : n ≤ 1000) : powB a n = true := by
  have h1 : bts a ≤ 100 := PyProof.Rows.intBits_le ha
  have h2 : (bts a : Int) * n ≤ 100 * 1000 := Int.mul_le_mul (by omega) (by omega) (by omega) (by omega)
  have h3 : 0 ≤ n ∧ (bts a : Int) * n ≤ 134217728 := ⟨by omega, by omega⟩
  unfold powB
  exact decide_eq_true h3
theorem pow3 {a : Int} (ha : a.natAbs < 2 ^ 100) : powB a 3 = true := pow_small 3 ha (by decide) (by decide)
theorem pow2 {a : Int} (ha : a.natAbs < 2 ^ 100) : powB a 2 = true := pow_small 2 ha (by decide) (by decide)
theorem div_small {a b : Int} (h0 : 0 < b) (hb : b.natAbs < 2 ^ 100) : divB a b = true := decide_eq_true ⟨h0, Nat.le_trans (PyProof.Rows.intBits_le hb) (by decide)⟩
theorem mod_ok {a b : Int} (h0 : 0 < b) : modB a b = true := decide_eq_true h0
theorem srcR1_nat {f : EF} {env env' : PI.Env} {fr : Bool} {n : Nat} (h : f env = some ((fr, .int (n : Int)), env')) (hn : n < 1000000) : srcR1 f env = some (rangeD 0 n, env') := by
  have b1 : (n : Int) < 4611686018427387904 := by omega
  have b2 : -4611686018427387904 ≤ (n : Int) := by omega
  simp -implicitDefEqProofs [h, b1, b2]
end PI
namespace Wk
open PySem PySem.Spec PyProof.Rows L2 PI
/-! ### the well -/
def Wl (k : Int) (d : PI.D) : Prop := ∃ w0 w1 w2 : Int, d = .lst [.int w0, .int w1, .int w2] ∧ (0 ≤ w1 ∧ w1 < 10 ^ 24 + 7) ∧ 0 ≤ w2 ∧ w2 ≤ k
theorem Wl.mono {k k' : Int} {d : PI.D} (h : Wl k d) (hk : k ≤ k') : Wl k' d := by
  obtain ⟨w0, w1, w2, e, h1, h2, h3⟩ := h
  exact ⟨w0, w1, w2, e, h1, h2, by omega⟩
theorem p25 : powB 10 25 = true := by decide +kernel
theorem p24 : powB 10 24 = true := by decide +kernel
theorem p18 : powB 10 18 = true := by decide +kernel
theorem v_dip {k many : Int} {d : PI.D} (h : Wl k d) (hk : k < 1000000) (hm : 0 < many) (hm2 : many < 1000000) :
    ∃ r d', c__law_dip [d, .int many] = some ((false, .int r), [d']) ∧ (0 ≤ r ∧ r < many) ∧ Wl (k + 1) d' := by
  obtain ⟨w0, w1, w2, rfl, ⟨h1, h2⟩, h3, h4⟩ := h
  by_cases c : 0 < w0
  · refine ⟨w0 % many, .lst [.int (w0 / many), .int w1, .int w2], ?_, ⟨Int.emod_nonneg _ (by omega), Int.emod_lt_of_pos _ hm⟩, w0 / many, w1, w2, rfl, ⟨h1, h2⟩, h3, by omega⟩
    simp [c__law_dip, b__law_dip, c, mod_ok hm, div_small hm (by omega : many.natAbs < 2 ^ 100), ixN]
  · refine ⟨(((w1 + 1000003 * (w2 + 1)) ^ 3 % (10 ^ 25 + 13) + 77347 * (w2 + 1)) ^ 2 % (10 ^ 24 + 7)) / 4096 % many, .lst [.int w0, .int w1, .int (w2 + 1)], ?_, ⟨Int.emod_nonneg _ (by omega), Int.emod_lt_of_pos _ hm⟩, w0, w1, w2 + 1, rfl, ⟨h1, h2⟩, by omega, by omega⟩
    have b0 : mulB 1000003 (w2 + 1) = true := mul_small (by decide) (by omega)
    have b1 : powB (w1 + 1000003 * (w2 + 1)) 3 = true := pow3 (by omega)
    have g1 : 0 ≤ (w1 + 1000003 * (w2 + 1)) ^ 3 % (10 ^ 25 + 13) := Int.emod_nonneg _ (by decide)
    have g2 : (w1 + 1000003 * (w2 + 1)) ^ 3 % (10 ^ 25 + 13) < 10 ^ 25 + 13 := Int.emod_lt_of_pos _ (by decide)
    have b2 : mulB 77347 (w2 + 1) = true := mul_small (by decide) (by omega)
    have b3 : powB ((w1 + 1000003 * (w2 + 1)) ^ 3 % (10 ^ 25 + 13) + 77347 * (w2 + 1)) 2 = true := pow2 (by
      generalize (w1 + 1000003 * (w2 + 1)) ^ 3 % (10 ^ 25 + 13) = z at *
      omega)
    have m1 : modB ((w1 + 1000003 * (w2 + 1)) ^ 3) 10000000000000000000000013 = true := mod_ok (by decide)
    have e25 : (10 : Int) ^ 25 + 13 = 10000000000000000000000013 := by decide
    have e24 : (10 : Int) ^ 24 + 7 = 1000000000000000000000007 := by decide
    rw [e25] at b3 ⊢
    rw [e24]
    simp [c__law_dip, b__law_dip, c, p25, p24, b0, b1, b2, b3, mod_ok (by decide : (0 : Int) < 10000000000000000000000013), mod_ok (by decide : (0 : Int) < 1000000000000000000000007), div_small (by decide : (0 : Int) < 4096) (by decide : (4096 : Int).natAbs < 2 ^ 100), mod_ok hm, ixN]
end Wk

namespace PI
open PySem PySem.Spec PyProof.Rows L2
theorem zL_erase : ∀ (l : List Int) (i : Nat), (zL l).eraseIdx i = zL (l.eraseIdx i)
  | [], i => by cases i <;> rfl
  | x :: l, 0 => rfl
  | x :: l, i + 1 => by
    show PI.D.int x :: (zL l).eraseIdx i = PI.D.int x :: zL (l.eraseIdx i)
    rw [zL_erase l i]
theorem erase_perm : ∀ {l : List Int} {i : Nat} {x : Int}, l[i]? = some x → (x :: l.eraseIdx i).Perm l
  | [], i, x, h => by simp at h
  | y :: l, 0, x, h => by
    have e : y = x := Option.some.inj h
    rw [e]
    exact .refl _
  | y :: l, i + 1, x, h => by
    have h : l[i]? = some x := h
    show (x :: y :: l.eraseIdx i).Perm _
    exact (List.Perm.swap y x _).trans ((erase_perm h).cons y)
theorem seq_ix {r : Int} {n : Nat} (h1 : 0 ≤ r) (h2 : r < n) : seqIndex? r n = some r.toNat := by
  have h3 : ¬ r < 0 := by omega
  simp [seqIndex?, h1, h2, h3]
theorem ixN_at {r : Int} {n : Nat} (h1 : 0 ≤ r) (h2 : r < n) : ixN n r = some r.toNat := by
  unfold ixN
  rw [if_pos h1, if_pos h2]
theorem at_int {l : List PI.D} {r : Int} (h1 : 0 ≤ r) (h2 : r < l.length) : atI l r = l[r.toNat]? := by
  unfold atI
  rw [ixN_at h1 h2]
  rfl
end PI
namespace Wk
open PySem PySem.Spec PyProof.Rows L2 PI
theorem Wl.lst {k : Int} {d : PI.D} (h : Wl k d) : ∃ ws, d = .lst ws := by
  obtain ⟨w0, w1, w2, e, _⟩ := h
  exact ⟨_, e⟩
theorem v_dip2 {k many : Int} {ws : List PI.D} (h : Wl k (.lst ws)) (hk : k < 1000000) (hm : 0 < many) (hm2 : many < 1000000) :
    ∃ r ws', c__law_dip [.lst ws, .int many] = some ((false, .int r), [.lst ws']) ∧ 0 ≤ r ∧ r < many ∧ Wl (k + 1) (.lst ws') := by
  obtain ⟨r, d', h1, ⟨h2, h3⟩, h4⟩ := v_dip h hk hm hm2
  obtain ⟨ws', rfl⟩ := h4.lst
  exact ⟨r, ws', h1, h2, h3, h4⟩
theorem v_well {ns : List Int} {p : Nat} (hb : ∀ z ∈ ns, Builtin.Int.intBits z ≤ 1048576) (hl : ns.length ≤ 63) (hp : p < 100) : ∃ ws, c__law_well [.frz (zL ns), .int (p : Int)] = some ((true, .lst ws), []) ∧ Wl 0 (.lst ws) := by
  have m1 : mulB (p : Int) 6700417 = true := mul_small (by omega) (by decide)
  have m7 : modB ((0 : Int)) 1000000000000000000000007 = true := mod_ok (by decide)
  have key : ∀ x : Int, bts x ≤ 1048576 → ((x * 48611 + (p : Int) * 6700417 + 31337) % 1000000000000000000000007 < 10 ^ 24 + 7) ∧ 0 ≤ (x * 48611 + (p : Int) * 6700417 + 31337) % 1000000000000000000000007 := fun x hx => by
    have h1 := Int.emod_lt_of_pos (x * 48611 + (p : Int) * 6700417 + 31337) (by decide : (0 : Int) < 1000000000000000000000007)
    have h2 := Int.emod_nonneg (x * 48611 + (p : Int) * 6700417 + 31337) (by decide : (1000000000000000000000007 : Int) ≠ 0)
    exact ⟨by omega, h2⟩
  by_cases c : p < ns.length
  · have hx : ns[p]? = some ns[p] := List.getElem?_eq_getElem c
    have bx : bts ns[p] ≤ 1048576 := hb _ (List.getElem_mem c)
    have m2 : mulB ns[p] 48611 = true := mul_ok bx (by decide)
    refine ⟨[.int (if (if ns[p] < 0 then -ns[p] else ns[p]) - 1000000000000000000 > 0 then (if ns[p] < 0 then -ns[p] else ns[p]) - 1000000000000000000 else 0), .int ((ns[p] * 48611 + (p : Int) * 6700417 + 31337) % 1000000000000000000000007), .int 0], ?_, _, _, _, rfl, ⟨(key _ bx).2, (key _ bx).1⟩, by omega, by omega⟩
    simp -implicitDefEqProofs [c__law_well, b__law_well, c, hx, p18, p24, m1, m2, mod_ok (by decide : (0 : Int) < 1000000000000000000000007)]
  · have m2 : mulB (p : Int) 7919 = true := mul_small (by omega) (by decide)
    have m3 : mulB (ns.length : Int) 104729 = true := mul_small (by omega) (by decide)
    have bx : ((p : Int) * 7919 + (ns.length : Int) * 104729).natAbs < 2 ^ 100 := by omega
    have m4 : mulB ((p : Int) * 7919 + (ns.length : Int) * 104729) 48611 = true := mul_small bx (by decide)
    have bx2 : bts ((p : Int) * 7919 + (ns.length : Int) * 104729) ≤ 1048576 := Nat.le_trans (PyProof.Rows.intBits_le bx) (by decide)
    obtain ⟨k1, k2⟩ := key _ bx2
    generalize hx : (p : Int) * 7919 + (ns.length : Int) * 104729 = x at *
    refine ⟨[.int (if (if x < 0 then -x else x) - 1000000000000000000 > 0 then (if x < 0 then -x else x) - 1000000000000000000 else 0), .int ((x * 48611 + (p : Int) * 6700417 + 31337) % 1000000000000000000000007), .int 0], ?_, _, _, _, rfl, ⟨k2, k1⟩, by omega, by omega⟩
    simp -implicitDefEqProofs [c__law_well, b__law_well, c, p18, p24, m1, m2, m3, m4, hx, mod_ok (by decide : (0 : Int) < 1000000000000000000000007)]
end Wk

namespace PI
open PySem PySem.Spec PyProof.Rows L2
theorem fl_inv {α : Type} {T : TF} {f : SF} {d : α → PI.D} (R : List α → PI.Env → Prop) (hs : ∀ a r env, R (a :: r) env → ∃ env', ((T (d a) env).bind f) = some (.nx, env') ∧ R r env') (l : List α) (env : PI.Env) (h : R l env) : ∃ env', fl T f (l.map d) env = some (.nx, env') ∧ R [] env' :=
  fl_fold (st := fun (_ : Unit) _ => ()) (fun _ r env => R r env) (fun _ a r env h => hs a r env h) l () env h
theorem fl_invZ {T : TF} {f : SF} (R : List Int → PI.Env → Prop) (hs : ∀ a r env, R (a :: r) env → ∃ env', ((T (.int a) env).bind f) = some (.nx, env') ∧ R r env') (l : List Int) (env : PI.Env) (h : R l env) : ∃ env', fl T f (zL l) env = some (.nx, env') ∧ R [] env' := fl_inv R hs l env h
theorem fl_range {T : TF} {f : SF} (n : Nat) (R : List Int → PI.Env → Prop) (hs : ∀ a r env, R (a :: r) env → ∃ env', ((T (.int a) env).bind f) = some (.nx, env') ∧ R r env') (env : PI.Env) (h : ∀ l : List Int, l.length = n → (∀ i ∈ l, 0 ≤ i ∧ i < n) → R l env) : ∃ env', fl T f (rangeD 0 n) env = some (.nx, env') ∧ R [] env' := by
  rw [z_range]
  refine fl_invZ R hs _ env (h _ (by simp) fun i hi => ?_)
  obtain ⟨j, h1, rfl⟩ := List.mem_map.mp hi
  have := List.mem_range.mp h1
  omega
end PI
namespace Wk
open PySem PySem.Spec PyProof.Rows L2 PI
/-! ### told and due -/
theorem same_bl (k : Nat) (b : Bool) : c__law_same (k + 1) [.bl b, .bl b] = some ((false, .bl true), []) := by
  show runB [false, false] 4 (b__law_same (c__law_same k)) _ = _
  simp -implicitDefEqProofs [b__law_same, isKT]
theorem same_int (k : Nat) (b : Int) : c__law_same (k + 1) [.int b, .int b] = some ((false, .bl true), []) := by
  show runB [false, false] 4 (b__law_same (c__law_same k)) _ = _
  simp -implicitDefEqProofs [b__law_same, isKT]
theorem same_loop {c : Cal} {ds : List PI.D} {d : PI.D} (hd : seqD d = some ds) (hx : ∀ i : Int, ixD d (.int i) = (atI ds i).bind fun e => some (false, e)) (hl : ds.length < 1000) (h : ∀ e ∈ ds, c [e, e] = some ((false, .bl true), [])) :
    ∃ x, fl (tName 3) (fb1__law_same c) (rangeD 0 ds.length) [some (false, d), some (false, d), some (false, .bl true), none] = some (.nx, [some (false, d), some (false, d), some (false, .bl true), x]) := by
  obtain ⟨env', h1, h2⟩ := fl_range (T := tName 3) (f := fb1__law_same c) ds.length (fun r env => (∀ i ∈ r, 0 ≤ i ∧ i < ds.length) ∧ ∃ x, env = [some (false, d), some (false, d), some (false, .bl true), x]) (fun a r env hr => by
    obtain ⟨hr, x, rfl⟩ := hr
    obtain ⟨a1, a2⟩ := hr a List.mem_cons_self
    have hi : a.toNat < ds.length := by omega
    have e := at_int a1 a2
    rw [List.getElem?_eq_getElem hi] at e
    have hc := h _ (List.getElem_mem hi)
    refine ⟨_, ?_, fun i hi => hr i (List.mem_cons_of_mem _ hi), some (false, .int a), rfl⟩
    simp -implicitDefEqProofs [fb1__law_same, hx, e, hc]) [some (false, d), some (false, d), some (false, .bl true), none] fun l _ hi => ⟨hi, none, rfl⟩
  obtain ⟨_, x, rfl⟩ := h2
  exact ⟨x, h1⟩
theorem same_tup (k : Nat) {ds : List PI.D} (hl : ds.length < 1000) (h : ∀ e ∈ ds, c__law_same k [e, e] = some ((false, .bl true), [])) : c__law_same (k + 1) [.tup ds, .tup ds] = some ((false, .bl true), []) := by
  obtain ⟨x, hx⟩ := same_loop (d := .tup ds) rfl (fun _ => rfl) hl h
  show runB [false, false] 4 (b__law_same (c__law_same k)) _ = _
  have b1 : (ds.length : Int) < 4611686018427387904 := by omega
  have b2 : -4611686018427387904 ≤ (ds.length : Int) := by omega
  simp -implicitDefEqProofs [b__law_same, isKT, b1, b2, hx]
theorem same_lst (k : Nat) {ds : List PI.D} (hl : ds.length < 1000) (h : ∀ e ∈ ds, c__law_same k [e, e] = some ((false, .bl true), [])) : c__law_same (k + 1) [.lst ds, .lst ds] = some ((false, .bl true), []) := by
  obtain ⟨x, hx⟩ := same_loop (d := .lst ds) rfl (fun _ => rfl) hl h
  show runB [false, false] 4 (b__law_same (c__law_same k)) _ = _
  have b1 : (ds.length : Int) < 4611686018427387904 := by omega
  have b2 : -4611686018427387904 ≤ (ds.length : Int) := by omega
  simp -implicitDefEqProofs [b__law_same, isKT, b1, b2, hx]
theorem same_ints (k : Nat) {l : List Int} (hl : l.length < 1000) : c__law_same (k + 2) [.tup (zL l), .tup (zL l)] = some ((false, .bl true), []) :=
  same_tup (k + 1) (by rw [zL_len]; exact hl) fun e he => by
    obtain ⟨i, _, rfl⟩ := List.mem_map.mp he
    exact same_int k i
/-! ### the law -/
end Wk

namespace Wk
open PySem PySem.Spec PyProof.Rows L2 PI
/-! ### patterns of three things -/
def Has (P : Int → Int → Int → Prop) (os : List Int) : Prop := ∃ a b c, [a, b, c].Sublist os ∧ P a b c
def P231 (a b c : Int) : Prop := c < a ∧ a < b
def P312 (a b c : Int) : Prop := b < c ∧ c < a
def P321 (a b c : Int) : Prop := c < b ∧ b < a
theorem sub_mid {pre post : List Int} {x y z : Int} (hy : y ∈ pre) (hz : z ∈ post) : [y, x, z].Sublist (pre ++ x :: post) := by
  have h1 : [y].Sublist pre := List.singleton_sublist.mpr hy
  have h2 : [z].Sublist post := List.singleton_sublist.mpr hz
  exact h1.append (h2.cons_cons x)
theorem sub_end {pre post : List Int} {x y w : Int} (h : [w, y].Sublist pre) : [w, y, x].Sublist (pre ++ x :: post) := h.append ((List.nil_sublist post).cons_cons x)
/-- a sublist of three, taken apart at its middle -/
theorem mid_split {os : List Int} {a b c : Int} (h : [a, b, c].Sublist os) : ∃ pre post, os = pre ++ b :: post ∧ a ∈ pre ∧ c ∈ post := by
  induction os with
  | nil => cases h
  | cons x os ih =>
    cases h with
    | cons _ h =>
      obtain ⟨pre, post, e, h1, h2⟩ := ih h
      exact ⟨x :: pre, post, by rw [e]; rfl, List.mem_cons_of_mem _ h1, h2⟩
    | cons_cons _ h =>
      have : ∃ pre post, os = pre ++ b :: post ∧ c ∈ post := by
        clear ih
        induction os with
        | nil => cases h
        | cons y os ih =>
          cases h with
          | cons _ h =>
            obtain ⟨pre, post, e, h2⟩ := ih h
            exact ⟨y :: pre, post, by rw [e]; rfl, h2⟩
          | cons_cons _ h => exact ⟨[], os, rfl, List.singleton_sublist.mp h⟩
      obtain ⟨pre, post, e, h2⟩ := this
      exact ⟨a :: pre, post, by rw [e]; rfl, List.mem_cons_self, h2⟩
theorem end_split {os : List Int} {a b c : Int} (h : [a, b, c].Sublist os) : ∃ pre post, os = pre ++ c :: post ∧ [a, b].Sublist pre := by
  have key : ∀ (l : List Int) (os : List Int), (l ++ [c]).Sublist os → ∃ pre post, os = pre ++ c :: post ∧ l.Sublist pre := by
    intro l os
    induction os generalizing l with
    | nil => intro h; cases l <;> cases h
    | cons x os ih =>
      intro h
      cases l with
      | nil =>
        cases h with
        | cons _ h =>
          obtain ⟨pre, post, e, h1⟩ := ih [] h
          exact ⟨x :: pre, post, by rw [e]; rfl, List.nil_sublist _⟩
        | cons_cons _ h => exact ⟨[], os, rfl, List.nil_sublist _⟩
      | cons y l =>
        cases h with
        | cons _ h =>
          obtain ⟨pre, post, e, h1⟩ := ih (y :: l) h
          exact ⟨x :: pre, post, by rw [e]; rfl, h1.cons x⟩
        | cons_cons _ h =>
          obtain ⟨pre, post, e, h1⟩ := ih l h
          exact ⟨x :: pre, post, by rw [e]; rfl, h1.cons_cons x⟩
  exact key [a, b] os h
/-- sorted, so nothing stands ahead of a smaller one -/
theorem not_sorted {l m : List Int} {y z : Int} (hs : (l ++ m).Pairwise (· < ·)) (hy : y ∈ l) (hz : z ∈ m) : y < z := (List.pairwise_append.mp hs).2.2 y hy z hz
/-! ### the stack: 231 -/
def stkR (p : List Int × List Int) (os : List Int) : List Int × List Int := os.foldl stkS p
theorem popW_split (x : Int) : ∀ (r left : List Int), r.Pairwise (· < ·) → x ∉ r → ∃ p, (popW x left r).1 = left ++ p ∧ p ++ (popW x left r).2 = r ∧ (∀ y ∈ p, y < x) ∧ ∀ y ∈ (popW x left r).2, x < y
  | [], left, _, _ => ⟨[], by rw [popW, List.append_nil], by rw [popW]; rfl, fun _ h => (nomatch h), by rw [popW]; exact fun _ h => (nomatch h)⟩
  | y :: r, left, hs, hx => by
    rw [popW]
    obtain ⟨h1, h2⟩ := List.pairwise_cons.mp hs
    split
    · rename_i c
      obtain ⟨p, e1, e2, e3, e4⟩ := popW_split x r (left ++ [y]) h2 fun h => hx (List.mem_cons_of_mem _ h)
      refine ⟨y :: p, by rw [e1, List.append_assoc]; rfl, by rw [List.cons_append, e2], fun z hz => ?_, e4⟩
      rcases List.mem_cons.mp hz with rfl | hz
      · exact c
      · exact e3 z hz
    · rename_i c
      have hne : x ≠ y := fun e => hx (by rw [e]; exact List.mem_cons_self)
      refine ⟨[], by rw [List.append_nil], rfl, fun _ h => (nomatch h), fun z hz => ?_⟩
      rcases List.mem_cons.mp hz with rfl | hz
      · omega
      · have := h1 z hz
        omega
/-- what stands behind a turn: the stack rises from its top; all that is smaller than x has left -/
theorem stk_step {p : List Int × List Int} {x : Int} (hs : p.2.Pairwise (· < ·)) (hx : x ∉ p.2) : (stkS p x).2.Pairwise (· < ·) ∧ ∃ q, (stkS p x).1 = p.1 ++ q ∧ (∃ r', q ++ r' = p.2 ∧ (stkS p x).2 = x :: r') ∧ (∀ y ∈ q, y < x) ∧ ∀ y ∈ (stkS p x).2, x ≤ y := by
  obtain ⟨q, e1, e2, e3, e4⟩ := popW_split x p.2 p.1 hs hx
  have h5 : ((popW x p.1 p.2).2).Pairwise (· < ·) := by
    rw [← e2] at hs
    exact (List.pairwise_append.mp hs).2.1
  refine ⟨List.pairwise_cons.mpr ⟨e4, h5⟩, q, e1, ⟨_, e2, rfl⟩, e3, fun y hy => ?_⟩
  rcases List.mem_cons.mp hy with rfl | hy
  · exact Int.le_refl _
  · exact Int.le_of_lt (e4 y hy)
theorem stk_left (os : List Int) (p : List Int × List Int) : ∃ q, (os.foldl stkS p).1 = p.1 ++ q := by
  induction os generalizing p with
  | nil => exact ⟨[], by rw [List.append_nil]; rfl⟩
  | cons x os ih =>
    obtain ⟨q, e⟩ := ih (stkS p x)
    have h2 : ∃ t, (stkS p x).1 = p.1 ++ t := by
      have key : ∀ (r left : List Int), ∃ t, (popW x left r).1 = left ++ t := by
        intro r
        induction r with
        | nil => intro left; exact ⟨[], by rw [popW, List.append_nil]⟩
        | cons y r ih =>
          intro left
          rw [popW]
          split
          · obtain ⟨t, e⟩ := ih (left ++ [y])
            exact ⟨y :: t, by rw [e, List.append_assoc]; rfl⟩
          · exact ⟨[], by rw [List.append_nil]⟩
      exact key p.2 p.1
    obtain ⟨t, e2⟩ := h2
    exact ⟨t ++ q, by rw [List.foldl_cons, e, e2, List.append_assoc]⟩
/-- along the order: the stack rises, and holds what has not left -/
theorem stk_inv : ∀ (os : List Int) (p : List Int × List Int), (p.1 ++ p.2 ++ os).Nodup → p.2.Pairwise (· < ·) → (os.foldl stkS p).2.Pairwise (· < ·)
  | [], p, _, h => h
  | x :: os, p, nd, h => by
    have hx : x ∉ p.2 := fun z => by
      have := (List.nodup_append.mp nd).2.2 x (List.mem_append_right _ z) x List.mem_cons_self
      exact this rfl
    refine stk_inv os (stkS p x) ?_ (stk_step h hx).1
    have hp : ((stkS p x).1 ++ (stkS p x).2).Perm (x :: (p.1 ++ p.2)) := by
      show ((popW x p.1 p.2).1 ++ x :: (popW x p.1 p.2).2).Perm _
      rw [← popW_app x p.2 p.1]
      exact List.perm_middle
    exact ((hp.append_right os).trans (List.perm_middle (a := x) (l₁ := p.1 ++ p.2) (l₂ := os)).symm).symm.nodup nd
theorem stkS_perm (p : List Int × List Int) (x : Int) : ((stkS p x).1 ++ (stkS p x).2).Perm (x :: (p.1 ++ p.2)) := by
  show ((popW x p.1 p.2).1 ++ x :: (popW x p.1 p.2).2).Perm _
  rw [← popW_app x p.2 p.1]
  exact List.perm_middle
/-- without 231 all comes out in its order -/
theorem stk_good (full : List Int) (h231 : ¬ Has P231 full) (nd : full.Nodup) : ∀ (os pre : List Int) (p : List Int × List Int), full = pre ++ os → (∀ y ∈ p.2, y ∈ pre) → (p.1 ++ p.2).Pairwise (· < ·) → (∀ y ∈ p.1, ∀ z ∈ os, y < z) → ((os.foldl stkS p).1 ++ (os.foldl stkS p).2).Pairwise (· < ·)
  | [], pre, p, _, _, h, _ => h
  | x :: os, pre, p, e, hm, hs, hl => by
    have ndx : ∀ y ∈ pre, ∀ z ∈ x :: os, y ≠ z := by
      rw [e] at nd
      exact fun y hy z hz => (List.nodup_append.mp nd).2.2 y hy z hz
    obtain ⟨s1, s2, s3⟩ := List.pairwise_append.mp hs
    obtain ⟨k1, q, k2, ⟨r', k3, k4⟩, k5, k6⟩ := stk_step (p := p) (x := x) s2 fun z => ndx x (hm x z) x List.mem_cons_self rfl
    have qs : ∀ y ∈ q, y ∈ p.2 := fun y hy => by rw [← k3]; exact List.mem_append_left _ hy
    have rs : ∀ y ∈ r', y ∈ p.2 := fun y hy => by rw [← k3]; exact List.mem_append_right _ hy
    rw [k4] at k1
    obtain ⟨t1, t2⟩ := List.pairwise_cons.mp k1
    refine stk_good full h231 nd os (pre ++ [x]) (stkS p x) (by rw [e, List.append_assoc]; rfl) (fun y hy => ?_) ?_ (fun y hy z hz => ?_)
    · rw [k4] at hy
      rcases List.mem_cons.mp hy with rfl | hy
      · exact List.mem_append_right _ List.mem_cons_self
      · exact List.mem_append_left _ (hm y (rs y hy))
    · rw [k2, k4]
      refine List.pairwise_append.mpr ⟨?_, k1, fun y hy z hz => ?_⟩
      · refine List.pairwise_append.mpr ⟨s1, ?_, fun y hy z hz => s3 y hy z (qs z hz)⟩
        rw [← k3] at s2
        exact (List.pairwise_append.mp s2).1
      · have hyx : y < x := by
          rcases List.mem_append.mp hy with hy | hy
          · exact hl y hy x List.mem_cons_self
          · exact k5 y hy
        rcases List.mem_cons.mp hz with rfl | hz
        · exact hyx
        · have := t1 z hz
          omega
    · rw [k2] at hy
      rcases List.mem_append.mp hy with hy | hy
      · exact hl y hy z (List.mem_cons_of_mem _ hz)
      · have hyp := hm y (qs y hy)
        have hne := ndx y hyp z (List.mem_cons_of_mem _ hz)
        have hyx := k5 y hy
        by_cases c : z < y
        · exact absurd ⟨y, x, z, by rw [e]; exact sub_mid hyp hz, c, hyx⟩ h231
        · omega
theorem stk_iff (os : List Int) (nd : os.Nodup) : (byStack os).Pairwise (· < ·) ↔ ¬ Has P231 os := by
  refine ⟨fun hs ⟨a, b, c, hsub, hca, hab⟩ => ?_, fun h => stk_good os h nd os [] ([], []) rfl (fun _ z => (nomatch z)) .nil fun _ z => (nomatch z)⟩
  obtain ⟨pre, post, e, ha, hc⟩ := mid_split hsub
  have ndp : (pre ++ b :: post).Nodup := by rw [← e]; exact nd
  have nd1 := (List.nodup_append.mp ndp).2.2
  have pp : ((pre.foldl stkS ([], [])).1 ++ (pre.foldl stkS ([], [])).2).Perm pre := by simpa using fold_perm stkS_perm pre ([], [])
  have hs2 : (pre.foldl stkS ([], [])).2.Pairwise (· < ·) := stk_inv pre ([], []) (by simpa using (List.nodup_append.mp ndp).1) .nil
  generalize hp : pre.foldl stkS ([], []) = p at *
  have nb : b ∉ p.2 := fun z => nd1 b (pp.mem_iff.mp (List.mem_append_right _ z)) b List.mem_cons_self rfl
  obtain ⟨k1, q, k2, ⟨r', k3, k4⟩, k5, k6⟩ := stk_step hs2 nb
  have ha1 : a ∈ (stkS p b).1 := by
    rw [k2]
    rcases List.mem_append.mp (pp.mem_iff.mpr ha) with h | h
    · exact List.mem_append_left _ h
    · rw [← k3] at h
      rcases List.mem_append.mp h with h | h
      · exact List.mem_append_right _ h
      · have := k6 a (by rw [k4]; exact List.mem_cons_of_mem _ h)
        omega
  obtain ⟨t, e2⟩ := stk_left post (stkS p b)
  have efold : os.foldl stkS ([], []) = post.foldl stkS (stkS p b) := by
    rw [e, List.foldl_append, List.foldl_cons, hp]
  have eout : byStack os = (stkS p b).1 ++ (t ++ (post.foldl stkS (stkS p b)).2) := by
    unfold byStack
    rw [efold, e2, List.append_assoc]
  have hc2 : c ∈ byStack os := (stk_perm os).mem_iff.mpr (by rw [e]; exact List.mem_append_right _ (List.mem_cons_of_mem _ hc))
  have hc3 : c ∉ (stkS p b).1 := fun z => by
    have h1 : c ∈ b :: (p.1 ++ p.2) := (stkS_perm p b).mem_iff.mp (List.mem_append_left _ z)
    rcases List.mem_cons.mp h1 with rfl | h1
    · exact (List.nodup_cons.mp (List.nodup_append.mp ndp).2.1).1 hc
    · exact nd1 c (pp.mem_iff.mp h1) c (List.mem_cons_of_mem _ hc) rfl
  rw [eout] at hs hc2
  rcases List.mem_append.mp hc2 with h | h
  · exact hc3 h
  · have := not_sorted hs ha1 h
    omega
end Wk

namespace Wk
open PySem PySem.Spec PyProof.Rows L2 PI
/-! ### the popper: 231, 312 -/
theorem pop_step {p : List Int × List Int} {x : Int} (hs : p.2.Pairwise (· < ·)) (hx : x ∉ p.2) : ((popS p x).1 = p.1 ++ p.2 ∧ (popS p x).2 = [x] ∧ ∃ y r, p.2 = y :: r ∧ y < x) ∨ ((popS p x).1 = p.1 ∧ (popS p x).2 = x :: p.2 ∧ ∀ y ∈ p.2, x < y) := by
  obtain ⟨l, r⟩ := p
  cases r with
  | nil => exact .inr ⟨rfl, rfl, fun _ h => (nomatch h)⟩
  | cons y r =>
    by_cases c : y < x
    · refine .inl ⟨?_, ?_, y, r, rfl, c⟩ <;> simp [popS, c]
    · refine .inr ⟨?_, ?_, fun z hz => ?_⟩
      · simp [popS, c]
      · simp [popS, c]
      · have hne : x ≠ y := fun e => hx (by rw [e]; exact List.mem_cons_self)
        rcases List.mem_cons.mp hz with rfl | hz
        · omega
        · have := (List.pairwise_cons.mp hs).1 z hz
          omega
theorem popS_perm (p : List Int × List Int) (x : Int) : ((popS p x).1 ++ (popS p x).2).Perm (x :: (p.1 ++ p.2)) := by
  obtain ⟨l, r⟩ := p
  cases r with
  | nil =>
    show (l ++ [x]).Perm (x :: (l ++ []))
    rw [List.append_nil]
    exact List.perm_append_singleton x l
  | cons y r =>
    by_cases c : y < x
    · simp only [popS, if_pos c]
      exact List.perm_append_singleton x _
    · simp only [popS, if_neg c]
      exact List.perm_middle
theorem pop_left (os : List Int) (p : List Int × List Int) : ∃ q, (os.foldl popS p).1 = p.1 ++ q := by
  induction os generalizing p with
  | nil => exact ⟨[], by rw [List.append_nil]; rfl⟩
  | cons x os ih =>
    obtain ⟨q, e⟩ := ih (popS p x)
    have h2 : ∃ t, (popS p x).1 = p.1 ++ t := by
      obtain ⟨l, r⟩ := p
      cases r with
      | nil => exact ⟨[], by rw [List.append_nil]; rfl⟩
      | cons y r =>
        by_cases c : y < x
        · exact ⟨y :: r, by simp only [popS, if_pos c]⟩
        · exact ⟨[], by simp only [popS, if_neg c, List.append_nil]⟩
    obtain ⟨t, e2⟩ := h2
    exact ⟨t ++ q, by rw [List.foldl_cons, e, e2, List.append_assoc]⟩
/-- the stack rises from its top; it is the end of what went in -/
theorem pop_inv : ∀ (os pre : List Int) (p : List Int × List Int), (pre ++ os).Nodup → p.2.Pairwise (· < ·) → (∃ u, pre = u ++ p.2.reverse ∧ u.Perm p.1) → (os.foldl popS p).2.Pairwise (· < ·) ∧ ∃ u, pre ++ os = u ++ (os.foldl popS p).2.reverse ∧ u.Perm (os.foldl popS p).1
  | [], pre, p, _, h, hu => ⟨h, by rw [List.append_nil]; exact hu⟩
  | x :: os, pre, p, nd, h, ⟨u, e, hu⟩ => by
    have hx : x ∉ p.2 := fun z => (List.nodup_append.mp nd).2.2 x (by rw [e]; exact List.mem_append_right _ (List.mem_reverse.mpr z)) x List.mem_cons_self rfl
    have key : (popS p x).2.Pairwise (· < ·) ∧ ∃ u, pre ++ [x] = u ++ (popS p x).2.reverse ∧ u.Perm (popS p x).1 := by
      rcases pop_step h hx with ⟨e1, e2, _⟩ | ⟨e1, e2, e3⟩
      · rw [e1, e2]
        refine ⟨List.pairwise_singleton _ _, pre, rfl, ?_⟩
        rw [e]
        exact hu.append (List.reverse_perm _)
      · rw [e1, e2]
        refine ⟨List.pairwise_cons.mpr ⟨e3, h⟩, u, ?_, hu⟩
        rw [e, List.reverse_cons, List.append_assoc]
    have r := pop_inv os (pre ++ [x]) (popS p x) (by rw [List.append_assoc]; exact nd) key.1 key.2
    rw [List.append_assoc] at r
    exact r
/-- what has left stands ahead of what has not -/
theorem out_split {st : List Int × List Int → Int → List Int × List Int} (hl : ∀ (os : List Int) (p : List Int × List Int), ∃ q, (os.foldl st p).1 = p.1 ++ q) (hp : ∀ p x, ((st p x).1 ++ (st p x).2).Perm (x :: (p.1 ++ p.2))) {pre post : List Int} {a b c : Int}
    (ha : a ∈ ((pre ++ [b]).foldl st ([], [])).1) (hc : c ∈ pre ++ b :: post) (hc2 : c ∉ ((pre ++ [b]).foldl st ([], [])).1) (hs : (((pre ++ b :: post).foldl st ([], [])).1 ++ ((pre ++ b :: post).foldl st ([], [])).2).Pairwise (· < ·)) : a < c := by
  have e : pre ++ b :: post = (pre ++ [b]) ++ post := by rw [List.append_assoc]; rfl
  rw [e, List.foldl_append] at hs
  obtain ⟨q, e2⟩ := hl post ((pre ++ [b]).foldl st ([], []))
  have pm := fold_perm hp (pre ++ b :: post) ([], [])
  rw [e, List.foldl_append] at pm
  have hc3 := pm.mem_iff.mpr (List.mem_append_left _ (by rw [← e]; exact hc))
  rw [e2, List.append_assoc] at hs hc3
  rcases List.mem_append.mp hc3 with h | h
  · exact absurd h hc2
  · exact not_sorted hs ha h
theorem sub_right {u v : List Int} {a b : Int} (h : [a, b].Sublist (u ++ v)) (ha : a ∉ u) : [a, b].Sublist v := by
  obtain ⟨l1, l2, e, h1, h2⟩ := List.sublist_append_iff.mp h
  cases l1 with
  | nil =>
    rw [List.nil_append] at e
    rw [e]
    exact h2
  | cons y l1 =>
    have e1 : a = y := (List.cons.inj e).1
    exact absurd (h1.subset (by rw [e1]; exact List.mem_cons_self)) ha
theorem pop_good (full : List Int) (h231 : ¬ Has P231 full) (h312 : ¬ Has P312 full) (nd : full.Nodup) : ∀ (os pre : List Int) (p : List Int × List Int), full = pre ++ os → (∃ u, pre = u ++ p.2.reverse) → (p.1 ++ p.2).Pairwise (· < ·) → (∀ y ∈ p.1, ∀ z ∈ os, y < z) → ((os.foldl popS p).1 ++ (os.foldl popS p).2).Pairwise (· < ·)
  | [], pre, p, _, _, h, _ => h
  | x :: os, pre, p, e, ⟨u, eu⟩, hs, hl => by
    have hm : ∀ y ∈ p.2, y ∈ pre := fun y hy => by rw [eu]; exact List.mem_append_right _ (List.mem_reverse.mpr hy)
    have ndx : ∀ y ∈ pre, ∀ z ∈ x :: os, y ≠ z := by
      rw [e] at nd
      exact fun y hy z hz => (List.nodup_append.mp nd).2.2 y hy z hz
    obtain ⟨s1, s2, s3⟩ := List.pairwise_append.mp hs
    have hpx : ∀ y ∈ p.1, y < x := fun y hy => hl y hy x List.mem_cons_self
    rcases pop_step (p := p) (x := x) s2 fun z => ndx x (hm x z) x List.mem_cons_self rfl with ⟨e1, e2, y0, r, e3, hyx⟩ | ⟨e1, e2, e3⟩
    · have all : ∀ w ∈ p.2, w < x := fun w hw => by
        have hne := ndx w (hm w hw) x List.mem_cons_self
        by_cases c : x < w
        · rw [e3] at hw
          rcases List.mem_cons.mp hw with rfl | hw
          · omega
          · refine absurd ⟨w, y0, x, ?_, hyx, c⟩ h312
            rw [e]
            refine sub_end ?_
            rw [eu, e3, List.reverse_cons, ← List.append_assoc]
            exact (List.singleton_sublist.mpr (List.mem_append_right _ (List.mem_reverse.mpr hw))).append (List.Sublist.refl [y0])
        · omega
      refine pop_good full h231 h312 nd os (pre ++ [x]) (popS p x) (by rw [e, List.append_assoc]; rfl) ⟨pre, by rw [e2]; rfl⟩ ?_ fun y hy z hz => ?_
      · rw [e1, e2]
        refine List.pairwise_append.mpr ⟨hs, List.pairwise_singleton _ _, fun y hy z hz => ?_⟩
        rw [List.mem_singleton.mp hz]
        rcases List.mem_append.mp hy with hy | hy
        · exact hpx y hy
        · exact all y hy
      · rw [e1] at hy
        rcases List.mem_append.mp hy with hy | hy
        · exact hl y hy z (List.mem_cons_of_mem _ hz)
        · have hne := ndx y (hm y hy) z (List.mem_cons_of_mem _ hz)
          by_cases c : z < y
          · exact absurd ⟨y, x, z, by rw [e]; exact sub_mid (hm y hy) hz, c, all y hy⟩ h231
          · omega
    · refine pop_good full h231 h312 nd os (pre ++ [x]) (popS p x) (by rw [e, List.append_assoc]; rfl) ⟨u, by rw [e2, eu, List.reverse_cons, List.append_assoc]⟩ ?_ fun y hy z hz => ?_
      · rw [e1, e2]
        refine List.pairwise_append.mpr ⟨s1, List.pairwise_cons.mpr ⟨e3, s2⟩, fun y hy z hz => ?_⟩
        rcases List.mem_cons.mp hz with rfl | hz
        · exact hpx y hy
        · exact s3 y hy z hz
      · rw [e1] at hy
        exact hl y hy z (List.mem_cons_of_mem _ hz)
theorem pop_iff (os : List Int) (nd : os.Nodup) : (byPopper os).Pairwise (· < ·) ↔ ¬ Has P231 os ∧ ¬ Has P312 os := by
  refine ⟨fun hs => ⟨fun ⟨a, b, c, hsub, hca, hab⟩ => ?_, fun ⟨a, b, c, hsub, hbc, hca⟩ => ?_⟩, fun h => pop_good os h.1 h.2 nd os [] ([], []) rfl ⟨[], rfl⟩ .nil fun _ z => (nomatch z)⟩
  · obtain ⟨pre, post, e, ha, hc⟩ := mid_split hsub
    subst e
    have nd1 := (List.nodup_append.mp nd).2.2
    have ndb := (List.nodup_cons.mp (List.nodup_append.mp nd).2.1).1
    have pp : ((pre.foldl popS ([], [])).1 ++ (pre.foldl popS ([], [])).2).Perm pre := by simpa using fold_perm popS_perm pre ([], [])
    have hi := (pop_inv pre [] ([], []) (List.nodup_append.mp nd).1 .nil ⟨[], rfl, .refl _⟩).1
    have e1 : (pre ++ [b]).foldl popS ([], []) = popS (pre.foldl popS ([], [])) b := by rw [List.foldl_append]; rfl
    have := out_split (c := c) (a := a) pop_left popS_perm (pre := pre) (b := b) (post := post) (by
      rw [e1]
      have nb : b ∉ (pre.foldl popS ([], [])).2 := fun z => nd1 b (pp.mem_iff.mp (List.mem_append_right _ z)) b List.mem_cons_self rfl
      have ha2 := pp.mem_iff.mpr ha
      rcases pop_step hi nb with ⟨k1, k2, _⟩ | ⟨k1, k2, k3⟩
      · rw [k1]; exact ha2
      · rw [k1]
        rcases List.mem_append.mp ha2 with h | h
        · exact h
        · have := k3 a h
          omega) (List.mem_append_right _ (List.mem_cons_of_mem _ hc)) (fun z => by
      rw [e1] at z
      have h1 := (popS_perm _ b).mem_iff.mp (List.mem_append_left _ z)
      rcases List.mem_cons.mp h1 with rfl | h1
      · exact ndb hc
      · exact nd1 c (pp.mem_iff.mp h1) c (List.mem_cons_of_mem _ hc) rfl) hs
    omega
  · obtain ⟨pre, post, e, hab⟩ := end_split hsub
    subst e
    have nd1 := (List.nodup_append.mp nd).2.2
    have pp : ((pre.foldl popS ([], [])).1 ++ (pre.foldl popS ([], [])).2).Perm pre := by simpa using fold_perm popS_perm pre ([], [])
    obtain ⟨hi, u, eu, hu⟩ := pop_inv pre [] ([], []) (List.nodup_append.mp nd).1 .nil ⟨[], rfl, .refl _⟩
    have e1 : (pre ++ [c]).foldl popS ([], []) = popS (pre.foldl popS ([], [])) c := by rw [List.foldl_append]; rfl
    have hc0 : c ∉ pre := fun z => nd1 c z c List.mem_cons_self rfl
    have nb : c ∉ (pre.foldl popS ([], [])).2 := fun z => hc0 (pp.mem_iff.mp (List.mem_append_right _ z))
    have ha : a ∈ pre := hab.subset List.mem_cons_self
    have this := out_split (c := c) (a := a) pop_left popS_perm (pre := pre) (b := c) (post := post) (by
      rw [e1]
      have ha2 := pp.mem_iff.mpr ha
      rcases pop_step hi nb with ⟨k1, k2, _⟩ | ⟨k1, k2, k3⟩
      · rw [k1]; exact ha2
      · rw [k1]
        rcases List.mem_append.mp ha2 with h | h
        · exact h
        · rw [List.nil_append] at eu
          have ndp := (List.nodup_append.mp nd).1
          rw [eu] at hab ndp
          have au : a ∉ u := fun z => (List.nodup_append.mp ndp).2.2 a z a (List.mem_reverse.mpr h) rfl
          have hb := (sub_right hab au).subset (List.mem_cons_of_mem _ List.mem_cons_self)
          have := k3 b (List.mem_reverse.mp hb)
          omega) (List.mem_append_right _ List.mem_cons_self) (fun z => by
      rw [e1] at z
      rcases pop_step hi nb with ⟨k1, k2, _⟩ | ⟨k1, k2, k3⟩
      · rw [k1] at z
        exact hc0 (pp.mem_iff.mp z)
      · rw [k1] at z
        exact hc0 (pp.mem_iff.mp (List.mem_append_left _ z))) hs
    omega
end Wk

namespace Wk
open PySem PySem.Spec PyProof.Rows L2 PI
/-! ### the held number: 231, 321 -/
theorem bubS_perm (p : List Int × Int) (a : Int) : ((bubS p a).1 ++ [(bubS p a).2]).Perm (a :: (p.1 ++ [p.2])) := by
  unfold bubS
  split
  · show (p.1 ++ [a] ++ [p.2]).Perm _
    rw [List.append_assoc]
    exact List.perm_middle
  · exact List.perm_append_singleton a _
theorem bub_fold (l : List Int) (p : List Int × Int) : ((l.foldl bubS p).1 ++ [(l.foldl bubS p).2]).Perm (l ++ (p.1 ++ [p.2])) := by
  induction l generalizing p with
  | nil => exact .refl _
  | cons a l ih =>
    rw [List.foldl_cons]
    exact (ih (bubS p a)).trans (((bubS_perm p a).append_left l).trans List.perm_middle)
theorem bub_left (os : List Int) (p : List Int × Int) : ∃ q, (os.foldl bubS p).1 = p.1 ++ q := by
  induction os generalizing p with
  | nil => exact ⟨[], by rw [List.append_nil]; rfl⟩
  | cons x os ih =>
    obtain ⟨q, e⟩ := ih (bubS p x)
    have h2 : ∃ t, (bubS p x).1 = p.1 ++ t := by
      unfold bubS
      split
      · exact ⟨[x], rfl⟩
      · exact ⟨[p.2], rfl⟩
    obtain ⟨t, e2⟩ := h2
    exact ⟨t ++ q, by rw [List.foldl_cons, e, e2, List.append_assoc]⟩
/-- the held one is the greatest -/
theorem bub_max : ∀ (os : List Int) (p : List Int × Int), (∀ y ∈ p.1, y ≤ p.2) → ∀ y ∈ (os.foldl bubS p).1, y ≤ (os.foldl bubS p).2
  | [], p, h => h
  | x :: os, p, h => by
    refine bub_max os (bubS p x) fun y hy => ?_
    unfold bubS at hy ⊢
    split at hy
    · rename_i c
      rw [if_pos c]
      rcases List.mem_append.mp hy with hy | hy
      · exact h y hy
      · rw [List.mem_singleton.mp hy]
        exact Int.le_of_lt c
    · rename_i c
      rw [if_neg c]
      rcases List.mem_append.mp hy with hy | hy
      · have := h y hy
        show y ≤ x
        omega
      · rw [List.mem_singleton.mp hy]
        show p.2 ≤ x
        omega
theorem bub_good (full : List Int) (h231 : ¬ Has P231 full) (h321 : ¬ Has P321 full) (nd : full.Nodup) : ∀ (os pre : List Int) (p : List Int × Int), full = pre ++ os → (p.1 ++ [p.2]).Perm pre → (p.1 ++ [p.2]).Pairwise (· < ·) → (∀ y ∈ p.1, ∀ z ∈ os, y < z) → ((os.foldl bubS p).1 ++ [(os.foldl bubS p).2]).Pairwise (· < ·)
  | [], pre, p, _, _, h, _ => h
  | x :: os, pre, p, e, hm, hs, hl => by
    have ndx : ∀ y ∈ pre, ∀ z ∈ x :: os, y ≠ z := by
      rw [e] at nd
      exact fun y hy z hz => (List.nodup_append.mp nd).2.2 y hy z hz
    obtain ⟨s1, s2, s3⟩ := List.pairwise_append.mp hs
    have hh : p.2 ∈ pre := hm.mem_iff.mp (List.mem_append_right _ List.mem_cons_self)
    have hne := ndx p.2 hh x List.mem_cons_self
    have pm : ((bubS p x).1 ++ [(bubS p x).2]).Perm (pre ++ [x]) := (bubS_perm p x).trans ((hm.cons x).trans (List.perm_append_singleton x pre).symm)
    have both : ∀ z ∈ os, ¬ (z < p.2 ∧ z < x) := fun z hz ⟨c1, c2⟩ => by
      have sub : [p.2, x, z].Sublist full := by rw [e]; exact sub_mid hh hz
      by_cases c : p.2 < x
      · exact h231 ⟨_, _, _, sub, c1, c⟩
      · exact h321 ⟨_, _, _, sub, c2, by omega⟩
    by_cases c : x < p.2
    · have eb : bubS p x = (p.1 ++ [x], p.2) := by unfold bubS; rw [if_pos c]
      rw [List.foldl_cons]
      rw [eb] at pm ⊢
      refine bub_good full h231 h321 nd os (pre ++ [x]) (p.1 ++ [x], p.2) (by rw [e, List.append_assoc]; rfl) pm ?_ fun y hy z hz => ?_
      · refine List.pairwise_append.mpr ⟨?_, List.pairwise_singleton _ _, fun y hy z hz => ?_⟩
        · refine List.pairwise_append.mpr ⟨s1, List.pairwise_singleton _ _, fun y hy z hz => ?_⟩
          rw [List.mem_singleton.mp hz]
          exact hl y hy x List.mem_cons_self
        · rw [List.mem_singleton.mp hz]
          rcases List.mem_append.mp hy with hy | hy
          · exact s3 y hy p.2 List.mem_cons_self
          · rw [List.mem_singleton.mp hy]
            exact c
      · rcases List.mem_append.mp hy with hy | hy
        · exact hl y hy z (List.mem_cons_of_mem _ hz)
        · rw [List.mem_singleton.mp hy]
          have b := both z hz
          have hxz : x ≠ z := fun q => by
            rw [e] at nd
            exact (List.nodup_cons.mp (List.nodup_append.mp nd).2.1).1 (by rw [q]; exact hz)
          omega
    · have eb : bubS p x = (p.1 ++ [p.2], x) := by unfold bubS; rw [if_neg c]
      rw [List.foldl_cons]
      rw [eb] at pm ⊢
      refine bub_good full h231 h321 nd os (pre ++ [x]) (p.1 ++ [p.2], x) (by rw [e, List.append_assoc]; rfl) pm ?_ fun y hy z hz => ?_
      · refine List.pairwise_append.mpr ⟨hs, List.pairwise_singleton _ _, fun y hy z hz => ?_⟩
        rw [List.mem_singleton.mp hz]
        rcases List.mem_append.mp hy with hy | hy
        · exact hl y hy x List.mem_cons_self
        · rw [List.mem_singleton.mp hy]
          omega
      · rcases List.mem_append.mp hy with hy | hy
        · exact hl y hy z (List.mem_cons_of_mem _ hz)
        · rw [List.mem_singleton.mp hy]
          have b := both z hz
          have := ndx p.2 hh z (List.mem_cons_of_mem _ hz)
          omega
theorem bub_iff (os : List Int) (nd : os.Nodup) : (byBubble os).Pairwise (· < ·) ↔ ¬ Has P231 os ∧ ¬ Has P321 os := by
  have bad : ∀ a b c : Int, [a, b, c].Sublist os → c < a → c < b → ¬ (byBubble os).Pairwise (· < ·) := fun a b c hsub hca hcb hs => by
    obtain ⟨pre, post, e, ha, hc⟩ := mid_split hsub
    subst e
    cases pre with
    | nil => cases ha
    | cons y pre =>
      have nd1 := (List.nodup_append.mp nd).2.2
      have ndb := (List.nodup_cons.mp (List.nodup_append.mp nd).2.1).1
      have pp : ((pre.foldl bubS ([], y)).1 ++ [(pre.foldl bubS ([], y)).2]).Perm (y :: pre) := (bub_fold pre ([], y)).trans (List.perm_append_singleton y pre)
      have mx := bub_max pre ([], y) fun _ z => (nomatch z)
      have hout : byBubble (y :: pre ++ b :: post) = (post.foldl bubS (bubS (pre.foldl bubS ([], y)) b)).1 ++ [(post.foldl bubS (bubS (pre.foldl bubS ([], y)) b)).2] := by
        show (((pre ++ b :: post).foldl bubS ([], y)).1 ++ [((pre ++ b :: post).foldl bubS ([], y)).2]) = _
        rw [List.foldl_append, List.foldl_cons]
      generalize hp : pre.foldl bubS ([], y) = p at *
      have hbig : a ≤ p.2 := by
        have h := pp.mem_iff.mpr ha
        rcases List.mem_append.mp h with h | h
        · exact mx a h
        · rw [List.mem_singleton.mp h]
          exact Int.le_refl _
      have hm : ∃ m ∈ (bubS p b).1, c < m := by
        unfold bubS
        split
        · exact ⟨b, List.mem_append_right _ List.mem_cons_self, hcb⟩
        · exact ⟨p.2, List.mem_append_right _ List.mem_cons_self, by omega⟩
      obtain ⟨m, hm1, hm2⟩ := hm
      obtain ⟨q, e2⟩ := bub_left post (bubS p b)
      have hc3 : c ∉ (bubS p b).1 := fun z => by
        have h1 := (bubS_perm p b).mem_iff.mp (List.mem_append_left _ z)
        rcases List.mem_cons.mp h1 with rfl | h1
        · exact ndb hc
        · exact nd1 c (pp.mem_iff.mp h1) c (List.mem_cons_of_mem _ hc) rfl
      have hc4 : c ∈ byBubble (y :: pre ++ b :: post) := (bub_perm _).mem_iff.mpr (List.mem_append_right _ (List.mem_cons_of_mem _ hc))
      rw [hout, e2, List.append_assoc] at hs hc4
      rcases List.mem_append.mp hc4 with h | h
      · exact hc3 h
      · have := not_sorted hs hm1 h
        omega
  refine ⟨fun hs => ⟨fun ⟨a, b, c, hsub, hca, hab⟩ => bad a b c hsub hca (by omega) hs, fun ⟨a, b, c, hsub, hcb, hba⟩ => bad a b c hsub (by omega) hcb hs⟩, fun h => ?_⟩
  cases os with
  | nil => exact .nil
  | cons y os => exact bub_good (y :: os) h.1 h.2 nd os [y] ([], y) rfl (.refl _) (List.pairwise_singleton _ _) fun _ z => (nomatch z)
/-! ### two rows: 321 -/
theorem mrg_sub : ∀ (n : Nat) (a b : List Int), a.length + b.length = n → a.Sublist (mrg a b) ∧ b.Sublist (mrg a b) := by
  intro n
  induction n with
  | zero =>
    intro a b h
    cases a with
    | nil =>
      rw [mrg]
      exact ⟨List.nil_sublist _, .refl _⟩
    | cons x a => simp at h
  | succ n ih =>
    intro a b h
    cases a with
    | nil =>
      rw [mrg]
      exact ⟨List.nil_sublist _, .refl _⟩
    | cons x a =>
      cases b with
      | nil =>
        rw [mrg]
        exact ⟨.refl _, List.nil_sublist _⟩
      | cons y b =>
        rw [mrg]
        simp only [List.length_cons] at h
        split
        · obtain ⟨h1, h2⟩ := ih a (y :: b) (by simp only [List.length_cons]; omega)
          exact ⟨h1.cons_cons x, h2.cons x⟩
        · obtain ⟨h1, h2⟩ := ih (x :: a) b (by simp only [List.length_cons]; omega)
          exact ⟨h1.cons y, h2.cons_cons y⟩
theorem mrg_sorted : ∀ (n : Nat) (a b : List Int), a.length + b.length = n → a.Pairwise (· < ·) → b.Pairwise (· < ·) → (∀ x ∈ a, x ∉ b) → (mrg a b).Pairwise (· < ·) := by
  intro n
  induction n with
  | zero =>
    intro a b h ha hb hd
    cases a with
    | nil =>
      rw [mrg]
      exact hb
    | cons x a => simp at h
  | succ n ih =>
    intro a b h ha hb hd
    cases a with
    | nil =>
      rw [mrg]
      exact hb
    | cons x a =>
      cases b with
      | nil =>
        rw [mrg]
        exact ha
      | cons y b =>
        rw [mrg]
        simp only [List.length_cons] at h
        obtain ⟨a1, a2⟩ := List.pairwise_cons.mp ha
        obtain ⟨b1, b2⟩ := List.pairwise_cons.mp hb
        have hne : x ≠ y := fun e => hd x List.mem_cons_self (by rw [e]; exact List.mem_cons_self)
        split
        · rename_i c
          refine List.pairwise_cons.mpr ⟨fun z hz => ?_, ih a (y :: b) (by simp only [List.length_cons]; omega) a2 hb fun w hw => hd w (List.mem_cons_of_mem _ hw)⟩
          rcases List.mem_append.mp ((mrg_perm _ a (y :: b) rfl).mem_iff.mp hz) with hz | hz
          · exact a1 z hz
          · rcases List.mem_cons.mp hz with rfl | hz
            · exact c
            · have := b1 z hz
              omega
        · rename_i c
          refine List.pairwise_cons.mpr ⟨fun z hz => ?_, ih (x :: a) b (by simp only [List.length_cons]; omega) ha b2 fun w hw hb => hd w hw (List.mem_cons_of_mem _ hb)⟩
          rcases List.mem_append.mp ((mrg_perm _ (x :: a) b rfl).mem_iff.mp hz) with hz | hz
          · rcases List.mem_cons.mp hz with rfl | hz
            · omega
            · have := a1 z hz
              omega
          · exact b1 z hz
theorem rows_sub : ∀ (os : List Int) (p : List Int × List Int), (os.foldl lStep p).1.Sublist (p.1 ++ os) ∧ (os.foldl lStep p).2.Sublist (p.2 ++ os)
  | [], p => by rw [List.append_nil, List.append_nil]; exact ⟨.refl _, .refl _⟩
  | x :: os, p => by
    obtain ⟨h1, h2⟩ := rows_sub os (lStep p x)
    have e : ∀ l : List Int, l ++ x :: os = (l ++ [x]) ++ os := fun l => by rw [List.append_assoc]; rfl
    have s1 : (lStep p x).1.Sublist (p.1 ++ [x]) := by
      unfold lStep
      split
      · exact .refl _
      · exact List.sublist_append_left _ _
    have s2 : (lStep p x).2.Sublist (p.2 ++ [x]) := by
      unfold lStep
      split
      · exact List.sublist_append_left _ _
      · exact .refl _
    rw [e, e]
    exact ⟨h1.trans (s1.append (.refl os)), h2.trans (s2.append (.refl os))⟩
theorem two_of {R : List Int} {x y : Int} (hx : x ∈ R) (hy : y ∈ R) (hne : x ≠ y) : [x, y].Sublist R ∨ [y, x].Sublist R := by
  obtain ⟨s, t, e⟩ := List.append_of_mem hx
  subst e
  rcases List.mem_append.mp hy with h | h
  · exact .inr ((List.singleton_sublist.mpr h).append ((List.nil_sublist t).cons_cons x))
  · rcases List.mem_cons.mp h with h | h
    · exact absurd h.symm hne
    · exact .inl (((List.singleton_sublist.mpr h).cons_cons x).trans (List.sublist_append_right s _))
theorem not_both {os : List Int} (nd : os.Nodup) {x y : Int} (h1 : [x, y].Sublist os) (h2 : [y, x].Sublist os) : False := by
  induction os with
  | nil => cases h1
  | cons z os ih =>
    obtain ⟨n1, n2⟩ := List.nodup_cons.mp nd
    cases h1 with
    | cons _ h1 =>
      cases h2 with
      | cons _ h2 => exact ih n2 h1 h2
      | cons_cons _ h2 => exact n1 (h1.subset (List.mem_cons_of_mem _ List.mem_cons_self))
    | cons_cons _ h1 =>
      cases h2 with
      | cons _ h2 => exact n1 (h2.subset (List.mem_cons_of_mem _ List.mem_cons_self))
      | cons_cons _ h2 => exact n1 (List.singleton_sublist.mp h1)
theorem last_all {l : List Int} {y x : Int} (hs : l.Pairwise (· < ·)) (hl : l.getLast? = some y) (hy : y < x) : ∀ z ∈ l, z < x := by
  obtain ⟨l0, e⟩ := List.getLast?_eq_some_iff.mp hl
  subst e
  intro z hz
  rcases List.mem_append.mp hz with hz | hz
  · have := (List.pairwise_append.mp hs).2.2 z hz y List.mem_cons_self
    omega
  · rw [List.mem_singleton.mp hz]
    exact hy
theorem app_sorted {l : List Int} {x : Int} (hs : l.Pairwise (· < ·)) (h : ∀ z ∈ l, z < x) : (l ++ [x]).Pairwise (· < ·) := List.pairwise_append.mpr ⟨hs, List.pairwise_singleton _ _, fun z hz w hw => by rw [List.mem_singleton.mp hw]; exact h z hz⟩
theorem que_good (full : List Int) (h321 : ¬ Has P321 full) (nd : full.Nodup) : ∀ (os pre : List Int) (p : List Int × List Int), full = pre ++ os → (p.1 ++ p.2).Perm pre → p.1.Pairwise (· < ·) → p.2.Pairwise (· < ·) → (∀ v ∈ p.2, ∃ u, [u, v].Sublist pre ∧ v < u) → (os.foldl lStep p).1.Pairwise (· < ·) ∧ (os.foldl lStep p).2.Pairwise (· < ·)
  | [], pre, p, _, _, h1, h2, _ => ⟨h1, h2⟩
  | x :: os, pre, p, e, hm, s1, s2, hu => by
    have ndx : ∀ y ∈ pre, y ≠ x := by
      rw [e] at nd
      exact fun y hy => (List.nodup_append.mp nd).2.2 y hy x List.mem_cons_self
    have m1 : ∀ y ∈ p.1, y ∈ pre := fun y hy => hm.mem_iff.mp (List.mem_append_left _ hy)
    have m2 : ∀ y ∈ p.2, y ∈ pre := fun y hy => hm.mem_iff.mp (List.mem_append_right _ hy)
    have ng : gtLast p.2 x = false := by
      unfold gtLast
      cases hl : p.2.getLast? with
      | none => rfl
      | some v =>
        obtain ⟨u, k1, k2⟩ := hu v (List.mem_of_getLast? hl)
        by_cases c : x < v
        · exact absurd ⟨u, v, x, by rw [e]; exact sub_end k1, c, k2⟩ h321
        · exact decide_eq_false c
    have pm : ((lStep p x).1 ++ (lStep p x).2).Perm (pre ++ [x]) := (lStep_perm p x).trans ((hm.cons x).trans (List.perm_append_singleton x pre).symm)
    cases hf : fits p.1 x with
    | true =>
      have es : lStep p x = (p.1 ++ [x], p.2) := by unfold lStep; rw [hf]; rfl
      rw [List.foldl_cons]
      rw [es] at pm ⊢
      refine que_good full h321 nd os (pre ++ [x]) _ (by rw [e, List.append_assoc]; rfl) pm ?_ s2 fun v hv => ?_
      · cases hl : p.1.getLast? with
        | none =>
          have e0 := List.getLast?_eq_none_iff.mp hl
          show (p.1 ++ [x]).Pairwise _
          rw [e0]
          exact List.pairwise_singleton _ _
        | some y =>
          have hy : y < x := by
            unfold fits at hf
            rw [hl] at hf
            exact of_decide_eq_true hf
          exact app_sorted s1 (last_all s1 hl hy)
      · obtain ⟨u, k1, k2⟩ := hu v hv
        exact ⟨u, k1.trans (List.sublist_append_left _ _), k2⟩
    | false =>
      have es : lStep p x = (p.1, p.2 ++ [x]) := by unfold lStep; rw [hf, ng]; rfl
      have hw : ∃ y, p.1.getLast? = some y ∧ x < y := by
        unfold fits at hf
        cases hl : p.1.getLast? with
        | none =>
          rw [hl] at hf
          cases hf
        | some y =>
          rw [hl] at hf
          have := of_decide_eq_false hf
          have hne := ndx y (m1 y (List.mem_of_getLast? hl))
          exact ⟨y, rfl, by omega⟩
      obtain ⟨y, hl, hxy⟩ := hw
      rw [List.foldl_cons]
      rw [es] at pm ⊢
      refine que_good full h321 nd os (pre ++ [x]) _ (by rw [e, List.append_assoc]; rfl) pm s1 ?_ fun v hv => ?_
      · cases hl2 : p.2.getLast? with
        | none =>
          have e0 := List.getLast?_eq_none_iff.mp hl2
          show (p.2 ++ [x]).Pairwise _
          rw [e0]
          exact List.pairwise_singleton _ _
        | some z =>
          have hz : z < x := by
            unfold gtLast at ng
            rw [hl2] at ng
            have := of_decide_eq_false ng
            have hne := ndx z (m2 z (List.mem_of_getLast? hl2))
            omega
          exact app_sorted s2 (last_all s2 hl2 hz)
      · rcases List.mem_append.mp hv with hv | hv
        · obtain ⟨u, k1, k2⟩ := hu v hv
          exact ⟨u, k1.trans (List.sublist_append_left _ _), k2⟩
        · rw [List.mem_singleton.mp hv]
          exact ⟨y, (List.singleton_sublist.mpr (m1 y (List.mem_of_getLast? hl))).append (.refl [x]), hxy⟩
theorem que_iff (os : List Int) (nd : os.Nodup) : (byQueues os).Pairwise (· < ·) ↔ ¬ Has P321 os := by
  have pm : ((lRows os).1 ++ (lRows os).2).Perm os := by simpa [lRows] using fold_perm lStep_perm os ([], [])
  have ndr : ((lRows os).1 ++ (lRows os).2).Nodup := pm.symm.nodup nd
  refine ⟨fun hs ⟨a, b, c, hsub, hcb, hba⟩ => ?_, fun h => ?_⟩
  · obtain ⟨m1, m2⟩ := mrg_sub _ (lRows os).1 (lRows os).2 rfl
    have t1 : (lRows os).1.Pairwise (· < ·) := hs.sublist m1
    have t2 : (lRows os).2.Pairwise (· < ·) := hs.sublist m2
    obtain ⟨r1, r2⟩ := rows_sub os ([], [])
    have r1 : (lRows os).1.Sublist os := r1
    have r2 : (lRows os).2.Sublist os := r2
    have dec : ∀ {R : List Int} {x y : Int}, R.Sublist os → R.Pairwise (· < ·) → [x, y].Sublist os → y < x → x ∈ R → y ∈ R → False := fun {R x y} hR hp hxy hlt hx hy => by
      rcases two_of hx hy (by omega) with h | h
      · have := (List.pairwise_cons.mp (hp.sublist h)).1 y List.mem_cons_self
        omega
      · exact not_both nd hxy (h.trans hR)
    have ab : [a, b].Sublist os := (List.Sublist.trans (by exact (List.sublist_append_left [a, b] [c])) hsub)
    have bc : [b, c].Sublist os := (List.Sublist.trans (by exact (List.Sublist.cons a (.refl [b, c]))) hsub)
    have ac : [a, c].Sublist os := (List.Sublist.trans (by exact ((List.Sublist.cons b (.refl [c])).cons_cons a)) hsub)
    have at_ : ∀ x ∈ os, x ∈ (lRows os).1 ∨ x ∈ (lRows os).2 := fun x hx => List.mem_append.mp (pm.mem_iff.mpr hx)
    have ha := at_ a (hsub.subset List.mem_cons_self)
    have hb := at_ b (hsub.subset (List.mem_cons_of_mem _ List.mem_cons_self))
    have hc := at_ c (hsub.subset (List.mem_cons_of_mem _ (List.mem_cons_of_mem _ List.mem_cons_self)))
    rcases ha with ha | ha <;> rcases hb with hb | hb <;> rcases hc with hc | hc
    · exact dec r1 t1 ab hba ha hb
    · exact dec r1 t1 ab hba ha hb
    · exact dec r1 t1 ac (by omega) ha hc
    · exact dec r2 t2 bc hcb hb hc
    · exact dec r1 t1 bc hcb hb hc
    · exact dec r2 t2 ac (by omega) ha hc
    · exact dec r2 t2 ab hba ha hb
    · exact dec r2 t2 ab hba ha hb
  · obtain ⟨g1, g2⟩ := que_good os h nd os [] ([], []) rfl (.refl _) .nil .nil fun _ z => (nomatch z)
    exact mrg_sorted _ _ _ rfl g1 g2 fun x hx hy => (List.nodup_append.mp ndr).2.2 x hx x hy rfl
end Wk

namespace PI
open PySem PySem.Spec PyProof.Rows L2
theorem ePop_at {env : PI.Env} {i : Nat} {A : List PI.D} {d : PI.D} (h : env[i]? = some (some (true, .lst (A ++ [d])))) : ePop i env = some ((false, d), env.set i (some (true, .lst A))) := by
  unfold ePop
  rw [h]
  dsimp only
  have e : (A ++ [d])[(A ++ [d]).length - 1]? = some d := by simp
  rw [e]
  simp
end PI
namespace Wk
open PySem PySem.Spec PyProof.Rows L2 PI
/-! ### the law's search for a pattern -/
def gt (l : List Int) (i : Nat) : Int := l.getD i 0
theorem gt_get {l : List Int} {i : Nat} (h : i < l.length) : l[i]? = some (gt l i) := by
  unfold gt
  rw [List.getD_eq_getElem?_getD, List.getElem?_eq_getElem h]
  rfl
def nfit (os p : List Int) (row : List Nat) (pl k : Nat) : Bool := !(decide (gt os (row.getD k 0) < gt os pl) == decide (gt p k < gt p row.length))
def okx (os p : List Int) (row : List Nat) (pl : Nat) : Bool := decide ((List.range row.length).filter (nfit os p row pl) = [])
def frm (row : List Nat) : Nat := match row.getLast? with
  | none => 0
  | some l => l + 1
def cnt (os p : List Int) (row : List Nat) : Nat := os.length + row.length + 1 - p.length - frm row
def kids (os p : List Int) (row : List Nat) : List (List Nat) := (((List.range (cnt os p row)).map fun i => frm row + i).filter (okx os p row)).map fun i => row ++ [i]
def extB (os p : List Int) : Nat → List Nat → Bool
  | 0, _ => true
  | k + 1, row => (kids os p row).any (extB os p k)
def showsB (os p : List Int) : Bool := extB os p p.length []
def encR (row : List Nat) : PI.D := .tup (zL (row.map fun (i : Nat) => (i : Int)))
theorem encR_app (row : List Nat) (i : Nat) : addD (encR row) (.tup [.int (i : Int)]) = if row.length + 1 ≤ 1000000 then some (false, encR (row ++ [i])) else none := by
  unfold encR
  show (if (zL (row.map fun (i : Nat) => (i : Int))).length + 1 ≤ 1000000 then _ else _) = _
  rw [zL_len, List.length_map, zL_app1]
  simp
structure RowOk (os p : List Int) (row : List Nat) : Prop where
  len : row.length ≤ p.length
  bnd : ∀ i ∈ row, i < os.length
/-- one place is looked at -/
theorem v_nfit {os p : List Int} {row : List Nat} {pl k : Nat} (x2 : Option (Bool × PI.D)) (hr : RowOk os p row) (hl : row.length < p.length) (hp : pl < os.length) (hk : k < row.length) :
    lc1__law_shows [some (false, .tup (zL os)), some (false, .tup (zL p)), x2, some (false, encR row), some (false, .int (row.length : Int)), some (false, .int (pl : Int)), some (false, .int (k : Int))] =
      some ((false, .bl (nfit os p row pl k)), [some (false, .tup (zL os)), some (false, .tup (zL p)), x2, some (false, encR row), some (false, .int (row.length : Int)), some (false, .int (pl : Int)), some (false, .int (k : Int))]) := by
  have h1 : (row.map fun (i : Nat) => (i : Int))[k]? = some ((row.getD k 0 : Nat) : Int) := by
    rw [List.getElem?_map, List.getElem?_eq_getElem hk]
    simp [List.getD_eq_getElem?_getD, hk]
  have hb : row.getD k 0 < os.length := by
    refine hr.bnd _ ?_
    rw [List.getD_eq_getElem?_getD, List.getElem?_eq_getElem hk]
    exact List.getElem_mem hk
  have h2 := gt_get hb
  have h3 := gt_get hp
  have h4 := gt_get (l := p) (i := k) (by omega)
  have h5 := gt_get hl
  have hn : nfit os p row pl k = !(decide (gt os (row.getD k 0) < gt os pl) == decide (gt p k < gt p row.length)) := rfl
  generalize row.getD k 0 = q at *
  simp -implicitDefEqProofs [lc1__law_shows, encR, h1, h2, h3, h4, h5, hn]
/-- one place: kept, or not -/
theorem v_place {os p : List Int} {row : List Nat} {pl : Nat} (L : List PI.D) (x5 : Option (Bool × PI.D)) (hr : RowOk os p row) (hl : row.length < p.length) (hp : pl < os.length) (hs : row.length < 1000) (hL : L.length < 1000000) :
    (tName 5 (.int (pl : Int)) [some (false, .tup (zL os)), some (false, .tup (zL p)), some (true, .lst L), some (false, encR row), some (false, .int (row.length : Int)), x5, none]).bind fb1__law_shows =
      some (.nx, [some (false, .tup (zL os)), some (false, .tup (zL p)), some (true, .lst (if okx os p row pl then L ++ [encR (row ++ [pl])] else L)), some (false, encR row), some (false, .int (row.length : Int)), some (false, .int (pl : Int)), none]) := by
  have hc := lcl_filter (T := tName 6) (c := lc1__law_shows) (f := eVar 6) (vs := [6]) (env := [some (false, .tup (zL os)), some (false, .tup (zL p)), some (true, .lst L), some (false, encR row), some (false, .int (row.length : Int)), some (false, .int (pl : Int)), none]) (enc := fun (i : Nat) => PI.D.int (0 + (i : Int))) (g := fun (i : Nat) => PI.D.int (0 + (i : Int))) (p := nfit os p row pl) (by simp) (List.range row.length) (fun k hk => by
    have hk := List.mem_range.mp hk
    have h := v_nfit (k := k) (some (true, .lst L)) hr hl hp hk
    refine ⟨[some (false, .tup (zL os)), some (false, .tup (zL p)), some (true, .lst L), some (false, encR row), some (false, .int (row.length : Int)), some (false, .int (pl : Int)), some (false, .int (k : Int))], false, [some (false, .tup (zL os)), some (false, .tup (zL p)), some (true, .lst L), some (false, encR row), some (false, .int (row.length : Int)), some (false, .int (pl : Int)), some (false, .int (k : Int))], ?_, h, ?_, fun _ => ⟨false, [some (false, .tup (zL os)), some (false, .tup (zL p)), some (true, .lst L), some (false, encR row), some (false, .int (row.length : Int)), some (false, .int (pl : Int)), some (false, .int (k : Int))], ?_, ?_⟩⟩
    · simp -implicitDefEqProofs
    · simp -implicitDefEqProofs
    · simp -implicitDefEqProofs
    · simp -implicitDefEqProofs)
  have hc : lcl (tName 6) lc1__law_shows (eVar 6) [6] (rangeD 0 row.length) [some (false, .tup (zL os)), some (false, .tup (zL p)), some (true, .lst L), some (false, encR row), some (false, .int (row.length : Int)), some (false, .int (pl : Int)), none] = _ := hc
  have eq : eqD (.lst (((List.range row.length).filter (nfit os p row pl)).map fun (i : Nat) => PI.D.int (0 + (i : Int)))) (.lst []) = some (false, .bl (okx os p row pl)) := by
    have e : (((List.range row.length).filter (nfit os p row pl)).map fun (i : Nat) => PI.D.int (0 + (i : Int))) = zL (((List.range row.length).filter (nfit os p row pl)).map fun (i : Nat) => (0 : Int) + (i : Int)) := by
      unfold zL
      rw [List.map_map]
      rfl
    rw [e, q_eqL0]
    unfold okx
    congr 3
    simp
  have b1 : (row.length : Int) < 4611686018427387904 := by omega
  have b2 : -4611686018427387904 ≤ (row.length : Int) := by omega
  have b3 : row.length < 1000000 := by omega
  have b4 : row.length + 1 ≤ 1000000 := by omega
  have b5 := encR_app row pl
  have len : (rangeD 0 row.length).length = row.length := rangeD_len 0 _
  rw [if_pos b4] at b5
  simp only [Int.zero_add] at eq hc
  cases ok : okx os p row pl <;> rw [ok] at eq <;> simp -implicitDefEqProofs [fb1__law_shows, b1, b2, b3, hc, eq, len, b5, hL, ok]
theorem fold_keep {α β : Type} (q : α → Bool) (h : α → β) : ∀ (l : List α) (S : List β), l.foldl (fun S i => if q i then S ++ [h i] else S) S = S ++ (l.filter q).map h
  | [], S => by simp
  | a :: l, S => by
    rw [List.foldl_cons, fold_keep q h l]
    cases hq : q a with
    | true => rw [if_pos rfl, List.filter_cons_of_pos hq, List.map_cons, List.append_assoc]; rfl
    | false => rw [if_neg (by decide), List.filter_cons_of_neg (by simp [hq])]
theorem kids_fold (os p : List Int) (row : List Nat) : kids os p row = (List.range (cnt os p row)).foldl (fun S i => if okx os p row (frm row + i) then S ++ [row ++ [frm row + i]] else S) [] := by
  rw [fold_keep (fun i => okx os p row (frm row + i)) (fun i => row ++ [frm row + i]), List.nil_append]
  unfold kids
  rw [List.filter_map, List.map_map]
  rfl
theorem frm_le {os p : List Int} {row : List Nat} (hr : RowOk os p row) : frm row ≤ os.length := by
  unfold frm
  cases hl : row.getLast? with
  | none => exact Nat.zero_le _
  | some l => exact hr.bnd l (List.mem_of_getLast? hl)
theorem kids_ok {os p : List Int} {row r : List Nat} (hr : RowOk os p row) (hl : row.length < p.length) (h : r ∈ kids os p row) : RowOk os p r ∧ r.length = row.length + 1 := by
  unfold kids at h
  obtain ⟨i, hi, rfl⟩ := List.mem_map.mp h
  obtain ⟨j, hj, rfl⟩ := List.mem_map.mp (List.mem_filter.mp hi).1
  have hj := List.mem_range.mp hj
  unfold cnt at hj
  refine ⟨⟨by simp; omega, fun k hk => ?_⟩, by simp⟩
  rcases List.mem_append.mp hk with hk | hk
  · exact hr.bnd k hk
  · rw [List.mem_singleton.mp hk]
    omega
theorem l_row {os p : List Int} {row : List Nat} (L : List PI.D) (x5 : Option (Bool × PI.D)) (hr : RowOk os p row) (hl : row.length < p.length) (hs : row.length < 1000) (hL : L.length + cnt os p row < 1000000) :
    ∃ y5, fl (tName 5) fb1__law_shows (rangeD (frm row : Int) (cnt os p row)) [some (false, .tup (zL os)), some (false, .tup (zL p)), some (true, .lst L), some (false, encR row), some (false, .int (row.length : Int)), x5, none] =
      some (.nx, [some (false, .tup (zL os)), some (false, .tup (zL p)), some (true, .lst (L ++ (kids os p row).map encR)), some (false, encR row), some (false, .int (row.length : Int)), y5, none]) := by
  obtain ⟨env', h1, _, _, y5, rfl⟩ := fl_fold (T := tName 5) (f := fb1__law_shows) (d := fun (i : Nat) => PI.D.int ((frm row : Int) + (i : Int))) (st := fun S i => if okx os p row (frm row + i) then S ++ [row ++ [frm row + i]] else S)
    (fun (S : List (List Nat)) (rest : List Nat) env => (∀ i ∈ rest, frm row + i < os.length) ∧ L.length + S.length + rest.length < 1000000 ∧ ∃ y5, env = [some (false, .tup (zL os)), some (false, .tup (zL p)), some (true, .lst (L ++ S.map encR)), some (false, encR row), some (false, .int (row.length : Int)), y5, none])
    (fun S i r env h => by
      obtain ⟨hb, hz, y5, rfl⟩ := h
      simp only [List.length_cons] at hz
      have hp := hb i List.mem_cons_self
      have v := v_place (os := os) (p := p) (row := row) (pl := frm row + i) (L ++ S.map encR) y5 hr hl hp hs (by simp only [List.length_append, List.length_map]; omega)
      have e : ((frm row + i : Nat) : Int) = (frm row : Int) + (i : Int) := Int.natCast_add _ _
      rw [e] at v
      refine ⟨_, v, fun j hj => hb j (List.mem_cons_of_mem _ hj), ?_, some (false, .int ((frm row : Int) + (i : Int))), ?_⟩
      · split
        · simp only [List.length_append, List.length_cons, List.length_nil]
          omega
        · omega
      · cases okx os p row (frm row + i) with
        | true => simp
        | false => simp) (List.range (cnt os p row)) [] [some (false, .tup (zL os)), some (false, .tup (zL p)), some (true, .lst L), some (false, encR row), some (false, .int (row.length : Int)), x5, none] ⟨fun i hi => by
      have := List.mem_range.mp hi
      unfold cnt at this
      omega, by simp only [List.length_nil, List.length_range]; omega, x5, by simp⟩
  refine ⟨y5, ?_⟩
  rw [← kids_fold] at h1
  exact h1
/-- the turns: each row weighs as the places behind it let -/
def wt (os : List Int) (row : List Nat) : Nat := 2 ^ (os.length - frm row)
def wts (os : List Int) (R : List (List Nat)) : Nat := (R.map (wt os)).sum
theorem wt_pos (os : List Int) (row : List Nat) : 0 < wt os row := Nat.two_pow_pos _
theorem wts_app (os : List Int) (A B : List (List Nat)) : wts os (A ++ B) = wts os A + wts os B := by
  unfold wts
  rw [List.map_append, List.sum_append]
theorem wts_len (os : List Int) : ∀ R : List (List Nat), R.length ≤ wts os R
  | [] => Nat.zero_le _
  | r :: R => by
    have := wt_pos os r
    have h := wts_len os R
    have e : wts os (r :: R) = wt os r + wts os R := by unfold wts; rw [List.map_cons, List.sum_cons]
    rw [e, List.length_cons]
    omega
theorem frm_app (row : List Nat) (i : Nat) : frm (row ++ [i]) = i + 1 := by
  unfold frm
  rw [List.getLast?_append]
  rfl
theorem kids_wt {os p : List Int} {row : List Nat} (hr : RowOk os p row) (hl : row.length < p.length) : wts os (kids os p row) + 1 ≤ wt os row := by
  have key : ∀ c, c ≤ os.length - frm row → wts os ((((List.range c).map fun i => frm row + i).filter (okx os p row)).map fun i => row ++ [i]) + 2 ^ (os.length - frm row - c) ≤ 2 ^ (os.length - frm row) := by
    intro c
    induction c with
    | zero =>
      intro _
      show 0 + _ ≤ _
      rw [Nat.zero_add, Nat.sub_zero]
      exact Nat.le_refl _
    | succ c ih =>
      intro hc
      have h := ih (by omega)
      rw [List.range_succ, List.map_append, List.filter_append, List.map_append, wts_app]
      have e : 2 ^ (os.length - frm row - c) = 2 ^ (os.length - frm row - (c + 1)) + 2 ^ (os.length - frm row - (c + 1)) := by
        have : os.length - frm row - c = (os.length - frm row - (c + 1)) + 1 := by omega
        rw [this, Nat.pow_succ]
        omega
      have h2 : wts os (((([c].map fun i => frm row + i).filter (okx os p row)).map fun i => row ++ [i])) ≤ 2 ^ (os.length - frm row - (c + 1)) := by
        show wts os ((([frm row + c].filter (okx os p row)).map fun i => row ++ [i])) ≤ _
        cases hk : okx os p row (frm row + c) with
        | true =>
          rw [List.filter_cons_of_pos hk]
          show wt os (row ++ [frm row + c]) + 0 ≤ _
          unfold wt
          rw [frm_app, Nat.add_zero]
          exact Nat.pow_le_pow_right (by decide) (by omega)
        | false =>
          rw [List.filter_cons_of_neg (by simp [hk])]
          exact Nat.zero_le _
      omega
  have hc : cnt os p row ≤ os.length - frm row := by unfold cnt; omega
  have h := key _ hc
  have := Nat.two_pow_pos (os.length - frm row - cnt os p row)
  unfold wt
  unfold kids
  omega
def extR (os p : List Int) (row : List Nat) : Bool := extB os p (p.length - row.length) row
theorem extR_full {os p : List Int} {row : List Nat} (h : row.length = p.length) : extR os p row = true := by
  unfold extR
  rw [h, Nat.sub_self]
  rfl
theorem extR_kids {os p : List Int} {row : List Nat} (hr : RowOk os p row) (h : row.length < p.length) : extR os p row = (kids os p row).any (extR os p) := by
  unfold extR
  have e : p.length - row.length = (p.length - (row.length + 1)) + 1 := by omega
  rw [e]
  show (kids os p row).any (extB os p (p.length - (row.length + 1))) = _
  have key : ∀ R : List (List Nat), (∀ r ∈ R, r.length = row.length + 1) → R.any (extB os p (p.length - (row.length + 1))) = R.any fun r => extB os p (p.length - r.length) r := by
    intro R
    induction R with
    | nil => intro _; rfl
    | cons r R ih =>
      intro hR
      rw [List.any_cons, List.any_cons, ih fun r' h' => hR r' (List.mem_cons_of_mem _ h'), hR r List.mem_cons_self]
  exact key _ fun r hr' => (kids_ok hr h hr').2
end Wk

namespace PI
open PySem PySem.Spec PyProof.Rows L2
theorem wl_ret {c : EF} {f : SF} {n : Nat} {env e e' : PI.Env} {fr : Bool} {w : W} (h : c env = some ((fr, .bl true), e)) (hf : f e = some (.rt w, e')) : wl c f (n + 1) env = some (.rt w, e') := by
  show (c env).bind _ = _
  rw [h]
  show (f e).bind _ = _
  rw [hf]
  rfl
theorem srcR2_nat {f g : EF} {env e1 e2 : PI.Env} {a b : Bool} {i j : Int} (h : f env = some ((a, .int i), e1)) (h2 : g e1 = some ((b, .int j), e2)) (hi : -1000000 < i ∧ i < 1000000) (hj : -1000000 < j ∧ j < 1000000) : srcR2 f g env = some (rangeD i (j - i).toNat, e2) := by
  have b1 : -4611686018427387904 ≤ i := by omega
  have b2 : i < 4611686018427387904 := by omega
  have b3 : -4611686018427387904 ≤ j := by omega
  have b4 : j < 4611686018427387904 := by omega
  simp -implicitDefEqProofs [h, h2, b1, b2, b3, b4]
end PI
namespace Wk
open PySem PySem.Spec PyProof.Rows L2 PI
theorem w_shows {os p : List Int} (ho : os.length < 500) (hp : p.length < 500) : ∀ (n : Nat) (R : List (List Nat)) (x3 x4 x5 : Option (Bool × PI.D)), wts os R < n → wts os R < 500000 → (∀ row ∈ R, RowOk os p row) →
    (R.any (extR os p) = true ∧ ∃ e', wl wc1__law_shows wb1__law_shows n [some (false, .tup (zL os)), some (false, .tup (zL p)), some (true, .lst (R.map encR)), x3, x4, x5, none] = some (.rt (false, .bl true), e')) ∨
    (R.any (extR os p) = false ∧ ∃ e', wl wc1__law_shows wb1__law_shows n [some (false, .tup (zL os)), some (false, .tup (zL p)), some (true, .lst (R.map encR)), x3, x4, x5, none] = some (.nx, e'))
  | 0, R, x3, x4, x5, h, _, _ => by omega
  | n + 1, R, x3, x4, x5, h, hn, hR => by
    have enc_ne : ∀ A : List (List Nat), eqB (.lst (A.map encR)) (.lst []) = some (decide (A = [])) := fun A => by
      have e : A.map encR = (A.map fun row => row.map fun (i : Nat) => (i : Int)).map fun l => PI.D.tup (zL l) := by rw [List.map_map]; rfl
      rw [e, eqB_lst0 enc_zt (by decide)]
      congr 2
      simp
    rcases List.eq_nil_or_concat R with rfl | ⟨A, row, rfl⟩
    · refine .inr ⟨rfl, _, wl_false (fr := false) (e := [some (false, .tup (zL os)), some (false, .tup (zL p)), some (true, .lst []), x3, x4, x5, none]) ?_⟩
      simp -implicitDefEqProofs [wc1__law_shows]
    · have hr := hR row (by simp)
      have hA : ∀ r ∈ A, RowOk os p r := fun r hr' => hR r (by simp [hr'])
      have hw : wts os A + wt os row < n + 1 ∧ wts os A + wt os row < 500000 := by
        have e : wts os (A.concat row) = wts os A + wt os row := by
          rw [List.concat_eq_append, wts_app]
          unfold wts
          simp
        rw [e] at h hn
        exact ⟨h, hn⟩
      have emap : (A.concat row).map encR = A.map encR ++ [encR row] := by rw [List.concat_eq_append, List.map_append]; rfl
      have hc : wc1__law_shows [some (false, .tup (zL os)), some (false, .tup (zL p)), some (true, .lst (A.map encR ++ [encR row])), x3, x4, x5, none] = some ((false, .bl true), [some (false, .tup (zL os)), some (false, .tup (zL p)), some (true, .lst (A.map encR ++ [encR row])), x3, x4, x5, none]) := by
        have h1 := enc_ne (A.concat row)
        rw [emap] at h1
        have h2 : neD (.lst (A.map encR ++ [encR row])) (.lst []) = some (false, .bl true) := by
          rw [q_ne, h1]
          simp
        simp -implicitDefEqProofs [wc1__law_shows, h2]
      have pop := ePop_at (env := [some (false, .tup (zL os)), some (false, .tup (zL p)), some (true, .lst (A.map encR ++ [encR row])), x3, x4, x5, none]) (i := 2) (A := A.map encR) (d := encR row) rfl
      have lr : lenD (encR row) = some (false, .int (row.length : Int)) := by
        unfold encR
        rw [q_lent, zL_len, List.length_map]
      rw [emap]
      by_cases hl : row.length = p.length
      · refine .inl ⟨by rw [List.concat_eq_append, List.any_append]; simp [extR_full hl], _, wl_ret hc (e' := [some (false, .tup (zL os)), some (false, .tup (zL p)), some (true, .lst (A.map encR)), some (false, encR row), some (false, .int (row.length : Int)), x5, none]) ?_⟩
        simp -implicitDefEqProofs [wb1__law_shows, pop, lr, hl]
      · have hlt : row.length < p.length := by
          have := hr.len
          omega
        have hk := kids_wt hr hlt
        have hcnt : cnt os p row ≤ os.length := by unfold cnt; omega
        have hlA := wts_len os A
        obtain ⟨y5, hrow⟩ := l_row (A.map encR) x5 hr hlt (by omega) (by rw [List.length_map]; omega)
        have hf := frm_le hr
        have src : srcR2 (eIf (e2 neD (.sl 3) (.ex (eTup []))) (e2 addD (.ex (e2 ixD (.sl 3) (.ex (e1 negD (.ex (eC (.int 1))))))) (.ex (eC (.int 1)))) (eC (.int 0))) (e2 addD (.ex (e2 addD (.ex (e2 subD (.ex (eN (c1 lenD) [(.sl 0)])) (.ex (eN (c1 lenD) [(.sl 1)])))) (.sl 4))) (.ex (eC (.int 1))))
            [some (false, .tup (zL os)), some (false, .tup (zL p)), some (true, .lst (A.map encR)), some (false, encR row), some (false, .int (row.length : Int)), x5, none] = some (rangeD (frm row : Int) (cnt os p row), [some (false, .tup (zL os)), some (false, .tup (zL p)), some (true, .lst (A.map encR)), some (false, encR row), some (false, .int (row.length : Int)), x5, none]) := by
          have ec : ((os.length : Int) - (p.length : Int) + (row.length : Int) + 1 - (frm row : Int)).toNat = cnt os p row := by unfold cnt; omega
          rw [← ec]
          refine srcR2_nat (a := false) (b := false) (e1 := [some (false, .tup (zL os)), some (false, .tup (zL p)), some (true, .lst (A.map encR)), some (false, encR row), some (false, .int (row.length : Int)), x5, none]) ?_ ?_ (by omega) (by omega)
          · unfold encR frm
            cases hrow : row.getLast? with
            | none =>
              have e0 := List.getLast?_eq_none_iff.mp hrow
              subst e0
              simp -implicitDefEqProofs
            | some l =>
              have ne : row ≠ [] := fun e => by rw [e] at hrow; cases hrow
              have ne2 : (row.map fun (i : Nat) => (i : Int)) ≠ [] := by simpa using ne
              have hl2 : (row.map fun (i : Nat) => (i : Int)).getLast? = some (l : Int) := by rw [List.getLast?_map, hrow]; rfl
              simp -implicitDefEqProofs [ne2, hl2, ne]
          · simp -implicitDefEqProofs
        have hb : wb1__law_shows [some (false, .tup (zL os)), some (false, .tup (zL p)), some (true, .lst (A.map encR ++ [encR row])), x3, x4, x5, none] = some (.nx, [some (false, .tup (zL os)), some (false, .tup (zL p)), some (true, .lst ((A ++ kids os p row).map encR)), some (false, encR row), some (false, .int (row.length : Int)), y5, none]) := by
          have hl' : ¬ (row.length : Int) = p.length := by omega
          have hl'' : ((row.length : Int) == (p.length : Int)) = false := by simp; omega
          have hfor : sFor [] [5] (srcR2 (eIf (e2 neD (.sl 3) (.ex (eTup []))) (e2 addD (.ex (e2 ixD (.sl 3) (.ex (e1 negD (.ex (eC (.int 1))))))) (.ex (eC (.int 1)))) (eC (.int 0))) (e2 addD (.ex (e2 addD (.ex (e2 subD (.ex (eN (c1 lenD) [(.sl 0)])) (.ex (eN (c1 lenD) [(.sl 1)])))) (.sl 4))) (.ex (eC (.int 1))))) (tName 5) fb1__law_shows [some (false, .tup (zL os)), some (false, .tup (zL p)), some (true, .lst (A.map encR)), some (false, encR row), some (false, .int (row.length : Int)), x5, none] = some (.nx, [some (false, .tup (zL os)), some (false, .tup (zL p)), some (true, .lst (A.map encR ++ (kids os p row).map encR)), some (false, encR row), some (false, .int (row.length : Int)), y5, none]) := by
            rw [s_sFor, src]
            exact hrow
          unfold wb1__law_shows
          generalize sFor [] [5] (srcR2 _ _) (tName 5) fb1__law_shows = F at *
          simp -implicitDefEqProofs [pop, lr, hl'', hfor]
        have hext : (A.concat row).any (extR os p) = (A ++ kids os p row).any (extR os p) := by
          rw [List.concat_eq_append, List.any_append, List.any_append]
          simp [extR_kids hr hlt]
        rw [hext]
        have ih := w_shows ho hp n (A ++ kids os p row) (some (false, encR row)) (some (false, .int (row.length : Int))) y5 (by rw [wts_app]; omega) (by rw [wts_app]; omega) (fun r hr' => by
          rcases List.mem_append.mp hr' with h | h
          · exact hA r h
          · exact (kids_ok hr hlt h).1)
        rcases ih with ⟨i1, e', i2⟩ | ⟨i1, e', i2⟩
        · exact .inl ⟨i1, e', (wl_true hc hb).trans i2⟩
        · exact .inr ⟨i1, e', (wl_true hc hb).trans i2⟩
theorem v_shows {os p : List Int} (ho : os.length ≤ 16) (hp : p.length < 500) : c__law_shows [.tup (zL os), .tup (zL p)] = some ((false, .bl (showsB os p)), []) := by
  have hw : wts os [[]] = 2 ^ os.length := by
    show wt os [] + 0 = _
    rw [Nat.add_zero]
    rfl
  have h16 : 2 ^ os.length ≤ 2 ^ 16 := Nat.pow_le_pow_right (by decide) ho
  have h := w_shows (os := os) (p := p) (by omega) hp 1000000 [[]] none none none (by rw [hw]; omega) (by rw [hw]; omega) (fun row hr => by
    rw [List.mem_singleton.mp hr]
    exact ⟨Nat.zero_le _, fun i hi => (nomatch hi)⟩)
  have ea : [[]].any (extR os p) = showsB os p := by
    show (extB os p (p.length - 0) [] || false) = _
    rw [Bool.or_false]
    rfl
  rw [ea] at h
  rcases h with ⟨h1, e', h2⟩ | ⟨h1, e', h2⟩
  · have h2 : wl wc1__law_shows wb1__law_shows 1000000 [some (false, .tup (zL os)), some (false, .tup (zL p)), some (true, .lst [.tup []]), none, none, none, none] = _ := h2
    rw [h1]
    simp -implicitDefEqProofs [c__law_shows, b__law_shows, sWhile, h2]
  · have h2 : wl wc1__law_shows wb1__law_shows 1000000 [some (false, .tup (zL os)), some (false, .tup (zL p)), some (true, .lst [.tup []]), none, none, none, none] = _ := h2
    rw [h1]
    simp -implicitDefEqProofs [c__law_shows, b__law_shows, sWhile, h2]
def letsB (fb : List (List Int)) (os : List Int) : Bool := !(fb.any (showsB os))
theorem v_lets {os : List Int} {fb : List (List Int)} (ho : os.length ≤ 16) (hp : ∀ p ∈ fb, p.length < 500) (hf : fb.length < 1000) : c__law_lets [.tup (fb.map fun p => .tup (zL p)), .tup (zL os)] = some ((false, .bl (letsB fb os)), []) := by
  have hc := lcl_filter (T := tName 2) (c := lc1__law_lets) (f := eVar 2) (vs := [2]) (env := [some (false, .tup (fb.map fun p => .tup (zL p))), some (false, .tup (zL os)), none]) (enc := fun p : List Int => PI.D.tup (zL p)) (g := fun p : List Int => PI.D.tup (zL p)) (p := showsB os) (by simp) fb (fun p h => by
    have v := v_shows ho (hp p h)
    refine ⟨[some (false, .tup (fb.map fun p => .tup (zL p))), some (false, .tup (zL os)), some (false, .tup (zL p))], false, [some (false, .tup (fb.map fun p => .tup (zL p))), some (false, .tup (zL os)), some (false, .tup (zL p))], by simp, ?_, by simp, fun _ => ⟨false, _, by simp; rfl, by simp⟩⟩
    simp -implicitDefEqProofs [lc1__law_lets, v])
  have he : eqD (.lst ((fb.filter (showsB os)).map fun p => PI.D.tup (zL p))) (.lst []) = some (false, .bl (letsB fb os)) := by
    rw [q_eq, eqB_lst0 enc_zt (by decide)]
    show some (false, PI.D.bl _) = _
    congr 3
    unfold letsB
    rw [Bool.eq_iff_iff]
    simp [List.filter_eq_nil_iff]
  have hb : fb.length < 1000000 := by omega
  simp -implicitDefEqProofs [c__law_lets, b__law_lets, hc, he, hb]
end Wk

namespace Wk
open PySem PySem.Spec PyProof.Rows L2 PI
theorem gt_eq {os : List Int} {i : Nat} {x : Int} (h : os[i]? = some x) : gt os i = x := by
  unfold gt
  rw [List.getD_eq_getElem?_getD, h]
  rfl
theorem has_iff (P : Int → Int → Int → Prop) (os : List Int) : Has P os ↔ ∃ i j k, i < j ∧ j < k ∧ k < os.length ∧ P (gt os i) (gt os j) (gt os k) := by
  constructor
  · rintro ⟨a, b, c, hs, hp⟩
    obtain ⟨pre, post, e, ha, hc⟩ := mid_split hs
    subst e
    obtain ⟨i, hi, ea⟩ := List.mem_iff_getElem.mp ha
    obtain ⟨k, hk, ec⟩ := List.mem_iff_getElem.mp hc
    refine ⟨i, pre.length, pre.length + 1 + k, hi, by omega, by simp only [List.length_append, List.length_cons]; omega, ?_⟩
    have h1 : gt (pre ++ b :: post) i = a := gt_eq (by rw [List.getElem?_append_left hi, List.getElem?_eq_getElem hi, ea])
    have h2 : gt (pre ++ b :: post) pre.length = b := gt_eq (by rw [List.getElem?_append_right (Nat.le_refl _), Nat.sub_self]; rfl)
    have h3 : gt (pre ++ b :: post) (pre.length + 1 + k) = c := gt_eq (by
      rw [List.getElem?_append_right (by omega)]
      have e : pre.length + 1 + k - pre.length = k + 1 := by omega
      rw [e, List.getElem?_cons_succ, List.getElem?_eq_getElem hk, ec])
    rw [h1, h2, h3]
    exact hp
  · rintro ⟨i, j, k, hij, hjk, hk, hp⟩
    refine ⟨_, _, _, ?_, hp⟩
    have hj : j < os.length := by omega
    have e : os = os.take j ++ gt os j :: os.drop (j + 1) := by
      have h : gt os j = os[j] := gt_eq (List.getElem?_eq_getElem hj)
      rw [h, ← List.drop_eq_getElem_cons hj, List.take_append_drop]
    have h1 : gt os i ∈ os.take j := by
      have h : gt os i = os[i] := gt_eq (List.getElem?_eq_getElem (by omega))
      rw [h]
      exact List.mem_take_iff_getElem.mpr ⟨i, by omega, rfl⟩
    have h3 : gt os k ∈ os.drop (j + 1) := by
      have h : gt os k = os[k] := gt_eq (List.getElem?_eq_getElem hk)
      rw [h]
      exact List.mem_drop_iff_getElem.mpr ⟨k - (j + 1), by omega, by congr 1; omega⟩
    have s := sub_mid (x := gt os j) h1 h3
    rw [← e] at s
    exact s
theorem mem_kids {os p : List Int} {row r : List Nat} : r ∈ kids os p row ↔ ∃ i, frm row ≤ i ∧ i < frm row + cnt os p row ∧ okx os p row i = true ∧ r = row ++ [i] := by
  unfold kids
  constructor
  · intro h
    obtain ⟨i, hi, rfl⟩ := List.mem_map.mp h
    obtain ⟨h1, h2⟩ := List.mem_filter.mp hi
    obtain ⟨j, hj, rfl⟩ := List.mem_map.mp h1
    have := List.mem_range.mp hj
    exact ⟨_, by omega, by omega, h2, rfl⟩
  · rintro ⟨i, h1, h2, h3, rfl⟩
    refine List.mem_map.mpr ⟨i, List.mem_filter.mpr ⟨List.mem_map.mpr ⟨i - frm row, List.mem_range.mpr (by omega), by omega⟩, h3⟩, rfl⟩
theorem okx_iff {os p : List Int} {row : List Nat} {pl : Nat} : okx os p row pl = true ↔ ∀ k, k < row.length → decide (gt os (row.getD k 0) < gt os pl) = decide (gt p k < gt p row.length) := by
  unfold okx
  rw [decide_eq_true_eq, List.filter_eq_nil_iff]
  constructor
  · intro h k hk
    have := h k (List.mem_range.mpr hk)
    unfold nfit at this
    simpa using this
  · intro h k hk
    have := h k (List.mem_range.mp hk)
    unfold nfit
    rw [this]
    simp
theorem shows3 (os : List Int) (a b c : Int) : showsB os [a, b, c] = true ↔ ∃ i j k, i < j ∧ j < k ∧ k < os.length ∧ decide (gt os i < gt os j) = decide (a < b) ∧ decide (gt os i < gt os k) = decide (a < c) ∧ decide (gt os j < gt os k) = decide (b < c) := by
  show (kids os [a, b, c] []).any (fun r => (kids os [a, b, c] r).any fun r2 => (kids os [a, b, c] r2).any fun _ => true) = true ↔ _
  constructor
  · intro h
    obtain ⟨r1, m1, h⟩ := List.any_eq_true.mp h
    obtain ⟨r2, m2, h⟩ := List.any_eq_true.mp h
    obtain ⟨r3, m3, _⟩ := List.any_eq_true.mp h
    obtain ⟨i, i1, i2, i3, rfl⟩ := mem_kids.mp m1
    obtain ⟨j, j1, j2, j3, rfl⟩ := mem_kids.mp m2
    obtain ⟨k, k1, k2, k3, rfl⟩ := mem_kids.mp m3
    have f1 : frm ([] ++ [i]) = i + 1 := frm_app [] i
    have f2 : frm ([] ++ [i] ++ [j]) = j + 1 := frm_app _ j
    rw [f1] at j1
    rw [f2] at k1 k2
    have o1 := okx_iff.mp j3 0 (by simp)
    have o2 := okx_iff.mp k3 0 (by simp)
    have o3 := okx_iff.mp k3 1 (by simp)
    have hc : cnt os [a, b, c] ([] ++ [i] ++ [j]) = os.length - (j + 1) := by
      unfold cnt
      rw [f2]
      show os.length + 2 + 1 - 3 - (j + 1) = _
      omega
    rw [hc] at k2
    exact ⟨i, j, k, by omega, by omega, by omega, o1, o2, o3⟩
  · rintro ⟨i, j, k, hij, hjk, hk, o1, o2, o3⟩
    refine List.any_eq_true.mpr ⟨[] ++ [i], mem_kids.mpr ⟨i, Nat.zero_le _, ?_, okx_iff.mpr fun k hk => absurd hk (by simp), rfl⟩, List.any_eq_true.mpr ⟨[] ++ [i] ++ [j], mem_kids.mpr ⟨j, ?_, ?_, okx_iff.mpr fun q hq => ?_, rfl⟩, List.any_eq_true.mpr ⟨[] ++ [i] ++ [j] ++ [k], mem_kids.mpr ⟨k, ?_, ?_, okx_iff.mpr fun q hq => ?_, rfl⟩, rfl⟩⟩⟩
    · show i < 0 + (os.length + 0 + 1 - 3 - 0)
      omega
    · rw [frm_app]
      omega
    · have hc : cnt os [a, b, c] ([] ++ [i]) = os.length + 1 + 1 - 3 - (i + 1) := by
        unfold cnt
        rw [frm_app]
        rfl
      rw [frm_app, hc]
      omega
    · have : q = 0 := by
        have hq : q < 1 := hq
        omega
      subst this
      exact o1
    · rw [frm_app]
      omega
    · have hc : cnt os [a, b, c] ([] ++ [i] ++ [j]) = os.length + 2 + 1 - 3 - (j + 1) := by
        unfold cnt
        rw [frm_app]
        rfl
      rw [frm_app, hc]
      omega
    · have hq : q < 2 := hq
      rcases (by omega : q = 0 ∨ q = 1) with rfl | rfl
      · exact o2
      · exact o3
theorem gt_ne {os : List Int} (nd : os.Nodup) {i j : Nat} (hi : i < os.length) (hj : j < os.length) (h : i ≠ j) : gt os i ≠ gt os j := by
  have e1 : gt os i = os[i] := gt_eq (List.getElem?_eq_getElem hi)
  have e2 : gt os j = os[j] := gt_eq (List.getElem?_eq_getElem hj)
  rw [e1, e2]
  intro e
  exact h ((List.getElem_inj nd).mp e)
theorem shows231 {os : List Int} (nd : os.Nodup) : showsB os [2, 3, 1] = true ↔ Has P231 os := by
  rw [shows3, has_iff]
  refine ⟨fun ⟨i, j, k, h1, h2, h3, o1, o2, o3⟩ => ⟨i, j, k, h1, h2, h3, ?_⟩, fun ⟨i, j, k, h1, h2, h3, c1, c2⟩ => ⟨i, j, k, h1, h2, h3, ?_, ?_, ?_⟩⟩
  · have n1 := gt_ne nd (by omega : i < os.length) h3 (by omega : i ≠ k)
    have a1 : gt os i < gt os j := by simpa using o1
    have a2 : ¬ gt os i < gt os k := by simpa using o2
    exact ⟨by omega, a1⟩
  · simpa using c2
  · have : ¬ gt os i < gt os k := by omega
    simp [this]
  · have : ¬ gt os j < gt os k := by omega
    simp [this]
theorem shows312 {os : List Int} (nd : os.Nodup) : showsB os [3, 1, 2] = true ↔ Has P312 os := by
  rw [shows3, has_iff]
  refine ⟨fun ⟨i, j, k, h1, h2, h3, o1, o2, o3⟩ => ⟨i, j, k, h1, h2, h3, ?_⟩, fun ⟨i, j, k, h1, h2, h3, c1, c2⟩ => ⟨i, j, k, h1, h2, h3, ?_, ?_, ?_⟩⟩
  · have n1 := gt_ne nd (by omega : i < os.length) h3 (by omega : i ≠ k)
    have a2 : ¬ gt os i < gt os k := by simpa using o2
    have a3 : gt os j < gt os k := by simpa using o3
    exact ⟨a3, by omega⟩
  · have : ¬ gt os i < gt os j := by omega
    simp [this]
  · have : ¬ gt os i < gt os k := by omega
    simp [this]
  · simpa using c1
theorem shows321 {os : List Int} (nd : os.Nodup) : showsB os [3, 2, 1] = true ↔ Has P321 os := by
  rw [shows3, has_iff]
  refine ⟨fun ⟨i, j, k, h1, h2, h3, o1, o2, o3⟩ => ⟨i, j, k, h1, h2, h3, ?_⟩, fun ⟨i, j, k, h1, h2, h3, c1, c2⟩ => ⟨i, j, k, h1, h2, h3, ?_, ?_, ?_⟩⟩
  · have n1 := gt_ne nd (by omega : i < os.length) (by omega : j < os.length) (by omega : i ≠ j)
    have n2 := gt_ne nd (by omega : j < os.length) h3 (by omega : j ≠ k)
    have a1 : ¬ gt os i < gt os j := by simpa using o1
    have a3 : ¬ gt os j < gt os k := by simpa using o3
    exact ⟨by omega, by omega⟩
  · have : ¬ gt os i < gt os j := by omega
    simp [this]
  · have : ¬ gt os i < gt os k := by omega
    simp [this]
  · have : ¬ gt os j < gt os k := by omega
    simp [this]
/-- the sorters' lists -/
def Srt.fb : Srt → List (List Int)
  | .st => [[2, 3, 1]]
  | .po => [[2, 3, 1], [3, 1, 2]]
  | .qu => [[3, 2, 1]]
  | .bu => [[2, 3, 1], [3, 2, 1]]
theorem not_true {b : Bool} {P : Prop} (h : b = true ↔ P) : (!b) = true ↔ ¬ P := by cases b <;> simp_all
/-- THE point: a sorter sorts exactly what its list lets -/
theorem sorts_iff (s : Srt) {os : List Int} (nd : os.Nodup) : letsB s.fb os = true ↔ (s.mk os).Pairwise (· < ·) := by
  cases s with
  | st =>
    show letsB [[2, 3, 1]] os = true ↔ (byStack os).Pairwise _
    rw [stk_iff os nd, ← not_true (shows231 nd)]
    simp [letsB]
  | po =>
    show letsB [[2, 3, 1], [3, 1, 2]] os = true ↔ (byPopper os).Pairwise _
    rw [pop_iff os nd, ← not_true (shows231 nd), ← not_true (shows312 nd)]
    simp [letsB]
  | qu =>
    show letsB [[3, 2, 1]] os = true ↔ (byQueues os).Pairwise _
    rw [que_iff os nd, ← not_true (shows321 nd)]
    simp [letsB]
  | bu =>
    show letsB [[2, 3, 1], [3, 2, 1]] os = true ↔ (byBubble os).Pairwise _
    rw [bub_iff os nd, ← not_true (shows231 nd), ← not_true (shows321 nd)]
    simp [letsB]
theorem lets_due (s : Srt) {os : List Int} {n : Nat} (h : os.Perm (rng n)) : decide (s.mk os = rng n) = letsB s.fb os := by
  have nd : os.Nodup := h.symm.nodup (rng_nodup n)
  rw [Bool.eq_iff_iff, sorts_iff s nd, decide_eq_true_eq]
  refine ⟨fun e => by rw [e]; exact rng_sorted n, fun hs => ?_⟩
  exact sorted_uniq ((mk_perm s os).trans h) (hs.imp fun h => Int.le_of_lt h) ((rng_sorted n).imp fun h => Int.le_of_lt h)
end Wk

namespace Wk
open PySem PySem.Spec PyProof.Rows L2 PI
def tZ (l : List Int) : PI.D := .tup (zL l)
def Srt.fbD (s : Srt) : PI.D := .tup (s.fb.map fun p => .tup (zL p))
theorem v_list_of (s : Srt) : c_list_of [.str s.nm] = some ((false, s.fbD), []) := by cases s <;> rfl
theorem v_lists : c__law_lists [] = some ((true, .lst ([Srt.st, .po, .qu, .bu].map fun s => .tup [.str s.nm, s.fbD])), []) := rfl
theorem perm_of : ∀ {l m : List Int}, l.Nodup → (∀ x ∈ l, x ∈ m) → m.length ≤ l.length → l.Perm m
  | [], m, _, _, h => by
    have := List.length_eq_zero_iff.mp (Nat.le_zero.mp h)
    rw [this]
  | x :: l, m, nd, hs, h => by
    obtain ⟨n1, n2⟩ := List.nodup_cons.mp nd
    have hx := hs x List.mem_cons_self
    have p := List.perm_cons_erase hx
    refine ((perm_of n2 (fun y hy => ?_) ?_).cons x).trans p.symm
    · exact (List.mem_erase_of_ne fun e => n1 (by rw [← e]; exact hy)).mpr (hs y (List.mem_cons_of_mem _ hy))
    · rw [List.length_erase_of_mem hx]
      simp only [List.length_cons] at h
      omega
theorem v_right (s : Srt) {os : List Int} {n : Nat} (hn : n ≤ 16) (h : os.Perm (rng n)) : c__law_right [.str s.nm, s.fbD, .tup (zL os)] = some ((false, .bl true), []) := by
  have hl : os.length = n := by rw [h.length_eq, rng_len]
  have h1 : c__law_lets [s.fbD, .tup (zL os)] = some ((false, .bl (letsB s.fb os)), []) := v_lets (by omega) (by cases s <;> decide) (by cases s <;> decide)
  have h2 := v_made s (by omega : n < 1000) h
  have h3 := v_sorts s (by omega : n < 1000) h
  rw [lets_due s h] at h3
  have h4 := rgD_rng true n (by omega)
  have h5 : ∀ b, c__law_same 4 [.lst [.bl b, .bl b], .lst [.bl b, .bl b]] = some ((false, .bl true), []) := fun b => same_lst 3 (by simp) fun e he => by
    have e1 : e = .bl b := by simpa using he
    rw [e1]
    exact same_bl 2 _
  have lr : (rng n).length < 1000 := by rw [rng_len]; omega
  have h6 : c__law_same 4 [.tup (zL (rng n)), .tup (zL (rng n))] = some ((false, .bl true), []) := same_ints 2 lr
  cases hb : letsB s.fb os with
  | false =>
    rw [hb] at h1 h3
    simp -implicitDefEqProofs [c__law_right, b__law_right, h1, h3, h5, pick]
  | true =>
    rw [hb] at h1 h3
    have e : s.mk os = rng n := of_decide_eq_true ((lets_due s h).trans hb)
    rw [e] at h2
    simp -implicitDefEqProofs [c__law_right, b__law_right, h1, h2, h3, h4, h5, h6, hl, pick]
/-- the orders of n things -/
def lOrd (n : Nat) : Nat → List (List Int)
  | 0 => [[]]
  | t + 1 => (lOrd n t).flatMap fun row => ((rng n).filter fun x => !row.contains x).map fun x => row ++ [x]
def ordOk (n : Nat) : Bool := (lOrd n n).all fun r => decide (r.Nodup) && (r.all fun x => (rng n).contains x) && decide (r.length = n)
theorem ord_ok : ∀ n, n < 6 → ordOk n = true := by decide +kernel
theorem ord_perm {n : Nat} (hn : n < 6) {r : List Int} (hr : r ∈ lOrd n n) : r.Perm (rng n) := by
  have h := List.all_eq_true.mp (ord_ok n hn) r hr
  simp only [Bool.and_eq_true, decide_eq_true_eq, List.all_eq_true] at h
  exact perm_of h.1.1 (fun x hx => by simpa using h.1.2 x hx) (by rw [rng_len, h.2]; exact Nat.le_refl _)
theorem v_orders : ∀ n : Nat, n < 6 → c__law_orders [.int (n : Int)] = some ((n == 0, .lst ((lOrd n n).map tZ)), [])
  | 0, _ => by kernel_rfl
  | 1, _ => by kernel_rfl
  | 2, _ => by kernel_rfl
  | 3, _ => by kernel_rfl
  | 4, _ => by kernel_rfl
  | 5, _ => by kernel_rfl
  | n + 6, h => by omega
end Wk

namespace Wk
open PySem PySem.Spec PyProof.Rows L2 PI
theorem mem_rng {n : Nat} {x : Int} : x ∈ rng n ↔ 1 ≤ x ∧ x ≤ n := by
  unfold rng
  rw [List.mem_map]
  constructor
  · rintro ⟨i, hi, rfl⟩
    have := List.mem_range.mp hi
    omega
  · rintro ⟨h1, h2⟩
    exact ⟨(x - 1).toNat, List.mem_range.mpr (by omega), by omega⟩
def bump (h x : Int) : Int := x + if h ≤ x then 1 else 0
def insB (h : Int) (pl : Nat) (os : List Int) : List Int := (os.map (bump h)).take pl ++ [h] ++ (os.map (bump h)).drop pl
theorem bump_ne (h x : Int) : bump h x ≠ h := by
  unfold bump
  split <;> omega
theorem bump_inj {h x y : Int} (e : bump h x = bump h y) : x = y := by
  unfold bump at e
  split at e <;> split at e <;> omega
theorem ins_perm {os : List Int} {m pl : Nat} {h : Int} (ho : os.Perm (rng m)) (h1 : 1 ≤ h) (h2 : h ≤ (m : Int) + 1) : (insB h pl os).Perm (rng (m + 1)) := by
  have p1 : (insB h pl os).Perm (h :: os.map (bump h)) := by
    unfold insB
    rw [List.append_assoc]
    refine List.perm_middle.trans ?_
    show (h :: ((os.map (bump h)).take pl ++ (os.map (bump h)).drop pl)).Perm _
    rw [List.take_append_drop]
  refine p1.trans (perm_of ?_ (fun x hx => ?_) ?_)
  · refine List.nodup_cons.mpr ⟨fun hm => ?_, ?_⟩
    · obtain ⟨x, _, e⟩ := List.mem_map.mp hm
      exact bump_ne h x e
    · have nd := ho.symm.nodup (rng_nodup m)
      unfold List.Nodup at nd ⊢
      rw [List.pairwise_map]
      exact nd.imp fun hne e => hne (bump_inj e)
  · rcases List.mem_cons.mp hx with rfl | hx
    · exact mem_rng.mpr ⟨h1, by omega⟩
    · obtain ⟨y, hy, rfl⟩ := List.mem_map.mp hx
      obtain ⟨y1, y2⟩ := mem_rng.mp (ho.mem_iff.mp hy)
      refine mem_rng.mpr ?_
      unfold bump
      split <;> constructor <;> omega
  · rw [rng_len, List.length_cons, List.length_map, ho.length_eq, rng_len]
    exact Nat.le_refl _
/-- what was found: nothing, or one order -/
def Fnd (n : Nat) (F : List (List Int)) : Prop := F.length ≤ 1 ∧ ∀ r ∈ F, r.Perm (rng n)
theorem enc_tZ : EncOk tZ 1 := enc_zt
theorem fnd_eq (F : List (List Int)) : eqD (.lst (F.map tZ)) (.lst []) = some (false, .bl (decide (F = []))) := by
  rw [q_eq, eqB_lst0 enc_tZ (by decide)]
  rfl
theorem fnd_ne (F : List (List Int)) : neD (.lst (F.map tZ)) (.lst []) = some (false, .bl (!decide (F = []))) := by
  rw [q_ne, eqB_lst0 enc_tZ (by decide)]
  rfl
theorem l_let1 (s : Srt) {ws : List PI.D} {os : List Int} {m pl : Nat} (x2 x4 x5 x6 x8 : Option (Bool × PI.D)) (ho : os.Perm (rng m)) (hm : m < 14) : ∀ (hs : List Int) (F : List (List Int)) (x10 x11 : Option (Bool × PI.D)), (∀ h ∈ hs, 1 ≤ h ∧ h ≤ (m : Int) + 1) → Fnd (m + 1) F →
    ∃ F' y10 y11, fl (tName 10) fb1__law_let (zL hs) [some (true, .lst ws), some (false, s.fbD), x2, some (false, .tup (zL os)), x4, x5, x6, some (true, .lst (F.map tZ)), x8, some (false, .int (pl : Int)), x10, x11, none] =
      some (.nx, [some (true, .lst ws), some (false, s.fbD), x2, some (false, .tup (zL os)), x4, x5, x6, some (true, .lst (F'.map tZ)), x8, some (false, .int (pl : Int)), y10, y11, none]) ∧ Fnd (m + 1) F'
  | [], F, x10, x11, _, hF => ⟨F, x10, x11, rfl, hF⟩
  | h :: hs, F, x10, x11, hh, hF => by
    obtain ⟨a1, a2⟩ := hh h List.mem_cons_self
    have ip := ins_perm (pl := pl) ho a1 a2
    have lo : os.length = m := by rw [ho.length_eq, rng_len]
    have li : (insB h pl os).length = m + 1 := by rw [ip.length_eq, rng_len]
    have hc := lcl_map (T := tName 12) (c := eYes) (f := le1__law_let) (vs := [12]) (env := [some (true, .lst ws), some (false, s.fbD), x2, some (false, .tup (zL os)), x4, x5, x6, some (true, .lst (F.map tZ)), x8, some (false, .int (pl : Int)), some (false, .int h), x11, none]) (enc := PI.D.int) (g := fun x => PI.D.int (bump h x)) (by simp) os (fun x _ => by
      refine ⟨[some (true, .lst ws), some (false, s.fbD), x2, some (false, .tup (zL os)), x4, x5, x6, some (true, .lst (F.map tZ)), x8, some (false, .int (pl : Int)), some (false, .int h), x11, some (false, .int x)], false, [some (true, .lst ws), some (false, s.fbD), x2, some (false, .tup (zL os)), x4, x5, x6, some (true, .lst (F.map tZ)), x8, some (false, .int (pl : Int)), some (false, .int h), x11, some (false, .int x)], false, [some (true, .lst ws), some (false, s.fbD), x2, some (false, .tup (zL os)), x4, x5, x6, some (true, .lst (F.map tZ)), x8, some (false, .int (pl : Int)), some (false, .int h), x11, some (false, .int x)], by simp, by simp, ?_, by simp⟩
      by_cases c : h ≤ x <;> simp [le1__law_let, bump, c])
    have hc : lcl (tName 12) eYes le1__law_let [12] (zL os) [some (true, .lst ws), some (false, s.fbD), x2, some (false, .tup (zL os)), x4, x5, x6, some (true, .lst (F.map tZ)), x8, some (false, .int (pl : Int)), some (false, .int h), x11, none] = some (zL (os.map (bump h)), [some (true, .lst ws), some (false, s.fbD), x2, some (false, .tup (zL os)), x4, x5, x6, some (true, .lst (F.map tZ)), x8, some (false, .int (pl : Int)), some (false, .int h), x11, none]) := by
      rw [show zL (os.map (bump h)) = os.map fun x => PI.D.int (bump h x) by unfold zL; rw [List.map_map]; rfl]
      exact hc
    have hl : c__law_lets [s.fbD, .tup (zL (insB h pl os))] = some ((false, .bl (letsB s.fb (insB h pl os))), []) := v_lets (by omega) (by cases s <;> decide) (by cases s <;> decide)
    have b1 : os.length < 1000000 := by omega
    have b2 : min pl os.length + 1 ≤ 1000000 := by omega
    have b3 : min pl os.length + 1 + (os.length - pl) ≤ 1000000 := by omega
    have fe := fnd_eq F
    have ei : (os.map (bump h)).take pl ++ h :: (os.map (bump h)).drop pl = insB h pl os := by unfold insB; rw [List.append_assoc]; rfl
    have step : ∃ F2, Fnd (m + 1) F2 ∧ (tName 10 (.int h) [some (true, .lst ws), some (false, s.fbD), x2, some (false, .tup (zL os)), x4, x5, x6, some (true, .lst (F.map tZ)), x8, some (false, .int (pl : Int)), x10, x11, none]).bind fb1__law_let =
        some (.nx, [some (true, .lst ws), some (false, s.fbD), x2, some (false, .tup (zL os)), x4, x5, x6, some (true, .lst (F2.map tZ)), x8, some (false, .int (pl : Int)), some (false, .int h), some (false, .tup (zL (insB h pl os))), none]) := by
      by_cases hF0 : F = []
      · subst hF0
        simp only [List.map_nil] at hc ⊢
        cases hb : letsB s.fb (insB h pl os) with
        | true =>
          rw [hb] at hl
          refine ⟨[insB h pl os], ⟨by simp, fun r hr => by rw [List.mem_singleton.mp hr]; exact ip⟩, ?_⟩
          simp -implicitDefEqProofs [fb1__law_let, hc, b1, b2, b3, ei, hl, tZ]
        | false =>
          rw [hb] at hl
          refine ⟨[], hF, ?_⟩
          simp -implicitDefEqProofs [fb1__law_let, hc, b1, b2, b3, ei, hl]
      · refine ⟨F, hF, ?_⟩
        rw [decide_eq_false hF0] at fe
        simp -implicitDefEqProofs [fb1__law_let, hc, b1, b2, b3, ei, fe]
    obtain ⟨F2, hF2, st⟩ := step
    obtain ⟨F', y10, y11, g1, g2⟩ := l_let1 s x2 x4 x5 x6 x8 ho hm hs F2 (some (false, .int h)) (some (false, .tup (zL (insB h pl os)))) (fun k hk => hh k (List.mem_cons_of_mem _ hk)) hF2
    exact ⟨F', y10, y11, (fl_nx (ds := zL hs) st).trans g1, g2⟩
end Wk

namespace Wk
open PySem PySem.Spec PyProof.Rows L2 PI
theorem l_let2 (s : Srt) {os : List Int} {m : Nat} {q : Int} (x2 : Option (Bool × PI.D)) (ho : os.Perm (rng m)) (hm : m < 14) (hq : 0 ≤ q) : ∀ (ts : List Int) (F : List (List Int)) (ws : List PI.D) (k : Int) (x8 x9 x10 x11 : Option (Bool × PI.D)), (∀ t ∈ ts, 0 ≤ t) → Fnd (m + 1) F → Wl k (.lst ws) → 0 ≤ k → k + ts.length < 100000 →
    ∃ F' ws' y8 y9 y10 y11, fl (tName 8) fb2__law_let (zL ts) [some (true, .lst ws), some (false, s.fbD), x2, some (false, .tup (zL os)), some (false, .int (1 + (m : Int))), some (true, .lst (rangeD 0 (m + 1))), some (false, .int q), some (true, .lst (F.map tZ)), x8, x9, x10, x11, none] =
      some (.nx, [some (true, .lst ws'), some (false, s.fbD), x2, some (false, .tup (zL os)), some (false, .int (1 + (m : Int))), some (true, .lst (rangeD 0 (m + 1))), some (false, .int q), some (true, .lst (F'.map tZ)), y8, y9, y10, y11, none]) ∧ Fnd (m + 1) F' ∧ Wl (k + ts.length) (.lst ws')
  | [], F, ws, k, x8, x9, x10, x11, _, hF, hw, _, _ => ⟨F, ws, x8, x9, x10, x11, rfl, hF, by simpa using hw⟩
  | t :: ts, F, ws, k, x8, x9, x10, x11, ht, hF, hw, h0, hk => by
    simp only [List.length_cons] at hk
    have t0 := ht t List.mem_cons_self
    have z0 : 0 ≤ (q + t) % (1 + (m : Int)) := Int.emod_nonneg _ (by omega)
    have z1 : (q + t) % (1 + (m : Int)) < 1 + (m : Int) := Int.emod_lt_of_pos _ (by omega)
    obtain ⟨pl, hz⟩ := Int.eq_ofNat_of_zero_le z0
    have hg : (rangeD 0 (m + 1))[pl]? = some (.int (pl : Int)) := by
      rw [rangeD_get (by omega)]
      simp
    have hmod : modB (q + t) (1 + (m : Int)) = true := mod_ok (by omega)
    obtain ⟨r, ws1, i1, i2, i3, i4⟩ := v_dip2 (many := 1 + (m : Int)) hw (by omega) (by omega) (by omega)
    obtain ⟨F1, y10, y11, g1, g2⟩ := l_let1 s (ws := ws1) (pl := pl) x2 (some (false, .int (1 + (m : Int)))) (some (true, .lst (rangeD 0 (m + 1)))) (some (false, .int q)) (some (false, .int t)) ho hm [1 + (m : Int), 1, 1 + r] F x10 x11 (fun h hh => by
      rcases List.mem_cons.mp hh with rfl | hh
      · omega
      · rcases List.mem_cons.mp hh with rfl | hh
        · omega
        · rw [List.mem_singleton.mp hh]
          omega) hF
    have g1 : fl (tName 10) fb1__law_let [.int (1 + (m : Int)), .int 1, .int (1 + r)] _ = _ := g1
    obtain ⟨F', ws', y8, y9, z10, z11, j1, j2, j3⟩ := l_let2 s x2 ho hm hq ts F1 ws1 (k + 1) (some (false, .int t)) (some (false, .int (pl : Int))) y10 y11 (fun u hu => ht u (List.mem_cons_of_mem _ hu)) g2 i4 (by omega) (by omega)
    refine ⟨F', ws', y8, y9, z10, z11, (fl_nx (ds := zL ts) ?_).trans j1, j2, ?_⟩
    · simp -implicitDefEqProofs [fb2__law_let, hmod, hz, hg, i1, g1]
    · have e : k + 1 + (ts.length : Int) = k + ((t :: ts).length : Int) := by simp only [List.length_cons]; omega
      rw [← e]
      exact j3
theorem l_let3 (s : Srt) {x2 : Option (Bool × PI.D)} : ∀ (c m : Nat) (os : List Int) (ws : List PI.D) (k : Int) (x4 x5 x6 x7 x8 x9 x10 x11 : Option (Bool × PI.D)), m + c ≤ 13 → os.Perm (rng m) → Wl k (.lst ws) → 0 ≤ k → k + 20 * c < 90000 →
    ∃ os' ws' y4 y5 y6 y7 y8 y9 y10 y11, fl (tName 4) fb3__law_let ((List.range' m c).map fun (i : Nat) => PI.D.int (1 + (i : Int))) [some (true, .lst ws), some (false, s.fbD), x2, some (false, .tup (zL os)), x4, x5, x6, x7, x8, x9, x10, x11, none] =
      some (.nx, [some (true, .lst ws'), some (false, s.fbD), x2, some (false, .tup (zL os')), y4, y5, y6, y7, y8, y9, y10, y11, none]) ∧ os'.Perm (rng (m + c)) ∧ Wl (k + 20 * c) (.lst ws')
  | 0, m, os, ws, k, x4, x5, x6, x7, x8, x9, x10, x11, _, ho, hw, _, _ => ⟨os, ws, x4, x5, x6, x7, x8, x9, x10, x11, rfl, ho, by simpa using hw⟩
  | c + 1, m, os, ws, k, x4, x5, x6, x7, x8, x9, x10, x11, hm, ho, hw, h0, hk => by
    obtain ⟨q, ws1, i1, i2, i3, i4⟩ := v_dip2 (many := 1 + (m : Int)) hw (by omega) (by omega) (by omega)
    obtain ⟨F, ws2, y8, y9, y10, y11, g1, ⟨g2, g3⟩, g4⟩ := l_let2 s x2 ho (by omega) i2 ((List.range (m + 1)).map fun (i : Nat) => (0 : Int) + (i : Int)) [] ws1 (k + 1) x8 x9 x10 x11 (fun t ht => by
      obtain ⟨j, _, rfl⟩ := List.mem_map.mp ht
      omega) ⟨Nat.zero_le _, fun r hr => (nomatch hr)⟩ i4 (by omega) (by simp; omega)
    rw [← z_range] at g1
    have lo : os.length = m := by rw [ho.length_eq, rng_len]
    have hr0 : rgD false (.int 0) (.int (1 + (m : Int))) = some (true, .lst (rangeD 0 (m + 1))) := by
      have e : ((1 : Int) + (m : Int) - 0).toNat = m + 1 := by omega
      unfold rgD
      dsimp only
      rw [if_pos ⟨by decide, by decide, by omega, by omega, by rw [e]; omega⟩, e]
      rfl
    have b1 : (1 + (m : Int)) < 4611686018427387904 := by omega
    have b2 : -4611686018427387904 ≤ 1 + (m : Int) := by omega
    have b3 : (1 + (m : Int)).toNat = m + 1 := by omega
    have fn := fnd_ne F
    have st : ∃ os1, os1.Perm (rng (m + 1)) ∧ ∃ y7, (tName 4 (.int (1 + (m : Int))) [some (true, .lst ws), some (false, s.fbD), x2, some (false, .tup (zL os)), x4, x5, x6, x7, x8, x9, x10, x11, none]).bind fb3__law_let =
        some (.nx, [some (true, .lst ws2), some (false, s.fbD), x2, some (false, .tup (zL os1)), some (false, .int (1 + (m : Int))), some (true, .lst (rangeD 0 (m + 1))), some (false, .int q), y7, y8, y9, y10, y11, none]) := by
      cases F with
      | nil =>
        refine ⟨os ++ [1 + (m : Int)], ?_, some (true, .lst []), ?_⟩
        · refine perm_of ?_ (fun x hx => ?_) (by rw [rng_len, List.length_append, lo]; exact Nat.le_refl _)
          · refine List.nodup_append.mpr ⟨ho.symm.nodup (rng_nodup m), List.nodup_cons.mpr ⟨List.not_mem_nil, .nil⟩, fun a ha b hb => ?_⟩
            have := mem_rng.mp (ho.mem_iff.mp ha)
            rw [List.mem_singleton.mp hb]
            omega
          · rcases List.mem_append.mp hx with hx | hx
            · have := mem_rng.mp (ho.mem_iff.mp hx)
              exact mem_rng.mpr ⟨this.1, by omega⟩
            · rw [List.mem_singleton.mp hx]
              exact mem_rng.mpr ⟨by omega, by omega⟩
        · have b5 : os.length + 1 ≤ 1000000 := by omega
          simp only [List.map_nil] at g1
          simp -implicitDefEqProofs [fb3__law_let, hr0, i1, b1, b2, b3, g1, b5]
      | cons r F =>
        have eF : F = [] := List.length_eq_zero_iff.mp (by simp only [List.length_cons] at g2; omega)
        subst eF
        refine ⟨r, g3 r List.mem_cons_self, some (true, .lst [tZ r]), ?_⟩
        have fn : neD (.lst [tZ r]) (.lst []) = some (false, .bl true) := fn
        simp only [List.map_nil, List.map_cons] at g1
        have et : tZ r = .tup (zL r) := rfl
        simp -implicitDefEqProofs [fb3__law_let, hr0, i1, b1, b2, b3, g1, fn]
        exact et
    obtain ⟨os1, o1, y7, st⟩ := st
    obtain ⟨os', ws', z4, z5, z6, z7, z8, z9, z10, z11, j1, j2, j3⟩ := l_let3 s (x2 := x2) c (m + 1) os1 ws2 (k + 20) (some (false, .int (1 + (m : Int)))) (some (true, .lst (rangeD 0 (m + 1)))) (some (false, .int q)) y7 y8 y9 y10 y11 (by omega) o1 (g4.mono (by simp; omega)) (by omega) (by omega)
    refine ⟨os', ws', z4, z5, z6, z7, z8, z9, z10, z11, ?_, ?_, j3.mono (by omega)⟩
    · rw [List.range'_succ, List.map_cons]
      exact (fl_nx st).trans j1
    · have e : m + 1 + c = m + (c + 1) := by omega
      rw [← e]
      exact j2
end Wk

namespace Wk
open PySem PySem.Spec PyProof.Rows L2 PI
theorem v_let (s : Srt) {ws : List PI.D} {k : Int} {n : Nat} (hn : n ≤ 13) (hw : Wl k (.lst ws)) (h0 : 0 ≤ k) (hk : k < 50000) : ∃ os ws', c__law_let [.lst ws, s.fbD, .int (n : Int)] = some ((false, .tup (zL os)), [.lst ws']) ∧ os.Perm (rng n) ∧ Wl (k + 260) (.lst ws') := by
  obtain ⟨os, ws', y4, y5, y6, y7, y8, y9, y10, y11, g1, g2, g3⟩ := l_let3 s (x2 := some (false, .int (n : Int))) n 0 [] ws k none none none none none none none none (by omega) (.refl _) hw h0 (by omega)
  rw [Nat.zero_add] at g2
  refine ⟨os, ws', ?_, g2, g3.mono (by omega)⟩
  have e : rangeD 1 n = (List.range' 0 n).map fun (i : Nat) => PI.D.int (1 + (i : Int)) := by
    unfold rangeD
    rw [List.range_eq_range']
  rw [← e] at g1
  have g1 : fl (tName 4) fb3__law_let (rangeD 1 n) [some (true, .lst ws), some (false, s.fbD), some (false, .int (n : Int)), some (false, .tup []), none, none, none, none, none, none, none, none, none] = _ := g1
  have src : srcR2 (eC (.int 1)) (e2 addD (.sl 2) (.ex (eC (.int 1)))) [some (true, .lst ws), some (false, s.fbD), some (false, .int (n : Int)), some (false, .tup []), none, none, none, none, none, none, none, none, none] = some (rangeD 1 n, [some (true, .lst ws), some (false, s.fbD), some (false, .int (n : Int)), some (false, .tup []), none, none, none, none, none, none, none, none, none]) := by
    have en : ((n : Int) + 1 - 1).toNat = n := by omega
    have h := srcR2_nat (f := eC (.int 1)) (g := e2 addD (.sl 2) (.ex (eC (.int 1)))) (env := [some (true, .lst ws), some (false, s.fbD), some (false, .int (n : Int)), some (false, .tup []), none, none, none, none, none, none, none, none, none]) (i := 1) (j := (n : Int) + 1) (a := false) (b := false) rfl (by simp -implicitDefEqProofs; exact rfl) (by omega) (by omega)
    rw [en] at h
    exact h
  have hfor : sFor [0] [4] (srcR2 (eC (.int 1)) (e2 addD (.sl 2) (.ex (eC (.int 1))))) (tName 4) fb3__law_let [some (true, .lst ws), some (false, s.fbD), some (false, .int (n : Int)), some (false, .tup []), none, none, none, none, none, none, none, none, none] = some (.nx, [some (true, .lst ws'), some (false, s.fbD), some (false, .int (n : Int)), some (false, .tup (zL os)), y4, y5, y6, y7, y8, y9, y10, y11, none]) := by
    rw [s_sFor, src]
    exact g1
  unfold c__law_let b__law_let
  generalize sFor [0] [4] (srcR2 _ _) (tName 4) fb3__law_let = F at *
  simp -implicitDefEqProofs [hfor]
theorem v_exchanged {os : List Int} {a b : Int} (ha : 0 ≤ a ∧ a < os.length) (hb : 0 ≤ b ∧ b < os.length) : ∃ os', c__law_exchanged [.tup (zL os), .int a, .int b] = some ((false, .tup (zL os')), []) ∧ os'.Perm os := by
  have hr : a.toNat < os.length := by omega
  have hq : b.toNat < os.length := by omega
  have ar : atI (zL os) a = some (.int os[a.toNat]) := by rw [at_int ha.1 (by rw [zL_len]; omega), zL_get, List.getElem?_eq_getElem hr]; rfl
  have aq : atI (zL os) b = some (.int os[b.toNat]) := by rw [at_int hb.1 (by rw [zL_len]; omega), zL_get, List.getElem?_eq_getElem hq]; rfl
  have nr : ixN os.length a = some a.toNat := ixN_at ha.1 ha.2
  have nq : ixN os.length b = some b.toNat := ixN_at hb.1 hb.2
  refine ⟨(os.set a.toNat os[b.toNat]).set b.toNat os[a.toNat], ?_, List.set_set_perm hr hq⟩
  simp -implicitDefEqProofs [c__law_exchanged, b__law_exchanged, ar, aq, nr, nq]
theorem same_fb (s : Srt) : c__law_same 4 [.lst [s.fbD, s.fbD], .lst [s.fbD, s.fbD]] = some ((false, .bl true), []) := by
  refine same_lst 3 (by simp) fun e he => ?_
  have e1 : e = s.fbD := by simpa using he
  rw [e1]
  refine same_tup 2 (by cases s <;> decide) fun d hd => ?_
  obtain ⟨l, hl, rfl⟩ := List.mem_map.mp hd
  exact same_ints 0 ((by cases s <;> decide : ∀ l ∈ s.fb, l.length < 1000) l hl)
theorem l_fb1 (s : Srt) {fz : PI.D} {n : Nat} (hn : n < 6) (x3 x4 x5 x6 x7 x8 : Option (Bool × PI.D)) : ∃ y4, fl (tName 4) fb1_law ((lOrd n n).map tZ) [some (false, fz), some (false, .str s.nm), some (false, s.fbD), x3, x4, x5, x6, x7, x8] = some (.nx, [some (false, fz), some (false, .str s.nm), some (false, s.fbD), x3, y4, x5, x6, x7, x8]) := by
  obtain ⟨env', h1, ⟨y4, rfl⟩, _⟩ := fl_inv (T := tName 4) (f := fb1_law) (d := tZ) (fun r env => (∃ y4, env = [some (false, fz), some (false, .str s.nm), some (false, s.fbD), x3, y4, x5, x6, x7, x8]) ∧ ∀ o ∈ r, o.Perm (rng n)) (fun o r env h => by
    obtain ⟨⟨y4, rfl⟩, hv⟩ := h
    have hr := v_right s (by omega : n ≤ 16) (hv o List.mem_cons_self)
    refine ⟨_, ?_, ⟨some (false, .tup (zL o)), rfl⟩, fun b hb => hv b (List.mem_cons_of_mem _ hb)⟩
    simp -implicitDefEqProofs [fb1_law, tZ, hr]) (lOrd n n) _ ⟨⟨x4, rfl⟩, fun o ho => ord_perm hn ho⟩
  exact ⟨y4, h1⟩
theorem l_fb2 (s : Srt) {fz : PI.D} (x3 x4 x5 x6 x7 x8 : Option (Bool × PI.D)) : ∃ y3 y4, fl (tName 3) fb2_law (rangeD 0 6) [some (false, fz), some (false, .str s.nm), some (false, s.fbD), x3, x4, x5, x6, x7, x8] = some (.nx, [some (false, fz), some (false, .str s.nm), some (false, s.fbD), y3, y4, x5, x6, x7, x8]) := by
  obtain ⟨env', h1, ⟨y3, y4, rfl⟩, _⟩ := fl_range (T := tName 3) (f := fb2_law) 6 (fun r env => (∃ y3 y4, env = [some (false, fz), some (false, .str s.nm), some (false, s.fbD), y3, y4, x5, x6, x7, x8]) ∧ ∀ i ∈ r, 0 ≤ i ∧ i < 6) (fun i r env h => by
    obtain ⟨⟨y3, y4, rfl⟩, hv⟩ := h
    obtain ⟨i0, i1⟩ := hv i List.mem_cons_self
    obtain ⟨n, rfl⟩ := Int.eq_ofNat_of_zero_le i0
    have ho := v_orders n (by omega)
    obtain ⟨z4, g⟩ := l_fb1 s (fz := fz) (n := n) (by omega) (some (false, .int (n : Int))) y4 x5 x6 x7 x8
    refine ⟨_, ?_, ⟨some (false, .int (n : Int)), z4, rfl⟩, fun b hb => hv b (List.mem_cons_of_mem _ hb)⟩
    simp -implicitDefEqProofs [fb2_law, ho, g]) [some (false, fz), some (false, .str s.nm), some (false, s.fbD), x3, x4, x5, x6, x7, x8] fun l _ hi => ⟨⟨x3, x4, rfl⟩, hi⟩
  exact ⟨y3, y4, h1⟩
def encS (s : Srt) : PI.D := .tup [.str s.nm, s.fbD]
theorem l_fb3 {fz : PI.D} (x1 x2 x3 x4 x5 x6 x7 x8 : Option (Bool × PI.D)) : ∃ y1 y2 y3 y4, fl (tTplA 2 (tsCons (tName 1) (tsCons (tName 2) tsNil))) fb3_law ([Srt.st, .po, .qu, .bu].map encS) [some (false, fz), x1, x2, x3, x4, x5, x6, x7, x8] = some (.nx, [some (false, fz), y1, y2, y3, y4, x5, x6, x7, x8]) := by
  obtain ⟨env', h1, y1, y2, y3, y4, rfl⟩ := fl_inv (T := tTplA 2 (tsCons (tName 1) (tsCons (tName 2) tsNil))) (f := fb3_law) (d := encS) (fun r env => ∃ y1 y2 y3 y4, env = [some (false, fz), y1, y2, y3, y4, x5, x6, x7, x8]) (fun s r env h => by
    obtain ⟨y1, y2, y3, y4, rfl⟩ := h
    obtain ⟨z3, z4, g⟩ := l_fb2 s (fz := fz) y3 y4 x5 x6 x7 x8
    have hs := same_fb s
    have hl := v_list_of s
    refine ⟨_, ?_, some (false, .str s.nm), some (false, s.fbD), z3, z4, rfl⟩
    simp -implicitDefEqProofs [fb3_law, encS, hs, hl, g, pick]) [Srt.st, .po, .qu, .bu] _ ⟨x1, x2, x3, x4, rfl⟩
  exact ⟨y1, y2, y3, y4, h1⟩
end Wk

namespace Wk
open PySem PySem.Spec PyProof.Rows L2 PI
theorem two_sorted {a b : Int} {n : Int} (ha : 0 ≤ a ∧ a < n) (hb : 0 ≤ b ∧ b < n) : ∃ c d, isort [a, b] = [c, d] ∧ (0 ≤ c ∧ c < n) ∧ 0 ≤ d ∧ d < n := by
  have p := isort_perm [a, b]
  have hl : (isort [a, b]).length = 2 := p.length_eq
  have hm : ∀ x ∈ isort [a, b], 0 ≤ x ∧ x < n := fun x hx => by
    rcases List.mem_cons.mp (p.mem_iff.mp hx) with rfl | h
    · exact ha
    · rw [List.mem_singleton.mp h]
      exact hb
  generalize isort [a, b] = l at *
  match l, hl with
  | [c, d], _ => exact ⟨c, d, rfl, hm c List.mem_cons_self, hm d (List.mem_cons_of_mem _ List.mem_cons_self)⟩
theorem l_fb4 {fz : PI.D} : ∀ (ss : List Srt) (ws : List PI.D) (k : Int) (x1 x2 x3 x4 x5 x7 x8 : Option (Bool × PI.D)), Wl k (.lst ws) → 0 ≤ k → k + 300 * ss.length < 40000 →
    ∃ ws' y1 y2 y4 y7 y8, fl (tTplA 2 (tsCons (tName 1) (tsCons (tName 2) tsNil))) fb4_law (ss.map encS) [some (false, fz), x1, x2, x3, x4, x5, some (true, .lst ws), x7, x8] = some (.nx, [some (false, fz), y1, y2, x3, y4, x5, some (true, .lst ws'), y7, y8])
  | [], ws, k, x1, x2, x3, x4, x5, x7, x8, _, _, _ => ⟨ws, x1, x2, x4, x7, x8, rfl⟩
  | s :: ss, ws, k, x1, x2, x3, x4, x5, x7, x8, hw, h0, hk => by
    simp only [List.length_cons] at hk
    obtain ⟨r, ws1, i1, i2, i3, i4⟩ := v_dip2 (many := 7) hw (by omega) (by decide) (by decide)
    obtain ⟨r, rfl⟩ := Int.eq_ofNat_of_zero_le i2
    obtain ⟨os, ws2, j1, j2, j3⟩ := v_let s (n := 6 + r) (by omega) i4 (by omega) (by omega)
    have ej : ((6 + r : Nat) : Int) = 6 + (r : Int) := Int.natCast_add 6 r
    rw [ej] at j1
    have lo : os.length = 6 + r := by rw [j2.length_eq, rng_len]
    have hr1 := v_right s (by omega : 6 + r ≤ 16) j2
    obtain ⟨a, ws3, a1, a2, a3, a4⟩ := v_dip2 (many := (os.length : Int)) j3 (by omega) (by omega) (by omega)
    obtain ⟨b, ws4, b1, b2, b3, b4⟩ := v_dip2 (many := (os.length : Int)) a4 (by omega) (by omega) (by omega)
    obtain ⟨c, d, e1, hc, hd⟩ := two_sorted ⟨a2, a3⟩ ⟨b2, b3⟩
    have hs : sortedD (.lst [.int a, .int b]) = some (true, .lst [.int c, .int d]) := by
      have h := q_sortL (l := [a, b])
      rw [e1] at h
      exact h
    obtain ⟨os2, k1, k2⟩ := v_exchanged hc hd
    have hr2 := v_right s (by omega : 6 + r ≤ 16) (k2.trans j2)
    obtain ⟨ws', y1, y2, y4, y7, y8, g⟩ := l_fb4 (fz := fz) ss ws4 (k + 1 + 260 + 1 + 1) (some (false, .str s.nm)) (some (false, s.fbD)) x3 (some (false, .tup (zL os))) x5 (some (false, .int c)) (some (false, .int d)) b4 (by omega) (by omega)
    refine ⟨ws', y1, y2, y4, y7, y8, (fl_nx (ds := ss.map encS) ?_).trans g⟩
    simp -implicitDefEqProofs [fb4_law, encS, i1, j1, hr1, a1, b1, hs, k1, hr2]
theorem l_fb5 {ns : List Int} (hb : ∀ z ∈ ns, Builtin.Int.intBits z ≤ 1048576) (hl : ns.length ≤ 63) (m : Nat) (hm : m ≤ 8) (x1 x2 x3 x4 : Option (Bool × PI.D)) : ∃ y1 y2 y3 y4 y5 y6 y7 y8, fl (tName 5) fb5_law (rangeD 0 m) [some (false, .frz (zL ns)), x1, x2, x3, x4, none, none, none, none] =
      some (.nx, [some (false, .frz (zL ns)), y1, y2, y3, y4, y5, y6, y7, y8]) := by
  obtain ⟨env', h1, ⟨y1, y2, y3, y4, y5, y6, y7, y8, rfl⟩, _⟩ := fl_range (T := tName 5) (f := fb5_law) m (fun r env => (∃ y1 y2 y3 y4 y5 y6 y7 y8, env = [some (false, .frz (zL ns)), y1, y2, y3, y4, y5, y6, y7, y8]) ∧ ∀ i ∈ r, 0 ≤ i ∧ i < m) (fun a r env h => by
    obtain ⟨⟨y1, y2, y3, y4, y5, y6, y7, y8, rfl⟩, h5⟩ := h
    obtain ⟨a1, a2⟩ := h5 a List.mem_cons_self
    obtain ⟨p, rfl⟩ := Int.eq_ofNat_of_zero_le a1
    obtain ⟨ws, w1, w2⟩ := v_well (p := p) hb hl (by omega)
    obtain ⟨ws', z1, z2, z4, z7, z8, g⟩ := l_fb4 (fz := .frz (zL ns)) [Srt.st, .po, .qu, .bu] ws 0 y1 y2 y3 y4 (some (false, .int (p : Int))) y7 y8 w2 (Int.le_refl _) (by decide)
    have hv : c__law_lists [] = some ((true, .lst ([Srt.st, .po, .qu, .bu].map encS)), []) := v_lists
    generalize [Srt.st, .po, .qu, .bu].map encS = L at *
    refine ⟨_, ?_, ⟨z1, z2, y3, z4, some (false, .int (p : Int)), some (true, .lst ws'), z7, z8, rfl⟩, fun i hi => h5 i (List.mem_cons_of_mem _ hi)⟩
    simp -implicitDefEqProofs [fb5_law, w1, hv, g]) [some (false, .frz (zL ns)), x1, x2, x3, x4, none, none, none, none] fun l _ hi => ⟨⟨x1, x2, x3, x4, none, none, none, none, rfl⟩, hi⟩
  exact ⟨y1, y2, y3, y4, y5, y6, y7, y8, h1⟩
theorem v_law {ns : List Int} (hl : ns.length ≤ 63) (hb : ∀ z ∈ ns, Builtin.Int.intBits z ≤ 1048576) : c_law [.frz (ns.map PI.D.int)] = some ((false, .bl true), []) := by
  obtain ⟨m, hm, em⟩ : ∃ m : Nat, m ≤ 8 ∧ (if (if (ns.length : Int) < 6 then (ns.length : Int) else 6) > 1 then (if (ns.length : Int) < 6 then (ns.length : Int) else 6) else 1) = (m : Int) := by
    by_cases c1 : (ns.length : Int) < 6
    · rw [if_pos c1]
      by_cases c2 : (ns.length : Int) > 1
      · rw [if_pos c2]
        exact ⟨ns.length, by omega, rfl⟩
      · rw [if_neg c2]
        exact ⟨1, by decide, rfl⟩
    · rw [if_neg c1, if_pos (by decide)]
      exact ⟨6, by decide, rfl⟩
  obtain ⟨x1, x2, x3, x4, g1⟩ := l_fb3 (fz := .frz (zL ns)) none none none none none none none none
  obtain ⟨y1, y2, y3, y4, y5, y6, y7, y8, g2⟩ := l_fb5 hb hl m hm x1 x2 x3 x4
  have hv : c__law_lists [] = some ((true, .lst ([Srt.st, .po, .qu, .bu].map encS)), []) := v_lists
  generalize [Srt.st, .po, .qu, .bu].map encS = L at *
  have src : srcR1 (eN (c2 max2D) [(.ex (eC (.int 1))), (.ex (eN (c2 min2D) [(.ex (eC (.int 6))), (.ex (eN (c1 lenD) [(.sl 0)]))]))]) [some (false, .frz (zL ns)), x1, x2, x3, x4, none, none, none, none] = some (rangeD 0 m, [some (false, .frz (zL ns)), x1, x2, x3, x4, none, none, none, none]) := by
    refine srcR1_nat (fr := false) ?_ (by omega)
    rw [← em]
    simp -implicitDefEqProofs
  show c_law [.frz (zL ns)] = _
  have e1 : sFor [] [5] (srcR1 (eN (c2 max2D) [(.ex (eC (.int 1))), (.ex (eN (c2 min2D) [(.ex (eC (.int 6))), (.ex (eN (c1 lenD) [(.sl 0)]))]))])) (tName 5) fb5_law [some (false, .frz (zL ns)), x1, x2, x3, x4, none, none, none, none] = some (.nx, [some (false, .frz (zL ns)), y1, y2, y3, y4, y5, y6, y7, y8]) := by
    rw [s_sFor, src]
    exact g2
  unfold c_law b_law
  generalize sFor [] [5] (srcR1 _) (tName 5) fb5_law = F at *
  simp -implicitDefEqProofs [hv, g1, e1]
end Wk

open PySem PySem.W PySem.Calls PyProof.Rows
theorem PySem.Challenge.cw_bannedorders_k38_whole_sorted_exactly_by_holds : PySem.Challenge.rw_bannedorders_k38_whole_sorted_exactly_by.Holds := by
  w_on; o_law
  refine HandSHeadRun.head_any (r := OpenLaw.row PySem.Challenge.rw_bannedorders_k38_whole_sorted_exactly_by) (q := view (OpenLaw.row PySem.Challenge.rw_bannedorders_k38_whole_sorted_exactly_by).prog [38]) (H := Hd.hk) (ob := Hd.ob) (M := 4000) (loose := Hd.loose) (d := HandSHeadRun.topDef (OpenLaw.row PySem.Challenge.rw_bannedorders_k38_whole_sorted_exactly_by).prog 38) (kwd := []) Hd.ob_eq
    (by kernel_rfl) (fun s => by kernel_rfl) Hd.run (by kernel_rfl) (by kernel_rfl) (by kernel_rfl) (by rfl) (by first | assumption | decide +kernel) (by decide +kernel) ⟨rfl, rfl, rfl, rfl, rfl, by decide +kernel⟩ ?hw ?hc
  case hw => w_witness2
  case hc =>
    refine PI.walk_pi (l := PySem.Challenge.rw_bannedorders_k38_whole_sorted_exactly_by) (n := 63) (k := 8) (x := "law") (st := Wk.top 38) (y := "script") (f := Wk.c_law) rfl (by decide) (by kernel_rfl) ⟨rfl, by decide, by decide⟩ (by kernel_rfl) (fun _ _ _ _ _ _ us hl => match us, hl with | [_], _ => rfl) ?F (fun ns hl hb => Wk.v_law hl hb)
    intro w mg h Y G
    obtain ⟨K, KX, c⟩ := Y
    have M := Hd.md KX G c
    exact ⟨K, KX, M.d_law, fun base _ _ => Wk.ok_law M⟩

