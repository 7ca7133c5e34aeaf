import PyProof.Rows.All
import HandS.ForMost
import HandS.Lambda
import HandS.Deep
import HandS.TupAny
import HandS.Style
import HandS.IsInst
import KE.SortData
import HandS.NoneIn
import HandS.CallLocal
import HandS.SetBool
import HandS.TupSets
import KE.KeyNested
import HandS.SetKeys
import KE.SortKeyHeap
import HandS.RaiseMore
import HandS.Words
import KE.KNestM
import HandS.HeadWalk
import PySem.Challenge.RW_ruleyard_k08_whole_steps_keep_books_of_f
set_option Elab.async false
set_option linter.all false
set_option maxRecDepth 100000
section MEvA
/-! Ev, part A: values, worlds, what reads as what. -/
namespace Ev
open PySem PySem.Spec PyProof.Rows L2

/-- a value as the meaning sees it: a list is frozen (nobody changes it any more), a cell is a list that may change -/
inductive Va where
  | non | bl (b : Bool) | int (i : Int) | str (x : Str)
  | tup (xs : List Va) | lst (xs : List Va) | loc (n : Nat) | fn (x : Str) | scr (ns : List Int)

/-- a world: the cells' addresses, the frozen lists, the heap -/
structure Wd where
  φ : List Addr
  fz : Addr → Prop
  H : Hp
  nd : φ.Nodup
  cl : ∀ a ∈ φ, ∃ xs, H a = some (.lst xs)
  fl : ∀ a, fz a → a ∉ φ ∧ ∃ xs, H a = some (.lst xs)

/-- no table of code objects -/
def nT (o : HO) : Prop := ∀ ps, o ≠ .tbl ps
theorem nT_lst {xs : List V} : nT (.lst xs) := fun _ e => by cases e
theorem nT_tup {xs : List V} : nT (.tup xs) := fun _ e => by cases e
theorem nT_frz {o : Obj} {u : HO} : nT (.frz o u) := fun _ e => by cases e
theorem nT_ext {φ : Heap → Prop} : nT (.ext φ) := fun _ e => by cases e
/-- the tables of code objects stay ones -/
def TbM (H H' : Hp) : Prop := ∀ P q, LamX.TabS H P q → LamX.TabS H' P q
theorem TbM.refl (H : Hp) : TbM H H := fun _ _ h => h
theorem TbM.trans {A B C : Hp} (x : TbM A B) (y : TbM B C) : TbM A C := fun P q h => y P q (x P q h)
theorem TbM.of {H H' : Hp} (e : ∀ b o, H b = some o → H' b = some o) : TbM H H' := fun _ _ h => h.ext e
/-- a list is written -/
theorem TbM.lst {H : Hp} {D : Addr} {vs : List V} {o : HO} (h : H D = some (.lst vs)) : TbM H (upd H D o) := fun P q ⟨ps, h1, h2, h3⟩ => by
  have nP : P ≠ D := fun e => by rw [e, h] at h1; cases h1
  refine ⟨ps, by rw [upd_ne nP]; exact h1, h2, fun pos cv e => ?_⟩
  obtain ⟨c, e1, e2⟩ := h3 pos cv e
  refine ⟨c, e1, ?_⟩
  have nc : c ≠ D := fun e => by
    rw [e, h] at e2
    unfold LamX.CodeO at e2
    cases e2
  rw [upd_ne nc]
  exact e2
/-- from one world to a later one: what is no cell stays -/
structure Ext (W W' : Wd) : Prop where
  dom : ∀ a, W'.H a = none → W.H a = none
  phi : ∃ m, W'.φ = W.φ ++ m
  phin : ∀ a, a ∈ W'.φ → a ∈ W.φ ∨ W.H a = none
  fzm : ∀ a, W.fz a → W'.fz a
  fzn : ∀ a, W'.fz a → W.fz a ∨ W.H a = none
  keep : ∀ a o, W.H a = some o → a ∉ W.φ → nT o → W'.H a = some o
/-- .. weaker: frozen lists, tuples, locked things stay -/
structure Exs (W W' : Wd) : Prop where
  phi : ∃ m, W'.φ = W.φ ++ m
  fzm : ∀ a, W.fz a → W'.fz a
  kfz : ∀ a o, W.fz a → W.H a = some o → W'.H a = some o
  ktp : ∀ a xs, W.H a = some (.tup xs) → W'.H a = some (.tup xs)
  kfr : ∀ a o u, W.H a = some (.frz o u) → W'.H a = some (.frz o u)

theorem Wd.no_tup {W : Wd} {a : Addr} {xs : List V} (h : W.H a = some (.tup xs)) : a ∉ W.φ := fun z => by
  obtain ⟨ys, e⟩ := W.cl a z
  rw [h] at e; cases e
theorem Wd.no_frz {W : Wd} {a : Addr} {o : Obj} {u : HO} (h : W.H a = some (.frz o u)) : a ∉ W.φ := fun z => by
  obtain ⟨ys, e⟩ := W.cl a z
  rw [h] at e; cases e
theorem Wd.no_fz {W : Wd} {a : Addr} (h : W.fz a) : a ∉ W.φ := (W.fl a h).1

theorem Ext.refl (W : Wd) : Ext W W := ⟨fun _ h => h, ⟨[], by simp⟩, fun _ h => .inl h, fun _ h => h, fun _ h => .inl h, fun _ _ h _ _ => h⟩
theorem Ext.trans {A B C : Wd} (x : Ext A B) (y : Ext B C) : Ext A C where
  dom := fun a h => x.dom a (y.dom a h)
  phi := by
    obtain ⟨m, e⟩ := x.phi
    obtain ⟨n, f⟩ := y.phi
    exact ⟨m ++ n, by rw [f, e, List.append_assoc]⟩
  phin := fun a h => by
    rcases y.phin a h with h | h
    · exact x.phin a h
    · exact .inr (x.dom a h)
  fzm := fun a h => y.fzm a (x.fzm a h)
  fzn := fun a h => by
    rcases y.fzn a h with h | h
    · exact x.fzn a h
    · exact .inr (x.dom a h)
  keep := fun a o h hn nt => by
    have h1 := x.keep a o h hn nt
    refine y.keep a o h1 (fun z => ?_) nt
    rcases x.phin a z with z | z
    · exact hn z
    · rw [h] at z; cases z
theorem Ext.exs {A B : Wd} (x : Ext A B) : Exs A B :=
  ⟨x.phi, x.fzm, fun a o h e => x.keep a o e (A.no_fz h) (by obtain ⟨_, xs, e'⟩ := A.fl a h; rw [e] at e'; cases e'; exact nT_lst), fun a xs e => x.keep a _ e (Wd.no_tup e) nT_tup, fun a o u e => x.keep a _ e (Wd.no_frz e) nT_frz⟩
theorem Exs.refl (W : Wd) : Exs W W := (Ext.refl W).exs
theorem Exs.trans {A B C : Wd} (x : Exs A B) (y : Exs B C) : Exs A C where
  phi := by
    obtain ⟨m, e⟩ := x.phi
    obtain ⟨n, f⟩ := y.phi
    exact ⟨m ++ n, by rw [f, e, List.append_assoc]⟩
  fzm := fun a h => y.fzm a (x.fzm a h)
  kfz := fun a o h e => y.kfz a o (x.fzm a h) (x.kfz a o h e)
  ktp := fun a xs e => y.ktp a xs (x.ktp a xs e)
  kfr := fun a o u e => y.kfr a o u (x.kfr a o u e)

/-- the list that the law is given -/
def ScL (K : PySem.W.Frag) (W : Wd) (a : Addr) (vs : List V) : Prop :=
  (W.fz a ∧ W.H a = some (.lst vs)) ∨ (∃ o, W.H a = some (.frz o (.lst vs))) ∨ SqL K (fun _ => none) a vs
theorem ScL.seq {K : PySem.W.Frag} {W : Wd} {a : Addr} {vs : List V} (h : ScL K W a vs) : SqL K W.H a vs := by
  rcases h with ⟨_, h⟩ | ⟨o, h⟩ | h
  · exact .inl (.inl h)
  · exact .inl (.inr ⟨o, h⟩)
  · rcases h with (h | ⟨o, h⟩) | h
    · cases h
    · cases h
    · exact .inr h
theorem ScL.mono {K : PySem.W.Frag} {W W' : Wd} {a : Addr} {vs : List V} (x : Exs W W') (h : ScL K W a vs) : ScL K W' a vs := by
  rcases h with ⟨h1, h⟩ | ⟨o, h⟩ | h
  · exact .inl ⟨x.fzm a h1, x.kfz a _ h1 h⟩
  · exact .inr (.inl ⟨o, x.kfr a o _ h⟩)
  · exact .inr (.inr h)
theorem sqT_mono {K : PySem.W.Frag} {W W' : Wd} {a : Addr} {vs : List V} (x : Exs W W') (h : SqT K W.H a vs) : SqT K W'.H a vs := by
  rcases h with (h | ⟨o, h⟩) | h
  · exact .inl (.inl (x.ktp a _ h))
  · exact .inl (.inr ⟨o, x.kfr a o _ h⟩)
  · exact .inr h

mutual
/-- the value v is, in the world W, what d says -/
inductive Rp (K : PySem.W.Frag) (mg : Str → Option Value) (W : Wd) : V → Va → Prop
  | non : Rp K mg W .non .non
  | bl (b : Bool) : Rp K mg W (.bl b) (.bl b)
  | int (i : Int) : Rp K mg W (.int i) (.int i)
  | str (x : Str) : Rp K mg W (.str x) (.str x)
  | tup {a : Addr} {vs : List V} {ds : List Va} : SqT K W.H a vs → RpL K mg W vs ds → Rp K mg W (.ref a) (.tup ds)
  | lst {a : Addr} {vs : List V} {ds : List Va} : W.fz a → W.H a = some (.lst vs) → RpL K mg W vs ds → Rp K mg W (.ref a) (.lst ds)
  | loc {a : Addr} {n : Nat} : W.φ[n]? = some a → Rp K mg W (.ref a) (.loc n)
  | fn {a : Addr} {x : Str} : mg x = some (.ref a) → Rp K mg W (.ref a) (.fn x)
  | scr {a : Addr} {ns : List Int} : ScL K W a (ns.map V.int) → Rp K mg W (.ref a) (.scr ns)
inductive RpL (K : PySem.W.Frag) (mg : Str → Option Value) (W : Wd) : List V → List Va → Prop
  | nil : RpL K mg W [] []
  | cons {v : V} {vs : List V} {d : Va} {ds : List Va} : Rp K mg W v d → RpL K mg W vs ds → RpL K mg W (v :: vs) (d :: ds)
end
section
variable {K : PySem.W.Frag} {mg : Str → Option Value} {W W' : Wd}
mutual
theorem Rp.mono (x : Exs W W') : ∀ {v : V} (d : Va), Rp K mg W v d → Rp K mg W' v d
  | _, .non, h => by cases h; exact .non
  | _, .bl _, h => by cases h; exact .bl _
  | _, .int _, h => by cases h; exact .int _
  | _, .str _, h => by cases h; exact .str _
  | _, .tup ds, h => by
    cases h with
    | tup h1 h2 => exact .tup (sqT_mono x h1) (RpL.mono x ds h2)
  | _, .lst ds, h => by
    cases h with
    | lst h0 h1 h2 => exact .lst (x.fzm _ h0) (x.kfz _ _ h0 h1) (RpL.mono x ds h2)
  | _, .loc n, h => by
    cases h with
    | loc h1 =>
      obtain ⟨m, e⟩ := x.phi
      refine .loc ?_
      rw [e, List.getElem?_append_left (List.getElem?_eq_some_iff.mp h1).1]
      exact h1
  | _, .fn _, h => by
    cases h with
    | fn h1 => exact .fn h1
  | _, .scr _, h => by
    cases h with
    | scr h1 => exact .scr (h1.mono x)
theorem RpL.mono (x : Exs W W') : ∀ {vs : List V} (ds : List Va), RpL K mg W vs ds → RpL K mg W' vs ds
  | _, [], h => by cases h; exact .nil
  | _, d :: ds, h => by
    cases h with
    | cons h1 h2 => exact .cons (Rp.mono x d h1) (RpL.mono x ds h2)
end
theorem RpL.length : ∀ {vs : List V} {ds : List Va}, RpL K mg W vs ds → vs.length = ds.length
  | _, _, .nil => rfl
  | _, _, .cons _ t => by simp [RpL.length t]
theorem RpL.get : ∀ {vs : List V} {ds : List Va} {i : Nat} {d : Va}, RpL K mg W vs ds → ds[i]? = some d → ∃ v, vs[i]? = some v ∧ Rp K mg W v d
  | _, _, _, _, .nil, e => by simp at e
  | _, _, 0, _, .cons h _, e => by simp at e; subst e; exact ⟨_, rfl, h⟩
  | _, _, i + 1, d, .cons _ t, e => by
    obtain ⟨v, h1, h2⟩ := RpL.get (i := i) (d := d) t (by simpa using e)
    exact ⟨v, by simpa using h1, h2⟩
theorem RpL.get' : ∀ {vs : List V} {ds : List Va} {i : Nat} {v : V}, RpL K mg W vs ds → vs[i]? = some v → ∃ d, ds[i]? = some d ∧ Rp K mg W v d
  | _, _, _, _, .nil, e => by simp at e
  | _, _, 0, _, .cons h _, e => by simp at e; subst e; exact ⟨_, rfl, h⟩
  | _, _, i + 1, v, .cons _ t, e => by
    obtain ⟨d, h1, h2⟩ := RpL.get' (i := i) (v := v) t (by simpa using e)
    exact ⟨d, by simpa using h1, h2⟩
theorem RpL.append : ∀ {vs ws : List V} {ds es : List Va}, RpL K mg W vs ds → RpL K mg W ws es → RpL K mg W (vs ++ ws) (ds ++ es)
  | _, _, _, _, .nil, s => s
  | _, _, _, _, .cons h t, s => .cons h (RpL.append t s)
theorem RpL.take : ∀ {vs : List V} {ds : List Va} (n : Nat), RpL K mg W vs ds → RpL K mg W (vs.take n) (ds.take n)
  | _, _, 0, _ => .nil
  | _, _, _ + 1, .nil => .nil
  | _, _, n + 1, .cons h t => .cons h (RpL.take n t)
theorem RpL.drop : ∀ {vs : List V} {ds : List Va} (n : Nat), RpL K mg W vs ds → RpL K mg W (vs.drop n) (ds.drop n)
  | _, _, 0, r => r
  | _, _, _ + 1, .nil => .nil
  | _, _, n + 1, .cons _ t => RpL.drop n t
theorem RpL.eraseIdx : ∀ {vs : List V} {ds : List Va} (n : Nat), RpL K mg W vs ds → RpL K mg W (vs.eraseIdx n) (ds.eraseIdx n)
  | _, _, 0, .nil => .nil
  | _, _, _ + 1, .nil => .nil
  | _, _, 0, .cons _ t => t
  | _, _, n + 1, .cons h t => .cons h (RpL.eraseIdx n t)
theorem RpL.set {v : V} {d : Va} (hd : Rp K mg W v d) : ∀ {vs : List V} {ds : List Va} (n : Nat), RpL K mg W vs ds → RpL K mg W (vs.set n v) (ds.set n d)
  | _, _, 0, .nil => .nil
  | _, _, _ + 1, .nil => .nil
  | _, _, 0, .cons _ t => .cons hd t
  | _, _, n + 1, .cons h t => .cons h (RpL.set hd n t)
theorem RpL.reverse : ∀ {vs : List V} {ds : List Va}, RpL K mg W vs ds → RpL K mg W vs.reverse ds.reverse
  | _, _, .nil => .nil
  | _, _, .cons h t => by
    rw [List.reverse_cons, List.reverse_cons]
    exact (RpL.reverse t).append (.cons h .nil)
end

/-! ### new things -/
theorem upd_none {H : Hp} {p : Addr} {o : HO} (hp : H p = none) {a : Addr} {u : HO} (h : H a = some u) : upd H p o a = some u := by
  rw [upd_ne (ne_of_none h hp)]; exact h
theorem dom_upd {H : Hp} {p : Addr} {o : HO} {a : Addr} (h : upd H p o a = none) : H a = none := by
  by_cases e : a = p
  · rw [e, upd_same] at h; cases h
  · rw [upd_ne e] at h; exact h
/-- a new thing that is no list -/
def Wd.newT (W : Wd) (p : Addr) (o : HO) (hp : W.H p = none) : Wd where
  φ := W.φ
  fz := W.fz
  H := upd W.H p o
  nd := W.nd
  cl := fun a h => let ⟨xs, e⟩ := W.cl a h; ⟨xs, upd_none hp e⟩
  fl := fun a h => let ⟨n, xs, e⟩ := W.fl a h; ⟨n, xs, upd_none hp e⟩
/-- a new list, frozen -/
def Wd.newL (W : Wd) (p : Addr) (vs : List V) (hp : W.H p = none) : Wd where
  φ := W.φ
  fz := fun a => W.fz a ∨ a = p
  H := upd W.H p (.lst vs)
  nd := W.nd
  cl := fun a h => let ⟨xs, e⟩ := W.cl a h; ⟨xs, upd_none hp e⟩
  fl := fun a h => by
    rcases h with h | rfl
    · let ⟨n, xs, e⟩ := W.fl a h
      exact ⟨n, xs, upd_none hp e⟩
    · refine ⟨fun z => ?_, vs, upd_same⟩
      obtain ⟨xs, e⟩ := W.cl a z
      rw [hp] at e; cases e
/-- .. where the cells' lists stay -/
structure Grow (W W' : Wd) : Prop where
  tb : TbM W.H W'.H
  ext : Ext W W'
  phi : W'.φ = W.φ
  cs : ∀ a ∈ W.φ, W'.H a = W.H a
theorem Grow.refl (W : Wd) : Grow W W := ⟨TbM.refl _, Ext.refl W, rfl, fun _ _ => rfl⟩
theorem Grow.trans {A B C : Wd} (x : Grow A B) (y : Grow B C) : Grow A C :=
  ⟨x.tb.trans y.tb, x.ext.trans y.ext, y.phi.trans x.phi, fun a h => (y.cs a (by rw [x.phi]; exact h)).trans (x.cs a h)⟩
theorem Wd.grow_newT (W : Wd) (p : Addr) (o : HO) (hp : W.H p = none) : Grow W (W.newT p o hp) :=
  ⟨TbM.of fun b u h => upd_none hp h, ⟨fun a h => dom_upd h, ⟨[], by simp [Wd.newT]⟩, fun _ h => .inl h, fun _ h => h, fun _ h => .inl h, fun a u h _ _ => upd_none hp h⟩, rfl, fun a h => by
    obtain ⟨xs, e⟩ := W.cl a h
    exact (upd_none hp e).trans e.symm⟩
theorem Wd.grow_newL (W : Wd) (p : Addr) (vs : List V) (hp : W.H p = none) : Grow W (W.newL p vs hp) :=
  ⟨TbM.of fun b u h => upd_none hp h, ⟨fun a h => dom_upd h, ⟨[], by simp [Wd.newL]⟩, fun _ h => .inl h, fun _ h => .inl h, fun a h => by
      rcases h with h | rfl
      · exact .inl h
      · exact .inr hp, fun a u h _ _ => upd_none hp h⟩, rfl, fun a h => by
    obtain ⟨xs, e⟩ := W.cl a h
    exact (upd_none hp e).trans e.symm⟩
theorem Wd.rp_newL {K : PySem.W.Frag} {mg : Str → Option Value} (W : Wd) (p : Addr) {vs : List V} {ds : List Va} (hp : W.H p = none) (h : RpL K mg W vs ds) : Rp K mg (W.newL p vs hp) (.ref p) (.lst ds) :=
  .lst (.inr rfl) upd_same (RpL.mono (W.grow_newL p vs hp).ext.exs _ h)
theorem Wd.rp_newT {K : PySem.W.Frag} {mg : Str → Option Value} (W : Wd) (p : Addr) {vs : List V} {ds : List Va} (hp : W.H p = none) (h : RpL K mg W vs ds) : Rp K mg (W.newT p (.tup vs) hp) (.ref p) (.tup ds) :=
  .tup (.inl (.inl upd_same)) (RpL.mono (W.grow_newT p _ hp).ext.exs _ h)

/-! ### the state -/
inductive Sl where
  | no | val (v : Va) | own (xs : List Va)
abbrev Fs := List Sl
abbrev Mu := List (List Va)
/-- the defs that make a lambda each -/
def lamNames : List Str := ["all_lots", "fewest_dropped", "fewest_facts", "all_loops", "least_splits", "least_signs", "fewest_to_know"]
def codeAt (o : Option Obj) : Option Addr := match o with
  | some o => match o.data with
    | .func fd => match fd.code with
      | .ref c => some c
      | _ => none
    | _ => none
  | none => none
def tableAt (o : Option Obj) : Option Addr := match o with
  | some o => match o.data with
    | .fields vs => match vs[11]? with
      | some (Value.ref P) => some P
      | _ => none
    | _ => none
  | none => none
/-- the table of code objects of a def -/
def tbAt (K : PySem.W.Frag) (mg : Str → Option Value) (x : Str) : Option (Addr × Str) := match mg x with
  | some (Value.ref fa) => match codeAt (K.lookup fa) with
    | some c => match tableAt (K.lookup c) with
      | some P => some (P, x ++ ".<locals>.<lambda>")
      | none => none
    | none => none
  | _ => none
def tbOf (K : PySem.W.Frag) (mg : Str → Option Value) : List (Addr × Str) := lamNames.filterMap (tbAt K mg)
/-- the tables of code objects stand -/
def Tbs (K : PySem.W.Frag) (mg : Str → Option Value) (W : Wd) : Prop := LamX.Tabs (tbOf K mg) W.H
theorem Tbs.mono {K : PySem.W.Frag} {mg : Str → Option Value} {W W' : Wd} (h : Tbs K mg W) (x : TbM W.H W'.H) : Tbs K mg W' := fun p hp => x _ _ (h p hp)
/-- the cells hold what μ says -/
structure Cs (K : PySem.W.Frag) (mg : Str → Option Value) (W : Wd) (μ : Mu) : Prop where
  len : W.φ.length = μ.length
  at_ : ∀ (n : Nat) xs, μ[n]? = some xs → ∃ a vs, W.φ[n]? = some a ∧ W.H a = some (.lst vs) ∧ RpL K mg W vs xs
  tabs : Tbs K mg W
/-- the frame's slots and the cells -/
structure Se (K : PySem.W.Frag) (mg : Str → Option Value) (W : Wd) (fs : Fs) (μ : Mu) (σ : L2.St) : Prop where
  vals : ∀ (i : Nat) v, fs[i]? = some (.val v) → ∃ w, σ[i]? = some (some w) ∧ Rp K mg W w v
  owns : ∀ (i : Nat) xs, fs[i]? = some (.own xs) → ∃ a vs, σ[i]? = some (some (.ref a)) ∧ W.H a = some (.lst vs) ∧ RpL K mg W vs xs ∧ ¬ W.fz a ∧ a ∉ W.φ
  cells : Cs K mg W μ
section
variable {K : PySem.W.Frag} {mg : Str → Option Value} {W W' : Wd} {fs : Fs} {μ μ' : Mu} {σ : L2.St}
theorem Cs.grow (c : Cs K mg W μ) (g : Grow W W') : Cs K mg W' μ where
  len := by rw [g.phi]; exact c.len
  at_ := fun n xs e => by
    obtain ⟨a, vs, h1, h2, h3⟩ := c.at_ n xs e
    exact ⟨a, vs, by rw [g.phi]; exact h1, (g.cs a (List.mem_of_getElem? h1)).trans h2, RpL.mono g.ext.exs _ h3⟩
  tabs := c.tabs.mono g.tb
theorem own_ext {a : Addr} {vs : List V} (x : Ext W W') (h : W.H a = some (.lst vs)) (nf : ¬ W.fz a) (np : a ∉ W.φ) : W'.H a = some (.lst vs) ∧ ¬ W'.fz a ∧ a ∉ W'.φ := by
  refine ⟨x.keep a _ h np nT_lst, fun z => ?_, fun z => ?_⟩
  · rcases x.fzn a z with z | z
    · exact nf z
    · rw [h] at z; cases z
  · rcases x.phin a z with z | z
    · exact np z
    · rw [h] at z; cases z
theorem Se.ext (S : Se K mg W fs μ σ) (x : Ext W W') (c : Cs K mg W' μ') : Se K mg W' fs μ' σ where
  vals := fun i v e => let ⟨w, h1, h2⟩ := S.vals i v e; ⟨w, h1, Rp.mono x.exs _ h2⟩
  owns := fun i xs e => by
    obtain ⟨a, vs, h1, h2, h3, h4, h5⟩ := S.owns i xs e
    obtain ⟨k1, k2, k3⟩ := own_ext x h2 h4 h5
    exact ⟨a, vs, h1, k1, RpL.mono x.exs _ h3, k2, k3⟩
  cells := c
theorem Se.grow (S : Se K mg W fs μ σ) (g : Grow W W') : Se K mg W' fs μ σ := S.ext g.ext (S.cells.grow g)
end

/-! ### meanings of expressions -/
abbrev ME := Fs → Mu → Option (Va × Mu)
abbrev MT := Fs → Mu → Option (Bool × Mu)
abbrev MA := Fs → Mu → Option (List Va × Mu)
def rdE (K : PySem.W.Frag) (mg : Str → Option Value) (m : ME) : TE := fun σ H Q => ∃ W fs μ v μ', W.H = H ∧ Se K mg W fs μ σ ∧ m fs μ = some (v, μ') ∧ ∀ W' w, Ext W W' → Cs K mg W' μ' → Rp K mg W' w v → Q w W'.H
def rdT (K : PySem.W.Frag) (mg : Str → Option Value) (m : MT) : TT := fun σ H Q => ∃ W fs μ v μ', W.H = H ∧ Se K mg W fs μ σ ∧ m fs μ = some (v, μ') ∧ ∀ W', Ext W W' → Cs K mg W' μ' → Q v W'.H
def rdA (K : PySem.W.Frag) (mg : Str → Option Value) (m : MA) : TA := fun σ H Q => ∃ W fs μ vs μ', W.H = H ∧ Se K mg W fs μ σ ∧ m fs μ = some (vs, μ') ∧ ∀ W' ws, Ext W W' → Cs K mg W' μ' → RpL K mg W' ws vs → Q ws W'.H
abbrev SE (X : Cx) (e : Expr) (m : ME) : Prop := PE X e (rdE X.K X.mg m)
abbrev ST (X : Cx) (e : Expr) (m : MT) : Prop := PT X e (rdT X.K X.mg m)
abbrev SW (X : Cx) (e : Expr) (m : MT) : Prop := PW X e (rdT X.K X.mg m)
abbrev SA (X : Cx) (es : List Expr) (m : MA) : Prop := PA X es (rdA X.K X.mg m)
theorem _root_.L2.PE.of {X : Cx} {e : Expr} {t t' : TE} (h : PE X e t) (i : ∀ σ H Q, t' σ H Q → t σ H Q) : PE X e t' := ⟨fun p s σ H Q I q => h.run p s σ H Q I (i σ H Q q)⟩
theorem _root_.L2.PT.of {X : Cx} {e : Expr} {t t' : TT} (h : PT X e t) (i : ∀ σ H Q, t' σ H Q → t σ H Q) : PT X e t' := ⟨fun p s σ H Q I q => h.run p s σ H Q I (i σ H Q q)⟩
theorem _root_.L2.PW.of {X : Cx} {e : Expr} {t t' : TT} (h : PW X e t) (i : ∀ σ H Q, t' σ H Q → t σ H Q) : PW X e t' := ⟨fun w p s σ H Q I q => h.run w p s σ H Q I (i σ H Q q)⟩
theorem _root_.L2.PA.of {X : Cx} {e : List Expr} {t t' : TA} (h : PA X e t) (i : ∀ σ H Q, t' σ H Q → t σ H Q) : PA X e t' := ⟨fun w p s σ H Q I q => h.run w p s σ H Q I (i σ H Q q)⟩
theorem _root_.L2.PS.of {X : Cx} {e : Stmt} {t t' : TS} (h : PS X e t) (i : ∀ D σ H, t' D σ H → t D σ H) : PS X e t' := ⟨fun p s σ H D I q => h.run p s σ H D I (i D σ H q)⟩
theorem _root_.L2.PSs.of {X : Cx} {e : List Stmt} {t t' : TS} (h : PSs X e t) (i : ∀ D σ H, t' D σ H → t D σ H) : PSs X e t' := ⟨fun p s σ H D I q => h.run p s σ H D I (i D σ H q)⟩
end Ev
end MEvA
section MEvB
/-! Ev, part B: expressions. -/
namespace Ev
open PySem PySem.Spec PyProof.Rows L2

/-! ### data without cells, as the library's data -/
mutual
def toD : Va → Option PyData
  | .non => some .none
  | .bl b => some (.bool b)
  | .int i => some (.int i)
  | .str x => some (.str x)
  | .tup xs => (toDs xs).map .tuple
  | .lst xs => (toDs xs).map .list
  | .loc _ => none
  | .fn _ => none
  | .scr _ => none
def toDs : List Va → Option (List PyData)
  | [] => some []
  | x :: xs => match toD x, toDs xs with
    | some d, some ds => some (d :: ds)
    | _, _ => none
end
section
variable {K : PySem.W.Frag} {mg : Str → Option Value} {W : Wd}
mutual
theorem Rp.dp : ∀ {v : V} (d : Va) {p : PyData}, Rp K mg W v d → toD d = some p → Dp K W.H v p
  | _, .non, p, h, e => by cases h; simp only [toD, Option.some.injEq] at e; subst e; exact .non
  | _, .bl b, p, h, e => by cases h; simp only [toD, Option.some.injEq] at e; subst e; exact .bl _
  | _, .int i, p, h, e => by cases h; simp only [toD, Option.some.injEq] at e; subst e; exact .int _
  | _, .str x, p, h, e => by cases h; simp only [toD, Option.some.injEq] at e; subst e; exact .str _
  | _, .tup xs, p, h, e => by
    cases h with
    | tup h1 h2 =>
      simp only [toD, Option.map_eq_some_iff] at e
      obtain ⟨ds, e1, rfl⟩ := e
      exact .tup h1 (RpL.dp xs h2 e1)
  | _, .lst xs, p, h, e => by
    cases h with
    | lst h0 h1 h2 =>
      simp only [toD, Option.map_eq_some_iff] at e
      obtain ⟨ds, e1, rfl⟩ := e
      exact .lst (.inl (.inl h1)) (RpL.dp xs h2 e1)
  | _, .loc _, p, h, e => by simp [toD] at e
  | _, .fn _, p, h, e => by simp [toD] at e
  | _, .scr _, p, h, e => by simp [toD] at e
theorem RpL.dp : ∀ {vs : List V} (ds : List Va) {ps : List PyData}, RpL K mg W vs ds → toDs ds = some ps → DpAll K W.H vs ps
  | _, [], ps, h, e => by cases h; simp only [toDs, Option.some.injEq] at e; subst e; exact .nil
  | _, d :: ds, ps, h, e => by
    cases h with
    | cons h1 h2 =>
      simp only [toDs] at e
      split at e
      · rename_i p0 ps0 e1 e2
        simp only [Option.some.injEq] at e
        subst e
        exact .cons (Rp.dp d h1 e1) (RpL.dp ds h2 e2)
      · cases e
end
end
/-- data that == can be asked of -/
def shD (d : Va) : Option PyData := match toD d with
  | some p => if SeqAt.shaped p = true then some p else none
  | none => none
theorem shD_some {d : Va} {p : PyData} (h : shD d = some p) : toD d = some p ∧ SeqAt.shaped p = true := by
  unfold shD at h
  split at h
  · split at h
    · rename_i e1 e2; cases h; exact ⟨e1, e2⟩
    · cases h
  · cases h

/-! ### names, constants -/
section
variable {X : Cx} {a b : Expr} {ma mb : ME} {pos : Pos}
def eVar (i : Nat) : ME := fun fs μ => match fs[i]? with
  | some (.val v) => some (v, μ)
  | _ => none
def eC (v : Va) : ME := fun _ μ => some (v, μ)
theorem se_var {i : Nat} {x : Str} (h : PE X (.Name x pos) (tVar i)) : SE X (.Name x pos) (eVar i) := h.of fun σ H Q ⟨W, fs, μ, v, μ', hW, S, e, q⟩ => by
  unfold eVar at e
  split at e
  · rename_i v0 hv
    cases e
    obtain ⟨w, h1, h2⟩ := S.vals i _ hv
    refine ⟨w, h1, ?_⟩
    rw [← hW]
    exact q W w (Ext.refl W) S.cells h2
  · cases e
theorem se_const {v : V} {d : Va} (h : PE X a (tC v)) (r : ∀ W, Rp X.K X.mg W v d) : SE X a (eC d) := h.of fun σ H Q ⟨W, fs, μ, v', μ', hW, S, e, q⟩ => by
  unfold eC at e
  cases e
  show Q v H
  rw [← hW]
  exact q W v (Ext.refl W) S.cells (r W)
theorem se_int {i : Int} {j} : SE X (.Constant (.int i) j pos) (eC (.int i)) := se_const pe_int fun _ => .int i
theorem se_bl {b : Bool} {j} : SE X (.Constant (.bool b) j pos) (eC (.bl b)) := se_const pe_bl fun _ => .bl b
theorem se_str {x : Str} {j} : SE X (.Constant (.str x) j pos) (eC (.str x)) := se_const pe_str fun _ => .str x
theorem se_non {j} : SE X (.Constant .none j pos) (eC .non) := se_const pe_non fun _ => .non

/-! ### two operands -/
/-- what an operator by values is, on what is told -/
def OpS (X : Cx) (f : Value → Value → Sem Value) (g : Mu → Va → Va → Option Va) : Prop :=
  ∃ r, OpR X f r ∧ ∀ (W : Wd) (μ : Mu) (x y : V) (dx dy v : Va) (Q : VK), Cs X.K X.mg W μ → Rp X.K X.mg W x dx → Rp X.K X.mg W y dy → g μ dx dy = some v →
    (∀ W' w, Grow W W' → Rp X.K X.mg W' w v → Q w W'.H) → r x y W.H Q
def eBin (g : Mu → Va → Va → Option Va) (a b : ME) : ME := fun fs μ => match a fs μ with
  | some (x, μ1) => match b fs μ1 with
    | some (y, μ2) => match g μ2 x y with
      | some v => some (v, μ2)
      | none => none
    | none => none
  | none => none
theorem rd_bin {K : PySem.W.Frag} {mg : Str → Option Value} {σ : L2.St} {H : Hp} {Q : VK} {g : Mu → Va → Va → Option Va} {r : R2}
    (hr : ∀ (W : Wd) (μ : Mu) (x y : V) (dx dy v : Va) (Q : VK), Cs K mg W μ → Rp K mg W x dx → Rp K mg W y dy → g μ dx dy = some v → (∀ W' w, Grow W W' → Rp K mg W' w v → Q w W'.H) → r x y W.H Q)
    (h : rdE K mg (eBin g ma mb) σ H Q) : tOp r (rdE K mg ma) (rdE K mg mb) σ H Q := by
  obtain ⟨W, fs, μ, v, μ', hW, S, e, q⟩ := h
  unfold eBin at e
  split at e
  · rename_i x μ1 e1
    split at e
    · rename_i y μ2 e2
      split at e
      · rename_i v0 e3
        cases e
        refine ⟨W, fs, μ, x, μ1, hW, S, e1, fun W1 w1 x1 c1 r1 => ?_⟩
        refine ⟨W1, fs, μ1, y, _, rfl, S.ext x1 c1, e2, fun W2 w2 x2 c2 r2 => ?_⟩
        exact hr W2 _ w1 w2 x y v Q c2 (Rp.mono x2.exs _ r1) r2 e3 fun W3 w3 g3 r3 => q W3 w3 ((x1.trans x2).trans g3.ext) (c2.grow g3) r3
      · cases e
    · cases e
  · cases e
theorem se_op {op : Operator} {g : Mu → Va → Va → Option Va} (ho : OpS X (binaryOp op) g) (ha : SE X a ma) (hb : SE X b mb) : SE X (.BinOp a op b pos) (eBin g ma mb) := by
  obtain ⟨r, h1, h2⟩ := ho
  exact (pe_op h1 ha hb).of fun σ H Q h => rd_bin h2 h
theorem se_cmp {op : CmpOp} {g : Mu → Va → Va → Option Va} (ho : OpS X (compareOp op) g) (ha : SE X a ma) (hb : SE X b mb) (hm : behindInMarks op b = false) : SE X (.Compare a [op] [b] pos) (eBin g ma mb) := by
  obtain ⟨r, h1, h2⟩ := ho
  exact (pe_cmpR h1 ha hb hm).of fun σ H Q h => rd_bin h2 h
/-- a meaning that gives a bool, as a test's -/
def tOf (m : ME) : MT := fun fs μ => match m fs μ with
  | some (.bl b, μ') => some (b, μ')
  | _ => none
theorem rd_tOf {K : PySem.W.Frag} {mg : Str → Option Value} {σ : L2.St} {H : Hp} {Q : Bool → Hp → Prop} {m : ME} (h : rdT K mg (tOf m) σ H Q) : rdE K mg m σ H (fun x H' => ∃ k, x = .bl k ∧ Q k H') := by
  obtain ⟨W, fs, μ, v, μ', hW, S, e, q⟩ := h
  unfold tOf at e
  split at e
  · rename_i b μ1 e1
    cases e
    refine ⟨W, fs, μ, _, _, hW, S, e1, fun W' w x c r => ?_⟩
    cases r
    exact ⟨_, rfl, q W' x c⟩
  · cases e
theorem st_cmp {op : CmpOp} {g : Mu → Va → Va → Option Va} (ho : OpS X (compareOp op) g) (ha : SE X a ma) (hb : SE X b mb) (hm : behindInMarks op b = false) : ST X (.Compare a [op] [b] pos) (tOf (eBin g ma mb)) := by
  obtain ⟨r, h1, h2⟩ := ho
  exact (pt_cmpR h1 ha hb hm).of fun σ H Q h => rd_bin h2 (rd_tOf h)
theorem st_val {e : Expr} {m : ME} (h : SE X e m) (he : ∀ whole, isTrue e X.env whole = (do let v ← whole; standAt e.pos; holding [v] (truthy v)) := by intro _; rfl) : ST X e (tOf m) :=
  (pt_val h he).of fun σ H Q h => rd_tOf h

/-! ### the operators -/
def gAdd : Mu → Va → Va → Option Va := fun _ x y => match x, y with
  | .int i, .int j => some (.int (i + j))
  | .str x, .str y => if x.length + y.length ≤ sizeLine then some (.str (x ++ y)) else none
  | .tup xs, .tup ys => if xs.length + ys.length ≤ sizeLine then some (.tup (xs ++ ys)) else none
  | .lst xs, .lst ys => if xs.length + ys.length ≤ sizeLine then some (.lst (xs ++ ys)) else none
  | _, _ => none
theorem os_add : OpS X (binaryOp .Add) gAdd := by
  refine ⟨_, (op_add (X := X)).or ((op_add_str (X := X)).or ((op_catA (X := X)).or (op_cat (X := X)))), fun W μ x y dx dy v Q c rx ry e q => ?_⟩
  unfold gAdd at e
  split at e
  · cases e
    cases rx; cases ry
    exact .inl ⟨_, _, rfl, rfl, q W _ (Grow.refl W) (.int _)⟩
  · split at e
    · rename_i hl
      cases e
      cases rx; cases ry
      exact .inr (.inl ⟨_, _, rfl, rfl, hl, q W _ (Grow.refl W) (.str _)⟩)
    · cases e
  · split at e
    · rename_i xs ys hl
      cases e
      cases rx with
      | tup h1 h2 =>
        cases ry with
        | tup k1 k2 =>
          refine .inr (.inr (.inl ⟨_, _, _, _, rfl, rfl, h1, k1, by rw [h2.length, k2.length]; exact hl, fun z => ?_, fun _ z => ?_, fun _ _ p hp => ?_⟩))
          · subst z
            cases h2
            exact q W _ (Grow.refl W) (.tup k1 k2)
          · subst z
            cases k2
            rw [List.append_nil] at q
            exact q W _ (Grow.refl W) (.tup h1 h2)
          · exact q _ _ (W.grow_newT p _ hp) (W.rp_newT p hp (h2.append k2))
    · cases e
  · split at e
    · rename_i xs ys hl
      cases e
      cases rx with
      | lst h0 h1 h2 =>
        cases ry with
        | lst k0 k1 k2 =>
          refine .inr (.inr (.inr ⟨_, _, _, _, rfl, rfl, h1, k1, by rw [h2.length, k2.length]; exact hl, fun p hp => ?_⟩))
          exact q _ _ (W.grow_newL p _ hp) (W.rp_newL p hp (h2.append k2))
    · cases e
  · cases e
def gInt (f : Int → Int → Option Int) : Mu → Va → Va → Option Va := fun _ x y => match x, y with
  | .int i, .int j => (f i j).map .int
  | _, _ => none
theorem os_int {f : Value → Value → Sem Value} {C : Int → Int → Prop} {g : Int → Int → Int} {h : Int → Int → Option Int} (ho : OpR X f (rI C fun i j => .int (g i j))) (hh : ∀ i j k, h i j = some k → C i j ∧ k = g i j) : OpS X f (gInt h) := by
  refine ⟨_, ho, fun W μ x y dx dy v Q c rx ry e q => ?_⟩
  unfold gInt at e
  split at e
  · rename_i i j
    cases rx; cases ry
    cases hk : h i j with
    | none => rw [hk] at e; cases e
    | some k =>
      rw [hk] at e
      cases e
      obtain ⟨h1, rfl⟩ := hh _ _ _ hk
      exact ⟨_, _, rfl, rfl, h1, q W _ (Grow.refl W) (.int _)⟩
  · cases e
def iSub (i j : Int) : Option Int := some (i - j)
def iMul (i j : Int) : Option Int := if (-(2 ^ 64) < i ∧ i < 2 ^ 64) ∨ (-(2 ^ 64) < j ∧ j < 2 ^ 64) then some (i * j) else none
def iDiv (i j : Int) : Option Int := if 0 < j ∧ j < 1073741824 then some (i / j) else none
def iMod (i j : Int) : Option Int := if 0 < j then some (i % j) else none
def iPow (i j : Int) : Option Int := if 0 ≤ j ∧ j ≤ 1000000 ∧ i.natAbs < 2 ^ 64 then some (i ^ j.toNat) else none
theorem os_sub : OpS X (binaryOp .Sub) (gInt iSub) := os_int (C := fun _ _ => True) (g := fun i j => i - j) (opI fun _ _ _ _ _ _ _ _ q => sub_int q) fun i j k e => by cases e; exact ⟨trivial, rfl⟩
theorem os_mul : OpS X (binaryOp .Mult) (gInt iMul) := os_int op_mul fun i j k e => by
  unfold iMul at e
  split at e
  · rename_i h; cases e; exact ⟨h, rfl⟩
  · cases e
theorem os_div : OpS X (binaryOp .FloorDiv) (gInt iDiv) := os_int op_fdiv fun i j k e => by
  unfold iDiv at e
  split at e
  · rename_i h; cases e; exact ⟨h, rfl⟩
  · cases e
theorem os_mod : OpS X (binaryOp .Mod) (gInt iMod) := os_int op_mod fun i j k e => by
  unfold iMod at e
  split at e
  · rename_i h; cases e; exact ⟨h, rfl⟩
  · cases e
theorem os_pow : OpS X (binaryOp .Pow) (gInt iPow) := os_int op_pow fun i j k e => by
  unfold iPow at e
  split at e
  · rename_i h; cases e; exact ⟨h, rfl⟩
  · cases e
/-! ### comparisons -/
def gCmp (p : Int → Int → Bool) : Mu → Va → Va → Option Va := fun _ x y => match x, y with
  | .int i, .int j => some (.bl (p i j))
  | _, _ => none
theorem os_cmp {f : Value → Value → Sem Value} {p : Int → Int → Bool} (ho : OpR X f (rI0 fun i j => .bl (p i j))) : OpS X f (gCmp p) := by
  refine ⟨_, ho, fun W μ x y dx dy v Q c rx ry e q => ?_⟩
  unfold gCmp at e
  split at e
  · cases e
    cases rx; cases ry
    exact ⟨_, _, rfl, rfl, q W _ (Grow.refl W) (.bl _)⟩
  · cases e
theorem os_lt : OpS X (compareOp .Lt) (gCmp fun i j => decide (i < j)) := os_cmp op_lt
theorem os_le : OpS X (compareOp .LtE) (gCmp fun i j => decide (i ≤ j)) := os_cmp op_le
theorem os_gt : OpS X (compareOp .Gt) (gCmp fun i j => decide (j < i)) := os_cmp op_gt
theorem os_ge : OpS X (compareOp .GtE) (gCmp fun i j => decide (j ≤ i)) := os_cmp op_ge
/-- == -/
def gEq : Mu → Va → Va → Option Va := fun _ x y => match shD x, shD y with
  | some d, some e => some (.bl (PyData.eqv d e))
  | _, _ => none
def gNe : Mu → Va → Va → Option Va := fun _ x y => match shD x, shD y with
  | some d, some e => some (.bl (!PyData.eqv d e))
  | _, _ => none
theorem os_eq (hu : X.A.units + 64 < cLine) : OpS X (compareOp .Eq) gEq := by
  refine ⟨_, op_eqD hu, fun W μ x y dx dy v Q c rx ry e q => ?_⟩
  unfold gEq at e
  split at e
  · rename_i d d' e1 e2
    cases e
    obtain ⟨t1, s1⟩ := shD_some e1
    obtain ⟨t2, s2⟩ := shD_some e2
    exact ⟨d, d', Rp.dp _ rx t1, Rp.dp _ ry t2, s1, s2, q W _ (Grow.refl W) (.bl _)⟩
  · cases e
theorem os_ne (hu : X.A.units + 64 < cLine) : OpS X (compareOp .NotEq) gNe := by
  refine ⟨_, op_neD hu, fun W μ x y dx dy v Q c rx ry e q => ?_⟩
  unfold gNe at e
  split at e
  · rename_i d d' e1 e2
    cases e
    obtain ⟨t1, s1⟩ := shD_some e1
    obtain ⟨t2, s2⟩ := shD_some e2
    exact ⟨d, d', Rp.dp _ rx t1, Rp.dp _ ry t2, s1, s2, q W _ (Grow.refl W) (.bl _)⟩
  · cases e
/-- x in a list or tuple -/
def inD (x c : Va) : Option Bool := match shD x, shD c with
  | some d, some (.list ds) => some (ds.any fun z => PyData.eqv z d)
  | some d, some (.tuple ds) => some (ds.any fun z => PyData.eqv z d)
  | _, _ => none
/-- a cell's list, for a look -/
def look (μ : Mu) : Va → Va
  | .loc n => match μ[n]? with
    | some xs => .lst xs
    | none => .loc n
  | v => v
def gIn (neg : Bool) : Mu → Va → Va → Option Va := fun μ x c => (inD x (look μ c)).map fun b => .bl (if neg then !b else b)
theorem look_dp {K : PySem.W.Frag} {mg : Str → Option Value} {W : Wd} {μ : Mu} {y : V} {dy : Va} {p : PyData} (c : Cs K mg W μ) (r : Rp K mg W y dy) (e : toD (look μ dy) = some p) : Dp K W.H y p := by
  unfold look at e
  split at e
  · rename_i n
    split at e
    · rename_i xs hx
      obtain ⟨a, vs, h1, h2, h3⟩ := c.at_ n xs hx
      cases r with
      | loc k1 =>
        rw [h1] at k1
        cases k1
        simp only [toD, Option.map_eq_some_iff] at e
        obtain ⟨ds, e1, rfl⟩ := e
        exact .lst (.inl (.inl h2)) (RpL.dp xs h3 e1)
    · simp [toD] at e
  · exact Rp.dp _ r e
def rInS (K : PySem.W.Frag) (neg : Bool) : R2 := fun x y H Q => ∃ d c b, Dp K H x d ∧ Dp K H y c ∧ SeqAt.shaped d = true ∧ SeqAt.shaped c = true ∧
  ((∃ ds, c = .list ds ∧ b = ds.any fun z => PyData.eqv z d) ∨ ∃ ds, c = .tuple ds ∧ b = ds.any fun z => PyData.eqv z d) ∧ Q (.bl (if neg then !b else b)) H
theorem shT_lay {ds : List PyData} (h : SeqAt.shaped (.tuple ds) = true) : PyData.canLayAll0 ds = true := SeqAt.canLay_of_shaped h
theorem room_in {A : Around} {d : PyData} {n : Nat} (h : SeqAt.shaped d = true) (hu : A.units + 65 < cLine) : A.units + 1 + min n d.depth < cLine := by
  have h1 := SeqAt.depth_of_shaped h
  omega
theorem op_inS (hu : X.A.units + 65 < cLine) : OpR X (compareOp .In) (rInS X.K false) := by
  intro pins s σ H x y v u Q I rx ry h
  obtain ⟨d, c, b, hd, he, sd, se, hb, q⟩ := h
  obtain ⟨as, r1⟩ := Dp.reads I d x v hd rx
  obtain ⟨bs, r2⟩ := Dp.reads I c y u he ry
  rcases hb with ⟨ds, rfl, rfl⟩ | ⟨ds, rfl, rfl⟩
  · exact SeqAt.in_list_reads r2 r1 (SeqAt.canLay_of_shaped se) (SeqAt.canLay_of_shaped sd) (room_in sd hu) ⟨.bl _, H, I, rfl, q⟩
  · exact SeqAt.in_tuple_reads r2 r1 (SeqAt.canLay_of_shaped se) (SeqAt.canLay_of_shaped sd) (room_in sd hu) ⟨.bl _, H, I, rfl, q⟩
theorem op_notInS (hu : X.A.units + 65 < cLine) : OpR X (compareOp .NotIn) (rInS X.K true) := by
  intro pins s σ H x y v u Q I rx ry h
  obtain ⟨d, c, b, hd, he, sd, se, hb, q⟩ := h
  obtain ⟨as, r1⟩ := Dp.reads I d x v hd rx
  obtain ⟨bs, r2⟩ := Dp.reads I c y u he ry
  rcases hb with ⟨ds, rfl, rfl⟩ | ⟨ds, rfl, rfl⟩
  · exact SeqAt.notIn_list_reads r2 r1 (SeqAt.canLay_of_shaped se) (SeqAt.canLay_of_shaped sd) (room_in sd hu) ⟨.bl _, H, I, rfl, q⟩
  · exact SeqAt.notIn_tuple_reads r2 r1 (SeqAt.canLay_of_shaped se) (SeqAt.canLay_of_shaped sd) (room_in sd hu) ⟨.bl _, H, I, rfl, q⟩
theorem inD_of {K : PySem.W.Frag} {mg : Str → Option Value} {neg : Bool} {W : Wd} {μ : Mu} {x y : V} {dx dy v : Va} {Q : VK} (c : Cs K mg W μ) (rx : Rp K mg W x dx) (ry : Rp K mg W y dy) (e : gIn neg μ dx dy = some v)
    (q : ∀ W' w, Grow W W' → Rp K mg W' w v → Q w W'.H) : rInS K neg x y W.H Q := by
  unfold gIn at e
  simp only [Option.map_eq_some_iff] at e
  obtain ⟨b, e, rfl⟩ := e
  unfold inD at e
  split at e
  · rename_i d ds e1 e2
    cases e
    obtain ⟨t1, s1⟩ := shD_some e1
    obtain ⟨t2, s2⟩ := shD_some e2
    exact ⟨d, _, _, Rp.dp _ rx t1, look_dp c ry t2, s1, s2, .inl ⟨ds, rfl, rfl⟩, q W _ (Grow.refl W) (.bl _)⟩
  · rename_i d ds e1 e2
    cases e
    obtain ⟨t1, s1⟩ := shD_some e1
    obtain ⟨t2, s2⟩ := shD_some e2
    exact ⟨d, _, _, Rp.dp _ rx t1, look_dp c ry t2, s1, s2, .inr ⟨ds, rfl, rfl⟩, q W _ (Grow.refl W) (.bl _)⟩
  · cases e
theorem os_in (hu : X.A.units + 65 < cLine) : OpS X (compareOp .In) (gIn false) := ⟨_, op_inS hu, fun _ _ _ _ _ _ _ _ c rx ry e q => inD_of c rx ry e q⟩
theorem os_notin (hu : X.A.units + 65 < cLine) : OpS X (compareOp .NotIn) (gIn true) := ⟨_, op_notInS hu, fun _ _ _ _ _ _ _ _ c rx ry e q => inD_of c rx ry e q⟩
/-- x is None, x is True .. -/
def isV : Va → Va → Option Bool
  | .non, .non => some true
  | _, .non => some false
  | .bl a, .bl b => some (decide (a = b))
  | _, .bl _ => some false
  | _, _ => none
def gIs (neg : Bool) : Mu → Va → Va → Option Va := fun _ x y => (isV x y).map fun b => .bl (if neg then !b else b)
def rIsS (neg : Bool) : R2 := fun x y H Q => (y = .non ∨ ∃ b, y = .bl b) ∧ Q (.bl (if neg then !decide (x = y) else decide (x = y))) H
theorem op_isS : OpR X (compareOp .Is) (rIsS false) := by
  intro pins s σ H x y v u Q I rx ry h
  obtain ⟨hy, q⟩ := h
  by_cases e : x = y
  · subst e
    have q' : Q (.bl true) H := by simpa using q
    rcases hy with rfl | ⟨b, rfl⟩
    · cases rx; cases ry
      exact wpAny_is_self rfl ⟨.bl true, H, I, rfl, q'⟩
    · cases rx; cases ry
      exact wpAny_is_self rfl ⟨.bl true, H, I, rfl, q'⟩
  · have q' : Q (.bl false) H := by simpa [e] using q
    rcases hy with rfl | ⟨b, rfl⟩
    · cases ry
      refine is_none_gen (fin_bl I q' ?_)
      cases x <;> first
        | exact absurd rfl e
        | (cases rx; rfl)
        | (obtain ⟨t, rfl⟩ := rx; rfl)
    · cases (show u = Value.bool b from ry)
      refine wpAny_is_other (by cases x <;> first | (cases rx; rfl) | (obtain ⟨t, rfl⟩ := rx; rfl)) (fun z => e ?_) ⟨.bl false, H, I, rfl, q'⟩
      subst z
      exact rx.inj ry
theorem op_isnotS : OpR X (compareOp .IsNot) (rIsS true) := by
  intro pins s σ H x y v u Q I rx ry h
  obtain ⟨hy, q⟩ := h
  by_cases e : x = y
  · subst e
    have q' : Q (.bl false) H := by simpa using q
    rcases hy with rfl | ⟨b, rfl⟩
    · cases rx; cases ry
      exact wpAny_isNot_self rfl ⟨.bl false, H, I, rfl, q'⟩
    · cases rx; cases ry
      exact wpAny_isNot_self rfl ⟨.bl false, H, I, rfl, q'⟩
  · have q' : Q (.bl true) H := by simpa [e] using q
    rcases hy with rfl | ⟨b, rfl⟩
    · cases ry
      refine isnot_none_gen (fin_bl I q' ?_)
      cases x <;> first
        | exact absurd rfl e
        | (cases rx; rfl)
        | (obtain ⟨t, rfl⟩ := rx; rfl)
    · cases (show u = Value.bool b from ry)
      refine wpAny_isNot_other (by cases x <;> first | (cases rx; rfl) | (obtain ⟨t, rfl⟩ := rx; rfl)) (fun z => e ?_) ⟨.bl true, H, I, rfl, q'⟩
      subst z
      exact rx.inj ry
theorem isV_of {K : PySem.W.Frag} {mg : Str → Option Value} {W : Wd} {x y : V} {dx dy : Va} {b : Bool} (rx : Rp K mg W x dx) (ry : Rp K mg W y dy) (e : isV dx dy = some b) : (y = .non ∨ ∃ b, y = .bl b) ∧ b = decide (x = y) := by
  cases ry with
  | non => refine ⟨.inl rfl, ?_⟩; cases rx <;> simp_all [isV]
  | bl b0 => refine ⟨.inr ⟨_, rfl⟩, ?_⟩; cases rx <;> simp_all [isV]
  | _ => cases rx <;> simp [isV] at e
theorem os_is : OpS X (compareOp .Is) (gIs false) := ⟨_, op_isS, fun W μ x y dx dy v Q c rx ry e q => by
  unfold gIs at e
  simp only [Option.map_eq_some_iff] at e
  obtain ⟨b, e, rfl⟩ := e
  obtain ⟨h1, rfl⟩ := isV_of rx ry e
  exact ⟨h1, q W _ (Grow.refl W) (.bl _)⟩⟩
theorem os_isnot : OpS X (compareOp .IsNot) (gIs true) := ⟨_, op_isnotS, fun W μ x y dx dy v Q c rx ry e q => by
  unfold gIs at e
  simp only [Option.map_eq_some_iff] at e
  obtain ⟨b, e, rfl⟩ := e
  obtain ⟨h1, rfl⟩ := isV_of rx ry e
  exact ⟨h1, q W _ (Grow.refl W) (.bl _)⟩⟩
/-- -n -/
def eNeg (a : ME) : ME := fun fs μ => match a fs μ with
  | some (.int i, μ') => some (.int (-i), μ')
  | _ => none
theorem se_neg (ha : SE X a ma) : SE X (.UnaryOp .USub a pos) (eNeg ma) := (pe_un un_neg ha).of fun σ H Q ⟨W, fs, μ, v, μ', hW, S, e, q⟩ => by
  unfold eNeg at e
  split at e
  · rename_i i μ1 e1
    cases e
    refine ⟨W, fs, μ, _, _, hW, S, e1, fun W' w x c r => ?_⟩
    cases r
    exact ⟨i, rfl, q W' _ x c (.int _)⟩
  · cases e
end
end Ev
end MEvB
section MEvC
/-! Ev, part C: and, or, not, if; tuples, lists, places, cuts; built-in functions. -/
namespace Ev
open PySem PySem.Spec PyProof.Rows L2
section
variable {X : Cx} {a b c : Expr} {ma mb : ME} {mc ta tb : MT} {pos : Pos} {rest es : List Expr} {mr : MA}

/-! ### and, or, not, if -/
def eAnd (a b : ME) : ME := fun fs μ => match a fs μ with
  | some (.bl true, μ1) => b fs μ1
  | some (.bl false, μ1) => some (.bl false, μ1)
  | _ => none
def eOr (a b : ME) : ME := fun fs μ => match a fs μ with
  | some (.bl true, μ1) => some (.bl true, μ1)
  | some (.bl false, μ1) => b fs μ1
  | _ => none
def eNot (a : ME) : ME := fun fs μ => match a fs μ with
  | some (.bl b, μ1) => some (.bl (!b), μ1)
  | _ => none
def tAnd (a b : MT) : MT := fun fs μ => match a fs μ with
  | some (true, μ1) => b fs μ1
  | some (false, μ1) => some (false, μ1)
  | none => none
def tOr (a b : MT) : MT := fun fs μ => match a fs μ with
  | some (true, μ1) => some (true, μ1)
  | some (false, μ1) => b fs μ1
  | none => none
def tNot (a : MT) : MT := fun fs μ => match a fs μ with
  | some (b, μ1) => some (!b, μ1)
  | none => none
def eIf (c : MT) (a b : ME) : ME := fun fs μ => match c fs μ with
  | some (true, μ1) => a fs μ1
  | some (false, μ1) => b fs μ1
  | none => none
theorem se_one {op} (h : SE X a ma) : SE X (.BoolOp op [a] pos) ma := pe_one h
theorem se_and (ha : SE X a ma) (hb : SE X (.BoolOp .And (b :: rest) pos) mb) : SE X (.BoolOp .And (a :: b :: rest) pos) (eAnd ma mb) := (pe_and ha hb).of fun σ H Q ⟨W, fs, μ, v, μ', hW, S, e, q⟩ => by
  unfold eAnd at e
  split at e
  · rename_i μ1 e1
    exact ⟨W, fs, μ, _, _, hW, S, e1, fun W' w x c r => by
      cases r
      exact ⟨true, rfl, W', fs, _, _, _, rfl, S.ext x c, e, fun W2 w2 x2 c2 r2 => q W2 w2 (x.trans x2) c2 r2⟩⟩
  · rename_i μ1 e1
    cases e
    exact ⟨W, fs, μ, _, _, hW, S, e1, fun W' w x c r => by
      cases r
      exact ⟨false, rfl, q W' _ x c (.bl _)⟩⟩
  · cases e
theorem se_or (ha : SE X a ma) (hb : SE X (.BoolOp .Or (b :: rest) pos) mb) : SE X (.BoolOp .Or (a :: b :: rest) pos) (eOr ma mb) := (pe_or ha hb).of fun σ H Q ⟨W, fs, μ, v, μ', hW, S, e, q⟩ => by
  unfold eOr at e
  split at e
  · rename_i μ1 e1
    cases e
    exact ⟨W, fs, μ, _, _, hW, S, e1, fun W' w x c r => by
      cases r
      exact ⟨true, rfl, q W' _ x c (.bl _)⟩⟩
  · rename_i μ1 e1
    exact ⟨W, fs, μ, _, _, hW, S, e1, fun W' w x c r => by
      cases r
      exact ⟨false, rfl, W', fs, _, _, _, rfl, S.ext x c, e, fun W2 w2 x2 c2 r2 => q W2 w2 (x.trans x2) c2 r2⟩⟩
  · cases e
theorem se_not (ha : SE X a ma) : SE X (.UnaryOp .Not a pos) (eNot ma) := (pe_not ha).of fun σ H Q ⟨W, fs, μ, v, μ', hW, S, e, q⟩ => by
  unfold eNot at e
  split at e
  · rename_i b μ1 e1
    cases e
    exact ⟨W, fs, μ, _, _, hW, S, e1, fun W' w x c r => by
      cases r
      exact ⟨_, rfl, q W' _ x c (.bl _)⟩⟩
  · cases e
theorem sw_and1 (h : ST X a ta) : SW X (.BoolOp .And [a] pos) ta := pw_and1 h
theorem sw_or1 (h : ST X a ta) : SW X (.BoolOp .Or [a] pos) ta := pw_or1 h
theorem sw_and (ha : ST X a ta) (hb : SW X (.BoolOp .And (b :: rest) pos) tb) : SW X (.BoolOp .And (a :: b :: rest) pos) (tAnd ta tb) := (pw_and ha hb).of fun σ H Q ⟨W, fs, μ, v, μ', hW, S, e, q⟩ => by
  unfold tAnd at e
  split at e
  · rename_i μ1 e1
    exact ⟨W, fs, μ, _, _, hW, S, e1, fun W' x c => iteT (by
      exact ⟨W', fs, _, _, _, rfl, S.ext x c, e, fun W2 x2 c2 => q W2 (x.trans x2) c2⟩)⟩
  · rename_i μ1 e1
    cases e
    exact ⟨W, fs, μ, _, _, hW, S, e1, fun W' x c => iteF (q W' x c)⟩
  · cases e
theorem sw_or (ha : ST X a ta) (hb : SW X (.BoolOp .Or (b :: rest) pos) tb) : SW X (.BoolOp .Or (a :: b :: rest) pos) (tOr ta tb) := (pw_or ha hb).of fun σ H Q ⟨W, fs, μ, v, μ', hW, S, e, q⟩ => by
  unfold tOr at e
  split at e
  · rename_i μ1 e1
    cases e
    exact ⟨W, fs, μ, _, _, hW, S, e1, fun W' x c => iteT (q W' x c)⟩
  · rename_i μ1 e1
    exact ⟨W, fs, μ, _, _, hW, S, e1, fun W' x c => iteF (by
      exact ⟨W', fs, _, _, _, rfl, S.ext x c, e, fun W2 x2 c2 => q W2 (x.trans x2) c2⟩)⟩
  · cases e
theorem st_w {t : MT} (h : SW X a t) : ST X a t := h.pt
theorem st_not (ha : ST X a ta) : ST X (.UnaryOp .Not a pos) (tNot ta) := (pt_not ha).of fun σ H Q ⟨W, fs, μ, v, μ', hW, S, e, q⟩ => by
  unfold tNot at e
  split at e
  · rename_i b μ1 e1
    cases e
    exact ⟨W, fs, μ, _, _, hW, S, e1, fun W' x c => q W' x c⟩
  · cases e
theorem se_if (hc : ST X c mc) (ha : SE X a ma) (hb : SE X b mb) : SE X (.IfExp c a b pos) (eIf mc ma mb) := (pe_ifExp hc ha hb).of fun σ H Q ⟨W, fs, μ, v, μ', hW, S, e, q⟩ => by
  unfold eIf at e
  split at e
  · rename_i μ1 e1
    exact ⟨W, fs, μ, _, _, hW, S, e1, fun W' x c => iteT (by
      exact ⟨W', fs, _, _, _, rfl, S.ext x c, e, fun W2 w x2 c2 r => q W2 w (x.trans x2) c2 r⟩)⟩
  · rename_i μ1 e1
    exact ⟨W, fs, μ, _, _, hW, S, e1, fun W' x c => iteF (by
      exact ⟨W', fs, _, _, _, rfl, S.ext x c, e, fun W2 w x2 c2 r => q W2 w (x.trans x2) c2 r⟩)⟩
  · cases e

/-! ### arguments, tuples, new lists -/
def aNil : MA := fun _ μ => some ([], μ)
def aCons (a : ME) (r : MA) : MA := fun fs μ => match a fs μ with
  | some (v, μ1) => match r fs μ1 with
    | some (vs, μ2) => some (v :: vs, μ2)
    | none => none
  | none => none
theorem sa_nil : SA X [] aNil := pa_nil.of fun σ H Q ⟨W, fs, μ, v, μ', hW, S, e, q⟩ => by
  unfold aNil at e
  cases e
  show Q [] H
  rw [← hW]
  exact q W _ (Ext.refl W) S.cells .nil
theorem sa_cons (ha : SE X a ma) (hr : SA X es mr) (hs : starEach (a :: es) X.env = (false, eval a X.env) :: starEach es X.env := by rfl) : SA X (a :: es) (aCons ma mr) := (pa_cons ha hr hs).of fun σ H Q ⟨W, fs, μ, v, μ', hW, S, e, q⟩ => by
  unfold aCons at e
  split at e
  · rename_i v1 μ1 e1
    split at e
    · rename_i vs μ2 e2
      cases e
      exact ⟨W, fs, μ, _, _, hW, S, e1, fun W' w x c r => ⟨W', fs, _, _, _, rfl, S.ext x c, e2, fun W2 ws x2 c2 r2 => q W2 _ (x.trans x2) c2 (.cons (Rp.mono x2.exs _ r) r2)⟩⟩
    · cases e
  · cases e
def eTup (m : MA) : ME := fun fs μ => match m fs μ with
  | some (vs, μ') => if vs.length ≤ sizeLine then some (.tup vs, μ') else none
  | none => none
theorem se_tup {k : Nat} (h : SA X es mr) : SE X (.Tuple es k pos) (eTup mr) := (pe_tup h).of fun σ H Q ⟨W, fs, μ, v, μ', hW, S, e, q⟩ => by
  unfold eTup at e
  split at e
  · rename_i vs μ1 e1
    split at e
    · rename_i hl
      cases e
      exact ⟨W, fs, μ, _, _, hW, S, e1, fun W' ws x c r => ⟨by rw [r.length]; exact hl, fun p hp => q _ _ (x.trans (W'.grow_newT p _ hp).ext) (c.grow (W'.grow_newT p _ hp)) (W'.rp_newT p hp r)⟩⟩
    · cases e
  · cases e
/-- a new list, which stands at p in the later world: its meaning is its items -/
def rdF (K : PySem.W.Frag) (mg : Str → Option Value) (m : MA) : TE := fun σ H Q => ∃ W fs μ xs μ', W.H = H ∧ Se K mg W fs μ σ ∧ m fs μ = some (xs, μ') ∧
  ∀ W' p vs, Ext W W' → Cs K mg W' μ' → RpL K mg W' vs xs → W'.H p = some (.lst vs) → p ∉ W'.φ → ¬ W'.fz p → W.H p = none → Q (.ref p) W'.H
abbrev SF (X : Cx) (e : Expr) (m : MA) : Prop := PE X e (rdF X.K X.mg m)
theorem Wd.none_fz {W : Wd} {p : Addr} (hp : W.H p = none) : ¬ W.fz p := fun z => by
  obtain ⟨_, ys, e⟩ := W.fl p z
  rw [hp] at e; cases e
theorem Wd.none_phi {W : Wd} {p : Addr} (hp : W.H p = none) : p ∉ W.φ := fun z => by
  obtain ⟨ys, e⟩ := W.cl p z
  rw [hp] at e; cases e
theorem Ext.old_none {A B : Wd} (x : Ext A B) {a : Addr} (h : B.H a = none) : A.H a = none := x.dom a h
theorem new_list {K : PySem.W.Frag} {mg : Str → Option Value} {W W' : Wd} {μ : Mu} {xs : List Va} {vs : List V} {p : Addr} {Q : VK}
    (q : ∀ W' p vs, Ext W W' → Cs K mg W' μ → RpL K mg W' vs xs → W'.H p = some (.lst vs) → p ∉ W'.φ → ¬ W'.fz p → W.H p = none → Q (.ref p) W'.H)
    (x : Ext W W') (c : Cs K mg W' μ) (r : RpL K mg W' vs xs) (hp : W'.H p = none) : Q (.ref p) (upd W'.H p (.lst vs)) := by
  have g := W'.grow_newT p (.lst vs) hp
  exact q (W'.newT p (.lst vs) hp) p vs (x.trans g.ext) (c.grow g) (RpL.mono g.ext.exs _ r) upd_same (show p ∉ W'.φ from Wd.none_phi hp) (show ¬ W'.fz p from Wd.none_fz hp) (x.old_none hp)
def eFrz (m : MA) : ME := fun fs μ => match m fs μ with
  | some (xs, μ') => some (.lst xs, μ')
  | none => none
/-- one list is frozen -/
def Wd.fz1 (W : Wd) (p : Addr) (vs : List V) (h : W.H p = some (.lst vs)) (n : p ∉ W.φ) : Wd where
  φ := W.φ
  fz := fun a => W.fz a ∨ a = p
  H := W.H
  nd := W.nd
  cl := W.cl
  fl := fun a z => by
    rcases z with z | rfl
    · exact W.fl a z
    · exact ⟨n, vs, h⟩
theorem se_frz (h : SF X a mr) : SE X a (eFrz mr) := h.of fun σ H Q ⟨W, fs, μ, v, μ', hW, S, e, q⟩ => by
  unfold eFrz at e
  split at e
  · rename_i xs μ1 e1
    cases e
    refine ⟨W, fs, μ, _, _, hW, S, e1, fun W' p vs x c r hp n1 n2 h0 => ?_⟩
    have y : Exs W' (W'.fz1 p vs hp n1) := ⟨⟨[], by simp [Wd.fz1]⟩, fun _ z => .inl z, fun _ _ _ e => e, fun _ _ e => e, fun _ _ _ e => e⟩
    refine q (W'.fz1 p vs hp n1) _ ⟨x.dom, x.phi, x.phin, fun a z => .inl (x.fzm a z), fun a z => ?_, x.keep⟩ ⟨c.len, fun n ys e => ?_, c.tabs⟩ (.lst (.inr rfl) hp (RpL.mono y _ r))
    · rcases z with z | rfl
      · exact x.fzn a z
      · exact .inr h0
    · obtain ⟨b, us, k1, k2, k3⟩ := c.at_ n ys e
      exact ⟨b, us, k1, k2, RpL.mono y _ k3⟩
  · cases e
def aLst (m : MA) : MA := fun fs μ => match m fs μ with
  | some (vs, μ') => if vs.length ≤ sizeLine then some (vs, μ') else none
  | none => none
theorem sf_lst (h : SA X es mr) : SF X (.List es pos) (aLst mr) := (pe_lst h).of fun σ H Q ⟨W, fs, μ, v, μ', hW, S, e, q⟩ => by
  unfold aLst at e
  split at e
  · rename_i vs μ1 e1
    split at e
    · rename_i hl
      cases e
      exact ⟨W, fs, μ, _, _, hW, S, e1, fun W' ws x c r => ⟨by rw [r.length]; exact hl, fun p hp => new_list q x c r hp⟩⟩
    · cases e
  · cases e

/-! ### places and cuts -/
def gIdx : Mu → Va → Va → Option Va := fun μ x i => match look μ x, i with
  | .lst xs, .int i => atI xs i
  | .tup xs, .int i => atI xs i
  | .scr ns, .int i => (atI ns i).map .int
  | _, _ => none
theorem atI_rp {K : PySem.W.Frag} {mg : Str → Option Value} {W : Wd} {vs : List V} {ds : List Va} {i : Int} {d : Va} (r : RpL K mg W vs ds) (e : atI ds i = some d) : ∃ v, atI vs i = some v ∧ Rp K mg W v d := by
  unfold atI at e ⊢
  rw [r.length]
  cases h : ixN ds.length i with
  | none => rw [h] at e; cases e
  | some j =>
    rw [h] at e
    obtain ⟨v, h1, h2⟩ := r.get (show ds[j]? = some d from e)
    exact ⟨v, h1, h2⟩
theorem atI_map {ns : List Int} {i : Int} {k : Int} (e : atI ns i = some k) : atI (ns.map V.int) i = some (.int k) := by
  unfold atI at e ⊢
  rw [List.length_map]
  cases h : ixN ns.length i with
  | none => rw [h] at e; cases e
  | some j =>
    rw [h] at e
    have e' : ns[j]? = some k := e
    show (ns.map V.int)[j]? = some (.int k)
    rw [List.getElem?_map, e']
    rfl
theorem look_cases {K : PySem.W.Frag} {mg : Str → Option Value} {W : Wd} {μ : Mu} {y : V} {dy : Va} (c : Cs K mg W μ) (r : Rp K mg W y dy) :
    (∃ a vs xs, look μ dy = .lst xs ∧ y = .ref a ∧ W.H a = some (.lst vs) ∧ RpL K mg W vs xs) ∨ (look μ dy = dy ∧ ∀ xs, dy ≠ .lst xs) := by
  cases r with
  | lst h0 h1 h2 => exact .inl ⟨_, _, _, rfl, rfl, h1, h2⟩
  | loc h1 =>
    rename_i a n
    cases hx : μ[n]? with
    | some xs =>
      obtain ⟨a', vs, k1, k2, k3⟩ := c.at_ n xs hx
      rw [h1] at k1
      cases k1
      exact .inl ⟨_, _, _, by simp only [look, hx], rfl, k2, k3⟩
    | none => exact .inr ⟨by simp only [look, hx], fun xs z => nomatch z⟩
  | _ => exact .inr ⟨rfl, fun xs z => nomatch z⟩
def eIdx (a b : ME) : ME := eBin gIdx a b
theorem se_idx (ha : SE X a ma) (hb : SE X b mb) (hs : PlainIx b := by intro _ _; rfl) : SE X (.Subscript a b pos) (eIdx ma mb) :=
  (pe_ix ix_seq ha hb hs).of fun σ H Q h => rd_bin (fun W μ x y dx dy v Q c rx ry e q => by
    unfold gIdx at e
    cases ry with
    | int i =>
      rcases look_cases c rx with ⟨a, vs, xs, e1, rfl, h1, h2⟩ | ⟨e1, hn⟩
      · rw [e1] at e
        obtain ⟨w, h3, h4⟩ := atI_rp h2 (show atI xs i = some v from e)
        exact .inl ⟨_, _, _, _, rfl, rfl, .inl (.inl h1), h3, q W _ (Grow.refl W) h4⟩
      · rw [e1] at e
        cases rx with
        | tup k1 k2 =>
          obtain ⟨w, h3, h4⟩ := atI_rp k2 e
          exact .inr (.inl ⟨_, _, _, _, rfl, rfl, k1, h3, q W _ (Grow.refl W) h4⟩)
        | scr k1 =>
          simp only [Option.map_eq_some_iff] at e
          obtain ⟨k, e2, rfl⟩ := e
          exact .inl ⟨_, _, _, _, rfl, rfl, k1.seq, atI_map e2, q W _ (Grow.refl W) (.int _)⟩
        | lst => exact absurd rfl (hn _)
        | _ => simp at e
    | _ => split at e <;> simp_all) h
def cutA (xs : List Va) (lo hi : Option Int) : List Va := (xs.drop (HT.sIx xs.length 0 lo)).take (HT.sIx xs.length xs.length hi - HT.sIx xs.length 0 lo)
theorem cut_rp {K : PySem.W.Frag} {mg : Str → Option Value} {W : Wd} {vs : List V} {ds : List Va} (r : RpL K mg W vs ds) (lo hi : Option Int) : RpL K mg W (cutV vs lo hi) (cutA ds lo hi) := by
  unfold cutV cutA
  rw [r.length]
  exact (r.drop _).take _
abbrev MO := Fs → Mu → Option (Option Int × Mu)
def oNone : MO := fun _ μ => some (none, μ)
def oSome (m : ME) : MO := fun fs μ => match m fs μ with
  | some (.int i, μ') => some (some i, μ')
  | _ => none
def rdO (K : PySem.W.Frag) (mg : Str → Option Value) (m : MO) : TO := fun σ H Q => ∃ W fs μ o μ', W.H = H ∧ Se K mg W fs μ σ ∧ m fs μ = some (o, μ') ∧ ∀ W', Ext W W' → Cs K mg W' μ' → Q o W'.H
abbrev SO (X : Cx) (e : Option Expr) (m : MO) : Prop := PO X e (rdO X.K X.mg m)
theorem so_none : SO X none oNone := ⟨fun pins s σ H Q I ⟨W, fs, μ, o, μ', hW, S, e, q⟩ => po_none.run pins s σ H Q I (by
  unfold oNone at e
  cases e
  show Q none H
  rw [← hW]
  exact q W (Ext.refl W) S.cells)⟩
theorem so_some (h : SE X a ma) : SO X (some a) (oSome ma) := ⟨fun pins s σ H Q I ⟨W, fs, μ, o, μ', hW, S, e, q⟩ => (po_some h).run pins s σ H Q I (by
  unfold oSome at e
  split at e
  · rename_i i μ1 e1
    cases e
    exact ⟨W, fs, μ, _, _, hW, S, e1, fun W' w x c r => by
      cases r
      exact ⟨_, rfl, q W' x c⟩⟩
  · cases e)⟩
def eSl (a : ME) (lo hi : MO) : ME := fun fs μ => match a fs μ with
  | some (x, μ1) => match lo fs μ1 with
    | some (l, μ2) => match hi fs μ2 with
      | some (h, μ3) => match x with
        | .lst xs => some (.lst (cutA xs l h), μ3)
        | .tup xs => some (.tup (cutA xs l h), μ3)
        | _ => none
      | none => none
    | none => none
  | none => none
theorem cutA_whole (xs : List Va) (lo hi : Option Int) (h : HT.sIx xs.length 0 lo = 0 ∧ HT.sIx xs.length xs.length hi = xs.length) : cutA xs lo hi = xs := by
  unfold cutA
  rw [h.1, h.2, List.drop_zero, Nat.sub_zero, List.take_length]
theorem se_sl {lo hi : Option Expr} {ml mh : MO} {p2 : Pos} (ha : SE X a ma) (hl : SO X lo ml) (hh : SO X hi mh) : SE X (.Subscript a (.Slice lo hi none p2) pos) (eSl ma ml mh) :=
  (pe_slice ((sl_list (X := X)).or (sl_tupA (X := X))) ha hl hh).of fun σ H Q ⟨W, fs, μ, v, μ', hW, S, e, q⟩ => by
    unfold eSl at e
    split at e
    · rename_i x μ1 e1
      split at e
      · rename_i l μ2 e2
        split at e
        · rename_i h μ3 e3
          refine ⟨W, fs, μ, _, _, hW, S, e1, fun W1 w1 x1 c1 r1 => ⟨W1, fs, _, _, _, rfl, S.ext x1 c1, e2, fun W2 x2 c2 => ⟨W2, fs, _, _, _, rfl, S.ext (x1.trans x2) c2, e3, fun W3 x3 c3 => ?_⟩⟩⟩
          have r3 := Rp.mono (x2.trans x3).exs _ r1
          split at e
          · cases e
            cases r3 with
            | lst h0 h1 h2 =>
              exact .inl ⟨_, _, rfl, .inl (.inl h1), fun p hp => q _ _ (((x1.trans x2).trans x3).trans (W3.grow_newL p _ hp).ext) (c3.grow (W3.grow_newL p _ hp)) (W3.rp_newL p hp (cut_rp h2 l h))⟩
          · cases e
            cases r3 with
            | tup h1 h2 =>
              refine .inr ⟨_, _, rfl, h1, fun z => ?_, fun z p hp => ?_⟩
              · rw [h2.length] at z
                rw [cutA_whole _ _ _ z] at q
                exact q W3 _ ((x1.trans x2).trans x3) c3 (.tup h1 h2)
              · exact q _ _ (((x1.trans x2).trans x3).trans (W3.grow_newT p _ hp).ext) (c3.grow (W3.grow_newT p _ hp)) (W3.rp_newT p hp (cut_rp h2 l h))
          · cases e
        · cases e
      · cases e
    · cases e
/-- xs[::-1] -/
def eRev (a : ME) : ME := fun fs μ => match a fs μ with
  | some (.lst xs, μ1) => some (.lst xs.reverse, μ1)
  | _ => none
theorem se_rev {k : Nat} {p1 p2 p3 : Pos} (ha : SE X a ma) : SE X (.Subscript a (.Slice none none (some (.UnaryOp .USub (.Constant (.int 1) k p1) p2)) p3) pos) (eRev ma) := (pe_revL ha).of fun σ H Q ⟨W, fs, μ, v, μ', hW, S, e, q⟩ => by
  unfold eRev at e
  split at e
  · rename_i xs μ1 e1
    cases e
    exact ⟨W, fs, μ, _, _, hW, S, e1, fun W' w x c r => by
      cases r with
      | lst h0 h1 h2 => exact ⟨_, _, rfl, .inl (.inl h1), fun p hp => q _ _ (x.trans (W'.grow_newL p _ hp).ext) (c.grow (W'.grow_newL p _ hp)) (W'.rp_newL p hp h2.reverse)⟩⟩
  · cases e

/-! ### built-in functions -/
def CalS (X : Cx) (f : Value) (g : Mu → List Va → Option Va) : Prop :=
  ∃ r, CallR X f r ∧ ∀ (W : Wd) (μ : Mu) (vs : List V) (ds : List Va) (v : Va) (Q : VK), Cs X.K X.mg W μ → RpL X.K X.mg W vs ds → g μ ds = some v → (∀ W' w, Grow W W' → Rp X.K X.mg W' w v → Q w W'.H) → r vs W.H Q
def CalF (X : Cx) (f : Value) (g : Mu → List Va → Option (List Va)) : Prop :=
  ∃ r, CallR X f r ∧ ∀ (W : Wd) (μ : Mu) (vs : List V) (ds : List Va) (xs : List Va) (Q : VK), Cs X.K X.mg W μ → RpL X.K X.mg W vs ds → g μ ds = some xs →
    (∀ W' p ws, Grow W W' → RpL X.K X.mg W' ws xs → W'.H p = none → ws.length ≤ sizeLine → Q (.ref p) (upd W'.H p (.lst ws))) → r vs W.H Q
def eCal (g : Mu → List Va → Option Va) (m : MA) : ME := fun fs μ => match m fs μ with
  | some (ds, μ1) => match g μ1 ds with
    | some v => some (v, μ1)
    | none => none
  | none => none
def aCal (g : Mu → List Va → Option (List Va)) (m : MA) : MA := fun fs μ => match m fs μ with
  | some (ds, μ1) => match g μ1 ds with
    | some v => some (v, μ1)
    | none => none
  | none => none
variable {x : Str} {p : Pos} {id T : String}
theorem rd_cal {K : PySem.W.Frag} {mg : Str → Option Value} {r : List V → Hp → VK → Prop} {g : Mu → List Va → Option Va}
    (hr : ∀ (W : Wd) (μ : Mu) (vs : List V) (ds : List Va) (v : Va) (Q : VK), Cs K mg W μ → RpL K mg W vs ds → g μ ds = some v → (∀ W' w, Grow W W' → Rp K mg W' w v → Q w W'.H) → r vs W.H Q)
    {σ : L2.St} {H : Hp} {Q : VK} (h : rdE K mg (eCal g mr) σ H Q) : tCB r (rdA K mg mr) σ H Q := by
  obtain ⟨W, fs, μ, v, μ', hW, S, e, q⟩ := h
  unfold eCal at e
  split at e
  · rename_i ds μ1 e1
    split at e
    · rename_i v0 e2
      cases e
      exact ⟨W, fs, μ, _, _, hW, S, e1, fun W' ws x c rr => hr W' _ ws ds v Q c rr e2 fun W2 w g2 r2 => q W2 w (x.trans g2.ext) (c.grow g2) r2⟩
    · cases e
  · cases e
theorem rd_calF {K : PySem.W.Frag} {mg : Str → Option Value} {r : List V → Hp → VK → Prop} {g : Mu → List Va → Option (List Va)}
    (hr : ∀ (W : Wd) (μ : Mu) (vs : List V) (ds : List Va) (xs : List Va) (Q : VK), Cs K mg W μ → RpL K mg W vs ds → g μ ds = some xs →
      (∀ W' p ws, Grow W W' → RpL K mg W' ws xs → W'.H p = none → ws.length ≤ sizeLine → Q (.ref p) (upd W'.H p (.lst ws))) → r vs W.H Q)
    {σ : L2.St} {H : Hp} {Q : VK} (h : rdF K mg (aCal g mr) σ H Q) : tCB r (rdA K mg mr) σ H Q := by
  obtain ⟨W, fs, μ, v, μ', hW, S, e, q⟩ := h
  unfold aCal at e
  split at e
  · rename_i ds μ1 e1
    split at e
    · rename_i v0 e2
      cases e
      exact ⟨W, fs, μ, _, _, hW, S, e1, fun W' ws x c rr => hr W' _ ws ds v Q c rr e2 fun W2 p w g2 r2 h1 h2 => new_list q (x.trans g2.ext) (c.grow g2) r2 h1⟩
    · cases e
  · cases e
theorem se_call {g : Mu → List Va → Option Va} (hc : CalS X (.builtin id) g) (hg : Gl X x) (hm : X.mg x = none) (hv : bootBuiltins x = some (.builtin id)) (ha : SA X (a :: es) mr) (hn : x ≠ "__name__" := by decide) (hdb : (x == ("__debug__" : Str)) = false := by decide)
    (he : starEach (a :: es) X.env = (false, eval a X.env) :: starEach es X.env := by rfl) (hpl : (backTo pos (starEach es X.env)).any (·.1) = false := by rfl) : SE X (.Call (.Name x p) (a :: es) [] pos) (eCal g mr) := by
  obtain ⟨r, h1, h2⟩ := hc
  exact (pe_callB h1 hg hm hv ha hn hdb he hpl).of fun σ H Q h => rd_cal h2 h
theorem se_callT {g : Mu → List Va → Option Va} (hc : CalS X (.type T) g) (hg : Gl X x) (hm : X.mg x = none) (hv : bootBuiltins x = some (.type T)) (ha : SA X (a :: es) mr) (hn : x ≠ "__name__" := by decide) (hdb : (x == ("__debug__" : Str)) = false := by decide)
    (he : starEach (a :: es) X.env = (false, eval a X.env) :: starEach es X.env := by rfl) (hpl : (backTo pos (starEach es X.env)).any (·.1) = false := by rfl) : SE X (.Call (.Name x p) (a :: es) [] pos) (eCal g mr) := by
  obtain ⟨r, h1, h2⟩ := hc
  exact (pe_callTy h1 hg hm hv ha hn hdb he hpl).of fun σ H Q h => rd_cal h2 h
theorem sf_call {g : Mu → List Va → Option (List Va)} (hc : CalF X (.builtin id) g) (hg : Gl X x) (hm : X.mg x = none) (hv : bootBuiltins x = some (.builtin id)) (ha : SA X (a :: es) mr) (hn : x ≠ "__name__" := by decide) (hdb : (x == ("__debug__" : Str)) = false := by decide)
    (he : starEach (a :: es) X.env = (false, eval a X.env) :: starEach es X.env := by rfl) (hpl : (backTo pos (starEach es X.env)).any (·.1) = false := by rfl) : SF X (.Call (.Name x p) (a :: es) [] pos) (aCal g mr) := by
  obtain ⟨r, h1, h2⟩ := hc
  exact (pe_callB h1 hg hm hv ha hn hdb he hpl).of fun σ H Q h => rd_calF h2 h
theorem sf_callT {g : Mu → List Va → Option (List Va)} (hc : CalF X (.type T) g) (hg : Gl X x) (hm : X.mg x = none) (hv : bootBuiltins x = some (.type T)) (ha : SA X (a :: es) mr) (hn : x ≠ "__name__" := by decide) (hdb : (x == ("__debug__" : Str)) = false := by decide)
    (he : starEach (a :: es) X.env = (false, eval a X.env) :: starEach es X.env := by rfl) (hpl : (backTo pos (starEach es X.env)).any (·.1) = false := by rfl) : SF X (.Call (.Name x p) (a :: es) [] pos) (aCal g mr) := by
  obtain ⟨r, h1, h2⟩ := hc
  exact (pe_callTy h1 hg hm hv ha hn hdb he hpl).of fun σ H Q h => rd_calF h2 h
/-- len -/
def gLen : Mu → List Va → Option Va := fun μ ds => match ds with
  | [d] => match look μ d with
    | .lst xs => some (.int xs.length)
    | .tup xs => some (.int xs.length)
    | .scr ns => some (.int ns.length)
    | .str x => if x.length ≤ sizeLine then some (.int x.length) else none
    | _ => none
  | _ => none
theorem RpL.one {K : PySem.W.Frag} {mg : Str → Option Value} {W : Wd} {vs : List V} {d : Va} (r : RpL K mg W vs [d]) : ∃ v, vs = [v] ∧ Rp K mg W v d := by
  cases r with
  | cons h t => cases t; exact ⟨_, rfl, h⟩
theorem RpL.two {K : PySem.W.Frag} {mg : Str → Option Value} {W : Wd} {vs : List V} {d e : Va} (r : RpL K mg W vs [d, e]) : ∃ v w, vs = [v, w] ∧ Rp K mg W v d ∧ Rp K mg W w e := by
  cases r with
  | cons h t => cases t with
    | cons h2 t => cases t; exact ⟨_, _, rfl, h, h2⟩
theorem cs_len : CalS X (.builtin "len") gLen := by
  refine ⟨_, (call_len_seq (X := X)).or (call_len_str (X := X)), fun W μ vs ds v Q c r e q => ?_⟩
  unfold gLen at e
  split at e
  · rename_i d
    obtain ⟨w, rfl, rw'⟩ := r.one
    rcases look_cases c rw' with ⟨a, us, xs, e1, rfl, h1, h2⟩ | ⟨e1, hn⟩
    · rw [e1] at e
      cases e
      refine .inl ⟨_, _, rfl, .inl (.inl (.inl h1)), ?_⟩
      rw [h2.length]
      exact q W _ (Grow.refl W) (.int _)
    · rw [e1] at e
      cases rw' with
      | tup k1 k2 =>
        cases e
        refine .inl ⟨_, _, rfl, .inr k1, ?_⟩
        rw [k2.length]
        exact q W _ (Grow.refl W) (.int _)
      | scr k1 =>
        cases e
        refine .inl ⟨_, _, rfl, .inl k1.seq, ?_⟩
        rw [List.length_map]
        exact q W _ (Grow.refl W) (.int _)
      | str x =>
        simp only at e
        split at e
        · rename_i hl
          cases e
          exact .inr ⟨_, rfl, hl, q W _ (Grow.refl W) (.int _)⟩
        · cases e
      | lst => exact absurd rfl (hn _)
      | _ => simp at e
  · cases e
/-- list(x), tuple(x) -/
def gList : Mu → List Va → Option (List Va) := fun μ ds => match ds with
  | [d] => match look μ d with
    | .lst xs => some xs
    | .tup xs => some xs
    | _ => none
  | _ => none
def gTuple : Mu → List Va → Option Va := fun μ ds => (gList μ ds).map .tup
theorem rpl_size {K : PySem.W.Frag} {W : Wd} {pins : List (Addr × Obj)} {σ : L2.St} {s : Shared} {a : Addr} {vs : List V} (I : Inv X pins σ W.H s) (h : SqL X.K W.H a vs ∨ SqT X.K W.H a vs) : vs.length ≤ sizeLine := by
  rcases h with h | h
  · obtain ⟨_, _, _, hz⟩ := I.list h; exact hz
  · obtain ⟨_, _, _, hz⟩ := I.tuple h; exact hz
theorem call_list_len : CallR X (.type "list") (fun xs H Q => ∃ p ys, xs = [.ref p] ∧ (SqL X.K H p ys ∨ SqT X.K H p ys) ∧ (ys.length ≤ sizeLine → ∀ l, H l = none → Q (.ref l) (upd H l (.lst ys)))) := by
  intro pins s σ H xs us Q I r h
  obtain ⟨p, ys, rfl, hs, q⟩ := h
  have hz : ys.length ≤ sizeLine := by
    rcases hs with h | h
    · obtain ⟨_, _, _, hz⟩ := I.list h; exact hz
    · obtain ⟨_, _, _, hz⟩ := I.tuple h; exact hz
  exact call_list_of pins s σ H _ us Q I r ⟨p, ys, rfl, hs, q hz⟩
theorem cf_list : CalF X (.type "list") gList := by
  refine ⟨_, call_list_len, fun W μ vs ds xs Q c r e q => ?_⟩
  unfold gList at e
  split at e
  · rename_i d
    obtain ⟨w, rfl, rw'⟩ := r.one
    rcases look_cases c rw' with ⟨a, us, ys, e1, rfl, h1, h2⟩ | ⟨e1, hn⟩
    · rw [e1] at e
      cases e
      exact ⟨_, _, rfl, .inl (.inl (.inl h1)), fun hz p hp => q W p us (Grow.refl W) h2 hp hz⟩
    · rw [e1] at e
      cases rw' with
      | tup k1 k2 =>
        cases e
        exact ⟨_, _, rfl, .inr k1, fun hz p hp => q W p _ (Grow.refl W) k2 hp hz⟩
      | lst => exact absurd rfl (hn _)
      | _ => simp at e
  · cases e
theorem cs_tuple : CalS X (.type "tuple") gTuple := by
  refine ⟨_, call_tuple_of, fun W μ vs ds v Q c r e q => ?_⟩
  unfold gTuple gList at e
  simp only [Option.map_eq_some_iff] at e
  obtain ⟨xs, e, rfl⟩ := e
  split at e
  · rename_i d
    obtain ⟨w, rfl, rw'⟩ := r.one
    rcases look_cases c rw' with ⟨a, us, ys, e1, rfl, h1, h2⟩ | ⟨e1, hn⟩
    · rw [e1] at e
      cases e
      exact ⟨_, _, rfl, .inl ⟨.inl (.inl h1), fun p hp => q _ _ (W.grow_newT p _ hp) (W.rp_newT p hp h2)⟩⟩
    · rw [e1] at e
      cases rw' with
      | tup k1 k2 =>
        cases e
        exact ⟨_, _, rfl, .inr ⟨k1, q W _ (Grow.refl W) (.tup k1 k2)⟩⟩
      | lst => exact absurd rfl (hn _)
      | _ => simp at e
  · cases e
/-- sum of ints, any and all of bools -/
def intsOf : List Va → Option (List Int)
  | [] => some []
  | .int i :: r => (intsOf r).map (i :: ·)
  | _ :: _ => none
def boolsOf : List Va → Option (List Bool)
  | [] => some []
  | .bl i :: r => (boolsOf r).map (i :: ·)
  | _ :: _ => none
theorem intsOf_rp {K : PySem.W.Frag} {mg : Str → Option Value} {W : Wd} : ∀ {vs : List V} {ds : List Va} {ns : List Int}, RpL K mg W vs ds → intsOf ds = some ns → vs = ns.map V.int
  | _, [], ns, h, e => by cases h; simp only [intsOf, Option.some.injEq] at e; subst e; rfl
  | _, .int i :: r, ns, h, e => by
    simp only [intsOf, Option.map_eq_some_iff] at e
    obtain ⟨ms, e, rfl⟩ := e
    cases h with
    | cons h1 h2 => cases h1; rw [intsOf_rp h2 e]; rfl
  | _, .non :: _, ns, h, e => by simp [intsOf] at e
  | _, .bl _ :: _, ns, h, e => by simp [intsOf] at e
  | _, .str _ :: _, ns, h, e => by simp [intsOf] at e
  | _, .tup _ :: _, ns, h, e => by simp [intsOf] at e
  | _, .lst _ :: _, ns, h, e => by simp [intsOf] at e
  | _, .loc _ :: _, ns, h, e => by simp [intsOf] at e
  | _, .fn _ :: _, ns, h, e => by simp [intsOf] at e
  | _, .scr _ :: _, ns, h, e => by simp [intsOf] at e
theorem boolsOf_rp {K : PySem.W.Frag} {mg : Str → Option Value} {W : Wd} : ∀ {vs : List V} {ds : List Va} {ns : List Bool}, RpL K mg W vs ds → boolsOf ds = some ns → vs = ns.map V.bl
  | _, [], ns, h, e => by cases h; simp only [boolsOf, Option.some.injEq] at e; subst e; rfl
  | _, .bl i :: r, ns, h, e => by
    simp only [boolsOf, Option.map_eq_some_iff] at e
    obtain ⟨ms, e, rfl⟩ := e
    cases h with
    | cons h1 h2 => cases h1; rw [boolsOf_rp h2 e]; rfl
  | _, .non :: _, ns, h, e => by simp [boolsOf] at e
  | _, .int _ :: _, ns, h, e => by simp [boolsOf] at e
  | _, .str _ :: _, ns, h, e => by simp [boolsOf] at e
  | _, .tup _ :: _, ns, h, e => by simp [boolsOf] at e
  | _, .lst _ :: _, ns, h, e => by simp [boolsOf] at e
  | _, .loc _ :: _, ns, h, e => by simp [boolsOf] at e
  | _, .fn _ :: _, ns, h, e => by simp [boolsOf] at e
  | _, .scr _ :: _, ns, h, e => by simp [boolsOf] at e
def gSum : Mu → List Va → Option Va := fun _ ds => match ds with
  | [.lst xs] => (intsOf xs).map fun ns => .int ns.sum
  | _ => none
def gAny : Mu → List Va → Option Va := fun _ ds => match ds with
  | [.lst xs] => (boolsOf xs).map fun bs => .bl (bs.any fun z => z)
  | _ => none
def gAll : Mu → List Va → Option Va := fun _ ds => match ds with
  | [.lst xs] => (boolsOf xs).map fun bs => .bl (bs.all fun z => z)
  | _ => none
theorem cs_sum (hc : X.calm = true) : CalS X (.builtin "sum") gSum := by
  refine ⟨_, cr_sum hc, fun W μ vs ds v Q c r e q => ?_⟩
  unfold gSum at e
  split at e
  · rename_i xs
    obtain ⟨w, rfl, r1⟩ := r.one
    simp only [Option.map_eq_some_iff] at e
    obtain ⟨ns, e, rfl⟩ := e
    cases r1 with
    | lst h0 h1 h2 =>
      rw [intsOf_rp h2 e] at h1
      exact ⟨_, ns, rfl, .inl (.inl h1), q W _ (Grow.refl W) (.int _)⟩
  · cases e
theorem cs_any (hc : X.calm = true) : CalS X (.builtin "any") gAny := by
  refine ⟨_, cr_any hc, fun W μ vs ds v Q c r e q => ?_⟩
  unfold gAny at e
  split at e
  · rename_i xs
    obtain ⟨w, rfl, r1⟩ := r.one
    simp only [Option.map_eq_some_iff] at e
    obtain ⟨ns, e, rfl⟩ := e
    cases r1 with
    | lst h0 h1 h2 =>
      rw [boolsOf_rp h2 e] at h1
      exact ⟨_, ns, rfl, .inl (.inl h1), q W _ (Grow.refl W) (.bl _)⟩
  · cases e
theorem cs_all (hc : X.calm = true) : CalS X (.builtin "all") gAll := by
  refine ⟨_, cr_all hc, fun W μ vs ds v Q c r e q => ?_⟩
  unfold gAll at e
  split at e
  · rename_i xs
    obtain ⟨w, rfl, r1⟩ := r.one
    simp only [Option.map_eq_some_iff] at e
    obtain ⟨ns, e, rfl⟩ := e
    cases r1 with
    | lst h0 h1 h2 =>
      rw [boolsOf_rp h2 e] at h1
      exact ⟨_, ns, rfl, .inl (.inl h1), q W _ (Grow.refl W) (.bl _)⟩
  · cases e
/-- int(n) -/
def gInt1 : Mu → List Va → Option Va := fun _ ds => match ds with
  | [.int i] => some (.int i)
  | [.bl b] => some (.int (if b then 1 else 0))
  | _ => none
theorem cs_int : CalS X (.type "int") gInt1 := by
  refine ⟨_, call_int1, fun W μ vs ds v Q c r e q => ?_⟩
  unfold gInt1 at e
  split at e
  · cases e
    obtain ⟨w, rfl, r1⟩ := r.one
    cases r1
    exact .inl ⟨_, rfl, q W _ (Grow.refl W) (.int _)⟩
  · cases e
    obtain ⟨w, rfl, r1⟩ := r.one
    cases r1
    exact .inr ⟨_, rfl, q W _ (Grow.refl W) (.int _)⟩
  · cases e
end
end Ev
end MEvC
section MEvD
/-! Ev, part D: statements, loops, functions. -/
namespace Ev
open PySem PySem.Spec PyProof.Rows L2

inductive Fl where
  | nx | bk | ct | rt (v : Va) | rf (xs : List Va)
abbrev MS := Fs → Mu → Option (Fl × Fs × Mu)

structure Sm (K : PySem.W.Frag) (mg : Str → Option Value) (W0 W : Wd) (fs : Fs) (μ : Mu) (σ : L2.St) : Prop where
  ext : Ext W0 W
  len : fs.length = σ.length
  se : Se K mg W fs μ σ
  new : ∀ (i : Nat) xs a, fs[i]? = some (.own xs) → σ[i]? = some (some (.ref a)) → W0.H a = none
  dist : ∀ (i j : Nat) xs ys a, i ≠ j → fs[i]? = some (.own xs) → fs[j]? = some (.own ys) → σ[i]? = some (some (.ref a)) → σ[j]? ≠ some (some (.ref a))
def EndOk (K : PySem.W.Frag) (mg : Str → Option Value) (W0 W : Wd) (fl : Fl) (fs' : Fs) (μ' : Mu) (D : Ends) : Prop := match fl with
  | .nx => ∀ W' σ', Exs W W' → Sm K mg W0 W' fs' μ' σ' → D.nx σ' W'.H
  | .bk => ∀ W' σ', Exs W W' → Sm K mg W0 W' fs' μ' σ' → D.bk σ' W'.H
  | .ct => ∀ W' σ', Exs W W' → Sm K mg W0 W' fs' μ' σ' → D.ct σ' W'.H
  | .rt v => ∀ W' w, Ext W0 W' → Cs K mg W' μ' → Rp K mg W' w v → D.rt w W'.H
  | .rf xs => ∀ W' p vs, Ext W0 W' → Cs K mg W' μ' → RpL K mg W' vs xs → W'.H p = some (.lst vs) → p ∉ W'.φ → ¬ W'.fz p → W0.H p = none → D.rt (.ref p) W'.H
def rdS (K : PySem.W.Frag) (mg : Str → Option Value) (m : MS) : TS := fun D σ H => ∃ W0 W fs μ fl fs' μ', W.H = H ∧ Sm K mg W0 W fs μ σ ∧ m fs μ = some (fl, fs', μ') ∧ EndOk K mg W0 W fl fs' μ' D
abbrev SS (X : Cx) (s : Stmt) (m : MS) : Prop := PS X s (rdS X.K X.mg m)
abbrev SSs (X : Cx) (s : List Stmt) (m : MS) : Prop := PSs X s (rdS X.K X.mg m)

section
variable {K : PySem.W.Frag} {mg : Str → Option Value} {W0 W W' : Wd} {fs fs' : Fs} {μ μ' : Mu} {σ : L2.St} {fl : Fl} {D : Ends}
theorem EndOk.mono (x : Exs W W') (h : EndOk K mg W0 W fl fs' μ' D) : EndOk K mg W0 W' fl fs' μ' D := by
  cases fl with
  | nx => exact fun W2 σ2 y s => h W2 σ2 (x.trans y) s
  | bk => exact fun W2 σ2 y s => h W2 σ2 (x.trans y) s
  | ct => exact fun W2 σ2 y s => h W2 σ2 (x.trans y) s
  | rt v => exact h
  | rf xs => exact h
theorem Sm.expr (S : Sm K mg W0 W fs μ σ) (x : Ext W W') (c : Cs K mg W' μ') : Sm K mg W0 W' fs μ' σ :=
  ⟨S.ext.trans x, S.len, S.se.ext x c, S.new, S.dist⟩
theorem get_set {α : Type} {l : List α} {i j : Nat} {x y : α} (h : (l.set i x)[j]? = some y) : (j = i ∧ y = x ∧ i < l.length) ∨ (j ≠ i ∧ l[j]? = some y) := by
  by_cases hj : j = i
  · subst hj
    by_cases hl : j < l.length
    · rw [List.getElem?_set_self hl] at h
      exact .inl ⟨rfl, (Option.some.inj h).symm, hl⟩
    · rw [List.getElem?_eq_none (by simpa using hl)] at h
      cases h
  · rw [List.getElem?_set_ne (Ne.symm hj)] at h
    exact .inr ⟨hj, h⟩
theorem Sm.set {i : Nat} {w : V} {v : Va} (S : Sm K mg W0 W fs μ σ) (r : Rp K mg W w v) : Sm K mg W0 W (fs.set i (.val v)) μ (σ.set i (some w)) where
  ext := S.ext
  len := by rw [List.length_set, List.length_set]; exact S.len
  se := by
    refine ⟨fun j u e => ?_, fun j xs e => ?_, S.se.cells⟩
    · rcases get_set e with ⟨rfl, e1, hl⟩ | ⟨hj, e⟩
      · cases e1
        exact ⟨w, List.getElem?_set_self (by rw [← S.len]; exact hl), r⟩
      · obtain ⟨w', h1, h2⟩ := S.se.vals j u e
        exact ⟨w', by rw [List.getElem?_set_ne (Ne.symm hj)]; exact h1, h2⟩
    · rcases get_set e with ⟨rfl, e1, hl⟩ | ⟨hj, e⟩
      · cases e1
      · obtain ⟨a, vs, h1, h2⟩ := S.se.owns j xs e
        exact ⟨a, vs, by rw [List.getElem?_set_ne (Ne.symm hj)]; exact h1, h2⟩
  new := fun j xs a e h => by
    rcases get_set e with ⟨rfl, e1, hl⟩ | ⟨hj, e⟩
    · cases e1
    · rw [List.getElem?_set_ne (Ne.symm hj)] at h
      exact S.new j xs a e h
  dist := fun j l xs ys a hjl e1 e2 h => by
    rcases get_set e1 with ⟨_, z, _⟩ | ⟨hj, e1⟩
    · cases z
    · rcases get_set e2 with ⟨_, z, _⟩ | ⟨hl, e2⟩
      · cases z
      · rw [List.getElem?_set_ne (Ne.symm hj)] at h
        rw [List.getElem?_set_ne (Ne.symm hl)]
        exact S.dist j l xs ys a hjl e1 e2 h
/-- a slot gets a new list of its own -/
theorem Sm.setOwn {i : Nat} {p : Addr} {vs : List V} {xs : List Va} (S : Sm K mg W0 W fs μ σ) (x : Ext W W') (c : Cs K mg W' μ') (hp : W.H p = none) (r : RpL K mg W' vs xs) (h1 : W'.H p = some (.lst vs)) (h2 : p ∉ W'.φ) (h3 : ¬ W'.fz p) :
    Sm K mg W0 W' (fs.set i (.own xs)) μ' (σ.set i (some (.ref p))) := by
  have S1 := S.expr x c
  have old : ∀ (j : Nat) ys, fs[j]? = some (.own ys) → σ[j]? ≠ some (some (.ref p)) := fun j ys e z => by
    obtain ⟨a, us, k1, k2, _⟩ := S.se.owns j ys e
    rw [k1] at z
    cases z
    rw [hp] at k2; cases k2
  refine ⟨S1.ext, by rw [List.length_set, List.length_set]; exact S.len, ⟨fun j u e => ?_, fun j ys e => ?_, S1.se.cells⟩, fun j ys a e h => ?_, fun j l ys zs a hjl e1 e2 h => ?_⟩
  · rcases get_set e with ⟨_, z, _⟩ | ⟨hj, e⟩
    · cases z
    · obtain ⟨w', k1, k2⟩ := S1.se.vals j u e
      exact ⟨w', by rw [List.getElem?_set_ne (Ne.symm hj)]; exact k1, k2⟩
  · rcases get_set e with ⟨rfl, z, hl⟩ | ⟨hj, e⟩
    · cases z
      exact ⟨p, vs, List.getElem?_set_self (by rw [← S.len]; exact hl), h1, r, h3, h2⟩
    · obtain ⟨a, us, k1, k2⟩ := S1.se.owns j ys e
      exact ⟨a, us, by rw [List.getElem?_set_ne (Ne.symm hj)]; exact k1, k2⟩
  · rcases get_set e with ⟨rfl, z, hl⟩ | ⟨hj, e⟩
    · rw [List.getElem?_set_self (by rw [← S.len]; exact hl)] at h
      cases h
      exact S.ext.old_none hp
    · rw [List.getElem?_set_ne (Ne.symm hj)] at h
      exact S.new j ys a e h
  · rcases get_set e1 with ⟨rfl, z, hl⟩ | ⟨hj, e1⟩
    · rcases get_set e2 with ⟨rfl, _, _⟩ | ⟨hl2, e2⟩
      · exact absurd rfl hjl
      · rw [List.getElem?_set_self (by rw [← S.len]; exact hl)] at h
        cases h
        rw [List.getElem?_set_ne (Ne.symm hl2)]
        exact old l zs e2
    · rw [List.getElem?_set_ne (Ne.symm hj)] at h
      rcases get_set e2 with ⟨el, _, hl⟩ | ⟨hl2, e2⟩
      · rw [el, List.getElem?_set_self (by rw [← S.len]; exact hl)]
        intro z
        cases z
        exact old j ys e1 h
      · rw [List.getElem?_set_ne (Ne.symm hl2)]
        exact S.dist j l ys zs a hjl e1 e2 h
/-- a list that is no cell and not frozen is written -/
def Wd.put (W : Wd) (a : Addr) (vs : List V) (h1 : ¬ W.fz a) (h2 : a ∉ W.φ) : Wd where
  φ := W.φ
  fz := W.fz
  H := upd W.H a (.lst vs)
  nd := W.nd
  cl := fun b h => let ⟨xs, e⟩ := W.cl b h; ⟨xs, by rw [upd_ne (show b ≠ a from fun z => h2 (by rw [← z]; exact h))]; exact e⟩
  fl := fun b h => let ⟨n, xs, e⟩ := W.fl b h; ⟨n, xs, by rw [upd_ne (show b ≠ a from fun z => h1 (by rw [← z]; exact h))]; exact e⟩
theorem Wd.put_exs {a : Addr} {vs us : List V} {h1 : ¬ W.fz a} {h2 : a ∉ W.φ} (ha : W.H a = some (.lst us)) : Exs W (W.put a vs h1 h2) where
  phi := ⟨[], by simp [Wd.put]⟩
  fzm := fun b h => h
  kfz := fun b o h e => by
    show upd W.H a (.lst vs) b = some o
    rw [upd_ne (show b ≠ a from fun z => h1 (by rw [← z]; exact h))]; exact e
  ktp := fun b xs e => by
    show upd W.H a (.lst vs) b = some (.tup xs)
    rw [upd_ne (show b ≠ a from fun z => by subst z; rw [ha] at e; cases e)]; exact e
  kfr := fun b o u e => by
    show upd W.H a (.lst vs) b = some (.frz o u)
    rw [upd_ne (show b ≠ a from fun z => by subst z; rw [ha] at e; cases e)]; exact e
theorem Sm.put {i : Nat} {a : Addr} {us vs : List V} {xs ys : List Va} (S : Sm K mg W0 W fs μ σ) (e : fs[i]? = some (.own xs)) (hs : σ[i]? = some (some (.ref a))) (ha : W.H a = some (.lst us)) (h1 : ¬ W.fz a) (h2 : a ∉ W.φ) (r : RpL K mg W vs ys) :
    Sm K mg W0 (W.put a vs h1 h2) (fs.set i (.own ys)) μ σ := by
  have x : Exs W (W.put a vs h1 h2) := Wd.put_exs ha
  have hn := S.new i xs a e hs
  have hi : i < fs.length := (List.getElem?_eq_some_iff.mp e).1
  refine ⟨⟨fun b z => S.ext.dom b (dom_upd z), S.ext.phi, S.ext.phin, S.ext.fzm, S.ext.fzn, fun b o q nb nt => ?_⟩, by rw [List.length_set]; exact S.len, ⟨fun j u ej => ?_, fun j zs ej => ?_, ⟨S.se.cells.len, fun n zs q => ?_, S.se.cells.tabs.mono (TbM.lst ha)⟩⟩, fun j zs b ej h => ?_, fun j l zs ws b hjl e1 e2 h => ?_⟩
  · show upd W.H a (.lst vs) b = some o
    rw [upd_ne (show b ≠ a from fun z => by subst z; rw [hn] at q; cases q)]
    exact S.ext.keep b o q nb nt
  · rcases get_set ej with ⟨_, z, _⟩ | ⟨hj, ej⟩
    · cases z
    · obtain ⟨w, k1, k2⟩ := S.se.vals j u ej
      exact ⟨w, k1, Rp.mono x _ k2⟩
  · rcases get_set ej with ⟨rfl, z, hl⟩ | ⟨hj, ej⟩
    · cases z
      exact ⟨a, vs, hs, upd_same, RpL.mono x _ r, h1, h2⟩
    · obtain ⟨b, ws, k1, k2, k3, k4, k5⟩ := S.se.owns j zs ej
      refine ⟨b, ws, k1, ?_, RpL.mono x _ k3, k4, k5⟩
      show upd W.H a (.lst vs) b = some (.lst ws)
      rw [upd_ne (show b ≠ a from fun z => by subst z; exact S.dist i j xs zs b (Ne.symm hj) e ej hs k1)]
      exact k2
  · obtain ⟨b, ws, k1, k2, k3⟩ := S.se.cells.at_ n zs q
    refine ⟨b, ws, k1, ?_, RpL.mono x _ k3⟩
    show upd W.H a (.lst vs) b = some (.lst ws)
    rw [upd_ne (show b ≠ a from fun z => h2 (by rw [← z]; exact List.mem_of_getElem? k1))]
    exact k2
  · rcases get_set ej with ⟨rfl, _, _⟩ | ⟨hj, ej⟩
    · exact S.new j xs b e h
    · exact S.new j zs b ej h
  · rcases get_set e1 with ⟨rfl, _, _⟩ | ⟨hj, e1⟩
    · rcases get_set e2 with ⟨rfl, _, _⟩ | ⟨hl, e2⟩
      · exact absurd rfl hjl
      · exact S.dist j l xs ws b hjl e e2 h
    · rcases get_set e2 with ⟨el, _, _⟩ | ⟨hl, e3⟩
      · rw [el] at hjl ⊢
        exact S.dist j i zs xs b hjl e1 e h
      · exact S.dist j l zs ws b hjl e1 e3 h
end

/-! ### freezing -/
def frz (p : Nat → Bool) (fs : Fs) : Fs := fs.mapIdx fun i s => match s with
  | .own xs => if p i then .val (.lst xs) else .own xs
  | s => s
theorem frz_get {p : Nat → Bool} {fs : Fs} {i : Nat} {s : Sl} (h : (frz p fs)[i]? = some s) : (fs[i]? = some s ∧ ∀ xs, s = .own xs → p i = false) ∨ ∃ xs, fs[i]? = some (.own xs) ∧ s = .val (.lst xs) ∧ p i = true := by
  unfold frz at h
  rw [List.getElem?_mapIdx] at h
  cases e : fs[i]? with
  | none => rw [e] at h; cases h
  | some t =>
    rw [e] at h
    simp only [Option.map_some, Option.some.injEq] at h
    cases t with
    | own xs =>
      simp only at h
      split at h
      · rename_i hp; exact .inr ⟨xs, rfl, h.symm, hp⟩
      · rename_i hp
        subst h
        exact .inl ⟨rfl, fun ys z => by simpa using hp⟩
    | no => exact .inl ⟨by rw [← h], fun xs z => by rw [z] at h; cases h⟩
    | val v => exact .inl ⟨by rw [← h], fun xs z => by rw [z] at h; cases h⟩
section
variable {K : PySem.W.Frag} {mg : Str → Option Value} {W0 W W' : Wd} {fs fs' : Fs} {μ μ' : Mu} {σ : L2.St}
def Wd.freeze (W : Wd) (q : Addr → Prop) (h : ∀ a, q a → a ∉ W.φ ∧ ∃ xs, W.H a = some (.lst xs)) : Wd where
  φ := W.φ
  fz := fun a => W.fz a ∨ q a
  H := W.H
  nd := W.nd
  cl := W.cl
  fl := fun a z => z.elim (W.fl a) (h a)
theorem Wd.freeze_exs {q : Addr → Prop} {h : ∀ a, q a → a ∉ W.φ ∧ ∃ xs, W.H a = some (.lst xs)} : Exs W (W.freeze q h) :=
  ⟨⟨[], by simp [Wd.freeze]⟩, fun _ z => .inl z, fun _ _ _ e => e, fun _ _ e => e, fun _ _ _ e => e⟩
theorem Se.freeze {p : Nat → Bool} (S : Se K mg W fs μ σ) (dist : ∀ (i j : Nat) xs ys a, i ≠ j → fs[i]? = some (.own xs) → fs[j]? = some (.own ys) → σ[i]? = some (some (.ref a)) → σ[j]? ≠ some (some (.ref a))) :
    ∃ W' : Wd, W'.H = W.H ∧ W'.φ = W.φ ∧ Exs W W' ∧ (∀ a, W'.fz a → W.fz a ∨ ∃ (i : Nat) (xs : List Va), fs[i]? = some (.own xs) ∧ σ[i]? = some (some (.ref a))) ∧ Se K mg W' (frz p fs) μ σ := by
  refine ⟨W.freeze (fun a => ∃ (i : Nat) (xs : List Va), p i = true ∧ fs[i]? = some (.own xs) ∧ σ[i]? = some (some (.ref a))) fun a ⟨i, xs, hp, e, h⟩ => ?_, rfl, rfl, Wd.freeze_exs, fun a z => ?_, ?_⟩
  · obtain ⟨b, vs, k1, k2, k3, k4, k5⟩ := S.owns i xs e
    rw [h] at k1; cases k1
    exact ⟨k5, vs, k2⟩
  · rcases z with z | ⟨i, xs, _, e, h⟩
    · exact .inl z
    · exact .inr ⟨i, xs, e, h⟩
  · refine ⟨fun i v e => ?_, fun i xs e => ?_, ⟨S.cells.len, fun n xs e => ?_, S.cells.tabs⟩⟩
    · rcases frz_get e with ⟨e2, _⟩ | ⟨xs, e2, z, hp⟩
      · obtain ⟨w, h1, h2⟩ := S.vals i v e2
        exact ⟨w, h1, Rp.mono Wd.freeze_exs _ h2⟩
      · cases z
        obtain ⟨a, vs, k1, k2, k3, k4, k5⟩ := S.owns i xs e2
        exact ⟨_, k1, .lst (.inr ⟨i, xs, hp, e2, k1⟩) k2 (RpL.mono Wd.freeze_exs _ k3)⟩
    · rcases frz_get e with ⟨e, hp⟩ | ⟨_, _, z, hp⟩
      · obtain ⟨a, vs, k1, k2, k3, k4, k5⟩ := S.owns i xs e
        refine ⟨a, vs, k1, k2, RpL.mono Wd.freeze_exs _ k3, fun z => ?_, k5⟩
        rcases z with z | ⟨j, ys, hj, ej, hs⟩
        · exact k4 z
        · by_cases hij : i = j
          · subst hij
            rw [hp xs rfl] at hj; cases hj
          · exact dist i j xs ys a hij e ej k1 hs
      · cases z
    · obtain ⟨a, vs, h1, h2, h3⟩ := S.cells.at_ n xs e
      exact ⟨a, vs, h1, h2, RpL.mono Wd.freeze_exs _ h3⟩
theorem Sm.freeze {p : Nat → Bool} (S : Sm K mg W0 W fs μ σ) : ∃ W' : Wd, W'.H = W.H ∧ Exs W W' ∧ Sm K mg W0 W' (frz p fs) μ σ := by
  obtain ⟨W', hH, hφ, x, hf, S'⟩ := S.se.freeze (p := p) S.dist
  refine ⟨W', hH, x, ⟨by rw [hH]; exact S.ext.dom, ?_, ?_, ?_, ?_, ?_⟩, ?_, S', fun i xs a e h => ?_, fun i j xs ys a hij e1 e2 h => ?_⟩
  · rw [hφ]; exact S.ext.phi
  · rw [hφ]; exact S.ext.phin
  · exact fun a z => x.fzm a (S.ext.fzm a z)
  · intro a z
    rcases hf a z with z | ⟨i, xs, e, h⟩
    · exact S.ext.fzn a z
    · exact .inr (S.new i xs a e h)
  · rw [hH]; exact S.ext.keep
  · unfold frz; rw [List.length_mapIdx]; exact S.len
  · rcases frz_get e with ⟨e, _⟩ | ⟨_, _, z, _⟩
    · exact S.new i xs a e h
    · cases z
  · rcases frz_get e1 with ⟨e1, _⟩ | ⟨_, _, z, _⟩
    · rcases frz_get e2 with ⟨e2, _⟩ | ⟨_, _, z, _⟩
      · exact S.dist i j xs ys a hij e1 e2 h
      · cases z
    · cases z
end

/-! ### small statements -/
section
variable {X : Cx} {a b e o : Expr} {m ma mb mi : ME} {c : MT} {t u : MS} {mr : MA} {pos p' : Pos} {st : Stmt} {rest body els : List Stmt} {x : Str} {i j : Nat}
def sNil : MS := fun fs μ => some (.nx, fs, μ)
def sSeq (a b : MS) : MS := fun fs μ => match a fs μ with
  | some (.nx, fs1, μ1) => b fs1 μ1
  | r => r
theorem ss_nil : SSs X [] sNil := pss_nil.of fun D σ H ⟨W0, W, fs, μ, fl, fs', μ', hW, S, e, q⟩ => by
  unfold sNil at e
  cases e
  show D.nx σ H
  rw [← hW]
  exact q W σ (Exs.refl W) S
theorem ss_cons (h1 : SS X st t) (h2 : SSs X rest u) : SSs X (st :: rest) (sSeq t u) := (pss_cons h1 h2).of fun D σ H ⟨W0, W, fs, μ, fl, fs', μ', hW, S, e, q⟩ => by
  unfold sSeq at e
  cases e1 : t fs μ with
  | none => rw [e1] at e; cases e
  | some r =>
    obtain ⟨f1, fs1, μ1⟩ := r
    rw [e1] at e
    cases f1 with
    | nx => exact ⟨W0, W, fs, μ, .nx, fs1, μ1, hW, S, e1, fun W' σ' y S' => ⟨W0, W', fs1, μ1, fl, fs', μ', rfl, S', e, q.mono y⟩⟩
    | bk => cases e; exact ⟨W0, W, fs, μ, .bk, _, _, hW, S, e1, q⟩
    | ct => cases e; exact ⟨W0, W, fs, μ, .ct, _, _, hW, S, e1, q⟩
    | rt v => cases e; exact ⟨W0, W, fs, μ, .rt v, _, _, hW, S, e1, q⟩
    | rf v => cases e; exact ⟨W0, W, fs, μ, .rf v, _, _, hW, S, e1, q⟩
theorem ss_one (h1 : SS X st t) : SSs X [st] t := pss_one h1
def sNo : MS := fun _ _ => none
theorem ss_never : SS X st sNo := ps_never.of fun D σ H ⟨W0, W, fs, μ, fl, fs', μ', hW, S, e, q⟩ => nomatch e
def sPass : MS := fun fs μ => some (.nx, fs, μ)
def sBrk : MS := fun fs μ => some (.bk, fs, μ)
def sCnt : MS := fun fs μ => some (.ct, fs, μ)
theorem ss_pass : SS X (.Pass pos) sPass := ps_pass.of fun D σ H ⟨W0, W, fs, μ, fl, fs', μ', hW, S, e, q⟩ => by
  unfold sPass at e; cases e
  show D.nx σ H
  rw [← hW]; exact q W σ (Exs.refl W) S
theorem ss_break : SS X (.Break pos) sBrk := ps_break.of fun D σ H ⟨W0, W, fs, μ, fl, fs', μ', hW, S, e, q⟩ => by
  unfold sBrk at e; cases e
  show D.bk σ H
  rw [← hW]; exact q W σ (Exs.refl W) S
theorem ss_cont : SS X (.Continue pos) sCnt := ps_continue.of fun D σ H ⟨W0, W, fs, μ, fl, fs', μ', hW, S, e, q⟩ => by
  unfold sCnt at e; cases e
  show D.ct σ H
  rw [← hW]; exact q W σ (Exs.refl W) S
def sFrz (p : Nat → Bool) (t : MS) : MS := fun fs μ => t (frz p fs) μ
theorem ss_frz {p : Nat → Bool} (h : SS X st t) : SS X st (sFrz p t) := h.of fun D σ H ⟨W0, W, fs, μ, fl, fs', μ', hW, S, e, q⟩ => by
  obtain ⟨W', hH, x, S'⟩ := S.freeze (p := p)
  exact ⟨W0, W', frz p fs, μ, fl, fs', μ', hH.trans hW, S', e, q.mono x⟩
def sRet (m : ME) : MS := fun fs μ => match m (frz (fun _ => true) fs) μ with
  | some (v, μ') => some (.rt v, fs, μ')
  | none => none
/-- return a list of one's own, to be changed by who asked for it -/
def sRetL (i : Nat) : MS := fun fs μ => match fs[i]? with
  | some (.own xs) => some (.rf xs, fs, μ)
  | _ => none
theorem ss_retL {i : Nat} (h : PS X st (tRet (tVar i))) : SS X st (sRetL i) := h.of fun D σ H ⟨W0, W, fs, μ, fl, fs', μ', hW, S, e, q⟩ => by
  unfold sRetL at e
  split at e
  · rename_i xs e1
    cases e
    obtain ⟨a, vs, k1, k2, k3, k4, k5⟩ := S.se.owns i xs e1
    have := q W a vs S.ext S.se.cells k3 k2 k5 k4 (S.new i xs a e1 k1)
    rw [hW] at this
    exact ⟨_, k1, this⟩
  · cases e
def sRetN : MS := fun fs μ => some (.rt .non, fs, μ)
theorem ss_ret (h : SE X e m) : SS X (.Return (some e) pos) (sRet m) := (ps_ret h).of fun D σ H ⟨W0, W, fs, μ, fl, fs', μ', hW, S, e, q⟩ => by
  unfold sRet at e
  split at e
  · rename_i v μ1 e1
    cases e
    obtain ⟨W', hH, x, S'⟩ := S.freeze (p := fun _ => true)
    exact ⟨W', _, μ, v, _, hH.trans hW, S'.se, e1, fun W2 w x2 c r => q W2 w (S'.ext.trans x2) c r⟩
  · cases e
theorem ss_retN : SS X (.Return none pos) sRetN := ps_retN.of fun D σ H ⟨W0, W, fs, μ, fl, fs', μ', hW, S, e, q⟩ => by
  unfold sRetN at e
  cases e
  show D.rt .non H
  rw [← hW]
  exact q W .non S.ext S.se.cells .non
def sExp (m : ME) : MS := fun fs μ => match m fs μ with
  | some (_, μ') => some (.nx, fs, μ')
  | none => none
theorem ss_exp (h : SE X e m) (hs : swapsWith e none pos.line X.env = pure false := by rfl) : SS X (.Expr e pos) (sExp m) := (ps_expr h hs).of fun D σ H ⟨W0, W, fs, μ, fl, fs', μ', hW, S, e, q⟩ => by
  unfold sExp at e
  split at e
  · rename_i v μ1 e1
    cases e
    exact ⟨W, fs, μ, v, _, hW, S.se, e1, fun W' w x c r => q W' σ x.exs (S.expr x c)⟩
  · cases e
def sIf (c : MT) (t u : MS) : MS := fun fs μ => match c fs μ with
  | some (true, μ1) => t fs μ1
  | some (false, μ1) => u fs μ1
  | none => none
theorem ss_if (hc : ST X e c) (ht : SSs X body t) (hu : SSs X els u) : SS X (.If e body els pos) (sIf c t u) := (ps_if hc ht hu).of fun D σ H ⟨W0, W, fs, μ, fl, fs', μ', hW, S, e, q⟩ => by
  unfold sIf at e
  split at e
  · rename_i μ1 e1
    exact ⟨W, fs, μ, _, _, hW, S.se, e1, fun W' x c => iteT ⟨W0, W', fs, _, fl, fs', μ', rfl, S.expr x c, e, q.mono x.exs⟩⟩
  · rename_i μ1 e1
    exact ⟨W, fs, μ, _, _, hW, S.se, e1, fun W' x c => iteF ⟨W0, W', fs, _, fl, fs', μ', rfl, S.expr x c, e, q.mono x.exs⟩⟩
  · cases e
/-- name = e -/
def sAsg (i : Nat) (m : ME) : MS := fun fs μ => match m fs μ with
  | some (v, μ') => some (.nx, fs.set i (.val v), μ')
  | none => none
theorem ss_asg {s : Stmt} (h : PS X s (tAsg (rdE X.K X.mg m) (gName i))) : SS X s (sAsg i m) := h.of fun D σ H ⟨W0, W, fs, μ, fl, fs', μ', hW, S, e, q⟩ => by
  unfold sAsg at e
  split at e
  · rename_i v μ1 e1
    cases e
    exact ⟨W, fs, μ, v, _, hW, S.se, e1, fun W' w x c r => q W' _ x.exs ((S.expr x c).set r)⟩
  · cases e
/-- name = a new list, which the name alone holds -/
def sOwn (i : Nat) (m : MA) : MS := fun fs μ => match m fs μ with
  | some (xs, μ') => some (.nx, fs.set i (.own xs), μ')
  | none => none
theorem ss_own {s : Stmt} (h : PS X s (tAsg (rdF X.K X.mg mr) (gName i))) : SS X s (sOwn i mr) := h.of fun D σ H ⟨W0, W, fs, μ, fl, fs', μ', hW, S, e, q⟩ => by
  unfold sOwn at e
  split at e
  · rename_i xs μ1 e1
    cases e
    exact ⟨W, fs, μ, xs, _, hW, S.se, e1, fun W' p vs x c r hp n1 n2 h0 => q W' _ x.exs (S.setOwn x c h0 r hp n1 n2)⟩
  · cases e
/-- name = a new list that becomes a cell -/
def Wd.cell (W : Wd) (p : Addr) (vs : List V) (hp : W.H p = some (.lst vs)) (n1 : p ∉ W.φ) (n2 : ¬ W.fz p) : Wd where
  φ := W.φ ++ [p]
  fz := W.fz
  H := W.H
  nd := by
    refine List.nodup_append.mpr ⟨W.nd, by simp, fun a h b hb z => ?_⟩
    have e : b = p := by simpa using hb
    rw [z, e] at h
    exact n1 h
  cl := fun a h => by
    rcases List.mem_append.mp h with h | h
    · exact W.cl a h
    · have e : a = p := by simpa using h
      exact ⟨vs, by rw [e]; exact hp⟩
  fl := fun a h => by
    obtain ⟨n, xs, e⟩ := W.fl a h
    refine ⟨fun z => ?_, xs, e⟩
    rcases List.mem_append.mp z with z | z
    · exact n z
    · have e : a = p := by simpa using z
      rw [e] at h
      exact n2 h
theorem Wd.cell_exs {W : Wd} {p : Addr} {vs : List V} {hp : W.H p = some (.lst vs)} {n1 : p ∉ W.φ} {n2 : ¬ W.fz p} : Exs W (W.cell p vs hp n1 n2) :=
  ⟨⟨[p], rfl⟩, fun _ z => z, fun _ _ _ e => e, fun _ _ e => e, fun _ _ _ e => e⟩
theorem Cs.cell {K : PySem.W.Frag} {mg : Str → Option Value} {W : Wd} {μ : Mu} {p : Addr} {vs : List V} {xs : List Va} {hp : W.H p = some (.lst vs)} {n1 : p ∉ W.φ} {n2 : ¬ W.fz p} (c : Cs K mg W μ) (r : RpL K mg W vs xs) : Cs K mg (W.cell p vs hp n1 n2) (μ ++ [xs]) := by
  refine ⟨by show (W.φ ++ [p]).length = _; rw [List.length_append, List.length_append, c.len]; rfl, fun n ys e => ?_, c.tabs⟩
  rcases Nat.lt_or_ge n μ.length with h | h
  · rw [List.getElem?_append_left h] at e
    obtain ⟨a, us, h1, h2, h3⟩ := c.at_ n ys e
    exact ⟨a, us, by show (W.φ ++ [p])[n]? = _; rw [List.getElem?_append_left (by rw [c.len]; exact h)]; exact h1, h2, RpL.mono Wd.cell_exs _ h3⟩
  · rw [List.getElem?_append_right h] at e
    have hn : n = μ.length := by
      have := (List.getElem?_eq_some_iff.mp e).1
      simp at this
      omega
    subst hn
    simp at e
    subst e
    refine ⟨p, vs, ?_, hp, RpL.mono Wd.cell_exs _ r⟩
    show (W.φ ++ [p])[μ.length]? = some p
    rw [← c.len]
    simp
def sBox (i : Nat) (m : MA) : MS := fun fs μ => match m fs μ with
  | some (xs, μ') => some (.nx, fs.set i (.val (.loc μ'.length)), μ' ++ [xs])
  | none => none
theorem ss_box {s : Stmt} (h : PS X s (tAsg (rdF X.K X.mg mr) (gName i))) : SS X s (sBox i mr) := h.of fun D σ H ⟨W0, W, fs, μ, fl, fs', μ', hW, S, e, q⟩ => by
  unfold sBox at e
  split at e
  · rename_i xs μ1 e1
    cases e
    refine ⟨W, fs, μ, xs, _, hW, S.se, e1, fun W' p vs x c r hp n1 n2 h0 => ?_⟩
    have x2 : Ext W (W'.cell p vs hp n1 n2) := by
      refine ⟨x.dom, ?_, fun a h => ?_, x.fzm, x.fzn, x.keep⟩
      · obtain ⟨m, e⟩ := x.phi
        exact ⟨m ++ [p], by show W'.φ ++ [p] = _; rw [e, List.append_assoc]⟩
      · rcases List.mem_append.mp h with h | h
        · exact x.phin a h
        · have e : a = p := by simpa using h
          exact .inr (by rw [e]; exact h0)
    have c2 := c.cell (hp := hp) (n1 := n1) (n2 := n2) r
    refine q (W'.cell p vs hp n1 n2) _ x2.exs ((S.expr x2 c2).set (.loc ?_))
    show (W'.φ ++ [p])[μ1.length]? = some p
    rw [← c.len]
    simp
  · cases e
end
end Ev
end MEvD
section MEvE
/-! Ev, part E: own lists written, cells written, a look at an own list, targets, loops, functions. -/
namespace Ev
open PySem PySem.Spec PyProof.Rows L2
section
variable {X : Cx} {a b e o : Expr} {m ma mb mi : ME} {c : MT} {t u : MS} {mr : MA} {pos p' : Pos} {st : Stmt} {rest body els : List Stmt} {x : Str} {i j : Nat}

/-! ### x.append(e) -/
def sApp (i : Nat) (m : ME) : MS := fun fs μ => match fs[i]? with
  | some (.own xs) => match m fs μ with
    | some (v, μ') => if xs.length < sizeLine then some (.nx, fs.set i (.own (xs ++ [v])), μ') else none
    | none => none
  | _ => none
theorem tyV_lst {K : PySem.W.Frag} {H : Hp} {a : Addr} {vs : List V} (h : H a = some (.lst vs)) : tyV K "list" (.ref a) H := Or.inl ⟨rfl, _, Or.inl (Or.inl h)⟩
theorem ss_app {st : Stmt} (h : PS X st (tDrop (tBM X.K "list" rAppend (tVar i) (tCons (rdE X.K X.mg m) tNil)))) : SS X st (sApp i m) := h.of fun D σ H ⟨W0, W, fs, μ, fl, fs', μ', hW, S, e, q⟩ => by
    unfold sApp at e
    split at e
    · rename_i xs hx
      split at e
      · rename_i v μ1 e1
        split at e
        · rename_i hl
          cases e
          obtain ⟨l, vs, k1, k2, k3, k4, k5⟩ := S.se.owns i xs hx
          refine ⟨.ref l, k1, by rw [← hW]; exact tyV_lst k2, W, fs, μ, v, _, hW, S.se, e1, fun W' w x c r => ?_⟩
          obtain ⟨n1, n2, n3⟩ := own_ext x k2 k4 k5
          refine ⟨l, vs, w, rfl, rfl, n1, by rw [k3.length]; exact hl, ?_⟩
          exact q (W'.put l (vs ++ [w]) n2 n3) σ (x.exs.trans (Wd.put_exs n1)) ((S.expr x c).put hx k1 n1 n2 n3 ((RpL.mono x.exs _ k3).append (.cons r .nil)))
        · cases e
      · cases e
    · cases e
/-! ### x.append(y.pop(e)) -/
def popIx (i : Int) (n : Nat) : Option Nat := if -(2 ^ 63) ≤ i ∧ i < 2 ^ 63 then seqIndex? i n else none
def sAppPop (i j : Nat) (m : ME) : MS := fun fs μ => match fs[i]?, fs[j]? with
  | some (.own xs), some (.own ys) => match m fs μ with
    | some (.int k, μ') => match popIx k ys.length with
      | some n => match ys[n]? with
        | some y => if xs.length < sizeLine ∧ i ≠ j then some (.nx, (fs.set j (.own (ys.eraseIdx n))).set i (.own (xs ++ [y])), μ') else none
        | none => none
      | none => none
    | _ => none
  | _, _ => none
theorem ss_apppop {st : Stmt} (h : PS X st (tDrop (tBM X.K "list" rAppend (tVar i) (tCons (tBM X.K "list" rPopAt (tVar j) (tCons (rdE X.K X.mg m) tNil)) tNil)))) : SS X st (sAppPop i j m) := h.of fun D σ H ⟨W0, W, fs, μ, fl, fs', μ', hW, S, e, q⟩ => by
    unfold sAppPop at e
    split at e
    · rename_i xs ys hx hy
      split at e
      · rename_i k μ1 e1
        split at e
        · rename_i n e2
          split at e
          · rename_i y e3
            split at e
            · rename_i hl
              obtain ⟨hl, hij⟩ := hl
              cases e
              obtain ⟨l, vs, k1, k2, k3, k4, k5⟩ := S.se.owns i xs hx
              obtain ⟨l2, us, j1, j2, j3, j4, j5⟩ := S.se.owns j ys hy
              refine ⟨.ref l, k1, by rw [← hW]; exact tyV_lst k2, .ref l2, j1, by rw [← hW]; exact tyV_lst j2, W, fs, μ, _, _, hW, S.se, e1, fun W' w x c r => ?_⟩
              cases r
              obtain ⟨n1, n2, n3⟩ := own_ext x k2 k4 k5
              obtain ⟨m1, m2, m3⟩ := own_ext x j2 j4 j5
              have S1 := S.expr x c
              have r3 := RpL.mono x.exs _ j3
              obtain ⟨z, z1, z2⟩ := r3.get e3
              unfold popIx at e2
              split at e2
              · rename_i hk
                have S2 := S1.put hy j1 m1 m2 m3 (r3.eraseIdx n)
                have x2 : Exs W' (W'.put l2 (us.eraseIdx n) m2 m3) := Wd.put_exs m1
                have hx2 : (fs.set j (.own (ys.eraseIdx n)))[i]? = some (.own xs) := by rw [List.getElem?_set_ne (Ne.symm hij)]; exact hx
                obtain ⟨l', vs', g1, g2, g3, g4, g5⟩ := S2.se.owns i xs hx2
                rw [k1] at g1
                cases g1
                refine ⟨l2, us, k, n, z, rfl, rfl, m1, hk.1, hk.2, by rw [r3.length]; exact e2, z1, ?_⟩
                refine ⟨l, vs', z, rfl, rfl, g2, by rw [g3.length]; exact hl, ?_⟩
                exact q ((W'.put l2 (us.eraseIdx n) m2 m3).put l (vs' ++ [z]) g4 g5) σ (x.exs.trans (x2.trans (Wd.put_exs g2))) (S2.put hx2 k1 g2 g4 g5 (g3.append (.cons (Rp.mono x2 _ z2) .nil)))
              · cases e2
            · cases e
          · cases e
        · cases e
      · cases e
    · cases e
/-! ### c[k] = e, c a cell -/
def sSetC (m mo mi : ME) : MS := fun fs μ => match m fs μ with
  | some (v, μ1) => match mo fs μ1 with
    | some (.loc n, μ2) => match mi fs μ2 with
      | some (.int k, μ3) => match μ3[n]? with
        | some xs => match ixN xs.length k with
          | some j => some (.nx, fs, μ3.set n (xs.set j v))
          | none => none
        | none => none
      | _ => none
    | _ => none
  | none => none
def Wd.putC (W : Wd) (a : Addr) (vs : List V) (h : a ∈ W.φ) : Wd where
  φ := W.φ
  fz := W.fz
  H := upd W.H a (.lst vs)
  nd := W.nd
  cl := fun b hb => by
    by_cases z : b = a
    · exact ⟨vs, by rw [z]; exact upd_same⟩
    · obtain ⟨xs, e⟩ := W.cl b hb
      exact ⟨xs, by rw [upd_ne z]; exact e⟩
  fl := fun b hb => by
    obtain ⟨n, xs, e⟩ := W.fl b hb
    exact ⟨n, xs, by rw [upd_ne (show b ≠ a from fun z => n (by rw [z]; exact h))]; exact e⟩
theorem Wd.putC_ext {W : Wd} {a : Addr} {vs : List V} {h : a ∈ W.φ} : Ext W (W.putC a vs h) :=
  ⟨fun b z => dom_upd z, ⟨[], by simp [Wd.putC]⟩, fun _ z => .inl z, fun _ z => z, fun _ z => .inl z, fun b o e nb _ => by
    show upd W.H a (.lst vs) b = some o
    rw [upd_ne (show b ≠ a from fun z => nb (by rw [z]; exact h))]; exact e⟩
theorem Cs.putC {K : PySem.W.Frag} {mg : Str → Option Value} {W : Wd} {μ : Mu} {a : Addr} {n : Nat} {vs : List V} {xs : List Va} {h : a ∈ W.φ} (c : Cs K mg W μ) (hn : W.φ[n]? = some a) (r : RpL K mg W vs xs) : Cs K mg (W.putC a vs h) (μ.set n xs) := by
  have x := (Wd.putC_ext (W := W) (a := a) (vs := vs) (h := h)).exs
  refine ⟨by rw [List.length_set]; exact c.len, fun l ys e => ?_, c.tabs.mono (let ⟨_, e⟩ := W.cl a h; TbM.lst e)⟩
  rcases get_set e with ⟨rfl, z, hl⟩ | ⟨hl, e⟩
  · subst z
    exact ⟨a, vs, hn, upd_same, RpL.mono x _ r⟩
  · obtain ⟨b, us, h1, h2, h3⟩ := c.at_ l ys e
    refine ⟨b, us, h1, ?_, RpL.mono x _ h3⟩
    show upd W.H a (.lst vs) b = some (.lst us)
    rw [upd_ne (show b ≠ a from fun z => hl ?_)]
    · exact h2
    · subst z
      exact nodup_ix' W.nd h1 hn
where
  nodup_ix' {N : List Addr} (hN : N.Nodup) {i j : Nat} {x : Addr} (a : N[i]? = some x) (b : N[j]? = some x) : i = j := by
    obtain ⟨h1, e1⟩ := List.getElem?_eq_some_iff.mp a
    obtain ⟨h2, e2⟩ := List.getElem?_eq_some_iff.mp b
    exact (List.getElem_inj hN).mp (e1.trans e2.symm)
theorem ss_setC {st : Stmt} (h : PS X st (tAsg (rdE X.K X.mg m) (gSub (rdE X.K X.mg ma) (rdE X.K X.mg mi) rSetL))) : SS X st (sSetC m ma mi) := h.of fun D σ H ⟨W0, W, fs, μ, fl, fs', μ', hW, S, e, q⟩ => by
    unfold sSetC at e
    split at e
    · rename_i v μ1 e1
      split at e
      · rename_i n μ2 e2
        split at e
        · rename_i k μ3 e3
          split at e
          · rename_i xs e4
            split at e
            · rename_i j e5
              cases e
              refine ⟨W, fs, μ, v, μ1, hW, S.se, e1, fun W1 w x1 c1 r1 => ⟨W1, fs, μ1, _, μ2, rfl, S.se.ext x1 c1, e2, fun W2 w2 x2 c2 r2 => ⟨W2, fs, μ2, _, μ3, rfl, S.se.ext (x1.trans x2) c2, e3, fun W3 w3 x3 c3 r3 => ?_⟩⟩⟩
              cases r3
              have r2' := Rp.mono x3.exs _ r2
              cases r2' with
              | loc hn =>
                obtain ⟨a', vs, h1, h2, h3⟩ := c3.at_ n xs e4
                rw [hn] at h1
                cases h1
                have hm := List.mem_of_getElem? hn
                refine ⟨_, vs, k, j, rfl, rfl, h2, by rw [h3.length]; exact e5, ?_⟩
                have c4 := c3.putC (h := hm) hn (h3.set (Rp.mono (x2.trans x3).exs _ r1) j)
                exact q (W3.putC _ _ hm) σ (((x1.trans x2).trans x3).trans Wd.putC_ext).exs (((S.expr x1 c1).expr (x2.trans x3) c3).expr Wd.putC_ext c4)
            · cases e
          · cases e
        · cases e
      · cases e
    · cases e

/-! ### a look at an own list: a part of an expression whose value is flat -/
mutual
def noLoc : Va → Bool
  | .tup xs => noLocs xs
  | .lst xs => noLocs xs
  | .loc _ => false
  | _ => true
def noLocs : List Va → Bool
  | [] => true
  | x :: xs => noLoc x && noLocs xs
end
mutual
def flatA : Va → Bool
  | .tup xs => flatAs xs
  | .lst _ => false
  | .loc _ => false
  | .scr _ => false
  | _ => true
def flatAs : List Va → Bool
  | [] => true
  | x :: xs => flatA x && flatAs xs
end
section
variable {K : PySem.W.Frag} {mg : Str → Option Value} {W W' : Wd}
mutual
theorem Rp.noloc (hf : ∀ a, W.fz a → W'.fz a) (hH : W'.H = W.H) : ∀ {v : V} (d : Va), noLoc d = true → Rp K mg W v d → Rp K mg W' v d
  | _, .non, _, h => by cases h; exact .non
  | _, .bl _, _, h => by cases h; exact .bl _
  | _, .int _, _, h => by cases h; exact .int _
  | _, .str _, _, h => by cases h; exact .str _
  | _, .tup ds, n, h => by
    cases h with
    | tup h1 h2 => exact .tup (by rw [hH]; exact h1) (RpL.noloc hf hH ds (by simpa [noLoc] using n) h2)
  | _, .lst ds, n, h => by
    cases h with
    | lst h0 h1 h2 => exact .lst (hf _ h0) (by rw [hH]; exact h1) (RpL.noloc hf hH ds (by simpa [noLoc] using n) h2)
  | _, .loc n, z, h => by simp [noLoc] at z
  | _, .fn _, _, h => by
    cases h with
    | fn h1 => exact .fn h1
  | _, .scr _, _, h => by
    cases h with
    | scr h1 =>
      refine .scr ?_
      rcases h1 with ⟨z1, z2⟩ | ⟨o, z⟩ | z
      · exact .inl ⟨hf _ z1, by rw [hH]; exact z2⟩
      · exact .inr (.inl ⟨o, by rw [hH]; exact z⟩)
      · exact .inr (.inr z)
theorem RpL.noloc (hf : ∀ a, W.fz a → W'.fz a) (hH : W'.H = W.H) : ∀ {vs : List V} (ds : List Va), noLocs ds = true → RpL K mg W vs ds → RpL K mg W' vs ds
  | _, [], _, h => by cases h; exact .nil
  | _, d :: ds, n, h => by
    simp only [noLocs, Bool.and_eq_true] at n
    cases h with
    | cons h1 h2 => exact .cons (Rp.noloc hf hH d n.1 h1) (RpL.noloc hf hH ds n.2 h2)
end
mutual
theorem Rp.flat (hH : W'.H = W.H) : ∀ {v : V} (d : Va), flatA d = true → Rp K mg W v d → Rp K mg W' v d
  | _, .non, _, h => by cases h; exact .non
  | _, .bl _, _, h => by cases h; exact .bl _
  | _, .int _, _, h => by cases h; exact .int _
  | _, .str _, _, h => by cases h; exact .str _
  | _, .tup ds, n, h => by
    cases h with
    | tup h1 h2 => exact .tup (by rw [hH]; exact h1) (RpL.flat hH ds (by simpa [flatA] using n) h2)
  | _, .lst ds, n, h => by simp [flatA] at n
  | _, .loc n, z, h => by simp [flatA] at z
  | _, .fn _, _, h => by
    cases h with
    | fn h1 => exact .fn h1
  | _, .scr _, n, h => by simp [flatA] at n
theorem RpL.flat (hH : W'.H = W.H) : ∀ {vs : List V} (ds : List Va), flatAs ds = true → RpL K mg W vs ds → RpL K mg W' vs ds
  | _, [], _, h => by cases h; exact .nil
  | _, d :: ds, n, h => by
    simp only [flatAs, Bool.and_eq_true] at n
    cases h with
    | cons h1 h2 => exact .cons (Rp.flat hH d n.1 h1) (RpL.flat hH ds n.2 h2)
end
end
def bor (fs : Fs) : Fs := fs.map fun s => match s with
  | .own xs => if noLocs xs then .val (.lst xs) else .no
  | .val v => if noLoc v then .val v else .no
  | .no => .no
/-- the world in which own lists are frozen and no cell is to be seen -/
def Wd.bor (W : Wd) (fs : Fs) (σ : L2.St) (h : ∀ (i : Nat) xs a, fs[i]? = some (.own xs) → σ[i]? = some (some (.ref a)) → ∃ ys, W.H a = some (.lst ys)) : Wd where
  φ := []
  fz := fun a => W.fz a ∨ ∃ (i : Nat) (xs : List Va), fs[i]? = some (.own xs) ∧ σ[i]? = some (some (.ref a))
  H := W.H
  nd := List.nodup_nil
  cl := fun a h => nomatch h
  fl := fun a z => ⟨fun h => (nomatch h), by
    rcases z with z | ⟨i, xs, e1, e2⟩
    · exact (W.fl a z).2
    · exact h i xs a e1 e2⟩
theorem Se.bor {K : PySem.W.Frag} {mg : Str → Option Value} {W : Wd} {fs : Fs} {μ : Mu} {σ : L2.St} (S : Se K mg W fs μ σ) : ∃ h, Se K mg (W.bor fs σ h) (bor fs) [] σ := by
  have h : ∀ (i : Nat) xs a, fs[i]? = some (.own xs) → σ[i]? = some (some (.ref a)) → ∃ ys, W.H a = some (.lst ys) := fun i xs a e1 e2 => by
    obtain ⟨b, vs, k1, k2, _⟩ := S.owns i xs e1
    rw [e2] at k1; cases k1
    exact ⟨vs, k2⟩
  refine ⟨h, fun i v e => ?_, fun i xs e => ?_, ⟨rfl, (fun n xs e => by simp at e), S.cells.tabs⟩⟩
  · unfold Ev.bor at e
    rw [List.getElem?_map] at e
    cases q : fs[i]? with
    | none => rw [q] at e; cases e
    | some s =>
      rw [q] at e
      simp only [Option.map_some, Option.some.injEq] at e
      cases s with
      | no => cases e
      | val u =>
        simp only at e
        split at e
        · rename_i hn
          cases e
          obtain ⟨w, h1, h2⟩ := S.vals i _ q
          exact ⟨w, h1, Rp.noloc (W := W) (W' := W.bor fs σ h) (fun a z => Or.inl z) rfl _ hn h2⟩
        · cases e
      | own xs =>
        simp only at e
        split at e
        · rename_i hn
          cases e
          obtain ⟨a, vs, k1, k2, k3, _⟩ := S.owns i xs q
          exact ⟨_, k1, .lst (Or.inr ⟨i, xs, q, k1⟩) k2 (RpL.noloc (W := W) (W' := W.bor fs σ h) (fun a z => Or.inl z) rfl _ hn k3)⟩
        · cases e
  · unfold Ev.bor at e
    rw [List.getElem?_map] at e
    cases q : fs[i]? with
    | none => rw [q] at e; cases e
    | some s =>
      rw [q] at e
      cases s with
      | no => cases e
      | val u => simp only [Option.map_some, Option.some.injEq] at e; split at e <;> cases e
      | own xs => simp only [Option.map_some, Option.some.injEq] at e; split at e <;> cases e
/-- back from it -/
def Wd.back (W' W : Wd) (own : Addr → Prop) (h1 : ∀ a ∈ W.φ, ∃ xs, W'.H a = some (.lst xs)) (h2 : ∀ a, W'.fz a → ¬ own a → a ∉ W.φ) : Wd where
  φ := W.φ
  fz := fun a => W'.fz a ∧ ¬ own a
  H := W'.H
  nd := W.nd
  cl := h1
  fl := fun a z => ⟨h2 a z.1 z.2, (W'.fl a z.1).2⟩
theorem Se.unbor {K : PySem.W.Frag} {mg : Str → Option Value} {W W' : Wd} {fs : Fs} {μ : Mu} {σ : L2.St} (S : Se K mg W fs μ σ) {h} (x : Ext (W.bor fs σ h) W') (tb : Tbs K mg W') : ∃ W2 : Wd, W2.H = W'.H ∧ Ext W W2 ∧ Cs K mg W2 μ := by
  have keep : ∀ a o, W.H a = some o → nT o → W'.H a = some o := fun a o e nt => x.keep a o e (fun z => nomatch z) nt
  have h1 : ∀ a ∈ W.φ, ∃ xs, W'.H a = some (.lst xs) := fun a ha => let ⟨xs, e⟩ := W.cl a ha; ⟨xs, keep a _ e nT_lst⟩
  have h2 : ∀ a, W'.fz a → ¬ (∃ (i : Nat) (xs : List Va), fs[i]? = some (.own xs) ∧ σ[i]? = some (some (.ref a))) → a ∉ W.φ := fun a z n hp => by
    rcases x.fzn a z with (z | z) | z
    · exact (W.fl a z).1 hp
    · exact n z
    · obtain ⟨xs, e⟩ := W.cl a hp
      have z' : W.H a = none := z
      rw [z'] at e; cases e
  refine ⟨W'.back W _ h1 h2, rfl, ⟨x.dom, ⟨[], by simp [Wd.back]⟩, fun a z => .inl z, fun a z => ⟨x.fzm a (.inl z), ?_⟩, fun a z => ?_, fun a o e _ nt => keep a o e nt⟩, ⟨S.cells.len, fun n xs e => ?_, tb⟩⟩
  · rintro ⟨i, xs, e1, e2⟩
    obtain ⟨b, vs, k1, k2, k3, k4, k5⟩ := S.owns i xs e1
    rw [e2] at k1; cases k1
    exact k4 z
  · rcases x.fzn a z.1 with (y | y) | y
    · exact .inl y
    · exact absurd y z.2
    · exact .inr y
  · obtain ⟨a, vs, k1, k2, k3⟩ := S.cells.at_ n xs e
    refine ⟨a, vs, k1, keep a _ k2 nT_lst, RpL.mono (W := W) (W' := W'.back W _ h1 h2) ⟨⟨[], by simp [Wd.back]⟩, fun a z => ⟨x.fzm a (.inl z), ?_⟩, fun a o z e => keep a o e (by obtain ⟨_, xs, e'⟩ := W.fl a z; rw [e] at e'; cases e'; exact nT_lst), fun a xs e => keep a _ e nT_tup, fun a o u e => keep a _ e nT_frz⟩ _ k3⟩
    rintro ⟨i, xs, e1, e2⟩
    obtain ⟨b, vs, k1, k2, k3, k4, k5⟩ := S.owns i xs e1
    rw [e2] at k1; cases k1
    exact k4 z
def eB (m : ME) : ME := fun fs μ => match m (bor fs) [] with
  | some (v, _) => if flatA v then some (v, μ) else none
  | none => none
def tB (m : MT) : MT := fun fs μ => match m (bor fs) [] with
  | some (v, _) => some (v, μ)
  | none => none
theorem se_b (h : SE X e m) : SE X e (eB m) := h.of fun σ H Q ⟨W, fs, μ, v, μ', hW, S, e, q⟩ => by
  unfold eB at e
  split at e
  · rename_i v1 μ1 e1
    split at e
    · rename_i hf
      cases e
      obtain ⟨hb, S2⟩ := S.bor
      refine ⟨W.bor fs σ hb, _, _, _, _, hW, S2, e1, fun W' w x c r => ?_⟩
      obtain ⟨W2, hH, x2, c2⟩ := S.unbor x c.tabs
      rw [← hH]
      exact q W2 w x2 c2 (Rp.flat hH _ hf r)
    · cases e
  · cases e
theorem st_b (h : ST X e c) : ST X e (tB c) := h.of fun σ H Q ⟨W, fs, μ, v, μ', hW, S, e, q⟩ => by
  unfold tB at e
  split at e
  · rename_i v1 μ1 e1
    cases e
    obtain ⟨hb, S2⟩ := S.bor
    refine ⟨W.bor fs σ hb, _, _, _, _, hW, S2, e1, fun W' x c => ?_⟩
    obtain ⟨W2, hH, x2, c2⟩ := S.unbor x c.tabs
    rw [← hH]
    exact q W2 x2 c2
  · cases e
end
end Ev
end MEvE
section MEvF
/-! Ev, part F: targets, what is walked, for, while, functions. -/
namespace Ev
open PySem PySem.Spec PyProof.Rows L2
section
variable {X : Cx} {a b e o tg : Expr} {m ma mb mi : ME} {c : MT} {t u : MS} {mr : MA} {pos p' : Pos} {st : Stmt} {rest body els es : List Stmt} {ts : List Expr} {x : Str} {i j : Nat}

/-! ### targets -/
abbrev Asn := List (Nat × Va)
inductive RpAs (K : PySem.W.Frag) (mg : Str → Option Value) (W : Wd) : List (Nat × V) → Asn → Prop
  | nil : RpAs K mg W [] []
  | cons {i : Nat} {w : V} {v : Va} {ws : List (Nat × V)} {as : Asn} : Rp K mg W w v → RpAs K mg W ws as → RpAs K mg W ((i, w) :: ws) ((i, v) :: as)
theorem RpAs.append {K : PySem.W.Frag} {mg : Str → Option Value} {W : Wd} : ∀ {ws us : List (Nat × V)} {as bs : Asn}, RpAs K mg W ws as → RpAs K mg W us bs → RpAs K mg W (ws ++ us) (as ++ bs)
  | _, _, _, _, .nil, h => h
  | _, _, _, _, .cons r t, h => .cons r (RpAs.append t h)
def setsV (σ : L2.St) (ws : List (Nat × V)) : L2.St := ws.foldl (fun σ p => σ.set p.1 (some p.2)) σ
def sets (fs : Fs) (as : Asn) : Fs := as.foldl (fun fs p => fs.set p.1 (.val p.2)) fs
theorem setsV_append (σ : L2.St) (ws us : List (Nat × V)) : setsV σ (ws ++ us) = setsV (setsV σ ws) us := List.foldl_append ..
theorem Sm.sets {K : PySem.W.Frag} {mg : Str → Option Value} {W0 W : Wd} {μ : Mu} : ∀ {ws : List (Nat × V)} {as : Asn} {fs : Fs} {σ : L2.St}, RpAs K mg W ws as → Sm K mg W0 W fs μ σ → Sm K mg W0 W (sets fs as) μ (setsV σ ws)
  | _, _, _, _, .nil, S => S
  | _ :: ws, _ :: as, _, _, .cons r t, S => Sm.sets (ws := ws) (as := as) t (S.set r)
abbrev MB := Va → Option Asn
def rdG (K : PySem.W.Frag) (mg : Str → Option Value) (m : MB) : TG := fun v σ H Q => ∃ W d as, W.H = H ∧ Rp K mg W v d ∧ m d = some as ∧ ∀ ws, RpAs K mg W ws as → Q (setsV σ ws) H
abbrev MBs := List Va → Option Asn
def rdGs (K : PySem.W.Frag) (mg : Str → Option Value) (m : MBs) : TGs := fun vs σ H Q => ∃ W ds as, W.H = H ∧ RpL K mg W vs ds ∧ m ds = some as ∧ ∀ ws, RpAs K mg W ws as → Q (setsV σ ws) H
abbrev SG (X : Cx) (tg : Expr) (m : MB) : Prop := PG X tg (rdG X.K X.mg m)
abbrev SGs (X : Cx) (ts : List Expr) (m : MBs) : Prop := PGs X ts (rdGs X.K X.mg m)
theorem PG.of {t t' : TG} (h : PG X tg t) (i : ∀ v σ H Q, t' v σ H Q → t v σ H Q) : PG X tg t' := ⟨fun p s σ H v u Q I r q => h.run p s σ H v u Q I r (i v σ H Q q)⟩
theorem PGs.of {t t' : TGs} (h : PGs X ts t) (i : ∀ v σ H Q, t' v σ H Q → t v σ H Q) : PGs X ts t' := ⟨fun p s σ H v u Q I r q => h.run p s σ H v u Q I r (i v σ H Q q)⟩
def bName (i : Nat) : MB := fun d => some [(i, d)]
theorem sg_name (h : PG X tg (gName i)) : SG X tg (bName i) := PG.of h fun v σ H Q ⟨W, d, as, hW, r, e, q⟩ => by
  unfold bName at e; cases e
  exact q [(i, v)] (.cons r .nil)
def bsNil : MBs := fun ds => match ds with
  | [] => some []
  | _ => none
def bsCons (m : MB) (ms : MBs) : MBs := fun ds => match ds with
  | d :: r => match m d with
    | some as => match ms r with
      | some bs => some (as ++ bs)
      | none => none
    | none => none
  | [] => none
theorem sgs_nil : SGs X [] bsNil := PGs.of pgs_nil fun v σ H Q ⟨W, ds, as, hW, r, e, q⟩ => by
  unfold bsNil at e
  split at e
  · cases e; cases r; exact ⟨rfl, q [] .nil⟩
  · cases e
theorem sgs_cons {m : MB} {ms : MBs} (h1 : SG X tg m) (h2 : SGs X ts ms) (hs : (assignEach (tg :: ts) X.env).map (·.2) = assign tg X.env :: (assignEach ts X.env).map (·.2) := by rfl) : SGs X (tg :: ts) (bsCons m ms) := PGs.of (pgs_cons h1 h2 hs) fun v σ H Q ⟨W, ds, as, hW, r, e, q⟩ => by
  unfold bsCons at e
  split at e
  · rename_i d dr
    split at e
    · rename_i as1 e1
      split at e
      · rename_i bs1 e2
        cases e
        cases r with
        | cons r1 r2 =>
          refine ⟨_, _, rfl, W, d, as1, hW, r1, e1, fun ws k => ⟨W, dr, bs1, hW, r2, e2, fun us l => ?_⟩⟩
          rw [← setsV_append]
          exact q _ (k.append l)
      · cases e
    · cases e
  · cases e
def bTup (n : Nat) (ms : MBs) : MB := fun d => match d with
  | .tup ds => if ds.length = n then ms ds else none
  | _ => none
def bLst (n : Nat) (ms : MBs) : MB := fun d => match d with
  | .lst ds => if ds.length = n then ms ds else none
  | _ => none
theorem sg_tup {n k : Nat} {ms : MBs} (hc : X.calm = true) (h : SGs X ts ms) (hn : (assignEach ts X.env).length = n := by rfl) (hst : (assignEach ts X.env).findIdx? (·.1) = none := by rfl) : SG X (.Tuple ts k pos) (bTup n ms) := PG.of (pg_tup hc h hn hst) fun v σ H Q ⟨W, d, as, hW, r, e, q⟩ => by
  unfold bTup at e
  split at e
  · split at e
    · rename_i hl
      cases r with
      | tup h1 h2 => exact ⟨_, _, rfl, by rw [← hW]; exact h1, by rw [h2.length]; exact hl, W, _, as, hW, h2, e, q⟩
    · cases e
  · cases e
theorem sg_lst {n k : Nat} {ms : MBs} (hp : PG X (.Tuple ts k pos) (gUnl X.K n (rdGs X.K X.mg ms))) : SG X (.Tuple ts k pos) (bLst n ms) := PG.of hp fun v σ H Q ⟨W, d, as, hW, r, e, q⟩ => by
  unfold bLst at e
  split at e
  · split at e
    · rename_i hl
      cases r with
      | lst h0 h1 h2 => exact ⟨_, _, rfl, by rw [← hW]; exact .inl (.inl h1), by rw [h2.length]; exact hl, W, _, as, hW, h2, e, q⟩
    · cases e
  · cases e
/-- target = e -/
def sAsgG (g : MB) (m : ME) : MS := fun fs μ => match m fs μ with
  | some (v, μ') => match g v with
    | some as => some (.nx, sets fs as, μ')
    | none => none
  | none => none
theorem ss_asgG {g : MB} (h : PS X st (tAsg (rdE X.K X.mg m) (rdG X.K X.mg g))) : SS X st (sAsgG g m) := h.of fun D σ H ⟨W0, W, fs, μ, fl, fs', μ', hW, S, e, q⟩ => by
  unfold sAsgG at e
  split at e
  · rename_i v μ1 e1
    split at e
    · rename_i as e2
      cases e
      exact ⟨W, fs, μ, v, _, hW, S.se, e1, fun W' w x c r => ⟨W', v, as, rfl, r, e2, fun ws k => q W' _ x.exs (Sm.sets k (S.expr x c))⟩⟩
    · cases e
  · cases e
/-- a, b = x, y by plain names -/
def sPar2 (i j : Nat) (m : MA) : MS := fun fs μ => match m fs μ with
  | some ([v, w], μ') => some (.nx, (fs.set i (.val v)).set j (.val w), μ')
  | _ => none
theorem ss_par2 (h : PS X st (tPar i j (rdA X.K X.mg mr))) : SS X st (sPar2 i j mr) := h.of fun D σ H ⟨W0, W, fs, μ, fl, fs', μ', hW, S, e, q⟩ => by
  unfold sPar2 at e
  split at e
  · rename_i v w μ1 e1
    cases e
    refine ⟨W, fs, μ, _, _, hW, S.se, e1, fun W' ws x c r => ?_⟩
    obtain ⟨v1, w1, rfl, r1, r2⟩ := r.two
    exact ⟨v1, w1, rfl, q W' _ x.exs (((S.expr x c).set r1).set r2)⟩
  · cases e
def sPar3 (i j l : Nat) (m : MA) : MS := fun fs μ => match m fs μ with
  | some ([v, w, z], μ') => some (.nx, ((fs.set i (.val v)).set j (.val w)).set l (.val z), μ')
  | _ => none
theorem ss_par3 {l : Nat} (h : PS X st (tPar3 i j l (rdA X.K X.mg mr))) : SS X st (sPar3 i j l mr) := h.of fun D σ H ⟨W0, W, fs, μ, fl, fs', μ', hW, S, e, q⟩ => by
  unfold sPar3 at e
  split at e
  · rename_i v w z μ1 e1
    cases e
    refine ⟨W, fs, μ, _, _, hW, S.se, e1, fun W' ws x c r => ?_⟩
    cases r with
    | cons r1 r =>
      obtain ⟨w1, z1, rfl, r2, r3⟩ := r.two
      exact ⟨_, w1, z1, rfl, q W' _ x.exs ((((S.expr x c).set r1).set r2).set r3)⟩
  · cases e

/-! ### what is walked -/
/-- from the world W on the walk J yields what xs says -/
def Walk (K : PySem.W.Frag) (mg : Str → Option Value) (W : Wd) (J : It) (xs : List Va) : Prop := ∀ W', Exs W W' → ∀ i : Nat,
  (∀ d, xs[i]? = some d → J.go i W'.H ∧ ∀ x H', J.yld i W'.H x H' → ∃ W2, Grow W' W2 ∧ W2.H = H' ∧ Rp K mg W2 x d) ∧ (xs.length ≤ i → J.stop i W'.H)
def rdI (K : PySem.W.Frag) (mg : Str → Option Value) (m : MA) : TI := fun σ H R => ∃ W fs μ xs μ', W.H = H ∧ Se K mg W fs μ σ ∧ m fs μ = some (xs, μ') ∧ ∀ W' J, Ext W W' → Cs K mg W' μ' → Walk K mg W' J xs → R J W'.H
abbrev SI (X : Cx) (tg iter : Expr) (m : MA) : Prop := PI X tg iter (rdI X.K X.mg m)
theorem PI.of {iter : Expr} {t t' : TI} (h : PI X tg iter t) (i : ∀ σ H R, t' σ H R → t σ H R) : PI X tg iter t' := ⟨fun p s σ H R I q => h.run p s σ H R I (i σ H R q)⟩
/-- a list or a tuple -/
def iSeq (K : PySem.W.Frag) (tl : TE) : TI := fun σ H R => tl σ H fun x H1 => ∃ a, x = .ref a ∧ (((∃ xs, SqL K H1 a xs) ∧ R (Itl K a) H1) ∨ ((∃ xs, SqT K H1 a xs) ∧ R (Itt K a) H1))
theorem pi_seq {l : Expr} {tl : TE} (hl : PE X l tl) : PI X tg l (iSeq X.K tl) := by
  refine ⟨fun pins s σ H R I h => ?_⟩
  refine thn (hl.run pins s σ H _ I h) fun v s1 ⟨x, H1, I1, r1, q1⟩ => ?_
  obtain ⟨a, e, q1⟩ := q1
  subst e
  cases r1
  have fp : ∀ b ∈ [s1.heap.objs.size], FpOk X pins H1 b := fun b hb => by
    have e : b = s1.heap.objs.size := by simpa using hb
    subst e
    exact I1.fpOk (Nat.le_refl _) (I1.hok.fresh (Nat.le_refl _))
  rcases q1 with ⟨⟨xs, hq⟩, q⟩ | ⟨⟨xs, hq⟩, q⟩
  · obtain ⟨its, rv, p, hz⟩ := I1.list hq
    exact wpAny_pyIter_list p.isList ⟨s1.heap.objs.size, [s1.heap.objs.size], _, _, H1, rfl, I1.kept (t' := s1.toks) fun b o e => Heap.get?_push_of_some _ e, turn_list a _, ⟨_, Heap.get?_push_size _ rfl, rfl, rfl⟩, fp, q⟩
  · obtain ⟨its, rv, p, hz⟩ := I1.tuple hq
    exact wpAny_pyIter_tuple (show s1.heap.IsTuple a its.toArray from p) ⟨s1.heap.objs.size, [s1.heap.objs.size], _, _, H1, rfl, I1.kept (t' := s1.toks) fun b o e => Heap.get?_push_of_some _ e, turn_tuple a _, ⟨_, Heap.get?_push_size _ rfl, rfl, rfl⟩, fp, q⟩
def aSeq (m : ME) : MA := fun fs μ => match m fs μ with
  | some (.lst xs, μ') => some (xs, μ')
  | some (.tup xs, μ') => some (xs, μ')
  | _ => none
theorem walk_lst {K : PySem.W.Frag} {mg : Str → Option Value} {W : Wd} {a : Addr} {vs : List V} {xs : List Va} (h0 : W.fz a) (h1 : W.H a = some (.lst vs)) (r : RpL K mg W vs xs) : Walk K mg W (Itl K a) xs := fun W' y i => by
  have s : SqL K W'.H a vs := .inl (.inl (y.kfz a _ h0 h1))
  refine ⟨fun d e => ?_, fun hl => ⟨vs, s, by rw [r.length]; exact hl⟩⟩
  obtain ⟨w, hw, rw'⟩ := r.get e
  refine ⟨⟨vs, w, s, hw⟩, fun x H' ⟨z1, z2⟩ => ⟨W', Grow.refl W', z1.symm, ?_⟩⟩
  have e2 := z2 vs s
  rw [hw] at e2
  cases e2
  exact Rp.mono y _ rw'
theorem walk_tup {K : PySem.W.Frag} {mg : Str → Option Value} {W : Wd} {a : Addr} {vs : List V} {xs : List Va} (h1 : SqT K W.H a vs) (r : RpL K mg W vs xs) : Walk K mg W (Itt K a) xs := fun W' y i => by
  have s : SqT K W'.H a vs := sqT_mono y h1
  refine ⟨fun d e => ?_, fun hl => ⟨vs, s, by rw [r.length]; exact hl⟩⟩
  obtain ⟨w, hw, rw'⟩ := r.get e
  refine ⟨⟨vs, w, s, hw⟩, fun x H' ⟨z1, z2⟩ => ⟨W', Grow.refl W', z1.symm, ?_⟩⟩
  have e2 := z2 vs s
  rw [hw] at e2
  cases e2
  exact Rp.mono y _ rw'
theorem si_seq (h : SE X e m) : SI X tg e (aSeq m) := PI.of (pi_seq h) fun σ H R ⟨W, fs, μ, xs, μ', hW, S, e, q⟩ => by
  unfold aSeq at e
  split at e
  · rename_i ys μ1 e1
    cases e
    refine ⟨W, fs, μ, _, _, hW, S, e1, fun W' w x c r => ?_⟩
    cases r with
    | lst h0 h1 h2 => exact ⟨_, rfl, .inl ⟨⟨_, .inl (.inl h1)⟩, q W' _ x c (walk_lst h0 h1 h2)⟩⟩
  · rename_i ys μ1 e1
    cases e
    refine ⟨W, fs, μ, _, _, hW, S, e1, fun W' w x c r => ?_⟩
    cases r with
    | tup h1 h2 => exact ⟨_, rfl, .inr ⟨⟨_, h1⟩, q W' _ x c (walk_tup h1 h2)⟩⟩
  · cases e
/-- range -/
def rangeVa (lo : Int) (n : Nat) : List Va := (List.range n).map fun (k : Nat) => Va.int (lo + (k : Int))
theorem walk_range {K : PySem.W.Frag} {mg : Str → Option Value} {W : Wd} (lo : Int) (n : Nat) : Walk K mg W (Itr lo n) (rangeVa lo n) := fun W' y i => by
  refine ⟨fun d e => ?_, fun hl => ?_⟩
  · unfold rangeVa at e
    rw [List.getElem?_map] at e
    have hi : i < n := by
      rcases Nat.lt_or_ge i n with h | h
      · exact h
      · rw [List.getElem?_eq_none (by simpa using h)] at e; cases e
    rw [List.getElem?_range hi] at e
    cases e
    refine ⟨hi, fun x H' ⟨z1, z2⟩ => ⟨W', Grow.refl W', z1.symm, ?_⟩⟩
    subst z2
    exact .int _
  · unfold rangeVa at hl
    rw [List.length_map, List.length_range] at hl
    exact hl
def aRange (m : MA) : MA := fun fs μ => match m fs μ with
  | some ([.int j], μ') => if -(2 ^ 62) ≤ j ∧ j < 2 ^ 62 then some (rangeVa 0 j.toNat, μ') else none
  | some ([.int i, .int j], μ') => if -(2 ^ 62) ≤ i ∧ i < 2 ^ 62 ∧ -(2 ^ 62) ≤ j ∧ j < 2 ^ 62 then some (rangeVa i (j - i).toNat, μ') else none
  | _ => none
theorem si_range1 (h : PI X tg e (iRng1 (rdA X.K X.mg mr))) (h1 : ∀ fs μ vs μ', mr fs μ = some (vs, μ') → vs.length = 1) : SI X tg e (aRange mr) := PI.of h fun σ H R ⟨W, fs, μ, xs, μ', hW, S, e, q⟩ => by
  unfold aRange at e
  split at e
  · rename_i j μ1 e1
    split at e
    · rename_i hb
      cases e
      refine ⟨W, fs, μ, _, _, hW, S, e1, fun W' ws x c r => ?_⟩
      obtain ⟨w, rfl, r1⟩ := r.one
      cases r1
      exact ⟨j, rfl, hb.1, hb.2, q W' _ x c (walk_range 0 _)⟩
    · cases e
  · rename_i i j μ1 e1
    have := h1 _ _ _ _ e1
    simp at this
  · cases e
theorem si_range2 (h : PI X tg e (iRng2 (rdA X.K X.mg mr))) (h1 : ∀ fs μ vs μ', mr fs μ = some (vs, μ') → vs.length = 2) : SI X tg e (aRange mr) := PI.of h fun σ H R ⟨W, fs, μ, xs, μ', hW, S, e, q⟩ => by
  unfold aRange at e
  split at e
  · rename_i j μ1 e1
    have := h1 _ _ _ _ e1
    simp at this
  · rename_i i j μ1 e1
    split at e
    · rename_i hb
      cases e
      refine ⟨W, fs, μ, _, _, hW, S, e1, fun W' ws x c r => ?_⟩
      obtain ⟨v, w, rfl, r1, r2⟩ := r.two
      cases r1; cases r2
      exact ⟨i, j, rfl, hb, q W' _ x c (walk_range i _)⟩
    · cases e
  · cases e

/-! ### for, while -/
def forL (g : MB) (body : MS) : List Va → MS
  | [], fs, μ => some (.nx, fs, μ)
  | x :: r, fs, μ => match g x with
    | some as => match body (sets fs as) μ with
      | some (.nx, fs1, μ1) => forL g body r fs1 μ1
      | some (.ct, fs1, μ1) => forL g body r fs1 μ1
      | some (.bk, fs1, μ1) => some (.nx, fs1, μ1)
      | some (.rt v, fs1, μ1) => some (.rt v, fs1, μ1)
      | some (.rf v, fs1, μ1) => some (.rf v, fs1, μ1)
      | none => none
    | none => none
def sFor (m : MA) (g : MB) (body : MS) : MS := fun fs μ => match m fs μ with
  | some (xs, μ') => forL g body xs fs μ'
  | none => none
theorem ss_for {iter : Expr} {g : MB} {t : MS} {stm : List Stmt} (h : PS X st (tFor (rdI X.K X.mg mr) (rdG X.K X.mg g) (rdS X.K X.mg t))) : SS X st (sFor mr g t) := h.of fun D σ H ⟨W0, W, fs, μ, fl, fsE, μE, hW, S, e, q⟩ => by
  unfold sFor at e
  split at e
  · rename_i xs μ1 e1
    refine ⟨W, fs, μ, xs, μ1, hW, S.se, e1, fun W1 J x1 c1 wk => ?_⟩
    have S1 := S.expr x1 c1
    refine ⟨fun i m σ H => m = xs.length - i ∧ ∃ W' fs' μ', W'.H = H ∧ Exs W1 W' ∧ Sm X.K X.mg W0 W' fs' μ' σ ∧ forL g t (xs.drop i) fs' μ' = some (fl, fsE, μE), ⟨_, rfl, W1, fs, μ1, rfl, Exs.refl W1, S1, by rw [List.drop_zero]; exact e⟩, ?_⟩
    rintro i m σ H ⟨rfl, W', fs', μ', rfl, y, S', e'⟩
    obtain ⟨w1, w2⟩ := wk W' y i
    cases hx : xs[i]? with
    | none =>
      have hl : xs.length ≤ i := List.getElem?_eq_none_iff.mp hx
      rw [List.drop_eq_nil_of_le hl] at e'
      unfold forL at e'
      cases e'
      exact .inl ⟨w2 hl, q W' σ (x1.exs.trans y) S'⟩
    | some d =>
      obtain ⟨g1, g2⟩ := w1 d hx
      have hi : i < xs.length := (List.getElem?_eq_some_iff.mp hx).1
      have hd : xs.drop i = d :: xs.drop (i + 1) := by
        rw [List.drop_eq_getElem_cons hi]
        congr 1
        exact (List.getElem?_eq_some_iff.mp hx).2
      rw [hd] at e'
      unfold forL at e'
      split at e'
      · rename_i as e2
        refine .inr ⟨g1, fun σ' H' => ∃ W' fs' μ', W'.H = H' ∧ Exs W1 W' ∧ Sm X.K X.mg W0 W' fs' μ' σ' ∧ forL g t (xs.drop (i + 1)) fs' μ' = some (fl, fsE, μE), fun σ' H' hN => ⟨xs.length - (i + 1), by omega, rfl, hN⟩, fun x H' hy => ?_⟩
        obtain ⟨W2, gr, rfl, r2⟩ := g2 x H' hy
        refine ⟨W2, d, as, rfl, r2, e2, fun ws k => ?_⟩
        have S2 := Sm.sets k (S'.expr gr.ext (S'.se.cells.grow gr))
        have y2 : Exs W1 W2 := y.trans gr.ext.exs
        split at e'
        · rename_i fs1 μ2 e3
          exact ⟨W0, W2, _, _, .nx, fs1, μ2, rfl, S2, e3, fun W3 σ3 y3 S3 => ⟨W3, fs1, μ2, rfl, y2.trans y3, S3, e'⟩⟩
        · rename_i fs1 μ2 e3
          exact ⟨W0, W2, _, _, .ct, fs1, μ2, rfl, S2, e3, fun W3 σ3 y3 S3 => ⟨W3, fs1, μ2, rfl, y2.trans y3, S3, e'⟩⟩
        · rename_i fs1 μ2 e3
          cases e'
          exact ⟨W0, W2, _, _, .bk, _, _, rfl, S2, e3, fun W3 σ3 y3 S3 => q W3 σ3 (x1.exs.trans (y2.trans y3)) S3⟩
        · rename_i v fs1 μ2 e3
          cases e'
          exact ⟨W0, W2, _, _, .rt v, _, _, rfl, S2, e3, q⟩
        · rename_i v fs1 μ2 e3
          cases e'
          exact ⟨W0, W2, _, _, .rf v, _, _, rfl, S2, e3, q⟩
        · cases e'
      · cases e'
  · cases e
def whileL (c : MT) (body : MS) : Nat → MS
  | 0, _, _ => none
  | n + 1, fs, μ => match c fs μ with
    | some (true, μ1) => match body fs μ1 with
      | some (.nx, fs1, μ2) => whileL c body n fs1 μ2
      | some (.ct, fs1, μ2) => whileL c body n fs1 μ2
      | some (.bk, fs1, μ2) => some (.nx, fs1, μ2)
      | some (.rt v, fs1, μ2) => some (.rt v, fs1, μ2)
      | some (.rf v, fs1, μ2) => some (.rf v, fs1, μ2)
      | none => none
    | some (false, μ1) => some (.nx, fs, μ1)
    | none => none
theorem ss_while {n : Nat} (h : PS X st (tWhile (rdT X.K X.mg c) (rdS X.K X.mg t))) : SS X st (whileL c t n) := h.of fun D σ H ⟨W0, W, fs, μ, fl, fsE, μE, hW, S, e, q⟩ => by
  refine ⟨fun k σ H => ∃ W' fs' μ', W'.H = H ∧ Exs W W' ∧ Sm X.K X.mg W0 W' fs' μ' σ ∧ whileL c t k fs' μ' = some (fl, fsE, μE), ⟨n, W, fs, μ, hW, Exs.refl W, S, e⟩, ?_⟩
  rintro k σ H ⟨W', fs', μ', rfl, y, S', e'⟩
  cases k with
  | zero => unfold whileL at e'; cases e'
  | succ k =>
    unfold whileL at e'
    split at e'
    · rename_i μ1 e1
      refine ⟨W', fs', μ', true, μ1, rfl, S'.se, e1, fun W2 x2 c2 => iteT ⟨fun σ' H' => ∃ W' fs' μ', W'.H = H' ∧ Exs W W' ∧ Sm X.K X.mg W0 W' fs' μ' σ' ∧ whileL c t k fs' μ' = some (fl, fsE, μE), fun σ' H' hN => ⟨k, Nat.lt_succ_self k, hN⟩, ?_⟩⟩
      have S2 := S'.expr x2 c2
      have y2 := y.trans x2.exs
      split at e'
      · rename_i fs1 μ2 e3
        exact ⟨W0, W2, _, _, .nx, fs1, μ2, rfl, S2, e3, fun W3 σ3 y3 S3 => ⟨W3, fs1, μ2, rfl, y2.trans y3, S3, e'⟩⟩
      · rename_i fs1 μ2 e3
        exact ⟨W0, W2, _, _, .ct, fs1, μ2, rfl, S2, e3, fun W3 σ3 y3 S3 => ⟨W3, fs1, μ2, rfl, y2.trans y3, S3, e'⟩⟩
      · rename_i fs1 μ2 e3
        cases e'
        exact ⟨W0, W2, _, _, .bk, _, _, rfl, S2, e3, fun W3 σ3 y3 S3 => q W3 σ3 (y2.trans y3) S3⟩
      · rename_i v fs1 μ2 e3
        cases e'
        exact ⟨W0, W2, _, _, .rt v, _, _, rfl, S2, e3, q⟩
      · rename_i v fs1 μ2 e3
        cases e'
        exact ⟨W0, W2, _, _, .rf v, _, _, rfl, S2, e3, q⟩
      · cases e'
    · rename_i μ1 e1
      cases e'
      exact ⟨W', _, μ', false, _, rfl, S'.se, e1, fun W2 x2 c2 => iteF (q W2 σ (y.trans x2.exs) (S'.expr x2 c2))⟩
    · cases e'

/-! ### functions -/
abbrev MF := List Va → Mu → Option (Va × Mu)
/-- np parameters, n names -/
def fnF (np n : Nat) (body : MS) : MF := fun ds μ => if ds.length = np then
  (match body (ds.map .val ++ List.replicate (n - ds.length) .no) μ with
    | some (.rt v, _, μ') => some (v, μ')
    | some (.nx, _, μ') => some (.non, μ')
    | some (.rf xs, _, μ') => some (.lst xs, μ')
    | _ => none) else none
/-- .. that gives a new list -/
abbrev ML := List Va → Mu → Option (List Va × Mu)
def fnL (np n : Nat) (body : MS) : ML := fun ds μ => if ds.length = np then
  (match body (ds.map .val ++ List.replicate (n - ds.length) .no) μ with
    | some (.rf xs, _, μ') => some (xs, μ')
    | _ => none) else none
def spF (K : PySem.W.Frag) (mg : Str → Option Value) (np : Nat) (F : MF) : Sp := fun vs H Q _ => vs.length = np ∧ ∃ W ds μ v μ', W.H = H ∧ Cs K mg W μ ∧ RpL K mg W vs ds ∧ F ds μ = some (v, μ') ∧ ∀ W' w, Ext W W' → Cs K mg W' μ' → Rp K mg W' w v → Q w W'.H
def spL (K : PySem.W.Frag) (mg : Str → Option Value) (np : Nat) (F : ML) : Sp := fun vs H Q _ => vs.length = np ∧ ∃ W ds μ xs μ', W.H = H ∧ Cs K mg W μ ∧ RpL K mg W vs ds ∧ F ds μ = some (xs, μ') ∧
  ∀ W' p us, Ext W W' → Cs K mg W' μ' → RpL K mg W' us xs → W'.H p = some (.lst us) → p ∉ W'.φ → ¬ W'.fz p → W.H p = none → Q (.ref p) W'.H
theorem start_get {N : List Str} {vs : List V} {i : Nat} : (L2.start N vs)[i]? = if i < vs.length then (vs[i]?).map some else if i < vs.length + (N.length - vs.length) then some none else none := by
  unfold L2.start
  split
  · rename_i h
    rw [List.getElem?_append_left (by simpa using h), List.getElem?_map]
  · rename_i h
    rw [List.getElem?_append_right (by simpa using h), List.getElem?_replicate]
    simp only [List.length_map]
    split <;> split <;> first | rfl | omega
theorem Sm.start {K : PySem.W.Frag} {mg : Str → Option Value} {W : Wd} {μ : Mu} {vs : List V} {ds : List Va} {N : List Str} (c : Cs K mg W μ) (r : RpL K mg W vs ds) : Sm K mg W W (ds.map .val ++ List.replicate (N.length - ds.length) .no) μ (L2.start N vs) := by
  have hl := r.length
  have noown : ∀ (i : Nat) xs, (ds.map Sl.val ++ List.replicate (N.length - ds.length) .no)[i]? ≠ some (.own xs) := fun i xs z => by
    have := List.mem_of_getElem? z
    simp at this
  refine ⟨Ext.refl W, by unfold L2.start; simp [hl], ⟨fun i v e => ?_, fun i xs e => absurd e (noown i xs), c⟩, fun i xs a e => absurd e (noown i xs), fun i j xs ys a _ e => absurd e (noown i xs)⟩
  by_cases hi : i < ds.length
  · rw [List.getElem?_append_left (by simpa using hi), List.getElem?_map] at e
    simp only [Option.map_eq_some_iff] at e
    obtain ⟨d, e1, e2⟩ := e
    cases e2
    obtain ⟨w, h1, h2⟩ := r.get e1
    refine ⟨w, ?_, h2⟩
    rw [start_get, if_pos (by rw [hl]; exact hi), h1]
    rfl
  · rw [List.getElem?_append_right (by simpa using hi), List.getElem?_replicate] at e
    split at e <;> cases e
/-- a new list may be taken as frozen -/
theorem frz_new {K : PySem.W.Frag} {mg : Str → Option Value} {W W' : Wd} {μ : Mu} {p : Addr} {vs : List V} {xs : List Va} {Q : VK} (x : Ext W W') (c : Cs K mg W' μ) (r : RpL K mg W' vs xs) (hp : W'.H p = some (.lst vs)) (n1 : p ∉ W'.φ) (n2 : ¬ W'.fz p) (h0 : W.H p = none)
    (q : ∀ W' w, Ext W W' → Cs K mg W' μ → Rp K mg W' w (.lst xs) → Q w W'.H) : Q (.ref p) W'.H := by
  have y : Exs W' (W'.fz1 p vs hp n1) := ⟨⟨[], by simp [Wd.fz1]⟩, fun _ z => .inl z, fun _ _ _ e => e, fun _ _ e => e, fun _ _ _ e => e⟩
  refine q (W'.fz1 p vs hp n1) _ ⟨x.dom, x.phi, x.phin, fun a z => .inl (x.fzm a z), fun a z => ?_, x.keep⟩ ⟨c.len, fun n ys e => ?_, c.tabs⟩ (.lst (.inr rfl) hp (RpL.mono y _ r))
  · rcases z with z | rfl
    · exact x.fzn a z
    · exact .inr h0
  · obtain ⟨b, us, k1, k2, k3⟩ := c.at_ n ys e
    exact ⟨b, us, k1, k2, RpL.mono y _ k3⟩
/-- a def by its body's meaning -/
theorem fn_ok {P : Program} {w : World} {K : PySem.W.Frag} {mg : Str → Option Value} {base : Heap} {x qual : Str} {st : Stmt} {f : Addr} {fd : FuncData} {N ps : List Str} {k : Nat} {m : MS} (F : Fun K x qual st f fd) (S : FnScope N ps (defScope st))
    (hb : ∀ (cdv : Value) (A : Around) (outer : List Env) (s : Shared) (H : Hp) (E : XK), Room k (A.deeper (envOfC qual (defScope st) s.heap.objs.size f cdv)) → SSs (cxOf CX0 P w K mg base N qual (defScope st) f cdv A outer s H E).nox (defBody st) m) :
    FnOk P w K mg base CX0 (k + 1) f fd ps (spF K mg ps.length (fnF ps.length N.length m)) := by
  refine F.ok S (fun vs H Q E h => h.1) fun cdv A outer s H vs Q E hr h => ⟨_, hb cdv A outer s H E hr, ?_⟩
  obtain ⟨hl, W, ds, μ, v, μ', hW, c, r, e, q⟩ := h
  unfold fnF at e
  split at e
  · rename_i hl2
    split at e
    · rename_i v1 fs1 μ1 e1
      cases e
      exact ⟨W, W, _, μ, .rt _, fs1, _, hW, Sm.start c r, e1, fun W' w x c r => q W' w x c r⟩
    · rename_i fs1 μ1 e1
      cases e
      exact ⟨W, W, _, μ, .nx, fs1, _, hW, Sm.start c r, e1, fun W' σ' y S => q W' .non S.ext S.se.cells .non⟩
    · rename_i xs fs1 μ1 e1
      cases e
      exact ⟨W, W, _, μ, .rf _, fs1, _, hW, Sm.start c r, e1, fun W' p vs x c r hp n1 n2 h0 => (frz_new x c r hp n1 n2 h0) q⟩
    · cases e
  · cases e
/-- .. that gives a new list -/
theorem fn_okL {P : Program} {w : World} {K : PySem.W.Frag} {mg : Str → Option Value} {base : Heap} {x qual : Str} {st : Stmt} {f : Addr} {fd : FuncData} {N ps : List Str} {k : Nat} {m : MS} (F : Fun K x qual st f fd) (S : FnScope N ps (defScope st))
    (hb : ∀ (cdv : Value) (A : Around) (outer : List Env) (s : Shared) (H : Hp) (E : XK), Room k (A.deeper (envOfC qual (defScope st) s.heap.objs.size f cdv)) → SSs (cxOf CX0 P w K mg base N qual (defScope st) f cdv A outer s H E).nox (defBody st) m) :
    FnOk P w K mg base CX0 (k + 1) f fd ps (spL K mg ps.length (fnL ps.length N.length m)) := by
  refine F.ok S (fun vs H Q E h => h.1) fun cdv A outer s H vs Q E hr h => ⟨_, hb cdv A outer s H E hr, ?_⟩
  obtain ⟨hl, W, ds, μ, v, μ', hW, c, r, e, q⟩ := h
  unfold fnL at e
  split at e
  · rename_i hl2
    split at e
    · rename_i v1 fs1 μ1 e1
      cases e
      exact ⟨W, W, _, μ, .rf _, fs1, _, hW, Sm.start c r, e1, q⟩
    · cases e
  · cases e
/-- found = f(..), f's list new -/
def aFnL (F : ML) (m : MA) : MA := fun fs μ => match m fs μ with
  | some (ds, μ1) => F ds μ1
  | none => none
theorem fnL_len {np n : Nat} {body : MS} : ∀ ds μ r, fnL np n body ds μ = some r → ds.length = np := fun ds μ r e => by
  unfold fnL at e
  split at e
  · assumption
  · cases e
theorem sf_fnL {np : Nat} {F : ML} (h : PE X e (tCall (spL X.K X.mg np F) [] E0 (rdA X.K X.mg mr))) (hF : ∀ ds μ r, F ds μ = some r → ds.length = np) : SF X e (aFnL F mr) := h.of fun σ H Q ⟨W, fs, μ, v, μ', hW, S, e, q⟩ => by
  unfold aFnL at e
  split at e
  · rename_i ds μ1 e1
    refine ⟨W, fs, μ, ds, μ1, hW, S, e1, fun W' ws x c r => ?_⟩
    show spL X.K X.mg np F (ws ++ []) W'.H Q E0
    rw [List.append_nil]
    exact ⟨by rw [r.length]; exact hF _ _ _ e, W', ds, μ1, v, μ', rfl, c, r, e, fun W2 p us x2 c2 r2 hp n1 n2 h0 => q W2 p us (x.trans x2) c2 r2 hp n1 n2 (x.old_none h0)⟩
  · cases e
/-- f(..) -/
def eFn (F : MF) (m : MA) : ME := fun fs μ => match m fs μ with
  | some (ds, μ1) => F ds μ1
  | none => none
theorem rd_fn {K : PySem.W.Frag} {mg : Str → Option Value} {np : Nat} {F : MF} (hF : ∀ ds μ r, F ds μ = some r → ds.length = np) {σ : L2.St} {H : Hp} {Q : VK} (h : rdE K mg (eFn F mr) σ H Q) : tCall (spF K mg np F) [] E0 (rdA K mg mr) σ H Q := by
  obtain ⟨W, fs, μ, v, μ', hW, S, e, q⟩ := h
  unfold eFn at e
  split at e
  · rename_i ds μ1 e1
    refine ⟨W, fs, μ, ds, μ1, hW, S, e1, fun W' ws x c r => ?_⟩
    show spF K mg np F (ws ++ []) W'.H Q E0
    rw [List.append_nil]
    exact ⟨by rw [r.length]; exact hF _ _ _ e, W', ds, μ1, v, μ', rfl, c, r, e, fun W2 w x2 c2 r2 => q W2 w (x.trans x2) c2 r2⟩
  · cases e
theorem fnF_len {np n : Nat} {body : MS} : ∀ ds μ r, fnF np n body ds μ = some r → ds.length = np := fun ds μ r e => by
  unfold fnF at e
  split at e
  · assumption
  · cases e
theorem se_fn {np : Nat} {F : MF} (h : PE X e (tCall (spF X.K X.mg np F) [] E0 (rdA X.K X.mg mr))) (hF : ∀ ds μ r, F ds μ = some r → ds.length = np) : SE X e (eFn F mr) := h.of fun σ H Q h => rd_fn hF h
end
end Ev
end MEvF
section MEvG1
/-! Ev, part G1: the turns of a comprehension with any number of clauses, a list or a set. -/
namespace Ev
open PySem PySem.Spec PyProof.Rows L2
def mkC (b : Bool) (elt : Expr) (gens : List Comprehension) (scope : Scope) (pos : Pos) : Expr := match b with
  | false => .ListComp elt gens scope pos
  | true => .SetComp elt gens scope pos
def emitC (b : Bool) (elt : Expr) (acc : Value) (env : Env) : Sem Unit := match b with
  | false => do let _ ← call (.builtin "list.append") [acc, ← eval elt env]
  | true => do
    let v ← eval elt env
    standAt elt.pos
    let _ ← call (.builtin "set.add") [acc, v]
def testsC (ifs : List Expr) (env : Env) : Sem Bool := forIn ifs true fun c r => if r = true then do let ok ← isTrue c env (eval c env); pure (ForInStep.yield ok) else pure (ForInStep.yield r)
section
variable {prog : Program} {w : World} {A : Around} {R : Result → Shared → Prop} {s : Shared} {b : Bool} {elt tg iter tg1 iter1 : Expr} {ifs ifs1 : List Expr} {gens : List Comprehension} {scope : Scope} {pos : Pos} {d : Nat} {it acc : Value} {env : Env}
theorem turn_last (hg : gens[d]? = some ⟨tg, iter, ifs, 0⟩) (hn : gens[d + 1]? = none) : compTurn (mkC b elt gens scope pos) d it acc env = (standAt iter.pos >>= fun _ => pyNext it >>= fun r => match r with
    | none => pure (.done .next)
    | some v => letOwnedTupleGo tg it v >>= fun _ => assign tg env v >>= fun _ => testsC ifs env >>= fun ok => if ok = true then emitC b elt acc env >>= fun _ => again (.compLoop (mkC b elt gens scope pos) d it acc env) else again (.compLoop (mkC b elt gens scope pos) d it acc env)) := by
  cases b <;> (unfold compTurn; simp only [mkC, emitC, hg, hn]; rfl)
theorem turn_more (hg : gens[d]? = some ⟨tg, iter, ifs, 0⟩) (hn : gens[d + 1]? = some ⟨tg1, iter1, ifs1, 0⟩) : compTurn (mkC b elt gens scope pos) d it acc env = (standAt iter.pos >>= fun _ => pyNext it >>= fun r => match r with
    | none => pure (.done .next)
    | some v => letOwnedTupleGo tg it v >>= fun _ => assign tg env v >>= fun _ => testsC ifs env >>= fun ok => if ok = true then eval iter1 env >>= fun x => standAt iter1.pos >>= fun _ => foldedSetIterable iter1 env x >>= fun x => holding [x] (pyIter x) >>= fun it1 =>
        runOwn (.compStart (mkC b elt gens scope pos) (d + 1) it1 acc env) env >>= fun _ => again (.compLoop (mkC b elt gens scope pos) d it acc env) else again (.compLoop (mkC b elt gens scope pos) d it acc env)) := by
  cases b <;> (unfold compTurn; simp only [mkC, emitC, hg, hn]; rfl)
theorem underL : A.under (.compLoop (mkC b elt gens scope pos) d it acc env) = A := by cases b <;> rfl
theorem underS : A.under (.compStart (mkC b elt gens scope pos) d it acc env) = A := by cases b <;> rfl
theorem quietC : (Code.compLoop (mkC b elt gens scope pos) d it acc env).quiet = true := by cases b <;> rfl
/-- the loop of the last clause -/
theorem loop_last (hg : gens[d]? = some ⟨tg, iter, ifs, 0⟩) (hn : gens[d + 1]? = none) (I : Nat → Shared → Prop)
    (turn : ∀ n s, I n s → wpAny (model prog w) A (pyNext it) (fun r s₁ => match r with
      | none => R (.ok .next) s₁
      | some v => wpAny (model prog w) A (letOwnedTupleGo tg it v) (fun _ s₂ => wpAny (model prog w) A (assign tg env v) (fun _ s₃ => wpAny (model prog w) A (testsC ifs env) (fun ok s₄ =>
          if ok = true then wpAny (model prog w) A (emitC b elt acc env) (fun _ s₅ => ∃ m, m < n ∧ I m s₅) (fun _ _ => False) s₄ else ∃ m, m < n ∧ I m s₄) (fun _ _ => False) s₃) (fun _ _ => False) s₂) (fun _ _ => False) s₁) (fun _ _ => False) s)
    (n : Nat) (h : I n s) : codeAny (model prog w) A (.compLoop (mkC b elt gens scope pos) d it acc env) R s := by
  refine codeAny_loop quietC I (fun n s hI => ?_) n h
  have e : (model prog w).den (.compLoop (mkC b elt gens scope pos) d it acc env) = (compTurn (mkC b elt gens scope pos) d it acc env).onRaise (fun x => do noteFrame x env; theTreesLotGoes x) := by cases b <;> rfl
  rw [e, underL]
  refine wpAny_noted ?_
  rw [turn_last hg hn]
  refine wpAny_bind (wpAny_standAt (wpAny_bind (thnF (turn n s hI) fun r s₁ h₁ => ?_)))
  cases r with
  | none => exact wpAny_pure h₁
  | some v =>
    refine wpAny_bind (thnF h₁ fun _ s₂ h₂ => wpAny_bind (thnF h₂ fun _ s₃ h₃ => wpAny_bind (thnF h₃ fun ok s₄ h₄ => ?_)))
    cases ok with
    | false => exact wpAny_pure ⟨rfl, h₄⟩
    | true => exact wpAny_bind (thnF h₄ fun _ s₅ h₅ => wpAny_pure ⟨rfl, h₅⟩)
/-- .. of one behind which another stands -/
theorem loop_more (hg : gens[d]? = some ⟨tg, iter, ifs, 0⟩) (hn : gens[d + 1]? = some ⟨tg1, iter1, ifs1, 0⟩) (hs : ∀ x, foldedSetIterable iter1 env x = pure x) (I : Nat → Shared → Prop)
    (turn : ∀ n s, I n s → wpAny (model prog w) A (pyNext it) (fun r s₁ => match r with
      | none => R (.ok .next) s₁
      | some v => wpAny (model prog w) A (letOwnedTupleGo tg it v) (fun _ s₂ => wpAny (model prog w) A (assign tg env v) (fun _ s₃ => wpAny (model prog w) A (testsC ifs env) (fun ok s₄ =>
          if ok = true then wpAny (model prog w) A (eval iter1 env) (fun x s₅ => wpAny (model prog w) A (pyIter x) (fun it1 s₆ =>
            codeAny (model prog w) A (.compStart (mkC b elt gens scope pos) (d + 1) it1 acc env) (fun r s' => match r with
              | .ok _ => ∃ m, m < n ∧ I m s'
              | .error _ => False) s₆) (fun _ _ => False) s₅) (fun _ _ => False) s₄
          else ∃ m, m < n ∧ I m s₄) (fun _ _ => False) s₃) (fun _ _ => False) s₂) (fun _ _ => False) s₁) (fun _ _ => False) s)
    (n : Nat) (h : I n s) : codeAny (model prog w) A (.compLoop (mkC b elt gens scope pos) d it acc env) R s := by
  refine codeAny_loop quietC I (fun n s hI => ?_) n h
  have e : (model prog w).den (.compLoop (mkC b elt gens scope pos) d it acc env) = (compTurn (mkC b elt gens scope pos) d it acc env).onRaise (fun x => do noteFrame x env; theTreesLotGoes x) := by cases b <;> rfl
  rw [e, underL]
  refine wpAny_noted ?_
  rw [turn_more hg hn]
  refine wpAny_bind (wpAny_standAt (wpAny_bind (thnF (turn n s hI) fun r s₁ h₁ => ?_)))
  cases r with
  | none => exact wpAny_pure h₁
  | some v =>
    refine wpAny_bind (thnF h₁ fun _ s₂ h₂ => wpAny_bind (thnF h₂ fun _ s₃ h₃ => wpAny_bind (thnF h₃ fun ok s₄ h₄ => ?_)))
    cases ok with
    | false => exact wpAny_pure ⟨rfl, h₄⟩
    | true =>
      refine wpAny_bind (thnF h₄ fun x s₅ h₅ => ?_)
      refine wpAny_bind (wpAny_standAt (wpAny_bind (wpAny_of_eq (hs x) (wpAny_bind (wpAny_holding (thnF h₅ fun it1 s₆ h₆ => ?_))))))
      refine wpAny_bind (wpAny_runOwn ?_)
      rw [Around.mark_none]
      refine codeAny_mono h₆ fun r s' hr => ?_
      cases r with
      | ok f => exact wpAny_pure ⟨rfl, hr⟩
      | error e => exact hr.elim
/-- a clause's start -/
theorem start_at (hg : gens[d]? = some ⟨tg, iter, ifs, 0⟩) (h0 : codeAny (model prog w) A (.compLoop (mkC b elt gens scope pos) d it acc env) R s)
    (h : wpAny (model prog w) A (pyIter it) (fun it' s' => codeAny (model prog w) A (.compLoop (mkC b elt gens scope pos) d it' acc env) R s') (fun _ _ => False) s) :
    codeAny (model prog w) A (.compStart (mkC b elt gens scope pos) d it acc env) R s := by
  refine codeAny_of_tree ?_
  have e : (model prog w).den (.compStart (mkC b elt gens scope pos) d it acc env) = (compStart (mkC b elt gens scope pos) d it acc env).onRaise (fun x => do noteFrame x env; standAt theWindowsPlace) := by cases b <;> rfl
  rw [e, underS]
  refine wpAny_notedAt ?_
  have cl : clausesOf (mkC b elt gens scope pos) = gens := by cases b <;> rfl
  have e2 : compStart (mkC b elt gens scope pos) d it acc env = (ask >>= fun r => if r.params.followText "comprehension-iter-twice" = true then again (.compLoop (mkC b elt gens scope pos) d it acc env) else
      rule "comprehension.iter-twice" >>= fun _ => standAt iter.pos >>= fun _ => pyIter it >>= fun it' => again (.compLoop (mkC b elt gens scope pos) d it' acc env)) := by
    unfold compStart
    rw [cl, hg]
    rfl
  rw [e2]
  refine wpAny_bind (wpAny_askSetting (wpAny_ite ?_))
  split
  · exact wpAny_pure ⟨rfl, h0⟩
  · exact wpAny_bind (wpAny_rule (wpAny_bind (wpAny_standAt (wpAny_bind (thnF h fun it' s' h' => wpAny_pure ⟨rfl, h'⟩)))))
end
end Ev
end MEvG1
section MEvG2
/-! Ev, part G2: what a comprehension's block computes. -/
namespace Ev
open PySem PySem.Spec PyProof.Rows L2
def wipeF (fs : Fs) : List Nat → Fs
  | [] => fs
  | v :: vs => (wipeF fs vs).set v .no
theorem wipeF_in {fs : Fs} {i : Nat} {x : Sl} : ∀ {vs : List Nat}, i ∈ vs → (wipeF fs vs)[i]? = some x → x = .no
  | v :: vs, h, e => by
    unfold wipeF at e
    rcases get_set e with ⟨_, e, _⟩ | ⟨hj, e⟩
    · exact e
    · rcases List.mem_cons.mp h with h | h
      · exact absurd h hj
      · exact wipeF_in h e
theorem wipeF_out {fs : Fs} {i : Nat} : ∀ {vs : List Nat}, i ∉ vs → (wipeF fs vs)[i]? = fs[i]?
  | [], _ => rfl
  | v :: vs, h => by
    have h1 : v ≠ i := fun e => h (by rw [e]; exact List.mem_cons_self)
    have h2 : i ∉ vs := fun m => h (List.mem_cons_of_mem _ m)
    unfold wipeF
    rw [List.getElem?_set_ne h1]
    exact wipeF_out h2
theorem wipe_in {σ : L2.St} {i : Nat} {v : V} : ∀ {vs : List Nat}, i ∈ vs → (wipe σ vs)[i]? ≠ some (some v) := fun h e => (wipe_some e).2 h
theorem sets_out : ∀ {as : Asn} {fs : Fs} {i : Nat}, (∀ p ∈ as, p.1 ≠ i) → (sets fs as)[i]? = fs[i]?
  | [], _, _, _ => rfl
  | p :: as, fs, i, h => by
    show (sets (fs.set p.1 (.val p.2)) as)[i]? = _
    rw [sets_out fun q hq => h q (List.mem_cons_of_mem _ hq), List.getElem?_set_ne (h p List.mem_cons_self)]
theorem setsV_out : ∀ {as : List (Nat × V)} {σ : L2.St} {i : Nat}, (∀ p ∈ as, p.1 ≠ i) → (setsV σ as)[i]? = σ[i]?
  | [], _, _, _ => rfl
  | p :: as, fs, i, h => by
    show (setsV (fs.set p.1 (some p.2)) as)[i]? = _
    rw [setsV_out fun q hq => h q (List.mem_cons_of_mem _ hq), List.getElem?_set_ne (h p List.mem_cons_self)]
theorem setsV_length : ∀ {as : List (Nat × V)} {σ : L2.St}, (setsV σ as).length = σ.length
  | [], _ => rfl
  | p :: as, σ => by
    show (setsV (σ.set p.1 (some p.2)) as).length = _
    rw [setsV_length, List.length_set]
theorem RpAs.slots {K : PySem.W.Frag} {mg : Str → Option Value} {W : Wd} {vs : List Nat} : ∀ {ws : List (Nat × V)} {as : Asn}, RpAs K mg W ws as → (∀ p ∈ as, p.1 ∈ vs) → ∀ p ∈ ws, p.1 ∈ vs
  | _, _, .nil, _, p, hp => by cases hp
  | _, _, .cons r t, h, p, hp => by
    rcases List.mem_cons.mp hp with rfl | hp
    · exact h _ List.mem_cons_self
    · exact RpAs.slots t (fun q hq => h q (List.mem_cons_of_mem _ hq)) p hp

/-! ### the meaning -/
structure Cl where
  m : MA
  g : MB
  t : MT
  vs : List Nat
abbrev MI := Fs → Mu → List Va → Option (List Va × Mu)
def loopM (g : MB) (t : MT) (inner : MI) (fs : Fs) : List Va → Mu → List Va → Option (List Va × Mu)
  | [], μ, acc => some (acc, μ)
  | x :: r, μ, acc => match g x with
    | some as => match t (sets fs as) μ with
      | some (true, μ1) => match inner (sets fs as) μ1 acc with
        | some (acc1, μ2) => loopM g t inner fs r μ2 acc1
        | none => none
      | some (false, μ1) => loopM g t inner fs r μ1 acc
      | none => none
    | none => none
def compM (ok : List Va → Va → Bool) (elt : ME) : List Cl → MI
  | [], fs, μ, acc => match elt fs μ with
    | some (v, μ') => if ok acc v = true then some (acc ++ [v], μ') else none
    | none => none
  | c :: r, fs, μ, acc => match c.m fs μ with
    | some (xs, μ') => loopM c.g c.t (compM ok elt r) (wipeF fs c.vs) xs μ' acc
    | none => none

/-! ### what holds in the block -/
/-- from W to W' nothing but D's content is changed -/
structure AtD (D : Addr) (W W' : Wd) : Prop where
  upd : ∃ o, W'.H = upd W.H D o
  phi : W'.φ = W.φ
  fz : W'.fz = W.fz
theorem AtD.oth {D : Addr} {W W' : Wd} (h : AtD D W W') : ∀ a, a ≠ D → W'.H a = W.H a := fun a ha => by
  obtain ⟨o, e⟩ := h.upd
  rw [e, upd_ne ha]
/-- what is known of the collector -/
structure AcOk (D : Addr) (Ac : Wd → List Va → Prop) : Prop where
  mono : ∀ {W W' acc}, Ac W acc → Ext W W' → Ac W' acc
  noT : ∀ {W acc}, Ac W acc → (∀ o, TbM W.H (upd W.H D o)) ∧ W.H D ≠ none
  off : ∀ {W acc}, Ac W acc → D ∉ W.φ ∧ ¬ W.fz D ∧ (∀ xs, W.H D ≠ some (.tup xs)) ∧ ∀ o u, W.H D ≠ some (.frz o u)
structure Bk (X : Cx) (Ws : Wd) (D : Addr) (Ac : Wd → List Va → Prop) (W : Wd) (fs : Fs) (μ : Mu) (σ : L2.St) (acc : List Va) : Prop where
  ext : Ext Ws W
  se : Se X.K X.mg W fs μ σ
  own : ∀ (i : Nat) xs, fs[i]? = some (.own xs) → ∃ a o, σ[i]? = some (some (.ref a)) ∧ Ws.H a = some o
  ac : Ac W acc
section
variable {X : Cx} {Ws W W' : Wd} {D : Addr} {Ac : Wd → List Va → Prop} {fs fs' : Fs} {μ μ' : Mu} {σ σ' : L2.St} {acc acc' : List Va} {vs : List Nat}
theorem Bk.step (hA : AcOk D Ac) (B : Bk X Ws D Ac W fs μ σ acc) (x : Ext W W') (c : Cs X.K X.mg W' μ') : Bk X Ws D Ac W' fs μ' σ acc :=
  ⟨B.ext.trans x, B.se.ext x c, B.own, hA.mono B.ac x⟩
theorem AtD.exs (hA : AcOk D Ac) (h : AtD D W W') (a : Ac W acc) : Exs W W' := by
  obtain ⟨n1, n2, n3, n4⟩ := hA.off a
  refine ⟨⟨[], by rw [h.phi]; simp⟩, fun b z => by rw [h.fz]; exact z, fun b o z e => ?_, fun b xs e => ?_, fun b o u e => ?_⟩
  · rw [h.oth b fun q => n2 (q ▸ z)]; exact e
  · rw [h.oth b fun q => n3 xs (q ▸ e)]; exact e
  · rw [h.oth b fun q => n4 o u (q ▸ e)]; exact e
theorem Bk.put (hA : AcOk D Ac) (h0 : Ws.H D = none) (B : Bk X Ws D Ac W fs μ σ acc) (h : AtD D W W') (a : Ac W' acc') : Bk X Ws D Ac W' fs μ σ acc' := by
  have x := h.exs hA B.ac
  obtain ⟨n1, n2, n3, n4⟩ := hA.off B.ac
  have nD : ∀ {b o}, Ws.H b = some o → b ≠ D := fun {b o} e q => by rw [q, h0] at e; cases e
  have dm : ∀ b, W'.H b = none → Ws.H b = none := fun b z => by
    obtain ⟨o, e⟩ := h.upd
    rw [e] at z
    exact B.ext.dom b (dom_upd z)
  refine ⟨⟨dm, by rw [h.phi]; exact B.ext.phi, fun b z => B.ext.phin b (by rw [← h.phi]; exact z), fun b z => by rw [h.fz]; exact B.ext.fzm b z, fun b z => B.ext.fzn b (by rw [← h.fz]; exact z), fun b o e n nt => by rw [h.oth b (nD e)]; exact B.ext.keep b o e n nt⟩,
    ⟨fun i v e => let ⟨w, h1, h2⟩ := B.se.vals i v e; ⟨w, h1, Rp.mono x _ h2⟩, fun i xs e => ?_, ⟨by rw [h.phi]; exact B.se.cells.len, fun n xs e => ?_, B.se.cells.tabs.mono (by obtain ⟨o, e⟩ := h.upd; rw [e]; exact (hA.noT B.ac).1 o)⟩⟩, B.own, a⟩
  · obtain ⟨b, us, k1, k2, k3, k4, k5⟩ := B.se.owns i xs e
    obtain ⟨b', o, q1, q2⟩ := B.own i xs e
    rw [k1] at q1; cases q1
    exact ⟨b, us, k1, by rw [h.oth b (nD q2)]; exact k2, RpL.mono x _ k3, by rw [h.fz]; exact k4, by rw [h.phi]; exact k5⟩
  · obtain ⟨b, us, k1, k2, k3⟩ := B.se.cells.at_ n xs e
    refine ⟨b, us, by rw [h.phi]; exact k1, ?_, RpL.mono x _ k3⟩
    rw [h.oth b fun q => n1 (q ▸ List.mem_of_getElem? k1)]
    exact k2
/-- the block's own slots forgotten, or forgotten again -/
theorem Bk.sub (B : Bk X Ws D Ac W fs μ σ acc) (hf : ∀ (i : Nat), i ∈ vs → ∀ x, fs'[i]? = some x → x = .no) (h1 : ∀ (i : Nat), i ∉ vs → fs'[i]? = fs[i]?) (h2 : ∀ (i : Nat), i ∉ vs → σ'[i]? = σ[i]?) : Bk X Ws D Ac W fs' μ σ' acc := by
  refine ⟨B.ext, ⟨fun i v e => ?_, fun i xs e => ?_, B.se.cells⟩, fun i xs e => ?_, B.ac⟩
  · by_cases hi : i ∈ vs
    · cases hf i hi _ e
    · rw [h1 i hi] at e
      rw [h2 i hi]
      exact B.se.vals i v e
  · by_cases hi : i ∈ vs
    · cases hf i hi _ e
    · rw [h1 i hi] at e
      rw [h2 i hi]
      exact B.se.owns i xs e
  · by_cases hi : i ∈ vs
    · cases hf i hi _ e
    · rw [h1 i hi] at e
      rw [h2 i hi]
      exact B.own i xs e
theorem Bk.wipe (B : Bk X Ws D Ac W fs μ σ acc) : Bk X Ws D Ac W (wipeF fs vs) μ (wipe σ vs) acc :=
  B.sub (vs := vs) (fun i hi x e => wipeF_in hi e) (fun i hi => wipeF_out hi) (fun i hi => wipe_out hi)
theorem Bk.set {i : Nat} {w : V} {v : Va} (B : Bk X Ws D Ac W fs μ σ acc) (r : Rp X.K X.mg W w v) (hl : i < σ.length) : Bk X Ws D Ac W (fs.set i (.val v)) μ (σ.set i (some w)) acc := by
  refine ⟨B.ext, ⟨fun j u e => ?_, fun j xs e => ?_, B.se.cells⟩, fun j xs e => ?_, B.ac⟩
  · rcases get_set e with ⟨rfl, e1, _⟩ | ⟨hj, e⟩
    · cases e1
      exact ⟨w, List.getElem?_set_self hl, r⟩
    · rw [List.getElem?_set_ne (Ne.symm hj)]
      exact B.se.vals j u e
  · rcases get_set e with ⟨rfl, e1, _⟩ | ⟨hj, e⟩
    · cases e1
    · rw [List.getElem?_set_ne (Ne.symm hj)]
      exact B.se.owns j xs e
  · rcases get_set e with ⟨rfl, e1, _⟩ | ⟨hj, e⟩
    · cases e1
    · rw [List.getElem?_set_ne (Ne.symm hj)]
      exact B.own j xs e
theorem Bk.sets : ∀ {ws : List (Nat × V)} {as : Asn} {fs : Fs} {σ : L2.St}, RpAs X.K X.mg W ws as → (∀ p ∈ as, p.1 < σ.length) → Bk X Ws D Ac W fs μ σ acc → Bk X Ws D Ac W (sets fs as) μ (setsV σ ws) acc
  | _, _, _, _, .nil, _, B => B
  | _ :: ws, _ :: as, _, σ, .cons r t, h, B => Bk.sets (ws := ws) (as := as) t (fun p hp => by rw [List.length_set]; exact h p (List.mem_cons_of_mem _ hp)) (B.set r (h _ List.mem_cons_self))
end

/-! ### the clauses -/
structure ClTgt (X : Cx) (c : Cl) (g : Comprehension) : Prop where
  syn : g.is_async = 0
  tgt : SG X g.target c.g
  tst : PTs X g.ifs (rdT X.K X.mg c.t)
  ins : ∀ x as, c.g x = some as → ∀ p ∈ as, p.1 ∈ c.vs
inductive ClsOk (X : Cx) : List Nat → List Comprehension → List Cl → Prop
  | nil {vs : List Nat} : ClsOk X vs [] []
  | cons {vs : List Nat} {g : Comprehension} {gs : List Comprehension} {c : Cl} {cs : List Cl} : ClTgt X c g → SI X g.target g.iter c.m → (∀ env x, foldedSetIterable g.iter env x = pure x) → (∀ i ∈ c.vs, i ∈ vs) → ClsOk X c.vs gs cs → ClsOk X vs (g :: gs) (c :: cs)
/-- the emission -/
def EmOk (X : Cx) (b : Bool) (D : Addr) (Ac : Wd → List Va → Prop) (ok : List Va → Va → Bool) : Prop :=
  ∀ (pins : List (Addr × Obj)) (s : Shared) (σ : L2.St) (W : Wd) (y : V) (u : Value) (v : Va) (acc : List Va), Inv X pins σ W.H s → RelV y u → Rp X.K X.mg W y v → Ac W acc → ok acc v = true →
    wpAny (model X.prog X.w) X.A (call (.builtin (if b then "set.add" else "list.append")) [.ref D, u]) (fun _ s' => ∃ W', Inv X pins σ W'.H s' ∧ AtD D W W' ∧ Ac W' (acc ++ [v])) (fun _ _ => False) s
section
variable {X : Cx} {Ws : Wd} {D : Addr} {Ac : Wd → List Va → Prop} {ok : List Va → Va → Bool} {b : Bool} {elt : Expr} {me : ME} {gens : List Comprehension} {scope : Scope} {pos : Pos}
theorem em_ok (hX : X.xe = fun _ _ => False) (hA : AcOk D Ac) (h0 : Ws.H D = none) (he : SE X elt me) (hE : EmOk X b D Ac ok) {pins : List (Addr × Obj)} {s : Shared} {σ : L2.St} {W : Wd} {fs : Fs} {μ μ' : Mu} {acc acc' : List Va} (I : Inv X pins σ W.H s) (B : Bk X Ws D Ac W fs μ σ acc)
    (h : compM ok me [] fs μ acc = some (acc', μ')) : wpAny (model X.prog X.w) X.A (emitC b elt (.ref D) X.env) (fun _ s' => ∃ W', Inv X pins σ W'.H s' ∧ Exs W W' ∧ Bk X Ws D Ac W' fs μ' σ acc') (fun _ _ => False) s := by
  unfold compM at h
  split at h
  · rename_i v μ1 e1
    split at h
    · rename_i hok
      obtain ⟨rfl, rfl⟩ : acc ++ [v] = acc' ∧ μ1 = μ' := by cases h; exact ⟨rfl, rfl⟩
      have run := he.run pins s σ W.H (fun y H' => ∃ W', W'.H = H' ∧ Ext W W' ∧ Cs X.K X.mg W' μ1 ∧ Rp X.K X.mg W' y v) I ⟨W, fs, μ, v, μ1, rfl, B.se, e1, fun W' w x c r => ⟨W', rfl, x, c, r⟩⟩
      rw [hX] at run
      have fin : ∀ (u : Value) (s1 : Shared), (∃ y H', Inv X pins σ H' s1 ∧ RelV y u ∧ ∃ W', W'.H = H' ∧ Ext W W' ∧ Cs X.K X.mg W' μ1 ∧ Rp X.K X.mg W' y v) →
          wpAny (model X.prog X.w) X.A (call (.builtin (if b then "set.add" else "list.append")) [.ref D, u]) (fun _ s' => ∃ W', Inv X pins σ W'.H s' ∧ Exs W W' ∧ Bk X Ws D Ac W' fs μ1 σ (acc ++ [v])) (fun _ _ => False) s1 := fun u s1 ⟨y, H', I1, r1, W1, hW, x1, c1, rp⟩ => by
        subst hW
        have B1 := B.step hA x1 c1
        refine thnF (hE pins s1 σ W1 y u v acc I1 r1 rp B1.ac hok) fun _ s2 ⟨W2, I2, a2, ac2⟩ => ⟨W2, I2, x1.exs.trans (a2.exs hA B1.ac), B1.put hA h0 a2 ac2⟩
      cases b with
      | false => exact wpAny_bind (thnF run fun u s1 h1 => wpAny_bind (thnF (fin u s1 h1) fun _ s2 h2 => wpAny_pure h2))
      | true => exact wpAny_bind (thnF run fun u s1 h1 => wpAny_bind (wpAny_standAt (wpAny_bind (thnF (fin u s1 h1) fun _ s2 h2 => wpAny_pure h2))))
    · cases h
  · cases h
theorem loop_ok (hX : X.xe = fun _ _ => False) (hc : X.calm = true) (hA : AcOk D Ac) (h0 : Ws.H D = none) (he : SE X elt me) (hE : EmOk X b D Ac ok) : ∀ (gs : List Comprehension) (cs : List Cl) {g : Comprehension} {c : Cl} {d : Nat}, gens[d]? = some g → gens.drop (d + 1) = gs → ClTgt X c g → (∀ i ∈ c.vs, i < X.N.length) → ClsOk X c.vs gs cs →
    ∀ {pins : List (Addr × Obj)} {s : Shared} {σ : L2.St} {W : Wd} {fs : Fs} {μ μ' : Mu} {acc acc' xs : List Va} {J : It} {it : Addr} {fp : List Addr} {tn : Nat → Heap → Prop} {R : Result → Shared → Prop},
      Inv X pins σ W.H s → Bk X Ws D Ac W fs μ σ acc → Turn X.prog X.w X.K g.target J fp it tn → tn 0 s.heap → (∀ b ∈ fp, FpOk X pins W.H b) → Walk X.K X.mg W J xs → loopM c.g c.t (compM ok me cs) fs xs μ acc = some (acc', μ') →
      (∀ (i : Nat), i ∈ c.vs → ∀ x, fs[i]? = some x → x = .no) → (∀ (i : Nat), i ∈ c.vs → ∀ v, σ[i]? ≠ some (some v)) →
      (∀ s' W', Inv X pins σ W'.H s' → Exs W W' → Bk X Ws D Ac W' fs μ' σ acc' → R (.ok .next) s') →
      codeAny (model X.prog X.w) X.A (.compLoop (mkC b elt gens scope pos) d (.ref it) (.ref D) X.env) R s := by
  intro gs
  induction gs with
  | nil =>
    intro cs g c d hg hdr ht hvs hcs pins s σ W fs μ μ' acc acc' xs J it fp tn R I B T st hfp wk hL hwf hws hR
    cases hcs
    have hn : gens[d + 1]? = none := by
      rw [List.getElem?_eq_none_iff]
      exact List.drop_eq_nil_iff.mp hdr
    obtain ⟨tg, iter, ifs, asy⟩ := g
    have hsy := ht.syn
    simp only at hsy
    subst hsy
    have stat : ∀ {H' : Hp}, (∀ b ∈ fp, H' b = none) → ∀ b ∈ fp, FpOk X pins H' b := fun hn b hb => ⟨hn b hb, (hfp b hb).2⟩
    refine loop_last hg hn (fun n s' => ∃ i W' μ1 acc1, n = xs.length - i ∧ Inv X pins σ W'.H s' ∧ tn i s'.heap ∧ (∀ b ∈ fp, W'.H b = none) ∧ Exs W W' ∧ Bk X Ws D Ac W' fs μ1 σ acc1 ∧ loopM c.g c.t (compM ok me []) fs (xs.drop i) μ1 acc1 = some (acc', μ')) ?_ xs.length
      ⟨0, W, μ, acc, rfl, I, st, fun b hb => (hfp b hb).1, Exs.refl W, B, by rw [List.drop_zero]; exact hL⟩
    rintro n s1 ⟨i, W1, μ1, acc1, rfl, I1, st1, n1, x1, B1, L1⟩
    obtain ⟨w1, w2⟩ := wk W1 x1 i
    cases hx : xs[i]? with
    | none =>
      have hl : xs.length ≤ i := List.getElem?_eq_none_iff.mp hx
      rw [List.drop_eq_nil_of_le hl] at L1
      unfold loopM at L1
      cases L1
      exact thnF (T.done X rfl rfl rfl hc i pins s1 σ W1.H (fun _ _ => False) I1 (stat n1) st1 (w2 hl)) fun r s2 ⟨hr, I2⟩ => by
        subst hr
        exact hR s2 W1 I2 x1 B1
    | some dv =>
      obtain ⟨go, g2⟩ := w1 dv hx
      have hi : i < xs.length := (List.getElem?_eq_some_iff.mp hx).1
      have hd : xs.drop i = dv :: xs.drop (i + 1) := by
        rw [List.drop_eq_getElem_cons hi]
        congr 1
        exact (List.getElem?_eq_some_iff.mp hx).2
      rw [hd] at L1
      unfold loopM at L1
      split at L1
      rotate_left
      · cases L1
      rename_i as eas
      refine thnF (T.item X rfl rfl rfl hc i pins s1 σ W1.H (fun _ _ => False) I1 (stat n1) st1 go) fun r s2 ⟨u, hr, h2⟩ => ?_
      subst hr
      refine thnF h2 fun _ s3 ⟨x, H3, I3, r3, y3, st3, n3⟩ => ?_
      obtain ⟨W3, gr, rfl, rp3⟩ := g2 x H3 y3
      have I3' := I3.pinned (stat n3) (T.obj _ _ st3)
      have B3 := B1.step hA gr.ext (B1.se.cells.grow gr)
      have hins := ht.ins dv as eas
      have tr := ht.tgt.run _ s3 σ W3.H x u (fun σ' H' => H' = W3.H ∧ ∃ ws, RpAs X.K X.mg W3 ws as ∧ σ' = setsV σ ws) I3' r3 ⟨W3, dv, as, rfl, rp3, eas, fun ws k => ⟨rfl, ws, k, rfl⟩⟩
      rw [hX] at tr
      refine thnF tr fun _ s4 ⟨σ4, H4, I4, hH4, ws, k4, hσ4⟩ => ?_
      subst hH4 hσ4
      have hl4 : ∀ p ∈ as, p.1 < σ.length := fun p hp => by rw [I3.len]; exact hvs _ (hins p hp)
      have B4 := B3.sets k4 hl4
      have hin4 := k4.slots hins
      -- the turn's end
      have fin : ∀ {s' : Shared} {W' : Wd} {σ' : L2.St} {fs' : Fs} {μ2 : Mu} {acc2 : List Va}, Inv X (pins ++ pinsAt fp s3.heap) σ' W'.H s' → Exs W3 W' → Bk X Ws D Ac W' fs' μ2 σ' acc2 → σ'.length = σ.length → (∀ (j : Nat), j ∉ c.vs → fs'[j]? = fs[j]?) → (∀ (j : Nat), j ∉ c.vs → σ'[j]? = σ[j]?) →
          loopM c.g c.t (compM ok me []) fs (xs.drop (i + 1)) μ2 acc2 = some (acc', μ') →
          ∃ m, m < xs.length - i ∧ ∃ i W' μ1 acc1, m = xs.length - i ∧ Inv X pins σ W'.H s' ∧ tn i s'.heap ∧ (∀ b ∈ fp, W'.H b = none) ∧ Exs W W' ∧ Bk X Ws D Ac W' fs μ1 σ acc1 ∧ loopM c.g c.t (compM ok me []) fs (xs.drop i) μ1 acc1 = some (acc', μ') := fun {s' W' σ' fs' μ2 acc2} I' x' B' hl hf hσ L' => by
        have pin' : ∀ b ∈ fp, ∀ o, s3.heap.get? b = some o → s'.heap.get? b = some o ∧ W'.H b = none := fun b hb o e =>
          let z := I'.pin (b, o) (List.mem_append_right _ (List.mem_append_right _ (mem_pinsAt hb e)))
          ⟨z.1, z.2.1⟩
        refine ⟨xs.length - (i + 1), by omega, i + 1, W', μ2, acc2, rfl, I'.unpinned.weak hl.symm (fun j v e => ?_), T.keep _ _ _ st3 fun b hb o e => (pin' b hb o e).1, fun b hb => ?_, x1.trans (gr.ext.exs.trans x'), B'.sub hwf (fun j hj => (hf j hj).symm) (fun j hj => (hσ j hj).symm), L'⟩
        · have hj : j ∉ c.vs := fun z => hws j z v e
          rw [hσ j hj]; exact e
        · obtain ⟨o, e, _⟩ := T.obj _ _ st3 b hb
          exact (pin' b hb o e).2
      have f4 : ∀ (j : Nat), j ∉ c.vs → (sets fs as)[j]? = fs[j]? := fun j hj => sets_out fun p hp z => hj (z ▸ hins p hp)
      have s4' : ∀ (j : Nat), j ∉ c.vs → (setsV σ ws)[j]? = σ[j]? := fun j hj => setsV_out fun p hp z => hj (z ▸ hin4 p hp)
      split at L1
      · rename_i μ2 et
        have ts := ht.tst.run _ s4 _ W3.H (fun b H' => b = true ∧ ∃ W', W'.H = H' ∧ Ext W3 W' ∧ Cs X.K X.mg W' μ2) I4 ⟨W3, _, _, _, _, rfl, B4.se, et, fun W' x c => ⟨rfl, W', rfl, x, c⟩⟩
        rw [hX] at ts
        refine thnF ts fun bb s5 ⟨H5, I5, hb, W5, hW5, x5, c5⟩ => ?_
        subst hb hW5
        rw [if_pos rfl]
        split at L1
        · rename_i acc3 μ3 ei
          refine thnF (em_ok hX hA h0 he hE I5 (B4.step hA x5 c5) ei) fun _ s6 ⟨W6, I6, x6, B6⟩ => ?_
          exact fin I6 (x5.exs.trans x6) B6 setsV_length f4 s4' L1
        · cases L1
      · rename_i μ2 et
        have ts := ht.tst.run _ s4 _ W3.H (fun b H' => b = false ∧ ∃ W', W'.H = H' ∧ Ext W3 W' ∧ Cs X.K X.mg W' μ2) I4 ⟨W3, _, _, _, _, rfl, B4.se, et, fun W' x c => ⟨rfl, W', rfl, x, c⟩⟩
        rw [hX] at ts
        refine thnF ts fun bb s5 ⟨H5, I5, hb, W5, hW5, x5, c5⟩ => ?_
        subst hb hW5
        rw [if_neg (by simp)]
        exact fin I5 x5.exs (B4.step hA x5 c5) setsV_length f4 s4' L1
      · cases L1
  | cons g1 gs1 ih =>
    intro cs g c d hg hdr ht hvs hcs pins s σ W fs μ μ' acc acc' xs J it fp tn R I B T st hfp wk hL hwf hws hR
    cases hcs with
    | @cons _ _ _ c1 cs1 ht1 hs1 hfold hsub hcs1 =>
    have hn : gens[d + 1]? = some g1 := by
      have := congrArg (fun l => l[0]?) hdr
      simpa using this
    have hdr1 : gens.drop (d + 1 + 1) = gs1 := by
      rw [← List.drop_drop (i := 1), hdr]; rfl
    obtain ⟨tg, iter, ifs, asy⟩ := g
    obtain ⟨tg1, iter1, ifs1, asy1⟩ := g1
    have hsy := ht.syn
    have hsy1 := ht1.syn
    simp only at hsy hsy1
    subst hsy hsy1
    have stat : ∀ {H' : Hp}, (∀ b ∈ fp, H' b = none) → ∀ b ∈ fp, FpOk X pins H' b := fun hn b hb => ⟨hn b hb, (hfp b hb).2⟩
    refine loop_more hg hn (hfold X.env) (fun n s' => ∃ i W' μ1 acc1, n = xs.length - i ∧ Inv X pins σ W'.H s' ∧ tn i s'.heap ∧ (∀ b ∈ fp, W'.H b = none) ∧ Exs W W' ∧ Bk X Ws D Ac W' fs μ1 σ acc1 ∧ loopM c.g c.t (compM ok me (c1 :: cs1)) fs (xs.drop i) μ1 acc1 = some (acc', μ')) ?_ xs.length
      ⟨0, W, μ, acc, rfl, I, st, fun b hb => (hfp b hb).1, Exs.refl W, B, by rw [List.drop_zero]; exact hL⟩
    rintro n s1 ⟨i, W1, μ1, acc1, rfl, I1, st1, n1, x1, B1, L1⟩
    obtain ⟨w1, w2⟩ := wk W1 x1 i
    cases hx : xs[i]? with
    | none =>
      have hl : xs.length ≤ i := List.getElem?_eq_none_iff.mp hx
      rw [List.drop_eq_nil_of_le hl] at L1
      unfold loopM at L1
      cases L1
      exact thnF (T.done X rfl rfl rfl hc i pins s1 σ W1.H (fun _ _ => False) I1 (stat n1) st1 (w2 hl)) fun r s2 ⟨hr, I2⟩ => by
        subst hr
        exact hR s2 W1 I2 x1 B1
    | some dv =>
      obtain ⟨go, g2⟩ := w1 dv hx
      have hi : i < xs.length := (List.getElem?_eq_some_iff.mp hx).1
      have hd : xs.drop i = dv :: xs.drop (i + 1) := by
        rw [List.drop_eq_getElem_cons hi]
        congr 1
        exact (List.getElem?_eq_some_iff.mp hx).2
      rw [hd] at L1
      unfold loopM at L1
      split at L1
      rotate_left
      · cases L1
      rename_i as eas
      refine thnF (T.item X rfl rfl rfl hc i pins s1 σ W1.H (fun _ _ => False) I1 (stat n1) st1 go) fun r s2 ⟨u, hr, h2⟩ => ?_
      subst hr
      refine thnF h2 fun _ s3 ⟨x, H3, I3, r3, y3, st3, n3⟩ => ?_
      obtain ⟨W3, gr, rfl, rp3⟩ := g2 x H3 y3
      have I3' := I3.pinned (stat n3) (T.obj _ _ st3)
      have B3 := B1.step hA gr.ext (B1.se.cells.grow gr)
      have hins := ht.ins dv as eas
      have tr := ht.tgt.run _ s3 σ W3.H x u (fun σ' H' => H' = W3.H ∧ ∃ ws, RpAs X.K X.mg W3 ws as ∧ σ' = setsV σ ws) I3' r3 ⟨W3, dv, as, rfl, rp3, eas, fun ws k => ⟨rfl, ws, k, rfl⟩⟩
      rw [hX] at tr
      refine thnF tr fun _ s4 ⟨σ4, H4, I4, hH4, ws, k4, hσ4⟩ => ?_
      subst hH4 hσ4
      have hl4 : ∀ p ∈ as, p.1 < σ.length := fun p hp => by rw [I3.len]; exact hvs _ (hins p hp)
      have B4 := B3.sets k4 hl4
      have hin4 := k4.slots hins
      have fin : ∀ {s' : Shared} {W' : Wd} {σ' : L2.St} {fs' : Fs} {μ2 : Mu} {acc2 : List Va}, Inv X (pins ++ pinsAt fp s3.heap) σ' W'.H s' → Exs W3 W' → Bk X Ws D Ac W' fs' μ2 σ' acc2 → σ'.length = σ.length → (∀ (j : Nat), j ∉ c.vs → fs'[j]? = fs[j]?) → (∀ (j : Nat), j ∉ c.vs → σ'[j]? = σ[j]?) →
          loopM c.g c.t (compM ok me (c1 :: cs1)) fs (xs.drop (i + 1)) μ2 acc2 = some (acc', μ') →
          ∃ m, m < xs.length - i ∧ ∃ i W' μ1 acc1, m = xs.length - i ∧ Inv X pins σ W'.H s' ∧ tn i s'.heap ∧ (∀ b ∈ fp, W'.H b = none) ∧ Exs W W' ∧ Bk X Ws D Ac W' fs μ1 σ acc1 ∧ loopM c.g c.t (compM ok me (c1 :: cs1)) fs (xs.drop i) μ1 acc1 = some (acc', μ') := fun {s' W' σ' fs' μ2 acc2} I' x' B' hl hf hσ L' => by
        have pin' : ∀ b ∈ fp, ∀ o, s3.heap.get? b = some o → s'.heap.get? b = some o ∧ W'.H b = none := fun b hb o e =>
          let z := I'.pin (b, o) (List.mem_append_right _ (List.mem_append_right _ (mem_pinsAt hb e)))
          ⟨z.1, z.2.1⟩
        refine ⟨xs.length - (i + 1), by omega, i + 1, W', μ2, acc2, rfl, I'.unpinned.weak hl.symm (fun j v e => ?_), T.keep _ _ _ st3 fun b hb o e => (pin' b hb o e).1, fun b hb => ?_, x1.trans (gr.ext.exs.trans x'), B'.sub hwf (fun j hj => (hf j hj).symm) (fun j hj => (hσ j hj).symm), L'⟩
        · have hj : j ∉ c.vs := fun z => hws j z v e
          rw [hσ j hj]; exact e
        · obtain ⟨o, e, _⟩ := T.obj _ _ st3 b hb
          exact (pin' b hb o e).2
      have f4 : ∀ (j : Nat), j ∉ c.vs → (sets fs as)[j]? = fs[j]? := fun j hj => sets_out fun p hp z => hj (z ▸ hins p hp)
      have s4' : ∀ (j : Nat), j ∉ c.vs → (setsV σ ws)[j]? = σ[j]? := fun j hj => setsV_out fun p hp z => hj (z ▸ hin4 p hp)
      split at L1
      · rename_i μ2 et
        have ts := ht.tst.run _ s4 _ W3.H (fun b H' => b = true ∧ ∃ W', W'.H = H' ∧ Ext W3 W' ∧ Cs X.K X.mg W' μ2) I4 ⟨W3, _, _, _, _, rfl, B4.se, et, fun W' x c => ⟨rfl, W', rfl, x, c⟩⟩
        rw [hX] at ts
        refine thnF ts fun bb s5 ⟨H5, I5, hb, W5, hW5, x5, c5⟩ => ?_
        subst hb hW5
        rw [if_pos rfl]
        have B5 := B4.step hA x5 c5
        split at L1
        · rename_i acc3 μ3 ei
          unfold compM at ei
          split at ei
          · rename_i ys μ4 em
            have src := hs1.run _ s5 _ W5.H (fun J1 H' => ∃ W', W'.H = H' ∧ Ext W5 W' ∧ Cs X.K X.mg W' μ4 ∧ Walk X.K X.mg W' J1 ys) I5 ⟨W5, _, _, _, _, rfl, B5.se, em, fun W' J1 x c wk1 => ⟨W', rfl, x, c, wk1⟩⟩
            rw [hX] at src
            refine thnF src fun xv s6 h6 => thnF h6 fun itv s7 h7 => ?_
            obtain ⟨it1, fp1, tn1, J1, H7, e7, I7, T1, st7, f7, W7, hW7, x7, c7, wk7⟩ := h7
            subst e7 hW7
            have B7 := (B5.step hA x7 c7).wipe (vs := c1.vs)
            have I7' : Inv X (pins ++ pinsAt fp s3.heap) (wipe (setsV σ ws) c1.vs) W7.H s7 := I7.weak (wipe_length _ _) fun j v e => (wipe_some e).1
            have loop1 : codeAny (model X.prog X.w) X.A (.compLoop (mkC b elt gens scope pos) (d + 1) (.ref it1) (.ref D) X.env) (fun r s' => match r with
                | .ok _ => ∃ m, m < xs.length - i ∧ ∃ i W' μ1 acc1, m = xs.length - i ∧ Inv X pins σ W'.H s' ∧ tn i s'.heap ∧ (∀ b ∈ fp, W'.H b = none) ∧ Exs W W' ∧ Bk X Ws D Ac W' fs μ1 σ acc1 ∧ loopM c.g c.t (compM ok me (c1 :: cs1)) fs (xs.drop i) μ1 acc1 = some (acc', μ')
                | .error _ => False) s7 := by
              refine ih cs1 hn hdr1 ht1 (fun j hj => hvs j (hsub j hj)) hcs1 I7' B7 T1 st7 f7 wk7 ei (fun j hj x e => wipeF_in hj e) (fun j hj v => wipe_in hj) fun s' W' I' x' B' => ?_
              refine fin I' (x5.exs.trans (x7.exs.trans x')) B' (by rw [wipe_length, setsV_length]) (fun j hj => ?_) (fun j hj => ?_) L1
              · rw [wipeF_out fun z => hj (hsub j z)]; exact f4 j hj
              · rw [wipe_out fun z => hj (hsub j z)]; exact s4' j hj
            exact start_at hn loop1 (T1.self X.A 0 _ _ _ st7 loop1)
          · cases ei
        · cases L1
      · rename_i μ2 et
        have ts := ht.tst.run _ s4 _ W3.H (fun b H' => b = false ∧ ∃ W', W'.H = H' ∧ Ext W3 W' ∧ Cs X.K X.mg W' μ2) I4 ⟨W3, _, _, _, _, rfl, B4.se, et, fun W' x c => ⟨rfl, W', rfl, x, c⟩⟩
        rw [hX] at ts
        refine thnF ts fun bb s5 ⟨H5, I5, hb, W5, hW5, x5, c5⟩ => ?_
        subst hb hW5
        rw [if_neg (by simp)]
        exact fin I5 x5.exs (B4.step hA x5 c5) setsV_length f4 s4' L1
      · cases L1
end
end Ev
end MEvG2
section MEvG3
/-! Ev, part G3: comprehensions as expressions. -/
namespace Ev
open PySem PySem.Spec PyProof.Rows L2
theorem clause0 {g : Comprehension} {gs : List Comprehension} (h : g.is_async = 0) : (g :: gs)[0]? = some ⟨g.target, g.iter, g.ifs, 0⟩ := by cases g; simp only at h; subst h; rfl
theorem first0 {g : Comprehension} {gs : List Comprehension} (h : g.is_async = 0) : firstAsync (g :: gs) = false := by cases g; simp only at h; subst h; rfl
theorem firstI {g : Comprehension} {gs : List Comprehension} {env : Env} : firstIter (g :: gs) env = eval g.iter env := by cases g; rfl
/-- what is asked of the block, in whatever context it starts -/
structure BlkIn (Y : Cx) (c : Cl) (g : Comprehension) (gs : List Comprehension) (cs : List Cl) (elt : Expr) (me : ME) : Prop where
  tgt : ClTgt Y c g
  cls : ClsOk Y c.vs gs cs
  elt : SE Y elt me
def isBlk (X : Cx) (scope : Scope) (P : Cx → Prop) : Prop := ∀ (s : Shared) (H : Hp) (C : Addr) (cl : List (PySem.Str × Addr)) (fp : List Addr), P (X.blk s H scope (compEnvC scope cl C X.env) fp)
def compF (ok : List Va → Va → Bool) (me : ME) (c : Cl) (cs : List Cl) : MA := fun fs μ => match c.m fs μ with
  | some (xs, μ1) => loopM c.g c.t (compM ok me cs) (wipeF fs c.vs) xs μ1 []
  | none => none
/-- a new collector -/
structure NewAc (X : Cx) (b : Bool) (newAcc : Sem Value) (ob : Obj) (o : Addr → HO) (Ac : Addr → Wd → List Va → Prop) (ok : List Va → Va → Bool) : Prop where
  new : ∀ {Q : Value → Shared → Prop} {s : Shared} {E : Value → Shared → Prop}, Q (.ref s.heap.objs.size) { s with heap := s.heap.push ob } → wpAny (model X.prog X.w) X.A newAcc Q E s
  obj : ∀ (H : Hp) (h : Heap), ObjOk X.prog X.w (upd H h.objs.size (o h.objs.size)) (h.push ob) h.objs.size (o h.objs.size)
  ac0 : ∀ (W : Wd) (D : Addr) (h : W.H D = none), Ac D (W.newT D (o D) h) []
  acOk : ∀ D, AcOk D (Ac D)
  emit : ∀ (scope : Scope) (D : Addr), isBlk X scope fun Y => EmOk Y b D (Ac D) ok
section
variable {X : Cx} {b : Bool} {newAcc : Sem Value} {ob : Obj} {o : Addr → HO} {Ac : Addr → Wd → List Va → Prop} {ok : List Va → Va → Bool} {elt : Expr} {me : ME} {g : Comprehension} {gs : List Comprehension} {c : Cl} {cs : List Cl} {scope : Scope} {pos pos' : Pos} {own : List (PySem.Str × Nat)}
theorem comp_core (hc : X.calm = true) (hN : X.N.Nodup) (nw : NewAc X b newAcc ob o Ac ok) (hi : SI X g.target g.iter c.m) (bo : BlkOk X.N X.env.scope scope own) (hown : own.map (·.2) = c.vs) (hs : ∀ x, foldedSetIterable g.iter X.env x = pure x)
    (hB : isBlk X scope fun Y => BlkIn Y c g gs cs elt me) {pins : List (Addr × Obj)} {s : Shared} {σ : L2.St} {W : Wd} {fs : Fs} {μ μ' : Mu} {acc' : List Va} {use : Option (Value → Sem Unit)} {Qf : Value → Shared → Prop}
    (I : Inv X pins σ W.H s) (S : Se X.K X.mg W fs μ σ) (h : compF ok me c cs fs μ = some (acc', μ'))
    (hRR : ∀ D C s' m Wf, Inv X pins σ Wf.H s' → Ext W Wf → Cs X.K X.mg Wf μ' → Ac D Wf acc' → W.H D = none → s'.heap.Ns C m → FpOk X pins Wf.H C → compPost (model X.prog X.w) X.A X.xe use Qf (.ref D) C (.ok .next) s') :
    wpAny (model X.prog X.w) X.A (comprehension (mkC b elt (g :: gs) scope pos) scope X.env pos' newAcc false (eval g.iter X.env) use) Qf X.xe s := by
  have hfree : ∀ y ∈ scope.names, y.2 = .free → ∃ c, X.env.cells.lookup y.1 = some c := fun y hy e => by
    rcases bo.free y hy e with k | k
    · exact I.ok.has _ (.inl k)
    · exact I.ok.has _ (.inr k)
  unfold compF at h
  split at h
  rotate_left
  · cases h
  rename_i xs μ1 e1
  have hcl : clausesOf (mkC b elt (g :: gs) scope pos) = g :: gs := by cases b <;> rfl
  refine wpAny_comprehension_free (use := use) hcl hs (closure_ok hfree) bo.kind (fun y hy e => by rw [bo.uniq y hy, e])
    (thn (hi.run pins s σ W.H (fun J H' => ∃ W', W'.H = H' ∧ Ext W W' ∧ Cs X.K X.mg W' μ1 ∧ Walk X.K X.mg W' J xs) I ⟨W, fs, μ, xs, μ1, rfl, S, e1, fun W' J x c wk => ⟨W', rfl, x, c, wk⟩⟩) fun xv s1 hx => thn hx fun itv s2 h2 => ?_)
  obtain ⟨it, fp, tn, J, H2, e, I2, T, st2, f2, W2, hW2, x2, c2, wk2⟩ := h2
  subst e hW2
  refine nw.new (newEnv_comp ?_)
  generalize hD : s2.heap.objs.size = D
  have hDn : W2.H D = none := I2.hok.fresh (Nat.le_of_eq hD)
  have hDW : W.H D = none := x2.old_none hDn
  have g3 := W2.grow_newT D (o D) hDn
  generalize hs3 : ({ s2 with heap := s2.heap.push ob } : Shared) = s3
  have I3 : Inv X pins σ (W2.newT D (o D) hDn).H s3 := by
    rw [← hs3]
    refine I2.laid (t' := s2.toks) (fun b o e => Heap.get?_push_of_some _ e) (Nat.le_of_eq hD) ?_
    rw [← hD]
    exact nw.obj W2.H s2.heap
  have ac3 := nw.ac0 W2 D hDn
  have h3 : s3.heap = s2.heap.push ob := by rw [← hs3]
  have sz : ∀ b ∈ fp, b < s2.heap.objs.size := fun b hb => by
    obtain ⟨o, e, _⟩ := T.obj _ _ st2 b hb
    exact Heap.lt_size e
  have f3 : ∀ b ∈ fp, FpOk X pins (W2.newT D (o D) hDn).H b ∧ b < s3.heap.objs.size := fun b hb => by
    have hlt := sz b hb
    refine ⟨⟨?_, (f2 b hb).2⟩, by rw [h3, Heap.size_push]; exact Nat.lt_succ_of_lt hlt⟩
    show upd W2.H D (o D) b = none
    rw [upd_ne (by rw [← hD]; exact Nat.ne_of_lt hlt)]
    exact (f2 b hb).1
  have st3 : tn 0 s3.heap := T.keep _ _ _ st2 fun b _ o e => by rw [h3]; exact Heap.get?_push_of_some _ e
  have wk3 : Walk X.K X.mg (W2.newT D (o D) hDn) J xs := fun W' y i => wk2 W' (g3.ext.exs.trans y) i
  have B3 : Bk X W2 D (Ac D) (W2.newT D (o D) hDn) fs μ1 σ [] := ⟨g3.ext, (S.ext x2 c2).grow g3, fun i xs e => by
    obtain ⟨a, vs, k1, k2, _⟩ := (S.ext x2 c2).owns i xs e
    exact ⟨a, _, k1, k2⟩, ac3⟩
  have B4 := B3.wipe (vs := c.vs)
  generalize hW3 : W2.newT D (o D) hDn = W3 at I3 ac3 f3 wk3 B3 B4 g3
  have I4 := block_start I3 bo hN f3
  have bi := hB s3 W3.H s3.heap.objs.size (cellsFrom (s3.heap.objs.size + 1) scope.names (cloFrom X.env.cells scope.names [])) fp
  have em := nw.emit scope D s3 W3.H s3.heap.objs.size (cellsFrom (s3.heap.objs.size + 1) scope.names (cloFrom X.env.cells scope.names [])) fp
  show codeAny _ _ (.compStart (mkC b elt (g :: gs) scope pos) 0 (.ref it) (.ref D) (compEnvC scope (cellsFrom (s3.heap.objs.size + 1) scope.names (cloFrom X.env.cells scope.names [])) s3.heap.objs.size X.env)) (compPost (model X.prog X.w) X.A X.xe use Qf (.ref D) s3.heap.objs.size) { s3 with heap := pushCells (s3.heap.push { cls := .type "dict", data := .dict #[] }) scope.names }
  have nfp : ∀ b ∈ fp, W3.H b = none := fun b hb => (f3 b hb).1.1
  generalize hce : compEnvC scope (cellsFrom (s3.heap.objs.size + 1) scope.names (cloFrom X.env.cells scope.names [])) s3.heap.objs.size X.env = ce at I4 bi em ⊢
  have cL : ce.locals = s3.heap.objs.size := by subst hce; rfl
  generalize hs4 : ({ s3 with heap := pushCells (s3.heap.push { cls := .type "dict", data := .dict #[] }) scope.names } : Shared) = s4 at I4 ⊢
  have st4 : tn 0 s4.heap := T.keep _ _ _ st3 fun b _ o e => by rw [← hs4]; exact pushCells_keeps _ _ _ _ (Heap.get?_push_of_some _ e)
  have f4 : ∀ b ∈ fp, FpOk (X.blk s3 W3.H scope ce fp) [] W3.H b := fun b hb =>
    ⟨nfp b hb, (I4.ok.exf b hb).1, I4.ok.exfs b hb, .inl hb, fun x c e => (I4.ok.exf b hb).2 x c e, fun p hp => absurd (show p ∈ ([] : List (Addr × Obj)) ++ [] from hp) (by simp)⟩
  have hvs : ∀ i ∈ c.vs, i < X.N.length := fun i hi => by
    rw [← hown] at hi
    obtain ⟨p, hp, rfl⟩ := List.mem_map.mp hi
    exact (List.getElem?_eq_some_iff.mp (bo.ix p hp)).1
  rw [hown] at I4
  have loop : codeAny (model X.prog X.w) X.A (.compLoop (mkC b elt (g :: gs) scope pos) 0 (.ref it) (.ref D) ce) (compPost (model X.prog X.w) X.A X.xe use Qf (.ref D) s3.heap.objs.size) s4 := by
    refine loop_ok (X := X.blk s3 W3.H scope ce fp) (Ws := W2) rfl hc (nw.acOk D) hDn bi.elt em gs cs rfl rfl bi.tgt hvs bi.cls I4 (show Bk (X.blk s3 W3.H scope ce fp) W2 D (Ac D) W3 (wipeF fs c.vs) μ1 (wipe σ c.vs) [] from ⟨B4.ext, B4.se, B4.own, B4.ac⟩) T st4 f4 wk3 h
      (fun i hi x e => wipeF_in hi e) (fun i hi v => wipe_in hi) fun s6 W6 I6 x6 B6 => ?_
    have I7 : Inv X pins σ W6.H s6 := I3.call' (ch := fp) I6.os I6.base I6.hok I6.bare fun b hb => ⟨(f3 b hb).1.2.2.2.1, (f3 b hb).1.2.1, (f3 b hb).1.2.2.2.2.1, (f3 b hb).1.2.2.2.2.2⟩
    have nC : W6.H s3.heap.objs.size = none := by
      have z : W6.H ce.locals = none := I6.free
      rw [cL] at z
      exact z
    obtain ⟨m, hn, _⟩ := I6.loc
    have hn : s6.heap.Ns ce.locals m := hn
    rw [cL] at hn
    exact hRR D s3.heap.objs.size s6 m W6 I7 (x2.trans B6.ext) B6.se.cells B6.ac hDW hn (I3.fpOk (Nat.le_refl _) nC)
  have hsy : g.is_async = 0 := bi.tgt.syn
  exact start_at (gens := g :: gs) (clause0 hsy) loop (T.self X.A 0 _ _ _ st4 loop)
end

/-! ### lists -/
def AcL (K : PySem.W.Frag) (mg : Str → Option Value) (D : Addr) (W : Wd) (acc : List Va) : Prop := ∃ vs, W.H D = some (.lst vs) ∧ RpL K mg W vs acc ∧ D ∉ W.φ ∧ ¬ W.fz D
def okL (acc : List Va) (_ : Va) : Bool := decide (acc.length < sizeLine)
theorem Wd.setAt {W : Wd} {D : Addr} {vs ws : List V} (hD : W.H D = some (.lst vs)) : ∃ W' : Wd, W'.H = upd W.H D (.lst ws) ∧ AtD D W W' := by
  refine ⟨⟨W.φ, W.fz, upd W.H D (.lst ws), W.nd, fun a h => ?_, fun a h => ?_⟩, rfl, ⟨⟨_, rfl⟩, rfl, rfl⟩⟩
  · by_cases e : a = D
    · subst e; exact ⟨ws, upd_same⟩
    · obtain ⟨xs, q⟩ := W.cl a h
      exact ⟨xs, by rw [upd_ne e]; exact q⟩
  · refine ⟨(W.fl a h).1, ?_⟩
    by_cases e : a = D
    · subst e; exact ⟨ws, upd_same⟩
    · obtain ⟨xs, q⟩ := (W.fl a h).2
      exact ⟨xs, by rw [upd_ne e]; exact q⟩
theorem acL_ok {K : PySem.W.Frag} {mg : Str → Option Value} (D : Addr) : AcOk D (AcL K mg D) where
  mono := fun ⟨vs, h1, h2, h3, h4⟩ x => by
    obtain ⟨k1, k2, k3⟩ := own_ext x h1 h4 h3
    exact ⟨vs, k1, RpL.mono x.exs _ h2, k3, k2⟩
  noT := fun ⟨vs, h1, _⟩ => ⟨fun o => TbM.lst h1, by rw [h1]; simp⟩
  off := fun ⟨vs, h1, h2, h3, h4⟩ => ⟨h3, h4, (fun xs e => by rw [h1] at e; cases e), (fun o u e => by rw [h1] at e; cases e)⟩
theorem emL {Y : Cx} (D : Addr) : EmOk Y false D (AcL Y.K Y.mg D) okL := fun pins s σ W y u v acc I r rp ⟨vs, h1, h2, h3, h4⟩ hok => by
  unfold okL at hok
  have hz : vs.length < sizeLine := by rw [h2.length]; simpa using hok
  refine app_ok I h1 hz r fun s' I' => ?_
  obtain ⟨W', hW, ad⟩ := Wd.setAt (ws := vs ++ [y]) h1
  have x := ad.exs (acL_ok (K := Y.K) (mg := Y.mg) D) ⟨vs, h1, h2, h3, h4⟩
  exact ⟨W', by rw [hW]; exact I', ad, vs ++ [y], by rw [hW]; exact upd_same, (RpL.mono x _ h2).append (.cons (Rp.mono x _ rp) .nil), by rw [ad.phi]; exact h3, by rw [ad.fz]; exact h4⟩
theorem newL {X : Cx} : NewAc X false (newList []) { cls := .type "list", data := .seq ([] : List Value).toArray } (fun _ => .lst []) (AcL X.K X.mg) okL where
  new := fun h => wpAny_newObj_type h (by show 0 ≤ sizeLine; decide)
  obj := fun H h => ⟨Nat.zero_le _, [], 0, .nil, Heap.get?_push_size _ rfl⟩
  ac0 := fun W D h => ⟨[], upd_same, .nil, show D ∉ W.φ from Wd.none_phi h, show ¬ W.fz D from Wd.none_fz h⟩
  acOk := acL_ok
  emit := fun scope D s H C cl fp => emL D
section
variable {X : Cx} {elt : Expr} {me : ME} {g : Comprehension} {gs : List Comprehension} {c : Cl} {cs : List Cl} {scope : Scope} {pos pos' : Pos} {own : List (PySem.Str × Nat)}
/-- a list comprehension's list, as a value -/
theorem sf_lc (hc : X.calm = true) (hN : X.N.Nodup) (hi : SI X g.target g.iter c.m) (bo : BlkOk X.N X.env.scope scope own) (hB : isBlk X scope fun Y => BlkIn Y c g gs cs elt me) (hs : ∀ x, foldedSetIterable g.iter X.env x = pure x) (hown : own.map (·.2) = c.vs) (ha : g.is_async = 0) :
    SF X (.ListComp elt (g :: gs) scope pos) (compF okL me c cs) := by
  refine ⟨fun pins s σ H Q I ⟨W, fs, μ, acc', μ', hW, S, e, q⟩ => ?_⟩
  subst hW
  have e0 : eval (.ListComp elt (g :: gs) scope pos) X.env = comprehension (.ListComp elt (g :: gs) scope pos) scope X.env (firstIterPos (g :: gs) pos) (newList []) false (eval g.iter X.env) := by
    rw [eval_ListComp, first0 ha, firstI]
  rw [e0]
  refine comp_core (b := false) hc hN newL hi bo hown hs hB I S e fun D C s' m Wf I' x cc ⟨vs, a1, a2, a3, a4⟩ hD hn f => ⟨m, hn, fun h'' sb => ?_⟩
  obtain ⟨f0, f1, f2, f3, f4, f5⟩ := f
  exact ⟨.ref D, Wf.H, I'.turned (t' := s'.toks) (fun b o hb e => (sb.2 b hb).trans e) f0 f1 f3 f4 f5, rfl, q Wf D vs x cc a2 a1 a3 a4 hD⟩
/-- name = [..] on one line, the name a local -/
theorem sf_setLc {i : Nat} {y : PySem.Str} {py spos : Pos} (hc : X.calm = true) (hN : X.N.Nodup) (hy : X.N[i]? = some y) (hyl : X.env.scope.names.lookup y = some .local) (hsw : swapsWith (.ListComp elt (g :: gs) scope pos) (some (.Name y py)) spos.line X.env = pure true)
    (hi : SI X g.target g.iter c.m) (bo : BlkOk X.N X.env.scope scope own) (hB : isBlk X scope fun Y => BlkIn Y c g gs cs elt me) (hs : ∀ x, foldedSetIterable g.iter X.env x = pure x) (hown : own.map (·.2) = c.vs) (ha : g.is_async = 0) :
    PS X (.Assign [.Name y py] (.ListComp elt (g :: gs) scope pos) spos) (tAsg (rdF X.K X.mg (compF okL me c cs)) (gName i)) := by
  refine ⟨fun pins s σ H D I ⟨W, fs, μ, acc', μ', hW, S, e, q⟩ => ?_⟩
  subst hW
  rw [exec_Assign_Name_used _ _ _ _ hsw]
  refine wpAny_bind (wpAny_standAt (wpAny_bind ?_))
  show wpAny _ X.A (do let _ ← comprehension (.ListComp elt (g :: gs) scope pos) scope X.env (firstIterPos (g :: gs) pos) (newList []) (firstAsync (g :: gs)) (firstIter (g :: gs) X.env) (some (assign (.Name y py) X.env))) _ _ s
  rw [first0 ha, firstI]
  refine wpAny_bind (thn (comp_core (b := false) (Qf := fun _ s' => SP X pins D .next s') hc hN newL hi bo hown hs hB I S e fun L C s' m Wf I' x cc ⟨vs, a1, a2, a3, a4⟩ hD hn f => ?_) fun _ s' hq => wpAny_pure (wpAny_pure hq))
  show wpAny _ _ (assign (.Name y py) X.env (.ref L)) _ _ _
  refine wpAny_assign_Name (store_ok2 (v := V.ref L) I' hN hy (.inl hyl) rfl (fun s2 I2 ⟨a, sb, ha⟩ => ?_) (.inr hyl))
  obtain ⟨f0, f1, f2, f3, f4, f5⟩ := f
  have haC : C ≠ a := by
    rcases ha with z | z
    · rw [z]; exact f1
    · exact fun e => f4 y a z e.symm
  refine ⟨m, hn.sameBut sb haC, fun h3 sb3 => ?_⟩
  exact ⟨_, Wf.H, I2.turned (t' := s2.toks) (fun b o hb e => (sb3.2 b hb).trans e) f0 f1 f3 f4 f5, q Wf L vs x cc a2 a1 a3 a4 hD⟩
end
end Ev
end MEvG3
section MEvH1
/-! Ev, part H1: sets of nested tuples (of whole numbers and texts). -/
namespace Ev
open PySem PySem.Spec PyProof.Rows L2
abbrev NK := NestedKey
/-- the tuple at a is the key k -/
abbrev IsN (h : Heap) (k : NK) (a : Addr) : Prop := NestedIs h k (.ref a) ∧ k.depth ≤ 8
section
variable {P : Program} {w : World} {A : Around} {E : Value → Shared → Prop} {s : Shared}
theorem IsN.tupAt {h : Heap} {k : NK} {a : Addr} (x : IsN h k a) : ∃ o vs n ks, k = .tup ks ∧ h.get? a = some o ∧ o.cls = .type "tuple" ∧ o.data = .seq vs n ∧ NestedAll h ks vs.toList := by
  obtain ⟨x, _⟩ := x
  cases x with
  | tup h1 h2 h3 h4 => exact ⟨_, _, _, _, rfl, h1, h2, h3, h4⟩
theorem IsN.stay {h h' : Heap} {k : NK} {a : Addr} (x : IsN h k a) (hk : ∀ b o vs n, h.get? b = some o → o.data = .seq vs n → h'.get? b = some o) : IsN h' k a := ⟨NestedIs.at hk _ _ x.1, x.2⟩
theorem IsN.same {h h' : Heap} {k : NK} {a b : Addr} {o : Obj} {es : Array (Int × Value)} {ep : Nat} {t : SetTable} (x : IsN h k b) (ho : h.get? a = some o) (hd : o.data = .set es ep t) (hs : Heap.SameBut a h h') : IsN h' k b :=
  x.stay fun c u vs n e1 e2 => (hs.2 c fun z => by rw [z, ho] at e1; cases e1; rw [hd] at e2; cases e2).trans e1
theorem IsN.keep {h h' : Heap} {k : NK} {a : Addr} (x : IsN h k a) (hk : ∀ c o, h.get? c = some o → h'.get? c = some o) : IsN h' k a := x.stay fun b o _ _ e _ => hk b o e
/-! ### small questions -/
theorem allN {h : Heap} : ∀ {ks : List NK} {vs : List Value}, NestedAll h ks vs → ∀ v ∈ vs, ∃ k, k ∈ ks ∧ NestedIs h k v
  | _, _, .nil, v, hv => by cases hv
  | _, _, .cons r t, v, hv => by
    rcases List.mem_cons.mp hv with rfl | hv
    · exact ⟨_, List.mem_cons_self, r⟩
    · obtain ⟨k, hk, q⟩ := allN t v hv
      exact ⟨k, List.mem_cons_of_mem _ hk, q⟩
theorem depth_mem {k : NK} : ∀ {ks : List NK}, k ∈ ks → k.depth ≤ NestedKey.depthAll ks
  | x :: r, h => by
    simp only [NestedKey.depthAll]
    rcases List.mem_cons.mp h with rfl | h
    · omega
    · have := depth_mem h; omega
theorem ofAClass_key : ∀ (n : Nat) (k : NK) (v : Value) (Q : Bool → Shared → Prop), NestedIs s.heap k v → k.depth ≤ n → Q false s → wpAny (model P w) A (ofAClassStatement n v) Q E s := by
  intro n
  induction n with
  | zero =>
    intro k v Q hk hd h
    cases hk with
    | none => exact wpAny_pure h
    | bool _ => exact wpAny_pure h
    | int _ _ => exact wpAny_pure h
    | text _ _ => exact wpAny_pure h
    | tup h1 h2 h3 h4 => simp only [NestedKey.depth] at hd; omega
  | succ n ih =>
    intro k v Q hk hd h
    cases hk with
    | none => exact wpAny_pure h
    | bool _ => exact wpAny_pure h
    | int _ _ => exact wpAny_pure h
    | text _ _ => exact wpAny_pure h
    | @tup a o vs m ks h1 h2 h3 h4 =>
      unfold ofAClassStatement
      refine wpAny_bind (wpAny_typeOf (T := "tuple") ⟨o, h1, h2⟩ ?_)
      dsimp only
      have e : (("tuple" : String) == "tuple") = true := by decide
      simp only [e, if_true, Bool.not_true, Bool.false_eq_true, if_false]
      try refine wpAny_bind (wpAny_pure ?_)
      try simp only [Bool.not_true, Bool.false_eq_true, if_false]
      show wpAny _ _ (seqItems? (.ref a) >>= _) _ _ s
      refine wpAny_bind (wpAny_seqItems h1 h3 ?_)
      dsimp only
      refine wpAny_bind ?_
      show wpAny _ _ (forIn vs _ _) _ _ s
      rw [← Array.forIn_toList]
      refine wpAny_forIn_list _ (fun rest r s' => r.1 = none ∧ s' = s ∧ ∀ u ∈ rest, ∃ k', k' ∈ ks ∧ NestedIs s.heap k' u) _ ?_ ?_ _ _ ⟨rfl, rfl, allN h4⟩
      · rintro u rest r s' ⟨hr, rfl, hall⟩
        obtain ⟨k', hk', hu⟩ := hall u List.mem_cons_self
        have hd' : k'.depth ≤ n := by
          have q := depth_mem hk'
          simp only [NestedKey.depth] at hd
          omega
        refine wpAny_bind (ih k' u _ hu hd' ?_)
        simp only [Bool.false_eq_true, if_false]
        exact wpAny_pure ⟨rfl, rfl, fun u' hu' => hall u' (List.mem_cons_of_mem _ hu')⟩
      · rintro ⟨r1, r2⟩ s' ⟨hr, rfl, _⟩
        simp only at hr
        subst hr
        exact wpAny_pure h
theorem hashBy_key : ∀ (n : Nat) (k : NK) (v : Value) (Q : Bool → Shared → Prop), NestedIs s.heap k v → k.depth ≤ n → (∀ b, Q b s) → wpAny (model P w) A (hashByValue n v) Q E s := by
  intro n
  induction n with
  | zero =>
    intro k v Q hk hd h
    cases hk with
    | none => exact wpAny_pure (h _)
    | bool _ => exact wpAny_pure (h _)
    | int _ _ => exact wpAny_pure (h _)
    | text _ _ => exact wpAny_pure (h _)
    | tup h1 h2 h3 h4 => simp only [NestedKey.depth] at hd; omega
  | succ n ih =>
    intro k v Q hk hd h
    cases hk with
    | none => exact wpAny_pure (h _)
    | bool _ => exact wpAny_pure (h _)
    | int _ _ => exact wpAny_pure (h _)
    | text _ _ => exact wpAny_pure (h _)
    | @tup a o vs m ks h1 h2 h3 h4 =>
      unfold hashByValue
      refine wpAny_bind (wpAny_specialOf (T := "tuple") ⟨o, h1, h2⟩ F.slot_tuple_hash.lookup ?_)
      show wpAny _ _ (seqItems? (.ref a) >>= _) _ _ s
      refine wpAny_bind (wpAny_seqItems h1 h3 ?_)
      refine wpAny_bind ?_
      show wpAny _ _ (forIn vs _ _) _ _ s
      rw [← Array.forIn_toList]
      refine wpAny_forIn_list _ (fun rest r s' => s' = s ∧ ∀ u ∈ rest, ∃ k', k' ∈ ks ∧ NestedIs s.heap k' u) _ ?_ ?_ _ _ ⟨rfl, allN h4⟩
      · rintro u rest r s' ⟨rfl, hall⟩
        obtain ⟨k', hk', hu⟩ := hall u List.mem_cons_self
        have hd' : k'.depth ≤ n := by
          have q := depth_mem hk'
          simp only [NestedKey.depth] at hd
          omega
        refine wpAny_bind (ih k' u _ hu hd' fun b => ?_)
        cases b with
        | true =>
          simp only [Bool.not_true, Bool.false_eq_true, if_false]
          exact wpAny_pure ⟨rfl, fun u' hu' => hall u' (List.mem_cons_of_mem _ hu')⟩
        | false =>
          simp only [Bool.not_false, if_true]
          exact wpAny_pure (wpAny_pure (h _))
      · rintro ⟨r1, r2⟩ s' ⟨rfl, _⟩
        cases r1 with
        | none => exact wpAny_pure (h _)
        | some b => exact wpAny_pure (h _)
/-- a search among such tuples shows nothing -/
theorem seen_key {k : NK} {b : Addr} {Q : Bool → Shared → Prop} (hk : IsN s.heap k b) {ys : List Value} (hy : ∀ y ∈ ys, ∃ k' c, y = Value.ref c ∧ IsN s.heap k' c) (h : Q false s) : wpAny (model P w) A (searchCouldBeSeen (.ref b) ys) Q E s := by
  unfold searchCouldBeSeen
  refine wpAny_bind ?_
  refine wpAny_forIn_list _ (fun rest r s' => r.1 = none ∧ s' = s ∧ ∀ y ∈ rest, ∃ k' c, y = Value.ref c ∧ IsN s.heap k' c) _ ?_ ?_ _ _ ⟨rfl, rfl, hy⟩
  · rintro v rest r s' ⟨hr, rfl, hall⟩
    obtain ⟨k', c, rfl, hc⟩ := hall v List.mem_cons_self
    have rest' : ∀ y ∈ rest, ∃ k' c, y = Value.ref c ∧ IsN s'.heap k' c := fun u hu' => hall u (List.mem_cons_of_mem _ hu')
    dsimp only
    by_cases hv : (b == c || (carriedByValue (.ref b) && carriedByValue (.ref c))) = true
    · exact wp_if_pos hv (wpAny_pure ⟨rfl, rfl, rest'⟩)
    · refine wp_if_neg hv (wpAny_bind (quiet_key _ _ 8 _ hk.1 hk.2 _ _ _ ?_))
      simp only [Bool.not_true, Bool.false_eq_true, if_false]
      refine wpAny_bind (quiet_key _ _ 8 _ hc.1 hc.2 _ _ _ ?_)
      simp only [Bool.not_true, Bool.false_eq_true, if_false]
      refine wpAny_bind (ofAClass_key 8 _ _ _ hk.1 hk.2 ?_)
      simp only [Bool.false_eq_true, if_false]
      refine wpAny_bind (ofAClass_key 8 _ _ _ hc.1 hc.2 ?_)
      simp only [Bool.false_eq_true, if_false]
      exact wpAny_pure ⟨rfl, rfl, rest'⟩
  · rintro ⟨r1, r2⟩ s' ⟨hr, rfl, _⟩
    simp only at hr
    subst hr
    exact wpAny_pure h
end

/-! ### the object -/
abbrev KL := List (Addr × NK)
def rowN (w : World) (p : Addr × NK) : Int × Value := (p.2.hash w, .ref p.1)
structure SetN (w : World) (h : Heap) (a : Addr) (L : KL) (es : Array (Int × Value)) (ep : Nat) (t : SetTable) : Prop where
  ob : ∃ o, h.get? a = some o ∧ o.ExactSet ∧ o.data = .set es ep t
  rows : es.toList = L.map (rowN w)
  tab : TabOk t (L.map fun p => p.2.hash w)
  nd : (L.map (·.2)).Nodup
  tup : ∀ p ∈ L, IsN h p.2 p.1
  led : w.params.followText "set-order" = true ∨ t.led = true
  room : L.length * 5 < t.mask * 3
  few : L.length < 64
section
variable {P : Program} {w : World} {A : Around} {E : Value → Shared → Prop} {s : Shared} {a : Addr} {L : KL} {es : Array (Int × Value)} {ep : Nat} {t : SetTable}
theorem rows_size {α : Type} {f : α → Int × Value} {L : List α} (h : es.toList = L.map f) : es.size = L.length := by
  have := congrArg List.length h
  simpa using this
theorem rows_get {α : Type} {f : α → Int × Value} {L : List α} (h : es.toList = L.map f) {i : Nat} {p : α} (hp : L[i]? = some p) : es[i]? = some (f p) := by
  rw [← Array.getElem?_toList, h, List.getElem?_map, hp]; rfl
theorem fits_of (h1 : t.place.size = es.size) (h2 : t.dummies = #[]) (h3 : es.size ≤ t.mask) : t.fits es.size = true := by
  unfold SetTable.fits SetTable.fill
  rw [h2]
  simp only [Bool.and_eq_true, beq_iff_eq, decide_eq_true_eq]
  exact ⟨h1, by show t.place.size + 0 ≤ t.mask; omega⟩
theorem SetN.size (R : SetN w s.heap a L es ep t) : es.size = L.length := rows_size R.rows
theorem SetN.fits (R : SetN w s.heap a L es ep t) : t.fits es.size = true := by
  have h1 := R.tab.sz
  rw [List.length_map] at h1
  have h2 := R.size
  have h3 := R.room
  exact fits_of (by omega) R.tab.dm (by omega)
theorem SetN.gw (R : SetN w s.heap a L es ep t) : ¬ t.gaveWay = true := by
  unfold SetTable.gaveWay
  rw [mask_odd R.tab.mok]
  decide
theorem SetN.live (R : SetN w s.heap a L es ep t) {i j : Nat} (hi : t.place.toList[i]? = some j) : ∃ p, L[i]? = some p := by
  have h1 : i < t.place.toList.length := (List.getElem?_eq_some_iff.mp hi).1
  have h2 := R.tab.sz
  rw [List.length_map] at h2
  rw [Array.length_toList] at h1
  exact ⟨_, List.getElem?_eq_getElem (by omega)⟩
/-- the walk of a search, its n-th step -/
abbrev stepAt (m : Nat) (h : Int) (n : Nat) : SetTable.Probe := nth m (runAt m (SetTable.bits h % (m + 1)) (SetTable.bits h)) n
theorem stepAt_add (m : Nat) (h : Int) (c q : Nat) : nth m (stepAt m h c) q = stepAt m h (c + q) := (nth_add m c _ q).symm
theorem nth_clean (m : Nat) : ∀ (n : Nat) (p : SetTable.Probe), p.dummy = none → (nth m p n).dummy = none
  | 0, _, h => h
  | n + 1, p, h => nth_clean m n (adv m p) (by unfold adv; split <;> exact h)
/-- the search from the c-th step of the way on; K is the first free place on it -/
theorem find_from (R : SetN w s.heap a L es ep t) {x : Addr} {k : NK} (hx : IsN s.heap k x) (hu : A.units + 8 < cLine) {K : Nat} (hKf : K < 10 * SetTable.turns t.mask)
    (hK : way t.mask (k.hash w) K ∉ t.place.toList) (hKb : ∀ c, c < K → way t.mask (k.hash w) c ∈ t.place.toList) {Q : SetFound → Shared → Prop}
    (hin : k ∈ L.map (·.2) → Q (.there none) s) (hout : k ∉ L.map (·.2) → Q (.free (way t.mask (k.hash w) K) false) s) :
    ∀ (f c : Nat) (stand : Option SetTable.Probe), stand.getD (t.probeStart (k.hash w)) = stepAt t.mask (k.hash w) c → c ≤ K → K - c < f →
      (∀ (i : Nat) p, L[i]? = some p → p.2 = k → ∃ c', c ≤ c' ∧ c' < K ∧ t.place.toList[i]? = some (way t.mask (k.hash w) c')) →
      wpAny (model P w) A (setSearchFrom a (.ref x) (k.hash w) true f stand) Q E s := by
  intro f
  induction f with
  | zero => intro c stand _ _ hf; exact absurd hf (Nat.not_lt_zero _)
  | succ f ih =>
    intro c stand hst hc hf hre
    obtain ⟨o, ho, hex, hd⟩ := R.ob
    rw [setSearchFrom_succ]
    refine wpAny_bind (wpAny_setState_of ho hd R.fits ?_)
    dsimp only
    refine wp_if_neg R.gw ?_
    try refine wpAny_bind (wpAny_pure ?_)
    have ej : ∀ q, (nth t.mask (stepAt t.mask (k.hash w) c) q).j = way t.mask (k.hash w) (c + q) := fun q => congrArg SetTable.Probe.j (stepAt_add t.mask _ c q)
    have cK : c + (K - c) = K := by omega
    have spec := go_spec t R.tab.ris R.tab.dm (fun i => (es[i]?.map (·.1)).getD 0) (k.hash w) (10 * SetTable.turns t.mask) (K - c) _ (nth_clean t.mask c (runAt t.mask (SetTable.bits (k.hash w) % (t.mask + 1)) (SetTable.bits (k.hash w))) rfl) (by omega)
      (fun q hq => by rw [ej]; exact hKb (c + q) (by omega)) (by rw [ej, cK]; exact hK)
    have hashAt : ∀ (i : Nat) p, L[i]? = some p → (es[i]?.map (·.1)).getD 0 = p.2.hash w := fun i p hp => by rw [rows_get R.rows hp]; rfl
    rcases spec with ⟨q, i, hq, hi, hh, hno, hpr⟩ | ⟨hno, hpr⟩
    · have hpr' : t.probe (fun i => (es[i]?.map (·.1)).getD 0) (k.hash w) (stand.getD (t.probeStart (k.hash w))) = some (.candidate (way t.mask (k.hash w) (c + q)) i (stepAt t.mask (k.hash w) (c + (q + 1)))) := by
        rw [hst, ← ej, ← stepAt_add]
        exact hpr
      rw [hpr']
      dsimp only
      rw [ej] at hi
      obtain ⟨p, hp⟩ := R.live hi
      have hmem : p ∈ L := List.mem_of_getElem? hp
      have hpt := R.tup p hmem
      have rest : wpAny (model P w) A (searchRest a (.ref x) (k.hash w) true f es t (way t.mask (k.hash w) (c + q)) i (stepAt t.mask (k.hash w) (c + (q + 1)))) Q E s := by
        unfold searchRest
        rw [rows_get R.rows hp]
        dsimp only [rowN]
        refine wpAny_bind (wpAny_holding ((nestedKind P w).eqBool hu hpt hx ?_))
        refine wpAny_bind (wpAny_setState_of ho hd R.fits ?_)
        dsimp only
        by_cases hkk : p.2 = k
        · refine wp_if_pos (by simp [hkk]) (wpAny_pure (hin (List.mem_map.mpr ⟨p, hmem, hkk⟩)))
        · refine wp_if_neg (by simp [hkk]) ?_
          try refine wpAny_bind (wpAny_pure ?_)
          rw [sameMem]
          dsimp only
          have hsl : t.slot (way t.mask (k.hash w) (c + q)) = .live i := slot_live R.tab.ris hi
          simp only [if_true, hsl, rows_get R.rows hp, rowN]
          refine wpAny_bind (wpAny_isSame_ref_self (wpAny_bind (wpAny_pure ?_)))
          simp only [if_true]
          refine wp_if_neg (by simp [hkk]) ?_
          refine ih (c + (q + 1)) _ rfl (by omega) (by omega) fun i0 p0 h0 hk0 => ?_
          obtain ⟨c', a1, a2, a3⟩ := hre i0 p0 h0 hk0
          refine ⟨c', ?_, a2, a3⟩
          rcases Nat.lt_trichotomy c' (c + q) with z | z | z
          · refine absurd ((hashAt i0 p0 h0).trans (by rw [hk0])) (hno (c' - c) i0 (by omega) ?_)
            rw [ej, show c + (c' - c) = c' by omega]; exact a3
          · rw [z] at a3
            have s0 := slot_live R.tab.ris a3
            rw [hsl] at s0
            injection s0 with s0
            rw [← s0, hp] at h0
            cases h0
            exact absurd hk0 hkk
          · omega
      by_cases hl : t.led = true
      · refine wp_if_neg (by simp [hl]) ?_
        try refine wpAny_bind (wpAny_pure ?_)
        exact rest
      · refine wp_if_pos (by simp [hl]) ?_
        refine wpAny_bind (seen_key hx (fun y hy => ?_) ?_)
        · obtain ⟨e, he, ee⟩ := List.mem_map.mp hy
          have he1 : e ∈ es ∧ e.1 = k.hash w := by simpa using he
          have he2 : e ∈ es.toList := by simpa using he1.1
          rw [R.rows] at he2
          obtain ⟨p2, hp2, e2⟩ := List.mem_map.mp he2
          exact ⟨p2.2, p2.1, by rw [← ee, ← e2]; rfl, R.tup p2 hp2⟩
        · refine wp_if_neg (by decide) ?_
          try refine wpAny_bind (wpAny_pure ?_)
          exact rest
    · have hpr' : t.probe (fun i => (es[i]?.map (·.1)).getD 0) (k.hash w) (stand.getD (t.probeStart (k.hash w))) = some (.empty (way t.mask (k.hash w) K) none) := by
        have e2 : way t.mask (k.hash w) K = (nth t.mask (stepAt t.mask (k.hash w) c) (K - c)).j := by rw [ej, cK]
        rw [hst, e2]
        exact hpr
      rw [hpr']
      dsimp only
      refine wpAny_pure (hout fun hm => ?_)
      obtain ⟨p0, h0, hk0⟩ := List.mem_map.mp hm
      obtain ⟨i0, e0⟩ := List.getElem?_of_mem h0
      obtain ⟨c', a1, a2, a3⟩ := hre i0 p0 e0 hk0
      refine hno (c' - c) i0 (by omega) ?_ ((hashAt i0 p0 e0).trans (by rw [hk0]))
      rw [ej, show c + (c' - c) = c' by omega]; exact a3
/-- the search as adding asks for it -/
theorem find_at (R : SetN w s.heap a L es ep t) {x : Addr} {k : NK} (hx : IsN s.heap k x) (hu : A.units + 8 < cLine) {Q : SetFound → Shared → Prop}
    (hin : k ∈ L.map (·.2) → Q (.there none) s)
    (hout : ∀ K, k ∉ L.map (·.2) → way t.mask (k.hash w) K ∉ t.place.toList → (∀ c, c < K → way t.mask (k.hash w) c ∈ t.place.toList) → Q (.free (way t.mask (k.hash w) K) false) s) :
    wpAny (model P w) A (setSearch a (.ref x) (k.hash w) true) Q E s := by
  have hroom := R.room
  obtain ⟨K, hKf, hK, hKb⟩ := R.tab.first (by rw [List.length_map]; omega) (k.hash w)
  have hbig : K < 100000 := by
    have : 10 * SetTable.turns t.mask ≤ 1420 := by
      unfold SetTable.turns
      rcases R.tab.mok with e | e | e <;> omega
    omega
  unfold setSearch
  refine find_from R hx hu hKf hK hKb hin (fun hn => hout K hn hK hKb) 100000 0 none rfl (Nat.zero_le _) (by omega) fun i p hp hk => ?_
  have hi : (L.map fun p => p.2.hash w)[i]? = some (k.hash w) := by rw [List.getElem?_map, hp, ← hk]; rfl
  have hil : i < t.place.toList.length := by
    have h1 : i < L.length := (List.getElem?_eq_some_iff.mp hp).1
    have h2 := R.tab.sz
    rw [List.length_map] at h2
    rw [Array.length_toList]
    omega
  have hj := List.getElem?_eq_getElem hil
  obtain ⟨c, hc, e⟩ := R.tab.before hK hi hj
  exact ⟨c, Nat.zero_le _, hc, by rw [hj, e]⟩

/-! ### laid anew -/
theorem order_map {α : Type} {f : α → Int × Value} {L : List α} {order : Array Nat} (hr : es.toList = L.map f) (hp : order.toList.Perm (List.range L.length)) :
    ∃ L2 : List α, (order.filterMap (es[·]?)).toList = L2.map f ∧ L2.Perm L ∧ (L2.map fun p => (f p).1) = order.toList.map fun i => (es.map (·.1)).getD i 0 := by
  have ent : ∀ (i : Nat), es[i]? = (L[i]?).map f := fun i => by rw [← Array.getElem?_toList, hr, List.getElem?_map]
  have all : ∀ i ∈ order.toList, i < L.length := fun i hi => List.mem_range.mp (hp.mem_iff.mp hi)
  refine ⟨order.toList.filterMap fun i => L[i]?, ?_, ?_, ?_⟩
  · rw [Array.toList_filterMap, List.map_filterMap]
    congr 1
    funext i
    exact ent i
  · refine (hp.filterMap _).trans (List.Perm.of_eq ?_)
    have key : ∀ n, n ≤ L.length → (List.range n).filterMap (fun i => L[i]?) = L.take n := by
      intro n
      induction n with
      | zero => intro _; simp
      | succ n ih =>
        intro hn
        have hlt : n < L.length := hn
        rw [List.range_succ, List.filterMap_append, ih (Nat.le_of_lt hlt), List.take_succ, List.getElem?_eq_getElem hlt]
        simp [hlt]
    rw [key L.length (Nat.le_refl _), List.take_length]
  · generalize order.toList = l at all
    induction l with
    | nil => rfl
    | cons i l ih =>
      have hi := all i List.mem_cons_self
      rw [List.filterMap_cons_some (List.getElem?_eq_getElem hi), List.map_cons, List.map_cons, ih fun j hj => all j (List.mem_cons_of_mem _ hj)]
      congr 1
      have e5 : (es.map (·.1))[i]? = some (f L[i]).1 := by rw [Array.getElem?_map, ent, List.getElem?_eq_getElem hi]; rfl
      simp [Array.getD_eq_getD_getElem?, e5]
theorem relay_n {o : Obj} (ho : s.heap.get? a = some o) (hex : o.ExactSet) (hd : o.data = .set es ep t) (hrows : es.toList = L.map (rowN w)) (hsz : t.place.size = es.size) (hdm : t.dummies = #[]) (hfl : es.size ≤ t.mask)
    (nd : (L.map (·.2)).Nodup) (tup : ∀ p ∈ L, IsN s.heap p.2 p.1) (ld : w.params.followText "set-order" = true ∨ t.led = true) (few : L.length < 64) {wanted M : Nat}
    (hw : SetTable.sizeAbove wanted - 1 = M) (hM : MaskOk M) (hw2 : SetTable.sizeAbove wanted ≤ 128) (hn : L.length * 5 < M * 3) {Q : Unit → Shared → Prop}
    (hQ : ∀ h' L' es' ep' t', Heap.SameBut a s.heap h' → SetN w h' a L' es' ep' t' → L'.Perm L → Q () { s with heap := h' }) : wpAny (model P w) A (setRelay a wanted) Q E s := by
  have hsl : es.size = L.length := rows_size hrows
  obtain ⟨t', order, e, hp, T, em, el, ep', ed⟩ := relaid_ok t (hs := es.map (·.1)) (wanted := wanted) hw hM (by rw [Array.size_map, hsl]; omega)
  rw [Array.size_map, hsl] at hp
  obtain ⟨L2, r1, r2, r3⟩ := order_map hrows hp
  rw [← r3] at T
  have hs2 : (order.filterMap (es[·]?)).size = es.size := by rw [rows_size r1, r2.length_eq, hsl]
  rw [setRelay_eq]
  refine wpAny_bind (wpAny_setState_of ho hd (fits_of hsz hdm hfl) ?_)
  dsimp only
  refine wp_if_neg (by rw [sizeLine_eq]; omega) ?_
  try refine wpAny_bind (wpAny_pure ?_)
  rw [e]
  dsimp only
  refine wpAny_bind ?_
  refine wp_if_neg (by rw [hs2]; simp) ?_
  try refine wpAny_bind (wpAny_pure ?_)
  refine wpAny_pure ?_
  dsimp only
  refine wpAny_storeSet_of ho hd ?_ (by rw [hs2, hsl, sizeLine_eq]; omega)
  have sb : Heap.SameBut a s.heap (s.heap.update a (Obj.putSet (order.filterMap (es[·]?)) t')) := Heap.SameBut.update ..
  refine hQ _ L2 (order.filterMap (es[·]?)) (ep + 1) t' sb ⟨⟨_, store_at ho hd, ⟨hex.1, hex.2.1, hex.2.2⟩, rfl⟩, r1, T, (r2.map (·.2)).nodup_iff.mpr nd, fun p hpm => (tup p (r2.mem_iff.mp hpm)).same ho hd sb, by rw [el]; exact ld, ?_, by rw [r2.length_eq]; exact few⟩ r2
  rw [r2.length_eq, em]
  exact hn
/-- adding -/
theorem add_n (R : SetN w s.heap a L es ep t) {x : Addr} {k : NK} (hx : IsN s.heap k x) (hu : A.units + 8 < cLine) (hfew : L.length + 1 < 64) {Q : Bool → Shared → Prop}
    (hQ : ∀ b h' L' es' ep' t', Heap.SameBut a s.heap h' → SetN w h' a L' es' ep' t' → (k ∈ L.map (·.2) → L' = L) → (k ∉ L.map (·.2) → L'.Perm ((x, k) :: L)) → Q b { s with heap := h' }) :
    wpAny (model P w) A (setAddHashed a (.ref x) (k.hash w)) Q E s := by
  obtain ⟨o, ho, hex, hd⟩ := R.ob
  have hsl := R.size
  have hroom := R.room
  unfold setAddHashed
  refine wpAny_holding ?_
  rw [show (100000 : Nat) = 99999 + 1 from rfl, setAddHashedIn_succ]
  refine wpAny_bind (wpAny_setState_of ho hd R.fits ?_)
  dsimp only
  refine wp_if_neg (by simp [byScan, Value.scannable]) ?_
  try refine wpAny_bind (wpAny_pure ?_)
  refine wpAny_bind (find_at R hx hu (fun hm => ?_) fun K hm hK hb => ?_)
  · exact wpAny_pure (hQ false s.heap L es ep t (Heap.SameBut.refl a s.heap) R (fun _ => rfl) fun z => absurd hm z)
  · dsimp only
    refine wpAny_bind (wpAny_setState_of ho hd R.fits ?_)
    dsimp only
    obtain ⟨q1, q2, q3, q4, q5, q6, q7, q8, q9⟩ := R.tab.put hK hb
    generalize hpt : t.put (way t.mask (k.hash w) K) = pt at q1 q3 q4 q5 q6 q7 q8 q9 ⊢
    obtain ⟨t1, p⟩ := pt
    dsimp only at q1 q3 q4 q5 q6 q7 q8 q9 ⊢
    subst q1
    have hin : (SetTable.insertAt es (SetTable.below t.place (way t.mask (k.hash w) K)) (k.hash w, Value.ref x)).toList = (L.take (SetTable.below t.place (way t.mask (k.hash w) K)) ++ (x, k) :: L.drop (SetTable.below t.place (way t.mask (k.hash w) K))).map (rowN w) := by
      rw [SetTable.toList_insertAt, R.rows]
      simp [rowN, List.map_take, List.map_drop]
    generalize hpp : SetTable.below t.place (way t.mask (k.hash w) K) = p at q2 q3 hin ⊢
    have pm := put_perm L p (x, k)
    have hlen : (L.take p ++ (x, k) :: L.drop p).length = L.length + 1 := pm.length_eq
    have hhs : (L.take p ++ (x, k) :: L.drop p).map (fun p => p.2.hash w) = (L.map fun p => p.2.hash w).take p ++ k.hash w :: (L.map fun p => p.2.hash w).drop p := by
      simp [List.map_take, List.map_drop]
    rw [← hhs] at q3
    have nd1 : ((L.take p ++ (x, k) :: L.drop p).map (·.2)).Nodup := by
      refine (pm.map (·.2)).nodup_iff.mpr ?_
      rw [List.map_cons]
      exact List.nodup_cons.mpr ⟨hm, R.nd⟩
    have hes : (SetTable.insertAt es p (k.hash w, Value.ref x)).size = L.length + 1 := by rw [rows_size hin, hlen]
    generalize SetTable.insertAt es p (k.hash w, Value.ref x) = es1 at hin hes ⊢
    generalize L.take p ++ (x, k) :: L.drop p = L1 at pm hlen q3 nd1 hin
    have go1 : ∀ t1 : SetTable, t1.mask = t.mask → t1.led = t.led → TabOk t1 (L1.map fun p => p.2.hash w) → t1.fill = (L.map fun p => p.2.hash w).length + 1 → wpAny (model P w) A (do
        storeSet a es1 t1
        if (!false && t1.tooFull) = true then setRelay a (SetTable.grown (es.size + 1))
        return true) Q E s := fun t1 q4 q5 q3 q9 => by
      refine wpAny_bind (wpAny_storeSet_of ho hd ?_ (by rw [hes, sizeLine_eq]; omega))
      have sb : Heap.SameBut a s.heap (s.heap.update a (Obj.putSet es1 t1)) := Heap.SameBut.update ..
      have ho1 := store_at (es' := es1) (t' := t1) ho hd
      generalize s.heap.update a (Obj.putSet es1 t1) = h1 at sb ho1 ⊢
      have tup1 : ∀ p ∈ L1, IsN h1 p.2 p.1 := fun p hp => by
        rcases List.mem_cons.mp (pm.mem_iff.mp hp) with e | hp
        · rw [e]; exact hx.same ho hd sb
        · exact (R.tup p hp).same ho hd sb
      have ld1 : w.params.followText "set-order" = true ∨ t1.led = true := by rw [q5]; exact R.led
      by_cases hf : t1.tooFull = true
      · first
          | (refine wpAny_bind ?_; refine wp_if_pos (by simp [hf]) ?_)
          | (refine wp_if_pos (by simp [hf]) ?_; refine wpAny_bind ?_)
        have hfull : (L.length + 1) * 5 ≥ t1.mask * 3 := by
          have h := hf
          unfold SetTable.tooFull at h
          rw [decide_eq_true_eq, q9, List.length_map] at h
          exact h
        rw [hsl]
        have hsz1 : t1.place.size = es1.size := by
          have h := q3.sz
          rw [List.length_map, hlen] at h
          rw [h, hes]
        have two : (t.mask = 7 ∧ L.length = 4) ∨ (t.mask = 31 ∧ L.length = 18) := by
          rcases R.tab.mok with e | e | e
          · left; rw [q4, e] at hfull; rw [e] at hroom; exact ⟨e, by omega⟩
          · right; rw [q4, e] at hfull; rw [e] at hroom; exact ⟨e, by omega⟩
          · exfalso; rw [q4, e] at hfull; omega
        have go : ∀ M, SetTable.sizeAbove (SetTable.grown (L.length + 1)) - 1 = M → MaskOk M → SetTable.sizeAbove (SetTable.grown (L.length + 1)) ≤ 128 → (L.length + 1) * 5 < M * 3 →
            wpAny (model P w) A (setRelay a (SetTable.grown (L.length + 1))) (fun _ s' => wpAny (model P w) A (pure true) Q E s') E { s with heap := h1 } := fun M h1' h2' h3' h4' => by
          refine relay_n (s := { s with heap := h1 }) ho1 ⟨hex.1, hex.2.1, hex.2.2⟩ rfl hin hsz1 q3.dm (by rw [hes, q4]; rcases two with ⟨e, e2⟩ | ⟨e, e2⟩ <;> omega) nd1 tup1 ld1 (by rw [hlen]; exact hfew) h1' h2' h3' (by rw [hlen]; exact h4') ?_
          intro h2 L2 es2 ep2 t2 sb2 R2 pm2
          exact wpAny_pure (hQ true h2 L2 es2 ep2 t2 (sb.trans sb2) R2 (fun z => absurd z hm) fun _ => pm2.trans pm)
        rcases two with ⟨_, e2⟩ | ⟨_, e2⟩
        · exact go 31 (by rw [e2, size_20]) (.inr (.inl rfl)) (by rw [e2, size_20]; decide) (by omega)
        · exact go 127 (by rw [e2, size_76]) (.inr (.inr rfl)) (by rw [e2, size_76]; decide) (by omega)
      · first
          | refine wp_if_neg (by simp [hf]) ?_
          | (refine wpAny_bind ?_; refine wp_if_neg (by simp [hf]) ?_; refine wpAny_pure ?_)
        refine wpAny_pure (hQ true h1 L1 es1 (ep + 1) t1 sb ⟨⟨_, ho1, ⟨hex.1, hex.2.1, hex.2.2⟩, rfl⟩, hin, q3, nd1, tup1, ld1, ?_, by rw [hlen]; exact hfew⟩ (fun z => absurd z hm) fun _ => pm)
        have h := hf
        unfold SetTable.tooFull at h
        rw [decide_eq_true_eq, q9, List.length_map] at h
        rw [hlen]
        omega
    by_cases hpl : t1.plain = true
    · refine wp_if_pos hpl (wpAny_bind (hashBy_key 8 _ _ _ hx.1 hx.2 fun b => ?_))
      cases b with
      | true => simp only [if_true]; exact go1 t1 q4 q5 q3 q9
      | false => simp only [Bool.false_eq_true, if_false]; exact go1 { t1 with plain := false } q4 q5 ⟨q3.ris, q3.dm, q3.sz, q3.mok, q3.bd, q3.reach⟩ q9
    · refine wp_if_neg hpl (wpAny_bind (wpAny_pure ?_))
      simp only [if_true]; exact go1 t1 q4 q5 q3 q9
end
end Ev
end MEvH1
section MEvH2
/-! Ev, part H2: sets of texts. -/
namespace Ev
open PySem PySem.Spec PyProof.Rows L2
def keyS (e : Int × Value) : Str := match e.2 with
  | .str x _ => x
  | _ => Str.empty
def GoodS (w : World) (e : Int × Value) : Prop := ∃ x tk, e.2 = Value.str x tk ∧ e.1 = hashStr w x
/-- the set of the texts ks at a -/
structure SetS (w : World) (h : Heap) (a : Addr) (ks : List Str) (es : Array (Int × Value)) (ep : Nat) (t : SetTable) : Prop where
  ob : ∃ o, h.get? a = some o ∧ o.ExactSet ∧ o.data = .set es ep t
  good : ∀ e ∈ es.toList, GoodS w e
  keys : (es.toList.map keyS).Perm ks
  nd : ks.Nodup
  few : es.size < scanBound
  fits : t.fits es.size = true
  ris : Ris t.place.toList
  led : w.params.followText "set-order" = true ∨ t.led = true
section
variable {P : Program} {w : World} {A : Around} {E : Value → Shared → Prop} {s : Shared} {a : Addr} {ks : List Str} {es : Array (Int × Value)} {ep : Nat} {t : SetTable}
theorem goodS_elems {l : List (Int × Value)} (g : ∀ e ∈ l, GoodS w e) : ElemsOf (strKind P w) l := fun e he => by
  obtain ⟨k, tk, h1, h2⟩ := g e he
  exact ⟨⟨k, by rw [h1]; exact strKind_is P w k tk, h2⟩, by rw [h1]; rfl⟩
theorem goodS_is {e : Int × Value} (g : GoodS w e) (k : Str) : (strKind P w).is k e.2 = true ↔ keyS e = k := by
  obtain ⟨k0, tk, h1, _⟩ := g
  unfold keyS
  rw [h1]
  constructor
  · intro q
    exact (strKind P w).inj _ _ _ (strKind_is P w k0 tk) q
  · rintro rfl
    exact strKind_is P w k0 tk
theorem goodS_mem {l : List (Int × Value)} (g : ∀ e ∈ l, GoodS w e) (k : Str) : k ∈ l.map keyS ↔ ∃ e ∈ l, (strKind P w).is k e.2 = true := by
  rw [List.mem_map]
  exact ⟨fun ⟨e, he, q⟩ => ⟨e, he, (goodS_is (g e he) k).2 q⟩, fun ⟨e, he, q⟩ => ⟨e, he, (goodS_is (g e he) k).1 q⟩⟩
theorem SetS.size (R : SetS w s.heap a ks es ep t) : es.size = ks.length := by
  have := R.keys.length_eq
  simpa using this
theorem addS_tail {g : Bool → Sem Unit} (hg : ∀ (b : Bool) (s₁ : Shared) (Q' : Unit → Shared → Prop), Q' () s₁ → wpAny (model P w) A (g b) Q' E s₁)
    {o : Obj} (ho : s.heap.get? a = some o) (hex : o.ExactSet) (hd : o.data = .set es ep t)
    {es1 : Array (Int × Value)} {t2 : SetTable} (g1 : ∀ e ∈ es1.toList, GoodS w e) (pk : (es1.toList.map keyS).Perm ks) (nd : ks.Nodup)
    (hb1 : es1.size < scanBound) (hf2 : t2.fits es1.size = true) (hr : Ris t2.place.toList) (hl : w.params.followText "set-order" = true ∨ t2.led = true) {wasDummy : Bool} {R : Option Bool → Shared → Prop}
    (hR : ∀ h' es' ep' t', Heap.SameBut a s.heap h' → SetS w h' a ks es' ep' t' → R (some true) { s with heap := h' }) :
    wpAny (model P w) A (do
        storeSet a es1 t2
        if (!wasDummy && t2.tooFull) = true then do
            g (relayAll t2 es1 (SetTable.grown es1.size)).2.2
            storeSet a (relayAll t2 es1 (SetTable.grown es1.size)).1 (relayAll t2 es1 (SetTable.grown es1.size)).2.1
            pure (some true)
          else pure (some true)) R E s := by
  refine wpAny_bind (wpAny_storeSet_of ho hd ?_ (fits_of_scanBound hb1))
  have ho1 := store_at (es' := es1) (t' := t2) ho hd
  have sb1 := Heap.SameBut.update s.heap a (Obj.putSet es1 t2)
  split
  · have pm := relayAll_perm t2 es1 (SetTable.grown es1.size)
    have hf3 := relayAll_fits t2 es1 (SetTable.grown es1.size)
    have hr3 := relayAll_ris t2 es1 (SetTable.grown es1.size)
    have hl3 := relayAll_led t2 es1 (SetTable.grown es1.size)
    generalize relayAll t2 es1 (SetTable.grown es1.size) = Z at pm hf3 hr3 hl3 ⊢
    obtain ⟨es2, t3, gave⟩ := Z
    dsimp only at pm hf3 hr3 hl3 ⊢
    have hsz : es2.size = es1.size := by rw [← Array.length_toList, pm.length_eq, Array.length_toList]
    have hb2 : es2.size < scanBound := by rw [hsz]; exact hb1
    refine wpAny_bind (hg _ _ _ ?_)
    refine wpAny_bind (wpAny_storeSet_of ho1 rfl ?_ (fits_of_scanBound hb2))
    have ho2 := store_at (es' := es2) (t' := t3) ho1 rfl
    exact wpAny_pure (hR _ es2 _ t3 (sb1.trans (Heap.SameBut.update _ a _)) ⟨⟨_, ho2, hex, rfl⟩, fun e he => g1 e (pm.mem_iff.mp he), (pm.map keyS).trans pk, nd, hb2, hf3, hr3, hl.imp id fun z => by rw [hl3]; exact z⟩)
  · exact wpAny_pure (hR _ es1 _ t2 sb1 ⟨⟨_, ho1, hex, rfl⟩, g1, pk, nd, hb1, hf2, hr, hl⟩)
theorem addS (R : SetS w s.heap a ks es ep t) {k : Str} {tk : Tok} {Q : Bool → Shared → Prop} (room : ks.length + 1 < scanBound)
    (hQ : ∀ b h' ks' es' ep' t', Heap.SameBut a s.heap h' → SetS w h' a ks' es' ep' t' → (k ∈ ks → ks' = ks) → (k ∉ ks → ks' = ks ++ [k]) → Q b { s with heap := h' }) :
    wpAny (model P w) A (setAddHashed a (.str k tk) ((strKind P w).hash k)) Q E s := by
  have hsize := R.size
  obtain ⟨⟨o, ho, hex, hd⟩, g, pk, nd, hb, hf, hr, hl⟩ := R
  have hkey : (strKind P w).is k (.str k tk) = true := strKind_is P w k tk
  have hsc : (Value.str k tk).scannable = true := rfl
  have hel : ElemsOf (strKind P w) es.toList := goodS_elems g
  unfold setAddHashed setAddHashedIn
  refine wpAny_holding (wpAny_bind (wpAny_setState_of ho hd hf ?_))
  dsimp only
  rw [byScan_of hsc hb hel]
  simp only [↓reduceIte]
  unfold setAddByScan
  refine wpAny_bind (wpAny_bind (wpAny_rule (wpAny_bind (wpAny_setScan_of hkey ho hd hf hel ?_))))
  cases hfi : List.findIdx? (fun e => (strKind P w).is k e.2) es.toList with
  | some j =>
    dsimp only
    obtain ⟨hj, pj, _⟩ := List.findIdx?_eq_some_iff_getElem.mp hfi
    have hk : k ∈ ks := pk.mem_iff.mp ((goodS_mem (P := P) (w := w) g k).2 ⟨es.toList[j], List.getElem_mem hj, pj⟩)
    exact wpAny_pure (wpAny_pure (hQ false s.heap ks es ep t (Heap.SameBut.refl a s.heap) ⟨⟨o, ho, hex, hd⟩, g, pk, nd, hb, hf, hr, hl⟩ (fun _ => rfl) fun z => absurd hk z))
  | none =>
    dsimp only
    have hnk : k ∉ ks := fun z => by
      obtain ⟨e, he, q⟩ := (goodS_mem (P := P) (w := w) g k).1 (pk.mem_iff.mpr z)
      have c := List.findIdx?_eq_none_iff.mp hfi e he
      rw [q] at c
      cases c
    have hgw : ∀ (b : Bool) {s₁ : Shared} {Q' : Unit → Shared → Prop}, Q' () s₁ → wpAny (model P w) A (match b with | true => rule "set.scan.the-table-gave-way" | false => pure ()) Q' E s₁ :=
      fun b s₁ Q' q => by cases b <;> first | exact wpAny_pure q | exact wpAny_rule q
    have pm := layNew_perm t es ((strKind P w).hash k) (.str k tk)
    have hf1 := layNew_fits t es ((strKind P w).hash k) (.str k tk)
    have hr1 := layNew_ris t es ((strKind P w).hash k) (.str k tk) hr
    have hl1 := layNew_led t es ((strKind P w).hash k) (.str k tk)
    generalize layNew t es ((strKind P w).hash k) (.str k tk) = Z at pm hf1 hr1 hl1 ⊢
    obtain ⟨es1, t1, wasDummy, gave⟩ := Z
    dsimp only at pm hf1 hr1 hl1 ⊢
    rw [Array.toList_push] at pm
    have g1 : ∀ e ∈ es1.toList, GoodS w e := fun e he => by
      rcases List.mem_append.mp (pm.mem_iff.mp he) with z | z
      · exact g e z
      · rw [List.mem_singleton.mp z]; exact ⟨k, tk, rfl, rfl⟩
    have pk1 : (es1.toList.map keyS).Perm (ks ++ [k]) := by
      refine (pm.map keyS).trans ?_
      rw [List.map_append]
      exact pk.append (List.Perm.refl _)
    have nd1 : (ks ++ [k]).Nodup := by
      rw [(List.perm_append_singleton k ks).nodup_iff]
      exact List.nodup_cons.mpr ⟨hnk, nd⟩
    have hb1 : es1.size < scanBound := by
      have := pk1.length_eq
      simp only [List.length_map, Array.length_toList, List.length_append, List.length_singleton] at this
      omega
    have hled : w.params.followText "set-order" = true ∨ t1.led = true := hl.imp id fun z => by rw [hl1]; exact z
    have fin : ∀ h' es' ep' t', Heap.SameBut a s.heap h' → SetS w h' a (ks ++ [k]) es' ep' t' → Q true { s with heap := h' } := fun h' es' ep' t' sb r => hQ true h' _ es' ep' t' sb r (fun z => absurd z hnk) fun _ => rfl
    refine wpAny_bind (hgw _ ?_)
    split
    · refine wpAny_bind ?_
      rw [hashByValue_scannable 8 hsc]
      refine wpAny_pure ?_
      refine addS_tail (ks := ks ++ [k]) ?_ ho hex hd g1 pk1 nd1 hb1 ?_ ?_ ?_ ?_
      · intro b s₁ Q' q; cases b <;> first | exact wpAny_pure q | exact wpAny_rule q
      · first | (split <;> first | exact hf1 | exact SetTable.fits_plain_off hf1) | exact hf1
      · first | (split <;> exact hr1) | exact hr1
      · first | (split <;> exact hled) | exact hled
      · intro h' es' ep' t' sb r; dsimp only; exact wpAny_pure (fin h' es' ep' t' sb r)
    · refine wpAny_bind (wpAny_pure ?_)
      simp only [↓reduceIte]
      refine addS_tail (ks := ks ++ [k]) ?_ ho hex hd g1 pk1 nd1 hb1 hf1 hr1 hled ?_
      · intro b s₁ Q' q; cases b <;> first | exact wpAny_pure q | exact wpAny_rule q
      · intro h' es' ep' t' sb r; dsimp only; exact wpAny_pure (fin h' es' ep' t' sb r)
/-- found.add(k), k a text -/
theorem call_addS (R : SetS w s.heap a ks es ep t) {k : Str} {tk : Tok} {Q : Value → Shared → Prop} (room : ks.length + 1 < scanBound)
    (hQ : ∀ h' ks' es' ep' t', Heap.SameBut a s.heap h' → SetS w h' a ks' es' ep' t' → (k ∈ ks → ks' = ks) → (k ∉ ks → ks' = ks ++ [k]) → Q .none { s with heap := h', toks := s.toks + 1 }) :
    wpAny (model P w) A (call (.builtin "set.add") [.ref a, .str k tk]) Q E s := by
  obtain ⟨o, ho, hex, hd⟩ := id R.ob
  refine wpAny_call_entry F.slot_set_add ⟨o, ho, hex.1⟩ F.entry_set_add ?_ (F.args_set_add_2 _ _)
  unfold Builtin.«set.add» Builtin.Frozenset.oneOther
  simp only [List.isEmpty_nil, bind_assoc]
  unfold Builtin.Frozenset.addrOf setAdd
  refine wpAny_bind (wpAny_pure ?_)
  try dsimp only
  refine wpAny_bind (wpAny_pure ?_)
  try dsimp only
  refine wpAny_bind ?_
  refine wpAny_holding ?_
  refine wpAny_bind ((strKind P w).pyHash (strKind_is P w k tk) ?_)
  refine addS (s := { s with toks := s.toks + 1 }) R room fun b h' ks' es' ep' t' sb r z1 z2 => ?_
  show wpAny _ _ (ret Value.none) _ _ _
  exact wpAny_pure ⟨_, rfl, hQ h' ks' es' ep' t' sb r z1 z2⟩
/-- found.add(k), k a nested tuple -/
theorem call_addN {L : KL} (R : SetN w s.heap a L es ep t) {x : Addr} {k : NK} {Q : Value → Shared → Prop} (hx : IsN s.heap k x) (hu : A.units + 16 < cLine) (room : L.length + 1 < 64)
    (hQ : ∀ h' L' es' ep' t', Heap.SameBut a s.heap h' → SetN w h' a L' es' ep' t' → (k ∈ L.map (·.2) → L' = L) → (k ∉ L.map (·.2) → L'.Perm ((x, k) :: L)) → Q .none { s with heap := h', toks := s.toks + k.draws }) :
    wpAny (model P w) A (call (.builtin "set.add") [.ref a, .ref x]) Q E s := by
  obtain ⟨o, ho, hex, hd⟩ := id R.ob
  refine wpAny_call_entry F.slot_set_add ⟨o, ho, hex.1⟩ F.entry_set_add ?_ (F.args_set_add_2 _ _)
  unfold Builtin.«set.add» Builtin.Frozenset.oneOther
  simp only [List.isEmpty_nil, bind_assoc]
  unfold Builtin.Frozenset.addrOf setAdd
  refine wpAny_bind (wpAny_pure ?_)
  try dsimp only
  refine wpAny_bind (wpAny_pure ?_)
  try dsimp only
  refine wpAny_bind ?_
  refine wpAny_holding ?_
  refine wpAny_bind ((nestedKind P w).pyHash (show A.in1.units + 8 < cLine from ?_) hx ?_)
  · have : A.in1.units ≤ A.units + 8 := by first | (show A.units + 1 ≤ _; omega) | (show A.units ≤ _; omega)
    omega
  refine add_n (s := { s with toks := s.toks + k.draws }) ⟨R.ob, R.rows, R.tab, R.nd, R.tup, R.led, R.room, R.few⟩ hx ?_ room fun b h' L' es' ep' t' sb r z1 z2 => ?_
  · have : A.in1.units ≤ A.units + 8 := by first | (show A.units + 1 ≤ _; omega) | (show A.units ≤ _; omega)
    omega
  show wpAny _ _ (ret Value.none) _ _ _
  exact wpAny_pure ⟨_, rfl, hQ h' L' es' ep' t' sb r z1 z2⟩
end
end Ev
end MEvH2
section MEvH3
/-! Ev, part H3: order; sorting flat data, empty tuples among them too. -/
namespace Ev
open PySem PySem.Spec PyProof.Rows L2 PySem.W PySem.SeqAt

/-! ### a value as a key -/
mutual
def keyV : Va → NK
  | .int i => .num i
  | .str x => .text x
  | .tup xs => .tup (keyVs xs)
  | _ => .none
def keyVs : List Va → List NK
  | [] => []
  | x :: xs => keyV x :: keyVs xs
end
mutual
def flatK : Va → Bool
  | .int _ => true
  | .str _ => true
  | .tup xs => flatKs xs
  | _ => false
def flatKs : List Va → Bool
  | [] => true
  | x :: xs => flatK x && flatKs xs
end
mutual
theorem keyV_inj : ∀ (a b : Va), flatK a = true → flatK b = true → keyV a = keyV b → a = b
  | .int i, b, _, hb, e => by cases b <;> simp_all [keyV, flatK]
  | .str x, b, _, hb, e => by cases b <;> simp_all [keyV, flatK]
  | .tup xs, b, ha, hb, e => by
    cases b <;> simp_all only [keyV, flatK, NestedKey.tup.injEq, Bool.false_eq_true, reduceCtorEq]
    rename_i ys
    rw [keyVs_inj xs ys ha hb e]
  | .non, b, ha, _, _ => by simp [flatK] at ha
  | .bl _, b, ha, _, _ => by simp [flatK] at ha
  | .lst _, b, ha, _, _ => by simp [flatK] at ha
  | .loc _, b, ha, _, _ => by simp [flatK] at ha
  | .fn _, b, ha, _, _ => by simp [flatK] at ha
  | .scr _, b, ha, _, _ => by simp [flatK] at ha
theorem keyVs_inj : ∀ (a b : List Va), flatKs a = true → flatKs b = true → keyVs a = keyVs b → a = b
  | [], b, _, _, e => by cases b <;> simp_all [keyVs]
  | x :: xs, b, ha, hb, e => by
    cases b with
    | nil => simp [keyVs] at e
    | cons y ys =>
      simp only [keyVs, List.cons.injEq] at e
      simp only [flatKs, Bool.and_eq_true] at ha hb
      rw [keyV_inj x y ha.1 hb.1 e.1, keyVs_inj xs ys ha.2 hb.2 e.2]
end
def pdV (v : Va) : PyData := (keyV v).data
theorem keyVs_map : ∀ xs : List Va, keyVs xs = xs.map keyV
  | [] => rfl
  | x :: xs => by simp [keyVs, keyVs_map xs]
theorem flatKs_mem : ∀ {xs : List Va}, flatKs xs = true → ∀ x ∈ xs, flatK x = true
  | y :: ys, h, x, hx => by
    simp only [flatKs, Bool.and_eq_true] at h
    rcases List.mem_cons.mp hx with rfl | hx
    · exact h.1
    · exact flatKs_mem h.2 x hx

/-! ### reading off the heap -/
section
variable {X : Cx} {pins : List (Addr × Obj)} {σ : L2.St} {W : Wd} {s : Shared}
mutual
theorem nested_of (I : Inv X pins σ W.H s) : ∀ (d : Va) {v : V} {u : Value}, flatK d = true → Rp X.K X.mg W v d → RelV v u → NestedIs s.heap (keyV d) u ∧ Reads s.heap u (pdV d) []
  | .int i, _, _, _, h, r => by
    cases h
    obtain ⟨t, rfl⟩ := r
    exact ⟨.int i t, .int i t⟩
  | .str x, _, _, _, h, r => by
    cases h
    obtain ⟨t, rfl⟩ := r
    exact ⟨.text x t, .str x t⟩
  | .tup ds, _, _, hf, h, r => by
    cases h with
    | @tup a vs _ h1 h2 =>
      cases r
      obtain ⟨its, rv, ⟨o, e1, e2, n, e3⟩, _⟩ := I.tuple h1
      obtain ⟨q1, q2⟩ := nesteds_of I ds (by simpa [flatK] using hf) h2 rv
      exact ⟨.tup e1 e2 e3 (by simpa using q1), .tuple e1 e2 e3 (by simpa using q2)⟩
  | .non, _, _, hf, _, _ => by simp [flatK] at hf
  | .bl _, _, _, hf, _, _ => by simp [flatK] at hf
  | .lst _, _, _, hf, _, _ => by simp [flatK] at hf
  | .loc _, _, _, hf, _, _ => by simp [flatK] at hf
  | .fn _, _, _, hf, _, _ => by simp [flatK] at hf
  | .scr _, _, _, hf, _, _ => by simp [flatK] at hf
theorem nesteds_of (I : Inv X pins σ W.H s) : ∀ (ds : List Va) {vs : List V} {us : List Value}, flatKs ds = true → RpL X.K X.mg W vs ds → Vals vs us → NestedAll s.heap (keyVs ds) us ∧ ReadsAll s.heap us (NestedKey.datas (keyVs ds)) []
  | [], _, _, _, h, r => by
    cases h; cases r
    exact ⟨.nil, .nil⟩
  | d :: ds, _, _, hf, h, r => by
    simp only [flatKs, Bool.and_eq_true] at hf
    cases h with
    | cons h1 h2 =>
      cases r with
      | cons r1 r2 =>
        obtain ⟨a1, a2⟩ := nested_of I d hf.1 h1 r1
        obtain ⟨b1, b2⟩ := nesteds_of I ds hf.2 h2 r2
        exact ⟨.cons a1 b1, .cons (as := []) (bs := []) a2 b2⟩
end
end

/-! ### the order -/
def leV : Va → Va → Bool := dataLe false pdV
theorem leV_eq (a b : Va) : leV a b = !dataLt (pdV b) (pdV a) := rfl
theorem leV_trans (a b c : Va) (h1 : leV a b = true) (h2 : leV b c = true) : leV a c = true := by
  simp only [leV_eq, Bool.not_eq_true'] at *
  cases q : dataLt (pdV c) (pdV a) with
  | false => rfl
  | true =>
    rcases lex_negTrans (O := itemOrd) _ _ _ q with z | z
    · have : dataLt (pdV c) (pdV b) = true := z
      rw [h2] at this; cases this
    · have : dataLt (pdV b) (pdV a) = true := z
      rw [h1] at this; cases this
theorem leV_total (a b : Va) : (leV a b || leV b a) = true := by
  simp only [leV_eq]
  cases q : dataLt (pdV b) (pdV a) with
  | false => rfl
  | true =>
    cases q2 : dataLt (pdV a) (pdV b) with
    | false => rfl
    | true =>
      have h := lex_trans (O := itemOrd) _ _ _ q q2
      rw [lex_irrefl] at h; cases h
mutual
theorem toks_inj : ∀ (x y : NK) (l m : List (Int ⊕ List Nat)), alike x.data y.data = true → keyToks x.data ++ l = keyToks y.data ++ m → x = y ∧ l = m
  | .none, y, l, m, ha, e => by
    cases y <;> simp_all [NestedKey.data, alike, keyToks]
  | .num i, y, l, m, ha, e => by
    cases y <;> simp_all [NestedKey.data, alike, keyToks]
  | .text x, y, l, m, ha, e => by
    cases y with
    | text y =>
      simp only [NestedKey.data, keyToks, List.singleton_append, List.cons.injEq, Sum.inr.injEq] at e
      exact ⟨by rw [str_of_cps e.1], e.2⟩
    | _ => simp [NestedKey.data, alike] at ha
  | .tup xs, y, l, m, ha, e => by
    cases y with
    | tup ys =>
      simp only [NestedKey.data, alike, keyToks] at ha e
      obtain ⟨h1, h2⟩ := toks_injs xs ys l m ha e
      exact ⟨by rw [h1], h2⟩
    | _ => simp [NestedKey.data, alike] at ha
theorem toks_injs : ∀ (xs ys : List NK) (l m : List (Int ⊕ List Nat)), alikeAll (NestedKey.datas xs) (NestedKey.datas ys) = true → keyToksAll (NestedKey.datas xs) ++ l = keyToksAll (NestedKey.datas ys) ++ m → xs = ys ∧ l = m
  | [], [], l, m, _, e => by
    simp only [NestedKey.datas, keyToksAll, List.singleton_append, List.cons.injEq, true_and] at e
    exact ⟨rfl, e⟩
  | [], y :: ys, l, m, _, e => by simp [NestedKey.datas, keyToksAll] at e
  | x :: xs, [], l, m, _, e => by simp [NestedKey.datas, keyToksAll] at e
  | x :: xs, y :: ys, l, m, ha, e => by
    simp only [NestedKey.datas] at ha e
    obtain ⟨a1, a2⟩ := alike_all_cons ha
    simp only [keyToksAll, List.cons_append, List.append_assoc, List.cons.injEq, true_and] at e
    obtain ⟨h1, h2⟩ := toks_inj x y _ _ a1 e
    obtain ⟨h3, h4⟩ := toks_injs xs ys _ _ a2 h2
    exact ⟨by rw [h1, h3], h4⟩
end
theorem leV_anti {a b : Va} (fa : flatK a = true) (fb : flatK b = true) (hal : alike (pdV a) (pdV b) = true) (h1 : leV a b = true) (h2 : leV b a = true) : a = b := by
  simp only [leV_eq, Bool.not_eq_true'] at h1 h2
  have e := lex_total (O := itemOrd) _ _ h2 h1
  refine keyV_inj a b fa fb (toks_inj (keyV a) (keyV b) [] [] hal ?_).1
  rw [List.append_nil, List.append_nil]
  exact e
def sortV (vs : List Va) : List Va := vs.mergeSort leV
theorem sortV_perm (vs : List Va) : (sortV vs).Perm vs := List.mergeSort_perm vs leV
theorem sortV_sorted (vs : List Va) : (sortV vs).Pairwise (fun a b => leV a b = true) := List.pairwise_mergeSort leV_trans leV_total vs
/-- what can be sorted -/
def okSort (vs : List Va) : Bool := flatKs vs && (vs.all fun a => vs.all fun b => alike (pdV a) (pdV b)) && vs.all fun a => decide ((pdV a).depth ≤ 8)
theorem okSort_perm {vs ws : List Va} (p : vs.Perm ws) (h : okSort vs = true) : okSort ws = true := by
  have fk : ∀ {l : List Va}, (∀ x ∈ l, flatK x = true) → flatKs l = true := by
    intro l
    induction l with
    | nil => intro _; rfl
    | cons x l ih => intro h; simp only [flatKs, Bool.and_eq_true]; exact ⟨h x List.mem_cons_self, ih fun y hy => h y (List.mem_cons_of_mem _ hy)⟩
  unfold okSort at *
  simp only [Bool.and_eq_true, List.all_eq_true] at *
  exact ⟨⟨fk fun x hx => flatKs_mem h.1.1 x (p.mem_iff.mpr hx), fun x hx y hy => h.1.2 x (p.mem_iff.mpr hx) y (p.mem_iff.mpr hy)⟩, fun x hx => h.2 x (p.mem_iff.mpr hx)⟩
theorem sortV_unique {vs ws : List Va} (p : vs.Perm ws) (h : okSort vs = true) : sortV vs = sortV ws := by
  have h' := h
  unfold okSort at h
  simp only [Bool.and_eq_true, List.all_eq_true] at h
  have pp : (sortV vs).Perm (sortV ws) := (sortV_perm vs).trans (p.trans (sortV_perm ws).symm)
  refine List.Perm.eq_of_pairwise (le := fun a b => leV a b = true) (fun a b ha hb h1 h2 => ?_) (sortV_sorted vs) (sortV_sorted ws) pp
  have ha' := (sortV_perm vs).mem_iff.mp ha
  have hb' := p.mem_iff.mpr ((sortV_perm ws).mem_iff.mp hb)
  exact leV_anti (flatKs_mem h.1.1 a ha') (flatKs_mem h.1.1 b hb') (h.1.2 a ha' b hb') h1 h2

/-! ### sorting tuples the first of which is empty -/
section
variable {prog : Program} {w : World} {A : Around} {E : Value → Shared → Prop} {s : Shared}
theorem call_tuple_lt {Q : Value → Shared → Prop} {l b : Addr} {items items2 : Array Value} {e r : Nat → Bool} (hl : s.heap.IsTuple l items) (hb : s.heap.IsTuple b items2)
    (he : ∀ j (h1 : j < items.size) (h2 : j < items2.size), EqAt A.in1 s items[j] items2[j] (e j)) (hr : ∀ j (h1 : j < items.size) (h2 : j < items2.size), e j = false → RcLt A.in1 s items[j] items2[j] (r j))
    (h : Q (.bool (firstLt e r (decide (items.size < items2.size)) (List.range (min items.size items2.size)))) s) : wpAny (model prog w) A (call (.builtin "tuple.__lt__") [.ref l, .ref b]) Q E s := by
  obtain ⟨⟨cls, dd, data, sl⟩, ho, hc, n, hd⟩ := id hl
  obtain ⟨⟨cls2, dd2, data2, sl2⟩, ho2, hc2, n2, hd2⟩ := id hb
  simp only at hc hd hc2 hd2
  subst hc hd hc2 hd2
  exact call_meets F.slot_tuple_lt ⟨_, ho, rfl⟩ F.entry_tuple_lt (F.args_tuple_lt_2 _ _) (tuple_ltAt l b items items2 n n2 dd dd2 sl sl2 e r) ⟨ho, ho2, he, hr, h⟩
theorem oneLt_tup {xs ys : List PyData} {a b : Value} {as bs : List Addr} {Q : Bool → Shared → Prop} (ra : Reads s.heap a (.tuple xs) as) (rb : Reads s.heap b (.tuple ys) bs) (h : alikeAll xs ys = true)
    (hu : A.units + min (PyData.tuple xs).depth (PyData.tuple ys).depth < cLine) (hq : Q (dataLt (.tuple xs) (.tuple ys)) s) : wpAny (model prog w) A (oneLt' true a b) Q E s := by
  cases ra with
  | @tuple l o vs n _ as₁ h1 h2 h3 h4 =>
    cases rb with
    | @tuple l' o' vs' n' _ bs₁ k1 k2 k3 k4 =>
      have n1 : vs.size = xs.length := by simpa using ReadsAll.length _ _ _ h4
      have n2 : vs'.size = ys.length := by simpa using ReadsAll.length _ _ _ k4
      rw [dataLt_tuple, ← firstLt_toks xs ys h, ← n1, ← n2] at hq
      rw [oneLt'_eq]
      simp only [if_true]
      refine wpAny_bind (wpAny_cRoomFor (room_here hu) ?_)
      refine wpAny_bind (wpAny_callSpecialIfBound?_slot (T := "tuple") ⟨_, h1, h2⟩ F.slot_tuple_lt (call_tuple_lt (e := pairEq xs ys) (r := fun j => dataLt (xs.getD j .none) (ys.getD j .none)) ⟨_, h1, h2, _, h3⟩ ⟨_, k1, k2, _, k3⟩ (fun j j1 j2 => ?_) (fun j j1 j2 hj => ?_) ?_))
      · have := eqAt_alikeAll xs ys A.in1 s vs.toList vs'.toList _ _ h4 k4 h (PySem.SeqAt.room_in hu) j (by simpa using j1) (by simpa using j2)
        simpa using this
      · have := rcLt_alikeAll xs ys A.in1 s vs.toList vs'.toList _ _ h4 k4 h (PySem.SeqAt.room_in hu) j (by simpa using j1) (by simpa using j2) hj
        simpa using this
      · exact wpAny_truthy_bool hq
def neT : PyData → Bool
  | .tuple [] => false
  | _ => true
theorem firsts_any : ∀ {vs : List Value} {ds : List PyData}, EachIs (fun v d => ∃ as, Reads s.heap v d as) vs ds → (∀ d ∈ ds, ∃ xs, d = .tuple xs) → ∀ {Q : List (Option Value) → Shared → Prop}, (∀ fl : List (Option Value), fl.map (·.isSome) = ds.map neT → Q fl s) →
    wpAny (model prog w) A (vs.mapM firstOfTuple') Q E s
  | _, _, .nil, _, Q, h => by
    rw [List.mapM_nil]
    exact wpAny_pure (h [] rfl)
  | _, _, .cons (b := d) (as := vs) (bs := ds) ⟨as, r⟩ t, ht, Q, h => by
    obtain ⟨xs, rfl⟩ := ht d List.mem_cons_self
    rw [List.mapM_cons]
    cases r with
    | @tuple a o vs' n _ _ h1 h2 h3 h4 =>
      refine wpAny_bind ?_
      rw [kas_first_eq]
      refine wpAny_bind (Looks.here (show Looks _ s.heap (typeOf (.ref a)) o.cls from (Looks.ld h1).andThen .now) ?_)
      rw [h2, if_neg (by first | decide | simp)]
      refine wpAny_bind (listItems_at h1 h3 (wpAny_pure ?_))
      refine wpAny_bind (firsts_any t (fun d hd => ht d (List.mem_cons_of_mem _ hd)) fun fl f1 => wpAny_pure (h _ ?_))
      rw [List.map_cons, List.map_cons, f1]
      congr 1
      cases h4' : vs'.toList with
      | nil =>
        have : vs'.size = 0 := by simpa using congrArg List.length h4'
        have e0 : vs'[0]? = none := by simp [this]
        rw [h4'] at h4
        cases h4
        rw [e0]; rfl
      | cons y r =>
        have e0 : vs'[0]? = some y := by rw [← Array.getElem?_toList, h4']; rfl
        rw [h4'] at h4
        cases h4
        rw [e0]; rfl
/-- tuples that are alike, an empty one among them, the first of all or not -/
theorem sortsAt_tups {vs : List Value} {ds : List PyData} (e : EachIs (fun v d => ∃ as, Reads s.heap v d as) vs ds) (hal : AllAlike ds) (ht : ∀ d ∈ ds, ∃ xs, d = .tuple xs) (hem : PyData.tuple [] ∈ ds) (hu : ∀ d, d ∈ ds → A.units + d.depth < cLine) : SortsAt prog w A s (dataKind s.heap ds) vs := by
  have room : ∀ {d d' : PyData}, d ∈ ds → A.units + min d.depth d'.depth < cLine := fun {d d'} hd => Nat.lt_of_le_of_lt (Nat.add_le_add_left (Nat.min_le_left _ _) _) (hu d hd)
  refine ⟨fun v hv => ?_, ?_⟩
  · obtain ⟨d, hd, as, r⟩ := e.left v hv
    exact ⟨_, dataKind_some hal hd r⟩
  by_cases h0 : ∃ r, ds = .tuple [] :: r
  · refine ⟨oneType', ?_, fun h2 E Q hq => ?_⟩
    · intro E x y a b Q ha hb hq
      obtain ⟨d, as, hd, ra, rfl⟩ := dataKind_inv ha
      obtain ⟨d', as', hd', rb, rfl⟩ := dataKind_inv hb
      obtain ⟨xs, rfl⟩ := ht d hd
      obtain ⟨ys, rfl⟩ := ht d' hd'
      rw [keyLt'_oneType]
      exact oneLt_tup ra rb (by simpa [alike] using hal _ hd _ hd') (room hd) hq
    · obtain ⟨r0, h0⟩ := h0
      rw [keyKind'_eq, List.mapM_toArray, map_eq_pure_bind]
      refine wpAny_bind (wpAny_bind (firsts_any e ht fun fl f1 => wpAny_pure ?_))
      rw [h0] at f1
      cases fl with
      | nil => cases f1
      | cons f fr =>
        have hf : f = none := by
          have := (List.cons.inj f1).1
          cases f with
          | none => rfl
          | some _ => cases this
        subst hf
        rw [if_neg (by simp), if_neg (by simp)]
        rw [oneTypeOnly'_eq, List.mapM_toArray, map_eq_pure_bind]
        refine wpAny_bind (wpAny_bind (wpAny_bind (kas_mapM (r := Value.type "tuple") vs (fun v hv Q' hq => ?_) (wpAny_pure ?_))))
        · obtain ⟨d, hd, as, r⟩ := e.left v hv
          obtain ⟨xs, rfl⟩ := ht d hd
          exact (looks_reads r).here hq
        · cases vs with
          | nil => simp at h2
          | cons v vs =>
            have hall : ((List.map (fun _ => Value.type "tuple") (v :: vs)).toArray.all fun x => x == Value.type "tuple") = true := by
              simp only [List.all_toArray, List.all_map, List.all_eq_true]
              intro _ _
              exact beq_self_eq_true _
            have h00 : (List.map (fun _ => Value.type "tuple") (v :: vs)).toArray[0]? = some (Value.type "tuple") := by simp
            rw [h00]
            simp only [hall, if_true]
            exact wpAny_pure (wpAny_pure hq)
  · refine ⟨general', ?_, fun h2 E Q hq => ?_⟩
    · intro E x y a b Q ha hb hq
      obtain ⟨d, as, hd, ra, rfl⟩ := dataKind_inv ha
      obtain ⟨d', as', hd', rb, rfl⟩ := dataKind_inv hb
      obtain ⟨xs, rfl⟩ := ht d hd
      show wpAny _ _ (oneLt' false x y) _ _ _
      exact oneLt_alike (fun z => by cases z) ra rb (hal _ hd _ hd') (fun z => by cases z) (room hd) hq
    · rw [keyKind'_eq, List.mapM_toArray, map_eq_pure_bind]
      refine wpAny_bind (wpAny_bind (firsts_any e ht fun fl f1 => wpAny_pure ?_))
      have hno : none ∈ fl := by
        obtain ⟨i, hi⟩ := List.getElem?_of_mem hem
        have q : (fl.map (·.isSome))[i]? = some false := by rw [f1, List.getElem?_map, hi]; rfl
        rw [List.getElem?_map] at q
        cases q2 : fl[i]? with
        | none => rw [q2] at q; cases q
        | some z =>
          rw [q2] at q
          cases z with
          | none => exact List.mem_of_getElem? q2
          | some _ => cases q
      cases ds with
      | nil => cases hem
      | cons d ds =>
        obtain ⟨xs, rfl⟩ := ht d List.mem_cons_self
        have hne : neT (.tuple xs) = true := by
          cases xs with
          | nil => exact absurd ⟨ds, rfl⟩ h0
          | cons _ _ => rfl
        cases fl with
        | nil => cases f1
        | cons f fr =>
          have hf : f.isSome = true := (List.cons.inj f1).1.trans hne
          have hall : ((f :: fr).toArray.all fun x => x.isSome) = false := by
            rw [Bool.eq_false_iff]
            intro z
            simp only [List.all_toArray, List.all_eq_true] at z
            have := z none hno
            cases this
          rw [hall]
          simp only [Bool.false_eq_true, if_false]
          rw [if_pos (by simpa using hf)]
          exact wpAny_pure hq
end
end Ev
end MEvH3
section MEvH4
/-! Ev, part H4: sorted(list), sets as collectors, sorted(set), len(set). -/
namespace Ev
open PySem PySem.Spec PyProof.Rows L2 PySem.W PySem.SeqAt
section
variable {prog : Program} {w : World} {A : Around} {E : Value → Shared → Prop} {s : Shared}
theorem okSort_parts {ds : List Va} (h : okSort ds = true) : flatKs ds = true ∧ AllAlike (ds.map pdV) ∧ ∀ d ∈ ds.map pdV, d.depth ≤ 8 := by
  unfold okSort at h
  simp only [Bool.and_eq_true, List.all_eq_true, decide_eq_true_eq] at h
  refine ⟨h.1.1, fun a ha b hb => ?_, fun d hd => ?_⟩
  · obtain ⟨x, hx, rfl⟩ := List.mem_map.mp ha
    obtain ⟨y, hy, rfl⟩ := List.mem_map.mp hb
    exact h.1.2 x hx y hy
  · obtain ⟨x, hx, rfl⟩ := List.mem_map.mp hd
    exact h.2 x hx
theorem sortsAt_flat {vs : List Value} {ds : List Va} (e : EachIs (fun v d => ∃ as, Reads s.heap v d as) vs (ds.map pdV)) (h : okSort ds = true) (hu : A.units + 8 < cLine) : SortsAt prog w A s (dataKind s.heap (ds.map pdV)) vs := by
  obtain ⟨hf, hal, hd⟩ := okSort_parts h
  have hu' : ∀ d ∈ ds.map pdV, A.units + d.depth < cLine := fun d hd' => by have := hd d hd'; omega
  cases ds with
  | nil => exact SortsAt.data e hal (.inr fun d hd => by simp at hd) hu'
  | cons d0 r =>
    have notNone : ∀ d ∈ (d0 :: r).map pdV, d ≠ .none := fun d hd => by
      obtain ⟨x, hx, rfl⟩ := List.mem_map.mp hd
      have := flatKs_mem hf x hx
      intro q
      cases x <;> simp [flatK, pdV, keyV, NestedKey.data] at this q
    by_cases ht : ∃ xs, pdV d0 = .tuple xs
    · have all : ∀ d ∈ (d0 :: r).map pdV, ∃ xs, d = .tuple xs := fun d hd => by
        have q := hal d hd (pdV d0) (by simp)
        obtain ⟨xs, e0⟩ := ht
        rw [e0] at q
        cases d <;> first | exact ⟨_, rfl⟩ | (simp [alike] at q)
      by_cases hem : PyData.tuple [] ∈ (d0 :: r).map pdV
      · exact sortsAt_tups e hal all hem hu'
      · refine SortsAt.data e hal (.inl fun d hd => ?_) hu'
        obtain ⟨xs, rfl⟩ := all d hd
        cases xs with
        | nil => exact absurd hd hem
        | cons x xs => exact ⟨x, xs, rfl⟩
    · refine SortsAt.data e hal (.inr fun d hd => ⟨notNone d hd, fun xs q => ?_⟩) hu'
      subst q
      have q := hal _ hd (pdV d0) (by simp)
      refine ht ?_
      cases e0 : pdV d0 <;> rw [e0] at q <;> first | exact ⟨_, rfl⟩ | (simp [alike] at q)
end
/-! ### sorted(tuple) -/
section
variable {pr : Program} {wo : World} {B : Around} {EX : Value → Shared → Prop} {sh : Shared} {kk : PyProof.Rows.KeyKind}
/-- the items of a tuple, gathered in a new list -/
theorem gather_tup {t : Addr} {zs : List Value} {R : List Value → Shared → Prop} (ht : IsTup sh.heap t zs.toArray) (hz : zs.length ≤ sizeLine)
    (k : R zs { sh with heap := (sh.heap.push (seqObj "list" #[] 0)).update sh.heap.objs.size (Obj.mapSeq (· ++ zs.toArray)) }) : wpAny (model pr wo) B (collect (.ref t)) R EX sh := by
  obtain ⟨u, hu, hcl, m, hdt⟩ := id ht
  unfold collect
  refine wpAny_bind (wpAny_runValue (codeAny_builtin entry_proto_collect' ?g1))
  case g1 =>
    show wpAny _ _ (do again (.builtin "list.__iadd__" ⟨[← newList [], .ref t], []⟩)) _ _ sh
    refine wpAny_bind (wpAny_newList (wpAny_pure ⟨Code.quiet_builtin _ (by decide +kernel), codeAny_builtin entry_list_iadd' ?g2⟩))
    show wpAny _ _ (Builtin.List.listExtendWith (.ref sh.heap.objs.size) (.ref t) (.ref sh.heap.objs.size)) _ _ { sh with heap := sh.heap.push (seqObj "list" #[] 0) }
    have hu' : (sh.heap.push (seqObj "list" #[] 0)).get? t = some u := Heap.get?_push_of_some _ hu
    have tt : (Value.type "tuple" == Value.type "tuple") = true := by rfl
    unfold Builtin.List.listExtendWith
    refine wpAny_bind (wpAny_typeOf (T := "tuple") ⟨u, hu', hcl⟩ ?_); rw [if_pos (by rw [tt]; simp)]
    refine wpAny_bind (listItems_at hu' hdt ?_); refine wpAny_bind (listItems_at (xs := #[]) (n := 0) (Heap.get?_push_size _ rfl) rfl ?_); rw [if_neg (by simp)]
    refine wpAny_bind (listUpdate_at (xs := #[]) (n := 0) (Heap.get?_push_size _ rfl) rfl ?_ (Nat.zero_le _) (by show (#[] ++ zs.toArray).size ≤ sizeLine + 1; simp only [Array.size_append, List.size_toArray, List.length_nil]; omega)); refine wpAny_pure ?_
    show wpAny (model pr wo) B (do
        let o ← load sh.heap.objs.size
        match o.data with
        | .seq ys _ => pure ys.toList
        | _ => unsupported "internal:collect") R EX { sh with heap := (sh.heap.push (seqObj "list" #[] 0)).update sh.heap.objs.size (Obj.mapSeq (· ++ zs.toArray)) }
    refine wpAny_bind (wpAny_load (get?_update_seq (Heap.get?_push_size _ rfl) _) ?_); show wpAny _ _ (pure ((#[] : Array Value) ++ zs.toArray).toList) R EX _
    rw [show ((#[] : Array Value) ++ zs.toArray).toList = zs by simp]
    exact wpAny_pure k
theorem sorted_tup_vals {t : Addr} {zs : List Value} {R : Value → Shared → Prop} (ht : IsTup sh.heap t zs.toArray) (S : SortsAt pr wo B.in1.in1 { sh with heap := sortingHeap (copyHeap sh.heap zs) (sh.heap.objs.size + 1) zs } kk zs) (hz : zs.length ≤ sizeLine)
    (k : R (.ref (sh.heap.objs.size + 1)) { sh with heap := sortedAll sh.heap zs (sortVals kk false zs zs).toArray }) : wpAny (model pr wo) B (call (.builtin "sorted") [.ref t]) R EX sh := by
  refine call_function_entry_kw kind_sorted plain_sorted entry_sorted (args_sorted1 _) ?_
  unfold Builtin.«sorted»; refine wpAny_bind (m := checkCount "sorted" 1 1 _) (wpAny_pure ?_)
  refine wpAny_bind (gather_tup ht hz ?_); refine wpAny_bind (wpAny_newList ?_ hz)
  have n1 : ((sh.heap.push (seqObj "list" #[] 0)).update sh.heap.objs.size (Obj.mapSeq (· ++ zs.toArray))).objs.size = sh.heap.objs.size + 1 := by rw [Heap.size_update, size_push']
  show wpAny _ _ _ _ _ { sh with heap := copyHeap sh.heap zs }
  rw [n1]
  refine wpAny_bind (wpAny_holding (wpAny_call_entry_kw slot_list_sort ⟨_, copyHeap_at sh.heap zs, rfl⟩ entry_list_sort ?bd (args_list_sort _)))
  case bd =>
    show wpAny (model pr wo) B.in1.in1 (Builtin.«list.sort» ⟨[.ref (sh.heap.objs.size + 1)], []⟩) _ _ _
    exact list_sort_vals (s := { sh with heap := copyHeap sh.heap zs }) (copyHeap_at sh.heap zs) S hz ⟨_, rfl, wpAny_pure ⟨_, rfl, k⟩⟩
end
section
variable {X : Cx} {pins : List (Addr × Obj)} {σ : L2.St} {W : Wd} {s : Shared}
/-- the items of a list, as what they read as -/
theorem eachRp : ∀ {vs : List V} {us : List Value} {ds : List Va}, Vals vs us → RpL X.K X.mg W vs ds → EachIs (fun u d => ∃ y, RelV y u ∧ Rp X.K X.mg W y d) us ds
  | _, _, [], r, h => by cases h; cases r; exact .nil
  | _, _, d :: ds, r, h => by
    cases h with
    | cons h1 h2 =>
      cases r with
      | cons r1 r2 => exact .cons ⟨_, r1, h1⟩ (eachRp r2 h2)
theorem eachRp_back : ∀ {us : List Value} {ds : List Va}, EachIs (fun u d => ∃ y, RelV y u ∧ Rp X.K X.mg W y d) us ds → ∃ vs, Vals vs us ∧ RpL X.K X.mg W vs ds
  | _, _, .nil => ⟨[], .nil, .nil⟩
  | _, _, .cons ⟨y, r1, h1⟩ t => by
    obtain ⟨vs, r2, h2⟩ := eachRp_back t
    exact ⟨y :: vs, .cons r1 r2, .cons h1 h2⟩
theorem eachReads (I : Inv X pins σ W.H s) : ∀ {us : List Value} {ds : List Va}, flatKs ds = true → EachIs (fun u d => ∃ y, RelV y u ∧ Rp X.K X.mg W y d) us ds → EachIs (fun v b => ∃ as, Reads s.heap v (pdV b) as) us ds
  | _, _, _, .nil => .nil
  | _, _, hf, .cons ⟨y, r1, h1⟩ t => by
    simp only [flatKs, Bool.and_eq_true] at hf
    exact .cons ⟨[], (nested_of I _ hf.1 h1 r1).2⟩ (eachReads I hf.2 t)
/-- sorted(list) -/
def rSorted (K : PySem.W.Frag) (mg : Str → Option Value) : List V → Hp → VK → Prop := fun xs H Q => ∃ W a ws ds, W.H = H ∧ xs = [V.ref a] ∧ (SqL K H a ws ∨ SqT K H a ws) ∧ RpL K mg W ws ds ∧ okSort ds = true ∧
  ∀ p us, RpL K mg W us (sortV ds) → us.length ≤ sizeLine → H p = none → Q (.ref p) (upd H p (.lst us))
theorem cr_sorted (hu : X.A.units + 64 < cLine) : CallR X (.builtin "sorted") (rSorted X.K X.mg) := by
  intro pins s σ H xs us Q I r ⟨W, a, ws, ds, hW, ex, hs, hr, ok, q⟩
  subst hW ex
  rw [Vals.ref1 r]
  obtain ⟨its, rv, p, hz⟩ : ∃ its, Vals ws its ∧ (s.heap.IsList a its.toArray ∨ IsTup s.heap a its.toArray) ∧ ws.length ≤ sizeLine := by
    rcases hs with hs | hs
    · obtain ⟨its, rv, p, hz⟩ := I.list hs; exact ⟨its, rv, .inl p.isList, hz⟩
    · obtain ⟨its, rv, p, hz⟩ := I.tuple hs; exact ⟨its, rv, .inr p, hz⟩
  have e1 := eachRp rv hr
  have er := eachReads I (okSort_parts ok).1 e1
  have er' : EachIs (fun v b => ∃ as, Reads (sortingHeap (copyHeap s.heap its) (s.heap.objs.size + 1) its) v (pdV b) as) its ds := er.mono fun _ _ ⟨as, r⟩ => ⟨as, PyProof.Rows.Reads.keeps (fun _ _ => sorting_copy_old) r⟩
  have hL : its.length ≤ sizeLine := by rw [← rv.length]; exact hz
  have hS := sortsAt_flat (prog := X.prog) (w := X.w) (A := X.A.in1.in1) (s := { s with heap := sortingHeap (copyHeap s.heap its) (s.heap.objs.size + 1) its }) (each_map (R := fun v d => ∃ as, Reads (sortingHeap (copyHeap s.heap its) (s.heap.objs.size + 1) its) v d as) pdV er') ok (by show X.A.units + 1 + 1 + 8 < cLine; omega)
  suffices hend : EP X pins σ Q (.ref (s.heap.objs.size + 1)) { s with heap := sortedAll s.heap its (sortVals (dataKind (sortingHeap (copyHeap s.heap its) (s.heap.objs.size + 1) its) (ds.map pdV)) false its its).toArray } by
    rcases p with p | p
    · exact sorted_vals p hS hL hend
    · exact sorted_tup_vals p hS hL hend
  have eo : EachIs (fun u d => ∃ y, RelV y u ∧ Rp X.K X.mg W y d) (sortVals (dataKind (sortingHeap (copyHeap s.heap its) (s.heap.objs.size + 1) its) (ds.map pdV)) false its its) (sortV ds) := sortVals_data false e1 er' (okSort_parts ok).2.1
  obtain ⟨vs', rv', rp'⟩ := eachRp_back eo
  have lo := sortVals_length (κ := dataKind (sortingHeap (copyHeap s.heap its) (s.heap.objs.size + 1) its) (ds.map pdV)) false (ks := its) (vs := its) rfl
  generalize sortVals (dataKind (sortingHeap (copyHeap s.heap its) (s.heap.objs.size + 1) its) (ds.map pdV)) false its its = out at eo rv' lo
  obtain ⟨c, hc⟩ := sortedAll_at s.heap its out.toArray
  have hn : W.H (s.heap.objs.size + 1) = none := I.hok.fresh (Nat.le_succ _)
  have hl : vs'.length ≤ sizeLine := by rw [rv'.length, lo]; exact hL
  refine ⟨.ref (s.heap.objs.size + 1), upd W.H (s.heap.objs.size + 1) (.lst vs'), I.laid (t' := s.toks) (fun b u e => sortedAll_old e) (Nat.le_succ _) ⟨hl, out, c, rv', hc⟩, rfl, q _ vs' rp' hl hn⟩
def gSorted : Mu → List Va → Option (List Va) := fun μ ds => match ds with
  | [d] => match look μ d with
    | .lst xs => if okSort xs = true then some (sortV xs) else none
    | .tup xs => if okSort xs = true then some (sortV xs) else none
    | _ => none
  | _ => none
theorem cf_sorted (hu : X.A.units + 64 < cLine) : CalF X (.builtin "sorted") gSorted := by
  refine ⟨_, cr_sorted hu, fun W μ vs ds xs Q c r e q => ?_⟩
  unfold gSorted at e
  split at e
  · rename_i d
    obtain ⟨w, rfl, rw'⟩ := r.one
    rcases look_cases c rw' with ⟨a, us, ys, e1, rfl, h1, h2⟩ | ⟨e1, hn⟩
    · rw [e1] at e
      simp only at e
      split at e
      · rename_i ok
        cases e
        exact ⟨W, a, us, ys, rfl, rfl, .inl (.inl (.inl h1)), h2, ok, fun p us' r' hz hp => q W p us' (Grow.refl W) r' hp hz⟩
      · cases e
    · rw [e1] at e
      cases rw' with
      | tup k1 k2 =>
        simp only at e
        split at e
        · rename_i ok
          cases e
          exact ⟨W, _, _, _, rfl, rfl, .inr k1, k2, ok, fun p us' r' hz hp => q W p us' (Grow.refl W) r' hp hz⟩
        · cases e
      | lst => exact absurd rfl (hn _)
      | _ => simp at e
  · cases e
end

/-! ### sets as collectors -/
def HS (w : World) (a : Addr) (ks : List Str) : HO := .ext fun h => ∃ es ep t, SetS w h a ks es ep t
structure SetN0 (w : World) (h : Heap) (a : Addr) (L : KL) : Prop where
  ex : ∃ es ep t, (∃ o, h.get? a = some o ∧ o.ExactSet ∧ o.data = .set es ep t) ∧ es.toList = L.map (rowN w) ∧ TabOk t (L.map fun p => p.2.hash w) ∧ (L.map (·.2)).Nodup ∧ (w.params.followText "set-order" = true ∨ t.led = true) ∧ L.length * 5 < t.mask * 3 ∧ L.length < 64
theorem SetN.raw {w : World} {h : Heap} {a : Addr} {L : KL} {es : Array (Int × Value)} {ep : Nat} {t : SetTable} (R : SetN w h a L es ep t) : SetN0 w h a L := ⟨es, ep, t, R.ob, R.rows, R.tab, R.nd, R.led, R.room, R.few⟩
theorem SetN0.full {w : World} {h : Heap} {a : Addr} {L : KL} (R : SetN0 w h a L) (ht : ∀ p ∈ L, IsN h p.2 p.1) : ∃ es ep t, SetN w h a L es ep t := by
  obtain ⟨es, ep, t, h1, h2, h3, h4, h5, h6, h7⟩ := R.ex
  exact ⟨es, ep, t, h1, h2, h3, h4, ht, h5, h6, h7⟩
def HN (w : World) (a : Addr) (L : KL) : HO := .ext fun h => SetN0 w h a L
theorem hs_new {w : World} {P : Program} {H : Hp} {h : Heap} {a : Addr} {ks : List Str} {es : Array (Int × Value)} {ep : Nat} {t : SetTable} (R : SetS w h a ks es ep t) : ObjOk P w H h a (HS w a ks) := by
  obtain ⟨o, ho, r⟩ := id R.ob
  exact ⟨⟨es, ep, t, R⟩, ⟨o, ho⟩, fun h1 h2 p k => by
    obtain ⟨es, ep, t, R⟩ := p
    obtain ⟨o, ho, r⟩ := id R.ob
    exact ⟨es, ep, t, ⟨o, k o ho, r⟩, R.good, R.keys, R.nd, R.few, R.fits, R.ris, R.led⟩⟩
theorem hn_new {w : World} {P : Program} {H : Hp} {h : Heap} {a : Addr} {L : KL} (R : SetN0 w h a L) : ObjOk P w H h a (HN w a L) := by
  obtain ⟨es, ep, t, ⟨o, ho, r⟩, r2⟩ := id R.ex
  exact ⟨R, ⟨o, ho⟩, fun h1 h2 p k => by
    obtain ⟨es, ep, t, ⟨o, ho, r⟩, r2⟩ := id (p : SetN0 w h1 a L).ex
    exact ⟨es, ep, t, ⟨o, k o ho, r⟩, r2⟩⟩
/-- each once, the first ones -/
def ddV : List Va → List Va
  | [] => []
  | x :: xs => x :: (ddV xs).filter fun y => !NestedKey.beq (keyV y) (keyV x)
def isTupK (k : Va) : Bool := match k with
  | .tup _ => true
  | _ => false
def isStrK (k : Va) : Bool := match k with
  | .str _ => true
  | _ => false
/-- a set of texts -/
def AcS (w : World) (K : PySem.W.Frag) (mg : Str → Option Value) (D : Addr) (W : Wd) (acc : List Va) : Prop := ∃ ks, W.H D = some (HS w D ks) ∧ (∀ x, x ∈ ks ↔ Va.str x ∈ acc) ∧ ks.length ≤ acc.length ∧ ∀ v ∈ acc, isStrK v = true
/-- a set of nested tuples -/
def AcN (w : World) (K : PySem.W.Frag) (mg : Str → Option Value) (D : Addr) (W : Wd) (acc : List Va) : Prop := ∃ L : KL, W.H D = some (HN w D L) ∧ (∀ p ∈ L, ∃ v, v ∈ acc ∧ Rp K mg W (.ref p.1) v ∧ keyV v = p.2) ∧ (∀ v ∈ acc, keyV v ∈ L.map (·.2)) ∧ L.length ≤ acc.length ∧
  ∀ v ∈ acc, isTupK v = true ∧ flatK v = true ∧ (keyV v).depth ≤ 8
def okS (acc : List Va) (v : Va) : Bool := isStrK v && decide (acc.length + 1 < 4096)
def okN (acc : List Va) (v : Va) : Bool := isTupK v && flatK v && decide ((keyV v).depth ≤ 8) && decide (acc.length + 1 < 64)
theorem ext_off {D : Addr} {W : Wd} {φ : Heap → Prop} (h : W.H D = some (.ext φ)) : D ∉ W.φ ∧ ¬ W.fz D ∧ (∀ xs, W.H D ≠ some (.tup xs)) ∧ ∀ o u, W.H D ≠ some (.frz o u) := by
  refine ⟨fun z => ?_, fun z => ?_, (fun xs e => by rw [h] at e; cases e), (fun o u e => by rw [h] at e; cases e)⟩
  · obtain ⟨xs, e⟩ := W.cl D z
    rw [h] at e; cases e
  · obtain ⟨_, xs, e⟩ := W.fl D z
    rw [h] at e; cases e
theorem Wd.setX {W : Wd} {D : Addr} {φ ψ : Heap → Prop} (hD : W.H D = some (.ext φ)) : ∃ W' : Wd, W'.H = upd W.H D (.ext ψ) ∧ AtD D W W' := by
  refine ⟨⟨W.φ, W.fz, upd W.H D (.ext ψ), W.nd, fun a h => ?_, fun a h => ?_⟩, rfl, ⟨⟨_, rfl⟩, rfl, rfl⟩⟩
  · have e : a ≠ D := fun e => (ext_off hD).1 (e ▸ h)
    obtain ⟨xs, q⟩ := W.cl a h
    exact ⟨xs, by rw [upd_ne e]; exact q⟩
  · have e : a ≠ D := fun e => (ext_off hD).2.1 (e ▸ h)
    refine ⟨(W.fl a h).1, ?_⟩
    obtain ⟨xs, q⟩ := (W.fl a h).2
    exact ⟨xs, by rw [upd_ne e]; exact q⟩
section
variable {K : PySem.W.Frag} {mg : Str → Option Value} {w : World}
theorem TbM.setX {H : Hp} {D : Addr} {φ : Heap → Prop} {o : HO} (h : H D = some (.ext φ)) (hφ : ∀ q, φ ≠ fun h => ∃ (oc : Obj) (vs : Array Value) (t : Tok), h.get? D = some oc ∧ oc.data = .fields vs ∧ vs[1]? = some (.str q t)) : TbM H (upd H D o) := fun P q ⟨ps, h1, h2, h3⟩ => by
  have nP : P ≠ D := fun e => by rw [e, h] at h1; cases h1
  refine ⟨ps, by rw [upd_ne nP]; exact h1, h2, fun pos cv e => ?_⟩
  obtain ⟨c, e1, e2⟩ := h3 pos cv e
  refine ⟨c, e1, ?_⟩
  have nc : c ≠ D := fun e => by
    subst e
    rw [h] at e2
    unfold LamX.CodeO at e2
    injection e2 with e2
    injection e2 with e2
    exact hφ q e2
  rw [upd_ne nc]
  exact e2
/-- there is a heap with an object at D -/
theorem heapAt (D : Addr) (o : Obj) (hf : o.isFreed = false) : ∃ h : Heap, h.get? D = some o := by
  have key : ∀ n : Nat, ∃ h : Heap, h.objs.size = n := by
    intro n
    induction n with
    | zero => exact ⟨default, rfl⟩
    | succ n ih =>
      obtain ⟨h, e⟩ := ih
      exact ⟨h.push o, by rw [Heap.size_push, e]⟩
  obtain ⟨h, e⟩ := key D
  exact ⟨h.push o, by rw [← e]; exact Heap.get?_push_size _ hf⟩
theorem noCode {D : Addr} {φ : Heap → Prop} (hφ : ∀ h, φ h → ∃ o es ep t, h.get? D = some o ∧ o.data = .set es ep t) (q : Str) : φ ≠ fun h => ∃ (oc : Obj) (vs : Array Value) (t : Tok), h.get? D = some oc ∧ oc.data = .fields vs ∧ vs[1]? = some (.str q t) := fun e => by
  obtain ⟨h, hh⟩ := heapAt D { cls := .none, data := .fields #[.none, .str q 0] } rfl
  have hp : φ h := by
    rw [e]
    exact ⟨_, _, 0, hh, rfl, rfl⟩
  obtain ⟨o, es, ep, t, h1, h2⟩ := hφ h hp
  rw [hh] at h1
  cases h1
  cases h2
theorem acS_ok (D : Addr) : AcOk D (AcS w K mg D) where
  mono := fun ⟨ks, h1, h2, h3, h4⟩ x => ⟨ks, x.keep _ _ h1 (ext_off h1).1 nT_ext, h2, h3, h4⟩
  noT := fun ⟨ks, h1, _⟩ => ⟨fun o => TbM.setX h1 (noCode fun h ⟨es, ep, t, R⟩ => let ⟨o, ho, _, hd⟩ := R.ob; ⟨o, es, ep, t, ho, hd⟩), by rw [h1]; simp⟩
  off := fun ⟨ks, h1, _⟩ => ext_off h1
theorem acN_ok (D : Addr) : AcOk D (AcN w K mg D) where
  mono := fun ⟨L, h1, h2, h3, h4, h5⟩ x => ⟨L, x.keep _ _ h1 (ext_off h1).1 nT_ext, fun p hp => let ⟨v, k1, k2, k3⟩ := h2 p hp; ⟨v, k1, Rp.mono x.exs _ k2, k3⟩, h3, h4, h5⟩
  noT := fun ⟨L, h1, _⟩ => ⟨fun o => TbM.setX h1 (noCode fun h R => let ⟨es, ep, t, ⟨o, ho, _, hd⟩, _⟩ := (show SetN0 w h D L from R).ex; ⟨o, es, ep, t, ho, hd⟩), by rw [h1]; simp⟩
  off := fun ⟨ks, h1, _⟩ => ext_off h1
theorem emS {Y : Cx} (D : Addr) : EmOk Y true D (AcS Y.w Y.K Y.mg D) okS := fun pins s σ W y u v acc I r rp ⟨ks, h1, h2, h3, h4⟩ hok => by
  unfold okS at hok
  simp only [Bool.and_eq_true, decide_eq_true_eq] at hok
  obtain ⟨hk, hl⟩ := hok
  cases v <;> simp only [isStrK, Bool.false_eq_true] at hk
  rename_i x
  cases rp
  obtain ⟨tk, rfl⟩ := r
  obtain ⟨es, ep, t, R⟩ := (I.hok D _ h1).1
  show wpAny _ _ (call (.builtin "set.add") _) _ _ _
  refine call_addS R (by show ks.length + 1 < 4096; omega) fun h' ks' es' ep' t' sb R' z1 z2 => ?_
  obtain ⟨W', hW, ad⟩ := Wd.setX (W := W) (D := D) (ψ := fun h => ∃ es ep t, SetS Y.w h D ks' es ep t) h1
  have I' : Inv Y pins σ W'.H { s with heap := h', toks := s.toks + 1 } := by
    rw [hW]
    exact I.write (e := D) (t' := s.toks + 1) (by rw [h1]; trivial) (.inl rfl) (fun b u hb hu => (sb.2 b hb).trans hu) (let ⟨o, ho, _⟩ := R'.ob; ⟨o, ho⟩) (hs_new R')
  refine ⟨W', I', ad, ks', by rw [hW]; exact upd_same, fun x' => ?_, ?_, fun v' hv' => ?_⟩
  · by_cases hx : x ∈ ks
    · rw [z1 hx, h2 x', List.mem_append, List.mem_singleton]
      refine ⟨.inl, fun q => q.elim id fun q => ?_⟩
      cases q
      exact (h2 x).mp hx
    · rw [z2 hx, List.mem_append, List.mem_append, List.mem_singleton, List.mem_singleton, h2 x']
      simp
  · rw [List.length_append]
    by_cases hx : x ∈ ks
    · rw [z1 hx]; simp; omega
    · rw [z2 hx, List.length_append]; simp; omega
  · rcases List.mem_append.mp hv' with q | q
    · exact h4 v' q
    · rw [List.mem_singleton.mp q]; rfl
theorem emN {Y : Cx} (hu : Y.A.units + 64 < cLine) (D : Addr) : EmOk Y true D (AcN Y.w Y.K Y.mg D) okN := fun pins s σ W y u v acc I r rp ⟨L, h1, h2, h3, h4, h5⟩ hok => by
  unfold okN at hok
  simp only [Bool.and_eq_true, decide_eq_true_eq] at hok
  obtain ⟨⟨⟨hk, hf⟩, hd⟩, hl⟩ := hok
  have isn : ∀ {W : Wd} {y : V} {v : Va} {u : Value} {σ : L2.St} {pins : List (Addr × Obj)} {s : Shared}, Inv Y pins σ W.H s → Rp Y.K Y.mg W y v → RelV y u → isTupK v = true → flatK v = true → (keyV v).depth ≤ 8 → ∃ x, y = .ref x ∧ u = .ref x ∧ IsN s.heap (keyV v) x := fun {W y v u σ pins s} I rp r hk hf hd => by
    have q := (nested_of I v hf rp r).1
    cases v <;> simp only [isTupK, Bool.false_eq_true] at hk
    cases rp
    cases r
    exact ⟨_, rfl, rfl, q, hd⟩
  obtain ⟨x, rfl, rfl, hx⟩ := isn I rp r hk hf hd
  obtain ⟨es, ep, t, R⟩ := (show SetN0 Y.w s.heap D L from (I.hok D _ h1).1).full fun p hp => by
    obtain ⟨v', k1, k2, k3⟩ := h2 p hp
    obtain ⟨f1, f2, f3⟩ := h5 v' k1
    obtain ⟨x', e1, e2, q⟩ := isn (u := .ref p.1) I k2 rfl f1 f2 f3
    cases e1
    rw [k3] at q
    exact q
  show wpAny _ _ (call (.builtin "set.add") _) _ _ _
  refine call_addN R hx (by omega) (by omega) fun h' L' es' ep' t' sb R' z1 z2 => ?_
  obtain ⟨W', hW, ad⟩ := Wd.setX (W := W) (D := D) (ψ := fun h => SetN0 Y.w h D L') h1
  have I' : Inv Y pins σ W'.H { s with heap := h', toks := s.toks + (keyV v).draws } := by
    rw [hW]
    exact I.write (e := D) (t' := s.toks + (keyV v).draws) (by rw [h1]; trivial) (.inl rfl) (fun b u hb hu => (sb.2 b hb).trans hu) (let ⟨o, ho, _⟩ := R'.ob; ⟨o, ho⟩) (hn_new R'.raw)
  have xs := ad.exs (acN_ok (w := Y.w) (K := Y.K) (mg := Y.mg) D) ⟨L, h1, h2, h3, h4, h5⟩
  refine ⟨W', I', ad, L', by rw [hW]; exact upd_same, fun p hp => ?_, fun v' hv' => ?_, ?_, fun v' hv' => ?_⟩
  · by_cases hm : keyV v ∈ L.map (·.2)
    · rw [z1 hm] at hp
      obtain ⟨v', k1, k2, k3⟩ := h2 p hp
      exact ⟨v', List.mem_append_left _ k1, Rp.mono xs _ k2, k3⟩
    · rcases List.mem_cons.mp ((z2 hm).mem_iff.mp hp) with e | hp
      · subst e
        exact ⟨v, List.mem_append_right _ (List.mem_singleton.mpr rfl), Rp.mono xs _ rp, rfl⟩
      · obtain ⟨v', k1, k2, k3⟩ := h2 p hp
        exact ⟨v', List.mem_append_left _ k1, Rp.mono xs _ k2, k3⟩
  · by_cases hm : keyV v ∈ L.map (·.2)
    · rw [z1 hm]
      rcases List.mem_append.mp hv' with q | q
      · exact h3 v' q
      · rw [List.mem_singleton.mp q]; exact hm
    · have pm := (z2 hm).map (·.2)
      rw [pm.mem_iff, List.map_cons]
      rcases List.mem_append.mp hv' with q | q
      · exact List.mem_cons_of_mem _ (h3 v' q)
      · rw [List.mem_singleton.mp q]; exact List.mem_cons_self
  · rw [List.length_append]
    by_cases hm : keyV v ∈ L.map (·.2)
    · rw [z1 hm]; omega
    · rw [(z2 hm).length_eq]; simp; omega
  · rcases List.mem_append.mp hv' with q | q
    · exact h5 v' q
    · rw [List.mem_singleton.mp q]; exact ⟨hk, hf, hd⟩
abbrev obSet (X : Cx) : Obj := { cls := .type "set", dict := none, data := .set #[] 0 (.fresh 0 0 (!X.w.params.followText "set-order")) }
theorem setS_fresh {w : World} {h : Heap} {a : Addr} (ho : h.get? a = some { cls := .type "set", dict := none, data := .set #[] 0 (.fresh 0 0 (!w.params.followText "set-order")) }) : SetS w h a [] #[] 0 (.fresh 0 0 (!w.params.followText "set-order")) where
  ob := ⟨_, ho, ⟨rfl, rfl, rfl⟩, rfl⟩
  good := fun e he => by simp at he
  keys := by simp
  nd := List.nodup_nil
  few := by decide
  fits := rfl
  ris := List.Pairwise.nil
  led := by
    show _ ∨ (!w.params.followText "set-order") = true
    cases w.params.followText "set-order" <;> simp
theorem setN_fresh {w : World} {h : Heap} {a : Addr} (ho : h.get? a = some { cls := .type "set", dict := none, data := .set #[] 0 (.fresh 0 0 (!w.params.followText "set-order")) }) : SetN w h a [] #[] 0 (.fresh 0 0 (!w.params.followText "set-order")) where
  ob := ⟨_, ho, ⟨rfl, rfl, rfl⟩, rfl⟩
  rows := rfl
  tab := ⟨List.Pairwise.nil, rfl, rfl, .inl rfl, fun x hx => (by cases hx), fun i h j hi => (by simp at hi)⟩
  nd := List.nodup_nil
  tup := fun p hp => (by cases hp)
  led := by
    show _ ∨ (!w.params.followText "set-order") = true
    cases w.params.followText "set-order" <;> simp
  room := by
    show 0 * 5 < 7 * 3
    decide
  few := by
    show 0 < 64
    decide
theorem newS {X : Cx} : NewAc X true (newSet (.type "set")) (obSet X) (fun D => HS X.w D []) (AcS X.w X.K X.mg) okS where
  new := fun h => PpSet.newSet_ok h
  obj := fun H h => hs_new (setS_fresh (Heap.get?_push_size _ rfl))
  ac0 := fun W D h => ⟨[], upd_same, (fun x => by simp), Nat.le_refl _, fun v hv => by cases hv⟩
  acOk := acS_ok
  emit := fun scope D s H C cl fp => emS D
theorem newN {X : Cx} (hu : X.A.units + 64 < cLine) : NewAc X true (newSet (.type "set")) (obSet X) (fun D => HN X.w D []) (AcN X.w X.K X.mg) okN where
  new := fun h => PpSet.newSet_ok h
  obj := fun H h => hn_new (setN_fresh (Heap.get?_push_size _ rfl)).raw
  ac0 := fun W D h => ⟨[], upd_same, (fun p hp => by cases hp), (fun v hv => by cases hv), Nat.le_refl _, fun v hv => by cases hv⟩
  acOk := acN_ok
  emit := fun scope D s H C cl fp => emN (Y := X.blk s H scope (compEnvC scope cl C X.env) fp) hu D
end
end Ev
end MEvH4
section MEvH5
/-! Ev, part H5: set(list). -/
namespace Ev
open PySem PySem.Spec PyProof.Rows L2 PySem.W PySem.SeqAt
/-- what the growing set S is after i of the items: it needs S itself and what stood in h0 -/
structure Grows (P : Program) (w : World) (S : Addr) (h0 : Heap) (items : List Value) (room : Around → Prop) (J : Nat → Heap → Prop) : Prop where
  keep : ∀ {i h h'}, J i h → (∀ o, h.get? S = some o → h'.get? S = some o) → (∀ b o, h0.get? b = some o → h'.get? b = some o) → J i h'
  step : ∀ {A : Around} {E : Value → Shared → Prop} {i : Nat} {v : Value} {s : Shared} {Q : Bool → Shared → Prop}, room A → items[i]? = some v → J i s.heap → (∀ b o, h0.get? b = some o → s.heap.get? b = some o) →
    (∀ b h' tk, s.toks ≤ tk → Heap.SameBut S s.heap h' → J (i + 1) h' → Q b { s with heap := h', toks := tk }) → wpAny (model P w) A (setAdd S v) Q E s
section
variable {P : Program} {w : World} {A : Around} {E : Value → Shared → Prop} {s : Shared}
theorem update_loop {I : Addr} {fp wr : List Addr} {G : Array GenState → Array GenState → Prop} {n : Nat} {Pv : Nat → Value → Prop} {St : Nat → Shared → Prop} {R : Result → Shared → Prop} {S : Addr} {h0 : Heap} {items : List Value} {room : Around → Prop} {J : Nat → Heap → Prop}
    (g : Grows P w S h0 items room J) (W : WalksS P w A.in1 I fp wr G n Pv St) (hSf : S ∉ fp) (hval : ∀ i v, Pv i v → items[i]? = some v) (hS0 : h0.get? S = none) (hw0 : ∀ b ∈ wr, h0.get? b = none) (hu : room A.in1) :
    ∀ (k i : Nat) (s : Shared), n - i = k → i ≤ n → St i s → (∀ b o, h0.get? b = some o → s.heap.get? b = some o) → J i s.heap →
      (∀ s', Moved (S :: wr) G s s' → J n s'.heap → (∀ b o, h0.get? b = some o → s'.heap.get? b = some o) → R (.ok (.ret .none)) s') →
      codeAny (model P w) A (.builtin "set.update.loop" ⟨[.ref S, .ref I], []⟩) R s := by
  have hSw : S ∉ wr := fun h => hSf (W.sub _ h)
  have hsub : ∀ b ∈ wr, b ∈ S :: wr := fun b hb => List.mem_cons_of_mem _ hb
  have keepM : ∀ {s s' : Shared}, Moved wr G s s' → (∀ b o, h0.get? b = some o → s.heap.get? b = some o) → ∀ b o, h0.get? b = some o → s'.heap.get? b = some o := fun hm hkp b o e =>
    hm.heap b o (fun hb => by rw [hw0 b hb] at e; cases e) (hkp b o e)
  intro k
  induction k with
  | zero =>
    intro i s hk' hi hst hkp hJ hR
    obtain rfl : i = n := by omega
    refine codeAny_builtin F.entry_set_update_loop ?_
    rw [Around.under_plainId F.plain_set_update_loop _]
    show wpAny _ A.in1 (pyNext (.ref I) >>= _) _ _ s
    refine wpAny_bind (W.done s _ _ hst fun s' hm => ?_)
    show wpAny _ A.in1 (ret Value.none) _ _ s'
    have hkp' := keepM hm hkp
    exact wpAny_pure (hR s' (hm.mono hsub) (g.keep hJ (fun o e => hm.heap S o hSw e) hkp') hkp')
  | succ k ih =>
    intro i s hk' hi hst hkp hJ hR
    have hlt : i < n := by omega
    refine codeAny_builtin F.entry_set_update_loop ?_
    rw [Around.under_plainId F.plain_set_update_loop _]
    show wpAny _ A.in1 (pyNext (.ref I) >>= _) _ _ s
    refine wpAny_bind (W.item i s _ _ hlt hst fun v s' hP hst' hm => ?_)
    have hkp' := keepM hm hkp
    show wpAny _ A.in1 (holding [v] (setAdd S v) >>= _) _ _ s'
    refine wpAny_bind (wpAny_holding ?_)
    refine g.step hu (hval i v hP) (g.keep hJ (fun o e => hm.heap S o hSw e) hkp') hkp' fun b h' tk htk hsb hJ' => ?_
    have hkp2 : ∀ b o, h0.get? b = some o → h'.get? b = some o := fun b o e => (hsb.2 b (fun z => by rw [z, hS0] at e; cases e)).trans (hkp' b o e)
    refine wpAny_pure ⟨plainId_quiet F.plain_set_update_loop _, ih (i + 1) _ (by omega) hlt (W.frame _ s' _ _ hst' htk fun b hb o e => ?_) hkp2 hJ' fun s'' hm'' hJ'' hkp'' => ?_⟩
    · rw [hsb.2 b (fun h : b = S => hSf (by rw [← h]; exact hb))]; exact e
    · refine hR s'' (Moved.trans W.gtrans ((hm.mono hsub).then_heap htk fun b o hb e => ?_) hm'') hJ'' hkp''
      rw [hsb.2 b (fun h : b = S => hb (by rw [h]; exact List.mem_cons_self))]; exact e
theorem noneAt {h : Heap} {b : Addr} (hb : h.objs.size ≤ b) : h.get? b = none := by
  cases q : h.get? b with
  | none => rfl
  | some o => exact absurd (Nat.lt_of_lt_of_le (Heap.lt_size q) hb) (Nat.lt_irrefl _)
set_option maxRecDepth 100000 in
set_option maxHeartbeats 3200000 in
/-- set(xs) -/
theorem call_set_by {l : Addr} {items : Array Value} {room : Around → Prop} {J : Nat → Heap → Prop} {Q : Value → Shared → Prop} (hh : A.handled = none) (hl : s.heap.IsList l items) (g : Grows P w s.heap.objs.size s.heap items.toList room J)
    (hJ0 : ∀ h : Heap, h.get? s.heap.objs.size = some { cls := .type "set", dict := none, data := .set #[] 0 (.fresh 0 0 (!w.params.followText "set-order")) } → (∀ b o, s.heap.get? b = some o → h.get? b = some o) → J 0 h) (hu : ∀ A' : Around, A'.units ≤ A.units + 8 → room A')
    (h : ∀ (h' : Heap) (tk : Nat), J items.size h' → (∀ b o, s.heap.get? b = some o → h'.get? b = some o) → Q (.ref s.heap.objs.size) { s with heap := h', toks := tk }) :
    wpAny (model P w) A (call (.type "set") [.ref l]) Q E s := by
  obtain ⟨c, tl, hmro⟩ := F.called_set.mro
  have hmade := F.called_set.made
  have hsub := F.called_set.sub
  refine wpAny_call (codeAny_of_tree ?_)
  show wpAny _ _ (callAny (.type "set") _) _ _ _
  refine wpAny_pure ⟨Code.quiet_builtin _ (by decide +kernel), codeAny_builtin F.entry_type_call ?_⟩
  rw [Around.under_plain (weight_type_call_type "set" [.ref l] []) rfl]
  have h1 := F.called_set.notType
  have h2 := F.called_set.canCreate
  have hct := F.typeCall_set_1 (.ref l)
  repeat (any_goals (first | assumption | wp_step))
  refine codeAny_mono (code_set_led1 (.ref l) (E := E) (Q₁ := fun obj s₁ => obj = .ref s.heap.objs.size ∧ s₁ = { s with heap := s.heap.push { cls := .type "set", dict := none, data := .set #[] 0 (.fresh 0 0 (!w.params.followText "set-order")) } }) ⟨rfl, rfl⟩) fun r s₁ hr => ?_
  cases r with
  | error e => exact hr
  | ok fl =>
    cases fl with
    | ret obj =>
      obtain ⟨rfl, rfl⟩ := hr
      have hS : (s.heap.push { cls := .type "set", dict := none, data := .set #[] 0 (.fresh 0 0 (!w.params.followText "set-order")) }).get? s.heap.objs.size = some { cls := .type "set", dict := none, data := .set #[] 0 (.fresh 0 0 (!w.params.followText "set-order")) } := Heap.get?_push_size _ rfl
      have hT : Shared.TypeIs { s with heap := s.heap.push { cls := .type "set", dict := none, data := .set #[] 0 (.fresh 0 0 (!w.params.followText "set-order")) } } (.ref s.heap.objs.size) "set" := ⟨_, hS, rfl⟩
      have hli := F.called_set.init.lookup
      have hbi := F.called_set.init.bind (.ref s.heap.objs.size)
      repeat (any_goals (first | assumption | wp_step))
      refine codeAny_mono (codeAny_call_builtin (R := wants (fun r s₂ => r = .none ∧ ∃ h' tk, s₂ = { s with heap := h', toks := tk } ∧ J items.size h' ∧ (∀ b o, s.heap.get? b = some o → h'.get? b = some o)) E) F.called_set.init.plain F.entry_set_init (check_set_init_1 hT ?_)) fun r₂ s₂ hr₂ => ?_
      · obtain ⟨ol, hol, hcl, nl, hdl⟩ := hl
        obtain ⟨ocls, odict, odata, oslots⟩ := ol
        simp only at hcl hdl
        subst hcl; subst hdl
        have hol' : (s.heap.push { cls := .type "set", dict := none, data := .set #[] 0 (.fresh 0 0 (!w.params.followText "set-order")) }).get? l = some { cls := .type "list", dict := odict, data := .seq items nl, slots := oslots } := Heap.get?_push_of_some _ hol
        have hsls := F.sub_list_set
        have hslf := F.sub_list_frozenset
        have hne : (Value.type "list" == Value.type "dict") = false := by decide
        have hl1 : (s.heap.push { cls := .type "set", dict := none, data := .set #[] 0 (.fresh 0 0 (!w.params.followText "set-order")) }).IsList l items := ⟨_, hol', rfl, nl, rfl⟩
        unfold Builtin.«set.__init__» noKeywords Builtin.Frozenset.updateFrom
        generalize hPI : pyIter = PI
        wp_walk
        subst hPI
        refine wpAny_pyIter_list hl1 ?_
        refine wpAny_bind (wpAny_runValue ?_)
        have hlS : l < s.heap.objs.size := Heap.lt_size hol
        have hh3 : A.in1.in1.in1.handled = none := by simp [hh]
        have hneI : l ≠ (s.heap.push { cls := .type "set", dict := none, data := .set #[] 0 (.fresh 0 0 (!w.params.followText "set-order")) }).objs.size := by
          rw [Heap.size_push]; exact Nat.ne_of_lt (Nat.lt_succ_of_lt hlS)
        have hSf : s.heap.objs.size ∉ [(s.heap.push { cls := .type "set", dict := none, data := .set #[] 0 (.fresh 0 0 (!w.params.followText "set-order")) }).objs.size, l] := by
          rw [Heap.size_push]; simp only [List.mem_cons, List.mem_singleton, List.not_mem_nil, or_false, not_or]
          exact ⟨Nat.ne_of_lt (Nat.lt_succ_self _), Nat.ne_of_gt hlS⟩
        refine update_loop g ((Walks.list hh3 _ l hneI items).toS) hSf (fun i v hv => by rw [Array.getElem?_toList]; exact hv) (noneAt (Nat.le_refl _)) (fun b hb => noneAt (by
            rw [List.mem_singleton.mp hb, Heap.size_push]
            exact Nat.le_succ _)) (hu _ (by first | (show A.units + 3 ≤ _; omega) | (show A.units ≤ _; omega) | (show A.units + 1 ≤ _; omega) | (show A.units + 2 ≤ _; omega) | (show A.units + 4 ≤ _; omega))) (items.size - 0) 0 _ (by omega) (Nat.zero_le _)
          ⟨⟨_, Heap.get?_push_size _ rfl, rfl, rfl⟩, (hl1.push _)⟩ (fun b o e => Heap.get?_push_of_some _ (Heap.get?_push_of_some _ e)) ?hS0 ?hR
        case hS0 => exact hJ0 _ (Heap.get?_push_of_some _ hS) (fun b o e => Heap.get?_push_of_some _ (Heap.get?_push_of_some _ e))
        case hR =>
          intro s' hm hJ' hkp
          obtain ⟨h', g2, d', tk', os'⟩ := s'
          have eg : g2 = s.gens := hm.gens
          have ed : d' = s.drawn := hm.drawn
          have eo : os' = s.os := hm.os
          subst eg; subst ed; subst eo
          show wpAny _ _ _ _ _ _
          refine wpAny_pure ?_
          show wpAny _ _ (ret Value.none) _ _ _
          exact wpAny_pure ⟨rfl, h', tk', rfl, hJ', hkp⟩
      · cases r₂ with
        | error e => exact hr₂
        | ok fl₂ =>
          cases fl₂ with
          | ret r =>
            obtain ⟨rfl, h', tk, rfl, hJ', hk'⟩ := hr₂
            repeat (any_goals (first | assumption | wp_step))
            exact h _ _ hJ' hk'
          | _ => exact hr₂.elim
    | _ => exact hr.elim
end
end Ev
end MEvH5
section MEvH6
/-! Ev, part H6: set(list) of texts, of nested tuples; sorted(set). -/
namespace Ev
open PySem PySem.Spec PyProof.Rows L2 PySem.W PySem.SeqAt
section
variable {P : Program} {w : World} {A : Around} {E : Value → Shared → Prop} {s : Shared}
theorem take_snoc {α : Type} {l : List α} {i : Nat} {x : α} (h : l[i]? = some x) : l.take (i + 1) = l.take i ++ [x] := by
  rw [List.take_succ, h]; rfl
structure JN (w : World) (S : Addr) (ks : KL) (i : Nat) (h : Heap) : Prop where
  ex : ∃ L es ep t, SetN w h S L es ep t ∧ (∀ p ∈ L, p ∈ ks.take i) ∧ (∀ p ∈ ks.take i, p.2 ∈ L.map (·.2)) ∧ L.length ≤ i
structure JS (w : World) (S : Addr) (xs : List Str) (i : Nat) (h : Heap) : Prop where
  ex : ∃ ks es ep t, SetS w h S ks es ep t ∧ (∀ x, x ∈ ks ↔ x ∈ xs.take i) ∧ ks.length ≤ i
theorem growsN {S : Addr} {h0 : Heap} {ks : KL} {items : List Value} (hi : items = ks.map fun p => Value.ref p.1) (hk : ∀ p ∈ ks, IsN h0 p.2 p.1) (hl : ks.length < 64) : Grows P w S h0 items (fun A => A.units + 8 < cLine) (JN w S ks) where
  keep := fun ⟨L, es, ep, t, R, a1, a2, a3⟩ kS k0 => by
    obtain ⟨o, ho, r⟩ := R.ob
    exact ⟨L, es, ep, t, ⟨⟨o, kS o ho, r⟩, R.rows, R.tab, R.nd, fun p hp => (hk p (List.mem_of_mem_take (a1 p hp))).keep k0, R.led, R.room, R.few⟩, a1, a2, a3⟩
  step := fun {A E i v s Q} hu hv ⟨L, es, ep, t, R, a1, a2, a3⟩ k0 hQ => by
    rw [hi, List.getElem?_map] at hv
    cases hp : ks[i]? with
    | none => rw [hp] at hv; cases hv
    | some p =>
      rw [hp] at hv
      cases hv
      have hx : IsN s.heap p.2 p.1 := (hk p (List.mem_of_getElem? hp)).keep k0
      have hil : i < ks.length := (List.getElem?_eq_some_iff.mp hp).1
      unfold setAdd
      refine wpAny_holding ?_
      refine wpAny_bind ((nestedKind P w).pyHash hu hx ?_)
      refine add_n (s := { s with toks := s.toks + p.2.draws }) ⟨R.ob, R.rows, R.tab, R.nd, R.tup, R.led, R.room, R.few⟩ hx hu (by omega) fun b h' L' es' ep' t' sb R' z1 z2 => ?_
      refine hQ b h' _ (Nat.le_add_right _ _) sb ⟨L', es', ep', t', R', ?_, ?_, ?_⟩
      · intro q hq
        rw [take_snoc hp]
        by_cases hm : p.2 ∈ L.map (·.2)
        · rw [z1 hm] at hq
          exact List.mem_append_left _ (a1 q hq)
        · rcases List.mem_cons.mp ((z2 hm).mem_iff.mp hq) with e | hq
          · rw [e]; exact List.mem_append_right _ (List.mem_singleton.mpr rfl)
          · exact List.mem_append_left _ (a1 q hq)
      · intro q hq
        rw [take_snoc hp] at hq
        by_cases hm : p.2 ∈ L.map (·.2)
        · rw [z1 hm]
          rcases List.mem_append.mp hq with z | z
          · exact a2 q z
          · rw [List.mem_singleton.mp z]; exact hm
        · rw [((z2 hm).map (·.2)).mem_iff, List.map_cons]
          rcases List.mem_append.mp hq with z | z
          · exact List.mem_cons_of_mem _ (a2 q z)
          · rw [List.mem_singleton.mp z]; exact List.mem_cons_self
      · by_cases hm : p.2 ∈ L.map (·.2)
        · rw [z1 hm]; omega
        · rw [(z2 hm).length_eq]; simp; omega
theorem growsS {S : Addr} {h0 : Heap} {xs : List Str} {items : List Value} (hi : StrsAre items xs) (hl : xs.length + 1 < 4096) : Grows P w S h0 items (fun _ => True) (JS w S xs) where
  keep := fun ⟨ks, es, ep, t, R, a1, a2⟩ kS k0 => by
    obtain ⟨o, ho, r⟩ := R.ob
    exact ⟨ks, es, ep, t, ⟨⟨o, kS o ho, r⟩, R.good, R.keys, R.nd, R.few, R.fits, R.ris, R.led⟩, a1, a2⟩
  step := fun {A E i v s Q} hu hv ⟨ks, es, ep, t, R, a1, a2⟩ k0 hQ => by
    have get : ∀ {items : List Value} {xs : List Str} {i : Nat} {v : Value}, StrsAre items xs → items[i]? = some v → ∃ x tk, xs[i]? = some x ∧ v = .str x tk := by
      intro items xs i v h
      induction h generalizing i with
      | nil => intro e; simp at e
      | cons x t h ih =>
        intro e
        cases i with
        | zero => simp at e; exact ⟨x, t, rfl, e.symm⟩
        | succ i => simpa using ih (by simpa using e)
    obtain ⟨x, tk, hx, rfl⟩ := get hi hv
    have hil : i < xs.length := (List.getElem?_eq_some_iff.mp hx).1
    unfold setAdd
    refine wpAny_holding ?_
    refine wpAny_bind ((strKind P w).pyHash (strKind_is P w x tk) ?_)
    refine addS (s := { s with toks := s.toks + 1 }) ⟨R.ob, R.good, R.keys, R.nd, R.few, R.fits, R.ris, R.led⟩ (by show ks.length + 1 < 4096; omega) fun b h' ks' es' ep' t' sb R' z1 z2 => ?_
    refine hQ b h' _ (Nat.le_add_right _ _) sb ⟨ks', es', ep', t', R', fun y => ?_, ?_⟩
    · rw [take_snoc hx, List.mem_append, List.mem_singleton, ← a1 y]
      by_cases hm : x ∈ ks
      · rw [z1 hm]
        exact ⟨.inl, fun q => q.elim id fun q => q ▸ hm⟩
      · rw [z2 hm, List.mem_append, List.mem_singleton]
    · by_cases hm : x ∈ ks
      · rw [z1 hm]; omega
      · rw [z2 hm, List.length_append]; simp; omega
end
end Ev
end MEvH6
section MEvH7
/-! Ev, part H7: sets as expressions; sorted of them. -/
namespace Ev
open PySem PySem.Spec PyProof.Rows L2 PySem.W PySem.SeqAt

/-! ### each once -/
theorem ddV_sub : ∀ {l : List Va} {v : Va}, v ∈ ddV l → v ∈ l
  | x :: l, v, h => by
    unfold ddV at h
    rcases List.mem_cons.mp h with rfl | h
    · exact List.mem_cons_self
    · exact List.mem_cons_of_mem _ (ddV_sub (List.mem_filter.mp h).1)
theorem mem_ddV : ∀ {l : List Va} {v : Va}, flatKs l = true → (v ∈ ddV l ↔ v ∈ l)
  | [], v, _ => by simp [ddV]
  | x :: l, v, hf => by
    refine ⟨ddV_sub, fun h => ?_⟩
    simp only [flatKs, Bool.and_eq_true] at hf
    unfold ddV
    by_cases e : v = x
    · subst e; exact List.mem_cons_self
    · rcases List.mem_cons.mp h with h | h
      · exact absurd h e
      · refine List.mem_cons_of_mem _ (List.mem_filter.mpr ⟨(mem_ddV hf.2).mpr h, ?_⟩)
        cases q : NestedKey.beq (keyV v) (keyV x) with
        | false => rfl
        | true => exact absurd (keyV_inj v x (flatKs_mem hf.2 v h) hf.1 (NestedKey.eq_of_beq _ _ q)) e
theorem ddV_nodup : ∀ (l : List Va), (ddV l).Nodup
  | [] => List.nodup_nil
  | x :: l => by
    unfold ddV
    refine List.nodup_cons.mpr ⟨fun h => ?_, (ddV_nodup l).sublist List.filter_sublist⟩
    have := (List.mem_filter.mp h).2
    rw [NestedKey.beq_self] at this
    cases this
theorem okSort_sub {l m : List Va} (h : okSort l = true) (hs : ∀ x ∈ m, x ∈ l) : okSort m = true := by
  have fk : ∀ {l : List Va}, (∀ x ∈ l, flatK x = true) → flatKs l = true := by
    intro l
    induction l with
    | nil => intro _; rfl
    | cons x l ih => intro h; simp only [flatKs, Bool.and_eq_true]; exact ⟨h x List.mem_cons_self, ih fun y hy => h y (List.mem_cons_of_mem _ hy)⟩
  unfold okSort at *
  simp only [Bool.and_eq_true, List.all_eq_true] at *
  exact ⟨⟨fk fun x hx => flatKs_mem h.1.1 x (hs x hx), fun x hx y hy => h.1.2 x (hs x hx) y (hs y hy)⟩, fun x hx => h.2 x (hs x hx)⟩
/-! ### sorted of a set -/
theorem each_perm {α β : Type} {R : α → β → Prop} {as as' : List α} (p : as'.Perm as) : ∀ {bs : List β}, EachIs R as bs → ∃ bs' : List β, bs'.Perm bs ∧ EachIs R as' bs' := by
  induction p with
  | nil => intro bs h; exact ⟨bs, List.Perm.refl _, h⟩
  | cons x p ih =>
    intro bs h
    cases h with
    | cons h1 h2 =>
      obtain ⟨bs', q, e⟩ := ih h2
      exact ⟨_ :: bs', q.cons _, .cons h1 e⟩
  | swap x y l =>
    intro bs h
    cases h with
    | cons h1 h2 =>
      cases h2 with
      | cons h3 h4 => exact ⟨_, List.Perm.swap _ _ _, .cons h3 (.cons h1 h4)⟩
  | trans p q ih1 ih2 =>
    intro bs h
    obtain ⟨b1, q1, e1⟩ := ih2 h
    obtain ⟨b2, q2, e2⟩ := ih1 e1
    exact ⟨b2, q2.trans q1, e2⟩
section
variable {X : Cx} {pins : List (Addr × Obj)} {σ : L2.St} {W : Wd} {s : Shared}
theorem call_sorted_set {a : Addr} {es : Array (Int × Value)} {ep : Nat} {t : SetTable} {ds : List Va} {Q : Value → Shared → Prop} {E : Value → Shared → Prop} (I : Inv X pins σ W.H s) (hc : X.calm = true) (hu : X.A.units + 64 < cLine) (ha : SetAt s.heap a es ep t) (hf : t.fits es.size = true) (hsz : es.size < scanBound) (hr : Ris t.place.toList)
    (hl : X.w.params.followText "set-order" = true ∨ t.led = true) (e : EachIs (fun u d => ∃ y, RelV y u ∧ Rp X.K X.mg W y d) (es.toList.map (·.2)) ds) (ok : okSort ds = true)
    (hQ : ∀ s' p us vs c, (∀ b o, s.heap.get? b = some o → s'.heap.get? b = some o) → s'.gens = s.gens → s'.os = s.os → s.heap.objs.size ≤ p → s'.heap.get? p = some (seqObj "list" (List.toArray us) c) → Vals vs us → RpL X.K X.mg W vs (sortV ds) → vs.length ≤ sizeLine → Q (.ref p) s') :
    wpAny (model X.prog X.w) X.A (call (.builtin "sorted") [.ref a]) Q E s := by
  have hh : X.A.handled = none := I.ok.hd hc
  refine Calls.call_function_entry kind_sorted plain_sorted entry_sorted (args_sorted1 _) ?_
  unfold Builtin.«sorted»
  refine wpAny_bind (m := checkCount "sorted" 1 1 _) (wpAny_pure ?_)
  refine wpAny_bind (collect_set (A := X.A.in1) hh ha hf hsz hr hl fun s1 vs k1 hz g1 o1 pm => ?_)
  obtain ⟨ds', pd, e1⟩ := each_perm pm e
  have ok' := okSort_perm pd.symm ok
  have hvl : vs.length ≤ sizeLine := by
    rw [pm.length_eq, List.length_map, Array.length_toList]
    exact fits_of_scanBound hsz
  refine wpAny_bind (wpAny_newList ?_ hvl)
  have hoL : (s1.heap.push (seqObj "list" vs.toArray 0)).get? s1.heap.objs.size = some (seqObj "list" vs.toArray 0) := Heap.get?_push_size _ rfl
  have er : EachIs (fun v b => ∃ as, Reads (s1.heap.push (seqObj "list" vs.toArray 0)) v (pdV b) as ∧ s1.heap.objs.size ∉ as) vs ds' := by
    have key : ∀ {us : List Value} {ds : List Va}, flatKs ds = true → EachIs (fun u d => ∃ y, RelV y u ∧ Rp X.K X.mg W y d) us ds → EachIs (fun v b => ∃ as, Reads (s1.heap.push (seqObj "list" vs.toArray 0)) v (pdV b) as ∧ s1.heap.objs.size ∉ as) us ds := by
      intro us ds hf h
      induction h with
      | nil => exact .nil
      | cons h t ih =>
        obtain ⟨y, r1, h1⟩ := h
        simp only [flatKs, Bool.and_eq_true] at hf
        exact .cons ⟨[], PyProof.Rows.Reads.keeps (fun b u e => Heap.get?_push_of_some _ (k1 b u e)) (nested_of I _ hf.1 h1 r1).2, by simp⟩ (ih hf.2)
    exact key (okSort_parts ok').1 e1
  have hsort : SortsAt X.prog X.w X.A.in1.in1 { s1 with heap := sortingHeap (s1.heap.push (seqObj "list" vs.toArray 0)) s1.heap.objs.size vs } (dataKind (sortingHeap (s1.heap.push (seqObj "list" vs.toArray 0)) s1.heap.objs.size vs) (ds'.map pdV)) vs := by
    refine sortsAt_flat (s := { s1 with heap := sortingHeap (s1.heap.push (seqObj "list" vs.toArray 0)) s1.heap.objs.size vs }) ?_ ok' (by show X.A.units + 1 + 1 + 8 < cLine; omega)
    refine each_map (R := fun v d => ∃ as, Reads (sortingHeap (s1.heap.push (seqObj "list" vs.toArray 0)) s1.heap.objs.size vs) v d as) pdV ?_
    exact each_keepBut (h' := sortingHeap (s1.heap.push (seqObj "list" vs.toArray 0)) s1.heap.objs.size vs) (a := s1.heap.objs.size) (fun _ _ hb q => sortingHeap_old hb q) (fun o q => by rw [hoL] at q; rw [← Option.some.inj q]) (okSort_parts ok').2.1 er
  have er' : EachIs (fun v b => ∃ as, Reads (sortingHeap (s1.heap.push (seqObj "list" vs.toArray 0)) s1.heap.objs.size vs) v (pdV b) as) vs ds' :=
    each_keepBut (h' := sortingHeap (s1.heap.push (seqObj "list" vs.toArray 0)) s1.heap.objs.size vs) (a := s1.heap.objs.size) (fun _ _ hb q => sortingHeap_old hb q) (fun o q => by rw [hoL] at q; rw [← Option.some.inj q]) (okSort_parts ok').2.1 er
  refine wpAny_bind (wpAny_holding (wpAny_call_entry slot_list_sort ⟨_, hoL, rfl⟩ entry_list_sort (list_sort_vals (s := { s1 with heap := s1.heap.push (seqObj "list" vs.toArray 0) }) hoL hsort hvl ⟨_, rfl, ?_⟩) (args_list_sort _)))
  have eo : EachIs (fun u d => ∃ y, RelV y u ∧ Rp X.K X.mg W y d) (sortVals (dataKind (sortingHeap (s1.heap.push (seqObj "list" vs.toArray 0)) s1.heap.objs.size vs) (ds'.map pdV)) false vs vs) (sortV ds') := sortVals_data false e1 er' (okSort_parts ok').2.1
  rw [sortV_unique pd ok'] at eo
  obtain ⟨vs', rv', rp'⟩ := eachRp_back eo
  have lo := sortVals_length (κ := dataKind (sortingHeap (s1.heap.push (seqObj "list" vs.toArray 0)) s1.heap.objs.size vs) (ds'.map pdV)) false (ks := vs) (vs := vs) rfl
  generalize sortVals (dataKind (sortingHeap (s1.heap.push (seqObj "list" vs.toArray 0)) s1.heap.objs.size vs) (ds'.map pdV)) false vs vs = out at eo rv' lo
  obtain ⟨c, hc'⟩ := sortedHeap_at (vs := vs) (out := out.toArray) hoL
  refine wpAny_pure ⟨_, rfl, hQ _ s1.heap.objs.size out vs' c (fun b u e => ?_) g1 o1 hz hc' rv' rp' (by rw [rv'.length, lo]; exact hvl)⟩
  have q := k1 b u e
  have hlt := Heap.lt_size q
  show (sortedHeap (s1.heap.push (seqObj "list" vs.toArray 0)) s1.heap.objs.size vs out.toArray).get? b = some u
  rw [sortedHeap_old (Nat.ne_of_lt hlt) (by rw [size_push']; exact Nat.lt_succ_of_lt hlt)]
  exact Heap.get?_push_of_some _ q
theorem strsAre_each {us : List Value} {ks : List Str} : (∀ e ∈ us, ∃ x tk, e = Value.str x tk) → us.map (fun v => match v with | .str x _ => x | _ => Str.empty) = ks → EachIs (fun u d => ∃ y, RelV y u ∧ Rp X.K X.mg W y d) us (ks.map Va.str) := by
  intro h e
  subst e
  induction us with
  | nil => exact .nil
  | cons u us ih =>
    obtain ⟨x, tk, rfl⟩ := h u List.mem_cons_self
    exact .cons ⟨.str x, ⟨tk, rfl⟩, .str x⟩ (ih fun v hv => h v (List.mem_cons_of_mem _ hv))
/-- the members of a set of texts -/
theorem perm_ddS {ks : List Str} {acc : List Va} (nd : ks.Nodup) (h2 : ∀ x, x ∈ ks ↔ Va.str x ∈ acc) (h4 : ∀ v ∈ acc, isStrK v = true) : (ks.map Va.str).Perm (ddV acc) := by
  have hf : flatKs acc = true := by
    clear h2
    induction acc with
    | nil => rfl
    | cons v acc ih =>
      simp only [flatKs, Bool.and_eq_true]
      refine ⟨?_, ih fun u hu => h4 u (List.mem_cons_of_mem _ hu)⟩
      have := h4 v List.mem_cons_self
      cases v <;> simp [isStrK, flatK] at *
  refine (List.perm_ext_iff_of_nodup ?_ (ddV_nodup acc)).mpr fun v => ?_
  · exact List.pairwise_map.mpr (nd.imp fun hne e => hne (by cases e; rfl))
  · rw [mem_ddV hf, List.mem_map]
    constructor
    · rintro ⟨x, hx, rfl⟩; exact (h2 x).mp hx
    · intro hv
      have := h4 v hv
      cases v <;> simp only [isStrK, Bool.false_eq_true] at this
      exact ⟨_, (h2 _).mpr hv, rfl⟩
theorem perm_ddN {L : KL} {vs acc : List Va} (nd : (L.map (·.2)).Nodup) (e : vs.map keyV = L.map (·.2)) (hs : ∀ v ∈ vs, v ∈ acc) (h3 : ∀ v ∈ acc, keyV v ∈ L.map (·.2)) (hf : flatKs acc = true) : vs.Perm (ddV acc) := by
  have ndv : vs.Nodup := by
    rw [← e] at nd
    exact List.Pairwise.of_map keyV (fun _ _ hne e => hne (congrArg keyV e)) nd
  refine (List.perm_ext_iff_of_nodup ndv (ddV_nodup acc)).mpr fun v => ?_
  rw [mem_ddV hf]
  refine ⟨hs v, fun hv => ?_⟩
  have := h3 v hv
  rw [← e] at this
  obtain ⟨u, hu, eu⟩ := List.mem_map.mp this
  rw [← keyV_inj u v (flatKs_mem hf u (hs u hu)) (flatKs_mem hf v hv) eu]
  exact hu
/-- sorted(set of texts), sorted(set of nested tuples) -/
def rSortU (P : Program) (w : World) (K : PySem.W.Frag) (mg : Str → Option Value) : List V → Hp → VK → Prop := fun xs H Q => ∃ W D acc, W.H = H ∧ xs = [V.ref D] ∧ (AcS w K mg D W acc ∨ AcN w K mg D W acc) ∧ okSort acc = true ∧
  ∀ p us, RpL K mg W us (sortV (ddV acc)) → us.length ≤ sizeLine → H p = none → Q (.ref p) (upd H p (.lst us))
theorem cr_sortU (hc : X.calm = true) (hu : X.A.units + 64 < cLine) : CallR X (.builtin "sorted") (rSortU X.prog X.w X.K X.mg) := by
  intro pins s σ H xs us Q I r ⟨W, D, acc, hW, ex, hA, ok, q⟩
  subst hW ex
  rw [Vals.ref1 r]
  have okd : okSort (ddV acc) = true := okSort_sub ok fun x hx => ddV_sub hx
  have main : ∀ {es : Array (Int × Value)} {ep : Nat} {t : SetTable} {ds : List Va}, SetAt s.heap D es ep t → t.fits es.size = true → es.size < scanBound → Ris t.place.toList → (X.w.params.followText "set-order" = true ∨ t.led = true) →
      EachIs (fun u d => ∃ y, RelV y u ∧ Rp X.K X.mg W y d) (es.toList.map (·.2)) ds → ds.Perm (ddV acc) → wpAny (model X.prog X.w) X.A (call (.builtin "sorted") [.ref D]) (EP X pins σ Q) X.xe s := fun {es ep t ds} h1 h2 h3 h4 h5 h6 h7 => by
    have okds := okSort_perm h7.symm okd
    refine call_sorted_set I hc hu h1 h2 h3 h4 h5 h6 okds fun s' p us vs c k g o hp hg rv rp hz => ?_
    rw [sortV_unique h7 okds] at rp
    have hn : W.H p = none := I.hok.fresh hp
    have J : Inv X pins σ (upd W.H p (.lst vs)) { s with heap := s'.heap, gens := s'.gens, drawn := s'.drawn, toks := s'.toks } :=
      I.call (ch := []) (Un.laid k hp hn) (I.hok.laid k hp ⟨hz, us, c, rv, hg⟩) (by rw [g]; exact I.bare) (fun _ z => nomatch z)
    have e : s' = { s with heap := s'.heap, gens := s'.gens, drawn := s'.drawn, toks := s'.toks } := by
      cases s'; cases s; cases o; rfl
    rw [e]
    exact ⟨.ref p, _, J, rfl, q p vs rp hz hn⟩
  rcases hA with ⟨ks, h1, h2, h3, h4⟩ | ⟨L, h1, h2, h3, h4, h5⟩
  · obtain ⟨es, ep, t, R⟩ := (I.hok D _ h1).1
    obtain ⟨o, ho, hex, hd⟩ := R.ob
    refine main ⟨o, ho, hex.1, hd⟩ R.fits R.few R.ris R.led (strsAre_each (ks := es.toList.map keyS) (fun e he => ?_) ?_) ((R.keys.map Va.str).trans (perm_ddS R.nd h2 h4))
    · obtain ⟨x, hx, rfl⟩ := List.mem_map.mp he
      obtain ⟨y, tk, e1, _⟩ := R.good x hx
      exact ⟨y, tk, e1⟩
    · rw [List.map_map]
      rfl
  · have hf : flatKs acc = true := (okSort_parts ok).1
    have tup : ∀ p ∈ L, IsN s.heap p.2 p.1 := fun p hp => by
      obtain ⟨v, k1, k2, k3⟩ := h2 p hp
      obtain ⟨f1, f2, f3⟩ := h5 v k1
      have n := (nested_of I v f2 k2 (u := .ref p.1) rfl).1
      rw [k3] at n f3
      exact ⟨n, f3⟩
    obtain ⟨es, ep, t, R⟩ := (show SetN0 X.w s.heap D L from (I.hok D _ h1).1).full tup
    obtain ⟨o, ho, hex, hd⟩ := R.ob
    have hmap : es.toList.map (·.2) = L.map fun p => Value.ref p.1 := by
      rw [R.rows, List.map_map]; rfl
    have pick : ∀ (M : KL), (∀ p ∈ M, ∃ v, v ∈ acc ∧ Rp X.K X.mg W (.ref p.1) v ∧ keyV v = p.2) → ∃ vs : List Va, EachIs (fun u d => ∃ y, RelV y u ∧ Rp X.K X.mg W y d) (M.map fun p => Value.ref p.1) vs ∧ vs.map keyV = M.map (·.2) ∧ ∀ v ∈ vs, v ∈ acc := by
      intro M
      induction M with
      | nil => intro _; exact ⟨[], .nil, rfl, fun v hv => by cases hv⟩
      | cons p M ih =>
        intro h
        obtain ⟨v, k1, k2, k3⟩ := h p List.mem_cons_self
        obtain ⟨vs, a1, a2, a3⟩ := ih fun q hq => h q (List.mem_cons_of_mem _ hq)
        refine ⟨v :: vs, .cons ⟨.ref p.1, rfl, k2⟩ a1, by rw [List.map_cons, List.map_cons, a2, k3], fun u hu => ?_⟩
        rcases List.mem_cons.mp hu with rfl | hu
        · exact k1
        · exact a3 u hu
    obtain ⟨vs, a1, a2, a3⟩ := pick L h2
    have few := R.few
    have sz := R.size
    refine main ⟨o, ho, hex.1, hd⟩ R.fits (by unfold scanBound; omega) R.tab.ris R.led (by rw [hmap]; exact a1) (perm_ddN R.nd a2 a3 h3 hf)

/-! ### set(list) -/
def AcB (b : Bool) (w : World) (K : PySem.W.Frag) (mg : Str → Option Value) : Addr → Wd → List Va → Prop := if b then AcN w K mg else AcS w K mg
def okB (b : Bool) (xs : List Va) : Bool := if b then xs.all (fun v => isTupK v && flatK v && decide ((keyV v).depth ≤ 8)) && decide (xs.length < 64) else xs.all isStrK && decide (xs.length + 1 < 4096)
def CalU (X : Cx) (b : Bool) (f : Value) (g : Mu → List Va → Option (List Va)) : Prop :=
  ∃ r, CallR X f r ∧ ∀ (W : Wd) (μ : Mu) (vs : List V) (ds : List Va) (xs : List Va) (Q : VK), Cs X.K X.mg W μ → RpL X.K X.mg W vs ds → g μ ds = some xs →
    (∀ W' D, Grow W W' → AcB b X.w X.K X.mg D W' xs → W.H D = none → Q (.ref D) W'.H) → r vs W.H Q
def gSetB (b : Bool) : Mu → List Va → Option (List Va) := fun μ ds => match ds with
  | [d] => match look μ d with
    | .lst xs => if okB b xs = true then some xs else none
    | _ => none
  | _ => none
def rSetB (b : Bool) (w : World) (K : PySem.W.Frag) (mg : Str → Option Value) : List V → Hp → VK → Prop := fun xs H Q => ∃ W a ws ds, W.H = H ∧ xs = [V.ref a] ∧ SqL K H a ws ∧ RpL K mg W ws ds ∧ okB b ds = true ∧
  ∀ W' D, Grow W W' → AcB b w K mg D W' ds → H D = none → Q (.ref D) W'.H
theorem cr_setB (b : Bool) (hc : X.calm = true) (hu : X.A.units + 64 < cLine) : CallR X (.type "set") (rSetB b X.w X.K X.mg) := by
  intro pins s σ H xs us Q I r ⟨W, a, ws, ds, hW, ex, hs, hr, ok, q⟩
  subst hW ex
  rw [Vals.ref1 r]
  obtain ⟨its, rv, p, hz⟩ := I.list hs
  have hn : W.H s.heap.objs.size = none := I.hok.fresh (Nat.le_refl _)
  have hh : X.A.handled = none := I.ok.hd hc
  have hlen : its.length = ds.length := by rw [← rv.length, hr.length]
  cases b with
  | false =>
    simp only [okB, Bool.false_eq_true, if_false, Bool.and_eq_true, List.all_eq_true, decide_eq_true_eq] at ok
    obtain ⟨o1, o2⟩ := ok
    have strsA : ∀ {us : List Value} {ws : List V} {ds : List Va}, Vals ws us → RpL X.K X.mg W ws ds → (∀ d ∈ ds, isStrK d = true) → ∃ ss : List Str, StrsAre us ss ∧ ds = ss.map Va.str := by
      intro us ws ds rv
      induction rv generalizing ds with
      | nil => intro hr _; cases hr; exact ⟨[], .nil, rfl⟩
      | cons r1 rt ih =>
        intro hr ho
        cases hr with
        | cons h1 h2 =>
          rename_i d ds
          obtain ⟨ss, a1, a2⟩ := ih h2 fun d hd => ho d (List.mem_cons_of_mem _ hd)
          have := ho d List.mem_cons_self
          cases d <;> simp only [isStrK, Bool.false_eq_true] at this
          rename_i x
          cases h1
          obtain ⟨tk, rfl⟩ := r1
          exact ⟨x :: ss, .cons x tk a1, by rw [a2]; rfl⟩
    obtain ⟨ss, a1, a2⟩ := strsA rv hr o1
    have ssl : ss.length = ds.length := by rw [a2, List.length_map]
    refine call_set_by (room := fun _ => True) (J := JS X.w s.heap.objs.size ss) hh p.isList (growsS (by simpa using a1) (by omega)) (fun h e _ => ⟨[], #[], 0, _, setS_fresh e, fun x => by simp, Nat.le_refl _⟩) (fun _ _ => trivial) fun h' tk ⟨ks, es, ep, t, R, b1, b2⟩ k => ?_
    have J : Inv X pins σ (W.newT s.heap.objs.size (HS X.w s.heap.objs.size ks) hn).H { s with heap := h', toks := tk } := I.laid (t' := tk) k (Nat.le_refl _) (hs_new R)
    refine ⟨.ref s.heap.objs.size, _, J, rfl, q (W.newT s.heap.objs.size (HS X.w s.heap.objs.size ks) hn) _ (W.grow_newT _ _ hn) ?_ hn⟩
    have htake : ss.take its.toArray.size = ss := List.take_of_length_le (by simp; omega)
    rw [htake] at b1
    refine ⟨ks, upd_same, fun x => ?_, ?_, o1⟩
    · rw [b1 x, a2]; simp
    · simp at b2; omega
  | true =>
    simp only [okB, if_true, Bool.and_eq_true, List.all_eq_true, decide_eq_true_eq] at ok
    obtain ⟨o1, o2⟩ := ok
    have tups : ∀ {us : List Value} {ws : List V} {ds : List Va}, Vals ws us → RpL X.K X.mg W ws ds → (∀ d ∈ ds, (isTupK d = true ∧ flatK d = true) ∧ (keyV d).depth ≤ 8) → ∃ ks : KL, us = ks.map (fun p => Value.ref p.1) ∧ ks.map (·.2) = ds.map keyV ∧ ∀ p ∈ ks, IsN s.heap p.2 p.1 ∧ ∃ v, v ∈ ds ∧ Rp X.K X.mg W (.ref p.1) v ∧ keyV v = p.2 := by
      intro us ws ds rv
      induction rv generalizing ds with
      | nil => intro hr _; cases hr; exact ⟨[], rfl, rfl, fun p hp => by cases hp⟩
      | cons r1 rt ih =>
        intro hr ho
        cases hr with
        | cons h1 h2 =>
          rename_i d ds
          obtain ⟨ks, a1, a2, a3⟩ := ih h2 fun d hd => ho d (List.mem_cons_of_mem _ hd)
          obtain ⟨⟨z1, z2⟩, z3⟩ := ho d List.mem_cons_self
          have n := (nested_of I d z2 h1 r1).1
          have h1' := h1
          cases d <;> simp only [isTupK, Bool.false_eq_true] at z1
          rename_i xs
          cases h1
          rename_i ad vs k1 k2
          cases r1
          refine ⟨(ad, keyV (.tup xs)) :: ks, by rw [a1]; rfl, by rw [List.map_cons, List.map_cons, a2], fun p hp => ?_⟩
          rcases List.mem_cons.mp hp with rfl | hp
          · exact ⟨⟨n, z3⟩, _, List.mem_cons_self, h1', rfl⟩
          · obtain ⟨y1, v, y2, y3, y4⟩ := a3 p hp
            exact ⟨y1, v, List.mem_cons_of_mem _ y2, y3, y4⟩
    obtain ⟨ks, a1, a2, a3⟩ := tups rv hr o1
    have ksl : ks.length = ds.length := by have := congrArg List.length a2; simpa using this
    refine call_set_by (room := fun A => A.units + 8 < cLine) (J := JN X.w s.heap.objs.size ks) hh p.isList (growsN (by simpa using a1) (fun p hp => (a3 p hp).1) (by omega)) (fun h e _ => ⟨[], #[], 0, _, setN_fresh e, (fun p hp => by cases hp), (fun p hp => by simp at hp), Nat.le_refl _⟩) (fun A' hA' => by omega) fun h' tk ⟨L, es, ep, t, R, b1, b2, b3⟩ k => ?_
    have J : Inv X pins σ (W.newT s.heap.objs.size (HN X.w s.heap.objs.size L) hn).H { s with heap := h', toks := tk } := I.laid (t' := tk) k (Nat.le_refl _) (hn_new R.raw)
    refine ⟨.ref s.heap.objs.size, _, J, rfl, q (W.newT s.heap.objs.size (HN X.w s.heap.objs.size L) hn) _ (W.grow_newT _ _ hn) ?_ hn⟩
    have htake : ks.take its.toArray.size = ks := List.take_of_length_le (by simp; omega)
    rw [htake] at b1 b2
    refine ⟨L, upd_same, fun p hp => ?_, fun v hv => ?_, ?_, fun v hv => ⟨(o1 v hv).1.1, (o1 v hv).1.2, (o1 v hv).2⟩⟩
    · obtain ⟨_, v, y2, y3, y4⟩ := a3 p (b1 p hp)
      exact ⟨v, y2, Rp.mono (W.grow_newT _ _ hn).ext.exs _ y3, y4⟩
    · have : keyV v ∈ ks.map (·.2) := by rw [a2]; exact List.mem_map.mpr ⟨v, hv, rfl⟩
      obtain ⟨p, hp, e⟩ := List.mem_map.mp this
      rw [← e]
      exact b2 p hp
    · simp at b3; omega
theorem cu_set (b : Bool) (hc : X.calm = true) (hu : X.A.units + 64 < cLine) : CalU X b (.type "set") (gSetB b) := by
  refine ⟨_, cr_setB b hc hu, fun W μ vs ds xs Q c r e q => ?_⟩
  unfold gSetB at e
  split at e
  · rename_i d
    obtain ⟨w, rfl, rw'⟩ := r.one
    rcases look_cases c rw' with ⟨a, us, ys, e1, rfl, h1, h2⟩ | ⟨e1, hn⟩
    · rw [e1] at e
      simp only at e
      split at e
      · rename_i ok
        cases e
        exact ⟨W, a, us, _, rfl, rfl, .inl (.inl h1), h2, ok, q⟩
      · cases e
    · rw [e1] at e
      split at e
      · exact absurd rfl (hn _)
      · cases e
  · cases e
end
end Ev
end MEvH7
section MEvI
/-! Ev, part I: set expressions. -/
namespace Ev
open PySem PySem.Spec PyProof.Rows L2
def rdU (b : Bool) (w : World) (K : PySem.W.Frag) (mg : Str → Option Value) (m : MA) : TE := fun σ H Q => ∃ W fs μ acc μ', W.H = H ∧ Se K mg W fs μ σ ∧ m fs μ = some (acc, μ') ∧
  ∀ W' D, Ext W W' → Cs K mg W' μ' → AcB b w K mg D W' acc → W.H D = none → Q (.ref D) W'.H
abbrev SU (X : Cx) (b : Bool) (e : Expr) (m : MA) : Prop := PE X e (rdU b X.w X.K X.mg m)
def okC (b : Bool) : List Va → Va → Bool := if b then okN else okS
section
variable {X : Cx} {b : Bool} {elt e : Expr} {me : ME} {mr m : MA} {g : Comprehension} {gs : List Comprehension} {c : Cl} {cs : List Cl} {scope : Scope} {pos pos' p : Pos} {own : List (PySem.Str × Nat)}
theorem su_sc (hc : X.calm = true) (hN : X.N.Nodup) (hu : X.A.units + 64 < cLine) (hi : SI X g.target g.iter c.m) (bo : BlkOk X.N X.env.scope scope own) (hB : isBlk X scope fun Y => BlkIn Y c g gs cs elt me) (hs : ∀ x, foldedSetIterable g.iter X.env x = pure x) (hown : own.map (·.2) = c.vs) (ha : g.is_async = 0) :
    SU X b (.SetComp elt (g :: gs) scope pos) (compF (okC b) me c cs) := by
  refine ⟨fun pins s σ H Q I ⟨W, fs, μ, acc', μ', hW, S, e, q⟩ => ?_⟩
  subst hW
  have e0 : eval (.SetComp elt (g :: gs) scope pos) X.env = comprehension (.SetComp elt (g :: gs) scope pos) scope X.env (firstIterPos (g :: gs) pos) (newSet (.type "set")) false (eval g.iter X.env) := by
    rw [PpSet.eval_SetComp, first0 ha, firstI]
  rw [e0]
  cases b with
  | false =>
    refine comp_core (b := true) hc hN newS hi bo hown hs hB I S e fun D C s' m Wf I' x cc ac hD hn f => ⟨m, hn, fun h'' sb => ?_⟩
    obtain ⟨f0, f1, f2, f3, f4, f5⟩ := f
    exact ⟨.ref D, Wf.H, I'.turned (t' := s'.toks) (fun b o hb e => (sb.2 b hb).trans e) f0 f1 f3 f4 f5, rfl, q Wf D x cc ac hD⟩
  | true =>
    refine comp_core (b := true) hc hN (newN hu) hi bo hown hs hB I S e fun D C s' m Wf I' x cc ac hD hn f => ⟨m, hn, fun h'' sb => ?_⟩
    obtain ⟨f0, f1, f2, f3, f4, f5⟩ := f
    exact ⟨.ref D, Wf.H, I'.turned (t' := s'.toks) (fun b o hb e => (sb.2 b hb).trans e) f0 f1 f3 f4 f5, rfl, q Wf D x cc ac hD⟩
theorem su_set {a : Expr} {es : List Expr} {x : Str} {T : String} {gg : Mu → List Va → Option (List Va)} (hc : CalU X b (.type T) gg) (hg : Gl X x) (hm : X.mg x = none) (hv : bootBuiltins x = some (.type T)) (ha : SA X (a :: es) mr) (hn : x ≠ "__name__" := by decide) (hdb : (x == ("__debug__" : Str)) = false := by decide)
    (he : starEach (a :: es) X.env = (false, eval a X.env) :: starEach es X.env := by rfl) (hpl : (backTo pos (starEach es X.env)).any (·.1) = false := by rfl) : SU X b (.Call (.Name x p) (a :: es) [] pos) (aCal gg mr) := by
  obtain ⟨r, h1, h2⟩ := hc
  refine (pe_callTy h1 hg hm hv ha hn hdb he hpl).of fun σ H Q h => ?_
  obtain ⟨W, fs, μ, v, μ', hW, S, e, q⟩ := h
  unfold aCal at e
  split at e
  · rename_i ds μ1 e1
    split at e
    · rename_i v0 e2
      cases e
      exact ⟨W, fs, μ, _, _, hW, S, e1, fun W' ws x c rr => h2 W' _ ws ds _ Q c rr e2 fun W2 D g2 ac hD => q W2 D (x.trans g2.ext) (c.grow g2) ac (x.old_none hD)⟩
    · cases e
  · cases e
def aSrtU (m : MA) : MA := fun fs μ => match m fs μ with
  | some (acc, μ') => if okSort acc = true then some (sortV (ddV acc), μ') else none
  | none => none
theorem sf_sortedU (hc : X.calm = true) (hu : X.A.units + 64 < cLine) (hg : Gl X "sorted") (hm : X.mg "sorted" = none) (he : SU X b e m)
    (hst : starEach [e] X.env = (false, eval e X.env) :: starEach [] X.env := by rfl) (hpl : (backTo pos (starEach [] X.env)).any (·.1) = false := by rfl) : SF X (.Call (.Name "sorted" p) [e] [] pos) (aSrtU m) := by
  refine (pe_callB (cr_sortU hc hu) hg hm (by decide) (pa_cons he pa_nil hst) (by decide) (by decide) hst hpl).of fun σ H Q h => ?_
  obtain ⟨W, fs, μ, v, μ', hW, S, e, q⟩ := h
  unfold aSrtU at e
  split at e
  · rename_i acc μ1 e1
    split at e
    · rename_i ok
      cases e
      refine ⟨W, fs, μ, _, _, hW, S, e1, fun W' D x cc ac hD => ?_⟩
      refine ⟨W', D, acc, rfl, rfl, ?_, ok, fun p us rp hz hp => new_list q x cc rp hp⟩
      cases b with
      | false => exact .inl ac
      | true => exact .inr ac
    · cases e
  · cases e
end
end Ev
end MEvI
section MEvJ
/-! Ev, part J: sorted(rows, key=lambda row: (len(row), row)). -/
namespace Ev
open PySem PySem.Spec PyProof.Rows L2 PySem.W PySem.SeqAt
def lenT (v : Va) : Int := match v with
  | .tup ds => ds.length
  | _ => 0
def keyL (v : Va) : PyData := .tuple [.int (lenT v), pdV v]
def leL : Va → Va → Bool := dataLe false keyL
def sortL (vs : List Va) : List Va := vs.mergeSort leL
/-- the lambda's text -/
structure LamOk (params : Arguments) (body : Expr) (scope : Scope) (x : Str) : Prop where
  par : ∀ (nm q : Str) (cl : List (Str × Addr)) (pm cdv ct v : Value), bindArgs (kla_fn nm q params body scope cl pm cdv ct) ⟨[v], []⟩ = pure [(x, v)]
  body : ∃ p1 p2 p3 p4 p5 n, body = .Tuple [.Call (.Name "len" p1) [.Name x p2] [] p3, .Name x p4] n p5
  kind : scope.kind = .function
  co : scope.isCoroutine = false
  gen : scope.isGenerator = false
  loc : scope.names.lookup x = some .local
  len : scope.names.lookup ("len" : PySem.Str) = some .globalImplicit
  cell : ∀ y ∈ scope.names, y.2 ≠ .cell
  free : ∀ y ∈ scope.names, y.2 ≠ .free
  dbg : (x == ("__debug__" : Str)) = false
section
variable {X : Cx} {params : Arguments} {body : Expr} {scope : Scope} {x : Str} {c P : Addr} {q : Str} {e : Expr} {mr : MA} {pos pos' p lpos kpos : Pos}
/-- the lambda called -/
theorem lam_call {A : Around} {s : Shared} {f c' a : Addr} {pm ctv : Value} {mg mb : Str → Option Value} {d : Va} {prog : Program} {w : World} (L : LamOk params body scope x) (hroom : A.depth < recursionLimit) (hf : s.heap.get? f = some (kla_obj "<lambda>" q params body scope [] pm c' ctv))
    (hc : ∃ (oc : Obj) (vs : Array Value) (t : Tok), s.heap.get? c' = some oc ∧ oc.data = .fields vs ∧ vs[1]? = some (.str q t)) (hlim : s.heap.NoLimit) (hg : s.heap.Ns mainGlobals mg) (hm : mg "len" = none) (hb : s.heap.Ns builtinsNs mb) (hv : mb "len" = some (.builtin "len"))
    (hk : isTupK d = true) (r : Reads s.heap (.ref a) (pdV d) []) (hl : (lenT d) < 2 ^ 63) : wpAny (model prog w) A (call (.ref f) [.ref a]) (KeyPure (keyL d) s) (fun _ _ => False) s := by
  obtain ⟨p1, p2, p3, p4, p5, n, hbody⟩ := L.body
  cases d <;> simp only [isTupK, Bool.false_eq_true] at hk
  rename_i ds
  have r0 := r
  cases r with
  | @tuple _ ot vs nt xs _ e1 e2 e3 e4 =>
  have hsz : vs.size = ds.length := by
    have h1 := ReadsAll.length _ _ _ e4
    have h2 : ∀ l : List NK, (NestedKey.datas l).length = l.length := fun l => by
      induction l with
      | nil => rfl
      | cons x l ih => simp [NestedKey.datas, ih]
    rw [h2, keyVs_map, List.length_map] at h1
    simpa using h1
  refine wpAny_call ?_
  obtain ⟨oc, cvs, t, q1, q2, q3⟩ := hc
  refine kla_callFunE hroom hf rfl L.co L.gen rfl ⟨c', oc, cvs, t, rfl, q1, q2, q3⟩ ?_
  rw [L.par]
  refine wpAny_pure (wpAny_newFunctionEnv L.cell (fun y hy => by rw [List.mem_singleton.mp hy]; exact L.loc) (fun h₁ hns hsb => ⟨hlim.fresh _ hsb, ?_⟩) L.kind)
  have kp : ∀ b o, s.heap.get? b = some o → h₁.get? b = some o := fun b o e => hsb.extBut b o (Nat.ne_of_lt (Heap.lt_size e)) (Heap.get?_push_of_some _ e)
  show codeAny _ _ (.expr body (envX q scope s.heap.objs.size f (.ref c') [])) _ _
  refine kla_codeExpr ?_
  rw [hbody]
  have ldx : ∀ {A : Around} {E : Value → Shared → Prop} {Q : Value → Shared → Prop} {s' : Shared} {pp : Pos}, s'.heap = h₁ → Q (.ref a) s' → wpAny (model prog w) A (eval (.Name x pp) (envX q scope s.heap.objs.size f (.ref c') [])) Q E s' := fun {A E Q s' pp} e h => by
    refine wpAny_Name (wpAny_loadName_local L.kind L.loc (by rw [e]; exact hns) ?_ h) L.dbg
    simp
  refine wpAny_Tuple_spliced (Calls.spliced_cons ?_)
  refine wpAny_Call_Name_kw (Calls.Name_function_global L.kind L.len (Calls.loadGlobal_builtin (hg.keeps kp) hm (hb.keeps kp) hv ?_))
  refine PyProof.Rows.callWith_builtin1 (Calls.spliced_cons (ldx rfl (Calls.spliced_nil ?_))) rfl rfl
  refine len_tuple (items := vs) ⟨ot, kp _ _ e1, e2, nt, e3⟩ ?_ ?_
  · rw [hsz]; exact hl
  · refine Calls.spliced_cons (ldx rfl (Calls.spliced_nil ⟨by show 2 ≤ sizeLine; decide, ?_⟩))
    refine ⟨_, _, rfl, fun b o eb => Heap.get?_push_of_some _ (kp b o eb), ?_⟩
    refine .tuple (Heap.get?_push_size _ rfl) rfl rfl (.cons (as := []) ?_ (.cons (as := []) (PyProof.Rows.Reads.keeps (fun b o eb => Heap.get?_push_of_some _ (kp b o eb)) r0) .nil))
    rw [hsz]
    exact .int _ _
/-- the lambda made: its code object is new and noted in the table, or found there -/
theorem lam_new {pins : List (Addr × Obj)} {σ : L2.St} {H : Hp} {s : Shared} {T : List (Addr × Str)} {E : Value → Shared → Prop} {Q : Value → Shared → Prop} (I : Inv X pins σ H s) (TB : LamX.TabB X.base X.mg c P) (hcode : X.env.code = .ref c)
    (hm : (P, X.env.qual ++ "<lambda>") ∈ T) (hu : ∀ p ∈ T, p.1 = P → p.2 = X.env.qual ++ "<lambda>") (hT : LamX.Tabs T H) (hdef : defaultsOf params X.env = ([], [])) (hfree : ∀ y ∈ scope.names, y.2 = .free → ∃ c, X.env.cells.lookup y.1 = some c)
    (h : ∀ (f c' : Addr) (pm ctv : Value) (H1 : Hp) (s' : Shared), Inv X pins σ H1 s' → LamX.ExtN H H1 → (∀ a, H1 a = none → H a = none) → LamX.Tabs T H1 →
      s'.heap.get? f = some (kla_obj "<lambda>" (X.env.qual ++ "<lambda>") params body scope (cloFrom X.env.cells scope.names []) pm c' ctv) → H1 c' = some (LamX.CodeO c' (X.env.qual ++ "<lambda>")) → Q (.ref f) s') :
    wpAny (model X.prog X.w) X.A (eval (.Lambda params body scope lpos) X.env) Q E s := by
  obtain ⟨ps, hP, ht, ha⟩ := hT _ hm
  have bP : s.heap.BuiltinsAt X.mg P := TB.bm.keeps I.bk
  have hP' : s.heap.get? P = some { cls := .none, data := .fields ps } := I.hok P _ hP
  have clo := closure_ok (scope := scope) (env := X.env) hfree
  have gl := I.mod.glob.keeps I.bk
  have cd := TB.code.keeps I.bk
  refine kla_eval hdef ?_
  cases hc : codeAmong lpos ps.toList with
  | some cv =>
    obtain ⟨c', rfl, hco⟩ := ha lpos cv hc
    refine kla_makeFunctionHit (mg := X.mg) (c := c) (P := P) (ps := ps) clo I.ok.glob gl hcode cd hP' ht hc bP fun ctv h' tk hx hsz => ?_
    exact h h'.objs.size c' ((X.mg "__name__").getD .none) ctv H _ (I.kept fun b o e => Heap.get?_push_of_some _ (hx b o e)) (LamX.ExtN.refl H) (fun _ e => e) hT (Heap.get?_push_size _ rfl) hco
  | none =>
    refine kla_makeFunction (mg := X.mg) (c := c) (P := P) (ps := ps) clo I.ok.glob gl hcode cd hP' ht hc TB.gP bP fun c' ctv h' tk hx hge hlt hrec htb => ?_
    obtain ⟨c2, oc, vs, t, e2, hoc, hd, hv⟩ := hrec
    cases e2
    have nC : H c' = none := I.hok.fresh hge
    have nPc : P ≠ c' := fun e => by rw [e, nC] at hP; cases hP
    have I1 := LamX.inv_table (t' := tk) (more := #[rawInt lpos.line, rawInt lpos.col, .ref c']) (h' := h'.push (kla_obj "<lambda>" (X.env.qual ++ "<lambda>") params body scope (cloFrom X.env.cells scope.names []) ((X.mg "__name__").getD .none) c' ctv)) I hP
      (fun b o hb e => Heap.get?_push_of_some _ (hx b o hb e)) (Heap.get?_push_of_some _ htb) hge ⟨oc, vs, t, Heap.get?_push_of_some _ hoc, hd, hv⟩
    have hE : LamX.ExtN H (upd (upd H P (.tbl (ps ++ #[rawInt lpos.line, rawInt lpos.col, .ref c']))) c' (LamX.CodeO c' (X.env.qual ++ "<lambda>"))) := fun b o e n => by
      rw [upd_ne (fun z => by rw [z, nC] at e; cases e), upd_ne (fun z => n ps (Option.some.inj (e.symm.trans (by rw [z]; exact hP))))]
      exact e
    refine h h'.objs.size c' ((X.mg "__name__").getD .none) ctv _ _ I1 hE (fun a e => ?_) (fun p hp => ?_) (Heap.get?_push_size _ rfl) upd_same
    · exact dom_upd (dom_upd e)
    · have eL : (ps ++ #[rawInt lpos.line, rawInt lpos.col, .ref c']).toList = ps.toList ++ [rawInt lpos.line, rawInt lpos.col, .ref c'] := by simp
      by_cases hb : p.1 = P
      · rw [hu p hp hb, hb]
        refine ⟨_, by rw [upd_ne nPc, upd_same], by rw [eL]; exact TriplesOk_snoc _ _ _ _ ht, fun p' cv hcv => ?_⟩
        rw [eL] at hcv
        rcases LamX.among_app _ ht hcv with z | z
        · obtain ⟨c0, e1, e2⟩ := ha p' cv z
          exact ⟨c0, e1, hE _ _ e2 LamX.codeO_ne⟩
        · exact ⟨c', z, upd_same⟩
      · obtain ⟨ps', a1, a2, a3⟩ := hT p hp
        refine ⟨ps', ?_, a2, fun p' cv hcv => ?_⟩
        · rw [upd_ne (fun z => by rw [z, nC] at a1; cases a1), upd_ne hb]; exact a1
        · obtain ⟨c0, e1, e2⟩ := a3 p' cv hcv
          exact ⟨c0, e1, hE _ _ e2 LamX.codeO_ne⟩
/-- the world behind it -/
theorem Wd.lam {K : PySem.W.Frag} {mg : Str → Option Value} {W : Wd} {μ : Mu} {H : Hp} (cs : Cs K mg W μ) (hE : LamX.ExtN W.H H) (hd : ∀ a, H a = none → W.H a = none) (hT : LamX.Tabs (tbOf K mg) H) : ∃ W' : Wd, W'.H = H ∧ W'.φ = W.φ ∧ W'.fz = W.fz ∧ Ext W W' ∧ Cs K mg W' μ := by
  let W' : Wd := ⟨W.φ, W.fz, H, W.nd, fun a h => let ⟨xs, e⟩ := W.cl a h; ⟨xs, hE _ _ e nT_lst⟩, fun a h => let ⟨n, xs, e⟩ := W.fl a h; ⟨n, xs, hE _ _ e nT_lst⟩⟩
  have x : Ext W W' := ⟨hd, ⟨[], by simp [W']⟩, fun a h => .inl h, fun _ h => h, fun _ h => .inl h, fun a o e _ nt => hE a o e nt⟩
  exact ⟨W', rfl, rfl, rfl, x, ⟨cs.len, fun n xs e => let ⟨a, vs, h1, h2, h3⟩ := cs.at_ n xs e; ⟨a, vs, h1, hE _ _ h2 nT_lst, RpL.mono x.exs _ h3⟩, hT⟩⟩
/-- sorted(xs, key=lambda row: (len(row), row)) -/
def okSortL (xs : List Va) : Bool := okSort xs && xs.all isTupK && xs.all fun v => decide (lenT v < 2 ^ 63)
def aSortL (m : MA) : MA := fun fs μ => match m fs μ with
  | some ([d], μ1) => match look μ1 d with
    | .lst xs => if okSortL xs = true then some (sortL xs, μ1) else none
    | _ => none
  | _ => none
theorem keyL_alike {xs : List Va} (h : okSort xs = true) : AllAlike (xs.map keyL) := fun a ha b hb => by
  obtain ⟨x, hx, rfl⟩ := List.mem_map.mp ha
  obtain ⟨y, hy, rfl⟩ := List.mem_map.mp hb
  have q := (okSort_parts h).2.1 (pdV x) (List.mem_map.mpr ⟨x, hx, rfl⟩) (pdV y) (List.mem_map.mpr ⟨y, hy, rfl⟩)
  simp [keyL, alike, alikeAll, q]
theorem sf_sortL {a : Expr} (hr : Room 3 X.A) (hg : Gl X "sorted") (hm : X.mg "sorted" = none) (hm2 : X.mg "len" = none) (L : LamOk params body scope x) (TB : LamX.TabB X.base X.mg c P) (hcode : X.env.code = .ref c) (hT : (P, X.env.qual ++ "<lambda>") ∈ tbOf X.K X.mg) (hu : ∀ p ∈ tbOf X.K X.mg, p.1 = P → p.2 = X.env.qual ++ "<lambda>")
    (hdef : defaultsOf params X.env = ([], [])) (ha : SA X [a] mr)
    (he : backTo pos (starEach [a] X.env) = (false, eval a X.env) :: backTo pos (starEach [] X.env) := by rfl) (hpl : (backTo pos (starEach [a] X.env)).any (·.1) = false := by rfl) :
    SF X (.Call (.Name "sorted" p) [a] [⟨some "key", .Lambda params body scope lpos, kpos⟩] pos) (aSortL mr) := by
  refine ⟨fun pins s σ H Q I ⟨W, fs, μ, acc, μ', hW, S, e, q⟩ => ?_⟩
  subst hW
  unfold aSortL at e
  split at e
  rotate_left
  · cases e
  rename_i d μ1 e1
  split at e
  rotate_left
  · cases e
  rename_i xs e2
  split at e
  rotate_left
  · cases e
  rename_i ok
  obtain ⟨rfl, rfl⟩ : sortL xs = acc ∧ μ1 = μ' := by cases e; exact ⟨rfl, rfl⟩
  unfold okSortL at ok
  simp only [Bool.and_eq_true, List.all_eq_true, decide_eq_true_eq] at ok
  obtain ⟨⟨ok, okt⟩, okl⟩ := ok
  refine wpAny_Call_Name_kw (ld_blt I hg hm (show bootBuiltins "sorted" = some (.builtin "sorted") by decide) ?_ (by decide) (by decide))
  refine PyProof.Rows.callWith_kw (thn (ha.run pos pins s σ W.H (fun ws H' => ∃ W', W'.H = H' ∧ Ext W W' ∧ Cs X.K X.mg W' μ1 ∧ RpL X.K X.mg W' ws [d]) I ⟨W, fs, μ, _, _, rfl, S, e1, fun W' ws x c r => ⟨W', rfl, x, c, r⟩⟩) fun us s1 ⟨vs, H1, I1, r1, W1, hW1, x1, c1, rl⟩ => ?_) he hpl (by rfl) (by rfl)
  subst hW1
  obtain ⟨w1, rfl, rw1⟩ := rl.one
  have eks : (backToKw pos (keywordEach [⟨some "key", .Lambda params body scope lpos, kpos⟩] X.env)).filterMap (·.1) = [Str.ofString "key"] := by rfl
  rw [eks]
  show wpAny _ _ (evalAll ((do let v ← eval (.Lambda params body scope lpos) X.env; standAt pos; pure v) :: [])) _ _ s1
  refine wpAny_evalAll_cons (wpAny_bind ?_)
  have nofree : cloFrom X.env.cells scope.names [] = [] := by
    have key : ∀ (l : List (PySem.Str × NameKind)), (∀ y ∈ l, y.2 ≠ .free) → ∀ acc, cloFrom X.env.cells l acc = acc := by
      intro l
      induction l with
      | nil => intro _ acc; rfl
      | cons y l ih =>
        intro h acc
        obtain ⟨n, k⟩ := y
        have hk : (k == NameKind.free) = false := by
          have := h (n, k) List.mem_cons_self
          simpa using this
        unfold cloFrom
        rw [hk]
        exact ih (fun z hz => h z (List.mem_cons_of_mem _ hz)) acc
    exact key _ L.free []
  refine lam_new (T := tbOf X.K X.mg) I1 TB hcode hT hu c1.tabs hdef (fun y hy e => absurd e (L.free y hy)) fun f c' pm ctv H2 s2 I2 hE hdm hT2 hf hc' => ?_
  rw [nofree] at hf
  refine wpAny_bind (wpAny_standAt (wpAny_pure (wpAny_evalAll_nil ?_)))
  obtain ⟨W2, hH2, hφ2, hfz2, x2, c2⟩ := Wd.lam c1 hE hdm hT2
  subst hH2
  have r2 := RpL.mono x2.exs _ rl
  obtain ⟨w2, e2', rw2⟩ := r2.one
  cases e2'
  have rl2 : ∃ a vs, w1 = .ref a ∧ W2.H a = some (.lst vs) ∧ RpL X.K X.mg W2 vs xs := by
    rcases look_cases c2 rw2 with ⟨a, us, ys, q1, q2, h1, h2⟩ | ⟨q1, hn⟩
    · rw [q1] at e2; cases e2
      exact ⟨a, us, q2, h1, h2⟩
    · rw [q1] at e2
      exact absurd e2 (hn _)
  obtain ⟨a0, ws, rfl, h1, h2⟩ := rl2
  rw [Vals.ref1 r1]
  obtain ⟨its, rv, pl, hz⟩ := I2.list (.inl (.inl h1) : SqL X.K W2.H a0 ws)
  have ea := eachRp rv h2
  have hL : its.length ≤ sizeLine := by rw [← rv.length]; exact hz
  have lenE := ea.length
  have fk := (okSort_parts ok).1
  have mod := I2.mod
  obtain ⟨mb, hb1, hb2⟩ := mod.blt
  show wpAny _ _ (call (.builtin "sorted") [.ref a0] [(Str.ofString "key", .ref f)]) _ _ s2
  refine sorted_key_data (k := keyL) (b := false) (R := fun u d => ∃ y, RelV y u ∧ Rp X.K X.mg W2 y d) pl.isList ea (keyL_alike ok) (.inl fun d hd => ?_) (by rw [← lenE]; exact hL) (fun v hv => ?_) (ksk_s1 _ _) (fun x => ksk_l1 _ _) (fun x => ksk_t1 f x) ?_ ?_
  · obtain ⟨v, hv, rfl⟩ := List.mem_map.mp hd
    exact ⟨_, _, rfl⟩
  · have h3 := (okSort_parts ok).2.2 (pdV v) (List.mem_map.mpr ⟨v, hv, rfl⟩)
    have h4 : (keyL v).depth ≤ 9 := by simp [keyL, PyData.depth, PyData.depthAll]; omega
    have h5 := hr.un
    omega
  · intro v d ⟨y, ry, rp⟩ hd h tk kp
    have ht := okt d hd
    have hf1 := flatKs_mem fk d hd
    have rd := (nested_of I2 d hf1 rp ry).2
    have : ∃ a, v = .ref a := by
      cases d <;> simp only [isTupK, Bool.false_eq_true] at ht
      cases rp
      cases ry
      exact ⟨_, rfl⟩
    obtain ⟨a1, rfl⟩ := this
    have hce := (I2.hok c' _ hc').1
    obtain ⟨oc, cvs, t, q1, q2, q3⟩ := hce
    have lim : h.NoLimit := I2.nolimit.keeps kp
    have rm : Room 1 X.A.in1.in1 := Room.in1 (Room.in1 hr)
    have gl : s2.heap.Ns mainGlobals X.mg := mod.glob.keeps I2.bk
    exact lam_call (s := { s2 with heap := h, toks := tk }) (mg := X.mg) (mb := mb) L rm.depth (kp _ _ hf) ⟨oc, cvs, t, kp _ _ q1, q2, q3⟩ lim (gl.keeps kp) hm2 ((hb1.keeps I2.bk).keeps kp) ((hb2 "len" (by decide)).trans (by decide)) ht (PyProof.Rows.Reads.keeps (fun b o e => kp b o e) rd) (okl d hd)
  · intro out cc h' tk kp hn hp hlo eo
    obtain ⟨us, rv', rp'⟩ := eachRp_back eo
    have hz' : us.length ≤ sizeLine := by rw [rv'.length, hlo, ← lenE]; exact hL
    have hn2 : W2.H (s2.heap.objs.size + 1) = none := I2.hok.fresh (Nat.le_succ _)
    refine ⟨.ref (s2.heap.objs.size + 1), upd W2.H (s2.heap.objs.size + 1) (.lst us), I2.laid (t' := tk) kp (Nat.le_succ _) ⟨hz', out, cc, rv', hp⟩, rfl, ?_⟩
    exact new_list q (x1.trans x2) c2 rp' hn2
end
end Ev
end MEvJ
section MEvK
/-! Ev, part K: isinstance, repr, calls, constants of the module, new lists assigned. -/
namespace Ev
open PySem PySem.Spec PyProof.Rows L2
section
variable {X : Cx} {a b e : Expr} {m : ME} {mr : MA} {pos p p2 : Pos} {st : Stmt} {es : List Expr} {x : Str} {i j k : Nat}
/-! ### isinstance -/
def tyN : Va → Option String
  | .non => some "NoneType"
  | .bl _ => some "bool"
  | .int _ => some "int"
  | .str _ => some "str"
  | .tup _ => some "tuple"
  | .lst _ => some "list"
  | _ => none
def eIsi (T : String) (m : ME) : ME := fun fs μ => match m fs μ with
  | some (d, μ1) => match tyN d with
    | some n => match kitB n T with
      | some b => some (.bl b, μ1)
      | none => none
    | none => none
  | none => none
theorem tyX_of {K : PySem.W.Frag} {mg : Str → Option Value} {W : Wd} {v : V} {d : Va} {n : String} (r : Rp K mg W v d) (e : tyN d = some n) : TyX K W.H v (.type n) := by
  cases r with
  | non => cases e; exact .base .non
  | bl b => cases e; exact .base (.bl b)
  | int i => cases e; exact .base (.int i)
  | str x => cases e; exact .base (.str x)
  | lst h0 h1 h2 => cases e; exact .base (.lst h1)
  | tup h1 h2 =>
    cases e
    rcases h1 with (h | ⟨o, h⟩) | ⟨o, its, n, hk, hc, _⟩
    · exact .base (.tup h)
    · exact .fTuple h
    · exact .kTuple hk hc
  | loc h => cases e
  | fn h => cases e
  | scr h => cases e
theorem se_isi {T : String} {y : Str} (hg : Gl X "isinstance") (hm : X.mg "isinstance" = none) (hg2 : Gl X y) (hm2 : X.mg y = none) (hv2 : bootBuiltins y = some (.type T)) (he : SE X e m) (hn : y ≠ "__name__" := by decide) (hd : (y == ("__debug__" : Str)) = false := by decide)
    (hs1 : starEach [e, .Name y p2] X.env = (false, eval e X.env) :: starEach [.Name y p2] X.env := by rfl) (hpl : (backTo pos (starEach [.Name y p2] X.env)).any (·.1) = false := by rfl) : SE X (.Call (.Name "isinstance" p) [e, .Name y p2] [] pos) (eIsi T m) := by
  refine (pe_callB call_isi hg hm (show bootBuiltins "isinstance" = some (.builtin "isinstance") by decide) (pa_cons he (pa_cons (pe_bltn (v := .ty T) hg2 hm2 hv2 rfl hn hd) pa_nil (by rfl)) hs1) (by decide) (by decide) hs1 hpl).of fun σ H Q h => ?_
  obtain ⟨W, fs, μ, v, μ', hW, S, e, q⟩ := h
  unfold eIsi at e
  split at e
  · rename_i d μ1 e1
    split at e
    · rename_i n e2
      split at e
      · rename_i bb e3
        cases e
        refine ⟨W, fs, μ, _, _, hW, S, e1, fun W' w x c r => ?_⟩
        exact ⟨w, .ty T, .type n, .type T, bb, rfl, .ty T, tyX_of r e2, kit_ty e3, q W' _ x c (.bl bb)⟩
      · cases e
    · cases e
  · cases e
/-! ### repr of an int, of a text -/
def gRepr : Mu → List Va → Option Va := fun _ ds => match ds with
  | [.int i] => if i.natAbs.log2 < 1920 then some (.str (toString i : String)) else none
  | [.str x] => if (reprText x).length ≤ sizeLine then some (.str (reprText x)) else none
  | _ => none
theorem call_repr : CallR X (.builtin "repr") (fun xs H Q => (∃ i, xs = [.int i] ∧ i.natAbs.log2 < 1920 ∧ Q (.str (toString i : String)) H) ∨ ∃ x, xs = [.str x] ∧ (reprText x).length ≤ sizeLine ∧ Q (.str (reprText x)) H) := by
  intro pins s σ H xs us Q I r h
  rcases h with ⟨i, rfl, hb, q⟩ | ⟨x, rfl, hb, q⟩
  · exact SkE.call_repr_int pins s σ H _ us Q I r ⟨i, rfl, hb, q⟩
  · obtain ⟨u, rfl, t, rfl⟩ := vals1 r
    exact PySem.P.repr_of_str ⟨.str (reprText x), H, I.tok _, ⟨_, rfl⟩, q⟩ hb
theorem cs_repr : CalS X (.builtin "repr") gRepr := by
  refine ⟨_, call_repr, fun W μ vs ds v Q c r e q => ?_⟩
  unfold gRepr at e
  split at e
  · split at e
    · rename_i hb
      cases e
      obtain ⟨w, rfl, r1⟩ := r.one
      cases r1
      exact .inl ⟨_, rfl, hb, q W _ (Grow.refl W) (.str _)⟩
    · cases e
  · split at e
    · rename_i hb
      cases e
      obtain ⟨w, rfl, r1⟩ := r.one
      cases r1
      exact .inr ⟨_, rfl, hb, q W _ (Grow.refl W) (.str _)⟩
    · cases e
  · cases e
/-! ### calls -/
structure Cal (P : Program) (w : World) (K : PySem.W.Frag) (mg : Str → Option Value) (base : Heap) (k : Nat) (x : Str) (ps : List Str) (F : MF) : Prop where
  ex : ∃ f fd oc od osl, FnOk P w K mg base CX0 k f fd ps (spF K mg ps.length F) ∧ mg x = some (.ref f) ∧ PySem.W.keepIn K (.ref f) = true ∧ Binds K fd ps [] ∧ K.lookup f = some ⟨oc, od, .func fd, osl⟩
  len : ∀ ds μ r, F ds μ = some r → ds.length = ps.length
structure CaL (P : Program) (w : World) (K : PySem.W.Frag) (mg : Str → Option Value) (base : Heap) (k : Nat) (x : Str) (ps : List Str) (F : ML) : Prop where
  ex : ∃ f fd oc od osl, FnOk P w K mg base CX0 k f fd ps (spL K mg ps.length F) ∧ mg x = some (.ref f) ∧ PySem.W.keepIn K (.ref f) = true ∧ Binds K fd ps [] ∧ K.lookup f = some ⟨oc, od, .func fd, osl⟩
  len : ∀ ds μ r, F ds μ = some r → ds.length = ps.length
theorem Cal.mono {P : Program} {w : World} {K : PySem.W.Frag} {mg : Str → Option Value} {base : Heap} {k l : Nat} {x : Str} {ps : List Str} {F : MF} (C : Cal P w K mg base k x ps F) (h : k ≤ l) : Cal P w K mg base l x ps F := by
  obtain ⟨⟨f, fd, oc, od, osl, h1, r⟩, hl⟩ := C
  exact ⟨⟨f, fd, oc, od, osl, h1.mono h, r⟩, hl⟩
theorem CaL.mono {P : Program} {w : World} {K : PySem.W.Frag} {mg : Str → Option Value} {base : Heap} {k l : Nat} {x : Str} {ps : List Str} {F : ML} (C : CaL P w K mg base k x ps F) (h : k ≤ l) : CaL P w K mg base l x ps F := by
  obtain ⟨⟨f, fd, oc, od, osl, h1, r⟩, hl⟩ := C
  exact ⟨⟨f, fd, oc, od, osl, h1.mono h, r⟩, hl⟩
theorem se_cal {ps : List Str} {F : MF} (C : Cal X.prog X.w X.K X.mg X.base k x ps F) (hr : Room k X.A) (hg : Gl X x) (ha : SA X (a :: es) mr) (hdb : (x == ("__debug__" : Str)) = false := by decide)
    (he : starEach (a :: es) X.env = (false, eval a X.env) :: starEach es X.env := by rfl) (hpl : (backTo pos (starEach es X.env)).any (·.1) = false := by rfl) : SE X (.Call (.Name x p) (a :: es) [] pos) (eFn F mr) := by
  obtain ⟨f, fd, oc, od, osl, F1, hm, hk, hb, lk⟩ := C.ex
  exact se_fn (pe_call F1 hr hg hm hk hb .nil pass0 ha hdb he hpl) C.len
theorem sf_cal {ps : List Str} {F : ML} (C : CaL X.prog X.w X.K X.mg X.base k x ps F) (hr : Room k X.A) (hg : Gl X x) (ha : SA X (a :: es) mr) (hdb : (x == ("__debug__" : Str)) = false := by decide)
    (he : starEach (a :: es) X.env = (false, eval a X.env) :: starEach es X.env := by rfl) (hpl : (backTo pos (starEach es X.env)).any (·.1) = false := by rfl) : SF X (.Call (.Name x p) (a :: es) [] pos) (aFnL F mr) := by
  obtain ⟨f, fd, oc, od, osl, F1, hm, hk, hb, lk⟩ := C.ex
  exact sf_fnL (pe_call F1 hr hg hm hk hb .nil pass0 ha hdb he hpl) C.len
/-- a def as a value -/
theorem se_fnv {ps : List Str} {F : MF} (C : Cal X.prog X.w X.K X.mg X.base k x ps F) (hg : Gl X x) (hdb : (x == ("__debug__" : Str)) = false := by decide) : SE X (.Name x pos) (eC (.fn x)) := by
  obtain ⟨f, fd, oc, od, osl, F1, hm, hk, hb, lk⟩ := C.ex
  exact se_const (pe_glob hg hm (v := .ref f) rfl hdb) fun W => .fn hm
/-- a constant of the module -/
theorem se_glb {v : V} {u : Value} {d : Va} (hg : Gl X x) (hm : X.mg x = some u) (r : RelV v u) (rp : ∀ W, Rp X.K X.mg W v d) (hdb : (x == ("__debug__" : Str)) = false := by decide) : SE X (.Name x pos) (eC d) := se_const (pe_glob hg hm r hdb) rp
/-! ### a def in a slot, called -/
def eHeld (L : List (Str × MF)) (i : Nat) (m : MA) : ME := fun fs μ => match fs[i]? with
  | some (.val (.fn x)) => match L.lookup x with
    | some F => match m fs μ with
      | some (ds, μ1) => F ds μ1
      | none => none
    | none => none
  | _ => none
theorem lookup_mem' {α : Type} : ∀ {l : List (Str × α)} {n : Str} {c : α}, l.lookup n = some c → (n, c) ∈ l
  | (k, v) :: r, n, c, h => by
    rw [List.lookup_cons] at h
    cases hb : n == k with
    | true =>
      rw [hb] at h
      cases h
      rw [eq_of_beq hb]
      exact List.mem_cons_self
    | false =>
      rw [hb] at h
      exact List.mem_cons_of_mem _ (lookup_mem' h)
def spH (K : PySem.W.Frag) (mg : Str → Option Value) (L : List (Str × MF)) (np : Nat) (f : Addr) : Sp := fun vs H Q E => ∃ q, q ∈ L ∧ mg q.1 = some (.ref f) ∧ spF K mg np q.2 vs H Q E
open Classical in
noncomputable def sH (K : PySem.W.Frag) (mg : Str → Option Value) (L : List (Str × MF)) (np : Nat) (f : Addr) : Option Sp := if ∃ q, q ∈ L ∧ mg q.1 = some (.ref f) then some (spH K mg L np f) else none
theorem held_of {P : Program} {w : World} {K : PySem.W.Frag} {mg : Str → Option Value} {base : Heap} {L : List (Str × MF)} {ps : List Str} (h : ∀ q ∈ L, Cal P w K mg base k q.1 ps q.2) : ∀ f sp, sH K mg L ps.length f = some sp → Held P w K mg base k f sp := fun f sp e => by
  unfold sH at e
  split at e
  · rename_i hq
    cases e
    obtain ⟨q0, m0, g0⟩ := hq
    obtain ⟨f0, fd0, oc0, od0, osl0, F0, hm0, hk0, hb0, lk0⟩ := (h q0 m0).ex
    rw [g0] at hm0
    cases hm0
    refine ⟨fd0, ps, ⟨fun vs H Q E ⟨q, mq, gq, sq⟩ => sq.1, fun A outer s H args us vs Q E hr he hb hv ⟨q, mq, gq, sq⟩ => ?_⟩, hk0, hb0⟩
    obtain ⟨f1, fd1, oc1, od1, osl1, F1, hm1, hk1, hb1, lk1⟩ := (h q mq).ex
    rw [gq] at hm1
    cases hm1
    rw [lk0] at lk1
    cases lk1
    exact F1.run A outer s H args us vs Q E hr he hb hv sq
  · cases e
theorem se_held {L : List (Str × MF)} {ps : List Str} (h : ∀ q ∈ L, Cal X.prog X.w X.K X.mg X.base k q.1 ps q.2) (hr : Room k X.A) (hN : X.N[i]? = some x) (hv : Vis X.env.scope x) (ha : SA X (a :: es) mr)
    (hdb : (x == ("__debug__" : Str)) = false := by decide) (hcd : (x == ("__classdict__" : Str)) = false := by decide)
    (he : starEach (a :: es) X.env = (false, eval a X.env) :: starEach es X.env := by rfl) (hpl : (backTo pos (starEach es X.env)).any (·.1) = false := by rfl) : SE X (.Call (.Name x p) (a :: es) [] pos) (eHeld L i mr) := by
  refine (pe_callA (held_of h) hr hN hv ha hdb hcd he hpl).of fun σ H Q ⟨W, fs, μ, v, μ', hW, S, e, q⟩ => ?_
  unfold eHeld at e
  split at e
  · rename_i y e0
    split at e
    · rename_i F eL
      split at e
      · rename_i ds μ1 e1
        obtain ⟨w, k1, k2⟩ := S.vals i _ e0
        cases k2 with
        | fn hm =>
          rename_i f
          have mem := lookup_mem' eL
          have hC := h _ mem
          refine ⟨f, spH X.K X.mg L ps.length f, k1, by unfold sH; rw [if_pos ⟨_, mem, hm⟩], W, fs, μ, ds, μ1, hW, S, e1, fun W' ws x c r => ⟨(y, F), mem, hm, ?_⟩⟩
          exact ⟨by rw [r.length]; exact hC.len _ _ _ e, W', ds, μ1, v, μ', rfl, c, r, e, fun W2 w2 x2 c2 r2 => q W2 w2 (x.trans x2) c2 r2⟩
      · cases e
    · cases e
  · cases e
/-! ### new lists assigned -/
/-- name = a new list, taken as frozen -/
theorem ss_asgF {y : Str} {py : Pos} (h : PS X st (tAsg (rdF X.K X.mg mr) (gName i))) : SS X st (sAsg i (eFrz mr)) := ss_asg (h.of fun D σ H ⟨W, fs, μ, v, μ', hW, S, e, q⟩ => by
  unfold eFrz at e
  split at e
  · rename_i xs μ1 e1
    cases e
    exact ⟨W, fs, μ, _, _, hW, S, e1, fun W' p vs x c r hp n1 n2 h0 => frz_new x c r hp n1 n2 h0 fun W2 w x2 c2 r2 => q W2 w x2 c2 r2⟩
  · cases e)
/-- a, b = e, a new list -/
def rdAF (K : PySem.W.Frag) (mg : Str → Option Value) (m : ME) (n : MA) : TA := fun σ H Q => ∃ W fs μ v μ1 xs μ', W.H = H ∧ Se K mg W fs μ σ ∧ m fs μ = some (v, μ1) ∧ n fs μ1 = some (xs, μ') ∧
  ∀ W' w p vs, Ext W W' → Cs K mg W' μ' → Rp K mg W' w v → RpL K mg W' vs xs → W'.H p = some (.lst vs) → p ∉ W'.φ → ¬ W'.fz p → W.H p = none → Q [w, .ref p] W'.H
theorem pa_af {n : MA} (h1 : SE X a m) (h2 : SF X b n) (hs1 : starEach [a, b] X.env = (false, eval a X.env) :: starEach [b] X.env := by rfl) (hs2 : starEach [b] X.env = (false, eval b X.env) :: starEach [] X.env := by rfl) : PA X [a, b] (rdAF X.K X.mg m n) :=
  (pa_cons h1 (pa_cons h2 pa_nil hs2) hs1).of fun σ H Q ⟨W, fs, μ, v, μ1, xs, μ', hW, S, e1, e2, q⟩ => by
    refine ⟨W, fs, μ, v, μ1, hW, S, e1, fun W1 w x1 c1 r1 => ⟨W1, fs, μ1, xs, μ', rfl, S.ext x1 c1, e2, fun W2 p vs x2 c2 r2 hp n1 n2 h0 => ?_⟩⟩
    exact q W2 w p vs (x1.trans x2) c2 (Rp.mono x2.exs _ r1) r2 hp n1 n2 (x1.old_none h0)
def sParO (i j : Nat) (m : ME) (n : MA) : MS := fun fs μ => match m fs μ with
  | some (v, μ1) => match n fs μ1 with
    | some (xs, μ') => some (.nx, (fs.set i (.val v)).set j (.own xs), μ')
    | none => none
  | none => none
theorem ss_parO {n : MA} (hij : i ≠ j) (h : PS X st (tPar i j (rdAF X.K X.mg m n))) : SS X st (sParO i j m n) := h.of fun D σ H ⟨W0, W, fs, μ, fl, fs', μ', hW, S, e, q⟩ => by
  unfold sParO at e
  split at e
  · rename_i v μ1 e1
    split at e
    · rename_i xs μ2 e2
      cases e
      refine ⟨W, fs, μ, v, μ1, xs, _, hW, S.se, e1, e2, fun W' w p vs x c r1 r2 hp n1 n2 h0 => ?_⟩
      refine ⟨w, .ref p, rfl, q W' _ x.exs ?_⟩
      have S2 := (S.setOwn (i := j) x c h0 r2 hp n1 n2).set (i := i) r1
      rw [List.set_comm _ _ hij, List.set_comm _ _ hij]
      exact S2
    · cases e
  · cases e
end
end Ev
end MEvK
section MEvL
/-! Ev, part L: small words for printed terms. -/
namespace Ev
open PySem PySem.Spec PyProof.Rows L2
theorem r65 {k : Nat} {A : Around} (hr : Room k A) : A.units + 65 < cLine := by have := hr.un; omega
def fuel : Nat := 10000
/-! targets' slots -/
theorem in_name {i : Nat} {vs : List Nat} (h : i ∈ vs) : ∀ x as, bName i x = some as → ∀ p ∈ as, p.1 ∈ vs := fun x as e p hp => by
  unfold bName at e
  cases e
  rw [List.mem_singleton.mp hp]
  exact h
theorem ins_nil {vs : List Nat} : ∀ x as, bsNil x = some as → ∀ p ∈ as, p.1 ∈ vs := fun x as e p hp => by
  unfold bsNil at e
  split at e
  · cases e; cases hp
  · cases e
theorem ins_cons {m : MB} {ms : MBs} {vs : List Nat} (h1 : ∀ x as, m x = some as → ∀ p ∈ as, p.1 ∈ vs) (h2 : ∀ x as, ms x = some as → ∀ p ∈ as, p.1 ∈ vs) : ∀ x as, bsCons m ms x = some as → ∀ p ∈ as, p.1 ∈ vs := fun x as e p hp => by
  unfold bsCons at e
  split at e
  · split at e
    · rename_i e1
      split at e
      · rename_i e2
        cases e
        rcases List.mem_append.mp hp with z | z
        · exact h1 _ _ e1 p z
        · exact h2 _ _ e2 p z
      · cases e
    · cases e
  · cases e
theorem in_tup {n : Nat} {ms : MBs} {vs : List Nat} (h : ∀ x as, ms x = some as → ∀ p ∈ as, p.1 ∈ vs) : ∀ x as, bTup n ms x = some as → ∀ p ∈ as, p.1 ∈ vs := fun x as e p hp => by
  unfold bTup at e
  split at e
  · split at e
    · exact h _ _ e p hp
    · cases e
  · cases e
/-! no test -/
def tAll : MT := fun _ μ => some (true, μ)
theorem pts_all {X : Cx} : PTs X [] (rdT X.K X.mg tAll) := ⟨fun pins s σ H Q I ⟨W, fs, μ, v, μ', hW, S, e, q⟩ => by
  unfold tAll at e
  cases e
  subst hW
  exact pts_nil.run pins s σ W.H Q I (q W (Ext.refl W) S.cells)⟩
/-! lengths -/
theorem len1 {a : ME} : ∀ fs μ vs μ', aCons a aNil fs μ = some (vs, μ') → vs.length = 1 := fun fs μ vs μ' e => by
  unfold aCons at e
  split at e
  · split at e
    · rename_i e2
      unfold aNil at e2
      cases e2
      cases e
      rfl
    · cases e
  · cases e
theorem len2 {a b : ME} : ∀ fs μ vs μ', aCons a (aCons b aNil) fs μ = some (vs, μ') → vs.length = 2 := fun fs μ vs μ' e => by
  unfold aCons at e
  split at e
  · split at e
    · rename_i e2
      have := len1 _ _ _ _ e2
      cases e
      simp [this]
    · cases e
  · cases e
/-! defs in a slot -/
theorem mem_nil {P : Str × MF → Prop} : ∀ q ∈ ([] : List (Str × MF)), P q := fun q h => by cases h
theorem mem_cons {P : Str × MF → Prop} {a : Str × MF} {l : List (Str × MF)} (h : P a) (t : ∀ q ∈ l, P q) : ∀ q ∈ a :: l, P q := fun q hq => by
  rcases List.mem_cons.mp hq with rfl | hq
  · exact h
  · exact t q hq
/-! for -/
theorem ss_for1 {X : Cx} {st : Stmt} {mr : MA} {g : MB} {t : MS} (h : PS X st (tFor (rdI X.K X.mg mr) (rdG X.K X.mg g) (rdS X.K X.mg t))) : SS X st (sFor mr g t) := ss_for (iter := .Constant .none 0 ⟨0, 0, 0, 0⟩) (stm := []) h
/-! constants of the module -/
def Glb (K : PySem.W.Frag) (mg : Str → Option Value) (x : Str) (d : Va) : Prop := ∃ v u, mg x = some u ∧ RelV v u ∧ ∀ W, Rp K mg W v d
theorem se_glb1 {X : Cx} {x : Str} {d : Va} {pos : Pos} (h : Glb X.K X.mg x d) (hg : Gl X x) (hdb : (x == ("__debug__" : Str)) = false := by decide) : SE X (.Name x pos) (eC d) := by
  obtain ⟨v, u, h1, h2, h3⟩ := h
  exact se_glb hg h1 h2 h3 hdb
/-- a def by its body's meaning, its code object known -/
theorem fn_okC {P : Program} {w : World} {K : PySem.W.Frag} {mg : Str → Option Value} {base : Heap} {x qual : Str} {f : Addr} {N ps : List Str} {k : Nat} {m : MS} {params : Arguments} {body : List Stmt} {scope : Scope} {dV kV doc pm cdv ct oc : Value} {an od : Option Addr} {osl : Array (Option Value)}
    (lk : K.lookup f = some ⟨oc, od, .func (PySem.W.fnOf x qual params body scope dV kV doc pm an cdv ct), osl⟩) (hcd : PySem.W.codeIn K cdv qual = true) (S : FnScope N ps scope)
    (hb : ∀ (A : Around) (outer : List Env) (s : Shared) (H : Hp) (E : XK), Room k (A.deeper (envOfC qual scope s.heap.objs.size f cdv)) → SSs (cxOf CX0 P w K mg base N qual scope f cdv A outer s H E).nox body m) :
    FnOk P w K mg base CX0 (k + 1) f (PySem.W.fnOf x qual params body scope dV kV doc pm an cdv ct) ps (spF K mg ps.length (fnF ps.length N.length m)) := by
  refine fn_of lk hcd S (fun vs H Q E h => h.1) fun A outer s H vs Q E hr h => ?_
  obtain ⟨hl, W, ds, μ, v, μ', hW, c, r, e, q⟩ := h
  refine ⟨_, (hb A outer s H E hr).nox, ?_⟩
  unfold fnF at e
  split at e
  · rename_i hl2
    split at e
    · rename_i v1 fs1 μ1 e1
      cases e
      exact ⟨W, W, _, μ, .rt _, fs1, _, hW, Sm.start c r, e1, fun W' w x c r => q W' w x c r⟩
    · rename_i fs1 μ1 e1
      cases e
      exact ⟨W, W, _, μ, .nx, fs1, _, hW, Sm.start c r, e1, fun W' σ' y S => q W' .non S.ext S.se.cells .non⟩
    · rename_i xs fs1 μ1 e1
      cases e
      exact ⟨W, W, _, μ, .rf _, fs1, _, hW, Sm.start c r, e1, fun W' p vs x c r hp n1 n2 h0 => (frz_new x c r hp n1 n2 h0) q⟩
    · cases e
  · cases e
/-! the lambda's text, by computing -/
def lamB (params : Arguments) (body : Expr) (scope : Scope) : Option Str := match params, body with
  | ⟨[], [a], none, [], [], none, []⟩, .Tuple [.Call (.Name f _) [.Name x _] [] _, .Name y _] _ _ =>
    if decide (a.arg = x) && decide (y = x) && decide (f = ("len" : PySem.Str)) && decide (scope.kind = .function) && !scope.isCoroutine && !scope.isGenerator && decide (scope.names.lookup x = some .local) && decide (scope.names.lookup ("len" : PySem.Str) = some .globalImplicit)
      && scope.names.all (fun y => !decide (y.2 = .cell) && !decide (y.2 = .free)) && !(x == ("__debug__" : PySem.Str)) then some x else none
  | _, _ => none
theorem lamOk_by {params : Arguments} {body : Expr} {scope : Scope} {x : Str} (h : lamB params body scope = some x) (par : ∀ (nm q : Str) (cl : List (Str × Addr)) (pm cdv ct v : Value), bindArgs (PySem.W.kla_fn nm q params body scope cl pm cdv ct) ⟨[v], []⟩ = pure [(x, v)]) : LamOk params body scope x := by
  unfold lamB at h
  split at h
  · rename_i a f p1 z p2 p3 y p4 n p5
    split at h
    · rename_i hc
      cases h
      simp only [Bool.and_eq_true, decide_eq_true_eq, Bool.not_eq_true', List.all_eq_true, decide_eq_false_iff_not] at hc
      obtain ⟨⟨⟨⟨⟨⟨⟨⟨⟨h1, h2⟩, h3⟩, h4⟩, h5⟩, h6⟩, h7⟩, h8⟩, h9⟩, h10⟩ := hc
      subst h2 h3
      exact ⟨par, ⟨p1, p2, p3, p4, p5, n, rfl⟩, h4, h5, h6, h7, h8, fun y hy => (h9 y hy).1, fun y hy => (h9 y hy).2, h10⟩
    · cases h
  · cases h
/-! a def that calls itself -/
theorem rec_cal {P : Program} {w : World} {K : PySem.W.Frag} {mg : Str → Option Value} {base : Heap} {x : Str} {ps : List Str} {R : Nat → MF} {k : Nat} {f : Addr} {fd : FuncData} {oc : Value} {od : Option Addr} {osl : Array (Option Value)} (h0 : R 0 = fun _ _ => none) (hm : mg x = some (.ref f)) (hk : PySem.W.keepIn K (.ref f) = true) (hb : Binds K fd ps [])
    (lk : K.lookup f = some ⟨oc, od, .func fd, osl⟩) (step : ∀ n, Cal P w K mg base (k + n) x ps (R n) → FnOk P w K mg base CX0 (k + n + 1) f fd ps (spF K mg ps.length (R (n + 1)))) (len : ∀ n ds μ r, R (n + 1) ds μ = some r → ds.length = ps.length) : ∀ n, Cal P w K mg base (k + n) x ps (R n)
  | 0 => ⟨⟨f, fd, oc, od, osl, ⟨fun vs H Q E h => h.1, fun A outer s H args us vs Q E hr he hb hv ⟨_, W, ds, μ, v, μ', _, _, _, e, _⟩ => by rw [h0] at e; cases e⟩, hm, hk, hb, lk⟩, fun ds μ r e => by rw [h0] at e; cases e⟩
  | n + 1 => ⟨⟨f, fd, oc, od, osl, step n (rec_cal h0 hm hk hb lk step len n), hm, hk, hb, lk⟩, len n⟩
/-! the table of the code objects of all_lots -/
theorem tbOf_one {K : PySem.W.Frag} {mg : Str → Option Value} {fa c P : Addr} {x : Str} (h1 : ∀ y ∈ lamNames, y ≠ x → mg y = none) (hx : lamNames.filter (· == x) = [x]) (hm : mg x = some (.ref fa)) (hc : codeAt (K.lookup fa) = some c) (ht : PySem.W.codeHdIn K c P = true) : tbOf K mg = [(P, x ++ ".<locals>.<lambda>")] := by
  have e1 : tbAt K mg x = some (P, x ++ ".<locals>.<lambda>") := by
    unfold tbAt
    rw [hm]
    simp only [hc]
    unfold PySem.W.codeHdIn at ht
    split at ht
    · rename_i vs _ hk
      rw [hk]
      simp only [Bool.and_eq_true] at ht
      obtain ⟨⟨⟨⟨⟨e1, _⟩, _⟩, _⟩, _⟩, _⟩ := ht
      unfold tableAt
      simp only
      split at e1
      · rename_i P' h11
        rw [h11]
        simp only [beq_iff_eq] at e1
        rw [e1]
      · cases e1
    · cases ht
  unfold tbOf
  have key : ∀ l : List Str, (∀ y ∈ l, y ≠ x → mg y = none) → l.filterMap (tbAt K mg) = (l.filter (· == x)).filterMap (tbAt K mg) := by
    intro l
    induction l with
    | nil => intro _; rfl
    | cons y l ih =>
      intro h
      have ih := ih fun z hz => h z (List.mem_cons_of_mem _ hz)
      by_cases e : y = x
      · subst e
        rw [List.filterMap_cons, List.filter_cons]
        simp only [beq_self_eq_true, if_true]
        rw [List.filterMap_cons, ih]
      · have en : tbAt K mg y = none := by
          unfold tbAt
          rw [h y List.mem_cons_self e]
        rw [List.filterMap_cons, en, List.filter_cons]
        have : (y == x) = false := by simpa using e
        rw [this]
        simpa using ih
  rw [key lamNames h1, hx, List.filterMap_cons, e1]
  rfl
/-! the law's own call -/
theorem start_law {K : PySem.W.Frag} {mg : Str → Option Value} {H : Hp} {a : Addr} {ns : List Int} (h : SqL K H a (ns.map V.int)) (hT : LamX.Tabs (tbOf K mg) H) : ∃ W : Wd, W.H = H ∧ Cs K mg W [] ∧ RpL K mg W [.ref a] [.scr ns] := by
  refine ⟨⟨[], fun b => b = a ∧ ∃ xs, H a = some (.lst xs), H, List.nodup_nil, (fun b hb => nomatch hb), fun b ⟨e, xs, hx⟩ => ⟨(fun z => nomatch z), xs, by rw [e]; exact hx⟩⟩, rfl, ⟨rfl, (fun n xs e => by simp at e), hT⟩, .cons (.scr ?_) .nil⟩
  rcases h with (h | ⟨o, h⟩) | h
  · exact .inl ⟨⟨rfl, _, h⟩, h⟩
  · exact .inr (.inl ⟨o, h⟩)
  · exact .inr (.inr (.inr h))
end Ev
end MEvL
section MK8
/-! K8: printed by gen.py from the law's text: what each def computes. -/
namespace K8
open PySem PySem.Spec PyProof.Rows L2 Ev
def topS (i : Nat) : Stmt := PySem.Challenge.pw_ruleyard_k08_whole_steps_keep_books_of_f.main.body.getD i (.Pass ⟨0, 0, 0, 0⟩)
def k_MOST_LETTERS : Va := .int 12
def k_KINDS : Va := .tup [.str "split", .str "idle", .str "never", .str "double", .str "shadow", .str "given", .str "barred", .str "less"]
/-! ### _law_cell -/
abbrev st_law_cell : Stmt := topS 46
def PS_law_cell : List PySem.Str := ["script", "k"]
theorem sc_law_cell : FnScope ["script", "k"] PS_law_cell (defScope st_law_cell) := ⟨rfl, rfl, rfl, by decide +kernel, rfl, by decide +kernel, by decide +kernel⟩
def M_law_cell : MS := (sSeq (sIf (tOf (eBin (gCmp fun i j => decide (i < j)) (eVar 1) (eCal gLen (aCons (eVar 0) aNil)))) (sRet (eIdx (eVar 0) (eVar 1))) sNil) (sRet (eC (.int 0))))
def F_law_cell : MF := fnF 2 2 M_law_cell
theorem ok_law_cell {P : Program} {w : World} {K : PySem.W.Frag} {mg : PySem.Str → Option Value} {base : Heap} {fa : Addr} {fd : FuncData} (F : Fun K "_law_cell" "_law_cell" st_law_cell fa fd) (m_len : mg "len" = none) :
    FnOk P w K mg base CX0 (3 + 1) fa fd PS_law_cell (spF K mg 2 F_law_cell) :=
  fn_ok F sc_law_cell fun cdv A outer s H E hr =>
    (ss_cons (ss_if (st_cmp os_lt (se_var (pv 1)) (se_call cs_len (by rfl) m_len (by decide +kernel) (sa_cons (se_var (pv 0)) sa_nil)) (nomark _)) (ss_one (ss_ret (se_idx (se_var (pv 0)) (se_var (pv 1))))) ss_nil) (ss_one (ss_ret se_int)))
/-! ### _law_digits -/
abbrev st_law_digits : Stmt := topS 47
def PS_law_digits : List PySem.Str := ["script", "first", "last"]
theorem sc_law_digits : FnScope ["script", "first", "last", "digits", "k", "cell", "turn", "seed"] PS_law_digits (defScope st_law_digits) := ⟨rfl, rfl, rfl, by decide +kernel, rfl, by decide +kernel, by decide +kernel⟩
def M_law_digits : MS := (sSeq (sOwn 3 (aLst aNil)) (sSeq (sFor (aRange (aCons (eVar 1) (aCons (eVar 2) aNil))) (bName 4) (sSeq (sAsg 5 (eFn F_law_cell (aCons (eVar 0) (aCons (eVar 4) aNil)))) (sSeq (sIf (tOf (eBin (gCmp fun i j => decide (i < j)) (eVar 5) (eC (.int 0)))) (sAsg 5 (eBin (gInt iSub) (eC (.int 1)) (eBin (gInt iMul) (eC (.int 2)) (eVar 5)))) sNil) (sIf (tOf (eBin (gCmp fun i j => decide (j ≤ i)) (eVar 5) (eBin (gInt iPow) (eC (.int 10)) (eC (.int 18))))) (sFor (aRange (aCons (eC (.int 60)) aNil)) (bName 6) (sIf (tOf (eBin (gCmp fun i j => decide (j < i)) (eVar 5) (eC (.int 0)))) (sSeq (sApp 3 (eBin (gInt iMod) (eCal gInt1 (aCons (eVar 5) aNil)) (eC (.int 1000)))) (sAsg 5 (eBin (gInt iDiv) (eVar 5) (eC (.int 1000))))) sNil)) (sSeq (sAsg 7 (eBin (gInt iMod) (eCal gInt1 (aCons (eBin gAdd (eBin gAdd (eBin (gInt iMul) (eVar 5) (eC (.int 48271))) (eBin (gInt iMul) (eVar 4) (eC (.int 69621)))) (eC (.int 11))) aNil)) (eC (.int 2147483647)))) (sFor (aRange (aCons (eC (.int 12)) aNil)) (bName 6) (sSeq (sAsg 7 (eBin (gInt iMod) (eCal gInt1 (aCons (eBin gAdd (eBin gAdd (eBin (gInt iMul) (eVar 7) (eC (.int 16807))) (eBin (gInt iMul) (eC (.int 7)) (eVar 6))) (eC (.int 1))) aNil)) (eC (.int 2147483647)))) (sApp 3 (eBin (gInt iMod) (eCal gInt1 (aCons (eBin (gInt iDiv) (eVar 7) (eC (.int 997))) aNil)) (eC (.int 1000))))))))))) (sRet (eVar 3))))
def F_law_digits : MF := fnF 3 8 M_law_digits
theorem ok_law_digits {P : Program} {w : World} {K : PySem.W.Frag} {mg : PySem.Str → Option Value} {base : Heap} {fa : Addr} {fd : FuncData} (F : Fun K "_law_digits" "_law_digits" st_law_digits fa fd) (m_int : mg "int" = none) (m_range : mg "range" = none) (c__law_cell : Cal P w K mg base 4 "_law_cell" PS_law_cell F_law_cell) :
    FnOk P w K mg base CX0 (4 + 1) fa fd PS_law_digits (spF K mg 3 F_law_digits) :=
  fn_ok F sc_law_digits fun cdv A outer s H E hr =>
    (ss_cons (ss_own (ps_set (i := 3) (by exact sc_law_digits.nd) rfl (.inl rfl) (sf_lst sa_nil))) (ss_cons (ss_for1 (ps_for PassesOwn.never rfl (si_range2 (pi_range2 (by rfl) m_range (sa_cons (se_var (pv 1)) (sa_cons (se_var (pv 2)) sa_nil))) len2) (sg_name (pg_name (i := 4) (by exact sc_law_digits.nd) rfl (.inl rfl))) (ss_cons (ss_asg (ps_set (i := 5) (by exact sc_law_digits.nd) rfl (.inl rfl) (se_cal c__law_cell hr (by rfl) (sa_cons (se_var (pv 0)) (sa_cons (se_var (pv 4)) sa_nil))))) (ss_cons (ss_if (st_cmp os_lt (se_var (pv 5)) se_int (nomark _)) (ss_one (ss_asg (ps_set (i := 5) (by exact sc_law_digits.nd) rfl (.inl rfl) (se_op os_sub se_int (se_op os_mul se_int (se_var (pv 5))))))) ss_nil) (ss_one (ss_if (st_cmp os_ge (se_var (pv 5)) (se_op os_pow se_int se_int) (nomark _)) (ss_one (ss_for1 (ps_for PassesOwn.never rfl (si_range1 (pi_range1 (by rfl) m_range (sa_cons se_int sa_nil)) len1) (sg_name (pg_name (i := 6) (by exact sc_law_digits.nd) rfl (.inl rfl))) (ss_one (ss_if (st_cmp os_gt (se_var (pv 5)) se_int (nomark _)) (ss_cons (ss_app (ps_expr (pe_bm PySem.F.plainAttrs_list PySem.F.slot_list_append PySem.F.type_list_append mt_append (pv 3) (pa_cons (se_op os_mod (se_callT cs_int (by rfl) m_int (by decide +kernel) (sa_cons (se_var (pv 5)) sa_nil)) se_int) pa_nil)))) (ss_one (ss_asg (ps_set (i := 5) (by exact sc_law_digits.nd) rfl (.inl rfl) (se_op os_div (se_var (pv 5)) se_int))))) ss_nil))))) (ss_cons (ss_asg (ps_set (i := 7) (by exact sc_law_digits.nd) rfl (.inl rfl) (se_op os_mod (se_callT cs_int (by rfl) m_int (by decide +kernel) (sa_cons (se_op os_add (se_op os_add (se_op os_mul (se_var (pv 5)) se_int) (se_op os_mul (se_var (pv 4)) se_int)) se_int) sa_nil)) se_int))) (ss_one (ss_for1 (ps_for PassesOwn.never rfl (si_range1 (pi_range1 (by rfl) m_range (sa_cons se_int sa_nil)) len1) (sg_name (pg_name (i := 6) (by exact sc_law_digits.nd) rfl (.inl rfl))) (ss_cons (ss_asg (ps_set (i := 7) (by exact sc_law_digits.nd) rfl (.inl rfl) (se_op os_mod (se_callT cs_int (by rfl) m_int (by decide +kernel) (sa_cons (se_op os_add (se_op os_add (se_op os_mul (se_var (pv 7)) se_int) (se_op os_mul se_int (se_var (pv 6)))) se_int) sa_nil)) se_int))) (ss_one (ss_app (ps_expr (pe_bm PySem.F.plainAttrs_list PySem.F.slot_list_append PySem.F.type_list_append mt_append (pv 3) (pa_cons (se_op os_mod (se_callT cs_int (by rfl) m_int (by decide +kernel) (sa_cons (se_op os_div (se_var (pv 7)) se_int) sa_nil)) se_int) pa_nil)))))))))))))))) (ss_one (ss_ret (se_var (pv 3))))))
/-! ### _law_draw -/
abbrev st_law_draw : Stmt := topS 48
def PS_law_draw : List PySem.Str := ["box", "many"]
theorem sc_law_draw : FnScope ["box", "many"] PS_law_draw (defScope st_law_draw) := ⟨rfl, rfl, rfl, by decide +kernel, rfl, by decide +kernel, by decide +kernel⟩
def M_law_draw : MS := (sSeq (sSetC (eBin gAdd (eIdx (eVar 0) (eC (.int 1))) (eC (.int 1))) (eVar 0) (eC (.int 1))) (sSeq (sIf (tOf (eBin (gCmp fun i j => decide (j < i)) (eIdx (eVar 0) (eC (.int 1))) (eCal gLen (aCons (eIdx (eVar 0) (eC (.int 0))) aNil)))) (sRet (eBin (gInt iMod) (eCal gInt1 (aCons (eBin gAdd (eBin (gInt iMul) (eIdx (eVar 0) (eC (.int 1))) (eC (.int 7))) (eC (.int 3))) aNil)) (eVar 1))) sNil) (sRet (eBin (gInt iMod) (eCal gInt1 (aCons (eIdx (eIdx (eVar 0) (eC (.int 0))) (eBin (gInt iSub) (eIdx (eVar 0) (eC (.int 1))) (eC (.int 1)))) aNil)) (eVar 1)))))
def F_law_draw : MF := fnF 2 2 M_law_draw
theorem ok_law_draw {P : Program} {w : World} {K : PySem.W.Frag} {mg : PySem.Str → Option Value} {base : Heap} {fa : Addr} {fd : FuncData} (F : Fun K "_law_draw" "_law_draw" st_law_draw fa fd) (m_int : mg "int" = none) (m_len : mg "len" = none) :
    FnOk P w K mg base CX0 (3 + 1) fa fd PS_law_draw (spF K mg 2 F_law_draw) :=
  fn_ok F sc_law_draw fun cdv A outer s H E hr =>
    (ss_cons (ss_setC (ps_asg (se_op os_add (se_idx (se_var (pv 0)) se_int) se_int) (pg_sub (se_var (pv 0)) se_int set_list))) (ss_cons (ss_if (st_cmp os_gt (se_idx (se_var (pv 0)) se_int) (se_call cs_len (by rfl) m_len (by decide +kernel) (sa_cons (se_idx (se_var (pv 0)) se_int) sa_nil)) (nomark _)) (ss_one (ss_ret (se_op os_mod (se_callT cs_int (by rfl) m_int (by decide +kernel) (sa_cons (se_op os_add (se_op os_mul (se_idx (se_var (pv 0)) se_int) se_int) se_int) sa_nil)) (se_var (pv 1))))) ss_nil) (ss_one (ss_ret (se_op os_mod (se_callT cs_int (by rfl) m_int (by decide +kernel) (sa_cons (se_idx (se_idx (se_var (pv 0)) se_int) (se_op os_sub (se_idx (se_var (pv 0)) se_int) se_int)) sa_nil)) (se_var (pv 1)))))))
/-! ### _law_mixed -/
abbrev st_law_mixed : Stmt := topS 49
def PS_law_mixed : List PySem.Str := ["box", "row"]
theorem sc_law_mixed : FnScope ["box", "row", "left", "found", "k"] PS_law_mixed (defScope st_law_mixed) := ⟨rfl, rfl, rfl, by decide +kernel, rfl, by decide +kernel, by decide +kernel⟩
def M_law_mixed : MS := (sSeq (sOwn 2 (aCal gList (aCons (eVar 1) aNil))) (sSeq (sOwn 3 (aLst aNil)) (sSeq (sFor (aRange (aCons (eCal gLen (aCons (eVar 1) aNil)) aNil)) (bName 4) (sAppPop 3 2 (eBin (gInt iMod) (eCal gInt1 (aCons (eFn F_law_draw (aCons (eVar 0) (aCons (eC (.int 1000)) aNil))) aNil)) (eB (eCal gLen (aCons (eVar 2) aNil)))))) (sRet (eVar 3)))))
def F_law_mixed : MF := fnF 2 5 M_law_mixed
theorem ok_law_mixed {P : Program} {w : World} {K : PySem.W.Frag} {mg : PySem.Str → Option Value} {base : Heap} {fa : Addr} {fd : FuncData} (F : Fun K "_law_mixed" "_law_mixed" st_law_mixed fa fd) (m_int : mg "int" = none) (m_len : mg "len" = none) (m_list : mg "list" = none) (m_range : mg "range" = none) (c__law_draw : Cal P w K mg base 4 "_law_draw" PS_law_draw F_law_draw) :
    FnOk P w K mg base CX0 (4 + 1) fa fd PS_law_mixed (spF K mg 2 F_law_mixed) :=
  fn_ok F sc_law_mixed fun cdv A outer s H E hr =>
    (ss_cons (ss_own (ps_set (i := 2) (by exact sc_law_mixed.nd) rfl (.inl rfl) (sf_callT cf_list (by rfl) m_list (by decide +kernel) (sa_cons (se_var (pv 1)) sa_nil)))) (ss_cons (ss_own (ps_set (i := 3) (by exact sc_law_mixed.nd) rfl (.inl rfl) (sf_lst sa_nil))) (ss_cons (ss_for1 (ps_for PassesOwn.never rfl (si_range1 (pi_range1 (by rfl) m_range (sa_cons (se_call cs_len (by rfl) m_len (by decide +kernel) (sa_cons (se_var (pv 1)) sa_nil)) sa_nil)) len1) (sg_name (pg_name (i := 4) (by exact sc_law_mixed.nd) rfl (.inl rfl))) (ss_one (ss_apppop (ps_expr (pe_bm PySem.F.plainAttrs_list PySem.F.slot_list_append PySem.F.type_list_append mt_append (pv 3) (pa_cons (pe_bm PySem.F.plainAttrs_list PySem.F.slot_list_pop PySem.F.type_list_pop mt_popAt (pv 2) (pa_cons (se_op os_mod (se_callT cs_int (by rfl) m_int (by decide +kernel) (sa_cons (se_cal c__law_draw hr (by rfl) (sa_cons (se_var (pv 0)) (sa_cons se_int sa_nil))) sa_nil)) (se_b (se_call cs_len (by rfl) m_len (by decide +kernel) (sa_cons (se_var (pv 2)) sa_nil)))) pa_nil)) pa_nil))))))) (ss_one (ss_ret (se_var (pv 3)))))))
/-! ### _law_pick -/
abbrev st_law_pick : Stmt := topS 50
def PS_law_pick : List PySem.Str := ["box", "row"]
theorem sc_law_pick : FnScope ["box", "row"] PS_law_pick (defScope st_law_pick) := ⟨rfl, rfl, rfl, by decide +kernel, rfl, by decide +kernel, by decide +kernel⟩
def M_law_pick : MS := (sRet (eIdx (eVar 1) (eBin (gInt iMod) (eCal gInt1 (aCons (eFn F_law_draw (aCons (eVar 0) (aCons (eC (.int 1000)) aNil))) aNil)) (eCal gLen (aCons (eVar 1) aNil)))))
def F_law_pick : MF := fnF 2 2 M_law_pick
theorem ok_law_pick {P : Program} {w : World} {K : PySem.W.Frag} {mg : PySem.Str → Option Value} {base : Heap} {fa : Addr} {fd : FuncData} (F : Fun K "_law_pick" "_law_pick" st_law_pick fa fd) (m_int : mg "int" = none) (m_len : mg "len" = none) (c__law_draw : Cal P w K mg base 4 "_law_draw" PS_law_draw F_law_draw) :
    FnOk P w K mg base CX0 (4 + 1) fa fd PS_law_pick (spF K mg 2 F_law_pick) :=
  fn_ok F sc_law_pick fun cdv A outer s H E hr =>
    (ss_one (ss_ret (se_idx (se_var (pv 1)) (se_op os_mod (se_callT cs_int (by rfl) m_int (by decide +kernel) (sa_cons (se_cal c__law_draw hr (by rfl) (sa_cons (se_var (pv 0)) (sa_cons se_int sa_nil))) sa_nil)) (se_call cs_len (by rfl) m_len (by decide +kernel) (sa_cons (se_var (pv 1)) sa_nil))))))
/-! ### _law_rule -/
abbrev st_law_rule : Stmt := topS 51
def PS_law_rule : List PySem.Str := ["box", "letters"]
theorem sc_law_rule : FnScope ["box", "letters", "choice", "heads", "pos", "neg", "twice"] PS_law_rule (defScope st_law_rule) := ⟨rfl, rfl, rfl, by decide +kernel, rfl, by decide +kernel, by decide +kernel⟩
def M_law_rule : MS := (sSeq (sAsg 2 (eBin gEq (eFn F_law_draw (aCons (eVar 0) (aCons (eC (.int 5)) aNil))) (eC (.int 0)))) (sSeq (sAsg 3 (eSl (eFn F_law_mixed (aCons (eVar 0) (aCons (eVar 1) aNil))) oNone (oSome (eIf (tOf (eVar 2)) (eBin gAdd (eC (.int 1)) (eFn F_law_draw (aCons (eVar 0) (aCons (eC (.int 2)) aNil)))) (eFn F_law_pick (aCons (eVar 0) (aCons (eFrz (aLst (aCons (eC (.int 1)) (aCons (eC (.int 1)) (aCons (eC (.int 1)) (aCons (eC (.int 0)) (aCons (eC (.int 2)) aNil))))))) aNil))))))) (sSeq (sPar2 4 5 (aCons (eSl (eFn F_law_mixed (aCons (eVar 0) (aCons (eVar 1) aNil))) oNone (oSome (eFn F_law_draw (aCons (eVar 0) (aCons (eC (.int 3)) aNil))))) (aCons (eSl (eFn F_law_mixed (aCons (eVar 0) (aCons (eVar 1) aNil))) oNone (oSome (eFn F_law_draw (aCons (eVar 0) (aCons (eC (.int 2)) aNil))))) aNil))) (sSeq (sAsg 6 (eIf (tOf (eBin gEq (eFn F_law_draw (aCons (eVar 0) (aCons (eC (.int 6)) aNil))) (eC (.int 0)))) (eSl (eFn F_law_mixed (aCons (eVar 0) (aCons (eVar 1) aNil))) oNone (oSome (eC (.int 1)))) (eFrz (aLst aNil)))) (sRet (eTup (aCons (eIf (tOf (eVar 2)) (eC (.str "choice")) (eC (.str "rule"))) (aCons (eCal gTuple (aCons (eFrz (aCal gSorted (aCons (eVar 3) aNil))) aNil)) (aCons (eCal gTuple (aCons (eFrz (aCal gSorted (aCons (eVar 4) aNil))) aNil)) (aCons (eCal gTuple (aCons (eFrz (aCal gSorted (aCons (eVar 5) aNil))) aNil)) (aCons (eCal gTuple (aCons (eVar 6) aNil)) aNil)))))))))))
def F_law_rule : MF := fnF 2 7 M_law_rule
theorem ok_law_rule {P : Program} {w : World} {K : PySem.W.Frag} {mg : PySem.Str → Option Value} {base : Heap} {fa : Addr} {fd : FuncData} (F : Fun K "_law_rule" "_law_rule" st_law_rule fa fd) (m_sorted : mg "sorted" = none) (m_tuple : mg "tuple" = none) (c__law_draw : Cal P w K mg base 5 "_law_draw" PS_law_draw F_law_draw) (c__law_mixed : Cal P w K mg base 5 "_law_mixed" PS_law_mixed F_law_mixed) (c__law_pick : Cal P w K mg base 5 "_law_pick" PS_law_pick F_law_pick) :
    FnOk P w K mg base CX0 (5 + 1) fa fd PS_law_rule (spF K mg 2 F_law_rule) :=
  fn_ok F sc_law_rule fun cdv A outer s H E hr =>
    (ss_cons (ss_asg (ps_set (i := 2) (by exact sc_law_rule.nd) rfl (.inl rfl) (se_cmp (os_eq hr.units) (se_cal c__law_draw hr (by rfl) (sa_cons (se_var (pv 0)) (sa_cons se_int sa_nil))) se_int (nomark _)))) (ss_cons (ss_asg (ps_set (i := 3) (by exact sc_law_rule.nd) rfl (.inl rfl) (se_sl (se_cal c__law_mixed hr (by rfl) (sa_cons (se_var (pv 0)) (sa_cons (se_var (pv 1)) sa_nil))) so_none (so_some (se_if (st_val (se_var (pv 2))) (se_op os_add se_int (se_cal c__law_draw hr (by rfl) (sa_cons (se_var (pv 0)) (sa_cons se_int sa_nil)))) (se_cal c__law_pick hr (by rfl) (sa_cons (se_var (pv 0)) (sa_cons (se_frz (sf_lst (sa_cons se_int (sa_cons se_int (sa_cons se_int (sa_cons se_int (sa_cons se_int sa_nil))))))) sa_nil)))))))) (ss_cons (ss_par2 (ps_par rfl (by exact sc_law_rule.nd) (i := 4) (j := 5) rfl rfl (by decide) rfl rfl (sa_cons (se_sl (se_cal c__law_mixed hr (by rfl) (sa_cons (se_var (pv 0)) (sa_cons (se_var (pv 1)) sa_nil))) so_none (so_some (se_cal c__law_draw hr (by rfl) (sa_cons (se_var (pv 0)) (sa_cons se_int sa_nil))))) (sa_cons (se_sl (se_cal c__law_mixed hr (by rfl) (sa_cons (se_var (pv 0)) (sa_cons (se_var (pv 1)) sa_nil))) so_none (so_some (se_cal c__law_draw hr (by rfl) (sa_cons (se_var (pv 0)) (sa_cons se_int sa_nil))))) sa_nil)) (by rfl))) (ss_cons (ss_asg (ps_set (i := 6) (by exact sc_law_rule.nd) rfl (.inl rfl) (se_if (st_cmp (os_eq hr.units) (se_cal c__law_draw hr (by rfl) (sa_cons (se_var (pv 0)) (sa_cons se_int sa_nil))) se_int (nomark _)) (se_sl (se_cal c__law_mixed hr (by rfl) (sa_cons (se_var (pv 0)) (sa_cons (se_var (pv 1)) sa_nil))) so_none (so_some se_int)) (se_frz (sf_lst sa_nil))))) (ss_one (ss_ret (se_tup (sa_cons (se_if (st_val (se_var (pv 2))) se_str se_str) (sa_cons (se_callT cs_tuple (by rfl) m_tuple (by decide +kernel) (sa_cons (se_frz (sf_call (cf_sorted hr.units) (by rfl) m_sorted (by decide +kernel) (sa_cons (se_var (pv 3)) sa_nil))) sa_nil)) (sa_cons (se_callT cs_tuple (by rfl) m_tuple (by decide +kernel) (sa_cons (se_frz (sf_call (cf_sorted hr.units) (by rfl) m_sorted (by decide +kernel) (sa_cons (se_var (pv 4)) sa_nil))) sa_nil)) (sa_cons (se_callT cs_tuple (by rfl) m_tuple (by decide +kernel) (sa_cons (se_frz (sf_call (cf_sorted hr.units) (by rfl) m_sorted (by decide +kernel) (sa_cons (se_var (pv 5)) sa_nil))) sa_nil)) (sa_cons (se_callT cs_tuple (by rfl) m_tuple (by decide +kernel) (sa_cons (se_var (pv 6)) sa_nil)) sa_nil))))))))))))
/-! ### _law_rules -/
abbrev st_law_rules : Stmt := topS 52
def PS_law_rules : List PySem.Str := ["box", "letters", "most"]
theorem sc_law_rules : FnScope ["box", "letters", "most", "found", "k", "rule"] PS_law_rules (defScope st_law_rules) := ⟨rfl, rfl, rfl, by decide +kernel, rfl, by decide +kernel, by decide +kernel⟩
def M_law_rules : MS := (sSeq (sOwn 3 (aLst aNil)) (sSeq (sFor (aRange (aCons (eFn F_law_draw (aCons (eVar 0) (aCons (eBin gAdd (eVar 2) (eC (.int 1))) aNil))) aNil)) (bName 4) (sSeq (sAsg 5 (eFn F_law_rule (aCons (eVar 0) (aCons (eVar 1) aNil)))) (sIf (tB (tOf (eBin (gIn true) (eVar 5) (eVar 3)))) (sApp 3 (eVar 5)) sNil))) (sRetL 3)))
def F_law_rules : ML := fnL 3 6 M_law_rules
theorem ok_law_rules {P : Program} {w : World} {K : PySem.W.Frag} {mg : PySem.Str → Option Value} {base : Heap} {fa : Addr} {fd : FuncData} (F : Fun K "_law_rules" "_law_rules" st_law_rules fa fd) (m_range : mg "range" = none) (c__law_rule : Cal P w K mg base 6 "_law_rule" PS_law_rule F_law_rule) (c__law_draw : Cal P w K mg base 6 "_law_draw" PS_law_draw F_law_draw) :
    FnOk P w K mg base CX0 (6 + 1) fa fd PS_law_rules (spL K mg 3 F_law_rules) :=
  fn_okL F sc_law_rules fun cdv A outer s H E hr =>
    (ss_cons (ss_own (ps_set (i := 3) (by exact sc_law_rules.nd) rfl (.inl rfl) (sf_lst sa_nil))) (ss_cons (ss_for1 (ps_for PassesOwn.never rfl (si_range1 (pi_range1 (by rfl) m_range (sa_cons (se_cal c__law_draw hr (by rfl) (sa_cons (se_var (pv 0)) (sa_cons (se_op os_add (se_var (pv 2)) se_int) sa_nil))) sa_nil)) len1) (sg_name (pg_name (i := 4) (by exact sc_law_rules.nd) rfl (.inl rfl))) (ss_cons (ss_asg (ps_set (i := 5) (by exact sc_law_rules.nd) rfl (.inl rfl) (se_cal c__law_rule hr (by rfl) (sa_cons (se_var (pv 0)) (sa_cons (se_var (pv 1)) sa_nil))))) (ss_one (ss_if (st_b (st_cmp (os_notin (r65 hr)) (se_var (pv 5)) (se_var (pv 3)) (by rfl))) (ss_one (ss_app (ps_expr (pe_bm PySem.F.plainAttrs_list PySem.F.slot_list_append PySem.F.type_list_append mt_append (pv 3) (pa_cons (se_var (pv 5)) pa_nil))))) ss_nil))))) (ss_one (ss_retL (ps_ret (pv 3))))))
/-! ### _law_book -/
abbrev st_law_book : Stmt := topS 58
def PS_law_book : List PySem.Str := ["box", "letters"]
theorem sc_law_book : FnScope ["box", "letters", "found", "one", "other", "third", "more", "k", "rule"] PS_law_book (defScope st_law_book) := ⟨rfl, rfl, rfl, by decide +kernel, rfl, by decide +kernel, by decide +kernel⟩
def M_law_book : MS := (sSeq (sOwn 2 (aFnL F_law_rules (aCons (eVar 0) (aCons (eVar 1) (aCons (eC (.int 4)) aNil))))) (sSeq (sAsgG (bLst 3 (bsCons (bName 3) (bsCons (bName 4) (bsCons (bName 5) bsNil)))) (eSl (eFn F_law_mixed (aCons (eVar 0) (aCons (eVar 1) aNil))) oNone (oSome (eC (.int 3))))) (sSeq (sAsg 6 (eFrz (aLst (aCons (eTup (aCons (eC (.str "rule")) (aCons (eTup (aCons (eVar 3) aNil)) (aCons (eTup aNil) (aCons (eTup aNil) (aCons (eTup aNil) aNil)))))) (aCons (eTup (aCons (eC (.str "rule")) (aCons (eTup aNil) (aCons (eTup (aCons (eVar 4) aNil)) (aCons (eTup aNil) (aCons (eTup aNil) aNil)))))) (aCons (eTup (aCons (eC (.str "choice")) (aCons (eCal gTuple (aCons (eFrz (aCal gSorted (aCons (eFrz (aLst (aCons (eVar 3) (aCons (eVar 5) aNil)))) aNil))) aNil)) (aCons (eTup (aCons (eVar 4) aNil)) (aCons (eTup aNil) (aCons (eTup aNil) aNil)))))) aNil)))))) (sSeq (sAsg 6 (eBin gAdd (eVar 6) (eFrz (aLst (aCons (eTup (aCons (eC (.str "choice")) (aCons (eCal gTuple (aCons (eFrz (aCal gSorted (aCons (eFrz (aLst (aCons (eVar 3) (aCons (eVar 5) aNil)))) aNil))) aNil)) (aCons (eTup aNil) (aCons (eTup aNil) (aCons (eTup aNil) aNil)))))) (aCons (eTup (aCons (eC (.str "rule")) (aCons (eCal gTuple (aCons (eFrz (aCal gSorted (aCons (eFrz (aLst (aCons (eVar 3) (aCons (eVar 4) aNil)))) aNil))) aNil)) (aCons (eTup (aCons (eVar 5) aNil)) (aCons (eTup aNil) (aCons (eTup (aCons (eVar 5) aNil)) aNil)))))) aNil)))))) (sSeq (sFor (aRange (aCons (eC (.int 2)) aNil)) (bName 7) (sSeq (sAsg 8 (eFn F_law_pick (aCons (eVar 0) (aCons (eVar 6) aNil)))) (sIf (tB (tOf (eBin (gIn true) (eVar 8) (eVar 2)))) (sApp 2 (eVar 8)) sNil))) (sRet (eVar 2)))))))
def F_law_book : MF := fnF 2 9 M_law_book
theorem ok_law_book {P : Program} {w : World} {K : PySem.W.Frag} {mg : PySem.Str → Option Value} {base : Heap} {fa : Addr} {fd : FuncData} (F : Fun K "_law_book" "_law_book" st_law_book fa fd) (m_range : mg "range" = none) (m_sorted : mg "sorted" = none) (m_tuple : mg "tuple" = none) (c__law_rules : CaL P w K mg base 7 "_law_rules" PS_law_rules F_law_rules) (c__law_mixed : Cal P w K mg base 7 "_law_mixed" PS_law_mixed F_law_mixed) (c__law_pick : Cal P w K mg base 7 "_law_pick" PS_law_pick F_law_pick) :
    FnOk P w K mg base CX0 (7 + 1) fa fd PS_law_book (spF K mg 2 F_law_book) :=
  fn_ok F sc_law_book fun cdv A outer s H E hr =>
    (ss_cons (ss_own (ps_set (i := 2) (by exact sc_law_book.nd) rfl (.inl rfl) (sf_cal c__law_rules hr (by rfl) (sa_cons (se_var (pv 0)) (sa_cons (se_var (pv 1)) (sa_cons se_int sa_nil)))))) (ss_cons (ss_asgG (ps_asg (se_sl (se_cal c__law_mixed hr (by rfl) (sa_cons (se_var (pv 0)) (sa_cons (se_var (pv 1)) sa_nil))) so_none (so_some se_int)) (sg_lst (pg_unl rfl (sgs_cons (sg_name (pg_name (i := 3) (by exact sc_law_book.nd) rfl (.inl rfl))) (sgs_cons (sg_name (pg_name (i := 4) (by exact sc_law_book.nd) rfl (.inl rfl))) (sgs_cons (sg_name (pg_name (i := 5) (by exact sc_law_book.nd) rfl (.inl rfl))) sgs_nil))))))) (ss_cons (ss_asg (ps_set (i := 6) (by exact sc_law_book.nd) rfl (.inl rfl) (se_frz (sf_lst (sa_cons (se_tup (sa_cons se_str (sa_cons (se_tup (sa_cons (se_var (pv 3)) sa_nil)) (sa_cons (se_tup sa_nil) (sa_cons (se_tup sa_nil) (sa_cons (se_tup sa_nil) sa_nil)))))) (sa_cons (se_tup (sa_cons se_str (sa_cons (se_tup sa_nil) (sa_cons (se_tup (sa_cons (se_var (pv 4)) sa_nil)) (sa_cons (se_tup sa_nil) (sa_cons (se_tup sa_nil) sa_nil)))))) (sa_cons (se_tup (sa_cons se_str (sa_cons (se_callT cs_tuple (by rfl) m_tuple (by decide +kernel) (sa_cons (se_frz (sf_call (cf_sorted hr.units) (by rfl) m_sorted (by decide +kernel) (sa_cons (se_frz (sf_lst (sa_cons (se_var (pv 3)) (sa_cons (se_var (pv 5)) sa_nil)))) sa_nil))) sa_nil)) (sa_cons (se_tup (sa_cons (se_var (pv 4)) sa_nil)) (sa_cons (se_tup sa_nil) (sa_cons (se_tup sa_nil) sa_nil)))))) sa_nil))))))) (ss_cons (ss_asg (ps_set (i := 6) (by exact sc_law_book.nd) rfl (.inl rfl) (se_op os_add (se_var (pv 6)) (se_frz (sf_lst (sa_cons (se_tup (sa_cons se_str (sa_cons (se_callT cs_tuple (by rfl) m_tuple (by decide +kernel) (sa_cons (se_frz (sf_call (cf_sorted hr.units) (by rfl) m_sorted (by decide +kernel) (sa_cons (se_frz (sf_lst (sa_cons (se_var (pv 3)) (sa_cons (se_var (pv 5)) sa_nil)))) sa_nil))) sa_nil)) (sa_cons (se_tup sa_nil) (sa_cons (se_tup sa_nil) (sa_cons (se_tup sa_nil) sa_nil)))))) (sa_cons (se_tup (sa_cons se_str (sa_cons (se_callT cs_tuple (by rfl) m_tuple (by decide +kernel) (sa_cons (se_frz (sf_call (cf_sorted hr.units) (by rfl) m_sorted (by decide +kernel) (sa_cons (se_frz (sf_lst (sa_cons (se_var (pv 3)) (sa_cons (se_var (pv 4)) sa_nil)))) sa_nil))) sa_nil)) (sa_cons (se_tup (sa_cons (se_var (pv 5)) sa_nil)) (sa_cons (se_tup sa_nil) (sa_cons (se_tup (sa_cons (se_var (pv 5)) sa_nil)) sa_nil)))))) sa_nil))))))) (ss_cons (ss_for1 (ps_for PassesOwn.never rfl (si_range1 (pi_range1 (by rfl) m_range (sa_cons se_int sa_nil)) len1) (sg_name (pg_name (i := 7) (by exact sc_law_book.nd) rfl (.inl rfl))) (ss_cons (ss_asg (ps_set (i := 8) (by exact sc_law_book.nd) rfl (.inl rfl) (se_cal c__law_pick hr (by rfl) (sa_cons (se_var (pv 0)) (sa_cons (se_var (pv 6)) sa_nil))))) (ss_one (ss_if (st_b (st_cmp (os_notin (r65 hr)) (se_var (pv 8)) (se_var (pv 2)) (by rfl))) (ss_one (ss_app (ps_expr (pe_bm PySem.F.plainAttrs_list PySem.F.slot_list_append PySem.F.type_list_append mt_append (pv 2) (pa_cons (se_var (pv 8)) pa_nil))))) ss_nil))))) (ss_one (ss_ret (se_var (pv 2)))))))))
/-! ### in_order -/
abbrev st_in_order : Stmt := topS 8
def PS_in_order : List PySem.Str := ["rules"]
theorem sc_in_order : FnScope ["rules", "rule"] PS_in_order (defScope st_in_order) := ⟨rfl, rfl, rfl, by decide +kernel, rfl, by decide +kernel, by decide +kernel⟩
def M_in_order : MS := (sRet (eFrz (aSrtU (compF (okC true) (eVar 1) ⟨aSeq (eVar 0), (bName 1), tAll, [1]⟩ []))))
def F_in_order : MF := fnF 1 2 M_in_order
theorem ok_in_order {P : Program} {w : World} {K : PySem.W.Frag} {mg : PySem.Str → Option Value} {base : Heap} {fa : Addr} {fd : FuncData} (F : Fun K "in_order" "in_order" st_in_order fa fd) (m_sorted : mg "sorted" = none) :
    FnOk P w K mg base CX0 (3 + 1) fa fd PS_in_order (spF K mg 1 F_in_order) :=
  fn_ok F sc_in_order fun cdv A outer s H E hr =>
    (ss_one (ss_ret (se_frz (sf_sortedU rfl hr.units (by rfl) m_sorted (su_sc (b := true) rfl (by exact sc_in_order.nd) hr.units (si_seq (se_var (pv 0))) (blkOk_by (own := [("rule", 1)]) (by first | decide +kernel | rfl)) (fun _ _ _ _ _ => ⟨⟨rfl, (sg_name (pg_name (i := 1) (by exact sc_in_order.nd) rfl (.inl rfl))), pts_all, (in_name (by decide))⟩, .nil, (se_var (pv 1))⟩) (fun _ => rfl) rfl rfl)))))
/-! ### split_step -/
abbrev st_split_step : Stmt := topS 25
def PS_split_step : List PySem.Str := ["rule"]
theorem sc_split_step : FnScope ["rule", "kind", "heads", "pos", "neg", "twice", "letter"] PS_split_step (defScope st_split_step) := ⟨rfl, rfl, rfl, by decide +kernel, rfl, by decide +kernel, by decide +kernel⟩
def M_split_step : MS := (sSeq (sAsgG (bTup 5 (bsCons (bName 1) (bsCons (bName 2) (bsCons (bName 3) (bsCons (bName 4) (bsCons (bName 5) bsNil)))))) (eVar 0)) (sSeq (sIf (tOr (tOf (eBin gNe (eVar 1) (eC (.str "choice")))) (tOf (eBin (gCmp fun i j => decide (i < j)) (eCal gLen (aCons (eVar 2) aNil)) (eC (.int 2))))) (sRet (eC .non)) sNil) (sRet (eTup (aCons (eC (.str "split")) (aCons (eVar 0) (aCons (eCal gTuple (aCons (eFrz (compF okL (eTup (aCons (eC (.str "choice")) (aCons (eTup (aCons (eVar 6) aNil)) (aCons (eVar 3) (aCons (eVar 4) (aCons (eVar 5) aNil)))))) ⟨aSeq (eVar 2), (bName 6), tAll, [6]⟩ [])) aNil)) (aCons (eTup aNil) aNil))))))))
def F_split_step : MF := fnF 1 7 M_split_step
theorem ok_split_step {P : Program} {w : World} {K : PySem.W.Frag} {mg : PySem.Str → Option Value} {base : Heap} {fa : Addr} {fd : FuncData} (F : Fun K "split_step" "split_step" st_split_step fa fd) (m_len : mg "len" = none) (m_tuple : mg "tuple" = none) :
    FnOk P w K mg base CX0 (3 + 1) fa fd PS_split_step (spF K mg 1 F_split_step) :=
  fn_ok F sc_split_step fun cdv A outer s H E hr =>
    (ss_cons (ss_asgG (ps_asg (se_var (pv 0)) (sg_tup rfl (sgs_cons (sg_name (pg_name (i := 1) (by exact sc_split_step.nd) rfl (.inl rfl))) (sgs_cons (sg_name (pg_name (i := 2) (by exact sc_split_step.nd) rfl (.inl rfl))) (sgs_cons (sg_name (pg_name (i := 3) (by exact sc_split_step.nd) rfl (.inr rfl))) (sgs_cons (sg_name (pg_name (i := 4) (by exact sc_split_step.nd) rfl (.inr rfl))) (sgs_cons (sg_name (pg_name (i := 5) (by exact sc_split_step.nd) rfl (.inr rfl))) sgs_nil)))))))) (ss_cons (ss_if (st_w (sw_or (st_cmp (os_ne hr.units) (se_var (pv 1)) se_str (nomark _)) (sw_or1 (st_cmp os_lt (se_call cs_len (by rfl) m_len (by decide +kernel) (sa_cons (se_var (pv 2)) sa_nil)) se_int (nomark _))))) (ss_one (ss_ret se_non)) ss_nil) (ss_one (ss_ret (se_tup (sa_cons se_str (sa_cons (se_var (pv 0)) (sa_cons (se_callT cs_tuple (by rfl) m_tuple (by decide +kernel) (sa_cons (se_frz (sf_lc rfl (by exact sc_split_step.nd) (si_seq (se_var (pv 2))) (blkOk_by (own := [("letter", 6)]) (by first | decide +kernel | rfl)) (fun _ _ _ _ _ => ⟨⟨rfl, (sg_name (pg_name (i := 6) (by exact sc_split_step.nd) rfl (.inl rfl))), pts_all, (in_name (by decide))⟩, .nil, (se_tup (sa_cons se_str (sa_cons (se_tup (sa_cons (se_var (pv 6)) sa_nil)) (sa_cons (se_var (pv 3)) (sa_cons (se_var (pv 4)) (sa_cons (se_var (pv 5)) sa_nil))))))⟩) (fun _ => rfl) rfl rfl)) sa_nil)) (sa_cons (se_tup sa_nil) sa_nil)))))))))
/-! ### idle_step -/
abbrev st_idle_step : Stmt := topS 26
def PS_idle_step : List PySem.Str := ["rule"]
theorem sc_idle_step : FnScope ["rule", "kind", "heads", "pos", "neg", "twice", "letter"] PS_idle_step (defScope st_idle_step) := ⟨rfl, rfl, rfl, by decide +kernel, rfl, by decide +kernel, by decide +kernel⟩
def M_idle_step : MS := (sSeq (sAsgG (bTup 5 (bsCons (bName 1) (bsCons (bName 2) (bsCons (bName 3) (bsCons (bName 4) (bsCons (bName 5) bsNil)))))) (eVar 0)) (sSeq (sIf (tAnd (tOf (eBin gEq (eVar 1) (eC (.str "choice")))) (tAnd (tOf (eBin gEq (eCal gLen (aCons (eVar 2) aNil)) (eC (.int 1)))) (tOr (tOf (eBin (gIn false) (eIdx (eVar 2) (eC (.int 0))) (eVar 3))) (tOf (eBin (gIn false) (eIdx (eVar 2) (eC (.int 0))) (eVar 4)))))) (sRet (eTup (aCons (eC (.str "idle")) (aCons (eVar 0) (aCons (eTup aNil) (aCons (eTup aNil) aNil)))))) sNil) (sSeq (sIf (tAnd (tOf (eBin gEq (eVar 1) (eC (.str "rule")))) (tOf (eCal gAny (aCons (eFrz (compF okL (eBin (gIn false) (eVar 6) (eVar 3)) ⟨aSeq (eVar 2), (bName 6), tAll, [6]⟩ [])) aNil)))) (sRet (eTup (aCons (eC (.str "idle")) (aCons (eVar 0) (aCons (eTup aNil) (aCons (eTup aNil) aNil)))))) sNil) (sRet (eC .non)))))
def F_idle_step : MF := fnF 1 7 M_idle_step
theorem ok_idle_step {P : Program} {w : World} {K : PySem.W.Frag} {mg : PySem.Str → Option Value} {base : Heap} {fa : Addr} {fd : FuncData} (F : Fun K "idle_step" "idle_step" st_idle_step fa fd) (m_any : mg "any" = none) (m_len : mg "len" = none) :
    FnOk P w K mg base CX0 (3 + 1) fa fd PS_idle_step (spF K mg 1 F_idle_step) :=
  fn_ok F sc_idle_step fun cdv A outer s H E hr =>
    (ss_cons (ss_asgG (ps_asg (se_var (pv 0)) (sg_tup rfl (sgs_cons (sg_name (pg_name (i := 1) (by exact sc_idle_step.nd) rfl (.inl rfl))) (sgs_cons (sg_name (pg_name (i := 2) (by exact sc_idle_step.nd) rfl (.inl rfl))) (sgs_cons (sg_name (pg_name (i := 3) (by exact sc_idle_step.nd) rfl (.inr rfl))) (sgs_cons (sg_name (pg_name (i := 4) (by exact sc_idle_step.nd) rfl (.inl rfl))) (sgs_cons (sg_name (pg_name (i := 5) (by exact sc_idle_step.nd) rfl (.inl rfl))) sgs_nil)))))))) (ss_cons (ss_if (st_w (sw_and (st_cmp (os_eq hr.units) (se_var (pv 1)) se_str (nomark _)) (sw_and (st_cmp (os_eq hr.units) (se_call cs_len (by rfl) m_len (by decide +kernel) (sa_cons (se_var (pv 2)) sa_nil)) se_int (nomark _)) (sw_and1 (st_w (sw_or (st_cmp (os_in (r65 hr)) (se_idx (se_var (pv 2)) se_int) (se_var (pv 3)) (by rfl)) (sw_or1 (st_cmp (os_in (r65 hr)) (se_idx (se_var (pv 2)) se_int) (se_var (pv 4)) (by rfl))))))))) (ss_one (ss_ret (se_tup (sa_cons se_str (sa_cons (se_var (pv 0)) (sa_cons (se_tup sa_nil) (sa_cons (se_tup sa_nil) sa_nil))))))) ss_nil) (ss_cons (ss_if (st_w (sw_and (st_cmp (os_eq hr.units) (se_var (pv 1)) se_str (nomark _)) (sw_and1 (st_val (se_call (cs_any rfl) (by rfl) m_any (by decide +kernel) (sa_cons (se_frz (sf_lc rfl (by exact sc_idle_step.nd) (si_seq (se_var (pv 2))) (blkOk_by (own := [("letter", 6)]) (by first | decide +kernel | rfl)) (fun _ _ _ _ _ => ⟨⟨rfl, (sg_name (pg_name (i := 6) (by exact sc_idle_step.nd) rfl (.inl rfl))), pts_all, (in_name (by decide))⟩, .nil, (se_cmp (os_in (r65 hr)) (se_var (pv 6)) (se_var (pv 3)) (by rfl))⟩) (fun _ => rfl) rfl rfl)) sa_nil)))))) (ss_one (ss_ret (se_tup (sa_cons se_str (sa_cons (se_var (pv 0)) (sa_cons (se_tup sa_nil) (sa_cons (se_tup sa_nil) sa_nil))))))) ss_nil) (ss_one (ss_ret se_non)))))
/-! ### never_step -/
abbrev st_never_step : Stmt := topS 27
def PS_never_step : List PySem.Str := ["rule"]
theorem sc_never_step : FnScope ["rule", "kind", "heads", "pos", "neg", "twice", "letter"] PS_never_step (defScope st_never_step) := ⟨rfl, rfl, rfl, by decide +kernel, rfl, by decide +kernel, by decide +kernel⟩
def M_never_step : MS := (sSeq (sAsgG (bTup 5 (bsCons (bName 1) (bsCons (bName 2) (bsCons (bName 3) (bsCons (bName 4) (bsCons (bName 5) bsNil)))))) (eVar 0)) (sSeq (sIf (tOf (eCal gAny (aCons (eFrz (compF okL (eBin (gIn false) (eVar 6) (eVar 4)) ⟨aSeq (eBin gAdd (eVar 3) (eVar 5)), (bName 6), tAll, [6]⟩ [])) aNil))) (sRet (eTup (aCons (eC (.str "never")) (aCons (eVar 0) (aCons (eTup aNil) (aCons (eTup aNil) aNil)))))) sNil) (sRet (eC .non))))
def F_never_step : MF := fnF 1 7 M_never_step
theorem ok_never_step {P : Program} {w : World} {K : PySem.W.Frag} {mg : PySem.Str → Option Value} {base : Heap} {fa : Addr} {fd : FuncData} (F : Fun K "never_step" "never_step" st_never_step fa fd) (m_any : mg "any" = none) :
    FnOk P w K mg base CX0 (3 + 1) fa fd PS_never_step (spF K mg 1 F_never_step) :=
  fn_ok F sc_never_step fun cdv A outer s H E hr =>
    (ss_cons (ss_asgG (ps_asg (se_var (pv 0)) (sg_tup rfl (sgs_cons (sg_name (pg_name (i := 1) (by exact sc_never_step.nd) rfl (.inl rfl))) (sgs_cons (sg_name (pg_name (i := 2) (by exact sc_never_step.nd) rfl (.inl rfl))) (sgs_cons (sg_name (pg_name (i := 3) (by exact sc_never_step.nd) rfl (.inl rfl))) (sgs_cons (sg_name (pg_name (i := 4) (by exact sc_never_step.nd) rfl (.inr rfl))) (sgs_cons (sg_name (pg_name (i := 5) (by exact sc_never_step.nd) rfl (.inl rfl))) sgs_nil)))))))) (ss_cons (ss_if (st_val (se_call (cs_any rfl) (by rfl) m_any (by decide +kernel) (sa_cons (se_frz (sf_lc rfl (by exact sc_never_step.nd) (si_seq (se_op os_add (se_var (pv 3)) (se_var (pv 5)))) (blkOk_by (own := [("letter", 6)]) (by first | decide +kernel | rfl)) (fun _ _ _ _ _ => ⟨⟨rfl, (sg_name (pg_name (i := 6) (by exact sc_never_step.nd) rfl (.inl rfl))), pts_all, (in_name (by decide))⟩, .nil, (se_cmp (os_in (r65 hr)) (se_var (pv 6)) (se_var (pv 4)) (by rfl))⟩) (fun _ => rfl) rfl rfl)) sa_nil))) (ss_one (ss_ret (se_tup (sa_cons se_str (sa_cons (se_var (pv 0)) (sa_cons (se_tup sa_nil) (sa_cons (se_tup sa_nil) sa_nil))))))) ss_nil) (ss_one (ss_ret se_non))))
/-! ### less_of -/
abbrev st_less_of : Stmt := topS 24
def PS_less_of : List PySem.Str := ["letters", "some"]
theorem sc_less_of : FnScope ["letters", "some", "letter"] PS_less_of (defScope st_less_of) := ⟨rfl, rfl, rfl, by decide +kernel, rfl, by decide +kernel, by decide +kernel⟩
def M_less_of : MS := (sRet (eCal gTuple (aCons (eFrz (compF okL (eVar 2) ⟨aSeq (eVar 0), (bName 2), (tOf (eBin (gIn true) (eVar 2) (eVar 1))), [2]⟩ [])) aNil)))
def F_less_of : MF := fnF 2 3 M_less_of
theorem ok_less_of {P : Program} {w : World} {K : PySem.W.Frag} {mg : PySem.Str → Option Value} {base : Heap} {fa : Addr} {fd : FuncData} (F : Fun K "less_of" "less_of" st_less_of fa fd) (m_tuple : mg "tuple" = none) :
    FnOk P w K mg base CX0 (3 + 1) fa fd PS_less_of (spF K mg 2 F_less_of) :=
  fn_ok F sc_less_of fun cdv A outer s H E hr =>
    (ss_one (ss_ret (se_callT cs_tuple (by rfl) m_tuple (by decide +kernel) (sa_cons (se_frz (sf_lc rfl (by exact sc_less_of.nd) (si_seq (se_var (pv 0))) (blkOk_by (own := [("letter", 2)]) (by first | decide +kernel | rfl)) (fun _ _ _ _ _ => ⟨⟨rfl, (sg_name (pg_name (i := 2) (by exact sc_less_of.nd) rfl (.inl rfl))), (pts_one (st_cmp (os_notin (r65 hr)) (se_var (pv 2)) (se_var (pv 1)) (by rfl))), (in_name (by decide))⟩, .nil, (se_var (pv 2))⟩) (fun _ => rfl) rfl rfl)) sa_nil))))
/-! ### double_step -/
abbrev st_double_step : Stmt := topS 28
def PS_double_step : List PySem.Str := ["rule"]
theorem sc_double_step : FnScope ["rule", "kind", "heads", "pos", "neg", "twice", "letter"] PS_double_step (defScope st_double_step) := ⟨rfl, rfl, rfl, by decide +kernel, rfl, by decide +kernel, by decide +kernel⟩
def M_double_step : MS := (sSeq (sAsgG (bTup 5 (bsCons (bName 1) (bsCons (bName 2) (bsCons (bName 3) (bsCons (bName 4) (bsCons (bName 5) bsNil)))))) (eVar 0)) (sSeq (sIf (tNot (tOf (eCal gAny (aCons (eFrz (compF okL (eBin (gIn false) (eVar 6) (eVar 3)) ⟨aSeq (eVar 5), (bName 6), tAll, [6]⟩ [])) aNil)))) (sRet (eC .non)) sNil) (sRet (eTup (aCons (eC (.str "double")) (aCons (eVar 0) (aCons (eTup (aCons (eTup (aCons (eVar 1) (aCons (eVar 2) (aCons (eVar 3) (aCons (eVar 4) (aCons (eFn F_less_of (aCons (eVar 5) (aCons (eVar 3) aNil))) aNil)))))) aNil)) (aCons (eTup aNil) aNil))))))))
def F_double_step : MF := fnF 1 7 M_double_step
theorem ok_double_step {P : Program} {w : World} {K : PySem.W.Frag} {mg : PySem.Str → Option Value} {base : Heap} {fa : Addr} {fd : FuncData} (F : Fun K "double_step" "double_step" st_double_step fa fd) (m_any : mg "any" = none) (c_less_of : Cal P w K mg base 4 "less_of" PS_less_of F_less_of) :
    FnOk P w K mg base CX0 (4 + 1) fa fd PS_double_step (spF K mg 1 F_double_step) :=
  fn_ok F sc_double_step fun cdv A outer s H E hr =>
    (ss_cons (ss_asgG (ps_asg (se_var (pv 0)) (sg_tup rfl (sgs_cons (sg_name (pg_name (i := 1) (by exact sc_double_step.nd) rfl (.inl rfl))) (sgs_cons (sg_name (pg_name (i := 2) (by exact sc_double_step.nd) rfl (.inl rfl))) (sgs_cons (sg_name (pg_name (i := 3) (by exact sc_double_step.nd) rfl (.inr rfl))) (sgs_cons (sg_name (pg_name (i := 4) (by exact sc_double_step.nd) rfl (.inl rfl))) (sgs_cons (sg_name (pg_name (i := 5) (by exact sc_double_step.nd) rfl (.inl rfl))) sgs_nil)))))))) (ss_cons (ss_if (st_not (st_val (se_call (cs_any rfl) (by rfl) m_any (by decide +kernel) (sa_cons (se_frz (sf_lc rfl (by exact sc_double_step.nd) (si_seq (se_var (pv 5))) (blkOk_by (own := [("letter", 6)]) (by first | decide +kernel | rfl)) (fun _ _ _ _ _ => ⟨⟨rfl, (sg_name (pg_name (i := 6) (by exact sc_double_step.nd) rfl (.inl rfl))), pts_all, (in_name (by decide))⟩, .nil, (se_cmp (os_in (r65 hr)) (se_var (pv 6)) (se_var (pv 3)) (by rfl))⟩) (fun _ => rfl) rfl rfl)) sa_nil)))) (ss_one (ss_ret se_non)) ss_nil) (ss_one (ss_ret (se_tup (sa_cons se_str (sa_cons (se_var (pv 0)) (sa_cons (se_tup (sa_cons (se_tup (sa_cons (se_var (pv 1)) (sa_cons (se_var (pv 2)) (sa_cons (se_var (pv 3)) (sa_cons (se_var (pv 4)) (sa_cons (se_cal c_less_of hr (by rfl) (sa_cons (se_var (pv 5)) (sa_cons (se_var (pv 3)) sa_nil))) sa_nil)))))) sa_nil)) (sa_cons (se_tup sa_nil) sa_nil)))))))))
/-! ### shadow_step -/
abbrev st_shadow_step : Stmt := topS 29
def PS_shadow_step : List PySem.Str := ["rule"]
theorem sc_shadow_step : FnScope ["rule", "kind", "heads", "pos", "neg", "twice", "letter"] PS_shadow_step (defScope st_shadow_step) := ⟨rfl, rfl, rfl, by decide +kernel, rfl, by decide +kernel, by decide +kernel⟩
def M_shadow_step : MS := (sSeq (sAsgG (bTup 5 (bsCons (bName 1) (bsCons (bName 2) (bsCons (bName 3) (bsCons (bName 4) (bsCons (bName 5) bsNil)))))) (eVar 0)) (sSeq (sIf (tOr (tOf (eBin gNe (eVar 1) (eC (.str "rule")))) (tNot (tOf (eCal gAny (aCons (eFrz (compF okL (eBin (gIn false) (eVar 6) (eVar 4)) ⟨aSeq (eVar 2), (bName 6), tAll, [6]⟩ [])) aNil))))) (sRet (eC .non)) sNil) (sRet (eTup (aCons (eC (.str "shadow")) (aCons (eVar 0) (aCons (eTup (aCons (eTup (aCons (eVar 1) (aCons (eFn F_less_of (aCons (eVar 2) (aCons (eVar 4) aNil))) (aCons (eVar 3) (aCons (eVar 4) (aCons (eVar 5) aNil)))))) aNil)) (aCons (eTup aNil) aNil))))))))
def F_shadow_step : MF := fnF 1 7 M_shadow_step
theorem ok_shadow_step {P : Program} {w : World} {K : PySem.W.Frag} {mg : PySem.Str → Option Value} {base : Heap} {fa : Addr} {fd : FuncData} (F : Fun K "shadow_step" "shadow_step" st_shadow_step fa fd) (m_any : mg "any" = none) (c_less_of : Cal P w K mg base 4 "less_of" PS_less_of F_less_of) :
    FnOk P w K mg base CX0 (4 + 1) fa fd PS_shadow_step (spF K mg 1 F_shadow_step) :=
  fn_ok F sc_shadow_step fun cdv A outer s H E hr =>
    (ss_cons (ss_asgG (ps_asg (se_var (pv 0)) (sg_tup rfl (sgs_cons (sg_name (pg_name (i := 1) (by exact sc_shadow_step.nd) rfl (.inl rfl))) (sgs_cons (sg_name (pg_name (i := 2) (by exact sc_shadow_step.nd) rfl (.inl rfl))) (sgs_cons (sg_name (pg_name (i := 3) (by exact sc_shadow_step.nd) rfl (.inl rfl))) (sgs_cons (sg_name (pg_name (i := 4) (by exact sc_shadow_step.nd) rfl (.inr rfl))) (sgs_cons (sg_name (pg_name (i := 5) (by exact sc_shadow_step.nd) rfl (.inl rfl))) sgs_nil)))))))) (ss_cons (ss_if (st_w (sw_or (st_cmp (os_ne hr.units) (se_var (pv 1)) se_str (nomark _)) (sw_or1 (st_not (st_val (se_call (cs_any rfl) (by rfl) m_any (by decide +kernel) (sa_cons (se_frz (sf_lc rfl (by exact sc_shadow_step.nd) (si_seq (se_var (pv 2))) (blkOk_by (own := [("letter", 6)]) (by first | decide +kernel | rfl)) (fun _ _ _ _ _ => ⟨⟨rfl, (sg_name (pg_name (i := 6) (by exact sc_shadow_step.nd) rfl (.inl rfl))), pts_all, (in_name (by decide))⟩, .nil, (se_cmp (os_in (r65 hr)) (se_var (pv 6)) (se_var (pv 4)) (by rfl))⟩) (fun _ => rfl) rfl rfl)) sa_nil))))))) (ss_one (ss_ret se_non)) ss_nil) (ss_one (ss_ret (se_tup (sa_cons se_str (sa_cons (se_var (pv 0)) (sa_cons (se_tup (sa_cons (se_tup (sa_cons (se_var (pv 1)) (sa_cons (se_cal c_less_of hr (by rfl) (sa_cons (se_var (pv 2)) (sa_cons (se_var (pv 4)) sa_nil))) (sa_cons (se_var (pv 3)) (sa_cons (se_var (pv 4)) (sa_cons (se_var (pv 5)) sa_nil)))))) sa_nil)) (sa_cons (se_tup sa_nil) sa_nil)))))))))
/-! ### fact -/
abbrev st_fact : Stmt := topS 6
def PS_fact : List PySem.Str := ["letter"]
theorem sc_fact : FnScope ["letter"] PS_fact (defScope st_fact) := ⟨rfl, rfl, rfl, by decide +kernel, rfl, by decide +kernel, by decide +kernel⟩
def M_fact : MS := (sRet (eTup (aCons (eC (.str "rule")) (aCons (eTup (aCons (eVar 0) aNil)) (aCons (eTup aNil) (aCons (eTup aNil) (aCons (eTup aNil) aNil)))))))
def F_fact : MF := fnF 1 1 M_fact
theorem ok_fact {P : Program} {w : World} {K : PySem.W.Frag} {mg : PySem.Str → Option Value} {base : Heap} {fa : Addr} {fd : FuncData} (F : Fun K "fact" "fact" st_fact fa fd) :
    FnOk P w K mg base CX0 (3 + 1) fa fd PS_fact (spF K mg 1 F_fact) :=
  fn_ok F sc_fact fun cdv A outer s H E hr =>
    (ss_one (ss_ret (se_tup (sa_cons se_str (sa_cons (se_tup (sa_cons (se_var (pv 0)) sa_nil)) (sa_cons (se_tup sa_nil) (sa_cons (se_tup sa_nil) (sa_cons (se_tup sa_nil) sa_nil))))))))
/-! ### facts_in -/
abbrev st_facts_in : Stmt := topS 30
def PS_facts_in : List PySem.Str := ["rules"]
theorem sc_facts_in : FnScope ["rules", "found", "rule"] PS_facts_in (defScope st_facts_in) := ⟨rfl, rfl, rfl, by decide +kernel, rfl, by decide +kernel, by decide +kernel⟩
def M_facts_in : MS := (sSeq (sAsg 1 (eFrz (compF okL (eVar 2) ⟨aSeq (eFn F_in_order (aCons (eVar 0) aNil)), (bName 2), (tAnd (tOf (eBin gEq (eIdx (eVar 2) (eC (.int 0))) (eC (.str "rule")))) (tOf (eBin gEq (eCal gLen (aCons (eIdx (eVar 2) (eC (.int 1))) aNil)) (eC (.int 1))))), [2]⟩ []))) (sRet (eFrz (compF okL (eIdx (eIdx (eVar 2) (eC (.int 1))) (eC (.int 0))) ⟨aSeq (eVar 1), (bName 2), (tOf (eBin gEq (eVar 2) (eFn F_fact (aCons (eIdx (eIdx (eVar 2) (eC (.int 1))) (eC (.int 0))) aNil)))), [2]⟩ []))))
def F_facts_in : MF := fnF 1 3 M_facts_in
theorem ok_facts_in {P : Program} {w : World} {K : PySem.W.Frag} {mg : PySem.Str → Option Value} {base : Heap} {fa : Addr} {fd : FuncData} (F : Fun K "facts_in" "facts_in" st_facts_in fa fd) (m_len : mg "len" = none) (c_in_order : Cal P w K mg base 4 "in_order" PS_in_order F_in_order) (c_fact : Cal P w K mg base 4 "fact" PS_fact F_fact) :
    FnOk P w K mg base CX0 (4 + 1) fa fd PS_facts_in (spF K mg 1 F_facts_in) :=
  fn_ok F sc_facts_in fun cdv A outer s H E hr =>
    (ss_cons (ss_asgF (y := "found") (py := ⟨0, 0, 0, 0⟩) (sf_setLc (i := 1) rfl (by exact sc_facts_in.nd) rfl rfl (sw_true rfl rfl (by decide +kernel) (by decide +kernel)) (si_seq (se_cal c_in_order hr (by rfl) (sa_cons (se_var (pv 0)) sa_nil))) (blkOk_by (own := [("rule", 2)]) (by first | decide +kernel | rfl)) (fun _ _ _ _ _ => ⟨⟨rfl, (sg_name (pg_name (i := 2) (by exact sc_facts_in.nd) rfl (.inl rfl))), (pts_one (st_w (sw_and (st_cmp (os_eq hr.units) (se_idx (se_var (pv 2)) se_int) se_str (nomark _)) (sw_and1 (st_cmp (os_eq hr.units) (se_call cs_len (by rfl) m_len (by decide +kernel) (sa_cons (se_idx (se_var (pv 2)) se_int) sa_nil)) se_int (nomark _)))))), (in_name (by decide))⟩, .nil, (se_var (pv 2))⟩) (fun _ => rfl) rfl rfl)) (ss_one (ss_ret (se_frz (sf_lc rfl (by exact sc_facts_in.nd) (si_seq (se_var (pv 1))) (blkOk_by (own := [("rule", 2)]) (by first | decide +kernel | rfl)) (fun _ _ _ _ _ => ⟨⟨rfl, (sg_name (pg_name (i := 2) (by exact sc_facts_in.nd) rfl (.inl rfl))), (pts_one (st_cmp (os_eq hr.units) (se_var (pv 2)) (se_cal c_fact hr (by rfl) (sa_cons (se_idx (se_idx (se_var (pv 2)) se_int) se_int) sa_nil)) (nomark _))), (in_name (by decide))⟩, .nil, (se_idx (se_idx (se_var (pv 2)) se_int) se_int)⟩) (fun _ => rfl) rfl rfl)))))
/-! ### given_step -/
abbrev st_given_step : Stmt := topS 32
def PS_given_step : List PySem.Str := ["rule", "rules"]
theorem sc_given_step : FnScope ["rule", "rules", "kind", "heads", "pos", "neg", "twice", "told", "used", "letter", "by", "over", "fresh"] PS_given_step (defScope st_given_step) := ⟨rfl, rfl, rfl, by decide +kernel, rfl, by decide +kernel, by decide +kernel⟩
def M_given_step : MS := (sSeq (sAsgG (bTup 5 (bsCons (bName 2) (bsCons (bName 3) (bsCons (bName 4) (bsCons (bName 5) (bsCons (bName 6) bsNil)))))) (eVar 0)) (sSeq (sAsg 7 (eFn F_facts_in (aCons (eVar 1) aNil))) (sSeq (sAsg 8 (eFrz (compF okL (eVar 9) ⟨aSeq (eVar 7), (bName 9), (tOr (tOf (eBin (gIn false) (eVar 9) (eBin gAdd (eBin gAdd (eVar 4) (eVar 5)) (eVar 6)))) (tOf (eBin (gIn false) (eVar 9) (eVar 3)))), [9]⟩ []))) (sSeq (sIf (tOr (tOf (eBin gEq (eCal gLen (aCons (eVar 8) aNil)) (eC (.int 0)))) (tOf (eBin gEq (eVar 0) (eFn F_fact (aCons (eIdx (eVar 8) (eC (.int 0))) aNil))))) (sRet (eC .non)) sNil) (sSeq (sAsg 10 (eCal gTuple (aCons (eFrz (compF okL (eFn F_fact (aCons (eVar 9) aNil)) ⟨aSeq (eVar 8), (bName 9), tAll, [9]⟩ [])) aNil))) (sSeq (sAsg 11 (eAnd (eCal gAny (aCons (eFrz (compF okL (eBin (gIn false) (eVar 9) (eVar 3)) ⟨aSeq (eVar 8), (bName 9), tAll, [9]⟩ [])) aNil)) (eOr (eBin gEq (eVar 2) (eC (.str "rule"))) (eBin gEq (eCal gLen (aCons (eVar 3) aNil)) (eC (.int 1)))))) (sSeq (sIf (tOr (tOf (eVar 11)) (tOf (eCal gAny (aCons (eFrz (compF okL (eBin (gIn false) (eVar 9) (eVar 5)) ⟨aSeq (eVar 8), (bName 9), tAll, [9]⟩ [])) aNil)))) (sRet (eTup (aCons (eC (.str "given")) (aCons (eVar 0) (aCons (eTup aNil) (aCons (eVar 10) aNil)))))) sNil) (sSeq (sAsg 12 (eTup (aCons (eVar 2) (aCons (eVar 3) (aCons (eFn F_less_of (aCons (eVar 4) (aCons (eVar 8) aNil))) (aCons (eVar 5) (aCons (eFn F_less_of (aCons (eVar 6) (aCons (eVar 8) aNil))) aNil))))))) (sRet (eIf (tOf (eBin gNe (eVar 12) (eVar 0))) (eTup (aCons (eC (.str "given")) (aCons (eVar 0) (aCons (eTup (aCons (eVar 12) aNil)) (aCons (eVar 10) aNil))))) (eC .non)))))))))))
def F_given_step : MF := fnF 2 13 M_given_step
theorem ok_given_step {P : Program} {w : World} {K : PySem.W.Frag} {mg : PySem.Str → Option Value} {base : Heap} {fa : Addr} {fd : FuncData} (F : Fun K "given_step" "given_step" st_given_step fa fd) (m_any : mg "any" = none) (m_len : mg "len" = none) (m_tuple : mg "tuple" = none) (c_facts_in : Cal P w K mg base 5 "facts_in" PS_facts_in F_facts_in) (c_fact : Cal P w K mg base 5 "fact" PS_fact F_fact) (c_less_of : Cal P w K mg base 5 "less_of" PS_less_of F_less_of) :
    FnOk P w K mg base CX0 (5 + 1) fa fd PS_given_step (spF K mg 2 F_given_step) :=
  fn_ok F sc_given_step fun cdv A outer s H E hr =>
    (ss_cons (ss_asgG (ps_asg (se_var (pv 0)) (sg_tup rfl (sgs_cons (sg_name (pg_name (i := 2) (by exact sc_given_step.nd) rfl (.inl rfl))) (sgs_cons (sg_name (pg_name (i := 3) (by exact sc_given_step.nd) rfl (.inr rfl))) (sgs_cons (sg_name (pg_name (i := 4) (by exact sc_given_step.nd) rfl (.inr rfl))) (sgs_cons (sg_name (pg_name (i := 5) (by exact sc_given_step.nd) rfl (.inr rfl))) (sgs_cons (sg_name (pg_name (i := 6) (by exact sc_given_step.nd) rfl (.inr rfl))) sgs_nil)))))))) (ss_cons (ss_asg (ps_set (i := 7) (by exact sc_given_step.nd) rfl (.inl rfl) (se_cal c_facts_in hr (by rfl) (sa_cons (se_var (pv 1)) sa_nil)))) (ss_cons (ss_asgF (y := "used") (py := ⟨0, 0, 0, 0⟩) (sf_setLc (i := 8) rfl (by exact sc_given_step.nd) rfl rfl (sw_true rfl rfl (by decide +kernel) (by decide +kernel)) (si_seq (se_var (pv 7))) (blkOk_by (own := [("letter", 9)]) (by first | decide +kernel | rfl)) (fun _ _ _ _ _ => ⟨⟨rfl, (sg_name (pg_name (i := 9) (by exact sc_given_step.nd) rfl (.inl rfl))), (pts_one (st_w (sw_or (st_cmp (os_in (r65 hr)) (se_var (pv 9)) (se_op os_add (se_op os_add (se_var (pv 4)) (se_var (pv 5))) (se_var (pv 6))) (by rfl)) (sw_or1 (st_cmp (os_in (r65 hr)) (se_var (pv 9)) (se_var (pv 3)) (by rfl)))))), (in_name (by decide))⟩, .nil, (se_var (pv 9))⟩) (fun _ => rfl) rfl rfl)) (ss_cons (ss_if (st_w (sw_or (st_cmp (os_eq hr.units) (se_call cs_len (by rfl) m_len (by decide +kernel) (sa_cons (se_var (pv 8)) sa_nil)) se_int (nomark _)) (sw_or1 (st_cmp (os_eq hr.units) (se_var (pv 0)) (se_cal c_fact hr (by rfl) (sa_cons (se_idx (se_var (pv 8)) se_int) sa_nil)) (nomark _))))) (ss_one (ss_ret se_non)) ss_nil) (ss_cons (ss_asg (ps_set (i := 10) (by exact sc_given_step.nd) rfl (.inl rfl) (se_callT cs_tuple (by rfl) m_tuple (by decide +kernel) (sa_cons (se_frz (sf_lc rfl (by exact sc_given_step.nd) (si_seq (se_var (pv 8))) (blkOk_by (own := [("letter", 9)]) (by first | decide +kernel | rfl)) (fun _ _ _ _ _ => ⟨⟨rfl, (sg_name (pg_name (i := 9) (by exact sc_given_step.nd) rfl (.inl rfl))), pts_all, (in_name (by decide))⟩, .nil, (se_cal c_fact hr (by rfl) (sa_cons (se_var (pv 9)) sa_nil))⟩) (fun _ => rfl) rfl rfl)) sa_nil)))) (ss_cons (ss_asg (ps_set (i := 11) (by exact sc_given_step.nd) rfl (.inl rfl) (se_and (se_call (cs_any rfl) (by rfl) m_any (by decide +kernel) (sa_cons (se_frz (sf_lc rfl (by exact sc_given_step.nd) (si_seq (se_var (pv 8))) (blkOk_by (own := [("letter", 9)]) (by first | decide +kernel | rfl)) (fun _ _ _ _ _ => ⟨⟨rfl, (sg_name (pg_name (i := 9) (by exact sc_given_step.nd) rfl (.inl rfl))), pts_all, (in_name (by decide))⟩, .nil, (se_cmp (os_in (r65 hr)) (se_var (pv 9)) (se_var (pv 3)) (by rfl))⟩) (fun _ => rfl) rfl rfl)) sa_nil)) (se_one (se_or (se_cmp (os_eq hr.units) (se_var (pv 2)) se_str (nomark _)) (se_one (se_cmp (os_eq hr.units) (se_call cs_len (by rfl) m_len (by decide +kernel) (sa_cons (se_var (pv 3)) sa_nil)) se_int (nomark _)))))))) (ss_cons (ss_if (st_w (sw_or (st_val (se_var (pv 11))) (sw_or1 (st_val (se_call (cs_any rfl) (by rfl) m_any (by decide +kernel) (sa_cons (se_frz (sf_lc rfl (by exact sc_given_step.nd) (si_seq (se_var (pv 8))) (blkOk_by (own := [("letter", 9)]) (by first | decide +kernel | rfl)) (fun _ _ _ _ _ => ⟨⟨rfl, (sg_name (pg_name (i := 9) (by exact sc_given_step.nd) rfl (.inl rfl))), pts_all, (in_name (by decide))⟩, .nil, (se_cmp (os_in (r65 hr)) (se_var (pv 9)) (se_var (pv 5)) (by rfl))⟩) (fun _ => rfl) rfl rfl)) sa_nil)))))) (ss_one (ss_ret (se_tup (sa_cons se_str (sa_cons (se_var (pv 0)) (sa_cons (se_tup sa_nil) (sa_cons (se_var (pv 10)) sa_nil))))))) ss_nil) (ss_cons (ss_asg (ps_set (i := 12) (by exact sc_given_step.nd) rfl (.inl rfl) (se_tup (sa_cons (se_var (pv 2)) (sa_cons (se_var (pv 3)) (sa_cons (se_cal c_less_of hr (by rfl) (sa_cons (se_var (pv 4)) (sa_cons (se_var (pv 8)) sa_nil))) (sa_cons (se_var (pv 5)) (sa_cons (se_cal c_less_of hr (by rfl) (sa_cons (se_var (pv 6)) (sa_cons (se_var (pv 8)) sa_nil))) sa_nil)))))))) (ss_one (ss_ret (se_if (st_cmp (os_ne hr.units) (se_var (pv 12)) (se_var (pv 0)) (nomark _)) (se_tup (sa_cons se_str (sa_cons (se_var (pv 0)) (sa_cons (se_tup (sa_cons (se_var (pv 12)) sa_nil)) (sa_cons (se_var (pv 10)) sa_nil))))) se_non)))))))))))
/-! ### denials_in -/
abbrev st_denials_in : Stmt := topS 31
def PS_denials_in : List PySem.Str := ["rules"]
theorem sc_denials_in : FnScope ["rules", "found", "kind", "heads", "pos", "neg", "twice", "letter"] PS_denials_in (defScope st_denials_in) := ⟨rfl, rfl, rfl, by decide +kernel, rfl, by decide +kernel, by decide +kernel⟩
def M_denials_in : MS := (sSeq (sOwn 1 (aLst aNil)) (sSeq (sFor (aSeq (eFn F_in_order (aCons (eVar 0) aNil))) (bTup 5 (bsCons (bName 2) (bsCons (bName 3) (bsCons (bName 4) (bsCons (bName 5) (bsCons (bName 6) bsNil)))))) (sIf (tAnd (tOf (eBin gEq (eCal gLen (aCons (eVar 3) aNil)) (eC (.int 0)))) (tAnd (tOf (eBin gEq (eCal gLen (aCons (eVar 5) aNil)) (eC (.int 0)))) (tOf (eBin gEq (eCal gLen (aCons (eBin gAdd (eVar 4) (eVar 6)) aNil)) (eC (.int 1)))))) (sApp 1 (eIdx (eBin gAdd (eVar 4) (eVar 6)) (eC (.int 0)))) sNil)) (sRet (eFrz (aSrtU (compF (okC false) (eVar 7) ⟨aSeq (eVar 1), (bName 7), tAll, [7]⟩ []))))))
def F_denials_in : MF := fnF 1 8 M_denials_in
theorem ok_denials_in {P : Program} {w : World} {K : PySem.W.Frag} {mg : PySem.Str → Option Value} {base : Heap} {fa : Addr} {fd : FuncData} (F : Fun K "denials_in" "denials_in" st_denials_in fa fd) (m_len : mg "len" = none) (m_sorted : mg "sorted" = none) (c_in_order : Cal P w K mg base 4 "in_order" PS_in_order F_in_order) :
    FnOk P w K mg base CX0 (4 + 1) fa fd PS_denials_in (spF K mg 1 F_denials_in) :=
  fn_ok F sc_denials_in fun cdv A outer s H E hr =>
    (ss_cons (ss_own (ps_set (i := 1) (by exact sc_denials_in.nd) rfl (.inl rfl) (sf_lst sa_nil))) (ss_cons (ss_for1 (ps_for PassesOwn.never rfl (si_seq (se_cal c_in_order hr (by rfl) (sa_cons (se_var (pv 0)) sa_nil))) (sg_tup rfl (sgs_cons (sg_name (pg_name (i := 2) (by exact sc_denials_in.nd) rfl (.inl rfl))) (sgs_cons (sg_name (pg_name (i := 3) (by exact sc_denials_in.nd) rfl (.inl rfl))) (sgs_cons (sg_name (pg_name (i := 4) (by exact sc_denials_in.nd) rfl (.inl rfl))) (sgs_cons (sg_name (pg_name (i := 5) (by exact sc_denials_in.nd) rfl (.inl rfl))) (sgs_cons (sg_name (pg_name (i := 6) (by exact sc_denials_in.nd) rfl (.inl rfl))) sgs_nil)))))) (ss_one (ss_if (st_w (sw_and (st_cmp (os_eq hr.units) (se_call cs_len (by rfl) m_len (by decide +kernel) (sa_cons (se_var (pv 3)) sa_nil)) se_int (nomark _)) (sw_and (st_cmp (os_eq hr.units) (se_call cs_len (by rfl) m_len (by decide +kernel) (sa_cons (se_var (pv 5)) sa_nil)) se_int (nomark _)) (sw_and1 (st_cmp (os_eq hr.units) (se_call cs_len (by rfl) m_len (by decide +kernel) (sa_cons (se_op os_add (se_var (pv 4)) (se_var (pv 6))) sa_nil)) se_int (nomark _)))))) (ss_one (ss_app (ps_expr (pe_bm PySem.F.plainAttrs_list PySem.F.slot_list_append PySem.F.type_list_append mt_append (pv 1) (pa_cons (se_idx (se_op os_add (se_var (pv 4)) (se_var (pv 6))) se_int) pa_nil))))) ss_nil)))) (ss_one (ss_ret (se_frz (sf_sortedU rfl hr.units (by rfl) m_sorted (su_sc (b := false) rfl (by exact sc_denials_in.nd) hr.units (si_seq (se_var (pv 1))) (blkOk_by (own := [("letter", 7)]) (by first | decide +kernel | rfl)) (fun _ _ _ _ _ => ⟨⟨rfl, (sg_name (pg_name (i := 7) (by exact sc_denials_in.nd) rfl (.inl rfl))), pts_all, (in_name (by decide))⟩, .nil, (se_var (pv 7))⟩) (fun _ => rfl) rfl rfl)))))))
/-! ### is_denial -/
abbrev st_is_denial : Stmt := topS 34
def PS_is_denial : List PySem.Str := ["rule", "letters"]
theorem sc_is_denial : FnScope ["rule", "letters", "kind", "heads", "pos", "neg", "twice"] PS_is_denial (defScope st_is_denial) := ⟨rfl, rfl, rfl, by decide +kernel, rfl, by decide +kernel, by decide +kernel⟩
def M_is_denial : MS := (sSeq (sAsgG (bTup 5 (bsCons (bName 2) (bsCons (bName 3) (bsCons (bName 4) (bsCons (bName 5) (bsCons (bName 6) bsNil)))))) (eVar 0)) (sRet (eAnd (eBin gEq (eCal gLen (aCons (eVar 3) aNil)) (eC (.int 0))) (eAnd (eBin gEq (eCal gLen (aCons (eVar 5) aNil)) (eC (.int 0))) (eAnd (eBin gEq (eCal gLen (aCons (eBin gAdd (eVar 4) (eVar 6)) aNil)) (eC (.int 1))) (eBin (gIn false) (eIdx (eBin gAdd (eVar 4) (eVar 6)) (eC (.int 0))) (eVar 1)))))))
def F_is_denial : MF := fnF 2 7 M_is_denial
theorem ok_is_denial {P : Program} {w : World} {K : PySem.W.Frag} {mg : PySem.Str → Option Value} {base : Heap} {fa : Addr} {fd : FuncData} (F : Fun K "is_denial" "is_denial" st_is_denial fa fd) (m_len : mg "len" = none) :
    FnOk P w K mg base CX0 (3 + 1) fa fd PS_is_denial (spF K mg 2 F_is_denial) :=
  fn_ok F sc_is_denial fun cdv A outer s H E hr =>
    (ss_cons (ss_asgG (ps_asg (se_var (pv 0)) (sg_tup rfl (sgs_cons (sg_name (pg_name (i := 2) (by exact sc_is_denial.nd) rfl (.inl rfl))) (sgs_cons (sg_name (pg_name (i := 3) (by exact sc_is_denial.nd) rfl (.inl rfl))) (sgs_cons (sg_name (pg_name (i := 4) (by exact sc_is_denial.nd) rfl (.inl rfl))) (sgs_cons (sg_name (pg_name (i := 5) (by exact sc_is_denial.nd) rfl (.inl rfl))) (sgs_cons (sg_name (pg_name (i := 6) (by exact sc_is_denial.nd) rfl (.inl rfl))) sgs_nil)))))))) (ss_one (ss_ret (se_and (se_cmp (os_eq hr.units) (se_call cs_len (by rfl) m_len (by decide +kernel) (sa_cons (se_var (pv 3)) sa_nil)) se_int (nomark _)) (se_and (se_cmp (os_eq hr.units) (se_call cs_len (by rfl) m_len (by decide +kernel) (sa_cons (se_var (pv 5)) sa_nil)) se_int (nomark _)) (se_and (se_cmp (os_eq hr.units) (se_call cs_len (by rfl) m_len (by decide +kernel) (sa_cons (se_op os_add (se_var (pv 4)) (se_var (pv 6))) sa_nil)) se_int (nomark _)) (se_one (se_cmp (os_in (r65 hr)) (se_idx (se_op os_add (se_var (pv 4)) (se_var (pv 6))) se_int) (se_var (pv 1)) (by rfl)))))))))
/-! ### barred_step -/
abbrev st_barred_step : Stmt := topS 33
def PS_barred_step : List PySem.Str := ["rule", "rules"]
theorem sc_barred_step : FnScope ["rule", "rules", "kind", "heads", "pos", "neg", "twice", "told", "used", "letter", "by", "far", "fresh"] PS_barred_step (defScope st_barred_step) := ⟨rfl, rfl, rfl, by decide +kernel, rfl, by decide +kernel, by decide +kernel⟩
def M_barred_step : MS := (sSeq (sAsgG (bTup 5 (bsCons (bName 2) (bsCons (bName 3) (bsCons (bName 4) (bsCons (bName 5) (bsCons (bName 6) bsNil)))))) (eVar 0)) (sSeq (sAsg 7 (eFn F_denials_in (aCons (eVar 1) aNil))) (sSeq (sAsg 8 (eFrz (compF okL (eVar 9) ⟨aSeq (eVar 7), (bName 9), (tOf (eBin (gIn false) (eVar 9) (eBin gAdd (eBin gAdd (eBin gAdd (eVar 3) (eVar 4)) (eVar 5)) (eVar 6)))), [9]⟩ []))) (sSeq (sAsg 10 (eCal gTuple (aCons (eFrz (compF okL (eVar 11) ⟨aSeq (eFn F_in_order (aCons (eVar 1) aNil)), (bName 11), (tOf (eFn F_is_denial (aCons (eVar 11) (aCons (eVar 8) aNil)))), [11]⟩ [])) aNil))) (sSeq (sIf (tOr (tOf (eBin gEq (eCal gLen (aCons (eVar 8) aNil)) (eC (.int 0)))) (tOf (eBin (gIn false) (eVar 0) (eVar 10)))) (sRet (eC .non)) sNil) (sSeq (sIf (tOf (eCal gAny (aCons (eFrz (compF okL (eBin (gIn false) (eVar 9) (eBin gAdd (eVar 4) (eVar 6))) ⟨aSeq (eVar 8), (bName 9), tAll, [9]⟩ [])) aNil))) (sRet (eTup (aCons (eC (.str "barred")) (aCons (eVar 0) (aCons (eTup aNil) (aCons (eVar 10) aNil)))))) sNil) (sSeq (sAsg 12 (eTup (aCons (eVar 2) (aCons (eFn F_less_of (aCons (eVar 3) (aCons (eVar 8) aNil))) (aCons (eVar 4) (aCons (eFn F_less_of (aCons (eVar 5) (aCons (eVar 8) aNil))) (aCons (eVar 6) aNil))))))) (sRet (eTup (aCons (eC (.str "barred")) (aCons (eVar 0) (aCons (eIf (tOr (tOf (eBin gEq (eVar 2) (eC (.str "rule")))) (tOf (eBin (gCmp fun i j => decide (j < i)) (eCal gLen (aCons (eIdx (eVar 12) (eC (.int 1))) aNil)) (eC (.int 0))))) (eTup (aCons (eVar 12) aNil)) (eTup aNil)) (aCons (eVar 10) aNil)))))))))))))
def F_barred_step : MF := fnF 2 13 M_barred_step
theorem ok_barred_step {P : Program} {w : World} {K : PySem.W.Frag} {mg : PySem.Str → Option Value} {base : Heap} {fa : Addr} {fd : FuncData} (F : Fun K "barred_step" "barred_step" st_barred_step fa fd) (m_any : mg "any" = none) (m_len : mg "len" = none) (m_tuple : mg "tuple" = none) (c_denials_in : Cal P w K mg base 5 "denials_in" PS_denials_in F_denials_in) (c_is_denial : Cal P w K mg base 5 "is_denial" PS_is_denial F_is_denial) (c_in_order : Cal P w K mg base 5 "in_order" PS_in_order F_in_order) (c_less_of : Cal P w K mg base 5 "less_of" PS_less_of F_less_of) :
    FnOk P w K mg base CX0 (5 + 1) fa fd PS_barred_step (spF K mg 2 F_barred_step) :=
  fn_ok F sc_barred_step fun cdv A outer s H E hr =>
    (ss_cons (ss_asgG (ps_asg (se_var (pv 0)) (sg_tup rfl (sgs_cons (sg_name (pg_name (i := 2) (by exact sc_barred_step.nd) rfl (.inl rfl))) (sgs_cons (sg_name (pg_name (i := 3) (by exact sc_barred_step.nd) rfl (.inr rfl))) (sgs_cons (sg_name (pg_name (i := 4) (by exact sc_barred_step.nd) rfl (.inr rfl))) (sgs_cons (sg_name (pg_name (i := 5) (by exact sc_barred_step.nd) rfl (.inr rfl))) (sgs_cons (sg_name (pg_name (i := 6) (by exact sc_barred_step.nd) rfl (.inr rfl))) sgs_nil)))))))) (ss_cons (ss_asg (ps_set (i := 7) (by exact sc_barred_step.nd) rfl (.inl rfl) (se_cal c_denials_in hr (by rfl) (sa_cons (se_var (pv 1)) sa_nil)))) (ss_cons (ss_asg (ps_set (i := 8) (by exact sc_barred_step.nd) rfl (.inr rfl) (se_frz (sf_lc rfl (by exact sc_barred_step.nd) (si_seq (se_var (pv 7))) (blkOk_by (own := [("letter", 9)]) (by first | decide +kernel | rfl)) (fun _ _ _ _ _ => ⟨⟨rfl, (sg_name (pg_name (i := 9) (by exact sc_barred_step.nd) rfl (.inl rfl))), (pts_one (st_cmp (os_in (r65 hr)) (se_var (pv 9)) (se_op os_add (se_op os_add (se_op os_add (se_var (pv 3)) (se_var (pv 4))) (se_var (pv 5))) (se_var (pv 6))) (by rfl))), (in_name (by decide))⟩, .nil, (se_var (pv 9))⟩) (fun _ => rfl) rfl rfl)))) (ss_cons (ss_asg (ps_set (i := 10) (by exact sc_barred_step.nd) rfl (.inl rfl) (se_callT cs_tuple (by rfl) m_tuple (by decide +kernel) (sa_cons (se_frz (sf_lc rfl (by exact sc_barred_step.nd) (si_seq (se_cal c_in_order hr (by rfl) (sa_cons (se_var (pv 1)) sa_nil))) (blkOk_by (own := [("far", 11)]) (by first | decide +kernel | rfl)) (fun _ _ _ _ _ => ⟨⟨rfl, (sg_name (pg_name (i := 11) (by exact sc_barred_step.nd) rfl (.inl rfl))), (pts_one (st_val (se_cal c_is_denial hr (by rfl) (sa_cons (se_var (pv 11)) (sa_cons (se_var (pv 8)) sa_nil))))), (in_name (by decide))⟩, .nil, (se_var (pv 11))⟩) (fun _ => rfl) rfl rfl)) sa_nil)))) (ss_cons (ss_if (st_w (sw_or (st_cmp (os_eq hr.units) (se_call cs_len (by rfl) m_len (by decide +kernel) (sa_cons (se_var (pv 8)) sa_nil)) se_int (nomark _)) (sw_or1 (st_cmp (os_in (r65 hr)) (se_var (pv 0)) (se_var (pv 10)) (by rfl))))) (ss_one (ss_ret se_non)) ss_nil) (ss_cons (ss_if (st_val (se_call (cs_any rfl) (by rfl) m_any (by decide +kernel) (sa_cons (se_frz (sf_lc rfl (by exact sc_barred_step.nd) (si_seq (se_var (pv 8))) (blkOk_by (own := [("letter", 9)]) (by first | decide +kernel | rfl)) (fun _ _ _ _ _ => ⟨⟨rfl, (sg_name (pg_name (i := 9) (by exact sc_barred_step.nd) rfl (.inl rfl))), pts_all, (in_name (by decide))⟩, .nil, (se_cmp (os_in (r65 hr)) (se_var (pv 9)) (se_op os_add (se_var (pv 4)) (se_var (pv 6))) (by rfl))⟩) (fun _ => rfl) rfl rfl)) sa_nil))) (ss_one (ss_ret (se_tup (sa_cons se_str (sa_cons (se_var (pv 0)) (sa_cons (se_tup sa_nil) (sa_cons (se_var (pv 10)) sa_nil))))))) ss_nil) (ss_cons (ss_asg (ps_set (i := 12) (by exact sc_barred_step.nd) rfl (.inl rfl) (se_tup (sa_cons (se_var (pv 2)) (sa_cons (se_cal c_less_of hr (by rfl) (sa_cons (se_var (pv 3)) (sa_cons (se_var (pv 8)) sa_nil))) (sa_cons (se_var (pv 4)) (sa_cons (se_cal c_less_of hr (by rfl) (sa_cons (se_var (pv 5)) (sa_cons (se_var (pv 8)) sa_nil))) (sa_cons (se_var (pv 6)) sa_nil)))))))) (ss_one (ss_ret (se_tup (sa_cons se_str (sa_cons (se_var (pv 0)) (sa_cons (se_if (st_w (sw_or (st_cmp (os_eq hr.units) (se_var (pv 2)) se_str (nomark _)) (sw_or1 (st_cmp os_gt (se_call cs_len (by rfl) m_len (by decide +kernel) (sa_cons (se_idx (se_var (pv 12)) se_int) sa_nil)) se_int (nomark _))))) (se_tup (sa_cons (se_var (pv 12)) sa_nil)) (se_tup sa_nil)) (sa_cons (se_var (pv 10)) sa_nil))))))))))))))
/-! ### within -/
abbrev st_within : Stmt := topS 11
def PS_within : List PySem.Str := ["one", "other"]
theorem sc_within : FnScope ["one", "other", "letter"] PS_within (defScope st_within) := ⟨rfl, rfl, rfl, by decide +kernel, rfl, by decide +kernel, by decide +kernel⟩
def M_within : MS := (sRet (eCal gAll (aCons (eFrz (compF okL (eBin (gIn false) (eVar 2) (eVar 1)) ⟨aSeq (eVar 0), (bName 2), tAll, [2]⟩ [])) aNil)))
def F_within : MF := fnF 2 3 M_within
theorem ok_within {P : Program} {w : World} {K : PySem.W.Frag} {mg : PySem.Str → Option Value} {base : Heap} {fa : Addr} {fd : FuncData} (F : Fun K "within" "within" st_within fa fd) (m_all : mg "all" = none) :
    FnOk P w K mg base CX0 (3 + 1) fa fd PS_within (spF K mg 2 F_within) :=
  fn_ok F sc_within fun cdv A outer s H E hr =>
    (ss_one (ss_ret (se_call (cs_all rfl) (by rfl) m_all (by decide +kernel) (sa_cons (se_frz (sf_lc rfl (by exact sc_within.nd) (si_seq (se_var (pv 0))) (blkOk_by (own := [("letter", 2)]) (by first | decide +kernel | rfl)) (fun _ _ _ _ _ => ⟨⟨rfl, (sg_name (pg_name (i := 2) (by exact sc_within.nd) rfl (.inl rfl))), pts_all, (in_name (by decide))⟩, .nil, (se_cmp (os_in (r65 hr)) (se_var (pv 2)) (se_var (pv 1)) (by rfl))⟩) (fun _ => rfl) rfl rfl)) sa_nil))))
/-! ### says_more -/
abbrev st_says_more : Stmt := topS 36
def PS_says_more : List PySem.Str := ["one", "other"]
theorem sc_says_more : FnScope ["one", "other", "heads"] PS_says_more (defScope st_says_more) := ⟨rfl, rfl, rfl, by decide +kernel, rfl, by decide +kernel, by decide +kernel⟩
def M_says_more : MS := (sSeq (sIf (tOr (tOf (eBin gNe (eIdx (eVar 0) (eC (.int 0))) (eC (.str "rule")))) (tAnd (tOf (eBin gEq (eIdx (eVar 1) (eC (.int 0))) (eC (.str "choice")))) (tOf (eBin (gCmp fun i j => decide (j < i)) (eCal gLen (aCons (eIdx (eVar 1) (eC (.int 1))) aNil)) (eC (.int 1)))))) (sRet (eC (.bl false))) sNil) (sSeq (sAsg 2 (eFn F_within (aCons (eIdx (eVar 0) (eC (.int 1))) (aCons (eBin gAdd (eIdx (eVar 1) (eC (.int 1))) (eIdx (eVar 1) (eC (.int 3)))) aNil)))) (sRet (eAnd (eVar 2) (eAnd (eFn F_within (aCons (eIdx (eVar 0) (eC (.int 2))) (aCons (eIdx (eVar 1) (eC (.int 2))) aNil))) (eAnd (eFn F_within (aCons (eIdx (eVar 0) (eC (.int 3))) (aCons (eIdx (eVar 1) (eC (.int 3))) aNil))) (eFn F_within (aCons (eIdx (eVar 0) (eC (.int 4))) (aCons (eBin gAdd (eIdx (eVar 1) (eC (.int 2))) (eIdx (eVar 1) (eC (.int 4)))) aNil)))))))))
def F_says_more : MF := fnF 2 3 M_says_more
theorem ok_says_more {P : Program} {w : World} {K : PySem.W.Frag} {mg : PySem.Str → Option Value} {base : Heap} {fa : Addr} {fd : FuncData} (F : Fun K "says_more" "says_more" st_says_more fa fd) (m_len : mg "len" = none) (c_within : Cal P w K mg base 4 "within" PS_within F_within) :
    FnOk P w K mg base CX0 (4 + 1) fa fd PS_says_more (spF K mg 2 F_says_more) :=
  fn_ok F sc_says_more fun cdv A outer s H E hr =>
    (ss_cons (ss_if (st_w (sw_or (st_cmp (os_ne hr.units) (se_idx (se_var (pv 0)) se_int) se_str (nomark _)) (sw_or1 (st_w (sw_and (st_cmp (os_eq hr.units) (se_idx (se_var (pv 1)) se_int) se_str (nomark _)) (sw_and1 (st_cmp os_gt (se_call cs_len (by rfl) m_len (by decide +kernel) (sa_cons (se_idx (se_var (pv 1)) se_int) sa_nil)) se_int (nomark _)))))))) (ss_one (ss_ret se_bl)) ss_nil) (ss_cons (ss_asg (ps_set (i := 2) (by exact sc_says_more.nd) rfl (.inl rfl) (se_cal c_within hr (by rfl) (sa_cons (se_idx (se_var (pv 0)) se_int) (sa_cons (se_op os_add (se_idx (se_var (pv 1)) se_int) (se_idx (se_var (pv 1)) se_int)) sa_nil))))) (ss_one (ss_ret (se_and (se_var (pv 2)) (se_and (se_cal c_within hr (by rfl) (sa_cons (se_idx (se_var (pv 0)) se_int) (sa_cons (se_idx (se_var (pv 1)) se_int) sa_nil))) (se_and (se_cal c_within hr (by rfl) (sa_cons (se_idx (se_var (pv 0)) se_int) (sa_cons (se_idx (se_var (pv 1)) se_int) sa_nil))) (se_one (se_cal c_within hr (by rfl) (sa_cons (se_idx (se_var (pv 0)) se_int) (sa_cons (se_op os_add (se_idx (se_var (pv 1)) se_int) (se_idx (se_var (pv 1)) se_int)) sa_nil)))))))))))
/-! ### less_step -/
abbrev st_less_step : Stmt := topS 35
def PS_less_step : List PySem.Str := ["rule", "rules"]
theorem sc_less_step : FnScope ["rule", "rules", "far"] PS_less_step (defScope st_less_step) := ⟨rfl, rfl, rfl, by decide +kernel, rfl, by decide +kernel, by decide +kernel⟩
def M_less_step : MS := (sSeq (sFor (aSeq (eFn F_in_order (aCons (eVar 1) aNil))) (bName 2) (sIf (tAnd (tOf (eBin gNe (eVar 2) (eVar 0))) (tOf (eFn F_says_more (aCons (eVar 2) (aCons (eVar 0) aNil))))) (sRet (eTup (aCons (eC (.str "less")) (aCons (eVar 0) (aCons (eTup aNil) (aCons (eTup (aCons (eVar 2) aNil)) aNil)))))) sNil)) (sRet (eC .non)))
def F_less_step : MF := fnF 2 3 M_less_step
theorem ok_less_step {P : Program} {w : World} {K : PySem.W.Frag} {mg : PySem.Str → Option Value} {base : Heap} {fa : Addr} {fd : FuncData} (F : Fun K "less_step" "less_step" st_less_step fa fd) (c_says_more : Cal P w K mg base 5 "says_more" PS_says_more F_says_more) (c_in_order : Cal P w K mg base 5 "in_order" PS_in_order F_in_order) :
    FnOk P w K mg base CX0 (5 + 1) fa fd PS_less_step (spF K mg 2 F_less_step) :=
  fn_ok F sc_less_step fun cdv A outer s H E hr =>
    (ss_cons (ss_for1 (ps_for PassesOwn.never rfl (si_seq (se_cal c_in_order hr (by rfl) (sa_cons (se_var (pv 1)) sa_nil))) (sg_name (pg_name (i := 2) (by exact sc_less_step.nd) rfl (.inl rfl))) (ss_one (ss_if (st_w (sw_and (st_cmp (os_ne hr.units) (se_var (pv 2)) (se_var (pv 0)) (nomark _)) (sw_and1 (st_val (se_cal c_says_more hr (by rfl) (sa_cons (se_var (pv 2)) (sa_cons (se_var (pv 0)) sa_nil))))))) (ss_one (ss_ret (se_tup (sa_cons se_str (sa_cons (se_var (pv 0)) (sa_cons (se_tup sa_nil) (sa_cons (se_tup (sa_cons (se_var (pv 2)) sa_nil)) sa_nil))))))) ss_nil)))) (ss_one (ss_ret se_non)))
/-! ### next_step -/
abbrev st_next_step : Stmt := topS 37
def PS_next_step : List PySem.Str := ["rules"]
theorem sc_next_step : FnScope ["rules", "rows", "maker", "rule", "step"] PS_next_step (defScope st_next_step) := ⟨rfl, rfl, rfl, by decide +kernel, rfl, by decide +kernel, by decide +kernel⟩
def M_next_step : MS := (sSeq (sAsg 1 (eFn F_in_order (aCons (eVar 0) aNil))) (sSeq (sFor (aSeq (eTup (aCons (eC (.fn "split_step")) (aCons (eC (.fn "idle_step")) (aCons (eC (.fn "never_step")) (aCons (eC (.fn "double_step")) (aCons (eC (.fn "shadow_step")) aNil))))))) (bName 2) (sFor (aSeq (eVar 1)) (bName 3) (sSeq (sAsg 4 (eHeld [("split_step", F_split_step), ("idle_step", F_idle_step), ("never_step", F_never_step), ("double_step", F_double_step), ("shadow_step", F_shadow_step)] 2 (aCons (eVar 3) aNil))) (sIf (tOf (eBin (gIs true) (eVar 4) (eC .non))) (sRet (eVar 4)) sNil)))) (sSeq (sFor (aSeq (eTup (aCons (eC (.fn "given_step")) (aCons (eC (.fn "barred_step")) (aCons (eC (.fn "less_step")) aNil))))) (bName 2) (sFor (aSeq (eVar 1)) (bName 3) (sSeq (sAsg 4 (eHeld [("given_step", F_given_step), ("barred_step", F_barred_step), ("less_step", F_less_step)] 2 (aCons (eVar 3) (aCons (eVar 1) aNil)))) (sIf (tOf (eBin (gIs true) (eVar 4) (eC .non))) (sRet (eVar 4)) sNil)))) (sRet (eC .non)))))
def F_next_step : MF := fnF 1 5 M_next_step
theorem ok_next_step {P : Program} {w : World} {K : PySem.W.Frag} {mg : PySem.Str → Option Value} {base : Heap} {fa : Addr} {fd : FuncData} (F : Fun K "next_step" "next_step" st_next_step fa fd) (c_in_order : Cal P w K mg base 6 "in_order" PS_in_order F_in_order) (c_split_step : Cal P w K mg base 6 "split_step" PS_split_step F_split_step) (c_idle_step : Cal P w K mg base 6 "idle_step" PS_idle_step F_idle_step) (c_never_step : Cal P w K mg base 6 "never_step" PS_never_step F_never_step) (c_double_step : Cal P w K mg base 6 "double_step" PS_double_step F_double_step) (c_shadow_step : Cal P w K mg base 6 "shadow_step" PS_shadow_step F_shadow_step) (c_given_step : Cal P w K mg base 6 "given_step" PS_given_step F_given_step) (c_barred_step : Cal P w K mg base 6 "barred_step" PS_barred_step F_barred_step) (c_less_step : Cal P w K mg base 6 "less_step" PS_less_step F_less_step) :
    FnOk P w K mg base CX0 (6 + 1) fa fd PS_next_step (spF K mg 1 F_next_step) :=
  fn_ok F sc_next_step fun cdv A outer s H E hr =>
    (ss_cons (ss_asg (ps_set (i := 1) (by exact sc_next_step.nd) rfl (.inl rfl) (se_cal c_in_order hr (by rfl) (sa_cons (se_var (pv 0)) sa_nil)))) (ss_cons (ss_for1 (ps_for PassesOwn.never rfl (si_seq (se_tup (sa_cons (se_fnv c_split_step (by rfl)) (sa_cons (se_fnv c_idle_step (by rfl)) (sa_cons (se_fnv c_never_step (by rfl)) (sa_cons (se_fnv c_double_step (by rfl)) (sa_cons (se_fnv c_shadow_step (by rfl)) sa_nil))))))) (sg_name (pg_name (i := 2) (by exact sc_next_step.nd) rfl (.inl rfl))) (ss_one (ss_for1 (ps_for PassesOwn.never rfl (si_seq (se_var (pv 1))) (sg_name (pg_name (i := 3) (by exact sc_next_step.nd) rfl (.inl rfl))) (ss_cons (ss_asg (ps_set (i := 4) (by exact sc_next_step.nd) rfl (.inl rfl) (se_held (ps := PS_split_step) ((mem_cons c_split_step (mem_cons c_idle_step (mem_cons c_never_step (mem_cons c_double_step (mem_cons c_shadow_step mem_nil)))))) hr (i := 2) rfl (by first | exact Or.inl rfl | exact Or.inr (Or.inl rfl)) (sa_cons (se_var (pv 3)) sa_nil)))) (ss_one (ss_if (st_cmp os_isnot (se_var (pv 4)) se_non (nomark _)) (ss_one (ss_ret (se_var (pv 4)))) ss_nil)))))))) (ss_cons (ss_for1 (ps_for PassesOwn.never rfl (si_seq (se_tup (sa_cons (se_fnv c_given_step (by rfl)) (sa_cons (se_fnv c_barred_step (by rfl)) (sa_cons (se_fnv c_less_step (by rfl)) sa_nil))))) (sg_name (pg_name (i := 2) (by exact sc_next_step.nd) rfl (.inl rfl))) (ss_one (ss_for1 (ps_for PassesOwn.never rfl (si_seq (se_var (pv 1))) (sg_name (pg_name (i := 3) (by exact sc_next_step.nd) rfl (.inl rfl))) (ss_cons (ss_asg (ps_set (i := 4) (by exact sc_next_step.nd) rfl (.inl rfl) (se_held (ps := PS_given_step) ((mem_cons c_given_step (mem_cons c_barred_step (mem_cons c_less_step mem_nil)))) hr (i := 2) rfl (by first | exact Or.inl rfl | exact Or.inr (Or.inl rfl)) (sa_cons (se_var (pv 3)) (sa_cons (se_var (pv 1)) sa_nil))))) (ss_one (ss_if (st_cmp os_isnot (se_var (pv 4)) se_non (nomark _)) (ss_one (ss_ret (se_var (pv 4)))) ss_nil)))))))) (ss_one (ss_ret se_non)))))
/-! ### _law_makers -/
abbrev st_law_makers : Stmt := topS 59
def PS_law_makers : List PySem.Str := ["rules", "rule"]
theorem sc_law_makers : FnScope ["rules", "rule", "told"] PS_law_makers (defScope st_law_makers) := ⟨rfl, rfl, rfl, by decide +kernel, rfl, by decide +kernel, by decide +kernel⟩
def M_law_makers : MS := (sSeq (sAsg 2 (eFrz (aLst (aCons (eFn F_split_step (aCons (eVar 1) aNil)) (aCons (eFn F_idle_step (aCons (eVar 1) aNil)) (aCons (eFn F_never_step (aCons (eVar 1) aNil)) (aCons (eFn F_double_step (aCons (eVar 1) aNil)) (aCons (eFn F_shadow_step (aCons (eVar 1) aNil)) aNil)))))))) (sRet (eBin gAdd (eVar 2) (eFrz (aLst (aCons (eFn F_given_step (aCons (eVar 1) (aCons (eVar 0) aNil))) (aCons (eFn F_barred_step (aCons (eVar 1) (aCons (eVar 0) aNil))) (aCons (eFn F_less_step (aCons (eVar 1) (aCons (eVar 0) aNil))) aNil))))))))
def F_law_makers : MF := fnF 2 3 M_law_makers
theorem ok_law_makers {P : Program} {w : World} {K : PySem.W.Frag} {mg : PySem.Str → Option Value} {base : Heap} {fa : Addr} {fd : FuncData} (F : Fun K "_law_makers" "_law_makers" st_law_makers fa fd) (c_shadow_step : Cal P w K mg base 6 "shadow_step" PS_shadow_step F_shadow_step) (c_double_step : Cal P w K mg base 6 "double_step" PS_double_step F_double_step) (c_never_step : Cal P w K mg base 6 "never_step" PS_never_step F_never_step) (c_idle_step : Cal P w K mg base 6 "idle_step" PS_idle_step F_idle_step) (c_split_step : Cal P w K mg base 6 "split_step" PS_split_step F_split_step) (c_less_step : Cal P w K mg base 6 "less_step" PS_less_step F_less_step) (c_barred_step : Cal P w K mg base 6 "barred_step" PS_barred_step F_barred_step) (c_given_step : Cal P w K mg base 6 "given_step" PS_given_step F_given_step) :
    FnOk P w K mg base CX0 (6 + 1) fa fd PS_law_makers (spF K mg 2 F_law_makers) :=
  fn_ok F sc_law_makers fun cdv A outer s H E hr =>
    (ss_cons (ss_asg (ps_set (i := 2) (by exact sc_law_makers.nd) rfl (.inl rfl) (se_frz (sf_lst (sa_cons (se_cal c_split_step hr (by rfl) (sa_cons (se_var (pv 1)) sa_nil)) (sa_cons (se_cal c_idle_step hr (by rfl) (sa_cons (se_var (pv 1)) sa_nil)) (sa_cons (se_cal c_never_step hr (by rfl) (sa_cons (se_var (pv 1)) sa_nil)) (sa_cons (se_cal c_double_step hr (by rfl) (sa_cons (se_var (pv 1)) sa_nil)) (sa_cons (se_cal c_shadow_step hr (by rfl) (sa_cons (se_var (pv 1)) sa_nil)) sa_nil))))))))) (ss_one (ss_ret (se_op os_add (se_var (pv 2)) (se_frz (sf_lst (sa_cons (se_cal c_given_step hr (by rfl) (sa_cons (se_var (pv 1)) (sa_cons (se_var (pv 0)) sa_nil))) (sa_cons (se_cal c_barred_step hr (by rfl) (sa_cons (se_var (pv 1)) (sa_cons (se_var (pv 0)) sa_nil))) (sa_cons (se_cal c_less_step hr (by rfl) (sa_cons (se_var (pv 1)) (sa_cons (se_var (pv 0)) sa_nil))) sa_nil)))))))))
/-! ### _law_same -/
abbrev st_law_same : Stmt := topS 53
def PS_law_same : List PySem.Str := ["said", "due"]
theorem sc_law_same : FnScope ["said", "due", "k"] PS_law_same (defScope st_law_same) := ⟨rfl, rfl, rfl, by decide +kernel, rfl, by decide +kernel, by decide +kernel⟩
def M_law_same (F_law_same : MF) : MS := (sSeq (sIf (tOf (eBin (gIs false) (eVar 1) (eC .non))) (sRet (eBin (gIs false) (eVar 0) (eC .non))) sNil) (sSeq (sIf (tOf (eBin (gIs false) (eVar 1) (eC (.bl true)))) (sRet (eBin (gIs false) (eVar 0) (eC (.bl true)))) sNil) (sSeq (sIf (tOf (eBin (gIs false) (eVar 1) (eC (.bl false)))) (sRet (eBin (gIs false) (eVar 0) (eC (.bl false)))) sNil) (sSeq (sIf (tOf (eIsi "str" (eVar 1))) (sRet (eAnd (eIsi "str" (eVar 0)) (eBin gEq (eCal gRepr (aCons (eVar 0) aNil)) (eCal gRepr (aCons (eVar 1) aNil))))) sNil) (sSeq (sIf (tOf (eIsi "int" (eVar 1))) (sRet (eAnd (eIsi "int" (eVar 0)) (eAnd (eNot (eIsi "bool" (eVar 0))) (eBin gEq (eCal gRepr (aCons (eVar 0) aNil)) (eCal gRepr (aCons (eVar 1) aNil)))))) sNil) (sSeq (sIf (tOf (eIsi "dict" (eVar 1))) sNo sNil) (sSeq (sIf (tOr (tAnd (tOf (eIsi "tuple" (eVar 1))) (tNot (tOf (eIsi "tuple" (eVar 0))))) (tAnd (tOf (eIsi "list" (eVar 1))) (tNot (tOf (eIsi "list" (eVar 0)))))) (sRet (eC (.bl false))) sNil) (sSeq (sIf (tOf (eBin gNe (eCal gLen (aCons (eVar 0) aNil)) (eCal gLen (aCons (eVar 1) aNil)))) (sRet (eC (.bl false))) sNil) (sSeq (sFor (aRange (aCons (eCal gLen (aCons (eVar 1) aNil)) aNil)) (bName 2) (sIf (tNot (tOf (eFn F_law_same (aCons (eIdx (eVar 0) (eVar 2)) (aCons (eIdx (eVar 1) (eVar 2)) aNil))))) (sRet (eC (.bl false))) sNil)) (sRet (eC (.bl true))))))))))))
def R_law_same : Nat → MF
  | 0 => fun _ _ => none
  | n + 1 => fnF 2 3 (M_law_same (R_law_same n))
def F_law_same : MF := R_law_same 6
theorem ok_law_same {P : Program} {w : World} {K : PySem.W.Frag} {mg : PySem.Str → Option Value} {base : Heap} {fa : Addr} {fd : FuncData} {k : Nat} {F_law_same : MF} (F : Fun K "_law_same" "_law_same" st_law_same fa fd) (m_bool : mg "bool" = none) (m_dict : mg "dict" = none) (m_int : mg "int" = none) (m_isinstance : mg "isinstance" = none) (m_len : mg "len" = none) (m_list : mg "list" = none) (m_range : mg "range" = none) (m_repr : mg "repr" = none) (m_str : mg "str" = none) (m_tuple : mg "tuple" = none) (c__law_same : Cal P w K mg base k "_law_same" PS_law_same F_law_same) :
    FnOk P w K mg base CX0 (k + 1) fa fd PS_law_same (spF K mg 2 (fnF 2 3 (M_law_same F_law_same))) :=
  fn_ok F sc_law_same fun cdv A outer s H E hr =>
    (ss_cons (ss_if (st_cmp os_is (se_var (pv 1)) se_non (nomark _)) (ss_one (ss_ret (se_cmp os_is (se_var (pv 0)) se_non (nomark _)))) ss_nil) (ss_cons (ss_if (st_cmp os_is (se_var (pv 1)) se_bl (nomark _)) (ss_one (ss_ret (se_cmp os_is (se_var (pv 0)) se_bl (nomark _)))) ss_nil) (ss_cons (ss_if (st_cmp os_is (se_var (pv 1)) se_bl (nomark _)) (ss_one (ss_ret (se_cmp os_is (se_var (pv 0)) se_bl (nomark _)))) ss_nil) (ss_cons (ss_if (st_val (se_isi (by rfl) m_isinstance (by rfl) m_str boot_str (se_var (pv 1)))) (ss_one (ss_ret (se_and (se_isi (by rfl) m_isinstance (by rfl) m_str boot_str (se_var (pv 0))) (se_one (se_cmp (os_eq hr.units) (se_call cs_repr (by rfl) m_repr (by decide +kernel) (sa_cons (se_var (pv 0)) sa_nil)) (se_call cs_repr (by rfl) m_repr (by decide +kernel) (sa_cons (se_var (pv 1)) sa_nil)) (nomark _)))))) ss_nil) (ss_cons (ss_if (st_val (se_isi (by rfl) m_isinstance (by rfl) m_int boot_int (se_var (pv 1)))) (ss_one (ss_ret (se_and (se_isi (by rfl) m_isinstance (by rfl) m_int boot_int (se_var (pv 0))) (se_and (se_not (se_isi (by rfl) m_isinstance (by rfl) m_bool boot_bool (se_var (pv 0)))) (se_one (se_cmp (os_eq hr.units) (se_call cs_repr (by rfl) m_repr (by decide +kernel) (sa_cons (se_var (pv 0)) sa_nil)) (se_call cs_repr (by rfl) m_repr (by decide +kernel) (sa_cons (se_var (pv 1)) sa_nil)) (nomark _))))))) ss_nil) (ss_cons (ss_if (st_val (se_isi (by rfl) m_isinstance (by rfl) m_dict boot_dict (se_var (pv 1)))) (ss_one ss_never) ss_nil) (ss_cons (ss_if (st_w (sw_or (st_w (sw_and (st_val (se_isi (by rfl) m_isinstance (by rfl) m_tuple boot_tuple (se_var (pv 1)))) (sw_and1 (st_not (st_val (se_isi (by rfl) m_isinstance (by rfl) m_tuple boot_tuple (se_var (pv 0)))))))) (sw_or1 (st_w (sw_and (st_val (se_isi (by rfl) m_isinstance (by rfl) m_list boot_list (se_var (pv 1)))) (sw_and1 (st_not (st_val (se_isi (by rfl) m_isinstance (by rfl) m_list boot_list (se_var (pv 0))))))))))) (ss_one (ss_ret se_bl)) ss_nil) (ss_cons (ss_if (st_cmp (os_ne hr.units) (se_call cs_len (by rfl) m_len (by decide +kernel) (sa_cons (se_var (pv 0)) sa_nil)) (se_call cs_len (by rfl) m_len (by decide +kernel) (sa_cons (se_var (pv 1)) sa_nil)) (nomark _)) (ss_one (ss_ret se_bl)) ss_nil) (ss_cons (ss_for1 (ps_for PassesOwn.never rfl (si_range1 (pi_range1 (by rfl) m_range (sa_cons (se_call cs_len (by rfl) m_len (by decide +kernel) (sa_cons (se_var (pv 1)) sa_nil)) sa_nil)) len1) (sg_name (pg_name (i := 2) (by exact sc_law_same.nd) rfl (.inl rfl))) (ss_one (ss_if (st_not (st_val (se_cal c__law_same hr (by rfl) (sa_cons (se_idx (se_var (pv 0)) (se_var (pv 2))) (sa_cons (se_idx (se_var (pv 1)) (se_var (pv 2))) sa_nil))))) (ss_one (ss_ret se_bl)) ss_nil)))) (ss_one (ss_ret se_bl)))))))))))
/-! ### lot -/
abbrev st_lot : Stmt := topS 4
def PS_lot : List PySem.Str := ["letters"]
theorem sc_lot : FnScope ["letters", "letter"] PS_lot (defScope st_lot) := ⟨rfl, rfl, rfl, by decide +kernel, rfl, by decide +kernel, by decide +kernel⟩
def M_lot : MS := (sRet (eCal gTuple (aCons (eFrz (aSrtU (compF (okC false) (eVar 1) ⟨aSeq (eVar 0), (bName 1), tAll, [1]⟩ []))) aNil)))
def F_lot : MF := fnF 1 2 M_lot
theorem ok_lot {P : Program} {w : World} {K : PySem.W.Frag} {mg : PySem.Str → Option Value} {base : Heap} {fa : Addr} {fd : FuncData} (F : Fun K "lot" "lot" st_lot fa fd) (m_sorted : mg "sorted" = none) (m_tuple : mg "tuple" = none) :
    FnOk P w K mg base CX0 (3 + 1) fa fd PS_lot (spF K mg 1 F_lot) :=
  fn_ok F sc_lot fun cdv A outer s H E hr =>
    (ss_one (ss_ret (se_callT cs_tuple (by rfl) m_tuple (by decide +kernel) (sa_cons (se_frz (sf_sortedU rfl hr.units (by rfl) m_sorted (su_sc (b := false) rfl (by exact sc_lot.nd) hr.units (si_seq (se_var (pv 0))) (blkOk_by (own := [("letter", 1)]) (by first | decide +kernel | rfl)) (fun _ _ _ _ _ => ⟨⟨rfl, (sg_name (pg_name (i := 1) (by exact sc_lot.nd) rfl (.inl rfl))), pts_all, (in_name (by decide))⟩, .nil, (se_var (pv 1))⟩) (fun _ => rfl) rfl rfl))) sa_nil))))
/-! ### letters_of -/
abbrev st_letters_of : Stmt := topS 7
def PS_letters_of : List PySem.Str := ["rules"]
theorem sc_letters_of : FnScope ["rules", "rule", "part", "letter"] PS_letters_of (defScope st_letters_of) := ⟨rfl, rfl, rfl, by decide +kernel, rfl, by decide +kernel, by decide +kernel⟩
def M_letters_of : MS := (sRet (eFn F_lot (aCons (eFrz (compF okL (eVar 3) ⟨aSeq (eVar 0), (bName 1), tAll, [1, 2, 3]⟩ [⟨aSeq (eSl (eVar 1) (oSome (eC (.int 1))) oNone), (bName 2), tAll, [2, 3]⟩, ⟨aSeq (eVar 2), (bName 3), tAll, [3]⟩])) aNil)))
def F_letters_of : MF := fnF 1 4 M_letters_of
theorem ok_letters_of {P : Program} {w : World} {K : PySem.W.Frag} {mg : PySem.Str → Option Value} {base : Heap} {fa : Addr} {fd : FuncData} (F : Fun K "letters_of" "letters_of" st_letters_of fa fd) (c_lot : Cal P w K mg base 4 "lot" PS_lot F_lot) :
    FnOk P w K mg base CX0 (4 + 1) fa fd PS_letters_of (spF K mg 1 F_letters_of) :=
  fn_ok F sc_letters_of fun cdv A outer s H E hr =>
    (ss_one (ss_ret (se_cal c_lot hr (by rfl) (sa_cons (se_frz (sf_lc rfl (by exact sc_letters_of.nd) (si_seq (se_var (pv 0))) (blkOk_by (own := [("rule", 1), ("part", 2), ("letter", 3)]) (by first | decide +kernel | rfl)) (fun _ _ _ _ _ => ⟨⟨rfl, (sg_name (pg_name (i := 1) (by exact sc_letters_of.nd) rfl (.inl rfl))), pts_all, (in_name (by decide))⟩, (.cons ⟨rfl, (sg_name (pg_name (i := 2) (by exact sc_letters_of.nd) rfl (.inl rfl))), pts_all, (in_name (by decide))⟩ (si_seq (se_sl (se_var (pv 1)) (so_some se_int) so_none)) (fun _ _ => rfl) (by decide) (.cons ⟨rfl, (sg_name (pg_name (i := 3) (by exact sc_letters_of.nd) rfl (.inl rfl))), pts_all, (in_name (by decide))⟩ (si_seq (se_var (pv 2))) (fun _ _ => rfl) (by decide) .nil)), (se_var (pv 3))⟩) (fun _ => rfl) rfl rfl)) sa_nil))))
/-! ### all_letters -/
abbrev st_all_letters : Stmt := topS 17
def PS_all_letters : List PySem.Str := ["rules", "other"]
theorem sc_all_letters : FnScope ["rules", "other"] PS_all_letters (defScope st_all_letters) := ⟨rfl, rfl, rfl, by decide +kernel, rfl, by decide +kernel, by decide +kernel⟩
def M_all_letters : MS := (sRet (eFn F_lot (aCons (eBin gAdd (eFn F_letters_of (aCons (eVar 0) aNil)) (eFn F_letters_of (aCons (eVar 1) aNil))) aNil)))
def F_all_letters : MF := fnF 2 2 M_all_letters
theorem ok_all_letters {P : Program} {w : World} {K : PySem.W.Frag} {mg : PySem.Str → Option Value} {base : Heap} {fa : Addr} {fd : FuncData} (F : Fun K "all_letters" "all_letters" st_all_letters fa fd) (c_lot : Cal P w K mg base 5 "lot" PS_lot F_lot) (c_letters_of : Cal P w K mg base 5 "letters_of" PS_letters_of F_letters_of) :
    FnOk P w K mg base CX0 (5 + 1) fa fd PS_all_letters (spF K mg 2 F_all_letters) :=
  fn_ok F sc_all_letters fun cdv A outer s H E hr =>
    (ss_one (ss_ret (se_cal c_lot hr (by rfl) (sa_cons (se_op os_add (se_cal c_letters_of hr (by rfl) (sa_cons (se_var (pv 0)) sa_nil)) (se_cal c_letters_of hr (by rfl) (sa_cons (se_var (pv 1)) sa_nil))) sa_nil))))
/-! ### body_holds -/
abbrev st_body_holds : Stmt := topS 12
def PS_body_holds : List PySem.Str := ["rule", "here", "there"]
theorem sc_body_holds : FnScope ["rule", "here", "there", "kind", "heads", "pos", "neg", "twice", "letter"] PS_body_holds (defScope st_body_holds) := ⟨rfl, rfl, rfl, by decide +kernel, rfl, by decide +kernel, by decide +kernel⟩
def M_body_holds : MS := (sSeq (sAsgG (bTup 5 (bsCons (bName 3) (bsCons (bName 4) (bsCons (bName 5) (bsCons (bName 6) (bsCons (bName 7) bsNil)))))) (eVar 0)) (sRet (eAnd (eFn F_within (aCons (eVar 5) (aCons (eVar 1) aNil))) (eAnd (eFn F_within (aCons (eVar 7) (aCons (eVar 2) aNil))) (eNot (eCal gAny (aCons (eFrz (compF okL (eBin (gIn false) (eVar 8) (eVar 2)) ⟨aSeq (eVar 6), (bName 8), tAll, [8]⟩ [])) aNil)))))))
def F_body_holds : MF := fnF 3 9 M_body_holds
theorem ok_body_holds {P : Program} {w : World} {K : PySem.W.Frag} {mg : PySem.Str → Option Value} {base : Heap} {fa : Addr} {fd : FuncData} (F : Fun K "body_holds" "body_holds" st_body_holds fa fd) (m_any : mg "any" = none) (c_within : Cal P w K mg base 4 "within" PS_within F_within) :
    FnOk P w K mg base CX0 (4 + 1) fa fd PS_body_holds (spF K mg 3 F_body_holds) :=
  fn_ok F sc_body_holds fun cdv A outer s H E hr =>
    (ss_cons (ss_asgG (ps_asg (se_var (pv 0)) (sg_tup rfl (sgs_cons (sg_name (pg_name (i := 3) (by exact sc_body_holds.nd) rfl (.inl rfl))) (sgs_cons (sg_name (pg_name (i := 4) (by exact sc_body_holds.nd) rfl (.inl rfl))) (sgs_cons (sg_name (pg_name (i := 5) (by exact sc_body_holds.nd) rfl (.inl rfl))) (sgs_cons (sg_name (pg_name (i := 6) (by exact sc_body_holds.nd) rfl (.inl rfl))) (sgs_cons (sg_name (pg_name (i := 7) (by exact sc_body_holds.nd) rfl (.inl rfl))) sgs_nil)))))))) (ss_one (ss_ret (se_and (se_cal c_within hr (by rfl) (sa_cons (se_var (pv 5)) (sa_cons (se_var (pv 1)) sa_nil))) (se_and (se_cal c_within hr (by rfl) (sa_cons (se_var (pv 7)) (sa_cons (se_var (pv 2)) sa_nil))) (se_one (se_not (se_call (cs_any rfl) (by rfl) m_any (by decide +kernel) (sa_cons (se_frz (sf_lc rfl (by exact sc_body_holds.nd) (si_seq (se_var (pv 6))) (blkOk_by (own := [("letter", 8)]) (by first | decide +kernel | rfl)) (fun _ _ _ _ _ => ⟨⟨rfl, (sg_name (pg_name (i := 8) (by exact sc_body_holds.nd) rfl (.inl rfl))), pts_all, (in_name (by decide))⟩, .nil, (se_cmp (os_in (r65 hr)) (se_var (pv 8)) (se_var (pv 2)) (by rfl))⟩) (fun _ => rfl) rfl rfl)) sa_nil)))))))))
/-! ### head_holds -/
abbrev st_head_holds : Stmt := topS 13
def PS_head_holds : List PySem.Str := ["rule", "here", "there"]
theorem sc_head_holds : FnScope ["rule", "here", "there", "kind", "heads", "letter"] PS_head_holds (defScope st_head_holds) := ⟨rfl, rfl, rfl, by decide +kernel, rfl, by decide +kernel, by decide +kernel⟩
def M_head_holds : MS := (sSeq (sPar2 3 4 (aCons (eIdx (eVar 0) (eC (.int 0))) (aCons (eIdx (eVar 0) (eC (.int 1))) aNil))) (sSeq (sIf (tOf (eBin gEq (eVar 3) (eC (.str "choice")))) (sRet (eCal gAll (aCons (eFrz (compF okL (eOr (eBin (gIn false) (eVar 5) (eVar 1)) (eBin (gIn true) (eVar 5) (eVar 2))) ⟨aSeq (eVar 4), (bName 5), tAll, [5]⟩ [])) aNil))) sNil) (sRet (eCal gAny (aCons (eFrz (compF okL (eBin (gIn false) (eVar 5) (eVar 1)) ⟨aSeq (eVar 4), (bName 5), tAll, [5]⟩ [])) aNil)))))
def F_head_holds : MF := fnF 3 6 M_head_holds
theorem ok_head_holds {P : Program} {w : World} {K : PySem.W.Frag} {mg : PySem.Str → Option Value} {base : Heap} {fa : Addr} {fd : FuncData} (F : Fun K "head_holds" "head_holds" st_head_holds fa fd) (m_all : mg "all" = none) (m_any : mg "any" = none) :
    FnOk P w K mg base CX0 (3 + 1) fa fd PS_head_holds (spF K mg 3 F_head_holds) :=
  fn_ok F sc_head_holds fun cdv A outer s H E hr =>
    (ss_cons (ss_par2 (ps_par rfl (by exact sc_head_holds.nd) (i := 3) (j := 4) rfl rfl (by decide) rfl rfl (sa_cons (se_idx (se_var (pv 0)) se_int) (sa_cons (se_idx (se_var (pv 0)) se_int) sa_nil)) (by rfl))) (ss_cons (ss_if (st_cmp (os_eq hr.units) (se_var (pv 3)) se_str (nomark _)) (ss_one (ss_ret (se_call (cs_all rfl) (by rfl) m_all (by decide +kernel) (sa_cons (se_frz (sf_lc rfl (by exact sc_head_holds.nd) (si_seq (se_var (pv 4))) (blkOk_by (own := [("letter", 5)]) (by first | decide +kernel | rfl)) (fun _ _ _ _ _ => ⟨⟨rfl, (sg_name (pg_name (i := 5) (by exact sc_head_holds.nd) rfl (.inl rfl))), pts_all, (in_name (by decide))⟩, .nil, (se_or (se_cmp (os_in (r65 hr)) (se_var (pv 5)) (se_var (pv 1)) (by rfl)) (se_one (se_cmp (os_notin (r65 hr)) (se_var (pv 5)) (se_var (pv 2)) (by rfl))))⟩) (fun _ => rfl) rfl rfl)) sa_nil)))) ss_nil) (ss_one (ss_ret (se_call (cs_any rfl) (by rfl) m_any (by decide +kernel) (sa_cons (se_frz (sf_lc rfl (by exact sc_head_holds.nd) (si_seq (se_var (pv 4))) (blkOk_by (own := [("letter", 5)]) (by first | decide +kernel | rfl)) (fun _ _ _ _ _ => ⟨⟨rfl, (sg_name (pg_name (i := 5) (by exact sc_head_holds.nd) rfl (.inl rfl))), pts_all, (in_name (by decide))⟩, .nil, (se_cmp (os_in (r65 hr)) (se_var (pv 5)) (se_var (pv 1)) (by rfl))⟩) (fun _ => rfl) rfl rfl)) sa_nil))))))
/-! ### rule_holds -/
abbrev st_rule_holds : Stmt := topS 14
def PS_rule_holds : List PySem.Str := ["rule", "here", "there"]
theorem sc_rule_holds : FnScope ["rule", "here", "there"] PS_rule_holds (defScope st_rule_holds) := ⟨rfl, rfl, rfl, by decide +kernel, rfl, by decide +kernel, by decide +kernel⟩
def M_rule_holds : MS := (sSeq (sIf (tAnd (tOf (eFn F_body_holds (aCons (eVar 0) (aCons (eVar 2) (aCons (eVar 2) aNil))))) (tNot (tOf (eFn F_head_holds (aCons (eVar 0) (aCons (eVar 2) (aCons (eVar 2) aNil))))))) (sRet (eC (.bl false))) sNil) (sRet (eOr (eFn F_head_holds (aCons (eVar 0) (aCons (eVar 1) (aCons (eVar 2) aNil)))) (eNot (eFn F_body_holds (aCons (eVar 0) (aCons (eVar 1) (aCons (eVar 2) aNil))))))))
def F_rule_holds : MF := fnF 3 3 M_rule_holds
theorem ok_rule_holds {P : Program} {w : World} {K : PySem.W.Frag} {mg : PySem.Str → Option Value} {base : Heap} {fa : Addr} {fd : FuncData} (F : Fun K "rule_holds" "rule_holds" st_rule_holds fa fd) (c_body_holds : Cal P w K mg base 5 "body_holds" PS_body_holds F_body_holds) (c_head_holds : Cal P w K mg base 5 "head_holds" PS_head_holds F_head_holds) :
    FnOk P w K mg base CX0 (5 + 1) fa fd PS_rule_holds (spF K mg 3 F_rule_holds) :=
  fn_ok F sc_rule_holds fun cdv A outer s H E hr =>
    (ss_cons (ss_if (st_w (sw_and (st_val (se_cal c_body_holds hr (by rfl) (sa_cons (se_var (pv 0)) (sa_cons (se_var (pv 2)) (sa_cons (se_var (pv 2)) sa_nil))))) (sw_and1 (st_not (st_val (se_cal c_head_holds hr (by rfl) (sa_cons (se_var (pv 0)) (sa_cons (se_var (pv 2)) (sa_cons (se_var (pv 2)) sa_nil))))))))) (ss_one (ss_ret se_bl)) ss_nil) (ss_one (ss_ret (se_or (se_cal c_head_holds hr (by rfl) (sa_cons (se_var (pv 0)) (sa_cons (se_var (pv 1)) (sa_cons (se_var (pv 2)) sa_nil)))) (se_one (se_not (se_cal c_body_holds hr (by rfl) (sa_cons (se_var (pv 0)) (sa_cons (se_var (pv 1)) (sa_cons (se_var (pv 2)) sa_nil))))))))))
/-! ### all_hold -/
abbrev st_all_hold : Stmt := topS 15
def PS_all_hold : List PySem.Str := ["rules", "here", "there"]
theorem sc_all_hold : FnScope ["rules", "here", "there", "rule"] PS_all_hold (defScope st_all_hold) := ⟨rfl, rfl, rfl, by decide +kernel, rfl, by decide +kernel, by decide +kernel⟩
def M_all_hold : MS := (sRet (eCal gAll (aCons (eFrz (compF okL (eFn F_rule_holds (aCons (eVar 3) (aCons (eVar 1) (aCons (eVar 2) aNil)))) ⟨aSeq (eVar 0), (bName 3), tAll, [3]⟩ [])) aNil)))
def F_all_hold : MF := fnF 3 4 M_all_hold
theorem ok_all_hold {P : Program} {w : World} {K : PySem.W.Frag} {mg : PySem.Str → Option Value} {base : Heap} {fa : Addr} {fd : FuncData} (F : Fun K "all_hold" "all_hold" st_all_hold fa fd) (m_all : mg "all" = none) (c_rule_holds : Cal P w K mg base 6 "rule_holds" PS_rule_holds F_rule_holds) :
    FnOk P w K mg base CX0 (6 + 1) fa fd PS_all_hold (spF K mg 3 F_all_hold) :=
  fn_ok F sc_all_hold fun cdv A outer s H E hr =>
    (ss_one (ss_ret (se_call (cs_all rfl) (by rfl) m_all (by decide +kernel) (sa_cons (se_frz (sf_lc rfl (by exact sc_all_hold.nd) (si_seq (se_var (pv 0))) (blkOk_by (own := [("rule", 3)]) (by first | decide +kernel | rfl)) (fun _ _ _ _ _ => ⟨⟨rfl, (sg_name (pg_name (i := 3) (by exact sc_all_hold.nd) rfl (.inl rfl))), pts_all, (in_name (by decide))⟩, .nil, (se_cal c_rule_holds hr (by rfl) (sa_cons (se_var (pv 3)) (sa_cons (se_var (pv 1)) (sa_cons (se_var (pv 2)) sa_nil))))⟩) (fun _ => rfl) rfl rfl)) sa_nil))))
/-! ### all_lots -/
abbrev st_all_lots : Stmt := topS 16
def PS_all_lots : List PySem.Str := ["letters"]
theorem sc_all_lots : FnScope ["letters", "found", "letter", "row"] PS_all_lots (defScope st_all_lots) := ⟨rfl, rfl, rfl, by decide +kernel, rfl, by decide +kernel, by decide +kernel⟩
def M_all_lots : MS := (sSeq (sIf (tOf (eBin (gCmp fun i j => decide (j < i)) (eCal gLen (aCons (eVar 0) aNil)) (eC k_MOST_LETTERS))) sNo sNil) (sSeq (sAsg 1 (eFrz (aLst (aCons (eTup aNil) aNil)))) (sSeq (sFor (aSeq (eVar 0)) (bName 2) (sAsg 1 (eBin gAdd (eVar 1) (eFrz (compF okL (eBin gAdd (eVar 3) (eTup (aCons (eVar 2) aNil))) ⟨aSeq (eVar 1), (bName 3), tAll, [3]⟩ []))))) (sRet (eFrz (aSortL (aCons (eVar 1) aNil)))))))
def F_all_lots : MF := fnF 1 4 M_all_lots
theorem ok_all_lots {P : Program} {w : World} {K : PySem.W.Frag} {mg : PySem.Str → Option Value} {base : Heap} {fa c P0 : Addr} {oc kV doc pm ct : Value} {od an : Option Addr} {osl : Array (Option Value)}
    (lk : K.lookup fa = some ⟨oc, od, .func (PySem.W.fnOf "all_lots" "all_lots" (defArgs st_all_lots) (defBody st_all_lots) (defScope st_all_lots) .none kV doc pm an (.ref c) ct), osl⟩) (hcd : PySem.W.codeIn K (.ref c) "all_lots" = true) (TB : LamX.TabB base mg c P0)
    (hT0 : tbOf K mg = [(P0, ("all_lots.<locals>.<lambda>" : PySem.Str))]) (m_len : mg "len" = none) (m_sorted : mg "sorted" = none) (g_MOST_LETTERS : Glb K mg "MOST_LETTERS" k_MOST_LETTERS) :
    FnOk P w K mg base CX0 (3 + 1) fa (PySem.W.fnOf "all_lots" "all_lots" (defArgs st_all_lots) (defBody st_all_lots) (defScope st_all_lots) .none kV doc pm an (.ref c) ct) PS_all_lots (spF K mg 1 F_all_lots) :=
  fn_okC lk hcd sc_all_lots fun A outer s H E hr =>
    have hcode : (cxOf CX0 P w K mg base ["letters", "found", "letter", "row"] "all_lots" (defScope st_all_lots) fa (.ref c) A outer s H E).nox.env.code = .ref c := rfl
    have hr3 : Room 3 (cxOf CX0 P w K mg base ["letters", "found", "letter", "row"] "all_lots" (defScope st_all_lots) fa (.ref c) A outer s H E).nox.A := Room.mono hr (by decide)
    have hT : (P0, (cxOf CX0 P w K mg base ["letters", "found", "letter", "row"] "all_lots" (defScope st_all_lots) fa (.ref c) A outer s H E).nox.env.qual ++ "<lambda>") ∈ tbOf K mg := by rw [hT0]; exact List.mem_singleton.mpr (congrArg _ (by show ((("all_lots" : PySem.Str) ++ ".<locals>.") ++ "<lambda>" : PySem.Str) = _; decide +kernel))
    have hu0 : ∀ p ∈ tbOf K mg, p.1 = P0 → p.2 = (cxOf CX0 P w K mg base ["letters", "found", "letter", "row"] "all_lots" (defScope st_all_lots) fa (.ref c) A outer s H E).nox.env.qual ++ "<lambda>" := by rw [hT0]; intro p hp _; rw [List.mem_singleton.mp hp]; show ("all_lots.<locals>.<lambda>" : PySem.Str) = ((("all_lots" : PySem.Str) ++ ".<locals>.") ++ "<lambda>" : PySem.Str); decide +kernel
    (ss_cons (ss_if (st_cmp os_gt (se_call cs_len (by rfl) m_len (by decide +kernel) (sa_cons (se_var (pv 0)) sa_nil)) (se_glb1 g_MOST_LETTERS (by rfl)) (nomark _)) (ss_one ss_never) ss_nil) (ss_cons (ss_asg (ps_set (i := 1) (by exact sc_all_lots.nd) rfl (.inl rfl) (se_frz (sf_lst (sa_cons (se_tup sa_nil) sa_nil))))) (ss_cons (ss_for1 (ps_for PassesOwn.never rfl (si_seq (se_var (pv 0))) (sg_name (pg_name (i := 2) (by exact sc_all_lots.nd) rfl (.inr rfl))) (ss_one (ss_asg (ps_set (i := 1) (by exact sc_all_lots.nd) rfl (.inl rfl) (se_op os_add (se_var (pv 1)) (se_frz (sf_lc rfl (by exact sc_all_lots.nd) (si_seq (se_var (pv 1))) (blkOk_by (own := [("row", 3)]) (by first | decide +kernel | rfl)) (fun _ _ _ _ _ => ⟨⟨rfl, (sg_name (pg_name (i := 3) (by exact sc_all_lots.nd) rfl (.inl rfl))), pts_all, (in_name (by decide))⟩, .nil, (se_op os_add (se_var (pv 3)) (se_tup (sa_cons (se_var (pv 2)) sa_nil)))⟩) (fun _ => rfl) rfl rfl)))))))) (ss_one (ss_ret (se_frz (sf_sortL hr3 (by rfl) m_sorted m_len (lamOk_by (by rfl) (fun _ _ _ _ _ _ _ => rfl)) TB hcode hT hu0 rfl (sa_cons (se_var (pv 1)) sa_nil))))))))
/-! ### first_parting -/
abbrev st_first_parting : Stmt := topS 19
def PS_first_parting : List PySem.Str := ["one", "other"]
theorem sc_first_parting : FnScope ["one", "other", "letters", "there", "here"] PS_first_parting (defScope st_first_parting) := ⟨rfl, rfl, rfl, by decide +kernel, rfl, by decide +kernel, by decide +kernel⟩
def M_first_parting : MS := (sSeq (sAsg 2 (eFn F_all_letters (aCons (eVar 0) (aCons (eVar 1) aNil)))) (sSeq (sFor (aSeq (eFrz (aCal gSorted (aCons (eFn F_all_lots (aCons (eVar 2) aNil)) aNil)))) (bName 3) (sFor (aSeq (eFrz (aCal gSorted (aCons (eFn F_all_lots (aCons (eVar 3) aNil)) aNil)))) (bName 4) (sIf (tOf (eBin gNe (eFn F_all_hold (aCons (eVar 0) (aCons (eVar 4) (aCons (eVar 3) aNil)))) (eFn F_all_hold (aCons (eVar 1) (aCons (eVar 4) (aCons (eVar 3) aNil)))))) (sRet (eTup (aCons (eVar 4) (aCons (eVar 3) aNil)))) sNil))) (sRet (eC .non))))
def F_first_parting : MF := fnF 2 5 M_first_parting
theorem ok_first_parting {P : Program} {w : World} {K : PySem.W.Frag} {mg : PySem.Str → Option Value} {base : Heap} {fa : Addr} {fd : FuncData} (F : Fun K "first_parting" "first_parting" st_first_parting fa fd) (m_sorted : mg "sorted" = none) (c_all_letters : Cal P w K mg base 7 "all_letters" PS_all_letters F_all_letters) (c_all_hold : Cal P w K mg base 7 "all_hold" PS_all_hold F_all_hold) (c_all_lots : Cal P w K mg base 7 "all_lots" PS_all_lots F_all_lots) :
    FnOk P w K mg base CX0 (7 + 1) fa fd PS_first_parting (spF K mg 2 F_first_parting) :=
  fn_ok F sc_first_parting fun cdv A outer s H E hr =>
    (ss_cons (ss_asg (ps_set (i := 2) (by exact sc_first_parting.nd) rfl (.inl rfl) (se_cal c_all_letters hr (by rfl) (sa_cons (se_var (pv 0)) (sa_cons (se_var (pv 1)) sa_nil))))) (ss_cons (ss_for1 (ps_for PassesOwn.never rfl (si_seq (se_frz (sf_call (cf_sorted hr.units) (by rfl) m_sorted (by decide +kernel) (sa_cons (se_cal c_all_lots hr (by rfl) (sa_cons (se_var (pv 2)) sa_nil)) sa_nil)))) (sg_name (pg_name (i := 3) (by exact sc_first_parting.nd) rfl (.inl rfl))) (ss_one (ss_for1 (ps_for PassesOwn.never rfl (si_seq (se_frz (sf_call (cf_sorted hr.units) (by rfl) m_sorted (by decide +kernel) (sa_cons (se_cal c_all_lots hr (by rfl) (sa_cons (se_var (pv 3)) sa_nil)) sa_nil)))) (sg_name (pg_name (i := 4) (by exact sc_first_parting.nd) rfl (.inl rfl))) (ss_one (ss_if (st_cmp (os_ne hr.units) (se_cal c_all_hold hr (by rfl) (sa_cons (se_var (pv 0)) (sa_cons (se_var (pv 4)) (sa_cons (se_var (pv 3)) sa_nil)))) (se_cal c_all_hold hr (by rfl) (sa_cons (se_var (pv 1)) (sa_cons (se_var (pv 4)) (sa_cons (se_var (pv 3)) sa_nil)))) (nomark _)) (ss_one (ss_ret (se_tup (sa_cons (se_var (pv 4)) (sa_cons (se_var (pv 3)) sa_nil))))) ss_nil))))))) (ss_one (ss_ret se_non))))
/-! ### alike_everywhere -/
abbrev st_alike_everywhere : Stmt := topS 21
def PS_alike_everywhere : List PySem.Str := ["one", "other"]
theorem sc_alike_everywhere : FnScope ["one", "other"] PS_alike_everywhere (defScope st_alike_everywhere) := ⟨rfl, rfl, rfl, by decide +kernel, rfl, by decide +kernel, by decide +kernel⟩
def M_alike_everywhere : MS := (sRet (eBin (gIs false) (eFn F_first_parting (aCons (eVar 0) (aCons (eVar 1) aNil))) (eC .non)))
def F_alike_everywhere : MF := fnF 2 2 M_alike_everywhere
theorem ok_alike_everywhere {P : Program} {w : World} {K : PySem.W.Frag} {mg : PySem.Str → Option Value} {base : Heap} {fa : Addr} {fd : FuncData} (F : Fun K "alike_everywhere" "alike_everywhere" st_alike_everywhere fa fd) (c_first_parting : Cal P w K mg base 8 "first_parting" PS_first_parting F_first_parting) :
    FnOk P w K mg base CX0 (8 + 1) fa fd PS_alike_everywhere (spF K mg 2 F_alike_everywhere) :=
  fn_ok F sc_alike_everywhere fun cdv A outer s H E hr =>
    (ss_one (ss_ret (se_cmp os_is (se_cal c_first_parting hr (by rfl) (sa_cons (se_var (pv 0)) (sa_cons (se_var (pv 1)) sa_nil))) se_non (nomark _))))
/-! ### is_step -/
abbrev st_is_step : Stmt := topS 40
def PS_is_step : List PySem.Str := ["rules", "step"]
theorem sc_is_step : FnScope ["rules", "step", "what", "rule", "fresh", "by", "far"] PS_is_step (defScope st_is_step) := ⟨rfl, rfl, rfl, by decide +kernel, rfl, by decide +kernel, by decide +kernel⟩
def M_is_step : MS := (sSeq (sAsgG (bTup 4 (bsCons (bName 2) (bsCons (bName 3) (bsCons (bName 4) (bsCons (bName 5) bsNil))))) (eVar 1)) (sSeq (sIf (tOr (tOf (eBin (gIn true) (eVar 2) (eC k_KINDS))) (tOr (tOf (eBin (gIn true) (eVar 3) (eVar 0))) (tNot (tOf (eCal gAll (aCons (eFrz (compF okL (eAnd (eBin (gIn false) (eVar 6) (eVar 0)) (eBin gNe (eVar 6) (eVar 3))) ⟨aSeq (eVar 5), (bName 6), tAll, [6]⟩ [])) aNil)))))) (sRet (eC (.bl false))) sNil) (sRet (eFn F_alike_everywhere (aCons (eBin gAdd (eFrz (aLst (aCons (eVar 3) aNil))) (eFrz (aCal gList (aCons (eVar 5) aNil)))) (aCons (eBin gAdd (eFrz (aCal gList (aCons (eVar 4) aNil))) (eFrz (aCal gList (aCons (eVar 5) aNil)))) aNil))))))
def F_is_step : MF := fnF 2 7 M_is_step
theorem ok_is_step {P : Program} {w : World} {K : PySem.W.Frag} {mg : PySem.Str → Option Value} {base : Heap} {fa : Addr} {fd : FuncData} (F : Fun K "is_step" "is_step" st_is_step fa fd) (m_all : mg "all" = none) (m_list : mg "list" = none) (g_KINDS : Glb K mg "KINDS" k_KINDS) (c_alike_everywhere : Cal P w K mg base 9 "alike_everywhere" PS_alike_everywhere F_alike_everywhere) :
    FnOk P w K mg base CX0 (9 + 1) fa fd PS_is_step (spF K mg 2 F_is_step) :=
  fn_ok F sc_is_step fun cdv A outer s H E hr =>
    (ss_cons (ss_asgG (ps_asg (se_var (pv 1)) (sg_tup rfl (sgs_cons (sg_name (pg_name (i := 2) (by exact sc_is_step.nd) rfl (.inl rfl))) (sgs_cons (sg_name (pg_name (i := 3) (by exact sc_is_step.nd) rfl (.inr rfl))) (sgs_cons (sg_name (pg_name (i := 4) (by exact sc_is_step.nd) rfl (.inl rfl))) (sgs_cons (sg_name (pg_name (i := 5) (by exact sc_is_step.nd) rfl (.inl rfl))) sgs_nil))))))) (ss_cons (ss_if (st_w (sw_or (st_cmp (os_notin (r65 hr)) (se_var (pv 2)) (se_glb1 g_KINDS (by rfl)) (by rfl)) (sw_or (st_cmp (os_notin (r65 hr)) (se_var (pv 3)) (se_var (pv 0)) (by rfl)) (sw_or1 (st_not (st_val (se_call (cs_all rfl) (by rfl) m_all (by decide +kernel) (sa_cons (se_frz (sf_lc rfl (by exact sc_is_step.nd) (si_seq (se_var (pv 5))) (blkOk_by (own := [("far", 6)]) (by first | decide +kernel | rfl)) (fun _ _ _ _ _ => ⟨⟨rfl, (sg_name (pg_name (i := 6) (by exact sc_is_step.nd) rfl (.inl rfl))), pts_all, (in_name (by decide))⟩, .nil, (se_and (se_cmp (os_in (r65 hr)) (se_var (pv 6)) (se_var (pv 0)) (by rfl)) (se_one (se_cmp (os_ne hr.units) (se_var (pv 6)) (se_var (pv 3)) (nomark _))))⟩) (fun _ => rfl) rfl rfl)) sa_nil)))))))) (ss_one (ss_ret se_bl)) ss_nil) (ss_one (ss_ret (se_cal c_alike_everywhere hr (by rfl) (sa_cons (se_op os_add (se_frz (sf_lst (sa_cons (se_var (pv 3)) sa_nil))) (se_frz (sf_callT cf_list (by rfl) m_list (by decide +kernel) (sa_cons (se_var (pv 5)) sa_nil)))) (sa_cons (se_op os_add (se_frz (sf_callT cf_list (by rfl) m_list (by decide +kernel) (sa_cons (se_var (pv 4)) sa_nil))) (se_frz (sf_callT cf_list (by rfl) m_list (by decide +kernel) (sa_cons (se_var (pv 5)) sa_nil)))) sa_nil)))))))
/-! ### _law_holds -/
abbrev st_law_holds : Stmt := topS 55
def PS_law_holds : List PySem.Str := ["rule", "here", "there"]
theorem sc_law_holds : FnScope ["rule", "here", "there", "kind", "heads", "pos", "neg", "twice", "letter", "far"] PS_law_holds (defScope st_law_holds) := ⟨rfl, rfl, rfl, by decide +kernel, rfl, by decide +kernel, by decide +kernel⟩
def M_law_holds : MS := (sSeq (sAsgG (bTup 5 (bsCons (bName 3) (bsCons (bName 4) (bsCons (bName 5) (bsCons (bName 6) (bsCons (bName 7) bsNil)))))) (eVar 0)) (sSeq (sIf (tOr (tOf (eBin gNe (eFrz (compF okL (eVar 8) ⟨aSeq (eVar 7), (bName 8), (tOf (eBin (gIn true) (eVar 8) (eVar 2))), [8]⟩ [])) (eFrz (aLst aNil)))) (tOf (eBin gNe (eFrz (compF okL (eVar 8) ⟨aSeq (eVar 6), (bName 8), (tOf (eBin (gIn false) (eVar 8) (eVar 2))), [8]⟩ [])) (eFrz (aLst aNil))))) (sRet (eC (.bl true))) sNil) (sSeq (sFor (aSeq (eFrz (aLst (aCons (eVar 1) (aCons (eVar 2) aNil))))) (bName 9) (sIf (tOf (eBin gEq (eFrz (compF okL (eVar 8) ⟨aSeq (eVar 5), (bName 8), (tOf (eBin (gIn true) (eVar 8) (eVar 9))), [8]⟩ [])) (eFrz (aLst aNil)))) (sIf (tOf (eBin gEq (eVar 3) (eC (.str "choice")))) (sIf (tOf (eBin gNe (eFrz (compF okL (eVar 8) ⟨aSeq (eVar 4), (bName 8), (tAnd (tOf (eBin (gIn false) (eVar 8) (eVar 2))) (tOf (eBin (gIn true) (eVar 8) (eVar 9)))), [8]⟩ [])) (eFrz (aLst aNil)))) (sRet (eC (.bl false))) sNil) (sIf (tOf (eBin gEq (eFrz (compF okL (eVar 8) ⟨aSeq (eVar 4), (bName 8), (tOf (eBin (gIn false) (eVar 8) (eVar 9))), [8]⟩ [])) (eFrz (aLst aNil)))) (sRet (eC (.bl false))) sNil)) sNil)) (sRet (eC (.bl true))))))
def F_law_holds : MF := fnF 3 10 M_law_holds
theorem ok_law_holds {P : Program} {w : World} {K : PySem.W.Frag} {mg : PySem.Str → Option Value} {base : Heap} {fa : Addr} {fd : FuncData} (F : Fun K "_law_holds" "_law_holds" st_law_holds fa fd) :
    FnOk P w K mg base CX0 (3 + 1) fa fd PS_law_holds (spF K mg 3 F_law_holds) :=
  fn_ok F sc_law_holds fun cdv A outer s H E hr =>
    (ss_cons (ss_asgG (ps_asg (se_var (pv 0)) (sg_tup rfl (sgs_cons (sg_name (pg_name (i := 3) (by exact sc_law_holds.nd) rfl (.inl rfl))) (sgs_cons (sg_name (pg_name (i := 4) (by exact sc_law_holds.nd) rfl (.inl rfl))) (sgs_cons (sg_name (pg_name (i := 5) (by exact sc_law_holds.nd) rfl (.inl rfl))) (sgs_cons (sg_name (pg_name (i := 6) (by exact sc_law_holds.nd) rfl (.inl rfl))) (sgs_cons (sg_name (pg_name (i := 7) (by exact sc_law_holds.nd) rfl (.inl rfl))) sgs_nil)))))))) (ss_cons (ss_if (st_w (sw_or (st_cmp (os_ne hr.units) (se_frz (sf_lc rfl (by exact sc_law_holds.nd) (si_seq (se_var (pv 7))) (blkOk_by (own := [("letter", 8)]) (by first | decide +kernel | rfl)) (fun _ _ _ _ _ => ⟨⟨rfl, (sg_name (pg_name (i := 8) (by exact sc_law_holds.nd) rfl (.inl rfl))), (pts_one (st_cmp (os_notin (r65 hr)) (se_var (pv 8)) (se_var (pv 2)) (by rfl))), (in_name (by decide))⟩, .nil, (se_var (pv 8))⟩) (fun _ => rfl) rfl rfl)) (se_frz (sf_lst sa_nil)) (nomark _)) (sw_or1 (st_cmp (os_ne hr.units) (se_frz (sf_lc rfl (by exact sc_law_holds.nd) (si_seq (se_var (pv 6))) (blkOk_by (own := [("letter", 8)]) (by first | decide +kernel | rfl)) (fun _ _ _ _ _ => ⟨⟨rfl, (sg_name (pg_name (i := 8) (by exact sc_law_holds.nd) rfl (.inl rfl))), (pts_one (st_cmp (os_in (r65 hr)) (se_var (pv 8)) (se_var (pv 2)) (by rfl))), (in_name (by decide))⟩, .nil, (se_var (pv 8))⟩) (fun _ => rfl) rfl rfl)) (se_frz (sf_lst sa_nil)) (nomark _))))) (ss_one (ss_ret se_bl)) ss_nil) (ss_cons (ss_for1 (ps_for PassesOwn.never rfl (si_seq (se_frz (sf_lst (sa_cons (se_var (pv 1)) (sa_cons (se_var (pv 2)) sa_nil))))) (sg_name (pg_name (i := 9) (by exact sc_law_holds.nd) rfl (.inr rfl))) (ss_one (ss_if (st_cmp (os_eq hr.units) (se_frz (sf_lc rfl (by exact sc_law_holds.nd) (si_seq (se_var (pv 5))) (blkOk_by (own := [("letter", 8)]) (by first | decide +kernel | rfl)) (fun _ _ _ _ _ => ⟨⟨rfl, (sg_name (pg_name (i := 8) (by exact sc_law_holds.nd) rfl (.inl rfl))), (pts_one (st_cmp (os_notin (r65 hr)) (se_var (pv 8)) (se_var (pv 9)) (by rfl))), (in_name (by decide))⟩, .nil, (se_var (pv 8))⟩) (fun _ => rfl) rfl rfl)) (se_frz (sf_lst sa_nil)) (nomark _)) (ss_one (ss_if (st_cmp (os_eq hr.units) (se_var (pv 3)) se_str (nomark _)) (ss_one (ss_if (st_cmp (os_ne hr.units) (se_frz (sf_lc rfl (by exact sc_law_holds.nd) (si_seq (se_var (pv 4))) (blkOk_by (own := [("letter", 8)]) (by first | decide +kernel | rfl)) (fun _ _ _ _ _ => ⟨⟨rfl, (sg_name (pg_name (i := 8) (by exact sc_law_holds.nd) rfl (.inl rfl))), (pts_one (st_w (sw_and (st_cmp (os_in (r65 hr)) (se_var (pv 8)) (se_var (pv 2)) (by rfl)) (sw_and1 (st_cmp (os_notin (r65 hr)) (se_var (pv 8)) (se_var (pv 9)) (by rfl)))))), (in_name (by decide))⟩, .nil, (se_var (pv 8))⟩) (fun _ => rfl) rfl rfl)) (se_frz (sf_lst sa_nil)) (nomark _)) (ss_one (ss_ret se_bl)) ss_nil)) (ss_one (ss_if (st_cmp (os_eq hr.units) (se_frz (sf_lc rfl (by exact sc_law_holds.nd) (si_seq (se_var (pv 4))) (blkOk_by (own := [("letter", 8)]) (by first | decide +kernel | rfl)) (fun _ _ _ _ _ => ⟨⟨rfl, (sg_name (pg_name (i := 8) (by exact sc_law_holds.nd) rfl (.inl rfl))), (pts_one (st_cmp (os_in (r65 hr)) (se_var (pv 8)) (se_var (pv 9)) (by rfl))), (in_name (by decide))⟩, .nil, (se_var (pv 8))⟩) (fun _ => rfl) rfl rfl)) (se_frz (sf_lst sa_nil)) (nomark _)) (ss_one (ss_ret se_bl)) ss_nil)))) ss_nil)))) (ss_one (ss_ret se_bl)))))
/-! ### _law_all -/
abbrev st_law_all : Stmt := topS 56
def PS_law_all : List PySem.Str := ["rules", "here", "there"]
theorem sc_law_all : FnScope ["rules", "here", "there", "rule"] PS_law_all (defScope st_law_all) := ⟨rfl, rfl, rfl, by decide +kernel, rfl, by decide +kernel, by decide +kernel⟩
def M_law_all : MS := (sRet (eBin gEq (eFrz (compF okL (eVar 3) ⟨aSeq (eVar 0), (bName 3), (tNot (tOf (eFn F_law_holds (aCons (eVar 3) (aCons (eVar 1) (aCons (eVar 2) aNil)))))), [3]⟩ [])) (eFrz (aLst aNil))))
def F_law_all : MF := fnF 3 4 M_law_all
theorem ok_law_all {P : Program} {w : World} {K : PySem.W.Frag} {mg : PySem.Str → Option Value} {base : Heap} {fa : Addr} {fd : FuncData} (F : Fun K "_law_all" "_law_all" st_law_all fa fd) (c__law_holds : Cal P w K mg base 4 "_law_holds" PS_law_holds F_law_holds) :
    FnOk P w K mg base CX0 (4 + 1) fa fd PS_law_all (spF K mg 3 F_law_all) :=
  fn_ok F sc_law_all fun cdv A outer s H E hr =>
    (ss_one (ss_ret (se_cmp (os_eq hr.units) (se_frz (sf_lc rfl (by exact sc_law_all.nd) (si_seq (se_var (pv 0))) (blkOk_by (own := [("rule", 3)]) (by first | decide +kernel | rfl)) (fun _ _ _ _ _ => ⟨⟨rfl, (sg_name (pg_name (i := 3) (by exact sc_law_all.nd) rfl (.inl rfl))), (pts_one (st_not (st_val (se_cal c__law_holds hr (by rfl) (sa_cons (se_var (pv 3)) (sa_cons (se_var (pv 1)) (sa_cons (se_var (pv 2)) sa_nil))))))), (in_name (by decide))⟩, .nil, (se_var (pv 3))⟩) (fun _ => rfl) rfl rfl)) (se_frz (sf_lst sa_nil)) (nomark _))))
/-! ### _law_lots -/
abbrev st_law_lots : Stmt := topS 54
def PS_law_lots : List PySem.Str := ["letters"]
theorem sc_law_lots : FnScope ["letters", "found", "letter", "row"] PS_law_lots (defScope st_law_lots) := ⟨rfl, rfl, rfl, by decide +kernel, rfl, by decide +kernel, by decide +kernel⟩
def M_law_lots : MS := (sSeq (sAsg 1 (eFrz (aLst (aCons (eTup aNil) aNil)))) (sSeq (sFor (aSeq (eFrz (aCal gSorted (aCons (eVar 0) aNil)))) (bName 2) (sAsg 1 (eBin gAdd (eVar 1) (eFrz (compF okL (eBin gAdd (eVar 3) (eTup (aCons (eVar 2) aNil))) ⟨aSeq (eVar 1), (bName 3), tAll, [3]⟩ []))))) (sRet (eFrz (compF okL (eIdx (eVar 3) (eC (.int 1))) ⟨aSeq (eFrz (aCal gSorted (aCons (eFrz (compF okL (eTup (aCons (eCal gLen (aCons (eVar 3) aNil)) (aCons (eVar 3) aNil))) ⟨aSeq (eVar 1), (bName 3), tAll, [3]⟩ [])) aNil))), (bName 3), tAll, [3]⟩ [])))))
def F_law_lots : MF := fnF 1 4 M_law_lots
theorem ok_law_lots {P : Program} {w : World} {K : PySem.W.Frag} {mg : PySem.Str → Option Value} {base : Heap} {fa : Addr} {fd : FuncData} (F : Fun K "_law_lots" "_law_lots" st_law_lots fa fd) (m_len : mg "len" = none) (m_sorted : mg "sorted" = none) :
    FnOk P w K mg base CX0 (3 + 1) fa fd PS_law_lots (spF K mg 1 F_law_lots) :=
  fn_ok F sc_law_lots fun cdv A outer s H E hr =>
    (ss_cons (ss_asg (ps_set (i := 1) (by exact sc_law_lots.nd) rfl (.inl rfl) (se_frz (sf_lst (sa_cons (se_tup sa_nil) sa_nil))))) (ss_cons (ss_for1 (ps_for PassesOwn.never rfl (si_seq (se_frz (sf_call (cf_sorted hr.units) (by rfl) m_sorted (by decide +kernel) (sa_cons (se_var (pv 0)) sa_nil)))) (sg_name (pg_name (i := 2) (by exact sc_law_lots.nd) rfl (.inr rfl))) (ss_one (ss_asg (ps_set (i := 1) (by exact sc_law_lots.nd) rfl (.inl rfl) (se_op os_add (se_var (pv 1)) (se_frz (sf_lc rfl (by exact sc_law_lots.nd) (si_seq (se_var (pv 1))) (blkOk_by (own := [("row", 3)]) (by first | decide +kernel | rfl)) (fun _ _ _ _ _ => ⟨⟨rfl, (sg_name (pg_name (i := 3) (by exact sc_law_lots.nd) rfl (.inl rfl))), pts_all, (in_name (by decide))⟩, .nil, (se_op os_add (se_var (pv 3)) (se_tup (sa_cons (se_var (pv 2)) sa_nil)))⟩) (fun _ => rfl) rfl rfl)))))))) (ss_one (ss_ret (se_frz (sf_lc rfl (by exact sc_law_lots.nd) (si_seq (se_frz (sf_call (cf_sorted hr.units) (by rfl) m_sorted (by decide +kernel) (sa_cons (se_frz (sf_lc rfl (by exact sc_law_lots.nd) (si_seq (se_var (pv 1))) (blkOk_by (own := [("row", 3)]) (by first | decide +kernel | rfl)) (fun _ _ _ _ _ => ⟨⟨rfl, (sg_name (pg_name (i := 3) (by exact sc_law_lots.nd) rfl (.inl rfl))), pts_all, (in_name (by decide))⟩, .nil, (se_tup (sa_cons (se_call cs_len (by rfl) m_len (by decide +kernel) (sa_cons (se_var (pv 3)) sa_nil)) (sa_cons (se_var (pv 3)) sa_nil)))⟩) (fun _ => rfl) rfl rfl)) sa_nil)))) (blkOk_by (own := [("row", 3)]) (by first | decide +kernel | rfl)) (fun _ _ _ _ _ => ⟨⟨rfl, (sg_name (pg_name (i := 3) (by exact sc_law_lots.nd) rfl (.inl rfl))), pts_all, (in_name (by decide))⟩, .nil, (se_idx (se_var (pv 3)) se_int)⟩) (fun _ => rfl) rfl rfl))))))
/-! ### _law_worlds -/
abbrev st_law_worlds : Stmt := topS 57
def PS_law_worlds : List PySem.Str := ["rules", "letters"]
theorem sc_law_worlds : FnScope ["rules", "letters", "found", "there", "here"] PS_law_worlds (defScope st_law_worlds) := ⟨rfl, rfl, rfl, by decide +kernel, rfl, by decide +kernel, by decide +kernel⟩
def M_law_worlds : MS := (sSeq (sAsg 2 (eFrz (aLst aNil))) (sSeq (sFor (aSeq (eFn F_law_lots (aCons (eVar 1) aNil))) (bName 3) (sAsg 2 (eBin gAdd (eVar 2) (eFrz (compF okL (eTup (aCons (eVar 4) (aCons (eVar 3) aNil))) ⟨aSeq (eFn F_law_lots (aCons (eVar 3) aNil)), (bName 4), (tAnd (tOf (eFn F_law_all (aCons (eVar 0) (aCons (eVar 4) (aCons (eVar 3) aNil))))) (tOf (eFn F_law_all (aCons (eVar 0) (aCons (eVar 3) (aCons (eVar 3) aNil)))))), [4]⟩ []))))) (sRet (eFrz (aCal gSorted (aCons (eVar 2) aNil))))))
def F_law_worlds : MF := fnF 2 5 M_law_worlds
theorem ok_law_worlds {P : Program} {w : World} {K : PySem.W.Frag} {mg : PySem.Str → Option Value} {base : Heap} {fa : Addr} {fd : FuncData} (F : Fun K "_law_worlds" "_law_worlds" st_law_worlds fa fd) (m_sorted : mg "sorted" = none) (c__law_all : Cal P w K mg base 5 "_law_all" PS_law_all F_law_all) (c__law_lots : Cal P w K mg base 5 "_law_lots" PS_law_lots F_law_lots) :
    FnOk P w K mg base CX0 (5 + 1) fa fd PS_law_worlds (spF K mg 2 F_law_worlds) :=
  fn_ok F sc_law_worlds fun cdv A outer s H E hr =>
    (ss_cons (ss_asg (ps_set (i := 2) (by exact sc_law_worlds.nd) rfl (.inl rfl) (se_frz (sf_lst sa_nil)))) (ss_cons (ss_for1 (ps_for PassesOwn.never rfl (si_seq (se_cal c__law_lots hr (by rfl) (sa_cons (se_var (pv 1)) sa_nil))) (sg_name (pg_name (i := 3) (by exact sc_law_worlds.nd) rfl (.inr rfl))) (ss_one (ss_asg (ps_set (i := 2) (by exact sc_law_worlds.nd) rfl (.inl rfl) (se_op os_add (se_var (pv 2)) (se_frz (sf_lc rfl (by exact sc_law_worlds.nd) (si_seq (se_cal c__law_lots hr (by rfl) (sa_cons (se_var (pv 3)) sa_nil))) (blkOk_by (own := [("here", 4)]) (by first | decide +kernel | rfl)) (fun _ _ _ _ _ => ⟨⟨rfl, (sg_name (pg_name (i := 4) (by exact sc_law_worlds.nd) rfl (.inl rfl))), (pts_one (st_w (sw_and (st_val (se_cal c__law_all hr (by rfl) (sa_cons (se_var (pv 0)) (sa_cons (se_var (pv 4)) (sa_cons (se_var (pv 3)) sa_nil))))) (sw_and1 (st_val (se_cal c__law_all hr (by rfl) (sa_cons (se_var (pv 0)) (sa_cons (se_var (pv 3)) (sa_cons (se_var (pv 3)) sa_nil))))))))), (in_name (by decide))⟩, .nil, (se_tup (sa_cons (se_var (pv 4)) (sa_cons (se_var (pv 3)) sa_nil)))⟩) (fun _ => rfl) rfl rfl)))))))) (ss_one (ss_ret (se_frz (sf_call (cf_sorted hr.units) (by rfl) m_sorted (by decide +kernel) (sa_cons (se_var (pv 2)) sa_nil)))))))
/-! ### done -/
abbrev st_done : Stmt := topS 38
def PS_done : List PySem.Str := ["rules", "step"]
theorem sc_done : FnScope ["rules", "step", "what", "rule", "fresh", "by", "far"] PS_done (defScope st_done) := ⟨rfl, rfl, rfl, by decide +kernel, rfl, by decide +kernel, by decide +kernel⟩
def M_done : MS := (sSeq (sAsgG (bTup 4 (bsCons (bName 2) (bsCons (bName 3) (bsCons (bName 4) (bsCons (bName 5) bsNil))))) (eVar 1)) (sRet (eFn F_in_order (aCons (eBin gAdd (eFrz (compF okL (eVar 6) ⟨aSeq (eVar 0), (bName 6), (tOf (eBin gNe (eVar 6) (eVar 3))), [6]⟩ [])) (eFrz (aCal gList (aCons (eVar 4) aNil)))) aNil))))
def F_done : MF := fnF 2 7 M_done
theorem ok_done {P : Program} {w : World} {K : PySem.W.Frag} {mg : PySem.Str → Option Value} {base : Heap} {fa : Addr} {fd : FuncData} (F : Fun K "done" "done" st_done fa fd) (m_list : mg "list" = none) (c_in_order : Cal P w K mg base 4 "in_order" PS_in_order F_in_order) :
    FnOk P w K mg base CX0 (4 + 1) fa fd PS_done (spF K mg 2 F_done) :=
  fn_ok F sc_done fun cdv A outer s H E hr =>
    (ss_cons (ss_asgG (ps_asg (se_var (pv 1)) (sg_tup rfl (sgs_cons (sg_name (pg_name (i := 2) (by exact sc_done.nd) rfl (.inl rfl))) (sgs_cons (sg_name (pg_name (i := 3) (by exact sc_done.nd) rfl (.inr rfl))) (sgs_cons (sg_name (pg_name (i := 4) (by exact sc_done.nd) rfl (.inl rfl))) (sgs_cons (sg_name (pg_name (i := 5) (by exact sc_done.nd) rfl (.inl rfl))) sgs_nil))))))) (ss_one (ss_ret (se_cal c_in_order hr (by rfl) (sa_cons (se_op os_add (se_frz (sf_lc rfl (by exact sc_done.nd) (si_seq (se_var (pv 0))) (blkOk_by (own := [("far", 6)]) (by first | decide +kernel | rfl)) (fun _ _ _ _ _ => ⟨⟨rfl, (sg_name (pg_name (i := 6) (by exact sc_done.nd) rfl (.inl rfl))), (pts_one (st_cmp (os_ne hr.units) (se_var (pv 6)) (se_var (pv 3)) (nomark _))), (in_name (by decide))⟩, .nil, (se_var (pv 6))⟩) (fun _ => rfl) rfl rfl)) (se_frz (sf_callT cf_list (by rfl) m_list (by decide +kernel) (sa_cons (se_var (pv 4)) sa_nil)))) sa_nil)))))
/-! ### _law_may -/
abbrev st_law_may : Stmt := topS 60
def PS_law_may : List PySem.Str := ["rules", "step", "letters"]
theorem sc_law_may : FnScope ["rules", "step", "letters", "what", "rule", "fresh", "by", "far"] PS_law_may (defScope st_law_may) := ⟨rfl, rfl, rfl, by decide +kernel, rfl, by decide +kernel, by decide +kernel⟩
def M_law_may : MS := (sSeq (sAsgG (bTup 4 (bsCons (bName 3) (bsCons (bName 4) (bsCons (bName 5) (bsCons (bName 6) bsNil))))) (eVar 1)) (sSeq (sIf (tOr (tOf (eBin (gIn true) (eVar 3) (eFrz (aLst (aCons (eC (.str "split")) (aCons (eC (.str "idle")) (aCons (eC (.str "never")) (aCons (eC (.str "double")) (aCons (eC (.str "shadow")) (aCons (eC (.str "given")) (aCons (eC (.str "barred")) (aCons (eC (.str "less")) aNil)))))))))))) (tOf (eBin (gIn true) (eVar 4) (eVar 0)))) (sRet (eC (.bl false))) sNil) (sSeq (sIf (tOf (eBin gNe (eFrz (compF okL (eVar 7) ⟨aSeq (eVar 6), (bName 7), (tOr (tOf (eBin (gIn true) (eVar 7) (eVar 0))) (tOf (eBin gEq (eVar 7) (eVar 4)))), [7]⟩ [])) (eFrz (aLst aNil)))) (sRet (eC (.bl false))) sNil) (sRet (eBin gEq (eFn F_law_worlds (aCons (eBin gAdd (eFrz (aLst (aCons (eVar 4) aNil))) (eFrz (aCal gList (aCons (eVar 6) aNil)))) (aCons (eVar 2) aNil))) (eFn F_law_worlds (aCons (eBin gAdd (eFrz (aCal gList (aCons (eVar 5) aNil))) (eFrz (aCal gList (aCons (eVar 6) aNil)))) (aCons (eVar 2) aNil))))))))
def F_law_may : MF := fnF 3 8 M_law_may
theorem ok_law_may {P : Program} {w : World} {K : PySem.W.Frag} {mg : PySem.Str → Option Value} {base : Heap} {fa : Addr} {fd : FuncData} (F : Fun K "_law_may" "_law_may" st_law_may fa fd) (m_list : mg "list" = none) (c__law_worlds : Cal P w K mg base 6 "_law_worlds" PS_law_worlds F_law_worlds) :
    FnOk P w K mg base CX0 (6 + 1) fa fd PS_law_may (spF K mg 3 F_law_may) :=
  fn_ok F sc_law_may fun cdv A outer s H E hr =>
    (ss_cons (ss_asgG (ps_asg (se_var (pv 1)) (sg_tup rfl (sgs_cons (sg_name (pg_name (i := 3) (by exact sc_law_may.nd) rfl (.inl rfl))) (sgs_cons (sg_name (pg_name (i := 4) (by exact sc_law_may.nd) rfl (.inr rfl))) (sgs_cons (sg_name (pg_name (i := 5) (by exact sc_law_may.nd) rfl (.inl rfl))) (sgs_cons (sg_name (pg_name (i := 6) (by exact sc_law_may.nd) rfl (.inl rfl))) sgs_nil))))))) (ss_cons (ss_if (st_w (sw_or (st_cmp (os_notin (r65 hr)) (se_var (pv 3)) (se_frz (sf_lst (sa_cons se_str (sa_cons se_str (sa_cons se_str (sa_cons se_str (sa_cons se_str (sa_cons se_str (sa_cons se_str (sa_cons se_str sa_nil)))))))))) (by rfl)) (sw_or1 (st_cmp (os_notin (r65 hr)) (se_var (pv 4)) (se_var (pv 0)) (by rfl))))) (ss_one (ss_ret se_bl)) ss_nil) (ss_cons (ss_if (st_cmp (os_ne hr.units) (se_frz (sf_lc rfl (by exact sc_law_may.nd) (si_seq (se_var (pv 6))) (blkOk_by (own := [("far", 7)]) (by first | decide +kernel | rfl)) (fun _ _ _ _ _ => ⟨⟨rfl, (sg_name (pg_name (i := 7) (by exact sc_law_may.nd) rfl (.inl rfl))), (pts_one (st_w (sw_or (st_cmp (os_notin (r65 hr)) (se_var (pv 7)) (se_var (pv 0)) (by rfl)) (sw_or1 (st_cmp (os_eq hr.units) (se_var (pv 7)) (se_var (pv 4)) (nomark _)))))), (in_name (by decide))⟩, .nil, (se_var (pv 7))⟩) (fun _ => rfl) rfl rfl)) (se_frz (sf_lst sa_nil)) (nomark _)) (ss_one (ss_ret se_bl)) ss_nil) (ss_one (ss_ret (se_cmp (os_eq hr.units) (se_cal c__law_worlds hr (by rfl) (sa_cons (se_op os_add (se_frz (sf_lst (sa_cons (se_var (pv 4)) sa_nil))) (se_frz (sf_callT cf_list (by rfl) m_list (by decide +kernel) (sa_cons (se_var (pv 6)) sa_nil)))) (sa_cons (se_var (pv 2)) sa_nil))) (se_cal c__law_worlds hr (by rfl) (sa_cons (se_op os_add (se_frz (sf_callT cf_list (by rfl) m_list (by decide +kernel) (sa_cons (se_var (pv 5)) sa_nil))) (se_frz (sf_callT cf_list (by rfl) m_list (by decide +kernel) (sa_cons (se_var (pv 6)) sa_nil)))) (sa_cons (se_var (pv 2)) sa_nil))) (nomark _)))))))
/-! ### _law_bent -/
abbrev st_law_bent : Stmt := topS 61
def PS_law_bent : List PySem.Str := ["box", "rules", "step", "letters"]
theorem sc_law_bent : FnScope ["box", "rules", "step", "letters", "what", "rule", "fresh", "by", "odd", "found"] PS_law_bent (defScope st_law_bent) := ⟨rfl, rfl, rfl, by decide +kernel, rfl, by decide +kernel, by decide +kernel⟩
def M_law_bent : MS := (sSeq (sAsgG (bTup 4 (bsCons (bName 4) (bsCons (bName 5) (bsCons (bName 6) (bsCons (bName 7) bsNil))))) (eVar 2)) (sSeq (sAsg 8 (eTup (aCons (eC (.str "rule")) (aCons (eTup (aCons (eIdx (eVar 3) (eC (.int 0))) aNil)) (aCons (eCal gTuple (aCons (eSl (eVar 3) (oSome (eC (.int 1))) (oSome (eC (.int 3)))) aNil)) (aCons (eCal gTuple (aCons (eSl (eVar 3) (oSome (eC (.int 3))) oNone) aNil)) (aCons (eTup aNil) aNil))))))) (sSeq (sAsg 9 (eFrz (aLst (aCons (eTup (aCons (eC (.str "gone")) (aCons (eVar 5) (aCons (eVar 6) (aCons (eVar 7) aNil))))) (aCons (eTup (aCons (eVar 4) (aCons (eVar 8) (aCons (eVar 6) (aCons (eVar 7) aNil))))) (aCons (eTup (aCons (eVar 4) (aCons (eVar 5) (aCons (eVar 6) (aCons (eBin gAdd (eVar 7) (eTup (aCons (eVar 5) aNil))) aNil))))) (aCons (eTup (aCons (eVar 4) (aCons (eVar 5) (aCons (eVar 6) (aCons (eBin gAdd (eVar 7) (eTup (aCons (eVar 8) aNil))) aNil))))) (aCons (eTup (aCons (eVar 4) (aCons (eVar 5) (aCons (eVar 6) (aCons (eTup aNil) aNil))))) aNil)))))))) (sRet (eBin gAdd (eVar 9) (eFrz (aLst (aCons (eTup (aCons (eVar 4) (aCons (eVar 5) (aCons (eTup aNil) (aCons (eTup aNil) aNil))))) (aCons (eTup (aCons (eVar 4) (aCons (eVar 5) (aCons (eTup (aCons (eVar 5) aNil)) (aCons (eVar 7) aNil))))) (aCons (eTup (aCons (eVar 4) (aCons (eFn F_law_pick (aCons (eVar 0) (aCons (eVar 1) aNil))) (aCons (eVar 6) (aCons (eVar 7) aNil))))) aNil))))))))))
def F_law_bent : MF := fnF 4 10 M_law_bent
theorem ok_law_bent {P : Program} {w : World} {K : PySem.W.Frag} {mg : PySem.Str → Option Value} {base : Heap} {fa : Addr} {fd : FuncData} (F : Fun K "_law_bent" "_law_bent" st_law_bent fa fd) (m_tuple : mg "tuple" = none) (c__law_pick : Cal P w K mg base 5 "_law_pick" PS_law_pick F_law_pick) :
    FnOk P w K mg base CX0 (5 + 1) fa fd PS_law_bent (spF K mg 4 F_law_bent) :=
  fn_ok F sc_law_bent fun cdv A outer s H E hr =>
    (ss_cons (ss_asgG (ps_asg (se_var (pv 2)) (sg_tup rfl (sgs_cons (sg_name (pg_name (i := 4) (by exact sc_law_bent.nd) rfl (.inl rfl))) (sgs_cons (sg_name (pg_name (i := 5) (by exact sc_law_bent.nd) rfl (.inl rfl))) (sgs_cons (sg_name (pg_name (i := 6) (by exact sc_law_bent.nd) rfl (.inl rfl))) (sgs_cons (sg_name (pg_name (i := 7) (by exact sc_law_bent.nd) rfl (.inl rfl))) sgs_nil))))))) (ss_cons (ss_asg (ps_set (i := 8) (by exact sc_law_bent.nd) rfl (.inl rfl) (se_tup (sa_cons se_str (sa_cons (se_tup (sa_cons (se_idx (se_var (pv 3)) se_int) sa_nil)) (sa_cons (se_callT cs_tuple (by rfl) m_tuple (by decide +kernel) (sa_cons (se_sl (se_var (pv 3)) (so_some se_int) (so_some se_int)) sa_nil)) (sa_cons (se_callT cs_tuple (by rfl) m_tuple (by decide +kernel) (sa_cons (se_sl (se_var (pv 3)) (so_some se_int) so_none) sa_nil)) (sa_cons (se_tup sa_nil) sa_nil)))))))) (ss_cons (ss_asg (ps_set (i := 9) (by exact sc_law_bent.nd) rfl (.inl rfl) (se_frz (sf_lst (sa_cons (se_tup (sa_cons se_str (sa_cons (se_var (pv 5)) (sa_cons (se_var (pv 6)) (sa_cons (se_var (pv 7)) sa_nil))))) (sa_cons (se_tup (sa_cons (se_var (pv 4)) (sa_cons (se_var (pv 8)) (sa_cons (se_var (pv 6)) (sa_cons (se_var (pv 7)) sa_nil))))) (sa_cons (se_tup (sa_cons (se_var (pv 4)) (sa_cons (se_var (pv 5)) (sa_cons (se_var (pv 6)) (sa_cons (se_op os_add (se_var (pv 7)) (se_tup (sa_cons (se_var (pv 5)) sa_nil))) sa_nil))))) (sa_cons (se_tup (sa_cons (se_var (pv 4)) (sa_cons (se_var (pv 5)) (sa_cons (se_var (pv 6)) (sa_cons (se_op os_add (se_var (pv 7)) (se_tup (sa_cons (se_var (pv 8)) sa_nil))) sa_nil))))) (sa_cons (se_tup (sa_cons (se_var (pv 4)) (sa_cons (se_var (pv 5)) (sa_cons (se_var (pv 6)) (sa_cons (se_tup sa_nil) sa_nil))))) sa_nil))))))))) (ss_one (ss_ret (se_op os_add (se_var (pv 9)) (se_frz (sf_lst (sa_cons (se_tup (sa_cons (se_var (pv 4)) (sa_cons (se_var (pv 5)) (sa_cons (se_tup sa_nil) (sa_cons (se_tup sa_nil) sa_nil))))) (sa_cons (se_tup (sa_cons (se_var (pv 4)) (sa_cons (se_var (pv 5)) (sa_cons (se_tup (sa_cons (se_var (pv 5)) sa_nil)) (sa_cons (se_var (pv 7)) sa_nil))))) (sa_cons (se_tup (sa_cons (se_var (pv 4)) (sa_cons (se_cal c__law_pick hr (by rfl) (sa_cons (se_var (pv 0)) (sa_cons (se_var (pv 1)) sa_nil))) (sa_cons (se_var (pv 6)) (sa_cons (se_var (pv 7)) sa_nil))))) sa_nil)))))))))))
/-! ### _law_step_fits -/
abbrev st_law_step_fits : Stmt := topS 62
def PS_law_step_fits : List PySem.Str := ["box", "rules", "letters"]
theorem sc_law_step_fits : FnScope ["box", "rules", "letters", "step", "rows", "rule", "far", "row"] PS_law_step_fits (defScope st_law_step_fits) := ⟨rfl, rfl, rfl, by decide +kernel, rfl, by decide +kernel, by decide +kernel⟩
def M_law_step_fits : MS := (sSeq (sAsg 3 (eFn F_next_step (aCons (eVar 1) aNil))) (sSeq (sAsg 4 (eFrz (aLst aNil))) (sSeq (sFor (aSeq (eFrz (aCal gSorted (aCons (eVar 1) aNil)))) (bName 5) (sAsg 4 (eBin gAdd (eVar 4) (eFrz (compF okL (eVar 6) ⟨aSeq (eFn F_law_makers (aCons (eFrz (aCal gSorted (aCons (eVar 1) aNil))) (aCons (eVar 5) aNil))), (bName 6), (tOf (eBin (gIs true) (eVar 6) (eC .non))), [6]⟩ []))))) (sSeq (sIf (tOr (tOf (eBin gNe (eBin (gIs false) (eVar 3) (eC .non)) (eBin gEq (eVar 4) (eFrz (aLst aNil))))) (tAnd (tOf (eBin (gIs true) (eVar 3) (eC .non))) (tOf (eBin (gIn true) (eVar 3) (eVar 4))))) (sRet (eC (.bl false))) sNil) (sSeq (sFor (aSeq (eVar 4)) (bName 6) (sIf (tOr (tNot (tOf (eFn F_law_same (aCons (eFn F_is_step (aCons (eVar 1) (aCons (eVar 6) aNil))) (aCons (eC (.bl true)) aNil))))) (tOf (eBin gNe (eFn F_law_worlds (aCons (eFn F_done (aCons (eVar 1) (aCons (eVar 6) aNil))) (aCons (eVar 2) aNil))) (eFn F_law_worlds (aCons (eVar 1) (aCons (eVar 2) aNil)))))) (sRet (eC (.bl false))) sNil)) (sSeq (sIf (tOf (eBin (gIs false) (eVar 3) (eC .non))) (sRet (eC (.bl true))) sNil) (sSeq (sIf (tOr (tNot (tOf (eFn F_law_same (aCons (eFn F_is_step (aCons (eVar 1) (aCons (eVar 3) aNil))) (aCons (eC (.bl true)) aNil))))) (tOf (eBin gNe (eFn F_law_worlds (aCons (eFn F_done (aCons (eVar 1) (aCons (eVar 3) aNil))) (aCons (eVar 2) aNil))) (eFn F_law_worlds (aCons (eVar 1) (aCons (eVar 2) aNil)))))) (sRet (eC (.bl false))) sNil) (sSeq (sFor (aSeq (eFn F_law_bent (aCons (eVar 0) (aCons (eVar 1) (aCons (eVar 3) (aCons (eVar 2) aNil)))))) (bName 7) (sIf (tNot (tOf (eFn F_law_same (aCons (eFn F_is_step (aCons (eVar 1) (aCons (eVar 7) aNil))) (aCons (eFn F_law_may (aCons (eVar 1) (aCons (eVar 7) (aCons (eVar 2) aNil)))) aNil))))) (sRet (eC (.bl false))) sNil)) (sRet (eC (.bl true)))))))))))
def F_law_step_fits : MF := fnF 3 8 M_law_step_fits
theorem ok_law_step_fits {P : Program} {w : World} {K : PySem.W.Frag} {mg : PySem.Str → Option Value} {base : Heap} {fa : Addr} {fd : FuncData} (F : Fun K "_law_step_fits" "_law_step_fits" st_law_step_fits fa fd) (m_sorted : mg "sorted" = none) (c_next_step : Cal P w K mg base 10 "next_step" PS_next_step F_next_step) (c__law_makers : Cal P w K mg base 10 "_law_makers" PS_law_makers F_law_makers) (c__law_same : Cal P w K mg base 10 "_law_same" PS_law_same F_law_same) (c_is_step : Cal P w K mg base 10 "is_step" PS_is_step F_is_step) (c__law_worlds : Cal P w K mg base 10 "_law_worlds" PS_law_worlds F_law_worlds) (c_done : Cal P w K mg base 10 "done" PS_done F_done) (c__law_may : Cal P w K mg base 10 "_law_may" PS_law_may F_law_may) (c__law_bent : Cal P w K mg base 10 "_law_bent" PS_law_bent F_law_bent) :
    FnOk P w K mg base CX0 (10 + 1) fa fd PS_law_step_fits (spF K mg 3 F_law_step_fits) :=
  fn_ok F sc_law_step_fits fun cdv A outer s H E hr =>
    (ss_cons (ss_asg (ps_set (i := 3) (by exact sc_law_step_fits.nd) rfl (.inl rfl) (se_cal c_next_step hr (by rfl) (sa_cons (se_var (pv 1)) sa_nil)))) (ss_cons (ss_asg (ps_set (i := 4) (by exact sc_law_step_fits.nd) rfl (.inl rfl) (se_frz (sf_lst sa_nil)))) (ss_cons (ss_for1 (ps_for PassesOwn.never rfl (si_seq (se_frz (sf_call (cf_sorted hr.units) (by rfl) m_sorted (by decide +kernel) (sa_cons (se_var (pv 1)) sa_nil)))) (sg_name (pg_name (i := 5) (by exact sc_law_step_fits.nd) rfl (.inl rfl))) (ss_one (ss_asg (ps_set (i := 4) (by exact sc_law_step_fits.nd) rfl (.inl rfl) (se_op os_add (se_var (pv 4)) (se_frz (sf_lc rfl (by exact sc_law_step_fits.nd) (si_seq (se_cal c__law_makers hr (by rfl) (sa_cons (se_frz (sf_call (cf_sorted hr.units) (by rfl) m_sorted (by decide +kernel) (sa_cons (se_var (pv 1)) sa_nil))) (sa_cons (se_var (pv 5)) sa_nil)))) (blkOk_by (own := [("far", 6)]) (by first | decide +kernel | rfl)) (fun _ _ _ _ _ => ⟨⟨rfl, (sg_name (pg_name (i := 6) (by exact sc_law_step_fits.nd) rfl (.inl rfl))), (pts_one (st_cmp os_isnot (se_var (pv 6)) se_non (nomark _))), (in_name (by decide))⟩, .nil, (se_var (pv 6))⟩) (fun _ => rfl) rfl rfl)))))))) (ss_cons (ss_if (st_w (sw_or (st_cmp (os_ne hr.units) (se_cmp os_is (se_var (pv 3)) se_non (nomark _)) (se_cmp (os_eq hr.units) (se_var (pv 4)) (se_frz (sf_lst sa_nil)) (nomark _)) (nomark _)) (sw_or1 (st_w (sw_and (st_cmp os_isnot (se_var (pv 3)) se_non (nomark _)) (sw_and1 (st_cmp (os_notin (r65 hr)) (se_var (pv 3)) (se_var (pv 4)) (by rfl)))))))) (ss_one (ss_ret se_bl)) ss_nil) (ss_cons (ss_for1 (ps_for PassesOwn.never rfl (si_seq (se_var (pv 4))) (sg_name (pg_name (i := 6) (by exact sc_law_step_fits.nd) rfl (.inl rfl))) (ss_one (ss_if (st_w (sw_or (st_not (st_val (se_cal c__law_same hr (by rfl) (sa_cons (se_cal c_is_step hr (by rfl) (sa_cons (se_var (pv 1)) (sa_cons (se_var (pv 6)) sa_nil))) (sa_cons se_bl sa_nil))))) (sw_or1 (st_cmp (os_ne hr.units) (se_cal c__law_worlds hr (by rfl) (sa_cons (se_cal c_done hr (by rfl) (sa_cons (se_var (pv 1)) (sa_cons (se_var (pv 6)) sa_nil))) (sa_cons (se_var (pv 2)) sa_nil))) (se_cal c__law_worlds hr (by rfl) (sa_cons (se_var (pv 1)) (sa_cons (se_var (pv 2)) sa_nil))) (nomark _))))) (ss_one (ss_ret se_bl)) ss_nil)))) (ss_cons (ss_if (st_cmp os_is (se_var (pv 3)) se_non (nomark _)) (ss_one (ss_ret se_bl)) ss_nil) (ss_cons (ss_if (st_w (sw_or (st_not (st_val (se_cal c__law_same hr (by rfl) (sa_cons (se_cal c_is_step hr (by rfl) (sa_cons (se_var (pv 1)) (sa_cons (se_var (pv 3)) sa_nil))) (sa_cons se_bl sa_nil))))) (sw_or1 (st_cmp (os_ne hr.units) (se_cal c__law_worlds hr (by rfl) (sa_cons (se_cal c_done hr (by rfl) (sa_cons (se_var (pv 1)) (sa_cons (se_var (pv 3)) sa_nil))) (sa_cons (se_var (pv 2)) sa_nil))) (se_cal c__law_worlds hr (by rfl) (sa_cons (se_var (pv 1)) (sa_cons (se_var (pv 2)) sa_nil))) (nomark _))))) (ss_one (ss_ret se_bl)) ss_nil) (ss_cons (ss_for1 (ps_for PassesOwn.never rfl (si_seq (se_cal c__law_bent hr (by rfl) (sa_cons (se_var (pv 0)) (sa_cons (se_var (pv 1)) (sa_cons (se_var (pv 3)) (sa_cons (se_var (pv 2)) sa_nil)))))) (sg_name (pg_name (i := 7) (by exact sc_law_step_fits.nd) rfl (.inl rfl))) (ss_one (ss_if (st_not (st_val (se_cal c__law_same hr (by rfl) (sa_cons (se_cal c_is_step hr (by rfl) (sa_cons (se_var (pv 1)) (sa_cons (se_var (pv 7)) sa_nil))) (sa_cons (se_cal c__law_may hr (by rfl) (sa_cons (se_var (pv 1)) (sa_cons (se_var (pv 7)) (sa_cons (se_var (pv 2)) sa_nil)))) sa_nil))))) (ss_one (ss_ret se_bl)) ss_nil)))) (ss_one (ss_ret se_bl))))))))))
/-! ### simplified -/
abbrev st_simplified : Stmt := topS 39
def PS_simplified : List PySem.Str := ["rules"]
theorem sc_simplified : FnScope ["rules", "now", "steps", "step"] PS_simplified (defScope st_simplified) := ⟨rfl, rfl, rfl, by decide +kernel, rfl, by decide +kernel, by decide +kernel⟩
def M_simplified : MS := (sSeq (sParO 1 2 (eFn F_in_order (aCons (eVar 0) aNil)) (aLst aNil)) (sSeq (sAsg 3 (eFn F_next_step (aCons (eVar 1) aNil))) (sSeq (whileL (tOf (eBin (gIs true) (eVar 3) (eC .non))) (sSeq (sAsg 1 (eFn F_done (aCons (eVar 1) (aCons (eVar 3) aNil)))) (sSeq (sApp 2 (eVar 3)) (sAsg 3 (eFn F_next_step (aCons (eVar 1) aNil))))) fuel) (sRet (eTup (aCons (eVar 1) (aCons (eVar 2) aNil)))))))
def F_simplified : MF := fnF 1 4 M_simplified
theorem ok_simplified {P : Program} {w : World} {K : PySem.W.Frag} {mg : PySem.Str → Option Value} {base : Heap} {fa : Addr} {fd : FuncData} (F : Fun K "simplified" "simplified" st_simplified fa fd) (c_in_order : Cal P w K mg base 7 "in_order" PS_in_order F_in_order) (c_next_step : Cal P w K mg base 7 "next_step" PS_next_step F_next_step) (c_done : Cal P w K mg base 7 "done" PS_done F_done) :
    FnOk P w K mg base CX0 (7 + 1) fa fd PS_simplified (spF K mg 1 F_simplified) :=
  fn_ok F sc_simplified fun cdv A outer s H E hr =>
    (ss_cons (ss_parO (by decide) (ps_par rfl (by exact sc_simplified.nd) (i := 1) (j := 2) rfl rfl (by decide) rfl rfl (pa_af (se_cal c_in_order hr (by rfl) (sa_cons (se_var (pv 0)) sa_nil)) (sf_lst sa_nil)) (by rfl))) (ss_cons (ss_asg (ps_set (i := 3) (by exact sc_simplified.nd) rfl (.inl rfl) (se_cal c_next_step hr (by rfl) (sa_cons (se_var (pv 1)) sa_nil)))) (ss_cons (ss_while (ps_while PassesOwn.never (st_cmp os_isnot (se_var (pv 3)) se_non (nomark _)) (ss_cons (ss_asg (ps_set (i := 1) (by exact sc_simplified.nd) rfl (.inl rfl) (se_cal c_done hr (by rfl) (sa_cons (se_var (pv 1)) (sa_cons (se_var (pv 3)) sa_nil))))) (ss_cons (ss_app (ps_expr (pe_bm PySem.F.plainAttrs_list PySem.F.slot_list_append PySem.F.type_list_append mt_append (pv 2) (pa_cons (se_var (pv 3)) pa_nil)))) (ss_one (ss_asg (ps_set (i := 3) (by exact sc_simplified.nd) rfl (.inl rfl) (se_cal c_next_step hr (by rfl) (sa_cons (se_var (pv 1)) sa_nil))))))))) (ss_one (ss_ret (se_tup (sa_cons (se_var (pv 1)) (sa_cons (se_var (pv 2)) sa_nil))))))))
/-! ### _law_leads -/
abbrev st_law_leads : Stmt := topS 63
def PS_law_leads : List PySem.Str := ["rules", "fresh", "steps", "letters"]
theorem sc_law_leads : FnScope ["rules", "fresh", "steps", "letters", "now", "step", "far"] PS_law_leads (defScope st_law_leads) := ⟨rfl, rfl, rfl, by decide +kernel, rfl, by decide +kernel, by decide +kernel⟩
def M_law_leads : MS := (sSeq (sAsg 4 (eFrz (aSrtU (aCal (gSetB true) (aCons (eVar 0) aNil))))) (sSeq (sFor (aSeq (eVar 2)) (bName 5) (sSeq (sIf (tNot (tOf (eFn F_law_may (aCons (eVar 4) (aCons (eVar 5) (aCons (eVar 3) aNil)))))) (sRet (eC (.bl false))) sNil) (sAsg 4 (eFrz (aSrtU (aCal (gSetB true) (aCons (eBin gAdd (eFrz (compF okL (eVar 6) ⟨aSeq (eVar 4), (bName 6), (tOf (eBin gNe (eVar 6) (eIdx (eVar 5) (eC (.int 1))))), [6]⟩ [])) (eFrz (aCal gList (aCons (eIdx (eVar 5) (eC (.int 2))) aNil)))) aNil))))))) (sRet (eBin gEq (eVar 4) (eFrz (aSrtU (aCal (gSetB true) (aCons (eVar 1) aNil))))))))
def F_law_leads : MF := fnF 4 7 M_law_leads
theorem ok_law_leads {P : Program} {w : World} {K : PySem.W.Frag} {mg : PySem.Str → Option Value} {base : Heap} {fa : Addr} {fd : FuncData} (F : Fun K "_law_leads" "_law_leads" st_law_leads fa fd) (m_list : mg "list" = none) (m_set : mg "set" = none) (m_sorted : mg "sorted" = none) (c__law_may : Cal P w K mg base 7 "_law_may" PS_law_may F_law_may) :
    FnOk P w K mg base CX0 (7 + 1) fa fd PS_law_leads (spF K mg 4 F_law_leads) :=
  fn_ok F sc_law_leads fun cdv A outer s H E hr =>
    (ss_cons (ss_asg (ps_set (i := 4) (by exact sc_law_leads.nd) rfl (.inl rfl) (se_frz (sf_sortedU rfl hr.units (by rfl) m_sorted (su_set (cu_set true rfl hr.units) (by rfl) m_set (by decide +kernel) (sa_cons (se_var (pv 0)) sa_nil)))))) (ss_cons (ss_for1 (ps_for PassesOwn.never rfl (si_seq (se_var (pv 2))) (sg_name (pg_name (i := 5) (by exact sc_law_leads.nd) rfl (.inr rfl))) (ss_cons (ss_if (st_not (st_val (se_cal c__law_may hr (by rfl) (sa_cons (se_var (pv 4)) (sa_cons (se_var (pv 5)) (sa_cons (se_var (pv 3)) sa_nil)))))) (ss_one (ss_ret se_bl)) ss_nil) (ss_one (ss_asg (ps_set (i := 4) (by exact sc_law_leads.nd) rfl (.inl rfl) (se_frz (sf_sortedU rfl hr.units (by rfl) m_sorted (su_set (cu_set true rfl hr.units) (by rfl) m_set (by decide +kernel) (sa_cons (se_op os_add (se_frz (sf_lc rfl (by exact sc_law_leads.nd) (si_seq (se_var (pv 4))) (blkOk_by (own := [("far", 6)]) (by first | decide +kernel | rfl)) (fun _ _ _ _ _ => ⟨⟨rfl, (sg_name (pg_name (i := 6) (by exact sc_law_leads.nd) rfl (.inl rfl))), (pts_one (st_cmp (os_ne hr.units) (se_var (pv 6)) (se_idx (se_var (pv 5)) se_int) (nomark _))), (in_name (by decide))⟩, .nil, (se_var (pv 6))⟩) (fun _ => rfl) rfl rfl)) (se_frz (sf_callT cf_list (by rfl) m_list (by decide +kernel) (sa_cons (se_idx (se_var (pv 5)) se_int) sa_nil)))) sa_nil)))))))))) (ss_one (ss_ret (se_cmp (os_eq hr.units) (se_var (pv 4)) (se_frz (sf_sortedU rfl hr.units (by rfl) m_sorted (su_set (cu_set true rfl hr.units) (by rfl) m_set (by decide +kernel) (sa_cons (se_var (pv 1)) sa_nil)))) (nomark _))))))
/-! ### shows_simpler -/
abbrev st_shows_simpler : Stmt := topS 41
def PS_shows_simpler : List PySem.Str := ["rules", "fresh", "steps"]
theorem sc_shows_simpler : FnScope ["rules", "fresh", "steps", "now", "step"] PS_shows_simpler (defScope st_shows_simpler) := ⟨rfl, rfl, rfl, by decide +kernel, rfl, by decide +kernel, by decide +kernel⟩
def M_shows_simpler : MS := (sSeq (sAsg 3 (eFn F_in_order (aCons (eVar 0) aNil))) (sSeq (sFor (aSeq (eVar 2)) (bName 4) (sSeq (sIf (tNot (tOf (eFn F_is_step (aCons (eVar 3) (aCons (eVar 4) aNil))))) (sRet (eC (.bl false))) sNil) (sAsg 3 (eFn F_done (aCons (eVar 3) (aCons (eVar 4) aNil)))))) (sRet (eBin gEq (eVar 3) (eFn F_in_order (aCons (eVar 1) aNil))))))
def F_shows_simpler : MF := fnF 3 5 M_shows_simpler
theorem ok_shows_simpler {P : Program} {w : World} {K : PySem.W.Frag} {mg : PySem.Str → Option Value} {base : Heap} {fa : Addr} {fd : FuncData} (F : Fun K "shows_simpler" "shows_simpler" st_shows_simpler fa fd) (c_in_order : Cal P w K mg base 10 "in_order" PS_in_order F_in_order) (c_is_step : Cal P w K mg base 10 "is_step" PS_is_step F_is_step) (c_done : Cal P w K mg base 10 "done" PS_done F_done) :
    FnOk P w K mg base CX0 (10 + 1) fa fd PS_shows_simpler (spF K mg 3 F_shows_simpler) :=
  fn_ok F sc_shows_simpler fun cdv A outer s H E hr =>
    (ss_cons (ss_asg (ps_set (i := 3) (by exact sc_shows_simpler.nd) rfl (.inl rfl) (se_cal c_in_order hr (by rfl) (sa_cons (se_var (pv 0)) sa_nil)))) (ss_cons (ss_for1 (ps_for PassesOwn.never rfl (si_seq (se_var (pv 2))) (sg_name (pg_name (i := 4) (by exact sc_shows_simpler.nd) rfl (.inl rfl))) (ss_cons (ss_if (st_not (st_val (se_cal c_is_step hr (by rfl) (sa_cons (se_var (pv 3)) (sa_cons (se_var (pv 4)) sa_nil))))) (ss_one (ss_ret se_bl)) ss_nil) (ss_one (ss_asg (ps_set (i := 3) (by exact sc_shows_simpler.nd) rfl (.inl rfl) (se_cal c_done hr (by rfl) (sa_cons (se_var (pv 3)) (sa_cons (se_var (pv 4)) sa_nil))))))))) (ss_one (ss_ret (se_cmp (os_eq hr.units) (se_var (pv 3)) (se_cal c_in_order hr (by rfl) (sa_cons (se_var (pv 1)) sa_nil)) (nomark _))))))
/-! ### unused -/
abbrev st_unused : Stmt := topS 43
def PS_unused : List PySem.Str := ["rules"]
theorem sc_unused : FnScope ["rules", "heads", "rule", "letter", "body", "part"] PS_unused (defScope st_unused) := ⟨rfl, rfl, rfl, by decide +kernel, rfl, by decide +kernel, by decide +kernel⟩
def M_unused : MS := (sSeq (sAsg 1 (eFrz (compF okL (eVar 3) ⟨aSeq (eVar 0), (bName 2), tAll, [2, 3]⟩ [⟨aSeq (eIdx (eVar 2) (eC (.int 1))), (bName 3), tAll, [3]⟩]))) (sSeq (sAsg 4 (eFrz (compF okL (eVar 3) ⟨aSeq (eVar 0), (bName 2), tAll, [2, 5, 3]⟩ [⟨aSeq (eSl (eVar 2) (oSome (eC (.int 2))) oNone), (bName 5), tAll, [5, 3]⟩, ⟨aSeq (eVar 5), (bName 3), tAll, [3]⟩]))) (sRet (eFrz (aSrtU (compF (okC false) (eVar 3) ⟨aSeq (eVar 4), (bName 3), (tOf (eBin (gIn true) (eVar 3) (eVar 1))), [3]⟩ []))))))
def F_unused : MF := fnF 1 6 M_unused
theorem ok_unused {P : Program} {w : World} {K : PySem.W.Frag} {mg : PySem.Str → Option Value} {base : Heap} {fa : Addr} {fd : FuncData} (F : Fun K "unused" "unused" st_unused fa fd) (m_sorted : mg "sorted" = none) :
    FnOk P w K mg base CX0 (3 + 1) fa fd PS_unused (spF K mg 1 F_unused) :=
  fn_ok F sc_unused fun cdv A outer s H E hr =>
    (ss_cons (ss_asg (ps_set (i := 1) (by exact sc_unused.nd) rfl (.inr rfl) (se_frz (sf_lc rfl (by exact sc_unused.nd) (si_seq (se_var (pv 0))) (blkOk_by (own := [("rule", 2), ("letter", 3)]) (by first | decide +kernel | rfl)) (fun _ _ _ _ _ => ⟨⟨rfl, (sg_name (pg_name (i := 2) (by exact sc_unused.nd) rfl (.inl rfl))), pts_all, (in_name (by decide))⟩, (.cons ⟨rfl, (sg_name (pg_name (i := 3) (by exact sc_unused.nd) rfl (.inl rfl))), pts_all, (in_name (by decide))⟩ (si_seq (se_idx (se_var (pv 2)) se_int)) (fun _ _ => rfl) (by decide) .nil), (se_var (pv 3))⟩) (fun _ => rfl) rfl rfl)))) (ss_cons (ss_asgF (y := "body") (py := ⟨0, 0, 0, 0⟩) (sf_setLc (i := 4) rfl (by exact sc_unused.nd) rfl rfl (sw_true rfl rfl (by decide +kernel) (by decide +kernel)) (si_seq (se_var (pv 0))) (blkOk_by (own := [("rule", 2), ("part", 5), ("letter", 3)]) (by first | decide +kernel | rfl)) (fun _ _ _ _ _ => ⟨⟨rfl, (sg_name (pg_name (i := 2) (by exact sc_unused.nd) rfl (.inl rfl))), pts_all, (in_name (by decide))⟩, (.cons ⟨rfl, (sg_name (pg_name (i := 5) (by exact sc_unused.nd) rfl (.inl rfl))), pts_all, (in_name (by decide))⟩ (si_seq (se_sl (se_var (pv 2)) (so_some se_int) so_none)) (fun _ _ => rfl) (by decide) (.cons ⟨rfl, (sg_name (pg_name (i := 3) (by exact sc_unused.nd) rfl (.inl rfl))), pts_all, (in_name (by decide))⟩ (si_seq (se_var (pv 5))) (fun _ _ => rfl) (by decide) .nil)), (se_var (pv 3))⟩) (fun _ => rfl) rfl rfl)) (ss_one (ss_ret (se_frz (sf_sortedU rfl hr.units (by rfl) m_sorted (su_sc (b := false) rfl (by exact sc_unused.nd) hr.units (si_seq (se_var (pv 4))) (blkOk_by (own := [("letter", 3)]) (by first | decide +kernel | rfl)) (fun _ _ _ _ _ => ⟨⟨rfl, (sg_name (pg_name (i := 3) (by exact sc_unused.nd) rfl (.inl rfl))), (pts_one (st_cmp (os_notin (r65 hr)) (se_var (pv 3)) (se_var (pv 1)) (by rfl))), (in_name (by decide))⟩, .nil, (se_var (pv 3))⟩) (fun _ => rfl) rfl rfl)))))))
/-! ### plain_rule -/
abbrev st_plain_rule : Stmt := topS 5
def PS_plain_rule : List PySem.Str := ["kind", "heads", "pos", "neg", "twice"]
theorem sc_plain_rule : FnScope ["kind", "heads", "pos", "neg", "twice"] PS_plain_rule (defScope st_plain_rule) := ⟨rfl, rfl, rfl, by decide +kernel, rfl, by decide +kernel, by decide +kernel⟩
def M_plain_rule : MS := (sRet (eTup (aCons (eVar 0) (aCons (eFn F_lot (aCons (eVar 1) aNil)) (aCons (eFn F_lot (aCons (eVar 2) aNil)) (aCons (eFn F_lot (aCons (eVar 3) aNil)) (aCons (eFn F_lot (aCons (eVar 4) aNil)) aNil)))))))
def F_plain_rule : MF := fnF 5 5 M_plain_rule
theorem ok_plain_rule {P : Program} {w : World} {K : PySem.W.Frag} {mg : PySem.Str → Option Value} {base : Heap} {fa : Addr} {fd : FuncData} (F : Fun K "plain_rule" "plain_rule" st_plain_rule fa fd) (c_lot : Cal P w K mg base 4 "lot" PS_lot F_lot) :
    FnOk P w K mg base CX0 (4 + 1) fa fd PS_plain_rule (spF K mg 5 F_plain_rule) :=
  fn_ok F sc_plain_rule fun cdv A outer s H E hr =>
    (ss_one (ss_ret (se_tup (sa_cons (se_var (pv 0)) (sa_cons (se_cal c_lot hr (by rfl) (sa_cons (se_var (pv 1)) sa_nil)) (sa_cons (se_cal c_lot hr (by rfl) (sa_cons (se_var (pv 2)) sa_nil)) (sa_cons (se_cal c_lot hr (by rfl) (sa_cons (se_var (pv 3)) sa_nil)) (sa_cons (se_cal c_lot hr (by rfl) (sa_cons (se_var (pv 4)) sa_nil)) sa_nil))))))))
/-! ### as_barred -/
abbrev st_as_barred : Stmt := topS 44
def PS_as_barred : List PySem.Str := ["rules"]
theorem sc_as_barred : FnScope ["rules", "letter"] PS_as_barred (defScope st_as_barred) := ⟨rfl, rfl, rfl, by decide +kernel, rfl, by decide +kernel, by decide +kernel⟩
def M_as_barred : MS := (sRet (eFn F_in_order (aCons (eBin gAdd (eFrz (aCal gList (aCons (eVar 0) aNil))) (eFrz (compF okL (eFn F_plain_rule (aCons (eC (.str "rule")) (aCons (eFrz (aLst aNil)) (aCons (eFrz (aLst (aCons (eVar 1) aNil))) (aCons (eFrz (aLst aNil)) (aCons (eFrz (aLst aNil)) aNil)))))) ⟨aSeq (eFn F_unused (aCons (eVar 0) aNil)), (bName 1), tAll, [1]⟩ []))) aNil)))
def F_as_barred : MF := fnF 1 2 M_as_barred
theorem ok_as_barred {P : Program} {w : World} {K : PySem.W.Frag} {mg : PySem.Str → Option Value} {base : Heap} {fa : Addr} {fd : FuncData} (F : Fun K "as_barred" "as_barred" st_as_barred fa fd) (m_list : mg "list" = none) (c_in_order : Cal P w K mg base 5 "in_order" PS_in_order F_in_order) (c_unused : Cal P w K mg base 5 "unused" PS_unused F_unused) (c_plain_rule : Cal P w K mg base 5 "plain_rule" PS_plain_rule F_plain_rule) :
    FnOk P w K mg base CX0 (5 + 1) fa fd PS_as_barred (spF K mg 1 F_as_barred) :=
  fn_ok F sc_as_barred fun cdv A outer s H E hr =>
    (ss_one (ss_ret (se_cal c_in_order hr (by rfl) (sa_cons (se_op os_add (se_frz (sf_callT cf_list (by rfl) m_list (by decide +kernel) (sa_cons (se_var (pv 0)) sa_nil))) (se_frz (sf_lc rfl (by exact sc_as_barred.nd) (si_seq (se_cal c_unused hr (by rfl) (sa_cons (se_var (pv 0)) sa_nil))) (blkOk_by (own := [("letter", 1)]) (by first | decide +kernel | rfl)) (fun _ _ _ _ _ => ⟨⟨rfl, (sg_name (pg_name (i := 1) (by exact sc_as_barred.nd) rfl (.inl rfl))), pts_all, (in_name (by decide))⟩, .nil, (se_cal c_plain_rule hr (by rfl) (sa_cons se_str (sa_cons (se_frz (sf_lst sa_nil)) (sa_cons (se_frz (sf_lst (sa_cons (se_var (pv 1)) sa_nil))) (sa_cons (se_frz (sf_lst sa_nil)) (sa_cons (se_frz (sf_lst sa_nil)) sa_nil))))))⟩) (fun _ => rfl) rfl rfl))) sa_nil))))
/-! ### size_of -/
abbrev st_size_of : Stmt := topS 42
def PS_size_of : List PySem.Str := ["rules"]
theorem sc_size_of : FnScope ["rules", "rule", "part"] PS_size_of (defScope st_size_of) := ⟨rfl, rfl, rfl, by decide +kernel, rfl, by decide +kernel, by decide +kernel⟩
def M_size_of : MS := (sRet (eTup (aCons (eCal gLen (aCons (eFn F_in_order (aCons (eVar 0) aNil)) aNil)) (aCons (eCal gSum (aCons (eFrz (compF okL (eCal gLen (aCons (eVar 2) aNil)) ⟨aSeq (eFn F_in_order (aCons (eVar 0) aNil)), (bName 1), tAll, [1, 2]⟩ [⟨aSeq (eSl (eVar 1) (oSome (eC (.int 1))) oNone), (bName 2), tAll, [2]⟩])) aNil)) aNil))))
def F_size_of : MF := fnF 1 3 M_size_of
theorem ok_size_of {P : Program} {w : World} {K : PySem.W.Frag} {mg : PySem.Str → Option Value} {base : Heap} {fa : Addr} {fd : FuncData} (F : Fun K "size_of" "size_of" st_size_of fa fd) (m_len : mg "len" = none) (m_sum : mg "sum" = none) (c_in_order : Cal P w K mg base 4 "in_order" PS_in_order F_in_order) :
    FnOk P w K mg base CX0 (4 + 1) fa fd PS_size_of (spF K mg 1 F_size_of) :=
  fn_ok F sc_size_of fun cdv A outer s H E hr =>
    (ss_one (ss_ret (se_tup (sa_cons (se_call cs_len (by rfl) m_len (by decide +kernel) (sa_cons (se_cal c_in_order hr (by rfl) (sa_cons (se_var (pv 0)) sa_nil)) sa_nil)) (sa_cons (se_call (cs_sum rfl) (by rfl) m_sum (by decide +kernel) (sa_cons (se_frz (sf_lc rfl (by exact sc_size_of.nd) (si_seq (se_cal c_in_order hr (by rfl) (sa_cons (se_var (pv 0)) sa_nil))) (blkOk_by (own := [("rule", 1), ("part", 2)]) (by first | decide +kernel | rfl)) (fun _ _ _ _ _ => ⟨⟨rfl, (sg_name (pg_name (i := 1) (by exact sc_size_of.nd) rfl (.inl rfl))), pts_all, (in_name (by decide))⟩, (.cons ⟨rfl, (sg_name (pg_name (i := 2) (by exact sc_size_of.nd) rfl (.inl rfl))), pts_all, (in_name (by decide))⟩ (si_seq (se_sl (se_var (pv 1)) (so_some se_int) so_none)) (fun _ _ => rfl) (by decide) .nil), (se_call cs_len (by rfl) m_len (by decide +kernel) (sa_cons (se_var (pv 2)) sa_nil))⟩) (fun _ => rfl) rfl rfl)) sa_nil)) sa_nil)))))
/-! ### law -/
abbrev st_law : Stmt := topS 64
def PS_law : List PySem.Str := ["script"]
theorem sc_law : FnScope ["script", "box", "letters", "rules", "fresh", "steps", "rows", "row", "heads", "body", "rule", "rest", "letter", "facts", "bars", "part"] PS_law (defScope st_law) := ⟨rfl, rfl, rfl, by decide +kernel, rfl, by decide +kernel, by decide +kernel⟩
def M_law : MS := (sSeq (sBox 1 (aLst (aCons (eFn F_law_digits (aCons (eVar 0) (aCons (eC (.int 0)) (aCons (eC (.int 40)) aNil)))) (aCons (eC (.int 0)) aNil)))) (sSeq (sAsg 2 (eSl (eFrz (aLst (aCons (eC (.str "a")) (aCons (eC (.str "b")) (aCons (eC (.str "c")) (aCons (eC (.str "d")) aNil)))))) oNone (oSome (eBin gAdd (eC (.int 3)) (eFn F_law_draw (aCons (eVar 1) (aCons (eC (.int 2)) aNil))))))) (sSeq (sAsg 3 (eFn F_law_book (aCons (eVar 1) (aCons (eVar 2) aNil)))) (sSeq (sIf (tNot (tOf (eFn F_law_step_fits (aCons (eVar 1) (aCons (eVar 3) (aCons (eVar 2) aNil)))))) (sRet (eC (.bl false))) sNil) (sSeq (sAsgG (bTup 2 (bsCons (bName 4) (bsCons (bName 5) bsNil))) (eFn F_simplified (aCons (eFrz (aCal gList (aCons (eVar 3) aNil))) aNil))) (sSeq (sIf (tOr (tNot (tOf (eIsi "list" (eVar 4)))) (tOr (tOf (eBin gNe (eFn F_law_worlds (aCons (eVar 4) (aCons (eVar 2) aNil))) (eFn F_law_worlds (aCons (eVar 3) (aCons (eVar 2) aNil))))) (tOf (eBin (gIs true) (eFn F_next_step (aCons (eVar 4) aNil)) (eC .non))))) (sRet (eC (.bl false))) sNil) (sSeq (sAsg 6 (eFrz (aLst (aCons (eVar 5) (aCons (eSl (eVar 5) (oSome (eC (.int 1))) oNone) (aCons (eSl (eVar 5) oNone (oSome (eNeg (eC (.int 1))))) (aCons (eBin gAdd (eVar 5) (eSl (eVar 5) (oSome (eNeg (eC (.int 1)))) oNone)) (aCons (eRev (eVar 5)) aNil)))))))) (sSeq (sIf (tNot (tOf (eFn F_law_same (aCons (eFrz (compF okL (eFn F_shows_simpler (aCons (eVar 3) (aCons (eVar 4) (aCons (eFrz (aCal gList (aCons (eVar 7) aNil))) aNil)))) ⟨aSeq (eVar 6), (bName 7), tAll, [7]⟩ [])) (aCons (eFrz (compF okL (eFn F_law_leads (aCons (eVar 3) (aCons (eVar 4) (aCons (eVar 7) (aCons (eVar 2) aNil))))) ⟨aSeq (eVar 6), (bName 7), tAll, [7]⟩ [])) aNil))))) (sRet (eC (.bl false))) sNil) (sSeq (sIf (tNot (tOf (eFn F_law_same (aCons (eFn F_shows_simpler (aCons (eVar 3) (aCons (eVar 4) (aCons (eFrz (aCal gList (aCons (eVar 5) aNil))) aNil)))) (aCons (eC (.bl true)) aNil))))) (sRet (eC (.bl false))) sNil) (sSeq (sAsgG (bTup 2 (bsCons (bName 8) (bsCons (bName 9) bsNil))) (eTup (aCons (eFrz (aLst aNil)) (aCons (eFrz (aLst aNil)) aNil)))) (sSeq (sFor (aSeq (eVar 3)) (bName 10) (sSeq (sAsg 8 (eBin gAdd (eVar 8) (eFrz (aCal gList (aCons (eIdx (eVar 10) (eC (.int 1))) aNil))))) (sAsg 9 (eBin gAdd (eVar 9) (eFrz (aCal gList (aCons (eBin gAdd (eBin gAdd (eIdx (eVar 10) (eC (.int 2))) (eIdx (eVar 10) (eC (.int 3)))) (eIdx (eVar 10) (eC (.int 4)))) aNil))))))) (sSeq (sAsg 11 (eFrz (aSrtU (aCal (gSetB false) (aCons (eFrz (compF okL (eVar 12) ⟨aSeq (eVar 9), (bName 12), (tOf (eBin (gIn true) (eVar 12) (eVar 8))), [12]⟩ [])) aNil))))) (sSeq (sIf (tNot (tOf (eFn F_law_same (aCons (eFrz (aLst (aCons (eFn F_unused (aCons (eVar 3) aNil)) (aCons (eFn F_as_barred (aCons (eVar 3) aNil)) aNil)))) (aCons (eFrz (aLst (aCons (eVar 11) (aCons (eFrz (aSrtU (aCal (gSetB true) (aCons (eBin gAdd (eVar 3) (eFrz (compF okL (eTup (aCons (eC (.str "rule")) (aCons (eTup aNil) (aCons (eTup (aCons (eVar 12) aNil)) (aCons (eTup aNil) (aCons (eTup aNil) aNil)))))) ⟨aSeq (eVar 11), (bName 12), tAll, [12]⟩ []))) aNil)))) aNil)))) aNil))))) (sRet (eC (.bl false))) sNil) (sSeq (sAsg 13 (eFrz (compF okL (eIdx (eIdx (eVar 10) (eC (.int 1))) (eC (.int 0))) ⟨aSeq (eFrz (aCal gSorted (aCons (eVar 3) aNil))), (bName 10), (tAnd (tOf (eBin gEq (eIdx (eVar 10) (eC (.int 0))) (eC (.str "rule")))) (tAnd (tOf (eBin gEq (eCal gLen (aCons (eIdx (eVar 10) (eC (.int 1))) aNil)) (eC (.int 1)))) (tOf (eBin gEq (eSl (eVar 10) (oSome (eC (.int 2))) oNone) (eTup (aCons (eTup aNil) (aCons (eTup aNil) (aCons (eTup aNil) aNil)))))))), [10]⟩ []))) (sSeq (sAsg 14 (eFrz (aSrtU (aCal (gSetB false) (aCons (eFrz (compF okL (eIdx (eBin gAdd (eIdx (eVar 10) (eC (.int 2))) (eIdx (eVar 10) (eC (.int 4)))) (eC (.int 0))) ⟨aSeq (eVar 3), (bName 10), (tAnd (tOf (eBin gEq (eIdx (eVar 10) (eC (.int 1))) (eTup aNil))) (tAnd (tOf (eBin gEq (eIdx (eVar 10) (eC (.int 3))) (eTup aNil))) (tOf (eBin gEq (eCal gLen (aCons (eBin gAdd (eIdx (eVar 10) (eC (.int 2))) (eIdx (eVar 10) (eC (.int 4)))) aNil)) (eC (.int 1)))))), [10]⟩ [])) aNil))))) (sSeq (sIf (tNot (tOf (eFn F_law_same (aCons (eFrz (aLst (aCons (eFn F_facts_in (aCons (eVar 3) aNil)) (aCons (eFn F_denials_in (aCons (eVar 3) aNil)) aNil)))) (aCons (eFrz (aLst (aCons (eFrz (aCal gSorted (aCons (eVar 13) aNil))) (aCons (eVar 14) aNil)))) aNil))))) (sRet (eC (.bl false))) sNil) (sRet (eFn F_law_same (aCons (eFn F_size_of (aCons (eVar 3) aNil)) (aCons (eTup (aCons (eCal gLen (aCons (eVar 3) aNil)) (aCons (eCal gSum (aCons (eFrz (compF okL (eCal gSum (aCons (eFrz (compF okL (eCal gLen (aCons (eVar 15) aNil)) ⟨aSeq (eSl (eVar 10) (oSome (eC (.int 1))) oNone), (bName 15), tAll, [15]⟩ [])) aNil)) ⟨aSeq (eVar 3), (bName 10), tAll, [10]⟩ [])) aNil)) aNil))) aNil))))))))))))))))))))
def F_law : MF := fnF 1 16 M_law
theorem ok_law {P : Program} {w : World} {K : PySem.W.Frag} {mg : PySem.Str → Option Value} {base : Heap} {fa : Addr} {fd : FuncData} (F : Fun K "law" "law" st_law fa fd) (m_isinstance : mg "isinstance" = none) (m_len : mg "len" = none) (m_list : mg "list" = none) (m_set : mg "set" = none) (m_sorted : mg "sorted" = none) (m_sum : mg "sum" = none) (c__law_digits : Cal P w K mg base 11 "_law_digits" PS_law_digits F_law_digits) (c__law_draw : Cal P w K mg base 11 "_law_draw" PS_law_draw F_law_draw) (c__law_book : Cal P w K mg base 11 "_law_book" PS_law_book F_law_book) (c__law_step_fits : Cal P w K mg base 11 "_law_step_fits" PS_law_step_fits F_law_step_fits) (c_simplified : Cal P w K mg base 11 "simplified" PS_simplified F_simplified) (c__law_worlds : Cal P w K mg base 11 "_law_worlds" PS_law_worlds F_law_worlds) (c_next_step : Cal P w K mg base 11 "next_step" PS_next_step F_next_step) (c__law_same : Cal P w K mg base 11 "_law_same" PS_law_same F_law_same) (c__law_leads : Cal P w K mg base 11 "_law_leads" PS_law_leads F_law_leads) (c_shows_simpler : Cal P w K mg base 11 "shows_simpler" PS_shows_simpler F_shows_simpler) (c_as_barred : Cal P w K mg base 11 "as_barred" PS_as_barred F_as_barred) (c_unused : Cal P w K mg base 11 "unused" PS_unused F_unused) (c_denials_in : Cal P w K mg base 11 "denials_in" PS_denials_in F_denials_in) (c_facts_in : Cal P w K mg base 11 "facts_in" PS_facts_in F_facts_in) (c_size_of : Cal P w K mg base 11 "size_of" PS_size_of F_size_of) :
    FnOk P w K mg base CX0 (11 + 1) fa fd PS_law (spF K mg 1 F_law) :=
  fn_ok F sc_law fun cdv A outer s H E hr =>
    (ss_cons (ss_box (ps_set (i := 1) (by exact sc_law.nd) rfl (.inl rfl) (sf_lst (sa_cons (se_cal c__law_digits hr (by rfl) (sa_cons (se_var (pv 0)) (sa_cons se_int (sa_cons se_int sa_nil)))) (sa_cons se_int sa_nil))))) (ss_cons (ss_asg (ps_set (i := 2) (by exact sc_law.nd) rfl (.inr rfl) (se_sl (se_frz (sf_lst (sa_cons se_str (sa_cons se_str (sa_cons se_str (sa_cons se_str sa_nil)))))) so_none (so_some (se_op os_add se_int (se_cal c__law_draw hr (by rfl) (sa_cons (se_var (pv 1)) (sa_cons se_int sa_nil)))))))) (ss_cons (ss_asg (ps_set (i := 3) (by exact sc_law.nd) rfl (.inr rfl) (se_cal c__law_book hr (by rfl) (sa_cons (se_var (pv 1)) (sa_cons (se_var (pv 2)) sa_nil))))) (ss_cons (ss_if (st_not (st_val (se_cal c__law_step_fits hr (by rfl) (sa_cons (se_var (pv 1)) (sa_cons (se_var (pv 3)) (sa_cons (se_var (pv 2)) sa_nil)))))) (ss_one (ss_ret se_bl)) ss_nil) (ss_cons (ss_asgG (ps_asg (se_cal c_simplified hr (by rfl) (sa_cons (se_frz (sf_callT cf_list (by rfl) m_list (by decide +kernel) (sa_cons (se_var (pv 3)) sa_nil))) sa_nil)) (sg_tup rfl (sgs_cons (sg_name (pg_name (i := 4) (by exact sc_law.nd) rfl (.inr rfl))) (sgs_cons (sg_name (pg_name (i := 5) (by exact sc_law.nd) rfl (.inl rfl))) sgs_nil))))) (ss_cons (ss_if (st_w (sw_or (st_not (st_val (se_isi (by rfl) m_isinstance (by rfl) m_list boot_list (se_var (pv 4))))) (sw_or (st_cmp (os_ne hr.units) (se_cal c__law_worlds hr (by rfl) (sa_cons (se_var (pv 4)) (sa_cons (se_var (pv 2)) sa_nil))) (se_cal c__law_worlds hr (by rfl) (sa_cons (se_var (pv 3)) (sa_cons (se_var (pv 2)) sa_nil))) (nomark _)) (sw_or1 (st_cmp os_isnot (se_cal c_next_step hr (by rfl) (sa_cons (se_var (pv 4)) sa_nil)) se_non (nomark _)))))) (ss_one (ss_ret se_bl)) ss_nil) (ss_cons (ss_asg (ps_set (i := 6) (by exact sc_law.nd) rfl (.inl rfl) (se_frz (sf_lst (sa_cons (se_var (pv 5)) (sa_cons (se_sl (se_var (pv 5)) (so_some se_int) so_none) (sa_cons (se_sl (se_var (pv 5)) so_none (so_some (se_neg se_int))) (sa_cons (se_op os_add (se_var (pv 5)) (se_sl (se_var (pv 5)) (so_some (se_neg se_int)) so_none)) (sa_cons (se_rev (se_var (pv 5))) sa_nil))))))))) (ss_cons (ss_if (st_not (st_val (se_cal c__law_same hr (by rfl) (sa_cons (se_frz (sf_lc rfl (by exact sc_law.nd) (si_seq (se_var (pv 6))) (blkOk_by (own := [("row", 7)]) (by first | decide +kernel | rfl)) (fun _ _ _ _ _ => ⟨⟨rfl, (sg_name (pg_name (i := 7) (by exact sc_law.nd) rfl (.inl rfl))), pts_all, (in_name (by decide))⟩, .nil, (se_cal c_shows_simpler hr (by rfl) (sa_cons (se_var (pv 3)) (sa_cons (se_var (pv 4)) (sa_cons (se_frz (sf_callT cf_list (by rfl) m_list (by decide +kernel) (sa_cons (se_var (pv 7)) sa_nil))) sa_nil))))⟩) (fun _ => rfl) rfl rfl)) (sa_cons (se_frz (sf_lc rfl (by exact sc_law.nd) (si_seq (se_var (pv 6))) (blkOk_by (own := [("row", 7)]) (by first | decide +kernel | rfl)) (fun _ _ _ _ _ => ⟨⟨rfl, (sg_name (pg_name (i := 7) (by exact sc_law.nd) rfl (.inl rfl))), pts_all, (in_name (by decide))⟩, .nil, (se_cal c__law_leads hr (by rfl) (sa_cons (se_var (pv 3)) (sa_cons (se_var (pv 4)) (sa_cons (se_var (pv 7)) (sa_cons (se_var (pv 2)) sa_nil)))))⟩) (fun _ => rfl) rfl rfl)) sa_nil))))) (ss_one (ss_ret se_bl)) ss_nil) (ss_cons (ss_if (st_not (st_val (se_cal c__law_same hr (by rfl) (sa_cons (se_cal c_shows_simpler hr (by rfl) (sa_cons (se_var (pv 3)) (sa_cons (se_var (pv 4)) (sa_cons (se_frz (sf_callT cf_list (by rfl) m_list (by decide +kernel) (sa_cons (se_var (pv 5)) sa_nil))) sa_nil)))) (sa_cons se_bl sa_nil))))) (ss_one (ss_ret se_bl)) ss_nil) (ss_cons (ss_asgG (ps_asg (se_tup (sa_cons (se_frz (sf_lst sa_nil)) (sa_cons (se_frz (sf_lst sa_nil)) sa_nil))) (sg_tup rfl (sgs_cons (sg_name (pg_name (i := 8) (by exact sc_law.nd) rfl (.inr rfl))) (sgs_cons (sg_name (pg_name (i := 9) (by exact sc_law.nd) rfl (.inl rfl))) sgs_nil))))) (ss_cons (ss_for1 (ps_for PassesOwn.never rfl (si_seq (se_var (pv 3))) (sg_name (pg_name (i := 10) (by exact sc_law.nd) rfl (.inl rfl))) (ss_cons (ss_asg (ps_set (i := 8) (by exact sc_law.nd) rfl (.inr rfl) (se_op os_add (se_var (pv 8)) (se_frz (sf_callT cf_list (by rfl) m_list (by decide +kernel) (sa_cons (se_idx (se_var (pv 10)) se_int) sa_nil)))))) (ss_one (ss_asg (ps_set (i := 9) (by exact sc_law.nd) rfl (.inl rfl) (se_op os_add (se_var (pv 9)) (se_frz (sf_callT cf_list (by rfl) m_list (by decide +kernel) (sa_cons (se_op os_add (se_op os_add (se_idx (se_var (pv 10)) se_int) (se_idx (se_var (pv 10)) se_int)) (se_idx (se_var (pv 10)) se_int)) sa_nil)))))))))) (ss_cons (ss_asg (ps_set (i := 11) (by exact sc_law.nd) rfl (.inl rfl) (se_frz (sf_sortedU rfl hr.units (by rfl) m_sorted (su_set (cu_set false rfl hr.units) (by rfl) m_set (by decide +kernel) (sa_cons (se_frz (sf_lc rfl (by exact sc_law.nd) (si_seq (se_var (pv 9))) (blkOk_by (own := [("letter", 12)]) (by first | decide +kernel | rfl)) (fun _ _ _ _ _ => ⟨⟨rfl, (sg_name (pg_name (i := 12) (by exact sc_law.nd) rfl (.inl rfl))), (pts_one (st_cmp (os_notin (r65 hr)) (se_var (pv 12)) (se_var (pv 8)) (by rfl))), (in_name (by decide))⟩, .nil, (se_var (pv 12))⟩) (fun _ => rfl) rfl rfl)) sa_nil)))))) (ss_cons (ss_if (st_not (st_val (se_cal c__law_same hr (by rfl) (sa_cons (se_frz (sf_lst (sa_cons (se_cal c_unused hr (by rfl) (sa_cons (se_var (pv 3)) sa_nil)) (sa_cons (se_cal c_as_barred hr (by rfl) (sa_cons (se_var (pv 3)) sa_nil)) sa_nil)))) (sa_cons (se_frz (sf_lst (sa_cons (se_var (pv 11)) (sa_cons (se_frz (sf_sortedU rfl hr.units (by rfl) m_sorted (su_set (cu_set true rfl hr.units) (by rfl) m_set (by decide +kernel) (sa_cons (se_op os_add (se_var (pv 3)) (se_frz (sf_lc rfl (by exact sc_law.nd) (si_seq (se_var (pv 11))) (blkOk_by (own := [("letter", 12)]) (by first | decide +kernel | rfl)) (fun _ _ _ _ _ => ⟨⟨rfl, (sg_name (pg_name (i := 12) (by exact sc_law.nd) rfl (.inl rfl))), pts_all, (in_name (by decide))⟩, .nil, (se_tup (sa_cons se_str (sa_cons (se_tup sa_nil) (sa_cons (se_tup (sa_cons (se_var (pv 12)) sa_nil)) (sa_cons (se_tup sa_nil) (sa_cons (se_tup sa_nil) sa_nil))))))⟩) (fun _ => rfl) rfl rfl))) sa_nil)))) sa_nil)))) sa_nil))))) (ss_one (ss_ret se_bl)) ss_nil) (ss_cons (ss_asgF (y := "facts") (py := ⟨0, 0, 0, 0⟩) (sf_setLc (i := 13) rfl (by exact sc_law.nd) rfl rfl (sw_true rfl rfl (by decide +kernel) (by decide +kernel)) (si_seq (se_frz (sf_call (cf_sorted hr.units) (by rfl) m_sorted (by decide +kernel) (sa_cons (se_var (pv 3)) sa_nil)))) (blkOk_by (own := [("rule", 10)]) (by first | decide +kernel | rfl)) (fun _ _ _ _ _ => ⟨⟨rfl, (sg_name (pg_name (i := 10) (by exact sc_law.nd) rfl (.inl rfl))), (pts_one (st_w (sw_and (st_cmp (os_eq hr.units) (se_idx (se_var (pv 10)) se_int) se_str (nomark _)) (sw_and (st_cmp (os_eq hr.units) (se_call cs_len (by rfl) m_len (by decide +kernel) (sa_cons (se_idx (se_var (pv 10)) se_int) sa_nil)) se_int (nomark _)) (sw_and1 (st_cmp (os_eq hr.units) (se_sl (se_var (pv 10)) (so_some se_int) so_none) (se_tup (sa_cons (se_tup sa_nil) (sa_cons (se_tup sa_nil) (sa_cons (se_tup sa_nil) sa_nil)))) (nomark _))))))), (in_name (by decide))⟩, .nil, (se_idx (se_idx (se_var (pv 10)) se_int) se_int)⟩) (fun _ => rfl) rfl rfl)) (ss_cons (ss_asg (ps_set (i := 14) (by exact sc_law.nd) rfl (.inl rfl) (se_frz (sf_sortedU rfl hr.units (by rfl) m_sorted (su_set (cu_set false rfl hr.units) (by rfl) m_set (by decide +kernel) (sa_cons (se_frz (sf_lc rfl (by exact sc_law.nd) (si_seq (se_var (pv 3))) (blkOk_by (own := [("rule", 10)]) (by first | decide +kernel | rfl)) (fun _ _ _ _ _ => ⟨⟨rfl, (sg_name (pg_name (i := 10) (by exact sc_law.nd) rfl (.inl rfl))), (pts_one (st_w (sw_and (st_cmp (os_eq hr.units) (se_idx (se_var (pv 10)) se_int) (se_tup sa_nil) (nomark _)) (sw_and (st_cmp (os_eq hr.units) (se_idx (se_var (pv 10)) se_int) (se_tup sa_nil) (nomark _)) (sw_and1 (st_cmp (os_eq hr.units) (se_call cs_len (by rfl) m_len (by decide +kernel) (sa_cons (se_op os_add (se_idx (se_var (pv 10)) se_int) (se_idx (se_var (pv 10)) se_int)) sa_nil)) se_int (nomark _))))))), (in_name (by decide))⟩, .nil, (se_idx (se_op os_add (se_idx (se_var (pv 10)) se_int) (se_idx (se_var (pv 10)) se_int)) se_int)⟩) (fun _ => rfl) rfl rfl)) sa_nil)))))) (ss_cons (ss_if (st_not (st_val (se_cal c__law_same hr (by rfl) (sa_cons (se_frz (sf_lst (sa_cons (se_cal c_facts_in hr (by rfl) (sa_cons (se_var (pv 3)) sa_nil)) (sa_cons (se_cal c_denials_in hr (by rfl) (sa_cons (se_var (pv 3)) sa_nil)) sa_nil)))) (sa_cons (se_frz (sf_lst (sa_cons (se_frz (sf_call (cf_sorted hr.units) (by rfl) m_sorted (by decide +kernel) (sa_cons (se_var (pv 13)) sa_nil))) (sa_cons (se_var (pv 14)) sa_nil)))) sa_nil))))) (ss_one (ss_ret se_bl)) ss_nil) (ss_one (ss_ret (se_cal c__law_same hr (by rfl) (sa_cons (se_cal c_size_of hr (by rfl) (sa_cons (se_var (pv 3)) sa_nil)) (sa_cons (se_tup (sa_cons (se_call cs_len (by rfl) m_len (by decide +kernel) (sa_cons (se_var (pv 3)) sa_nil)) (sa_cons (se_call (cs_sum rfl) (by rfl) m_sum (by decide +kernel) (sa_cons (se_frz (sf_lc rfl (by exact sc_law.nd) (si_seq (se_var (pv 3))) (blkOk_by (own := [("rule", 10)]) (by first | decide +kernel | rfl)) (fun _ _ _ _ _ => ⟨⟨rfl, (sg_name (pg_name (i := 10) (by exact sc_law.nd) rfl (.inl rfl))), pts_all, (in_name (by decide))⟩, .nil, (se_call (cs_sum rfl) (by rfl) m_sum (by decide +kernel) (sa_cons (se_frz (sf_lc rfl (by exact sc_law.nd) (si_seq (se_sl (se_var (pv 10)) (so_some se_int) so_none)) (blkOk_by (own := [("part", 15)]) (by first | decide +kernel | rfl)) (fun _ _ _ _ _ => ⟨⟨rfl, (sg_name (pg_name (i := 15) (by exact sc_law.nd) rfl (.inl rfl))), pts_all, (in_name (by decide))⟩, .nil, (se_call cs_len (by rfl) m_len (by decide +kernel) (sa_cons (se_var (pv 15)) sa_nil))⟩) (fun _ => rfl) rfl rfl)) sa_nil))⟩) (fun _ => rfl) rfl rfl)) sa_nil)) sa_nil))) sa_nil)))))))))))))))))))))
end K8
end MK8
section MK8M
namespace K8
open PySem PySem.Spec PyProof.Rows L2 Ev
def spTop (K : PySem.W.Frag) (mg : PySem.Str → Option Value) : Sp := spF K mg 1 F_law
set_option maxHeartbeats 0 in
theorem all_mk {l : PySem.W.OpenLaw} {w : World} {K : PySem.W.Frag} {h : Heap} {mg : PySem.Str → Option Value} {fa : Addr} (X : K.In h) (G : h.Ns mainGlobals mg) (hfa : mg "law" = some (.ref fa))
    {f_law_cell : Addr} {od_law_cell an_law_cell : Option Addr} {sl_law_cell : Array (Option Value)} {oc_law_cell kV_law_cell dc_law_cell pm_law_cell ct_law_cell cd_law_cell : Value}
    {f_law_digits : Addr} {od_law_digits an_law_digits : Option Addr} {sl_law_digits : Array (Option Value)} {oc_law_digits kV_law_digits dc_law_digits pm_law_digits ct_law_digits cd_law_digits : Value}
    {f_law_draw : Addr} {od_law_draw an_law_draw : Option Addr} {sl_law_draw : Array (Option Value)} {oc_law_draw kV_law_draw dc_law_draw pm_law_draw ct_law_draw cd_law_draw : Value}
    {f_law_mixed : Addr} {od_law_mixed an_law_mixed : Option Addr} {sl_law_mixed : Array (Option Value)} {oc_law_mixed kV_law_mixed dc_law_mixed pm_law_mixed ct_law_mixed cd_law_mixed : Value}
    {f_law_pick : Addr} {od_law_pick an_law_pick : Option Addr} {sl_law_pick : Array (Option Value)} {oc_law_pick kV_law_pick dc_law_pick pm_law_pick ct_law_pick cd_law_pick : Value}
    {f_law_rule : Addr} {od_law_rule an_law_rule : Option Addr} {sl_law_rule : Array (Option Value)} {oc_law_rule kV_law_rule dc_law_rule pm_law_rule ct_law_rule cd_law_rule : Value}
    {f_law_rules : Addr} {od_law_rules an_law_rules : Option Addr} {sl_law_rules : Array (Option Value)} {oc_law_rules kV_law_rules dc_law_rules pm_law_rules ct_law_rules cd_law_rules : Value}
    {f_law_book : Addr} {od_law_book an_law_book : Option Addr} {sl_law_book : Array (Option Value)} {oc_law_book kV_law_book dc_law_book pm_law_book ct_law_book cd_law_book : Value}
    {f_in_order : Addr} {od_in_order an_in_order : Option Addr} {sl_in_order : Array (Option Value)} {oc_in_order kV_in_order dc_in_order pm_in_order ct_in_order cd_in_order : Value}
    {f_split_step : Addr} {od_split_step an_split_step : Option Addr} {sl_split_step : Array (Option Value)} {oc_split_step kV_split_step dc_split_step pm_split_step ct_split_step cd_split_step : Value}
    {f_idle_step : Addr} {od_idle_step an_idle_step : Option Addr} {sl_idle_step : Array (Option Value)} {oc_idle_step kV_idle_step dc_idle_step pm_idle_step ct_idle_step cd_idle_step : Value}
    {f_never_step : Addr} {od_never_step an_never_step : Option Addr} {sl_never_step : Array (Option Value)} {oc_never_step kV_never_step dc_never_step pm_never_step ct_never_step cd_never_step : Value}
    {f_less_of : Addr} {od_less_of an_less_of : Option Addr} {sl_less_of : Array (Option Value)} {oc_less_of kV_less_of dc_less_of pm_less_of ct_less_of cd_less_of : Value}
    {f_double_step : Addr} {od_double_step an_double_step : Option Addr} {sl_double_step : Array (Option Value)} {oc_double_step kV_double_step dc_double_step pm_double_step ct_double_step cd_double_step : Value}
    {f_shadow_step : Addr} {od_shadow_step an_shadow_step : Option Addr} {sl_shadow_step : Array (Option Value)} {oc_shadow_step kV_shadow_step dc_shadow_step pm_shadow_step ct_shadow_step cd_shadow_step : Value}
    {f_fact : Addr} {od_fact an_fact : Option Addr} {sl_fact : Array (Option Value)} {oc_fact kV_fact dc_fact pm_fact ct_fact cd_fact : Value}
    {f_facts_in : Addr} {od_facts_in an_facts_in : Option Addr} {sl_facts_in : Array (Option Value)} {oc_facts_in kV_facts_in dc_facts_in pm_facts_in ct_facts_in cd_facts_in : Value}
    {f_given_step : Addr} {od_given_step an_given_step : Option Addr} {sl_given_step : Array (Option Value)} {oc_given_step kV_given_step dc_given_step pm_given_step ct_given_step cd_given_step : Value}
    {f_denials_in : Addr} {od_denials_in an_denials_in : Option Addr} {sl_denials_in : Array (Option Value)} {oc_denials_in kV_denials_in dc_denials_in pm_denials_in ct_denials_in cd_denials_in : Value}
    {f_is_denial : Addr} {od_is_denial an_is_denial : Option Addr} {sl_is_denial : Array (Option Value)} {oc_is_denial kV_is_denial dc_is_denial pm_is_denial ct_is_denial cd_is_denial : Value}
    {f_barred_step : Addr} {od_barred_step an_barred_step : Option Addr} {sl_barred_step : Array (Option Value)} {oc_barred_step kV_barred_step dc_barred_step pm_barred_step ct_barred_step cd_barred_step : Value}
    {f_within : Addr} {od_within an_within : Option Addr} {sl_within : Array (Option Value)} {oc_within kV_within dc_within pm_within ct_within cd_within : Value}
    {f_says_more : Addr} {od_says_more an_says_more : Option Addr} {sl_says_more : Array (Option Value)} {oc_says_more kV_says_more dc_says_more pm_says_more ct_says_more cd_says_more : Value}
    {f_less_step : Addr} {od_less_step an_less_step : Option Addr} {sl_less_step : Array (Option Value)} {oc_less_step kV_less_step dc_less_step pm_less_step ct_less_step cd_less_step : Value}
    {f_next_step : Addr} {od_next_step an_next_step : Option Addr} {sl_next_step : Array (Option Value)} {oc_next_step kV_next_step dc_next_step pm_next_step ct_next_step cd_next_step : Value}
    {f_law_makers : Addr} {od_law_makers an_law_makers : Option Addr} {sl_law_makers : Array (Option Value)} {oc_law_makers kV_law_makers dc_law_makers pm_law_makers ct_law_makers cd_law_makers : Value}
    {f_law_same : Addr} {od_law_same an_law_same : Option Addr} {sl_law_same : Array (Option Value)} {oc_law_same kV_law_same dc_law_same pm_law_same ct_law_same cd_law_same : Value}
    {f_lot : Addr} {od_lot an_lot : Option Addr} {sl_lot : Array (Option Value)} {oc_lot kV_lot dc_lot pm_lot ct_lot cd_lot : Value}
    {f_letters_of : Addr} {od_letters_of an_letters_of : Option Addr} {sl_letters_of : Array (Option Value)} {oc_letters_of kV_letters_of dc_letters_of pm_letters_of ct_letters_of cd_letters_of : Value}
    {f_all_letters : Addr} {od_all_letters an_all_letters : Option Addr} {sl_all_letters : Array (Option Value)} {oc_all_letters kV_all_letters dc_all_letters pm_all_letters ct_all_letters cd_all_letters : Value}
    {f_body_holds : Addr} {od_body_holds an_body_holds : Option Addr} {sl_body_holds : Array (Option Value)} {oc_body_holds kV_body_holds dc_body_holds pm_body_holds ct_body_holds cd_body_holds : Value}
    {f_head_holds : Addr} {od_head_holds an_head_holds : Option Addr} {sl_head_holds : Array (Option Value)} {oc_head_holds kV_head_holds dc_head_holds pm_head_holds ct_head_holds cd_head_holds : Value}
    {f_rule_holds : Addr} {od_rule_holds an_rule_holds : Option Addr} {sl_rule_holds : Array (Option Value)} {oc_rule_holds kV_rule_holds dc_rule_holds pm_rule_holds ct_rule_holds cd_rule_holds : Value}
    {f_all_hold : Addr} {od_all_hold an_all_hold : Option Addr} {sl_all_hold : Array (Option Value)} {oc_all_hold kV_all_hold dc_all_hold pm_all_hold ct_all_hold cd_all_hold : Value}
    {f_all_lots : Addr} {od_all_lots an_all_lots : Option Addr} {sl_all_lots : Array (Option Value)} {oc_all_lots kV_all_lots dc_all_lots pm_all_lots ct_all_lots : Value}
    {f_first_parting : Addr} {od_first_parting an_first_parting : Option Addr} {sl_first_parting : Array (Option Value)} {oc_first_parting kV_first_parting dc_first_parting pm_first_parting ct_first_parting cd_first_parting : Value}
    {f_alike_everywhere : Addr} {od_alike_everywhere an_alike_everywhere : Option Addr} {sl_alike_everywhere : Array (Option Value)} {oc_alike_everywhere kV_alike_everywhere dc_alike_everywhere pm_alike_everywhere ct_alike_everywhere cd_alike_everywhere : Value}
    {f_is_step : Addr} {od_is_step an_is_step : Option Addr} {sl_is_step : Array (Option Value)} {oc_is_step kV_is_step dc_is_step pm_is_step ct_is_step cd_is_step : Value}
    {f_law_holds : Addr} {od_law_holds an_law_holds : Option Addr} {sl_law_holds : Array (Option Value)} {oc_law_holds kV_law_holds dc_law_holds pm_law_holds ct_law_holds cd_law_holds : Value}
    {f_law_all : Addr} {od_law_all an_law_all : Option Addr} {sl_law_all : Array (Option Value)} {oc_law_all kV_law_all dc_law_all pm_law_all ct_law_all cd_law_all : Value}
    {f_law_lots : Addr} {od_law_lots an_law_lots : Option Addr} {sl_law_lots : Array (Option Value)} {oc_law_lots kV_law_lots dc_law_lots pm_law_lots ct_law_lots cd_law_lots : Value}
    {f_law_worlds : Addr} {od_law_worlds an_law_worlds : Option Addr} {sl_law_worlds : Array (Option Value)} {oc_law_worlds kV_law_worlds dc_law_worlds pm_law_worlds ct_law_worlds cd_law_worlds : Value}
    {f_done : Addr} {od_done an_done : Option Addr} {sl_done : Array (Option Value)} {oc_done kV_done dc_done pm_done ct_done cd_done : Value}
    {f_law_may : Addr} {od_law_may an_law_may : Option Addr} {sl_law_may : Array (Option Value)} {oc_law_may kV_law_may dc_law_may pm_law_may ct_law_may cd_law_may : Value}
    {f_law_bent : Addr} {od_law_bent an_law_bent : Option Addr} {sl_law_bent : Array (Option Value)} {oc_law_bent kV_law_bent dc_law_bent pm_law_bent ct_law_bent cd_law_bent : Value}
    {f_law_step_fits : Addr} {od_law_step_fits an_law_step_fits : Option Addr} {sl_law_step_fits : Array (Option Value)} {oc_law_step_fits kV_law_step_fits dc_law_step_fits pm_law_step_fits ct_law_step_fits cd_law_step_fits : Value}
    {f_simplified : Addr} {od_simplified an_simplified : Option Addr} {sl_simplified : Array (Option Value)} {oc_simplified kV_simplified dc_simplified pm_simplified ct_simplified cd_simplified : Value}
    {f_law_leads : Addr} {od_law_leads an_law_leads : Option Addr} {sl_law_leads : Array (Option Value)} {oc_law_leads kV_law_leads dc_law_leads pm_law_leads ct_law_leads cd_law_leads : Value}
    {f_shows_simpler : Addr} {od_shows_simpler an_shows_simpler : Option Addr} {sl_shows_simpler : Array (Option Value)} {oc_shows_simpler kV_shows_simpler dc_shows_simpler pm_shows_simpler ct_shows_simpler cd_shows_simpler : Value}
    {f_unused : Addr} {od_unused an_unused : Option Addr} {sl_unused : Array (Option Value)} {oc_unused kV_unused dc_unused pm_unused ct_unused cd_unused : Value}
    {f_plain_rule : Addr} {od_plain_rule an_plain_rule : Option Addr} {sl_plain_rule : Array (Option Value)} {oc_plain_rule kV_plain_rule dc_plain_rule pm_plain_rule ct_plain_rule cd_plain_rule : Value}
    {f_as_barred : Addr} {od_as_barred an_as_barred : Option Addr} {sl_as_barred : Array (Option Value)} {oc_as_barred kV_as_barred dc_as_barred pm_as_barred ct_as_barred cd_as_barred : Value}
    {f_size_of : Addr} {od_size_of an_size_of : Option Addr} {sl_size_of : Array (Option Value)} {oc_size_of kV_size_of dc_size_of pm_size_of ct_size_of cd_size_of : Value}
    {f_law : Addr} {od_law an_law : Option Addr} {sl_law : Array (Option Value)} {oc_law kV_law dc_law pm_law ct_law cd_law : Value}
    {c0 P0 : Addr}
    {p_KINDS : Addr} {n_KINDS : Nat} {d_KINDS : Option Addr} {s_KINDS : Array (Option Value)} {t_KINDS0 t_KINDS1 t_KINDS2 t_KINDS3 t_KINDS4 t_KINDS5 t_KINDS6 t_KINDS7 : Tok}
    {t_MOST_LETTERS : Tok}
    (a_law_cell : PySem.W.nsIn K mainGlobals "_law_cell" = some (some (.ref f_law_cell)))
    (l_law_cell : K.lookup f_law_cell = some ⟨oc_law_cell, od_law_cell, .func (PySem.W.fnOf "_law_cell" "_law_cell" (defArgs st_law_cell) (defBody st_law_cell) (defScope st_law_cell) .none kV_law_cell dc_law_cell pm_law_cell an_law_cell cd_law_cell ct_law_cell), sl_law_cell⟩)
    (c_law_cell : PySem.W.codeIn K cd_law_cell "_law_cell" = true)
    (k_law_cell : PySem.W.keepIn K (.ref f_law_cell) = true)
    (a_law_digits : PySem.W.nsIn K mainGlobals "_law_digits" = some (some (.ref f_law_digits)))
    (l_law_digits : K.lookup f_law_digits = some ⟨oc_law_digits, od_law_digits, .func (PySem.W.fnOf "_law_digits" "_law_digits" (defArgs st_law_digits) (defBody st_law_digits) (defScope st_law_digits) .none kV_law_digits dc_law_digits pm_law_digits an_law_digits cd_law_digits ct_law_digits), sl_law_digits⟩)
    (c_law_digits : PySem.W.codeIn K cd_law_digits "_law_digits" = true)
    (k_law_digits : PySem.W.keepIn K (.ref f_law_digits) = true)
    (a_law_draw : PySem.W.nsIn K mainGlobals "_law_draw" = some (some (.ref f_law_draw)))
    (l_law_draw : K.lookup f_law_draw = some ⟨oc_law_draw, od_law_draw, .func (PySem.W.fnOf "_law_draw" "_law_draw" (defArgs st_law_draw) (defBody st_law_draw) (defScope st_law_draw) .none kV_law_draw dc_law_draw pm_law_draw an_law_draw cd_law_draw ct_law_draw), sl_law_draw⟩)
    (c_law_draw : PySem.W.codeIn K cd_law_draw "_law_draw" = true)
    (k_law_draw : PySem.W.keepIn K (.ref f_law_draw) = true)
    (a_law_mixed : PySem.W.nsIn K mainGlobals "_law_mixed" = some (some (.ref f_law_mixed)))
    (l_law_mixed : K.lookup f_law_mixed = some ⟨oc_law_mixed, od_law_mixed, .func (PySem.W.fnOf "_law_mixed" "_law_mixed" (defArgs st_law_mixed) (defBody st_law_mixed) (defScope st_law_mixed) .none kV_law_mixed dc_law_mixed pm_law_mixed an_law_mixed cd_law_mixed ct_law_mixed), sl_law_mixed⟩)
    (c_law_mixed : PySem.W.codeIn K cd_law_mixed "_law_mixed" = true)
    (k_law_mixed : PySem.W.keepIn K (.ref f_law_mixed) = true)
    (a_law_pick : PySem.W.nsIn K mainGlobals "_law_pick" = some (some (.ref f_law_pick)))
    (l_law_pick : K.lookup f_law_pick = some ⟨oc_law_pick, od_law_pick, .func (PySem.W.fnOf "_law_pick" "_law_pick" (defArgs st_law_pick) (defBody st_law_pick) (defScope st_law_pick) .none kV_law_pick dc_law_pick pm_law_pick an_law_pick cd_law_pick ct_law_pick), sl_law_pick⟩)
    (c_law_pick : PySem.W.codeIn K cd_law_pick "_law_pick" = true)
    (k_law_pick : PySem.W.keepIn K (.ref f_law_pick) = true)
    (a_law_rule : PySem.W.nsIn K mainGlobals "_law_rule" = some (some (.ref f_law_rule)))
    (l_law_rule : K.lookup f_law_rule = some ⟨oc_law_rule, od_law_rule, .func (PySem.W.fnOf "_law_rule" "_law_rule" (defArgs st_law_rule) (defBody st_law_rule) (defScope st_law_rule) .none kV_law_rule dc_law_rule pm_law_rule an_law_rule cd_law_rule ct_law_rule), sl_law_rule⟩)
    (c_law_rule : PySem.W.codeIn K cd_law_rule "_law_rule" = true)
    (k_law_rule : PySem.W.keepIn K (.ref f_law_rule) = true)
    (a_law_rules : PySem.W.nsIn K mainGlobals "_law_rules" = some (some (.ref f_law_rules)))
    (l_law_rules : K.lookup f_law_rules = some ⟨oc_law_rules, od_law_rules, .func (PySem.W.fnOf "_law_rules" "_law_rules" (defArgs st_law_rules) (defBody st_law_rules) (defScope st_law_rules) .none kV_law_rules dc_law_rules pm_law_rules an_law_rules cd_law_rules ct_law_rules), sl_law_rules⟩)
    (c_law_rules : PySem.W.codeIn K cd_law_rules "_law_rules" = true)
    (k_law_rules : PySem.W.keepIn K (.ref f_law_rules) = true)
    (a_law_book : PySem.W.nsIn K mainGlobals "_law_book" = some (some (.ref f_law_book)))
    (l_law_book : K.lookup f_law_book = some ⟨oc_law_book, od_law_book, .func (PySem.W.fnOf "_law_book" "_law_book" (defArgs st_law_book) (defBody st_law_book) (defScope st_law_book) .none kV_law_book dc_law_book pm_law_book an_law_book cd_law_book ct_law_book), sl_law_book⟩)
    (c_law_book : PySem.W.codeIn K cd_law_book "_law_book" = true)
    (k_law_book : PySem.W.keepIn K (.ref f_law_book) = true)
    (a_in_order : PySem.W.nsIn K mainGlobals "in_order" = some (some (.ref f_in_order)))
    (l_in_order : K.lookup f_in_order = some ⟨oc_in_order, od_in_order, .func (PySem.W.fnOf "in_order" "in_order" (defArgs st_in_order) (defBody st_in_order) (defScope st_in_order) .none kV_in_order dc_in_order pm_in_order an_in_order cd_in_order ct_in_order), sl_in_order⟩)
    (c_in_order : PySem.W.codeIn K cd_in_order "in_order" = true)
    (k_in_order : PySem.W.keepIn K (.ref f_in_order) = true)
    (a_split_step : PySem.W.nsIn K mainGlobals "split_step" = some (some (.ref f_split_step)))
    (l_split_step : K.lookup f_split_step = some ⟨oc_split_step, od_split_step, .func (PySem.W.fnOf "split_step" "split_step" (defArgs st_split_step) (defBody st_split_step) (defScope st_split_step) .none kV_split_step dc_split_step pm_split_step an_split_step cd_split_step ct_split_step), sl_split_step⟩)
    (c_split_step : PySem.W.codeIn K cd_split_step "split_step" = true)
    (k_split_step : PySem.W.keepIn K (.ref f_split_step) = true)
    (a_idle_step : PySem.W.nsIn K mainGlobals "idle_step" = some (some (.ref f_idle_step)))
    (l_idle_step : K.lookup f_idle_step = some ⟨oc_idle_step, od_idle_step, .func (PySem.W.fnOf "idle_step" "idle_step" (defArgs st_idle_step) (defBody st_idle_step) (defScope st_idle_step) .none kV_idle_step dc_idle_step pm_idle_step an_idle_step cd_idle_step ct_idle_step), sl_idle_step⟩)
    (c_idle_step : PySem.W.codeIn K cd_idle_step "idle_step" = true)
    (k_idle_step : PySem.W.keepIn K (.ref f_idle_step) = true)
    (a_never_step : PySem.W.nsIn K mainGlobals "never_step" = some (some (.ref f_never_step)))
    (l_never_step : K.lookup f_never_step = some ⟨oc_never_step, od_never_step, .func (PySem.W.fnOf "never_step" "never_step" (defArgs st_never_step) (defBody st_never_step) (defScope st_never_step) .none kV_never_step dc_never_step pm_never_step an_never_step cd_never_step ct_never_step), sl_never_step⟩)
    (c_never_step : PySem.W.codeIn K cd_never_step "never_step" = true)
    (k_never_step : PySem.W.keepIn K (.ref f_never_step) = true)
    (a_less_of : PySem.W.nsIn K mainGlobals "less_of" = some (some (.ref f_less_of)))
    (l_less_of : K.lookup f_less_of = some ⟨oc_less_of, od_less_of, .func (PySem.W.fnOf "less_of" "less_of" (defArgs st_less_of) (defBody st_less_of) (defScope st_less_of) .none kV_less_of dc_less_of pm_less_of an_less_of cd_less_of ct_less_of), sl_less_of⟩)
    (c_less_of : PySem.W.codeIn K cd_less_of "less_of" = true)
    (k_less_of : PySem.W.keepIn K (.ref f_less_of) = true)
    (a_double_step : PySem.W.nsIn K mainGlobals "double_step" = some (some (.ref f_double_step)))
    (l_double_step : K.lookup f_double_step = some ⟨oc_double_step, od_double_step, .func (PySem.W.fnOf "double_step" "double_step" (defArgs st_double_step) (defBody st_double_step) (defScope st_double_step) .none kV_double_step dc_double_step pm_double_step an_double_step cd_double_step ct_double_step), sl_double_step⟩)
    (c_double_step : PySem.W.codeIn K cd_double_step "double_step" = true)
    (k_double_step : PySem.W.keepIn K (.ref f_double_step) = true)
    (a_shadow_step : PySem.W.nsIn K mainGlobals "shadow_step" = some (some (.ref f_shadow_step)))
    (l_shadow_step : K.lookup f_shadow_step = some ⟨oc_shadow_step, od_shadow_step, .func (PySem.W.fnOf "shadow_step" "shadow_step" (defArgs st_shadow_step) (defBody st_shadow_step) (defScope st_shadow_step) .none kV_shadow_step dc_shadow_step pm_shadow_step an_shadow_step cd_shadow_step ct_shadow_step), sl_shadow_step⟩)
    (c_shadow_step : PySem.W.codeIn K cd_shadow_step "shadow_step" = true)
    (k_shadow_step : PySem.W.keepIn K (.ref f_shadow_step) = true)
    (a_fact : PySem.W.nsIn K mainGlobals "fact" = some (some (.ref f_fact)))
    (l_fact : K.lookup f_fact = some ⟨oc_fact, od_fact, .func (PySem.W.fnOf "fact" "fact" (defArgs st_fact) (defBody st_fact) (defScope st_fact) .none kV_fact dc_fact pm_fact an_fact cd_fact ct_fact), sl_fact⟩)
    (c_fact : PySem.W.codeIn K cd_fact "fact" = true)
    (k_fact : PySem.W.keepIn K (.ref f_fact) = true)
    (a_facts_in : PySem.W.nsIn K mainGlobals "facts_in" = some (some (.ref f_facts_in)))
    (l_facts_in : K.lookup f_facts_in = some ⟨oc_facts_in, od_facts_in, .func (PySem.W.fnOf "facts_in" "facts_in" (defArgs st_facts_in) (defBody st_facts_in) (defScope st_facts_in) .none kV_facts_in dc_facts_in pm_facts_in an_facts_in cd_facts_in ct_facts_in), sl_facts_in⟩)
    (c_facts_in : PySem.W.codeIn K cd_facts_in "facts_in" = true)
    (k_facts_in : PySem.W.keepIn K (.ref f_facts_in) = true)
    (a_given_step : PySem.W.nsIn K mainGlobals "given_step" = some (some (.ref f_given_step)))
    (l_given_step : K.lookup f_given_step = some ⟨oc_given_step, od_given_step, .func (PySem.W.fnOf "given_step" "given_step" (defArgs st_given_step) (defBody st_given_step) (defScope st_given_step) .none kV_given_step dc_given_step pm_given_step an_given_step cd_given_step ct_given_step), sl_given_step⟩)
    (c_given_step : PySem.W.codeIn K cd_given_step "given_step" = true)
    (k_given_step : PySem.W.keepIn K (.ref f_given_step) = true)
    (a_denials_in : PySem.W.nsIn K mainGlobals "denials_in" = some (some (.ref f_denials_in)))
    (l_denials_in : K.lookup f_denials_in = some ⟨oc_denials_in, od_denials_in, .func (PySem.W.fnOf "denials_in" "denials_in" (defArgs st_denials_in) (defBody st_denials_in) (defScope st_denials_in) .none kV_denials_in dc_denials_in pm_denials_in an_denials_in cd_denials_in ct_denials_in), sl_denials_in⟩)
    (c_denials_in : PySem.W.codeIn K cd_denials_in "denials_in" = true)
    (k_denials_in : PySem.W.keepIn K (.ref f_denials_in) = true)
    (a_is_denial : PySem.W.nsIn K mainGlobals "is_denial" = some (some (.ref f_is_denial)))
    (l_is_denial : K.lookup f_is_denial = some ⟨oc_is_denial, od_is_denial, .func (PySem.W.fnOf "is_denial" "is_denial" (defArgs st_is_denial) (defBody st_is_denial) (defScope st_is_denial) .none kV_is_denial dc_is_denial pm_is_denial an_is_denial cd_is_denial ct_is_denial), sl_is_denial⟩)
    (c_is_denial : PySem.W.codeIn K cd_is_denial "is_denial" = true)
    (k_is_denial : PySem.W.keepIn K (.ref f_is_denial) = true)
    (a_barred_step : PySem.W.nsIn K mainGlobals "barred_step" = some (some (.ref f_barred_step)))
    (l_barred_step : K.lookup f_barred_step = some ⟨oc_barred_step, od_barred_step, .func (PySem.W.fnOf "barred_step" "barred_step" (defArgs st_barred_step) (defBody st_barred_step) (defScope st_barred_step) .none kV_barred_step dc_barred_step pm_barred_step an_barred_step cd_barred_step ct_barred_step), sl_barred_step⟩)
    (c_barred_step : PySem.W.codeIn K cd_barred_step "barred_step" = true)
    (k_barred_step : PySem.W.keepIn K (.ref f_barred_step) = true)
    (a_within : PySem.W.nsIn K mainGlobals "within" = some (some (.ref f_within)))
    (l_within : K.lookup f_within = some ⟨oc_within, od_within, .func (PySem.W.fnOf "within" "within" (defArgs st_within) (defBody st_within) (defScope st_within) .none kV_within dc_within pm_within an_within cd_within ct_within), sl_within⟩)
    (c_within : PySem.W.codeIn K cd_within "within" = true)
    (k_within : PySem.W.keepIn K (.ref f_within) = true)
    (a_says_more : PySem.W.nsIn K mainGlobals "says_more" = some (some (.ref f_says_more)))
    (l_says_more : K.lookup f_says_more = some ⟨oc_says_more, od_says_more, .func (PySem.W.fnOf "says_more" "says_more" (defArgs st_says_more) (defBody st_says_more) (defScope st_says_more) .none kV_says_more dc_says_more pm_says_more an_says_more cd_says_more ct_says_more), sl_says_more⟩)
    (c_says_more : PySem.W.codeIn K cd_says_more "says_more" = true)
    (k_says_more : PySem.W.keepIn K (.ref f_says_more) = true)
    (a_less_step : PySem.W.nsIn K mainGlobals "less_step" = some (some (.ref f_less_step)))
    (l_less_step : K.lookup f_less_step = some ⟨oc_less_step, od_less_step, .func (PySem.W.fnOf "less_step" "less_step" (defArgs st_less_step) (defBody st_less_step) (defScope st_less_step) .none kV_less_step dc_less_step pm_less_step an_less_step cd_less_step ct_less_step), sl_less_step⟩)
    (c_less_step : PySem.W.codeIn K cd_less_step "less_step" = true)
    (k_less_step : PySem.W.keepIn K (.ref f_less_step) = true)
    (a_next_step : PySem.W.nsIn K mainGlobals "next_step" = some (some (.ref f_next_step)))
    (l_next_step : K.lookup f_next_step = some ⟨oc_next_step, od_next_step, .func (PySem.W.fnOf "next_step" "next_step" (defArgs st_next_step) (defBody st_next_step) (defScope st_next_step) .none kV_next_step dc_next_step pm_next_step an_next_step cd_next_step ct_next_step), sl_next_step⟩)
    (c_next_step : PySem.W.codeIn K cd_next_step "next_step" = true)
    (k_next_step : PySem.W.keepIn K (.ref f_next_step) = true)
    (a_law_makers : PySem.W.nsIn K mainGlobals "_law_makers" = some (some (.ref f_law_makers)))
    (l_law_makers : K.lookup f_law_makers = some ⟨oc_law_makers, od_law_makers, .func (PySem.W.fnOf "_law_makers" "_law_makers" (defArgs st_law_makers) (defBody st_law_makers) (defScope st_law_makers) .none kV_law_makers dc_law_makers pm_law_makers an_law_makers cd_law_makers ct_law_makers), sl_law_makers⟩)
    (c_law_makers : PySem.W.codeIn K cd_law_makers "_law_makers" = true)
    (k_law_makers : PySem.W.keepIn K (.ref f_law_makers) = true)
    (a_law_same : PySem.W.nsIn K mainGlobals "_law_same" = some (some (.ref f_law_same)))
    (l_law_same : K.lookup f_law_same = some ⟨oc_law_same, od_law_same, .func (PySem.W.fnOf "_law_same" "_law_same" (defArgs st_law_same) (defBody st_law_same) (defScope st_law_same) .none kV_law_same dc_law_same pm_law_same an_law_same cd_law_same ct_law_same), sl_law_same⟩)
    (c_law_same : PySem.W.codeIn K cd_law_same "_law_same" = true)
    (k_law_same : PySem.W.keepIn K (.ref f_law_same) = true)
    (a_lot : PySem.W.nsIn K mainGlobals "lot" = some (some (.ref f_lot)))
    (l_lot : K.lookup f_lot = some ⟨oc_lot, od_lot, .func (PySem.W.fnOf "lot" "lot" (defArgs st_lot) (defBody st_lot) (defScope st_lot) .none kV_lot dc_lot pm_lot an_lot cd_lot ct_lot), sl_lot⟩)
    (c_lot : PySem.W.codeIn K cd_lot "lot" = true)
    (k_lot : PySem.W.keepIn K (.ref f_lot) = true)
    (a_letters_of : PySem.W.nsIn K mainGlobals "letters_of" = some (some (.ref f_letters_of)))
    (l_letters_of : K.lookup f_letters_of = some ⟨oc_letters_of, od_letters_of, .func (PySem.W.fnOf "letters_of" "letters_of" (defArgs st_letters_of) (defBody st_letters_of) (defScope st_letters_of) .none kV_letters_of dc_letters_of pm_letters_of an_letters_of cd_letters_of ct_letters_of), sl_letters_of⟩)
    (c_letters_of : PySem.W.codeIn K cd_letters_of "letters_of" = true)
    (k_letters_of : PySem.W.keepIn K (.ref f_letters_of) = true)
    (a_all_letters : PySem.W.nsIn K mainGlobals "all_letters" = some (some (.ref f_all_letters)))
    (l_all_letters : K.lookup f_all_letters = some ⟨oc_all_letters, od_all_letters, .func (PySem.W.fnOf "all_letters" "all_letters" (defArgs st_all_letters) (defBody st_all_letters) (defScope st_all_letters) .none kV_all_letters dc_all_letters pm_all_letters an_all_letters cd_all_letters ct_all_letters), sl_all_letters⟩)
    (c_all_letters : PySem.W.codeIn K cd_all_letters "all_letters" = true)
    (k_all_letters : PySem.W.keepIn K (.ref f_all_letters) = true)
    (a_body_holds : PySem.W.nsIn K mainGlobals "body_holds" = some (some (.ref f_body_holds)))
    (l_body_holds : K.lookup f_body_holds = some ⟨oc_body_holds, od_body_holds, .func (PySem.W.fnOf "body_holds" "body_holds" (defArgs st_body_holds) (defBody st_body_holds) (defScope st_body_holds) .none kV_body_holds dc_body_holds pm_body_holds an_body_holds cd_body_holds ct_body_holds), sl_body_holds⟩)
    (c_body_holds : PySem.W.codeIn K cd_body_holds "body_holds" = true)
    (k_body_holds : PySem.W.keepIn K (.ref f_body_holds) = true)
    (a_head_holds : PySem.W.nsIn K mainGlobals "head_holds" = some (some (.ref f_head_holds)))
    (l_head_holds : K.lookup f_head_holds = some ⟨oc_head_holds, od_head_holds, .func (PySem.W.fnOf "head_holds" "head_holds" (defArgs st_head_holds) (defBody st_head_holds) (defScope st_head_holds) .none kV_head_holds dc_head_holds pm_head_holds an_head_holds cd_head_holds ct_head_holds), sl_head_holds⟩)
    (c_head_holds : PySem.W.codeIn K cd_head_holds "head_holds" = true)
    (k_head_holds : PySem.W.keepIn K (.ref f_head_holds) = true)
    (a_rule_holds : PySem.W.nsIn K mainGlobals "rule_holds" = some (some (.ref f_rule_holds)))
    (l_rule_holds : K.lookup f_rule_holds = some ⟨oc_rule_holds, od_rule_holds, .func (PySem.W.fnOf "rule_holds" "rule_holds" (defArgs st_rule_holds) (defBody st_rule_holds) (defScope st_rule_holds) .none kV_rule_holds dc_rule_holds pm_rule_holds an_rule_holds cd_rule_holds ct_rule_holds), sl_rule_holds⟩)
    (c_rule_holds : PySem.W.codeIn K cd_rule_holds "rule_holds" = true)
    (k_rule_holds : PySem.W.keepIn K (.ref f_rule_holds) = true)
    (a_all_hold : PySem.W.nsIn K mainGlobals "all_hold" = some (some (.ref f_all_hold)))
    (l_all_hold : K.lookup f_all_hold = some ⟨oc_all_hold, od_all_hold, .func (PySem.W.fnOf "all_hold" "all_hold" (defArgs st_all_hold) (defBody st_all_hold) (defScope st_all_hold) .none kV_all_hold dc_all_hold pm_all_hold an_all_hold cd_all_hold ct_all_hold), sl_all_hold⟩)
    (c_all_hold : PySem.W.codeIn K cd_all_hold "all_hold" = true)
    (k_all_hold : PySem.W.keepIn K (.ref f_all_hold) = true)
    (a_all_lots : PySem.W.nsIn K mainGlobals "all_lots" = some (some (.ref f_all_lots)))
    (l_all_lots : K.lookup f_all_lots = some ⟨oc_all_lots, od_all_lots, .func (PySem.W.fnOf "all_lots" "all_lots" (defArgs st_all_lots) (defBody st_all_lots) (defScope st_all_lots) .none kV_all_lots dc_all_lots pm_all_lots an_all_lots (.ref c0) ct_all_lots), sl_all_lots⟩)
    (c_all_lots : PySem.W.codeIn K (.ref c0) "all_lots" = true)
    (k_all_lots : PySem.W.keepIn K (.ref f_all_lots) = true)
    (a_first_parting : PySem.W.nsIn K mainGlobals "first_parting" = some (some (.ref f_first_parting)))
    (l_first_parting : K.lookup f_first_parting = some ⟨oc_first_parting, od_first_parting, .func (PySem.W.fnOf "first_parting" "first_parting" (defArgs st_first_parting) (defBody st_first_parting) (defScope st_first_parting) .none kV_first_parting dc_first_parting pm_first_parting an_first_parting cd_first_parting ct_first_parting), sl_first_parting⟩)
    (c_first_parting : PySem.W.codeIn K cd_first_parting "first_parting" = true)
    (k_first_parting : PySem.W.keepIn K (.ref f_first_parting) = true)
    (a_alike_everywhere : PySem.W.nsIn K mainGlobals "alike_everywhere" = some (some (.ref f_alike_everywhere)))
    (l_alike_everywhere : K.lookup f_alike_everywhere = some ⟨oc_alike_everywhere, od_alike_everywhere, .func (PySem.W.fnOf "alike_everywhere" "alike_everywhere" (defArgs st_alike_everywhere) (defBody st_alike_everywhere) (defScope st_alike_everywhere) .none kV_alike_everywhere dc_alike_everywhere pm_alike_everywhere an_alike_everywhere cd_alike_everywhere ct_alike_everywhere), sl_alike_everywhere⟩)
    (c_alike_everywhere : PySem.W.codeIn K cd_alike_everywhere "alike_everywhere" = true)
    (k_alike_everywhere : PySem.W.keepIn K (.ref f_alike_everywhere) = true)
    (a_is_step : PySem.W.nsIn K mainGlobals "is_step" = some (some (.ref f_is_step)))
    (l_is_step : K.lookup f_is_step = some ⟨oc_is_step, od_is_step, .func (PySem.W.fnOf "is_step" "is_step" (defArgs st_is_step) (defBody st_is_step) (defScope st_is_step) .none kV_is_step dc_is_step pm_is_step an_is_step cd_is_step ct_is_step), sl_is_step⟩)
    (c_is_step : PySem.W.codeIn K cd_is_step "is_step" = true)
    (k_is_step : PySem.W.keepIn K (.ref f_is_step) = true)
    (a_law_holds : PySem.W.nsIn K mainGlobals "_law_holds" = some (some (.ref f_law_holds)))
    (l_law_holds : K.lookup f_law_holds = some ⟨oc_law_holds, od_law_holds, .func (PySem.W.fnOf "_law_holds" "_law_holds" (defArgs st_law_holds) (defBody st_law_holds) (defScope st_law_holds) .none kV_law_holds dc_law_holds pm_law_holds an_law_holds cd_law_holds ct_law_holds), sl_law_holds⟩)
    (c_law_holds : PySem.W.codeIn K cd_law_holds "_law_holds" = true)
    (k_law_holds : PySem.W.keepIn K (.ref f_law_holds) = true)
    (a_law_all : PySem.W.nsIn K mainGlobals "_law_all" = some (some (.ref f_law_all)))
    (l_law_all : K.lookup f_law_all = some ⟨oc_law_all, od_law_all, .func (PySem.W.fnOf "_law_all" "_law_all" (defArgs st_law_all) (defBody st_law_all) (defScope st_law_all) .none kV_law_all dc_law_all pm_law_all an_law_all cd_law_all ct_law_all), sl_law_all⟩)
    (c_law_all : PySem.W.codeIn K cd_law_all "_law_all" = true)
    (k_law_all : PySem.W.keepIn K (.ref f_law_all) = true)
    (a_law_lots : PySem.W.nsIn K mainGlobals "_law_lots" = some (some (.ref f_law_lots)))
    (l_law_lots : K.lookup f_law_lots = some ⟨oc_law_lots, od_law_lots, .func (PySem.W.fnOf "_law_lots" "_law_lots" (defArgs st_law_lots) (defBody st_law_lots) (defScope st_law_lots) .none kV_law_lots dc_law_lots pm_law_lots an_law_lots cd_law_lots ct_law_lots), sl_law_lots⟩)
    (c_law_lots : PySem.W.codeIn K cd_law_lots "_law_lots" = true)
    (k_law_lots : PySem.W.keepIn K (.ref f_law_lots) = true)
    (a_law_worlds : PySem.W.nsIn K mainGlobals "_law_worlds" = some (some (.ref f_law_worlds)))
    (l_law_worlds : K.lookup f_law_worlds = some ⟨oc_law_worlds, od_law_worlds, .func (PySem.W.fnOf "_law_worlds" "_law_worlds" (defArgs st_law_worlds) (defBody st_law_worlds) (defScope st_law_worlds) .none kV_law_worlds dc_law_worlds pm_law_worlds an_law_worlds cd_law_worlds ct_law_worlds), sl_law_worlds⟩)
    (c_law_worlds : PySem.W.codeIn K cd_law_worlds "_law_worlds" = true)
    (k_law_worlds : PySem.W.keepIn K (.ref f_law_worlds) = true)
    (a_done : PySem.W.nsIn K mainGlobals "done" = some (some (.ref f_done)))
    (l_done : K.lookup f_done = some ⟨oc_done, od_done, .func (PySem.W.fnOf "done" "done" (defArgs st_done) (defBody st_done) (defScope st_done) .none kV_done dc_done pm_done an_done cd_done ct_done), sl_done⟩)
    (c_done : PySem.W.codeIn K cd_done "done" = true)
    (k_done : PySem.W.keepIn K (.ref f_done) = true)
    (a_law_may : PySem.W.nsIn K mainGlobals "_law_may" = some (some (.ref f_law_may)))
    (l_law_may : K.lookup f_law_may = some ⟨oc_law_may, od_law_may, .func (PySem.W.fnOf "_law_may" "_law_may" (defArgs st_law_may) (defBody st_law_may) (defScope st_law_may) .none kV_law_may dc_law_may pm_law_may an_law_may cd_law_may ct_law_may), sl_law_may⟩)
    (c_law_may : PySem.W.codeIn K cd_law_may "_law_may" = true)
    (k_law_may : PySem.W.keepIn K (.ref f_law_may) = true)
    (a_law_bent : PySem.W.nsIn K mainGlobals "_law_bent" = some (some (.ref f_law_bent)))
    (l_law_bent : K.lookup f_law_bent = some ⟨oc_law_bent, od_law_bent, .func (PySem.W.fnOf "_law_bent" "_law_bent" (defArgs st_law_bent) (defBody st_law_bent) (defScope st_law_bent) .none kV_law_bent dc_law_bent pm_law_bent an_law_bent cd_law_bent ct_law_bent), sl_law_bent⟩)
    (c_law_bent : PySem.W.codeIn K cd_law_bent "_law_bent" = true)
    (k_law_bent : PySem.W.keepIn K (.ref f_law_bent) = true)
    (a_law_step_fits : PySem.W.nsIn K mainGlobals "_law_step_fits" = some (some (.ref f_law_step_fits)))
    (l_law_step_fits : K.lookup f_law_step_fits = some ⟨oc_law_step_fits, od_law_step_fits, .func (PySem.W.fnOf "_law_step_fits" "_law_step_fits" (defArgs st_law_step_fits) (defBody st_law_step_fits) (defScope st_law_step_fits) .none kV_law_step_fits dc_law_step_fits pm_law_step_fits an_law_step_fits cd_law_step_fits ct_law_step_fits), sl_law_step_fits⟩)
    (c_law_step_fits : PySem.W.codeIn K cd_law_step_fits "_law_step_fits" = true)
    (k_law_step_fits : PySem.W.keepIn K (.ref f_law_step_fits) = true)
    (a_simplified : PySem.W.nsIn K mainGlobals "simplified" = some (some (.ref f_simplified)))
    (l_simplified : K.lookup f_simplified = some ⟨oc_simplified, od_simplified, .func (PySem.W.fnOf "simplified" "simplified" (defArgs st_simplified) (defBody st_simplified) (defScope st_simplified) .none kV_simplified dc_simplified pm_simplified an_simplified cd_simplified ct_simplified), sl_simplified⟩)
    (c_simplified : PySem.W.codeIn K cd_simplified "simplified" = true)
    (k_simplified : PySem.W.keepIn K (.ref f_simplified) = true)
    (a_law_leads : PySem.W.nsIn K mainGlobals "_law_leads" = some (some (.ref f_law_leads)))
    (l_law_leads : K.lookup f_law_leads = some ⟨oc_law_leads, od_law_leads, .func (PySem.W.fnOf "_law_leads" "_law_leads" (defArgs st_law_leads) (defBody st_law_leads) (defScope st_law_leads) .none kV_law_leads dc_law_leads pm_law_leads an_law_leads cd_law_leads ct_law_leads), sl_law_leads⟩)
    (c_law_leads : PySem.W.codeIn K cd_law_leads "_law_leads" = true)
    (k_law_leads : PySem.W.keepIn K (.ref f_law_leads) = true)
    (a_shows_simpler : PySem.W.nsIn K mainGlobals "shows_simpler" = some (some (.ref f_shows_simpler)))
    (l_shows_simpler : K.lookup f_shows_simpler = some ⟨oc_shows_simpler, od_shows_simpler, .func (PySem.W.fnOf "shows_simpler" "shows_simpler" (defArgs st_shows_simpler) (defBody st_shows_simpler) (defScope st_shows_simpler) .none kV_shows_simpler dc_shows_simpler pm_shows_simpler an_shows_simpler cd_shows_simpler ct_shows_simpler), sl_shows_simpler⟩)
    (c_shows_simpler : PySem.W.codeIn K cd_shows_simpler "shows_simpler" = true)
    (k_shows_simpler : PySem.W.keepIn K (.ref f_shows_simpler) = true)
    (a_unused : PySem.W.nsIn K mainGlobals "unused" = some (some (.ref f_unused)))
    (l_unused : K.lookup f_unused = some ⟨oc_unused, od_unused, .func (PySem.W.fnOf "unused" "unused" (defArgs st_unused) (defBody st_unused) (defScope st_unused) .none kV_unused dc_unused pm_unused an_unused cd_unused ct_unused), sl_unused⟩)
    (c_unused : PySem.W.codeIn K cd_unused "unused" = true)
    (k_unused : PySem.W.keepIn K (.ref f_unused) = true)
    (a_plain_rule : PySem.W.nsIn K mainGlobals "plain_rule" = some (some (.ref f_plain_rule)))
    (l_plain_rule : K.lookup f_plain_rule = some ⟨oc_plain_rule, od_plain_rule, .func (PySem.W.fnOf "plain_rule" "plain_rule" (defArgs st_plain_rule) (defBody st_plain_rule) (defScope st_plain_rule) .none kV_plain_rule dc_plain_rule pm_plain_rule an_plain_rule cd_plain_rule ct_plain_rule), sl_plain_rule⟩)
    (c_plain_rule : PySem.W.codeIn K cd_plain_rule "plain_rule" = true)
    (k_plain_rule : PySem.W.keepIn K (.ref f_plain_rule) = true)
    (a_as_barred : PySem.W.nsIn K mainGlobals "as_barred" = some (some (.ref f_as_barred)))
    (l_as_barred : K.lookup f_as_barred = some ⟨oc_as_barred, od_as_barred, .func (PySem.W.fnOf "as_barred" "as_barred" (defArgs st_as_barred) (defBody st_as_barred) (defScope st_as_barred) .none kV_as_barred dc_as_barred pm_as_barred an_as_barred cd_as_barred ct_as_barred), sl_as_barred⟩)
    (c_as_barred : PySem.W.codeIn K cd_as_barred "as_barred" = true)
    (k_as_barred : PySem.W.keepIn K (.ref f_as_barred) = true)
    (a_size_of : PySem.W.nsIn K mainGlobals "size_of" = some (some (.ref f_size_of)))
    (l_size_of : K.lookup f_size_of = some ⟨oc_size_of, od_size_of, .func (PySem.W.fnOf "size_of" "size_of" (defArgs st_size_of) (defBody st_size_of) (defScope st_size_of) .none kV_size_of dc_size_of pm_size_of an_size_of cd_size_of ct_size_of), sl_size_of⟩)
    (c_size_of : PySem.W.codeIn K cd_size_of "size_of" = true)
    (k_size_of : PySem.W.keepIn K (.ref f_size_of) = true)
    (a_law : PySem.W.nsIn K mainGlobals "law" = some (some (.ref f_law)))
    (l_law : K.lookup f_law = some ⟨oc_law, od_law, .func (PySem.W.fnOf "law" "law" (defArgs st_law) (defBody st_law) (defScope st_law) .none kV_law dc_law pm_law an_law cd_law ct_law), sl_law⟩)
    (c_law : PySem.W.codeIn K cd_law "law" = true)
    (k_law : PySem.W.keepIn K (.ref f_law) = true)
    (z_all : PySem.W.nsIn K mainGlobals "all" = some none)
    (z_any : PySem.W.nsIn K mainGlobals "any" = some none)
    (z_bool : PySem.W.nsIn K mainGlobals "bool" = some none)
    (z_dict : PySem.W.nsIn K mainGlobals "dict" = some none)
    (z_int : PySem.W.nsIn K mainGlobals "int" = some none)
    (z_isinstance : PySem.W.nsIn K mainGlobals "isinstance" = some none)
    (z_len : PySem.W.nsIn K mainGlobals "len" = some none)
    (z_list : PySem.W.nsIn K mainGlobals "list" = some none)
    (z_range : PySem.W.nsIn K mainGlobals "range" = some none)
    (z_repr : PySem.W.nsIn K mainGlobals "repr" = some none)
    (z_set : PySem.W.nsIn K mainGlobals "set" = some none)
    (z_sorted : PySem.W.nsIn K mainGlobals "sorted" = some none)
    (z_str : PySem.W.nsIn K mainGlobals "str" = some none)
    (z_sum : PySem.W.nsIn K mainGlobals "sum" = some none)
    (z_tuple : PySem.W.nsIn K mainGlobals "tuple" = some none)
    (y_c : PySem.W.codeHdIn K c0 P0 = true)
    (y_fewest_dropped : PySem.W.nsIn K mainGlobals "fewest_dropped" = some none)
    (y_fewest_facts : PySem.W.nsIn K mainGlobals "fewest_facts" = some none)
    (y_all_loops : PySem.W.nsIn K mainGlobals "all_loops" = some none)
    (y_least_splits : PySem.W.nsIn K mainGlobals "least_splits" = some none)
    (y_least_signs : PySem.W.nsIn K mainGlobals "least_signs" = some none)
    (y_fewest_to_know : PySem.W.nsIn K mainGlobals "fewest_to_know" = some none)
    (g_KINDS : PySem.W.nsIn K mainGlobals "KINDS" = some (some (.ref p_KINDS)))
    (h_KINDS : K.lookup p_KINDS = some ⟨.type "tuple", d_KINDS, .seq #[.str "split" t_KINDS0, .str "idle" t_KINDS1, .str "never" t_KINDS2, .str "double" t_KINDS3, .str "shadow" t_KINDS4, .str "given" t_KINDS5, .str "barred" t_KINDS6, .str "less" t_KINDS7] n_KINDS, s_KINDS⟩)
    (g_MOST_LETTERS : PySem.W.nsIn K mainGlobals "MOST_LETTERS" = some (some (.int 12 t_MOST_LETTERS))) :
    tbOf K mg = [(P0, ("all_lots.<locals>.<lambda>" : PySem.Str))] ∧ ∃ fd : FuncData, (∀ (s : Shared) (v : Value), BindsTo s fd ⟨[v], []⟩ [("script", v)]) ∧ ∀ base : Heap, K.In base → base.Ns mainGlobals mg → (∀ p ∈ [(c0, P0)], LamX.TabB base mg p.1 p.2) → FnOk l.prog w K mg base CX0 12 fa fd PS_law (spTop K mg) := by
  have e := hfa.symm.trans (PySem.W.mg_of X G a_law)
  cases e
  have m_all : mg "all" = none := PySem.W.mg_none_of X G z_all
  have m_any : mg "any" = none := PySem.W.mg_none_of X G z_any
  have m_bool : mg "bool" = none := PySem.W.mg_none_of X G z_bool
  have m_dict : mg "dict" = none := PySem.W.mg_none_of X G z_dict
  have m_int : mg "int" = none := PySem.W.mg_none_of X G z_int
  have m_isinstance : mg "isinstance" = none := PySem.W.mg_none_of X G z_isinstance
  have m_len : mg "len" = none := PySem.W.mg_none_of X G z_len
  have m_list : mg "list" = none := PySem.W.mg_none_of X G z_list
  have m_range : mg "range" = none := PySem.W.mg_none_of X G z_range
  have m_repr : mg "repr" = none := PySem.W.mg_none_of X G z_repr
  have m_set : mg "set" = none := PySem.W.mg_none_of X G z_set
  have m_sorted : mg "sorted" = none := PySem.W.mg_none_of X G z_sorted
  have m_str : mg "str" = none := PySem.W.mg_none_of X G z_str
  have m_sum : mg "sum" = none := PySem.W.mg_none_of X G z_sum
  have m_tuple : mg "tuple" = none := PySem.W.mg_none_of X G z_tuple
  have G_KINDS : Glb K mg "KINDS" k_KINDS := ⟨.ref p_KINDS, _, PySem.W.mg_of X G g_KINDS, rfl, fun W => .tup (vs := [.str "split", .str "idle", .str "never", .str "double", .str "shadow", .str "given", .str "barred", .str "less"]) (.inr ⟨_, _, _, h_KINDS, rfl, rfl, by show 8 ≤ sizeLine; decide, (.cons ⟨_, rfl⟩ (.cons ⟨_, rfl⟩ (.cons ⟨_, rfl⟩ (.cons ⟨_, rfl⟩ (.cons ⟨_, rfl⟩ (.cons ⟨_, rfl⟩ (.cons ⟨_, rfl⟩ (.cons ⟨_, rfl⟩ .nil))))))))⟩) (.cons (.str _) (.cons (.str _) (.cons (.str _) (.cons (.str _) (.cons (.str _) (.cons (.str _) (.cons (.str _) (.cons (.str _) .nil))))))))⟩
  have G_MOST_LETTERS : Glb K mg "MOST_LETTERS" k_MOST_LETTERS := ⟨.int 12, _, PySem.W.mg_of X G g_MOST_LETTERS, ⟨_, rfl⟩, fun W => .int _⟩
  have U_law_cell := fun_mk (st := st_law_cell) l_law_cell c_law_cell k_law_cell
  have b_law_cell := U_law_cell.binds (ps := PS_law_cell) fun _ _ _ _ _ _ us hl => match us, hl with | [_, _], _ => rfl
  have U_law_digits := fun_mk (st := st_law_digits) l_law_digits c_law_digits k_law_digits
  have b_law_digits := U_law_digits.binds (ps := PS_law_digits) fun _ _ _ _ _ _ us hl => match us, hl with | [_, _, _], _ => rfl
  have U_law_draw := fun_mk (st := st_law_draw) l_law_draw c_law_draw k_law_draw
  have b_law_draw := U_law_draw.binds (ps := PS_law_draw) fun _ _ _ _ _ _ us hl => match us, hl with | [_, _], _ => rfl
  have U_law_mixed := fun_mk (st := st_law_mixed) l_law_mixed c_law_mixed k_law_mixed
  have b_law_mixed := U_law_mixed.binds (ps := PS_law_mixed) fun _ _ _ _ _ _ us hl => match us, hl with | [_, _], _ => rfl
  have U_law_pick := fun_mk (st := st_law_pick) l_law_pick c_law_pick k_law_pick
  have b_law_pick := U_law_pick.binds (ps := PS_law_pick) fun _ _ _ _ _ _ us hl => match us, hl with | [_, _], _ => rfl
  have U_law_rule := fun_mk (st := st_law_rule) l_law_rule c_law_rule k_law_rule
  have b_law_rule := U_law_rule.binds (ps := PS_law_rule) fun _ _ _ _ _ _ us hl => match us, hl with | [_, _], _ => rfl
  have U_law_rules := fun_mk (st := st_law_rules) l_law_rules c_law_rules k_law_rules
  have b_law_rules := U_law_rules.binds (ps := PS_law_rules) fun _ _ _ _ _ _ us hl => match us, hl with | [_, _, _], _ => rfl
  have U_law_book := fun_mk (st := st_law_book) l_law_book c_law_book k_law_book
  have b_law_book := U_law_book.binds (ps := PS_law_book) fun _ _ _ _ _ _ us hl => match us, hl with | [_, _], _ => rfl
  have U_in_order := fun_mk (st := st_in_order) l_in_order c_in_order k_in_order
  have b_in_order := U_in_order.binds (ps := PS_in_order) fun _ _ _ _ _ _ us hl => match us, hl with | [_], _ => rfl
  have U_split_step := fun_mk (st := st_split_step) l_split_step c_split_step k_split_step
  have b_split_step := U_split_step.binds (ps := PS_split_step) fun _ _ _ _ _ _ us hl => match us, hl with | [_], _ => rfl
  have U_idle_step := fun_mk (st := st_idle_step) l_idle_step c_idle_step k_idle_step
  have b_idle_step := U_idle_step.binds (ps := PS_idle_step) fun _ _ _ _ _ _ us hl => match us, hl with | [_], _ => rfl
  have U_never_step := fun_mk (st := st_never_step) l_never_step c_never_step k_never_step
  have b_never_step := U_never_step.binds (ps := PS_never_step) fun _ _ _ _ _ _ us hl => match us, hl with | [_], _ => rfl
  have U_less_of := fun_mk (st := st_less_of) l_less_of c_less_of k_less_of
  have b_less_of := U_less_of.binds (ps := PS_less_of) fun _ _ _ _ _ _ us hl => match us, hl with | [_, _], _ => rfl
  have U_double_step := fun_mk (st := st_double_step) l_double_step c_double_step k_double_step
  have b_double_step := U_double_step.binds (ps := PS_double_step) fun _ _ _ _ _ _ us hl => match us, hl with | [_], _ => rfl
  have U_shadow_step := fun_mk (st := st_shadow_step) l_shadow_step c_shadow_step k_shadow_step
  have b_shadow_step := U_shadow_step.binds (ps := PS_shadow_step) fun _ _ _ _ _ _ us hl => match us, hl with | [_], _ => rfl
  have U_fact := fun_mk (st := st_fact) l_fact c_fact k_fact
  have b_fact := U_fact.binds (ps := PS_fact) fun _ _ _ _ _ _ us hl => match us, hl with | [_], _ => rfl
  have U_facts_in := fun_mk (st := st_facts_in) l_facts_in c_facts_in k_facts_in
  have b_facts_in := U_facts_in.binds (ps := PS_facts_in) fun _ _ _ _ _ _ us hl => match us, hl with | [_], _ => rfl
  have U_given_step := fun_mk (st := st_given_step) l_given_step c_given_step k_given_step
  have b_given_step := U_given_step.binds (ps := PS_given_step) fun _ _ _ _ _ _ us hl => match us, hl with | [_, _], _ => rfl
  have U_denials_in := fun_mk (st := st_denials_in) l_denials_in c_denials_in k_denials_in
  have b_denials_in := U_denials_in.binds (ps := PS_denials_in) fun _ _ _ _ _ _ us hl => match us, hl with | [_], _ => rfl
  have U_is_denial := fun_mk (st := st_is_denial) l_is_denial c_is_denial k_is_denial
  have b_is_denial := U_is_denial.binds (ps := PS_is_denial) fun _ _ _ _ _ _ us hl => match us, hl with | [_, _], _ => rfl
  have U_barred_step := fun_mk (st := st_barred_step) l_barred_step c_barred_step k_barred_step
  have b_barred_step := U_barred_step.binds (ps := PS_barred_step) fun _ _ _ _ _ _ us hl => match us, hl with | [_, _], _ => rfl
  have U_within := fun_mk (st := st_within) l_within c_within k_within
  have b_within := U_within.binds (ps := PS_within) fun _ _ _ _ _ _ us hl => match us, hl with | [_, _], _ => rfl
  have U_says_more := fun_mk (st := st_says_more) l_says_more c_says_more k_says_more
  have b_says_more := U_says_more.binds (ps := PS_says_more) fun _ _ _ _ _ _ us hl => match us, hl with | [_, _], _ => rfl
  have U_less_step := fun_mk (st := st_less_step) l_less_step c_less_step k_less_step
  have b_less_step := U_less_step.binds (ps := PS_less_step) fun _ _ _ _ _ _ us hl => match us, hl with | [_, _], _ => rfl
  have U_next_step := fun_mk (st := st_next_step) l_next_step c_next_step k_next_step
  have b_next_step := U_next_step.binds (ps := PS_next_step) fun _ _ _ _ _ _ us hl => match us, hl with | [_], _ => rfl
  have U_law_makers := fun_mk (st := st_law_makers) l_law_makers c_law_makers k_law_makers
  have b_law_makers := U_law_makers.binds (ps := PS_law_makers) fun _ _ _ _ _ _ us hl => match us, hl with | [_, _], _ => rfl
  have U_law_same := fun_mk (st := st_law_same) l_law_same c_law_same k_law_same
  have b_law_same := U_law_same.binds (ps := PS_law_same) fun _ _ _ _ _ _ us hl => match us, hl with | [_, _], _ => rfl
  have U_lot := fun_mk (st := st_lot) l_lot c_lot k_lot
  have b_lot := U_lot.binds (ps := PS_lot) fun _ _ _ _ _ _ us hl => match us, hl with | [_], _ => rfl
  have U_letters_of := fun_mk (st := st_letters_of) l_letters_of c_letters_of k_letters_of
  have b_letters_of := U_letters_of.binds (ps := PS_letters_of) fun _ _ _ _ _ _ us hl => match us, hl with | [_], _ => rfl
  have U_all_letters := fun_mk (st := st_all_letters) l_all_letters c_all_letters k_all_letters
  have b_all_letters := U_all_letters.binds (ps := PS_all_letters) fun _ _ _ _ _ _ us hl => match us, hl with | [_, _], _ => rfl
  have U_body_holds := fun_mk (st := st_body_holds) l_body_holds c_body_holds k_body_holds
  have b_body_holds := U_body_holds.binds (ps := PS_body_holds) fun _ _ _ _ _ _ us hl => match us, hl with | [_, _, _], _ => rfl
  have U_head_holds := fun_mk (st := st_head_holds) l_head_holds c_head_holds k_head_holds
  have b_head_holds := U_head_holds.binds (ps := PS_head_holds) fun _ _ _ _ _ _ us hl => match us, hl with | [_, _, _], _ => rfl
  have U_rule_holds := fun_mk (st := st_rule_holds) l_rule_holds c_rule_holds k_rule_holds
  have b_rule_holds := U_rule_holds.binds (ps := PS_rule_holds) fun _ _ _ _ _ _ us hl => match us, hl with | [_, _, _], _ => rfl
  have U_all_hold := fun_mk (st := st_all_hold) l_all_hold c_all_hold k_all_hold
  have b_all_hold := U_all_hold.binds (ps := PS_all_hold) fun _ _ _ _ _ _ us hl => match us, hl with | [_, _, _], _ => rfl
  have U_all_lots := fun_mk (st := st_all_lots) l_all_lots c_all_lots k_all_lots
  have b_all_lots := U_all_lots.binds (ps := PS_all_lots) fun _ _ _ _ _ _ us hl => match us, hl with | [_], _ => rfl
  have U_first_parting := fun_mk (st := st_first_parting) l_first_parting c_first_parting k_first_parting
  have b_first_parting := U_first_parting.binds (ps := PS_first_parting) fun _ _ _ _ _ _ us hl => match us, hl with | [_, _], _ => rfl
  have U_alike_everywhere := fun_mk (st := st_alike_everywhere) l_alike_everywhere c_alike_everywhere k_alike_everywhere
  have b_alike_everywhere := U_alike_everywhere.binds (ps := PS_alike_everywhere) fun _ _ _ _ _ _ us hl => match us, hl with | [_, _], _ => rfl
  have U_is_step := fun_mk (st := st_is_step) l_is_step c_is_step k_is_step
  have b_is_step := U_is_step.binds (ps := PS_is_step) fun _ _ _ _ _ _ us hl => match us, hl with | [_, _], _ => rfl
  have U_law_holds := fun_mk (st := st_law_holds) l_law_holds c_law_holds k_law_holds
  have b_law_holds := U_law_holds.binds (ps := PS_law_holds) fun _ _ _ _ _ _ us hl => match us, hl with | [_, _, _], _ => rfl
  have U_law_all := fun_mk (st := st_law_all) l_law_all c_law_all k_law_all
  have b_law_all := U_law_all.binds (ps := PS_law_all) fun _ _ _ _ _ _ us hl => match us, hl with | [_, _, _], _ => rfl
  have U_law_lots := fun_mk (st := st_law_lots) l_law_lots c_law_lots k_law_lots
  have b_law_lots := U_law_lots.binds (ps := PS_law_lots) fun _ _ _ _ _ _ us hl => match us, hl with | [_], _ => rfl
  have U_law_worlds := fun_mk (st := st_law_worlds) l_law_worlds c_law_worlds k_law_worlds
  have b_law_worlds := U_law_worlds.binds (ps := PS_law_worlds) fun _ _ _ _ _ _ us hl => match us, hl with | [_, _], _ => rfl
  have U_done := fun_mk (st := st_done) l_done c_done k_done
  have b_done := U_done.binds (ps := PS_done) fun _ _ _ _ _ _ us hl => match us, hl with | [_, _], _ => rfl
  have U_law_may := fun_mk (st := st_law_may) l_law_may c_law_may k_law_may
  have b_law_may := U_law_may.binds (ps := PS_law_may) fun _ _ _ _ _ _ us hl => match us, hl with | [_, _, _], _ => rfl
  have U_law_bent := fun_mk (st := st_law_bent) l_law_bent c_law_bent k_law_bent
  have b_law_bent := U_law_bent.binds (ps := PS_law_bent) fun _ _ _ _ _ _ us hl => match us, hl with | [_, _, _, _], _ => rfl
  have U_law_step_fits := fun_mk (st := st_law_step_fits) l_law_step_fits c_law_step_fits k_law_step_fits
  have b_law_step_fits := U_law_step_fits.binds (ps := PS_law_step_fits) fun _ _ _ _ _ _ us hl => match us, hl with | [_, _, _], _ => rfl
  have U_simplified := fun_mk (st := st_simplified) l_simplified c_simplified k_simplified
  have b_simplified := U_simplified.binds (ps := PS_simplified) fun _ _ _ _ _ _ us hl => match us, hl with | [_], _ => rfl
  have U_law_leads := fun_mk (st := st_law_leads) l_law_leads c_law_leads k_law_leads
  have b_law_leads := U_law_leads.binds (ps := PS_law_leads) fun _ _ _ _ _ _ us hl => match us, hl with | [_, _, _, _], _ => rfl
  have U_shows_simpler := fun_mk (st := st_shows_simpler) l_shows_simpler c_shows_simpler k_shows_simpler
  have b_shows_simpler := U_shows_simpler.binds (ps := PS_shows_simpler) fun _ _ _ _ _ _ us hl => match us, hl with | [_, _, _], _ => rfl
  have U_unused := fun_mk (st := st_unused) l_unused c_unused k_unused
  have b_unused := U_unused.binds (ps := PS_unused) fun _ _ _ _ _ _ us hl => match us, hl with | [_], _ => rfl
  have U_plain_rule := fun_mk (st := st_plain_rule) l_plain_rule c_plain_rule k_plain_rule
  have b_plain_rule := U_plain_rule.binds (ps := PS_plain_rule) fun _ _ _ _ _ _ us hl => match us, hl with | [_, _, _, _, _], _ => rfl
  have U_as_barred := fun_mk (st := st_as_barred) l_as_barred c_as_barred k_as_barred
  have b_as_barred := U_as_barred.binds (ps := PS_as_barred) fun _ _ _ _ _ _ us hl => match us, hl with | [_], _ => rfl
  have U_size_of := fun_mk (st := st_size_of) l_size_of c_size_of k_size_of
  have b_size_of := U_size_of.binds (ps := PS_size_of) fun _ _ _ _ _ _ us hl => match us, hl with | [_], _ => rfl
  have U_law := fun_mk (st := st_law) l_law c_law k_law
  have b_law := U_law.binds (ps := PS_law) fun _ _ _ _ _ _ us hl => match us, hl with | [_], _ => rfl
  have hT0 : tbOf K mg = [(P0, ("all_lots.<locals>.<lambda>" : PySem.Str))] := by
    refine (tbOf_one (x := "all_lots") (fun y hy hne => ?_) (by decide +kernel) (PySem.W.mg_of X G a_all_lots) (by rw [l_all_lots]; rfl) y_c).trans (congrArg (fun q => [(P0, q)]) (by decide +kernel))
    unfold lamNames at hy
    simp only [List.mem_cons, List.not_mem_nil, or_false] at hy
    rcases hy with rfl | rfl | rfl | rfl | rfl | rfl | rfl
    · exact absurd rfl hne
    · exact PySem.W.mg_none_of X G y_fewest_dropped
    · exact PySem.W.mg_none_of X G y_fewest_facts
    · exact PySem.W.mg_none_of X G y_all_loops
    · exact PySem.W.mg_none_of X G y_least_splits
    · exact PySem.W.mg_none_of X G y_least_signs
    · exact PySem.W.mg_none_of X G y_fewest_to_know
  refine ⟨hT0, ⟨PySem.W.fnOf "law" "law" (defArgs st_law) (defBody st_law) (defScope st_law) .none kV_law dc_law pm_law an_law cd_law ct_law, fun s v => .of_eq rfl, fun base hK hB hTB => ?_⟩⟩
  have TB := hTB (c0, P0) (List.mem_singleton.mpr rfl)
  have C_law_cell : Cal l.prog w K mg base 4 "_law_cell" PS_law_cell F_law_cell := ⟨⟨_, _, _, _, _, ok_law_cell U_law_cell m_len, PySem.W.mg_of X G a_law_cell, k_law_cell, b_law_cell, l_law_cell⟩, fnF_len⟩
  have C_law_digits : Cal l.prog w K mg base 5 "_law_digits" PS_law_digits F_law_digits := ⟨⟨_, _, _, _, _, ok_law_digits U_law_digits m_int m_range (C_law_cell.mono (by decide)), PySem.W.mg_of X G a_law_digits, k_law_digits, b_law_digits, l_law_digits⟩, fnF_len⟩
  have C_law_draw : Cal l.prog w K mg base 4 "_law_draw" PS_law_draw F_law_draw := ⟨⟨_, _, _, _, _, ok_law_draw U_law_draw m_int m_len, PySem.W.mg_of X G a_law_draw, k_law_draw, b_law_draw, l_law_draw⟩, fnF_len⟩
  have C_law_mixed : Cal l.prog w K mg base 5 "_law_mixed" PS_law_mixed F_law_mixed := ⟨⟨_, _, _, _, _, ok_law_mixed U_law_mixed m_int m_len m_list m_range (C_law_draw.mono (by decide)), PySem.W.mg_of X G a_law_mixed, k_law_mixed, b_law_mixed, l_law_mixed⟩, fnF_len⟩
  have C_law_pick : Cal l.prog w K mg base 5 "_law_pick" PS_law_pick F_law_pick := ⟨⟨_, _, _, _, _, ok_law_pick U_law_pick m_int m_len (C_law_draw.mono (by decide)), PySem.W.mg_of X G a_law_pick, k_law_pick, b_law_pick, l_law_pick⟩, fnF_len⟩
  have C_law_rule : Cal l.prog w K mg base 6 "_law_rule" PS_law_rule F_law_rule := ⟨⟨_, _, _, _, _, ok_law_rule U_law_rule m_sorted m_tuple (C_law_draw.mono (by decide)) (C_law_mixed.mono (by decide)) (C_law_pick.mono (by decide)), PySem.W.mg_of X G a_law_rule, k_law_rule, b_law_rule, l_law_rule⟩, fnF_len⟩
  have C_law_rules : CaL l.prog w K mg base 7 "_law_rules" PS_law_rules F_law_rules := ⟨⟨_, _, _, _, _, ok_law_rules U_law_rules m_range (C_law_rule.mono (by decide)) (C_law_draw.mono (by decide)), PySem.W.mg_of X G a_law_rules, k_law_rules, b_law_rules, l_law_rules⟩, fnL_len⟩
  have C_law_book : Cal l.prog w K mg base 8 "_law_book" PS_law_book F_law_book := ⟨⟨_, _, _, _, _, ok_law_book U_law_book m_range m_sorted m_tuple (C_law_rules.mono (by decide)) (C_law_mixed.mono (by decide)) (C_law_pick.mono (by decide)), PySem.W.mg_of X G a_law_book, k_law_book, b_law_book, l_law_book⟩, fnF_len⟩
  have C_in_order : Cal l.prog w K mg base 4 "in_order" PS_in_order F_in_order := ⟨⟨_, _, _, _, _, ok_in_order U_in_order m_sorted, PySem.W.mg_of X G a_in_order, k_in_order, b_in_order, l_in_order⟩, fnF_len⟩
  have C_split_step : Cal l.prog w K mg base 4 "split_step" PS_split_step F_split_step := ⟨⟨_, _, _, _, _, ok_split_step U_split_step m_len m_tuple, PySem.W.mg_of X G a_split_step, k_split_step, b_split_step, l_split_step⟩, fnF_len⟩
  have C_idle_step : Cal l.prog w K mg base 4 "idle_step" PS_idle_step F_idle_step := ⟨⟨_, _, _, _, _, ok_idle_step U_idle_step m_any m_len, PySem.W.mg_of X G a_idle_step, k_idle_step, b_idle_step, l_idle_step⟩, fnF_len⟩
  have C_never_step : Cal l.prog w K mg base 4 "never_step" PS_never_step F_never_step := ⟨⟨_, _, _, _, _, ok_never_step U_never_step m_any, PySem.W.mg_of X G a_never_step, k_never_step, b_never_step, l_never_step⟩, fnF_len⟩
  have C_less_of : Cal l.prog w K mg base 4 "less_of" PS_less_of F_less_of := ⟨⟨_, _, _, _, _, ok_less_of U_less_of m_tuple, PySem.W.mg_of X G a_less_of, k_less_of, b_less_of, l_less_of⟩, fnF_len⟩
  have C_double_step : Cal l.prog w K mg base 5 "double_step" PS_double_step F_double_step := ⟨⟨_, _, _, _, _, ok_double_step U_double_step m_any (C_less_of.mono (by decide)), PySem.W.mg_of X G a_double_step, k_double_step, b_double_step, l_double_step⟩, fnF_len⟩
  have C_shadow_step : Cal l.prog w K mg base 5 "shadow_step" PS_shadow_step F_shadow_step := ⟨⟨_, _, _, _, _, ok_shadow_step U_shadow_step m_any (C_less_of.mono (by decide)), PySem.W.mg_of X G a_shadow_step, k_shadow_step, b_shadow_step, l_shadow_step⟩, fnF_len⟩
  have C_fact : Cal l.prog w K mg base 4 "fact" PS_fact F_fact := ⟨⟨_, _, _, _, _, ok_fact U_fact, PySem.W.mg_of X G a_fact, k_fact, b_fact, l_fact⟩, fnF_len⟩
  have C_facts_in : Cal l.prog w K mg base 5 "facts_in" PS_facts_in F_facts_in := ⟨⟨_, _, _, _, _, ok_facts_in U_facts_in m_len (C_in_order.mono (by decide)) (C_fact.mono (by decide)), PySem.W.mg_of X G a_facts_in, k_facts_in, b_facts_in, l_facts_in⟩, fnF_len⟩
  have C_given_step : Cal l.prog w K mg base 6 "given_step" PS_given_step F_given_step := ⟨⟨_, _, _, _, _, ok_given_step U_given_step m_any m_len m_tuple (C_facts_in.mono (by decide)) (C_fact.mono (by decide)) (C_less_of.mono (by decide)), PySem.W.mg_of X G a_given_step, k_given_step, b_given_step, l_given_step⟩, fnF_len⟩
  have C_denials_in : Cal l.prog w K mg base 5 "denials_in" PS_denials_in F_denials_in := ⟨⟨_, _, _, _, _, ok_denials_in U_denials_in m_len m_sorted (C_in_order.mono (by decide)), PySem.W.mg_of X G a_denials_in, k_denials_in, b_denials_in, l_denials_in⟩, fnF_len⟩
  have C_is_denial : Cal l.prog w K mg base 4 "is_denial" PS_is_denial F_is_denial := ⟨⟨_, _, _, _, _, ok_is_denial U_is_denial m_len, PySem.W.mg_of X G a_is_denial, k_is_denial, b_is_denial, l_is_denial⟩, fnF_len⟩
  have C_barred_step : Cal l.prog w K mg base 6 "barred_step" PS_barred_step F_barred_step := ⟨⟨_, _, _, _, _, ok_barred_step U_barred_step m_any m_len m_tuple (C_denials_in.mono (by decide)) (C_is_denial.mono (by decide)) (C_in_order.mono (by decide)) (C_less_of.mono (by decide)), PySem.W.mg_of X G a_barred_step, k_barred_step, b_barred_step, l_barred_step⟩, fnF_len⟩
  have C_within : Cal l.prog w K mg base 4 "within" PS_within F_within := ⟨⟨_, _, _, _, _, ok_within U_within m_all, PySem.W.mg_of X G a_within, k_within, b_within, l_within⟩, fnF_len⟩
  have C_says_more : Cal l.prog w K mg base 5 "says_more" PS_says_more F_says_more := ⟨⟨_, _, _, _, _, ok_says_more U_says_more m_len (C_within.mono (by decide)), PySem.W.mg_of X G a_says_more, k_says_more, b_says_more, l_says_more⟩, fnF_len⟩
  have C_less_step : Cal l.prog w K mg base 6 "less_step" PS_less_step F_less_step := ⟨⟨_, _, _, _, _, ok_less_step U_less_step (C_says_more.mono (by decide)) (C_in_order.mono (by decide)), PySem.W.mg_of X G a_less_step, k_less_step, b_less_step, l_less_step⟩, fnF_len⟩
  have C_next_step : Cal l.prog w K mg base 7 "next_step" PS_next_step F_next_step := ⟨⟨_, _, _, _, _, ok_next_step U_next_step (C_in_order.mono (by decide)) (C_split_step.mono (by decide)) (C_idle_step.mono (by decide)) (C_never_step.mono (by decide)) (C_double_step.mono (by decide)) (C_shadow_step.mono (by decide)) (C_given_step.mono (by decide)) (C_barred_step.mono (by decide)) (C_less_step.mono (by decide)), PySem.W.mg_of X G a_next_step, k_next_step, b_next_step, l_next_step⟩, fnF_len⟩
  have C_law_makers : Cal l.prog w K mg base 7 "_law_makers" PS_law_makers F_law_makers := ⟨⟨_, _, _, _, _, ok_law_makers U_law_makers (C_shadow_step.mono (by decide)) (C_double_step.mono (by decide)) (C_never_step.mono (by decide)) (C_idle_step.mono (by decide)) (C_split_step.mono (by decide)) (C_less_step.mono (by decide)) (C_barred_step.mono (by decide)) (C_given_step.mono (by decide)), PySem.W.mg_of X G a_law_makers, k_law_makers, b_law_makers, l_law_makers⟩, fnF_len⟩
  have C_law_same : Cal l.prog w K mg base 10 "_law_same" PS_law_same F_law_same := rec_cal (R := R_law_same) (k := 4) rfl (PySem.W.mg_of X G a_law_same) k_law_same b_law_same l_law_same (fun n c => ok_law_same U_law_same m_bool m_dict m_int m_isinstance m_len m_list m_range m_repr m_str m_tuple c) (fun n => fnF_len) 6
  have C_lot : Cal l.prog w K mg base 4 "lot" PS_lot F_lot := ⟨⟨_, _, _, _, _, ok_lot U_lot m_sorted m_tuple, PySem.W.mg_of X G a_lot, k_lot, b_lot, l_lot⟩, fnF_len⟩
  have C_letters_of : Cal l.prog w K mg base 5 "letters_of" PS_letters_of F_letters_of := ⟨⟨_, _, _, _, _, ok_letters_of U_letters_of (C_lot.mono (by decide)), PySem.W.mg_of X G a_letters_of, k_letters_of, b_letters_of, l_letters_of⟩, fnF_len⟩
  have C_all_letters : Cal l.prog w K mg base 6 "all_letters" PS_all_letters F_all_letters := ⟨⟨_, _, _, _, _, ok_all_letters U_all_letters (C_lot.mono (by decide)) (C_letters_of.mono (by decide)), PySem.W.mg_of X G a_all_letters, k_all_letters, b_all_letters, l_all_letters⟩, fnF_len⟩
  have C_body_holds : Cal l.prog w K mg base 5 "body_holds" PS_body_holds F_body_holds := ⟨⟨_, _, _, _, _, ok_body_holds U_body_holds m_any (C_within.mono (by decide)), PySem.W.mg_of X G a_body_holds, k_body_holds, b_body_holds, l_body_holds⟩, fnF_len⟩
  have C_head_holds : Cal l.prog w K mg base 4 "head_holds" PS_head_holds F_head_holds := ⟨⟨_, _, _, _, _, ok_head_holds U_head_holds m_all m_any, PySem.W.mg_of X G a_head_holds, k_head_holds, b_head_holds, l_head_holds⟩, fnF_len⟩
  have C_rule_holds : Cal l.prog w K mg base 6 "rule_holds" PS_rule_holds F_rule_holds := ⟨⟨_, _, _, _, _, ok_rule_holds U_rule_holds (C_body_holds.mono (by decide)) (C_head_holds.mono (by decide)), PySem.W.mg_of X G a_rule_holds, k_rule_holds, b_rule_holds, l_rule_holds⟩, fnF_len⟩
  have C_all_hold : Cal l.prog w K mg base 7 "all_hold" PS_all_hold F_all_hold := ⟨⟨_, _, _, _, _, ok_all_hold U_all_hold m_all (C_rule_holds.mono (by decide)), PySem.W.mg_of X G a_all_hold, k_all_hold, b_all_hold, l_all_hold⟩, fnF_len⟩
  have C_all_lots : Cal l.prog w K mg base 4 "all_lots" PS_all_lots F_all_lots := ⟨⟨_, _, _, _, _, ok_all_lots l_all_lots c_all_lots TB hT0 m_len m_sorted G_MOST_LETTERS, PySem.W.mg_of X G a_all_lots, k_all_lots, b_all_lots, l_all_lots⟩, fnF_len⟩
  have C_first_parting : Cal l.prog w K mg base 8 "first_parting" PS_first_parting F_first_parting := ⟨⟨_, _, _, _, _, ok_first_parting U_first_parting m_sorted (C_all_letters.mono (by decide)) (C_all_hold.mono (by decide)) (C_all_lots.mono (by decide)), PySem.W.mg_of X G a_first_parting, k_first_parting, b_first_parting, l_first_parting⟩, fnF_len⟩
  have C_alike_everywhere : Cal l.prog w K mg base 9 "alike_everywhere" PS_alike_everywhere F_alike_everywhere := ⟨⟨_, _, _, _, _, ok_alike_everywhere U_alike_everywhere (C_first_parting.mono (by decide)), PySem.W.mg_of X G a_alike_everywhere, k_alike_everywhere, b_alike_everywhere, l_alike_everywhere⟩, fnF_len⟩
  have C_is_step : Cal l.prog w K mg base 10 "is_step" PS_is_step F_is_step := ⟨⟨_, _, _, _, _, ok_is_step U_is_step m_all m_list G_KINDS (C_alike_everywhere.mono (by decide)), PySem.W.mg_of X G a_is_step, k_is_step, b_is_step, l_is_step⟩, fnF_len⟩
  have C_law_holds : Cal l.prog w K mg base 4 "_law_holds" PS_law_holds F_law_holds := ⟨⟨_, _, _, _, _, ok_law_holds U_law_holds, PySem.W.mg_of X G a_law_holds, k_law_holds, b_law_holds, l_law_holds⟩, fnF_len⟩
  have C_law_all : Cal l.prog w K mg base 5 "_law_all" PS_law_all F_law_all := ⟨⟨_, _, _, _, _, ok_law_all U_law_all (C_law_holds.mono (by decide)), PySem.W.mg_of X G a_law_all, k_law_all, b_law_all, l_law_all⟩, fnF_len⟩
  have C_law_lots : Cal l.prog w K mg base 4 "_law_lots" PS_law_lots F_law_lots := ⟨⟨_, _, _, _, _, ok_law_lots U_law_lots m_len m_sorted, PySem.W.mg_of X G a_law_lots, k_law_lots, b_law_lots, l_law_lots⟩, fnF_len⟩
  have C_law_worlds : Cal l.prog w K mg base 6 "_law_worlds" PS_law_worlds F_law_worlds := ⟨⟨_, _, _, _, _, ok_law_worlds U_law_worlds m_sorted (C_law_all.mono (by decide)) (C_law_lots.mono (by decide)), PySem.W.mg_of X G a_law_worlds, k_law_worlds, b_law_worlds, l_law_worlds⟩, fnF_len⟩
  have C_done : Cal l.prog w K mg base 5 "done" PS_done F_done := ⟨⟨_, _, _, _, _, ok_done U_done m_list (C_in_order.mono (by decide)), PySem.W.mg_of X G a_done, k_done, b_done, l_done⟩, fnF_len⟩
  have C_law_may : Cal l.prog w K mg base 7 "_law_may" PS_law_may F_law_may := ⟨⟨_, _, _, _, _, ok_law_may U_law_may m_list (C_law_worlds.mono (by decide)), PySem.W.mg_of X G a_law_may, k_law_may, b_law_may, l_law_may⟩, fnF_len⟩
  have C_law_bent : Cal l.prog w K mg base 6 "_law_bent" PS_law_bent F_law_bent := ⟨⟨_, _, _, _, _, ok_law_bent U_law_bent m_tuple (C_law_pick.mono (by decide)), PySem.W.mg_of X G a_law_bent, k_law_bent, b_law_bent, l_law_bent⟩, fnF_len⟩
  have C_law_step_fits : Cal l.prog w K mg base 11 "_law_step_fits" PS_law_step_fits F_law_step_fits := ⟨⟨_, _, _, _, _, ok_law_step_fits U_law_step_fits m_sorted (C_next_step.mono (by decide)) (C_law_makers.mono (by decide)) (C_law_same.mono (by decide)) (C_is_step.mono (by decide)) (C_law_worlds.mono (by decide)) (C_done.mono (by decide)) (C_law_may.mono (by decide)) (C_law_bent.mono (by decide)), PySem.W.mg_of X G a_law_step_fits, k_law_step_fits, b_law_step_fits, l_law_step_fits⟩, fnF_len⟩
  have C_simplified : Cal l.prog w K mg base 8 "simplified" PS_simplified F_simplified := ⟨⟨_, _, _, _, _, ok_simplified U_simplified (C_in_order.mono (by decide)) (C_next_step.mono (by decide)) (C_done.mono (by decide)), PySem.W.mg_of X G a_simplified, k_simplified, b_simplified, l_simplified⟩, fnF_len⟩
  have C_law_leads : Cal l.prog w K mg base 8 "_law_leads" PS_law_leads F_law_leads := ⟨⟨_, _, _, _, _, ok_law_leads U_law_leads m_list m_set m_sorted (C_law_may.mono (by decide)), PySem.W.mg_of X G a_law_leads, k_law_leads, b_law_leads, l_law_leads⟩, fnF_len⟩
  have C_shows_simpler : Cal l.prog w K mg base 11 "shows_simpler" PS_shows_simpler F_shows_simpler := ⟨⟨_, _, _, _, _, ok_shows_simpler U_shows_simpler (C_in_order.mono (by decide)) (C_is_step.mono (by decide)) (C_done.mono (by decide)), PySem.W.mg_of X G a_shows_simpler, k_shows_simpler, b_shows_simpler, l_shows_simpler⟩, fnF_len⟩
  have C_unused : Cal l.prog w K mg base 4 "unused" PS_unused F_unused := ⟨⟨_, _, _, _, _, ok_unused U_unused m_sorted, PySem.W.mg_of X G a_unused, k_unused, b_unused, l_unused⟩, fnF_len⟩
  have C_plain_rule : Cal l.prog w K mg base 5 "plain_rule" PS_plain_rule F_plain_rule := ⟨⟨_, _, _, _, _, ok_plain_rule U_plain_rule (C_lot.mono (by decide)), PySem.W.mg_of X G a_plain_rule, k_plain_rule, b_plain_rule, l_plain_rule⟩, fnF_len⟩
  have C_as_barred : Cal l.prog w K mg base 6 "as_barred" PS_as_barred F_as_barred := ⟨⟨_, _, _, _, _, ok_as_barred U_as_barred m_list (C_in_order.mono (by decide)) (C_unused.mono (by decide)) (C_plain_rule.mono (by decide)), PySem.W.mg_of X G a_as_barred, k_as_barred, b_as_barred, l_as_barred⟩, fnF_len⟩
  have C_size_of : Cal l.prog w K mg base 5 "size_of" PS_size_of F_size_of := ⟨⟨_, _, _, _, _, ok_size_of U_size_of m_len m_sum (C_in_order.mono (by decide)), PySem.W.mg_of X G a_size_of, k_size_of, b_size_of, l_size_of⟩, fnF_len⟩
  exact ok_law U_law m_isinstance m_len m_list m_set m_sorted m_sum (C_law_digits.mono (by decide)) (C_law_draw.mono (by decide)) (C_law_book.mono (by decide)) (C_law_step_fits.mono (by decide)) (C_simplified.mono (by decide)) (C_law_worlds.mono (by decide)) (C_next_step.mono (by decide)) (C_law_same.mono (by decide)) (C_law_leads.mono (by decide)) (C_shows_simpler.mono (by decide)) (C_as_barred.mono (by decide)) (C_unused.mono (by decide)) (C_denials_in.mono (by decide)) (C_facts_in.mono (by decide)) (C_size_of.mono (by decide))
set_option maxHeartbeats 0 in
theorem law_at {l : PySem.W.OpenLaw} {w : World} {K : PySem.W.Frag} {h : Heap} {mg : PySem.Str → Option Value} {fa : Addr} (X : K.In h) (G : h.Ns mainGlobals mg) (hfa : mg "law" = some (.ref fa))
    {f_law_cell : Addr} {od_law_cell an_law_cell : Option Addr} {sl_law_cell : Array (Option Value)} {oc_law_cell kV_law_cell dc_law_cell pm_law_cell ct_law_cell cd_law_cell : Value}
    {f_law_digits : Addr} {od_law_digits an_law_digits : Option Addr} {sl_law_digits : Array (Option Value)} {oc_law_digits kV_law_digits dc_law_digits pm_law_digits ct_law_digits cd_law_digits : Value}
    {f_law_draw : Addr} {od_law_draw an_law_draw : Option Addr} {sl_law_draw : Array (Option Value)} {oc_law_draw kV_law_draw dc_law_draw pm_law_draw ct_law_draw cd_law_draw : Value}
    {f_law_mixed : Addr} {od_law_mixed an_law_mixed : Option Addr} {sl_law_mixed : Array (Option Value)} {oc_law_mixed kV_law_mixed dc_law_mixed pm_law_mixed ct_law_mixed cd_law_mixed : Value}
    {f_law_pick : Addr} {od_law_pick an_law_pick : Option Addr} {sl_law_pick : Array (Option Value)} {oc_law_pick kV_law_pick dc_law_pick pm_law_pick ct_law_pick cd_law_pick : Value}
    {f_law_rule : Addr} {od_law_rule an_law_rule : Option Addr} {sl_law_rule : Array (Option Value)} {oc_law_rule kV_law_rule dc_law_rule pm_law_rule ct_law_rule cd_law_rule : Value}
    {f_law_rules : Addr} {od_law_rules an_law_rules : Option Addr} {sl_law_rules : Array (Option Value)} {oc_law_rules kV_law_rules dc_law_rules pm_law_rules ct_law_rules cd_law_rules : Value}
    {f_law_book : Addr} {od_law_book an_law_book : Option Addr} {sl_law_book : Array (Option Value)} {oc_law_book kV_law_book dc_law_book pm_law_book ct_law_book cd_law_book : Value}
    {f_in_order : Addr} {od_in_order an_in_order : Option Addr} {sl_in_order : Array (Option Value)} {oc_in_order kV_in_order dc_in_order pm_in_order ct_in_order cd_in_order : Value}
    {f_split_step : Addr} {od_split_step an_split_step : Option Addr} {sl_split_step : Array (Option Value)} {oc_split_step kV_split_step dc_split_step pm_split_step ct_split_step cd_split_step : Value}
    {f_idle_step : Addr} {od_idle_step an_idle_step : Option Addr} {sl_idle_step : Array (Option Value)} {oc_idle_step kV_idle_step dc_idle_step pm_idle_step ct_idle_step cd_idle_step : Value}
    {f_never_step : Addr} {od_never_step an_never_step : Option Addr} {sl_never_step : Array (Option Value)} {oc_never_step kV_never_step dc_never_step pm_never_step ct_never_step cd_never_step : Value}
    {f_less_of : Addr} {od_less_of an_less_of : Option Addr} {sl_less_of : Array (Option Value)} {oc_less_of kV_less_of dc_less_of pm_less_of ct_less_of cd_less_of : Value}
    {f_double_step : Addr} {od_double_step an_double_step : Option Addr} {sl_double_step : Array (Option Value)} {oc_double_step kV_double_step dc_double_step pm_double_step ct_double_step cd_double_step : Value}
    {f_shadow_step : Addr} {od_shadow_step an_shadow_step : Option Addr} {sl_shadow_step : Array (Option Value)} {oc_shadow_step kV_shadow_step dc_shadow_step pm_shadow_step ct_shadow_step cd_shadow_step : Value}
    {f_fact : Addr} {od_fact an_fact : Option Addr} {sl_fact : Array (Option Value)} {oc_fact kV_fact dc_fact pm_fact ct_fact cd_fact : Value}
    {f_facts_in : Addr} {od_facts_in an_facts_in : Option Addr} {sl_facts_in : Array (Option Value)} {oc_facts_in kV_facts_in dc_facts_in pm_facts_in ct_facts_in cd_facts_in : Value}
    {f_given_step : Addr} {od_given_step an_given_step : Option Addr} {sl_given_step : Array (Option Value)} {oc_given_step kV_given_step dc_given_step pm_given_step ct_given_step cd_given_step : Value}
    {f_denials_in : Addr} {od_denials_in an_denials_in : Option Addr} {sl_denials_in : Array (Option Value)} {oc_denials_in kV_denials_in dc_denials_in pm_denials_in ct_denials_in cd_denials_in : Value}
    {f_is_denial : Addr} {od_is_denial an_is_denial : Option Addr} {sl_is_denial : Array (Option Value)} {oc_is_denial kV_is_denial dc_is_denial pm_is_denial ct_is_denial cd_is_denial : Value}
    {f_barred_step : Addr} {od_barred_step an_barred_step : Option Addr} {sl_barred_step : Array (Option Value)} {oc_barred_step kV_barred_step dc_barred_step pm_barred_step ct_barred_step cd_barred_step : Value}
    {f_within : Addr} {od_within an_within : Option Addr} {sl_within : Array (Option Value)} {oc_within kV_within dc_within pm_within ct_within cd_within : Value}
    {f_says_more : Addr} {od_says_more an_says_more : Option Addr} {sl_says_more : Array (Option Value)} {oc_says_more kV_says_more dc_says_more pm_says_more ct_says_more cd_says_more : Value}
    {f_less_step : Addr} {od_less_step an_less_step : Option Addr} {sl_less_step : Array (Option Value)} {oc_less_step kV_less_step dc_less_step pm_less_step ct_less_step cd_less_step : Value}
    {f_next_step : Addr} {od_next_step an_next_step : Option Addr} {sl_next_step : Array (Option Value)} {oc_next_step kV_next_step dc_next_step pm_next_step ct_next_step cd_next_step : Value}
    {f_law_makers : Addr} {od_law_makers an_law_makers : Option Addr} {sl_law_makers : Array (Option Value)} {oc_law_makers kV_law_makers dc_law_makers pm_law_makers ct_law_makers cd_law_makers : Value}
    {f_law_same : Addr} {od_law_same an_law_same : Option Addr} {sl_law_same : Array (Option Value)} {oc_law_same kV_law_same dc_law_same pm_law_same ct_law_same cd_law_same : Value}
    {f_lot : Addr} {od_lot an_lot : Option Addr} {sl_lot : Array (Option Value)} {oc_lot kV_lot dc_lot pm_lot ct_lot cd_lot : Value}
    {f_letters_of : Addr} {od_letters_of an_letters_of : Option Addr} {sl_letters_of : Array (Option Value)} {oc_letters_of kV_letters_of dc_letters_of pm_letters_of ct_letters_of cd_letters_of : Value}
    {f_all_letters : Addr} {od_all_letters an_all_letters : Option Addr} {sl_all_letters : Array (Option Value)} {oc_all_letters kV_all_letters dc_all_letters pm_all_letters ct_all_letters cd_all_letters : Value}
    {f_body_holds : Addr} {od_body_holds an_body_holds : Option Addr} {sl_body_holds : Array (Option Value)} {oc_body_holds kV_body_holds dc_body_holds pm_body_holds ct_body_holds cd_body_holds : Value}
    {f_head_holds : Addr} {od_head_holds an_head_holds : Option Addr} {sl_head_holds : Array (Option Value)} {oc_head_holds kV_head_holds dc_head_holds pm_head_holds ct_head_holds cd_head_holds : Value}
    {f_rule_holds : Addr} {od_rule_holds an_rule_holds : Option Addr} {sl_rule_holds : Array (Option Value)} {oc_rule_holds kV_rule_holds dc_rule_holds pm_rule_holds ct_rule_holds cd_rule_holds : Value}
    {f_all_hold : Addr} {od_all_hold an_all_hold : Option Addr} {sl_all_hold : Array (Option Value)} {oc_all_hold kV_all_hold dc_all_hold pm_all_hold ct_all_hold cd_all_hold : Value}
    {f_all_lots : Addr} {od_all_lots an_all_lots : Option Addr} {sl_all_lots : Array (Option Value)} {oc_all_lots kV_all_lots dc_all_lots pm_all_lots ct_all_lots : Value}
    {f_first_parting : Addr} {od_first_parting an_first_parting : Option Addr} {sl_first_parting : Array (Option Value)} {oc_first_parting kV_first_parting dc_first_parting pm_first_parting ct_first_parting cd_first_parting : Value}
    {f_alike_everywhere : Addr} {od_alike_everywhere an_alike_everywhere : Option Addr} {sl_alike_everywhere : Array (Option Value)} {oc_alike_everywhere kV_alike_everywhere dc_alike_everywhere pm_alike_everywhere ct_alike_everywhere cd_alike_everywhere : Value}
    {f_is_step : Addr} {od_is_step an_is_step : Option Addr} {sl_is_step : Array (Option Value)} {oc_is_step kV_is_step dc_is_step pm_is_step ct_is_step cd_is_step : Value}
    {f_law_holds : Addr} {od_law_holds an_law_holds : Option Addr} {sl_law_holds : Array (Option Value)} {oc_law_holds kV_law_holds dc_law_holds pm_law_holds ct_law_holds cd_law_holds : Value}
    {f_law_all : Addr} {od_law_all an_law_all : Option Addr} {sl_law_all : Array (Option Value)} {oc_law_all kV_law_all dc_law_all pm_law_all ct_law_all cd_law_all : Value}
    {f_law_lots : Addr} {od_law_lots an_law_lots : Option Addr} {sl_law_lots : Array (Option Value)} {oc_law_lots kV_law_lots dc_law_lots pm_law_lots ct_law_lots cd_law_lots : Value}
    {f_law_worlds : Addr} {od_law_worlds an_law_worlds : Option Addr} {sl_law_worlds : Array (Option Value)} {oc_law_worlds kV_law_worlds dc_law_worlds pm_law_worlds ct_law_worlds cd_law_worlds : Value}
    {f_done : Addr} {od_done an_done : Option Addr} {sl_done : Array (Option Value)} {oc_done kV_done dc_done pm_done ct_done cd_done : Value}
    {f_law_may : Addr} {od_law_may an_law_may : Option Addr} {sl_law_may : Array (Option Value)} {oc_law_may kV_law_may dc_law_may pm_law_may ct_law_may cd_law_may : Value}
    {f_law_bent : Addr} {od_law_bent an_law_bent : Option Addr} {sl_law_bent : Array (Option Value)} {oc_law_bent kV_law_bent dc_law_bent pm_law_bent ct_law_bent cd_law_bent : Value}
    {f_law_step_fits : Addr} {od_law_step_fits an_law_step_fits : Option Addr} {sl_law_step_fits : Array (Option Value)} {oc_law_step_fits kV_law_step_fits dc_law_step_fits pm_law_step_fits ct_law_step_fits cd_law_step_fits : Value}
    {f_simplified : Addr} {od_simplified an_simplified : Option Addr} {sl_simplified : Array (Option Value)} {oc_simplified kV_simplified dc_simplified pm_simplified ct_simplified cd_simplified : Value}
    {f_law_leads : Addr} {od_law_leads an_law_leads : Option Addr} {sl_law_leads : Array (Option Value)} {oc_law_leads kV_law_leads dc_law_leads pm_law_leads ct_law_leads cd_law_leads : Value}
    {f_shows_simpler : Addr} {od_shows_simpler an_shows_simpler : Option Addr} {sl_shows_simpler : Array (Option Value)} {oc_shows_simpler kV_shows_simpler dc_shows_simpler pm_shows_simpler ct_shows_simpler cd_shows_simpler : Value}
    {f_unused : Addr} {od_unused an_unused : Option Addr} {sl_unused : Array (Option Value)} {oc_unused kV_unused dc_unused pm_unused ct_unused cd_unused : Value}
    {f_plain_rule : Addr} {od_plain_rule an_plain_rule : Option Addr} {sl_plain_rule : Array (Option Value)} {oc_plain_rule kV_plain_rule dc_plain_rule pm_plain_rule ct_plain_rule cd_plain_rule : Value}
    {f_as_barred : Addr} {od_as_barred an_as_barred : Option Addr} {sl_as_barred : Array (Option Value)} {oc_as_barred kV_as_barred dc_as_barred pm_as_barred ct_as_barred cd_as_barred : Value}
    {f_size_of : Addr} {od_size_of an_size_of : Option Addr} {sl_size_of : Array (Option Value)} {oc_size_of kV_size_of dc_size_of pm_size_of ct_size_of cd_size_of : Value}
    {f_law : Addr} {od_law an_law : Option Addr} {sl_law : Array (Option Value)} {oc_law kV_law dc_law pm_law ct_law cd_law : Value}
    {c0 P0 : Addr}
    {p_KINDS : Addr} {n_KINDS : Nat} {d_KINDS : Option Addr} {s_KINDS : Array (Option Value)} {t_KINDS0 t_KINDS1 t_KINDS2 t_KINDS3 t_KINDS4 t_KINDS5 t_KINDS6 t_KINDS7 : Tok}
    {t_MOST_LETTERS : Tok}
    (a_law_cell : PySem.W.nsIn K mainGlobals "_law_cell" = some (some (.ref f_law_cell)))
    (l_law_cell : K.lookup f_law_cell = some ⟨oc_law_cell, od_law_cell, .func (PySem.W.fnOf "_law_cell" "_law_cell" (defArgs st_law_cell) (defBody st_law_cell) (defScope st_law_cell) .none kV_law_cell dc_law_cell pm_law_cell an_law_cell cd_law_cell ct_law_cell), sl_law_cell⟩)
    (c_law_cell : PySem.W.codeIn K cd_law_cell "_law_cell" = true)
    (k_law_cell : PySem.W.keepIn K (.ref f_law_cell) = true)
    (a_law_digits : PySem.W.nsIn K mainGlobals "_law_digits" = some (some (.ref f_law_digits)))
    (l_law_digits : K.lookup f_law_digits = some ⟨oc_law_digits, od_law_digits, .func (PySem.W.fnOf "_law_digits" "_law_digits" (defArgs st_law_digits) (defBody st_law_digits) (defScope st_law_digits) .none kV_law_digits dc_law_digits pm_law_digits an_law_digits cd_law_digits ct_law_digits), sl_law_digits⟩)
    (c_law_digits : PySem.W.codeIn K cd_law_digits "_law_digits" = true)
    (k_law_digits : PySem.W.keepIn K (.ref f_law_digits) = true)
    (a_law_draw : PySem.W.nsIn K mainGlobals "_law_draw" = some (some (.ref f_law_draw)))
    (l_law_draw : K.lookup f_law_draw = some ⟨oc_law_draw, od_law_draw, .func (PySem.W.fnOf "_law_draw" "_law_draw" (defArgs st_law_draw) (defBody st_law_draw) (defScope st_law_draw) .none kV_law_draw dc_law_draw pm_law_draw an_law_draw cd_law_draw ct_law_draw), sl_law_draw⟩)
    (c_law_draw : PySem.W.codeIn K cd_law_draw "_law_draw" = true)
    (k_law_draw : PySem.W.keepIn K (.ref f_law_draw) = true)
    (a_law_mixed : PySem.W.nsIn K mainGlobals "_law_mixed" = some (some (.ref f_law_mixed)))
    (l_law_mixed : K.lookup f_law_mixed = some ⟨oc_law_mixed, od_law_mixed, .func (PySem.W.fnOf "_law_mixed" "_law_mixed" (defArgs st_law_mixed) (defBody st_law_mixed) (defScope st_law_mixed) .none kV_law_mixed dc_law_mixed pm_law_mixed an_law_mixed cd_law_mixed ct_law_mixed), sl_law_mixed⟩)
    (c_law_mixed : PySem.W.codeIn K cd_law_mixed "_law_mixed" = true)
    (k_law_mixed : PySem.W.keepIn K (.ref f_law_mixed) = true)
    (a_law_pick : PySem.W.nsIn K mainGlobals "_law_pick" = some (some (.ref f_law_pick)))
    (l_law_pick : K.lookup f_law_pick = some ⟨oc_law_pick, od_law_pick, .func (PySem.W.fnOf "_law_pick" "_law_pick" (defArgs st_law_pick) (defBody st_law_pick) (defScope st_law_pick) .none kV_law_pick dc_law_pick pm_law_pick an_law_pick cd_law_pick ct_law_pick), sl_law_pick⟩)
    (c_law_pick : PySem.W.codeIn K cd_law_pick "_law_pick" = true)
    (k_law_pick : PySem.W.keepIn K (.ref f_law_pick) = true)
    (a_law_rule : PySem.W.nsIn K mainGlobals "_law_rule" = some (some (.ref f_law_rule)))
    (l_law_rule : K.lookup f_law_rule = some ⟨oc_law_rule, od_law_rule, .func (PySem.W.fnOf "_law_rule" "_law_rule" (defArgs st_law_rule) (defBody st_law_rule) (defScope st_law_rule) .none kV_law_rule dc_law_rule pm_law_rule an_law_rule cd_law_rule ct_law_rule), sl_law_rule⟩)
    (c_law_rule : PySem.W.codeIn K cd_law_rule "_law_rule" = true)
    (k_law_rule : PySem.W.keepIn K (.ref f_law_rule) = true)
    (a_law_rules : PySem.W.nsIn K mainGlobals "_law_rules" = some (some (.ref f_law_rules)))
    (l_law_rules : K.lookup f_law_rules = some ⟨oc_law_rules, od_law_rules, .func (PySem.W.fnOf "_law_rules" "_law_rules" (defArgs st_law_rules) (defBody st_law_rules) (defScope st_law_rules) .none kV_law_rules dc_law_rules pm_law_rules an_law_rules cd_law_rules ct_law_rules), sl_law_rules⟩)
    (c_law_rules : PySem.W.codeIn K cd_law_rules "_law_rules" = true)
    (k_law_rules : PySem.W.keepIn K (.ref f_law_rules) = true)
    (a_law_book : PySem.W.nsIn K mainGlobals "_law_book" = some (some (.ref f_law_book)))
    (l_law_book : K.lookup f_law_book = some ⟨oc_law_book, od_law_book, .func (PySem.W.fnOf "_law_book" "_law_book" (defArgs st_law_book) (defBody st_law_book) (defScope st_law_book) .none kV_law_book dc_law_book pm_law_book an_law_book cd_law_book ct_law_book), sl_law_book⟩)
    (c_law_book : PySem.W.codeIn K cd_law_book "_law_book" = true)
    (k_law_book : PySem.W.keepIn K (.ref f_law_book) = true)
    (a_in_order : PySem.W.nsIn K mainGlobals "in_order" = some (some (.ref f_in_order)))
    (l_in_order : K.lookup f_in_order = some ⟨oc_in_order, od_in_order, .func (PySem.W.fnOf "in_order" "in_order" (defArgs st_in_order) (defBody st_in_order) (defScope st_in_order) .none kV_in_order dc_in_order pm_in_order an_in_order cd_in_order ct_in_order), sl_in_order⟩)
    (c_in_order : PySem.W.codeIn K cd_in_order "in_order" = true)
    (k_in_order : PySem.W.keepIn K (.ref f_in_order) = true)
    (a_split_step : PySem.W.nsIn K mainGlobals "split_step" = some (some (.ref f_split_step)))
    (l_split_step : K.lookup f_split_step = some ⟨oc_split_step, od_split_step, .func (PySem.W.fnOf "split_step" "split_step" (defArgs st_split_step) (defBody st_split_step) (defScope st_split_step) .none kV_split_step dc_split_step pm_split_step an_split_step cd_split_step ct_split_step), sl_split_step⟩)
    (c_split_step : PySem.W.codeIn K cd_split_step "split_step" = true)
    (k_split_step : PySem.W.keepIn K (.ref f_split_step) = true)
    (a_idle_step : PySem.W.nsIn K mainGlobals "idle_step" = some (some (.ref f_idle_step)))
    (l_idle_step : K.lookup f_idle_step = some ⟨oc_idle_step, od_idle_step, .func (PySem.W.fnOf "idle_step" "idle_step" (defArgs st_idle_step) (defBody st_idle_step) (defScope st_idle_step) .none kV_idle_step dc_idle_step pm_idle_step an_idle_step cd_idle_step ct_idle_step), sl_idle_step⟩)
    (c_idle_step : PySem.W.codeIn K cd_idle_step "idle_step" = true)
    (k_idle_step : PySem.W.keepIn K (.ref f_idle_step) = true)
    (a_never_step : PySem.W.nsIn K mainGlobals "never_step" = some (some (.ref f_never_step)))
    (l_never_step : K.lookup f_never_step = some ⟨oc_never_step, od_never_step, .func (PySem.W.fnOf "never_step" "never_step" (defArgs st_never_step) (defBody st_never_step) (defScope st_never_step) .none kV_never_step dc_never_step pm_never_step an_never_step cd_never_step ct_never_step), sl_never_step⟩)
    (c_never_step : PySem.W.codeIn K cd_never_step "never_step" = true)
    (k_never_step : PySem.W.keepIn K (.ref f_never_step) = true)
    (a_less_of : PySem.W.nsIn K mainGlobals "less_of" = some (some (.ref f_less_of)))
    (l_less_of : K.lookup f_less_of = some ⟨oc_less_of, od_less_of, .func (PySem.W.fnOf "less_of" "less_of" (defArgs st_less_of) (defBody st_less_of) (defScope st_less_of) .none kV_less_of dc_less_of pm_less_of an_less_of cd_less_of ct_less_of), sl_less_of⟩)
    (c_less_of : PySem.W.codeIn K cd_less_of "less_of" = true)
    (k_less_of : PySem.W.keepIn K (.ref f_less_of) = true)
    (a_double_step : PySem.W.nsIn K mainGlobals "double_step" = some (some (.ref f_double_step)))
    (l_double_step : K.lookup f_double_step = some ⟨oc_double_step, od_double_step, .func (PySem.W.fnOf "double_step" "double_step" (defArgs st_double_step) (defBody st_double_step) (defScope st_double_step) .none kV_double_step dc_double_step pm_double_step an_double_step cd_double_step ct_double_step), sl_double_step⟩)
    (c_double_step : PySem.W.codeIn K cd_double_step "double_step" = true)
    (k_double_step : PySem.W.keepIn K (.ref f_double_step) = true)
    (a_shadow_step : PySem.W.nsIn K mainGlobals "shadow_step" = some (some (.ref f_shadow_step)))
    (l_shadow_step : K.lookup f_shadow_step = some ⟨oc_shadow_step, od_shadow_step, .func (PySem.W.fnOf "shadow_step" "shadow_step" (defArgs st_shadow_step) (defBody st_shadow_step) (defScope st_shadow_step) .none kV_shadow_step dc_shadow_step pm_shadow_step an_shadow_step cd_shadow_step ct_shadow_step), sl_shadow_step⟩)
    (c_shadow_step : PySem.W.codeIn K cd_shadow_step "shadow_step" = true)
    (k_shadow_step : PySem.W.keepIn K (.ref f_shadow_step) = true)
    (a_fact : PySem.W.nsIn K mainGlobals "fact" = some (some (.ref f_fact)))
    (l_fact : K.lookup f_fact = some ⟨oc_fact, od_fact, .func (PySem.W.fnOf "fact" "fact" (defArgs st_fact) (defBody st_fact) (defScope st_fact) .none kV_fact dc_fact pm_fact an_fact cd_fact ct_fact), sl_fact⟩)
    (c_fact : PySem.W.codeIn K cd_fact "fact" = true)
    (k_fact : PySem.W.keepIn K (.ref f_fact) = true)
    (a_facts_in : PySem.W.nsIn K mainGlobals "facts_in" = some (some (.ref f_facts_in)))
    (l_facts_in : K.lookup f_facts_in = some ⟨oc_facts_in, od_facts_in, .func (PySem.W.fnOf "facts_in" "facts_in" (defArgs st_facts_in) (defBody st_facts_in) (defScope st_facts_in) .none kV_facts_in dc_facts_in pm_facts_in an_facts_in cd_facts_in ct_facts_in), sl_facts_in⟩)
    (c_facts_in : PySem.W.codeIn K cd_facts_in "facts_in" = true)
    (k_facts_in : PySem.W.keepIn K (.ref f_facts_in) = true)
    (a_given_step : PySem.W.nsIn K mainGlobals "given_step" = some (some (.ref f_given_step)))
    (l_given_step : K.lookup f_given_step = some ⟨oc_given_step, od_given_step, .func (PySem.W.fnOf "given_step" "given_step" (defArgs st_given_step) (defBody st_given_step) (defScope st_given_step) .none kV_given_step dc_given_step pm_given_step an_given_step cd_given_step ct_given_step), sl_given_step⟩)
    (c_given_step : PySem.W.codeIn K cd_given_step "given_step" = true)
    (k_given_step : PySem.W.keepIn K (.ref f_given_step) = true)
    (a_denials_in : PySem.W.nsIn K mainGlobals "denials_in" = some (some (.ref f_denials_in)))
    (l_denials_in : K.lookup f_denials_in = some ⟨oc_denials_in, od_denials_in, .func (PySem.W.fnOf "denials_in" "denials_in" (defArgs st_denials_in) (defBody st_denials_in) (defScope st_denials_in) .none kV_denials_in dc_denials_in pm_denials_in an_denials_in cd_denials_in ct_denials_in), sl_denials_in⟩)
    (c_denials_in : PySem.W.codeIn K cd_denials_in "denials_in" = true)
    (k_denials_in : PySem.W.keepIn K (.ref f_denials_in) = true)
    (a_is_denial : PySem.W.nsIn K mainGlobals "is_denial" = some (some (.ref f_is_denial)))
    (l_is_denial : K.lookup f_is_denial = some ⟨oc_is_denial, od_is_denial, .func (PySem.W.fnOf "is_denial" "is_denial" (defArgs st_is_denial) (defBody st_is_denial) (defScope st_is_denial) .none kV_is_denial dc_is_denial pm_is_denial an_is_denial cd_is_denial ct_is_denial), sl_is_denial⟩)
    (c_is_denial : PySem.W.codeIn K cd_is_denial "is_denial" = true)
    (k_is_denial : PySem.W.keepIn K (.ref f_is_denial) = true)
    (a_barred_step : PySem.W.nsIn K mainGlobals "barred_step" = some (some (.ref f_barred_step)))
    (l_barred_step : K.lookup f_barred_step = some ⟨oc_barred_step, od_barred_step, .func (PySem.W.fnOf "barred_step" "barred_step" (defArgs st_barred_step) (defBody st_barred_step) (defScope st_barred_step) .none kV_barred_step dc_barred_step pm_barred_step an_barred_step cd_barred_step ct_barred_step), sl_barred_step⟩)
    (c_barred_step : PySem.W.codeIn K cd_barred_step "barred_step" = true)
    (k_barred_step : PySem.W.keepIn K (.ref f_barred_step) = true)
    (a_within : PySem.W.nsIn K mainGlobals "within" = some (some (.ref f_within)))
    (l_within : K.lookup f_within = some ⟨oc_within, od_within, .func (PySem.W.fnOf "within" "within" (defArgs st_within) (defBody st_within) (defScope st_within) .none kV_within dc_within pm_within an_within cd_within ct_within), sl_within⟩)
    (c_within : PySem.W.codeIn K cd_within "within" = true)
    (k_within : PySem.W.keepIn K (.ref f_within) = true)
    (a_says_more : PySem.W.nsIn K mainGlobals "says_more" = some (some (.ref f_says_more)))
    (l_says_more : K.lookup f_says_more = some ⟨oc_says_more, od_says_more, .func (PySem.W.fnOf "says_more" "says_more" (defArgs st_says_more) (defBody st_says_more) (defScope st_says_more) .none kV_says_more dc_says_more pm_says_more an_says_more cd_says_more ct_says_more), sl_says_more⟩)
    (c_says_more : PySem.W.codeIn K cd_says_more "says_more" = true)
    (k_says_more : PySem.W.keepIn K (.ref f_says_more) = true)
    (a_less_step : PySem.W.nsIn K mainGlobals "less_step" = some (some (.ref f_less_step)))
    (l_less_step : K.lookup f_less_step = some ⟨oc_less_step, od_less_step, .func (PySem.W.fnOf "less_step" "less_step" (defArgs st_less_step) (defBody st_less_step) (defScope st_less_step) .none kV_less_step dc_less_step pm_less_step an_less_step cd_less_step ct_less_step), sl_less_step⟩)
    (c_less_step : PySem.W.codeIn K cd_less_step "less_step" = true)
    (k_less_step : PySem.W.keepIn K (.ref f_less_step) = true)
    (a_next_step : PySem.W.nsIn K mainGlobals "next_step" = some (some (.ref f_next_step)))
    (l_next_step : K.lookup f_next_step = some ⟨oc_next_step, od_next_step, .func (PySem.W.fnOf "next_step" "next_step" (defArgs st_next_step) (defBody st_next_step) (defScope st_next_step) .none kV_next_step dc_next_step pm_next_step an_next_step cd_next_step ct_next_step), sl_next_step⟩)
    (c_next_step : PySem.W.codeIn K cd_next_step "next_step" = true)
    (k_next_step : PySem.W.keepIn K (.ref f_next_step) = true)
    (a_law_makers : PySem.W.nsIn K mainGlobals "_law_makers" = some (some (.ref f_law_makers)))
    (l_law_makers : K.lookup f_law_makers = some ⟨oc_law_makers, od_law_makers, .func (PySem.W.fnOf "_law_makers" "_law_makers" (defArgs st_law_makers) (defBody st_law_makers) (defScope st_law_makers) .none kV_law_makers dc_law_makers pm_law_makers an_law_makers cd_law_makers ct_law_makers), sl_law_makers⟩)
    (c_law_makers : PySem.W.codeIn K cd_law_makers "_law_makers" = true)
    (k_law_makers : PySem.W.keepIn K (.ref f_law_makers) = true)
    (a_law_same : PySem.W.nsIn K mainGlobals "_law_same" = some (some (.ref f_law_same)))
    (l_law_same : K.lookup f_law_same = some ⟨oc_law_same, od_law_same, .func (PySem.W.fnOf "_law_same" "_law_same" (defArgs st_law_same) (defBody st_law_same) (defScope st_law_same) .none kV_law_same dc_law_same pm_law_same an_law_same cd_law_same ct_law_same), sl_law_same⟩)
    (c_law_same : PySem.W.codeIn K cd_law_same "_law_same" = true)
    (k_law_same : PySem.W.keepIn K (.ref f_law_same) = true)
    (a_lot : PySem.W.nsIn K mainGlobals "lot" = some (some (.ref f_lot)))
    (l_lot : K.lookup f_lot = some ⟨oc_lot, od_lot, .func (PySem.W.fnOf "lot" "lot" (defArgs st_lot) (defBody st_lot) (defScope st_lot) .none kV_lot dc_lot pm_lot an_lot cd_lot ct_lot), sl_lot⟩)
    (c_lot : PySem.W.codeIn K cd_lot "lot" = true)
    (k_lot : PySem.W.keepIn K (.ref f_lot) = true)
    (a_letters_of : PySem.W.nsIn K mainGlobals "letters_of" = some (some (.ref f_letters_of)))
    (l_letters_of : K.lookup f_letters_of = some ⟨oc_letters_of, od_letters_of, .func (PySem.W.fnOf "letters_of" "letters_of" (defArgs st_letters_of) (defBody st_letters_of) (defScope st_letters_of) .none kV_letters_of dc_letters_of pm_letters_of an_letters_of cd_letters_of ct_letters_of), sl_letters_of⟩)
    (c_letters_of : PySem.W.codeIn K cd_letters_of "letters_of" = true)
    (k_letters_of : PySem.W.keepIn K (.ref f_letters_of) = true)
    (a_all_letters : PySem.W.nsIn K mainGlobals "all_letters" = some (some (.ref f_all_letters)))
    (l_all_letters : K.lookup f_all_letters = some ⟨oc_all_letters, od_all_letters, .func (PySem.W.fnOf "all_letters" "all_letters" (defArgs st_all_letters) (defBody st_all_letters) (defScope st_all_letters) .none kV_all_letters dc_all_letters pm_all_letters an_all_letters cd_all_letters ct_all_letters), sl_all_letters⟩)
    (c_all_letters : PySem.W.codeIn K cd_all_letters "all_letters" = true)
    (k_all_letters : PySem.W.keepIn K (.ref f_all_letters) = true)
    (a_body_holds : PySem.W.nsIn K mainGlobals "body_holds" = some (some (.ref f_body_holds)))
    (l_body_holds : K.lookup f_body_holds = some ⟨oc_body_holds, od_body_holds, .func (PySem.W.fnOf "body_holds" "body_holds" (defArgs st_body_holds) (defBody st_body_holds) (defScope st_body_holds) .none kV_body_holds dc_body_holds pm_body_holds an_body_holds cd_body_holds ct_body_holds), sl_body_holds⟩)
    (c_body_holds : PySem.W.codeIn K cd_body_holds "body_holds" = true)
    (k_body_holds : PySem.W.keepIn K (.ref f_body_holds) = true)
    (a_head_holds : PySem.W.nsIn K mainGlobals "head_holds" = some (some (.ref f_head_holds)))
    (l_head_holds : K.lookup f_head_holds = some ⟨oc_head_holds, od_head_holds, .func (PySem.W.fnOf "head_holds" "head_holds" (defArgs st_head_holds) (defBody st_head_holds) (defScope st_head_holds) .none kV_head_holds dc_head_holds pm_head_holds an_head_holds cd_head_holds ct_head_holds), sl_head_holds⟩)
    (c_head_holds : PySem.W.codeIn K cd_head_holds "head_holds" = true)
    (k_head_holds : PySem.W.keepIn K (.ref f_head_holds) = true)
    (a_rule_holds : PySem.W.nsIn K mainGlobals "rule_holds" = some (some (.ref f_rule_holds)))
    (l_rule_holds : K.lookup f_rule_holds = some ⟨oc_rule_holds, od_rule_holds, .func (PySem.W.fnOf "rule_holds" "rule_holds" (defArgs st_rule_holds) (defBody st_rule_holds) (defScope st_rule_holds) .none kV_rule_holds dc_rule_holds pm_rule_holds an_rule_holds cd_rule_holds ct_rule_holds), sl_rule_holds⟩)
    (c_rule_holds : PySem.W.codeIn K cd_rule_holds "rule_holds" = true)
    (k_rule_holds : PySem.W.keepIn K (.ref f_rule_holds) = true)
    (a_all_hold : PySem.W.nsIn K mainGlobals "all_hold" = some (some (.ref f_all_hold)))
    (l_all_hold : K.lookup f_all_hold = some ⟨oc_all_hold, od_all_hold, .func (PySem.W.fnOf "all_hold" "all_hold" (defArgs st_all_hold) (defBody st_all_hold) (defScope st_all_hold) .none kV_all_hold dc_all_hold pm_all_hold an_all_hold cd_all_hold ct_all_hold), sl_all_hold⟩)
    (c_all_hold : PySem.W.codeIn K cd_all_hold "all_hold" = true)
    (k_all_hold : PySem.W.keepIn K (.ref f_all_hold) = true)
    (a_all_lots : PySem.W.nsIn K mainGlobals "all_lots" = some (some (.ref f_all_lots)))
    (l_all_lots : K.lookup f_all_lots = some ⟨oc_all_lots, od_all_lots, .func (PySem.W.fnOf "all_lots" "all_lots" (defArgs st_all_lots) (defBody st_all_lots) (defScope st_all_lots) .none kV_all_lots dc_all_lots pm_all_lots an_all_lots (.ref c0) ct_all_lots), sl_all_lots⟩)
    (c_all_lots : PySem.W.codeIn K (.ref c0) "all_lots" = true)
    (k_all_lots : PySem.W.keepIn K (.ref f_all_lots) = true)
    (a_first_parting : PySem.W.nsIn K mainGlobals "first_parting" = some (some (.ref f_first_parting)))
    (l_first_parting : K.lookup f_first_parting = some ⟨oc_first_parting, od_first_parting, .func (PySem.W.fnOf "first_parting" "first_parting" (defArgs st_first_parting) (defBody st_first_parting) (defScope st_first_parting) .none kV_first_parting dc_first_parting pm_first_parting an_first_parting cd_first_parting ct_first_parting), sl_first_parting⟩)
    (c_first_parting : PySem.W.codeIn K cd_first_parting "first_parting" = true)
    (k_first_parting : PySem.W.keepIn K (.ref f_first_parting) = true)
    (a_alike_everywhere : PySem.W.nsIn K mainGlobals "alike_everywhere" = some (some (.ref f_alike_everywhere)))
    (l_alike_everywhere : K.lookup f_alike_everywhere = some ⟨oc_alike_everywhere, od_alike_everywhere, .func (PySem.W.fnOf "alike_everywhere" "alike_everywhere" (defArgs st_alike_everywhere) (defBody st_alike_everywhere) (defScope st_alike_everywhere) .none kV_alike_everywhere dc_alike_everywhere pm_alike_everywhere an_alike_everywhere cd_alike_everywhere ct_alike_everywhere), sl_alike_everywhere⟩)
    (c_alike_everywhere : PySem.W.codeIn K cd_alike_everywhere "alike_everywhere" = true)
    (k_alike_everywhere : PySem.W.keepIn K (.ref f_alike_everywhere) = true)
    (a_is_step : PySem.W.nsIn K mainGlobals "is_step" = some (some (.ref f_is_step)))
    (l_is_step : K.lookup f_is_step = some ⟨oc_is_step, od_is_step, .func (PySem.W.fnOf "is_step" "is_step" (defArgs st_is_step) (defBody st_is_step) (defScope st_is_step) .none kV_is_step dc_is_step pm_is_step an_is_step cd_is_step ct_is_step), sl_is_step⟩)
    (c_is_step : PySem.W.codeIn K cd_is_step "is_step" = true)
    (k_is_step : PySem.W.keepIn K (.ref f_is_step) = true)
    (a_law_holds : PySem.W.nsIn K mainGlobals "_law_holds" = some (some (.ref f_law_holds)))
    (l_law_holds : K.lookup f_law_holds = some ⟨oc_law_holds, od_law_holds, .func (PySem.W.fnOf "_law_holds" "_law_holds" (defArgs st_law_holds) (defBody st_law_holds) (defScope st_law_holds) .none kV_law_holds dc_law_holds pm_law_holds an_law_holds cd_law_holds ct_law_holds), sl_law_holds⟩)
    (c_law_holds : PySem.W.codeIn K cd_law_holds "_law_holds" = true)
    (k_law_holds : PySem.W.keepIn K (.ref f_law_holds) = true)
    (a_law_all : PySem.W.nsIn K mainGlobals "_law_all" = some (some (.ref f_law_all)))
    (l_law_all : K.lookup f_law_all = some ⟨oc_law_all, od_law_all, .func (PySem.W.fnOf "_law_all" "_law_all" (defArgs st_law_all) (defBody st_law_all) (defScope st_law_all) .none kV_law_all dc_law_all pm_law_all an_law_all cd_law_all ct_law_all), sl_law_all⟩)
    (c_law_all : PySem.W.codeIn K cd_law_all "_law_all" = true)
    (k_law_all : PySem.W.keepIn K (.ref f_law_all) = true)
    (a_law_lots : PySem.W.nsIn K mainGlobals "_law_lots" = some (some (.ref f_law_lots)))
    (l_law_lots : K.lookup f_law_lots = some ⟨oc_law_lots, od_law_lots, .func (PySem.W.fnOf "_law_lots" "_law_lots" (defArgs st_law_lots) (defBody st_law_lots) (defScope st_law_lots) .none kV_law_lots dc_law_lots pm_law_lots an_law_lots cd_law_lots ct_law_lots), sl_law_lots⟩)
    (c_law_lots : PySem.W.codeIn K cd_law_lots "_law_lots" = true)
    (k_law_lots : PySem.W.keepIn K (.ref f_law_lots) = true)
    (a_law_worlds : PySem.W.nsIn K mainGlobals "_law_worlds" = some (some (.ref f_law_worlds)))
    (l_law_worlds : K.lookup f_law_worlds = some ⟨oc_law_worlds, od_law_worlds, .func (PySem.W.fnOf "_law_worlds" "_law_worlds" (defArgs st_law_worlds) (defBody st_law_worlds) (defScope st_law_worlds) .none kV_law_worlds dc_law_worlds pm_law_worlds an_law_worlds cd_law_worlds ct_law_worlds), sl_law_worlds⟩)
    (c_law_worlds : PySem.W.codeIn K cd_law_worlds "_law_worlds" = true)
    (k_law_worlds : PySem.W.keepIn K (.ref f_law_worlds) = true)
    (a_done : PySem.W.nsIn K mainGlobals "done" = some (some (.ref f_done)))
    (l_done : K.lookup f_done = some ⟨oc_done, od_done, .func (PySem.W.fnOf "done" "done" (defArgs st_done) (defBody st_done) (defScope st_done) .none kV_done dc_done pm_done an_done cd_done ct_done), sl_done⟩)
    (c_done : PySem.W.codeIn K cd_done "done" = true)
    (k_done : PySem.W.keepIn K (.ref f_done) = true)
    (a_law_may : PySem.W.nsIn K mainGlobals "_law_may" = some (some (.ref f_law_may)))
    (l_law_may : K.lookup f_law_may = some ⟨oc_law_may, od_law_may, .func (PySem.W.fnOf "_law_may" "_law_may" (defArgs st_law_may) (defBody st_law_may) (defScope st_law_may) .none kV_law_may dc_law_may pm_law_may an_law_may cd_law_may ct_law_may), sl_law_may⟩)
    (c_law_may : PySem.W.codeIn K cd_law_may "_law_may" = true)
    (k_law_may : PySem.W.keepIn K (.ref f_law_may) = true)
    (a_law_bent : PySem.W.nsIn K mainGlobals "_law_bent" = some (some (.ref f_law_bent)))
    (l_law_bent : K.lookup f_law_bent = some ⟨oc_law_bent, od_law_bent, .func (PySem.W.fnOf "_law_bent" "_law_bent" (defArgs st_law_bent) (defBody st_law_bent) (defScope st_law_bent) .none kV_law_bent dc_law_bent pm_law_bent an_law_bent cd_law_bent ct_law_bent), sl_law_bent⟩)
    (c_law_bent : PySem.W.codeIn K cd_law_bent "_law_bent" = true)
    (k_law_bent : PySem.W.keepIn K (.ref f_law_bent) = true)
    (a_law_step_fits : PySem.W.nsIn K mainGlobals "_law_step_fits" = some (some (.ref f_law_step_fits)))
    (l_law_step_fits : K.lookup f_law_step_fits = some ⟨oc_law_step_fits, od_law_step_fits, .func (PySem.W.fnOf "_law_step_fits" "_law_step_fits" (defArgs st_law_step_fits) (defBody st_law_step_fits) (defScope st_law_step_fits) .none kV_law_step_fits dc_law_step_fits pm_law_step_fits an_law_step_fits cd_law_step_fits ct_law_step_fits), sl_law_step_fits⟩)
    (c_law_step_fits : PySem.W.codeIn K cd_law_step_fits "_law_step_fits" = true)
    (k_law_step_fits : PySem.W.keepIn K (.ref f_law_step_fits) = true)
    (a_simplified : PySem.W.nsIn K mainGlobals "simplified" = some (some (.ref f_simplified)))
    (l_simplified : K.lookup f_simplified = some ⟨oc_simplified, od_simplified, .func (PySem.W.fnOf "simplified" "simplified" (defArgs st_simplified) (defBody st_simplified) (defScope st_simplified) .none kV_simplified dc_simplified pm_simplified an_simplified cd_simplified ct_simplified), sl_simplified⟩)
    (c_simplified : PySem.W.codeIn K cd_simplified "simplified" = true)
    (k_simplified : PySem.W.keepIn K (.ref f_simplified) = true)
    (a_law_leads : PySem.W.nsIn K mainGlobals "_law_leads" = some (some (.ref f_law_leads)))
    (l_law_leads : K.lookup f_law_leads = some ⟨oc_law_leads, od_law_leads, .func (PySem.W.fnOf "_law_leads" "_law_leads" (defArgs st_law_leads) (defBody st_law_leads) (defScope st_law_leads) .none kV_law_leads dc_law_leads pm_law_leads an_law_leads cd_law_leads ct_law_leads), sl_law_leads⟩)
    (c_law_leads : PySem.W.codeIn K cd_law_leads "_law_leads" = true)
    (k_law_leads : PySem.W.keepIn K (.ref f_law_leads) = true)
    (a_shows_simpler : PySem.W.nsIn K mainGlobals "shows_simpler" = some (some (.ref f_shows_simpler)))
    (l_shows_simpler : K.lookup f_shows_simpler = some ⟨oc_shows_simpler, od_shows_simpler, .func (PySem.W.fnOf "shows_simpler" "shows_simpler" (defArgs st_shows_simpler) (defBody st_shows_simpler) (defScope st_shows_simpler) .none kV_shows_simpler dc_shows_simpler pm_shows_simpler an_shows_simpler cd_shows_simpler ct_shows_simpler), sl_shows_simpler⟩)
    (c_shows_simpler : PySem.W.codeIn K cd_shows_simpler "shows_simpler" = true)
    (k_shows_simpler : PySem.W.keepIn K (.ref f_shows_simpler) = true)
    (a_unused : PySem.W.nsIn K mainGlobals "unused" = some (some (.ref f_unused)))
    (l_unused : K.lookup f_unused = some ⟨oc_unused, od_unused, .func (PySem.W.fnOf "unused" "unused" (defArgs st_unused) (defBody st_unused) (defScope st_unused) .none kV_unused dc_unused pm_unused an_unused cd_unused ct_unused), sl_unused⟩)
    (c_unused : PySem.W.codeIn K cd_unused "unused" = true)
    (k_unused : PySem.W.keepIn K (.ref f_unused) = true)
    (a_plain_rule : PySem.W.nsIn K mainGlobals "plain_rule" = some (some (.ref f_plain_rule)))
    (l_plain_rule : K.lookup f_plain_rule = some ⟨oc_plain_rule, od_plain_rule, .func (PySem.W.fnOf "plain_rule" "plain_rule" (defArgs st_plain_rule) (defBody st_plain_rule) (defScope st_plain_rule) .none kV_plain_rule dc_plain_rule pm_plain_rule an_plain_rule cd_plain_rule ct_plain_rule), sl_plain_rule⟩)
    (c_plain_rule : PySem.W.codeIn K cd_plain_rule "plain_rule" = true)
    (k_plain_rule : PySem.W.keepIn K (.ref f_plain_rule) = true)
    (a_as_barred : PySem.W.nsIn K mainGlobals "as_barred" = some (some (.ref f_as_barred)))
    (l_as_barred : K.lookup f_as_barred = some ⟨oc_as_barred, od_as_barred, .func (PySem.W.fnOf "as_barred" "as_barred" (defArgs st_as_barred) (defBody st_as_barred) (defScope st_as_barred) .none kV_as_barred dc_as_barred pm_as_barred an_as_barred cd_as_barred ct_as_barred), sl_as_barred⟩)
    (c_as_barred : PySem.W.codeIn K cd_as_barred "as_barred" = true)
    (k_as_barred : PySem.W.keepIn K (.ref f_as_barred) = true)
    (a_size_of : PySem.W.nsIn K mainGlobals "size_of" = some (some (.ref f_size_of)))
    (l_size_of : K.lookup f_size_of = some ⟨oc_size_of, od_size_of, .func (PySem.W.fnOf "size_of" "size_of" (defArgs st_size_of) (defBody st_size_of) (defScope st_size_of) .none kV_size_of dc_size_of pm_size_of an_size_of cd_size_of ct_size_of), sl_size_of⟩)
    (c_size_of : PySem.W.codeIn K cd_size_of "size_of" = true)
    (k_size_of : PySem.W.keepIn K (.ref f_size_of) = true)
    (a_law : PySem.W.nsIn K mainGlobals "law" = some (some (.ref f_law)))
    (l_law : K.lookup f_law = some ⟨oc_law, od_law, .func (PySem.W.fnOf "law" "law" (defArgs st_law) (defBody st_law) (defScope st_law) .none kV_law dc_law pm_law an_law cd_law ct_law), sl_law⟩)
    (c_law : PySem.W.codeIn K cd_law "law" = true)
    (k_law : PySem.W.keepIn K (.ref f_law) = true)
    (z_all : PySem.W.nsIn K mainGlobals "all" = some none)
    (z_any : PySem.W.nsIn K mainGlobals "any" = some none)
    (z_bool : PySem.W.nsIn K mainGlobals "bool" = some none)
    (z_dict : PySem.W.nsIn K mainGlobals "dict" = some none)
    (z_int : PySem.W.nsIn K mainGlobals "int" = some none)
    (z_isinstance : PySem.W.nsIn K mainGlobals "isinstance" = some none)
    (z_len : PySem.W.nsIn K mainGlobals "len" = some none)
    (z_list : PySem.W.nsIn K mainGlobals "list" = some none)
    (z_range : PySem.W.nsIn K mainGlobals "range" = some none)
    (z_repr : PySem.W.nsIn K mainGlobals "repr" = some none)
    (z_set : PySem.W.nsIn K mainGlobals "set" = some none)
    (z_sorted : PySem.W.nsIn K mainGlobals "sorted" = some none)
    (z_str : PySem.W.nsIn K mainGlobals "str" = some none)
    (z_sum : PySem.W.nsIn K mainGlobals "sum" = some none)
    (z_tuple : PySem.W.nsIn K mainGlobals "tuple" = some none)
    (y_c : PySem.W.codeHdIn K c0 P0 = true)
    (y_fewest_dropped : PySem.W.nsIn K mainGlobals "fewest_dropped" = some none)
    (y_fewest_facts : PySem.W.nsIn K mainGlobals "fewest_facts" = some none)
    (y_all_loops : PySem.W.nsIn K mainGlobals "all_loops" = some none)
    (y_least_splits : PySem.W.nsIn K mainGlobals "least_splits" = some none)
    (y_least_signs : PySem.W.nsIn K mainGlobals "least_signs" = some none)
    (y_fewest_to_know : PySem.W.nsIn K mainGlobals "fewest_to_know" = some none)
    (g_KINDS : PySem.W.nsIn K mainGlobals "KINDS" = some (some (.ref p_KINDS)))
    (h_KINDS : K.lookup p_KINDS = some ⟨.type "tuple", d_KINDS, .seq #[.str "split" t_KINDS0, .str "idle" t_KINDS1, .str "never" t_KINDS2, .str "double" t_KINDS3, .str "shadow" t_KINDS4, .str "given" t_KINDS5, .str "barred" t_KINDS6, .str "less" t_KINDS7] n_KINDS, s_KINDS⟩)
    (g_MOST_LETTERS : PySem.W.nsIn K mainGlobals "MOST_LETTERS" = some (some (.int 12 t_MOST_LETTERS))) 
    (hn : K.lookup P0 = none) (hh : h.get? P0 = some { cls := .none, data := .fields #[] })
    (hlaw : ∀ ns : List Int, ns.length ≤ 63 → (∀ z ∈ ns, Builtin.Int.intBits z ≤ 1048576) → ∃ μ, F_law [.scr ns] [] = some (.bl true, μ)) :
    LamX.LawAtS l w K CX0 12 63 "script" mg fa h := by
  obtain ⟨hT0, fd, hb, hF⟩ := all_mk (l := l) (w := w) X G hfa a_law_cell l_law_cell c_law_cell k_law_cell a_law_digits l_law_digits c_law_digits k_law_digits a_law_draw l_law_draw c_law_draw k_law_draw a_law_mixed l_law_mixed c_law_mixed k_law_mixed a_law_pick l_law_pick c_law_pick k_law_pick a_law_rule l_law_rule c_law_rule k_law_rule a_law_rules l_law_rules c_law_rules k_law_rules a_law_book l_law_book c_law_book k_law_book a_in_order l_in_order c_in_order k_in_order a_split_step l_split_step c_split_step k_split_step a_idle_step l_idle_step c_idle_step k_idle_step a_never_step l_never_step c_never_step k_never_step a_less_of l_less_of c_less_of k_less_of a_double_step l_double_step c_double_step k_double_step a_shadow_step l_shadow_step c_shadow_step k_shadow_step a_fact l_fact c_fact k_fact a_facts_in l_facts_in c_facts_in k_facts_in a_given_step l_given_step c_given_step k_given_step a_denials_in l_denials_in c_denials_in k_denials_in a_is_denial l_is_denial c_is_denial k_is_denial a_barred_step l_barred_step c_barred_step k_barred_step a_within l_within c_within k_within a_says_more l_says_more c_says_more k_says_more a_less_step l_less_step c_less_step k_less_step a_next_step l_next_step c_next_step k_next_step a_law_makers l_law_makers c_law_makers k_law_makers a_law_same l_law_same c_law_same k_law_same a_lot l_lot c_lot k_lot a_letters_of l_letters_of c_letters_of k_letters_of a_all_letters l_all_letters c_all_letters k_all_letters a_body_holds l_body_holds c_body_holds k_body_holds a_head_holds l_head_holds c_head_holds k_head_holds a_rule_holds l_rule_holds c_rule_holds k_rule_holds a_all_hold l_all_hold c_all_hold k_all_hold a_all_lots l_all_lots c_all_lots k_all_lots a_first_parting l_first_parting c_first_parting k_first_parting a_alike_everywhere l_alike_everywhere c_alike_everywhere k_alike_everywhere a_is_step l_is_step c_is_step k_is_step a_law_holds l_law_holds c_law_holds k_law_holds a_law_all l_law_all c_law_all k_law_all a_law_lots l_law_lots c_law_lots k_law_lots a_law_worlds l_law_worlds c_law_worlds k_law_worlds a_done l_done c_done k_done a_law_may l_law_may c_law_may k_law_may a_law_bent l_law_bent c_law_bent k_law_bent a_law_step_fits l_law_step_fits c_law_step_fits k_law_step_fits a_simplified l_simplified c_simplified k_simplified a_law_leads l_law_leads c_law_leads k_law_leads a_shows_simpler l_shows_simpler c_shows_simpler k_shows_simpler a_unused l_unused c_unused k_unused a_plain_rule l_plain_rule c_plain_rule k_plain_rule a_as_barred l_as_barred c_as_barred k_as_barred a_size_of l_size_of c_size_of k_size_of a_law l_law c_law k_law z_all z_any z_bool z_dict z_int z_isinstance z_len z_list z_range z_repr z_set z_sorted z_str z_sum z_tuple y_c y_fewest_dropped y_fewest_facts y_all_loops y_least_splits y_least_signs y_fewest_to_know g_KINDS h_KINDS g_MOST_LETTERS
  refine ⟨fd, [(c0, P0)], spTop K mg, fun p hp => by rw [List.mem_singleton.mp hp]; exact hh, fun p hp => by rw [List.mem_singleton.mp hp]; exact hn, fun p hp => by rw [List.mem_singleton.mp hp]; exact PySem.W.codeHd_of_K X y_c, hb, fun H a ns hl hbt hH hS => ?_, hF⟩
  obtain ⟨μ, e⟩ := hlaw ns hl hbt
  have tabs : LamX.Tabs (tbOf K mg) H := by
    rw [hT0]
    intro p hp
    rw [List.mem_singleton.mp hp]
    exact LamX.TabS.nil (hH (c0, P0) (List.mem_singleton.mpr rfl))
  obtain ⟨W, hW, c, r⟩ := start_law hS tabs
  refine ⟨rfl, W, [.scr ns], [], .bl true, μ, hW, c, r, e, fun W' w x c r => ?_⟩
  cases r
  rfl
end K8
end MK8M
section MEvM
/-! Ev, part M: values by equality; comprehensions that change no cell. -/
namespace Ev
open PySem PySem.Spec PyProof.Rows L2
mutual
/-- data without truth values -/
def plV : Va → Bool
  | .non => true
  | .int _ => true
  | .str x => PyData.strOk x
  | .tup xs => plVs xs
  | .lst xs => plVs xs
  | _ => false
def plVs : List Va → Bool
  | [] => true
  | x :: xs => plV x && plVs xs
end
mutual
def ddD : Va → PyData
  | .int i => .int i
  | .str x => .str x
  | .tup xs => .tuple (ddDs xs)
  | .lst xs => .list (ddDs xs)
  | _ => .none
def ddDs : List Va → List PyData
  | [] => []
  | x :: xs => ddD x :: ddDs xs
end
mutual
theorem toD_pl : ∀ v : Va, plV v = true → toD v = some (ddD v) ∧ (ddD v).canLay0 = true
  | .non, _ => ⟨rfl, by simp [ddD, PyData.canLay0]⟩
  | .int _, _ => ⟨rfl, by simp [ddD, PyData.canLay0]⟩
  | .str x, h => ⟨rfl, by simpa [ddD, PyData.canLay0, plV] using h⟩
  | .tup xs, h => by
    obtain ⟨h1, h2⟩ := toDs_pl xs (by simpa [plV] using h)
    exact ⟨by simp [toD, h1, ddD], by simpa [ddD, PyData.canLay0] using h2⟩
  | .lst xs, h => by
    obtain ⟨h1, h2⟩ := toDs_pl xs (by simpa [plV] using h)
    exact ⟨by simp [toD, h1, ddD], by simpa [ddD, PyData.canLay0] using h2⟩
  | .bl _, h => by simp [plV] at h
  | .loc _, h => by simp [plV] at h
  | .fn _, h => by simp [plV] at h
  | .scr _, h => by simp [plV] at h
theorem toDs_pl : ∀ vs : List Va, plVs vs = true → toDs vs = some (ddDs vs) ∧ PyData.canLayAll0 (ddDs vs) = true
  | [], _ => ⟨rfl, by simp [ddDs, PyData.canLayAll0]⟩
  | v :: vs, h => by
    simp only [plVs, Bool.and_eq_true] at h
    obtain ⟨a1, a2⟩ := toD_pl v h.1
    obtain ⟨b1, b2⟩ := toDs_pl vs h.2
    exact ⟨by simp [toDs, a1, b1, ddDs], by simp [ddDs, PyData.canLayAll0, a2, b2]⟩
end
mutual
theorem eqv_pl : ∀ a b : Va, plV a = true → plV b = true → (PyData.eqv (ddD a) (ddD b) = true ↔ a = b)
  | .non, b, _, hb => by cases b <;> simp [ddD, PyData.eqv, plV] at *
  | .int i, b, _, hb => by cases b <;> simp [ddD, PyData.eqv, plV] at *
  | .str x, b, _, hb => by cases b <;> simp [ddD, PyData.eqv, plV] at *
  | .tup xs, b, ha, hb => by
    cases b with
    | tup ys => simpa [ddD, PyData.eqv] using eqvs_pl xs ys (by simpa [plV] using ha) (by simpa [plV] using hb)
    | _ => simp [ddD, PyData.eqv, plV] at *
  | .lst xs, b, ha, hb => by
    cases b with
    | lst ys => simpa [ddD, PyData.eqv] using eqvs_pl xs ys (by simpa [plV] using ha) (by simpa [plV] using hb)
    | _ => simp [ddD, PyData.eqv, plV] at *
  | .bl _, _, h, _ => by simp [plV] at h
  | .loc _, _, h, _ => by simp [plV] at h
  | .fn _, _, h, _ => by simp [plV] at h
  | .scr _, _, h, _ => by simp [plV] at h
theorem eqvs_pl : ∀ a b : List Va, plVs a = true → plVs b = true → (PyData.eqvAll (ddDs a) (ddDs b) = true ↔ a = b)
  | [], [], _, _ => by simp [ddDs, PyData.eqvAll]
  | [], _ :: _, _, _ => by simp [ddDs, PyData.eqvAll]
  | _ :: _, [], _, _ => by simp [ddDs, PyData.eqvAll]
  | x :: xs, y :: ys, ha, hb => by
    simp only [plVs, Bool.and_eq_true] at ha hb
    simp [ddDs, PyData.eqvAll, eqv_pl x y ha.1 hb.1, eqvs_pl xs ys ha.2 hb.2]
end
/-- data that == is asked of -/
structure Good (v : Va) : Prop where
  pl : plV v = true
  dp : (ddD v).depth ≤ 64
theorem Good.sh {v : Va} (h : Good v) : shD v = some (ddD v) := by
  obtain ⟨a, b⟩ := toD_pl v h.pl
  unfold shD
  rw [a]
  simp [SeqAt.shaped, b, h.dp]
noncomputable instance instDecVa : DecidableEq Va := fun a b => Classical.propDecidable (a = b)
theorem eqv_dec {a b : Va} (ha : Good a) (hb : Good b) : PyData.eqv (ddD a) (ddD b) = decide (a = b) := by
  have h := eqv_pl a b ha.pl hb.pl
  by_cases e : a = b
  · rw [decide_eq_true e]; exact h.mpr e
  · rw [decide_eq_false e]
    cases q : PyData.eqv (ddD a) (ddD b) with
    | false => rfl
    | true => exact absurd (h.mp q) e
theorem gEq_good {μ : Mu} {a b : Va} (ha : Good a) (hb : Good b) : gEq μ a b = some (.bl (decide (a = b))) := by
  unfold gEq
  rw [ha.sh, hb.sh]
  simp only [eqv_dec ha hb]
theorem gNe_good {μ : Mu} {a b : Va} (ha : Good a) (hb : Good b) : gNe μ a b = some (.bl (!decide (a = b))) := by
  unfold gNe
  rw [ha.sh, hb.sh]
  simp only [eqv_dec ha hb]
theorem gNe_bl {μ : Mu} {a b : Bool} : gNe μ (.bl a) (.bl b) = some (.bl (!(a == b))) := by cases a <;> cases b <;> rfl
theorem gEq_bl {μ : Mu} {a b : Bool} : gEq μ (.bl a) (.bl b) = some (.bl (a == b)) := by cases a <;> cases b <;> rfl
theorem plVs_all : ∀ {xs : List Va}, plVs xs = true ↔ ∀ x ∈ xs, plV x = true
  | [] => by simp [plVs]
  | x :: xs => by simp [plVs, plVs_all (xs := xs)]
theorem depths_le {k : Nat} : ∀ {xs : List Va}, PyData.depthAll (ddDs xs) ≤ k ↔ ∀ x ∈ xs, (ddD x).depth ≤ k
  | [] => by simp [ddDs, PyData.depthAll]
  | x :: xs => by simp only [ddDs, PyData.depthAll, List.mem_cons, forall_eq_or_imp, ← depths_le (xs := xs)]; omega
theorem good_tup {xs : List Va} (h : ∀ x ∈ xs, plV x = true ∧ (ddD x).depth ≤ 63) : Good (.tup xs) :=
  ⟨by simpa [plV] using plVs_all.mpr fun x hx => (h x hx).1, by
    have := depths_le.mpr fun x hx => (h x hx).2
    simp only [ddD, PyData.depth]; omega⟩
theorem good_lst {xs : List Va} (h : ∀ x ∈ xs, plV x = true ∧ (ddD x).depth ≤ 63) : Good (.lst xs) :=
  ⟨by simpa [plV] using plVs_all.mpr fun x hx => (h x hx).1, by
    have := depths_le.mpr fun x hx => (h x hx).2
    simp only [ddD, PyData.depth]; omega⟩
theorem any_eqv {x : Va} (hx : Good x) : ∀ {cs : List Va}, (∀ c ∈ cs, plV c = true ∧ (ddD c).depth ≤ 63) → ((ddDs cs).any fun z => PyData.eqv z (ddD x)) = decide (x ∈ cs)
  | [], _ => by simp [ddDs]
  | c :: cs, h => by
    have hc : Good c := ⟨(h c List.mem_cons_self).1, by have := (h c List.mem_cons_self).2; omega⟩
    simp only [ddDs, List.any_cons, eqv_dec hc hx, any_eqv hx (fun d hd => h d (List.mem_cons_of_mem _ hd))]
    by_cases e : c = x
    · simp [e]
    · have e' : x ≠ c := fun q => e q.symm
      simp [e, e']
theorem gIn_tup {neg : Bool} {μ : Mu} {x : Va} {cs : List Va} (hx : Good x) (h : ∀ c ∈ cs, plV c = true ∧ (ddD c).depth ≤ 63) : gIn neg μ x (.tup cs) = some (.bl (if neg then !decide (x ∈ cs) else decide (x ∈ cs))) := by
  unfold gIn inD look
  rw [hx.sh, (good_tup h).sh]
  simp [ddD, any_eqv hx h]
theorem gIn_lst {neg : Bool} {μ : Mu} {x : Va} {cs : List Va} (hx : Good x) (h : ∀ c ∈ cs, plV c = true ∧ (ddD c).depth ≤ 63) : gIn neg μ x (.lst cs) = some (.bl (if neg then !decide (x ∈ cs) else decide (x ∈ cs))) := by
  unfold gIn inD look
  rw [hx.sh, (good_lst h).sh]
  simp [ddD, any_eqv hx h]

/-! ### comprehensions that change no cell -/
section
variable {α : Type} {enc : α → Va}
/-- a turn adds f a -/
theorem loopM_enc {g : MB} {t : MT} {inner : MI} {fs : Fs} {μ : Mu} (f : α → List Va) : ∀ {xs : List α} {acc : List Va}, (∀ x ∈ xs, ∀ acc' : List Va, acc'.length ≤ acc.length + (xs.flatMap f).length → ∃ as, g (enc x) = some as ∧ ((t (sets fs as) μ = some (true, μ) ∧ (acc'.length + (f x).length ≤ acc.length + (xs.flatMap f).length → inner (sets fs as) μ acc' = some (acc' ++ f x, μ))) ∨ (t (sets fs as) μ = some (false, μ) ∧ f x = []))) →
    loopM g t inner fs (xs.map enc) μ acc = some (acc ++ xs.flatMap f, μ)
  | [], acc, _ => by simp [loopM]
  | x :: xs, acc, h => by
    obtain ⟨as, e1, e2⟩ := h x List.mem_cons_self acc (by omega)
    rw [List.map_cons]
    unfold loopM
    rw [e1]
    rcases e2 with ⟨e2, e3⟩ | ⟨e2, e3⟩
    · simp only [e2]
      rw [e3 (by simp only [List.flatMap_cons, List.length_append]; omega)]
      simp only
      rw [loopM_enc f (xs := xs) (acc := acc ++ f x) fun y hy acc' hl => ?_]
      · simp [List.flatMap_cons]
      · have key : (acc ++ f x).length + (xs.flatMap f).length = acc.length + ((x :: xs).flatMap f).length := by simp only [List.flatMap_cons, List.length_append]; omega
        rw [key] at hl ⊢
        exact h y (List.mem_cons_of_mem _ hy) acc' hl
    · simp only [e2]
      rw [loopM_enc f (xs := xs) (acc := acc) fun y hy acc' hl => ?_]
      · simp [List.flatMap_cons, e3]
      · have key : acc.length + (xs.flatMap f).length = acc.length + ((x :: xs).flatMap f).length := by simp [List.flatMap_cons, e3]
        rw [key] at hl ⊢
        exact h y (List.mem_cons_of_mem _ hy) acc' hl
theorem flat_if {β : Type} (p : β → Bool) (v : β → Va) : ∀ l : List β, (l.flatMap fun x => if p x then [v x] else []) = (l.filter p).map v
  | [] => rfl
  | x :: l => by
    rw [List.flatMap_cons, flat_if p v l, List.filter_cons]
    cases p x <;> simp
/-- one clause: [v for x in xs if p]; at most n items -/
theorem compF_enc {ok : List Va → Va → Bool} {me : ME} {c : Cl} {fs : Fs} {μ : Mu} {xs : List α} (p : α → Bool) (v : α → Va) (n : Nat) (hm : c.m fs μ = some (xs.map enc, μ))
    (h : ∀ x ∈ xs, ∃ as, c.g (enc x) = some as ∧ c.t (sets (wipeF fs c.vs) as) μ = some (p x, μ) ∧ (p x = true → me (sets (wipeF fs c.vs) as) μ = some (v x, μ) ∧ ∀ acc : List Va, acc.length < n → ok acc (v x) = true)) (hn : (xs.filter p).length ≤ n) :
    compF ok me c [] fs μ = some ((xs.filter p).map v, μ) := by
  unfold compF
  rw [hm]
  simp only
  rw [loopM_enc (fun x => if p x then [v x] else []) (acc := []) fun x hx acc' hl => ?_]
  · rw [flat_if]; rfl
  · obtain ⟨as, e1, e2, e3⟩ := h x hx
    refine ⟨as, e1, ?_⟩
    cases hp : p x with
    | false => exact .inr ⟨by rw [e2, hp], by simp⟩
    | true =>
      refine .inl ⟨by rw [e2, hp], fun hl2 => ?_⟩
      obtain ⟨e4, e5⟩ := e3 hp
      unfold compM
      rw [e4]
      simp only
      rw [flat_if, List.length_map] at hl2
      simp at hl2
      rw [if_pos (e5 acc' (by omega))]
      simp
/-- .. without a test -/
theorem compF_all {ok : List Va → Va → Bool} {me : ME} {c : Cl} {fs : Fs} {μ : Mu} {xs : List α} (v : α → Va) (n : Nat) (hm : c.m fs μ = some (xs.map enc, μ)) (ht : c.t = tAll)
    (h : ∀ x ∈ xs, ∃ as, c.g (enc x) = some as ∧ me (sets (wipeF fs c.vs) as) μ = some (v x, μ) ∧ ∀ acc : List Va, acc.length < n → ok acc (v x) = true) (hn : xs.length ≤ n) :
    compF ok me c [] fs μ = some (xs.map v, μ) := by
  have := compF_enc (ok := ok) (me := me) (c := c) (fs := fs) (μ := μ) (fun _ => true) v n hm (fun x hx => by
    obtain ⟨as, h1, h2, h3⟩ := h x hx
    exact ⟨as, h1, by rw [ht]; rfl, fun _ => ⟨h2, h3⟩⟩) (by rw [List.filter_eq_self.mpr (fun _ _ => rfl)]; exact hn)
  rw [List.filter_eq_self.mpr (fun _ _ => rfl)] at this
  exact this
/-- what the further clauses add, one clause left: a pure flatMap -/
theorem compM_enc {ok : List Va → Va → Bool} {me : ME} {c : Cl} {cs : List Cl} {fs : Fs} {μ : Mu} {xs : List α} {acc : List Va} (f : α → List Va) (hm : c.m fs μ = some (xs.map enc, μ))
    (h : ∀ x ∈ xs, ∀ acc' : List Va, acc'.length ≤ acc.length + (xs.flatMap f).length → ∃ as, c.g (enc x) = some as ∧ ((c.t (sets (wipeF fs c.vs) as) μ = some (true, μ) ∧ (acc'.length + (f x).length ≤ acc.length + (xs.flatMap f).length → compM ok me cs (sets (wipeF fs c.vs) as) μ acc' = some (acc' ++ f x, μ))) ∨ (c.t (sets (wipeF fs c.vs) as) μ = some (false, μ) ∧ f x = []))) :
    compM ok me (c :: cs) fs μ acc = some (acc ++ xs.flatMap f, μ) := by
  unfold compM
  rw [hm]
  simp only
  exact loopM_enc f h
theorem compF_flat {ok : List Va → Va → Bool} {me : ME} {c : Cl} {cs : List Cl} {fs : Fs} {μ : Mu} {xs : List α} (f : α → List Va) (hm : c.m fs μ = some (xs.map enc, μ))
    (h : ∀ x ∈ xs, ∀ acc' : List Va, acc'.length ≤ (xs.flatMap f).length → ∃ as, c.g (enc x) = some as ∧ ((c.t (sets (wipeF fs c.vs) as) μ = some (true, μ) ∧ (acc'.length + (f x).length ≤ (xs.flatMap f).length → compM ok me cs (sets (wipeF fs c.vs) as) μ acc' = some (acc' ++ f x, μ))) ∨ (c.t (sets (wipeF fs c.vs) as) μ = some (false, μ) ∧ f x = []))) :
    compF ok me c cs fs μ = some (xs.flatMap f, μ) := by
  unfold compF
  rw [hm]
  simp only
  have := loopM_enc (enc := enc) (g := c.g) (t := c.t) (inner := compM ok me cs) (fs := wipeF fs c.vs) (μ := μ) f (xs := xs) (acc := []) (fun x hx acc' hl => by simpa using h x hx acc' (by simpa using hl))
  simpa using this
end
/-! ### sorted sets of what is encoded -/
section
variable {α : Type} {enc : α → Va} {dec : Va → α}
/-- the members in order, each once -/
def srtE (enc : α → Va) (dec : Va → α) (as : List α) : List α := (sortV (ddV (as.map enc))).map dec
/-- the items in order -/
def srtL (enc : α → Va) (dec : Va → α) (as : List α) : List α := (sortV (as.map enc)).map dec
theorem map_dec (hd : ∀ a, dec (enc a) = a) {l : List Va} (h : ∀ v ∈ l, ∃ a, v = enc a) : (l.map dec).map enc = l := by
  induction l with
  | nil => rfl
  | cons v l ih =>
    obtain ⟨a, rfl⟩ := h v List.mem_cons_self
    rw [List.map_cons, List.map_cons, hd, ih fun u hu => h u (List.mem_cons_of_mem _ hu)]
theorem flatKs_of {l : List Va} (h : ∀ v ∈ l, flatK v = true) : flatKs l = true := by
  induction l with
  | nil => rfl
  | cons v l ih => simp only [flatKs, Bool.and_eq_true]; exact ⟨h v List.mem_cons_self, ih fun u hu => h u (List.mem_cons_of_mem _ hu)⟩
theorem srtE_map (hd : ∀ a, dec (enc a) = a) (as : List α) : (srtE enc dec as).map enc = sortV (ddV (as.map enc)) := map_dec hd fun v hv => by
  have := ddV_sub ((sortV_perm _).mem_iff.mp hv)
  obtain ⟨a, _, e⟩ := List.mem_map.mp this
  exact ⟨a, e.symm⟩
theorem srtL_map (hd : ∀ a, dec (enc a) = a) (as : List α) : (srtL enc dec as).map enc = sortV (as.map enc) := map_dec hd fun v hv => by
  obtain ⟨a, _, e⟩ := List.mem_map.mp ((sortV_perm _).mem_iff.mp hv)
  exact ⟨a, e.symm⟩
theorem enc_inj (hd : ∀ a, dec (enc a) = a) {a b : α} (h : enc a = enc b) : a = b := by rw [← hd a, h, hd]
theorem mem_srtE (hd : ∀ a, dec (enc a) = a) {as : List α} (hf : ∀ a ∈ as, flatK (enc a) = true) {a : α} : a ∈ srtE enc dec as ↔ a ∈ as := by
  have h1 : a ∈ srtE enc dec as ↔ enc a ∈ (srtE enc dec as).map enc := ⟨fun h => List.mem_map.mpr ⟨a, h, rfl⟩, fun h => by
    obtain ⟨b, hb, e⟩ := List.mem_map.mp h
    rw [← enc_inj hd e]; exact hb⟩
  rw [h1, srtE_map hd, (sortV_perm _).mem_iff, mem_ddV (flatKs_of fun v hv => by obtain ⟨b, hb, rfl⟩ := List.mem_map.mp hv; exact hf b hb)]
  exact ⟨fun h => by obtain ⟨b, hb, e⟩ := List.mem_map.mp h; rw [← enc_inj hd e]; exact hb, fun h => List.mem_map.mpr ⟨a, h, rfl⟩⟩
theorem nodup_srtE (hd : ∀ a, dec (enc a) = a) (as : List α) : (srtE enc dec as).Nodup := by
  have h : ((srtE enc dec as).map enc).Nodup := by
    rw [srtE_map hd]
    exact (sortV_perm _).nodup_iff.mpr (ddV_nodup _)
  exact List.Pairwise.of_map enc (fun _ _ hne e => hne (congrArg enc e)) h
theorem mem_srtL (hd : ∀ a, dec (enc a) = a) {as : List α} {a : α} : a ∈ srtL enc dec as ↔ a ∈ as := by
  have h1 : a ∈ srtL enc dec as ↔ enc a ∈ (srtL enc dec as).map enc := ⟨fun h => List.mem_map.mpr ⟨a, h, rfl⟩, fun h => by
    obtain ⟨b, hb, e⟩ := List.mem_map.mp h
    rw [← enc_inj hd e]; exact hb⟩
  rw [h1, srtL_map hd, (sortV_perm _).mem_iff]
  exact ⟨fun h => by obtain ⟨b, hb, e⟩ := List.mem_map.mp h; rw [← enc_inj hd e]; exact hb, fun h => List.mem_map.mpr ⟨a, h, rfl⟩⟩
theorem perm_srtL (as : List α) (hd : ∀ a, dec (enc a) = a) : (srtL enc dec as).Perm as := by
  have h : (srtL enc dec as).Perm ((as.map enc).map dec) := (sortV_perm _).map dec
  rw [List.map_map] at h
  have e : (as.map (dec ∘ enc)) = as := by
    rw [show (dec ∘ enc) = id from funext hd, List.map_id]
  rw [e] at h
  exact h
/-- the same members, the same list -/
theorem srtE_congr (hd : ∀ a, dec (enc a) = a) {as bs : List α} (hf : ∀ a ∈ as, flatK (enc a) = true) (ok : okSort (as.map enc) = true) (h : ∀ a, a ∈ as ↔ a ∈ bs) : srtE enc dec as = srtE enc dec bs := by
  unfold srtE
  have fa : flatKs (as.map enc) = true := flatKs_of fun v hv => by obtain ⟨b, hb, rfl⟩ := List.mem_map.mp hv; exact hf b hb
  have fb : flatKs (bs.map enc) = true := flatKs_of fun v hv => by obtain ⟨b, hb, rfl⟩ := List.mem_map.mp hv; exact hf b ((h b).mpr hb)
  rw [sortV_unique ((List.perm_ext_iff_of_nodup (ddV_nodup _) (ddV_nodup _)).mpr fun v => ?_) (okSort_sub ok fun x hx => ddV_sub hx)]
  rw [mem_ddV fa, mem_ddV fb]
  constructor
  · intro hv
    obtain ⟨a, ha, rfl⟩ := List.mem_map.mp hv
    exact List.mem_map.mpr ⟨a, (h a).mp ha, rfl⟩
  · intro hv
    obtain ⟨a, ha, rfl⟩ := List.mem_map.mp hv
    exact List.mem_map.mpr ⟨a, (h a).mpr ha, rfl⟩
/-- without doubles the set in order is the list in order -/
theorem srtE_nodup (hd : ∀ a, dec (enc a) = a) {as : List α} (hf : ∀ a ∈ as, flatK (enc a) = true) (ok : okSort (as.map enc) = true) (nd : as.Nodup) : srtE enc dec as = srtL enc dec as := by
  unfold srtE srtL
  have fa : flatKs (as.map enc) = true := flatKs_of fun v hv => by obtain ⟨b, hb, rfl⟩ := List.mem_map.mp hv; exact hf b hb
  have nd' : (as.map enc).Nodup := List.pairwise_map.mpr (nd.imp fun hne e => hne (enc_inj hd e))
  rw [sortV_unique ((List.perm_ext_iff_of_nodup (ddV_nodup _) nd').mpr fun v => mem_ddV fa) (okSort_sub ok fun x hx => ddV_sub hx)]
theorem length_srtE (hd : ∀ a, dec (enc a) = a) {as : List α} (hf : ∀ a ∈ as, flatK (enc a) = true) : (srtE enc dec as).length ≤ as.length := by
  have h1 : ∀ l : List Va, (ddV l).length ≤ l.length := by
    intro l
    induction l with
    | nil => simp [ddV]
    | cons x l ih =>
      unfold ddV
      have := List.length_filter_le (fun y => !NestedKey.beq (keyV y) (keyV x)) (ddV l)
      simp only [List.length_cons]; omega
  unfold srtE
  rw [List.length_map, (sortV_perm _).length_eq]
  have := h1 (as.map enc)
  simpa using this
end
theorem okSort_by {l : List Va} (h1 : ∀ v ∈ l, flatK v = true) (h2 : ∀ a ∈ l, ∀ b ∈ l, PySem.W.alike (pdV a) (pdV b) = true) (h3 : ∀ a ∈ l, (pdV a).depth ≤ 8) : okSort l = true := by
  unfold okSort
  simp only [Bool.and_eq_true, List.all_eq_true, decide_eq_true_eq]
  exact ⟨⟨flatKs_of h1, h2⟩, h3⟩
end Ev
end MEvM
section MKM8a
/-! k08, the mathematics, part a: rules as plain data; the small functions. -/
namespace K8
open PySem PySem.Spec PyProof.Rows L2 Ev
abbrev Tx (x : PySem.Str) : Prop := PyData.strOk x = true
structure Rl where
  k : Bool
  h : List PySem.Str
  p : List PySem.Str
  n : List PySem.Str
  t : List PySem.Str
deriving DecidableEq
def eT (xs : List PySem.Str) : Va := .tup (xs.map .str)
def kd (b : Bool) : PySem.Str := if b then "choice" else "rule"
def eR (r : Rl) : Va := .tup [.str (kd r.k), eT r.h, eT r.p, eT r.n, eT r.t]
def TxL (xs : List PySem.Str) : Prop := ∀ x ∈ xs, Tx x
structure RlT (r : Rl) : Prop where
  h : TxL r.h
  p : TxL r.p
  n : TxL r.n
  t : TxL r.t
theorem str_pd {x : PySem.Str} (h : Tx x) : plV (.str x) = true ∧ (ddD (.str x)).depth ≤ 63 := ⟨by simpa [plV] using h, by simp [ddD, PyData.depth]⟩
theorem strs_pd {xs : List PySem.Str} (h : TxL xs) : ∀ c ∈ xs.map Va.str, plV c = true ∧ (ddD c).depth ≤ 63 := fun c hc => by
  obtain ⟨x, hx, rfl⟩ := List.mem_map.mp hc
  exact str_pd (h x hx)
theorem good_str {x : PySem.Str} (h : Tx x) : Good (.str x) := ⟨(str_pd h).1, by have := (str_pd h).2; omega⟩
theorem depth_strs : ∀ xs : List PySem.Str, PyData.depthAll (ddDs (xs.map Va.str)) = 0
  | [] => rfl
  | x :: xs => by simp [ddDs, PyData.depthAll, ddD, PyData.depth, depth_strs xs]
theorem eT_pd {xs : List PySem.Str} (h : TxL xs) : plV (eT xs) = true ∧ (ddD (eT xs)).depth ≤ 1 := by
  refine ⟨?_, ?_⟩
  · simpa [eT, plV] using plVs_all.mpr fun c hc => (strs_pd h c hc).1
  · simp [eT, ddD, PyData.depth, depth_strs]
theorem tx_kd (b : Bool) : Tx (kd b) := by cases b <;> decide +kernel
theorem eR_pd {r : Rl} (h : RlT r) : plV (eR r) = true ∧ (ddD (eR r)).depth ≤ 2 := by
  have a1 := eT_pd h.h
  have a2 := eT_pd h.p
  have a3 := eT_pd h.n
  have a4 := eT_pd h.t
  refine ⟨?_, ?_⟩
  · simp only [eR, plV, plVs, a1.1, a2.1, a3.1, a4.1, Bool.and_true]
    exact tx_kd _
  · simp only [eR, ddD, ddDs, PyData.depth, PyData.depthAll]
    omega
theorem good_eR {r : Rl} (h : RlT r) : Good (eR r) := ⟨(eR_pd h).1, by have := (eR_pd h).2; omega⟩
theorem good_eT {xs : List PySem.Str} (h : TxL xs) : Good (eT xs) := ⟨(eT_pd h).1, by have := (eT_pd h).2; omega⟩
theorem eT_inj {a b : List PySem.Str} : eT a = eT b ↔ a = b := by
  constructor
  · intro h
    simp only [eT, Va.tup.injEq] at h
    exact List.map_inj_right (fun x y e => by cases e; rfl) |>.mp h
  · rintro rfl; rfl
theorem eR_inj {a b : Rl} : eR a = eR b ↔ a = b := by
  constructor
  · intro h
    simp only [eR, Va.tup.injEq, List.cons.injEq, eT_inj, Va.str.injEq, and_true] at h
    obtain ⟨h1, h2, h3, h4, h5⟩ := h
    have hk : a.k = b.k := by
      cases ha : a.k <;> cases hb : b.k <;> rw [ha, hb] at h1 <;> first | rfl | exact absurd h1 (by decide +kernel)
    cases a; cases b
    simp_all
  · rintro rfl; rfl
theorem mem_strs {x : PySem.Str} {xs : List PySem.Str} : Va.str x ∈ xs.map Va.str ↔ x ∈ xs := by simp
theorem bools_map {α : Type} (f : α → Bool) : ∀ xs : List α, boolsOf (xs.map fun x => Va.bl (f x)) = some (xs.map f)
  | [] => rfl
  | x :: xs => by simp [boolsOf, bools_map f xs]
theorem big (n : Nat) (h : n < 1000000) : n < sizeLine := by rw [sizeLine_eq]; omega
/-! ### small words -/
theorem idx2 {x : Va} {i : Nat} : (2 : Nat) = 2 := rfl
/-- the list's length is well below the line -/
theorem okL_lt {n : Nat} (hn : n < 1000000) (v : Va) : ∀ acc : List Va, acc.length < n → okL acc v = true := fun acc h => by
  unfold okL
  exact decide_eq_true (big _ (by omega))
/-! ### within -/
theorem f_within {a b : List PySem.Str} {μ : Mu} (ha : TxL a) (hb : TxL b) (hl : a.length < 1000) : F_within [eT a, eT b] μ = some (.bl (a.all fun x => decide (x ∈ b)), μ) := by
  have e := compF_all (enc := Va.str) (ok := okL) (me := eBin (gIn false) (eVar 2) (eVar 1)) (c := ⟨aSeq (eVar 0), bName 2, tAll, [2]⟩) (fs := [.val (eT a), .val (eT b), .no]) (μ := μ) (xs := a) (fun x => .bl (decide (x ∈ b))) 1000 (by simp [aSeq, eVar, eT]) rfl
    (fun x hx => ⟨[(2, .str x)], rfl, by simp [eBin, eVar, sets, wipeF, eT, gIn_tup (neg := false) (good_str (ha x hx)) (strs_pd hb)], okL_lt (by omega) _⟩) (by omega)
  unfold F_within fnF M_within
  simp [sRet, eCal, aCons, aNil, eFrz, frz, e, gAll, bools_map, List.mapIdx, List.mapIdx.go]
  rfl
/-! ### texts and rules in order -/
def unS : Va → PySem.Str
  | .str x => x
  | _ => PySem.Str.empty
def unT : Va → List PySem.Str
  | .tup xs => xs.map unS
  | _ => []
def unR : Va → Rl
  | .tup [.str k, h, p, n, t] => ⟨decide (k = "choice"), unT h, unT p, unT n, unT t⟩
  | _ => ⟨false, [], [], [], []⟩
theorem unS_str (x : PySem.Str) : unS (.str x) = x := rfl
theorem unT_eT (xs : List PySem.Str) : unT (eT xs) = xs := by
  show (xs.map Va.str).map unS = xs
  rw [List.map_map]
  exact List.map_id xs
theorem kd_dec (b : Bool) : decide (kd b = ("choice" : PySem.Str)) = b := by cases b <;> decide +kernel
theorem unR_eR (r : Rl) : unR (eR r) = r := by
  unfold unR eR
  simp only [unT_eT, kd_dec]
abbrev srtS : List PySem.Str → List PySem.Str := srtE Va.str unS
abbrev srtR : List Rl → List Rl := srtE eR unR
theorem flat_str (x : PySem.Str) : flatK (.str x) = true := rfl
theorem flat_strs (xs : List PySem.Str) : flatKs (xs.map Va.str) = true := flatKs_of fun v hv => by obtain ⟨x, _, rfl⟩ := List.mem_map.mp hv; rfl
theorem flat_eT (xs : List PySem.Str) : flatK (eT xs) = true := by simpa [eT, flatK] using flat_strs xs
theorem flat_eR (r : Rl) : flatK (eR r) = true := by simp [eR, flatK, flatKs, flat_eT]
theorem pd_str (x : PySem.Str) : pdV (.str x) = .str x := rfl
theorem keyVs_strs : ∀ xs : List PySem.Str, keyVs (xs.map Va.str) = xs.map NestedKey.text
  | [] => rfl
  | x :: xs => by simp [keyVs, keyV, keyVs_strs xs]
theorem datas_strs : ∀ xs : List PySem.Str, NestedKey.datas (xs.map NestedKey.text) = xs.map PyData.str
  | [] => rfl
  | x :: xs => by simp [NestedKey.datas, NestedKey.data, datas_strs xs]
theorem pd_eT (xs : List PySem.Str) : pdV (eT xs) = .tuple (xs.map PyData.str) := by
  simp [pdV, eT, keyV, keyVs_strs, NestedKey.data, datas_strs]
theorem pd_eR (r : Rl) : pdV (eR r) = .tuple [.str (kd r.k), .tuple (r.h.map .str), .tuple (r.p.map .str), .tuple (r.n.map .str), .tuple (r.t.map .str)] := by
  have h := pd_eT r.h
  have p := pd_eT r.p
  have n := pd_eT r.n
  have t := pd_eT r.t
  unfold pdV at *
  simp [eR, keyV, keyVs, NestedKey.data, NestedKey.datas, h, p, n, t]
theorem alike_strs : ∀ xs ys : List PySem.Str, PySem.W.alikeAll (xs.map PyData.str) (ys.map PyData.str) = true
  | [], _ => by simp [PySem.W.alikeAll]
  | _ :: _, [] => by simp [PySem.W.alikeAll]
  | x :: xs, y :: ys => by simp [PySem.W.alikeAll, PySem.W.alike, alike_strs xs ys]
theorem depth_pds : ∀ xs : List PySem.Str, PyData.depthAll (xs.map PyData.str) = 0
  | [] => rfl
  | x :: xs => by simp [PyData.depthAll, PyData.depth, depth_pds xs]
theorem ok_strs (xs : List PySem.Str) : okSort (xs.map Va.str) = true := okSort_by (fun v hv => by obtain ⟨x, _, rfl⟩ := List.mem_map.mp hv; rfl)
  (fun a ha b hb => by obtain ⟨x, _, rfl⟩ := List.mem_map.mp ha; obtain ⟨y, _, rfl⟩ := List.mem_map.mp hb; simp [pd_str, PySem.W.alike])
  (fun a ha => by obtain ⟨x, _, rfl⟩ := List.mem_map.mp ha; simp [pd_str, PyData.depth])
theorem ok_rls (rs : List Rl) : okSort (rs.map eR) = true := okSort_by (fun v hv => by obtain ⟨x, _, rfl⟩ := List.mem_map.mp hv; exact flat_eR x)
  (fun a ha b hb => by
    obtain ⟨x, _, rfl⟩ := List.mem_map.mp ha
    obtain ⟨y, _, rfl⟩ := List.mem_map.mp hb
    simp [pd_eR, PySem.W.alike, PySem.W.alikeAll, alike_strs])
  (fun a ha => by
    obtain ⟨x, _, rfl⟩ := List.mem_map.mp ha
    simp [pd_eR, PyData.depth, PyData.depthAll, depth_pds])
theorem ok_eTs (rs : List (List PySem.Str)) : okSort (rs.map eT) = true := okSort_by (fun v hv => by obtain ⟨x, _, rfl⟩ := List.mem_map.mp hv; exact flat_eT x)
  (fun a ha b hb => by
    obtain ⟨x, _, rfl⟩ := List.mem_map.mp ha
    obtain ⟨y, _, rfl⟩ := List.mem_map.mp hb
    simp [pd_eT, PySem.W.alike, alike_strs])
  (fun a ha => by
    obtain ⟨x, _, rfl⟩ := List.mem_map.mp ha
    simp [pd_eT, PyData.depth, depth_pds])
theorem mem_srtS {xs : List PySem.Str} {x : PySem.Str} : x ∈ srtS xs ↔ x ∈ xs := mem_srtE unS_str fun _ _ => rfl
theorem mem_srtR {xs : List Rl} {x : Rl} : x ∈ srtR xs ↔ x ∈ xs := mem_srtE unR_eR fun _ _ => flat_eR _
theorem srtS_map (xs : List PySem.Str) : (srtS xs).map Va.str = sortV (ddV (xs.map Va.str)) := srtE_map unS_str xs
theorem srtR_map (xs : List Rl) : (srtR xs).map eR = sortV (ddV (xs.map eR)) := srtE_map unR_eR xs
theorem key_depth_eR (r : Rl) : (keyV (eR r)).depth ≤ 8 := by
  have key : ∀ xs : List PySem.Str, NestedKey.depthAll (xs.map NestedKey.text) = 0 := fun xs => by
    induction xs with
    | nil => rfl
    | cons x xs ih => simp [NestedKey.depthAll, NestedKey.depth, ih]
  simp [eR, eT, keyV, keyVs, keyVs_strs, NestedKey.depth, NestedKey.depthAll, key]
/-! ### lot -/
theorem f_lotT {a : List PySem.Str} {μ : Mu} (hl : a.length < 4000) : F_lot [eT a] μ = some (eT (srtS a), μ) := by
  have e := compF_all (enc := Va.str) (ok := okC false) (me := eVar 1) (c := ⟨aSeq (eVar 0), bName 1, tAll, [1]⟩) (fs := [.val (eT a), .no]) (μ := μ) (xs := a) Va.str 4000 (by simp [aSeq, eVar, eT]) rfl
    (fun x hx => ⟨[(1, .str x)], rfl, by simp [eVar, sets, wipeF], fun acc h => by simp [okC, okS, isStrK]; omega⟩) (by omega)
  unfold F_lot fnF M_lot
  simp [sRet, eCal, aCons, aNil, eFrz, frz, aSrtU, e, gTuple, gList, look, List.mapIdx, List.mapIdx.go, ok_strs, srtS_map]
  simp [eT, srtS_map]
theorem f_lotL {a : List PySem.Str} {μ : Mu} (hl : a.length < 4000) : F_lot [.lst (a.map .str)] μ = some (eT (srtS a), μ) := by
  have e := compF_all (enc := Va.str) (ok := okC false) (me := eVar 1) (c := ⟨aSeq (eVar 0), bName 1, tAll, [1]⟩) (fs := [.val (.lst (a.map .str)), .no]) (μ := μ) (xs := a) Va.str 4000 (by simp [aSeq, eVar]) rfl
    (fun x hx => ⟨[(1, .str x)], rfl, by simp [eVar, sets, wipeF], fun acc h => by simp [okC, okS, isStrK]; omega⟩) (by omega)
  unfold F_lot fnF M_lot
  simp [sRet, eCal, aCons, aNil, eFrz, frz, aSrtU, e, gTuple, gList, look, List.mapIdx, List.mapIdx.go, ok_strs, eT, srtS_map]
/-! ### in_order -/
theorem f_in_order {rs : List Rl} {μ : Mu} (hl : rs.length < 60) : F_in_order [.lst (rs.map eR)] μ = some (.lst ((srtR rs).map eR), μ) := by
  have e := compF_all (enc := eR) (ok := okC true) (me := eVar 1) (c := ⟨aSeq (eVar 0), bName 1, tAll, [1]⟩) (fs := [.val (.lst (rs.map eR)), .no]) (μ := μ) (xs := rs) eR 60 (by simp [aSeq, eVar]) rfl
    (fun x hx => ⟨[(1, eR x)], rfl, by simp [eVar, sets, wipeF], fun acc h => by
      have h1 : isTupK (eR x) = true := rfl
      simp [okC, okN, h1, flat_eR, key_depth_eR]
      omega⟩) (by omega)
  unfold F_in_order fnF M_in_order
  simp [sRet, eFrz, frz, aSrtU, e, List.mapIdx, List.mapIdx.go, ok_rls, srtR_map]
end K8
end MKM8a
section MEvN
/-! Words for evaluating meanings forward, one construct a word (q_). -/
namespace Ev
open PySem PySem.Spec PyProof.Rows L2
section
variable {a b c : ME} {ta tb : MT} {fs fs' fs'' : Fs} {μ μ1 μ2 : Mu} {v x y : Va} {p q : Bool} {i j n np : Nat} {s t u : MS} {m r : MA} {vs ws : List Va} {fl : Fl}
theorem q_var (h : fs[i]? = some (.val v)) : eVar i fs μ = some (v, μ) := by unfold eVar; rw [h]
theorem q_c : eC v fs μ = some (v, μ) := rfl
theorem q_bin {g : Mu → Va → Va → Option Va} (h1 : a fs μ = some (x, μ1)) (h2 : b fs μ1 = some (y, μ2)) (h3 : g μ2 x y = some v) : eBin g a b fs μ = some (v, μ2) := by unfold eBin; rw [h1]; simp only; rw [h2]; simp only; rw [h3]
theorem q_and (h1 : a fs μ = some (.bl p, μ1)) (h2 : p = true → b fs μ1 = some (.bl q, μ1)) : eAnd a b fs μ = some (.bl (p && q), μ1) := by
  unfold eAnd; rw [h1]
  cases p with
  | false => rfl
  | true => simpa using h2 rfl
theorem q_or (h1 : a fs μ = some (.bl p, μ1)) (h2 : p = false → b fs μ1 = some (.bl q, μ1)) : eOr a b fs μ = some (.bl (p || q), μ1) := by
  unfold eOr; rw [h1]
  cases p with
  | true => rfl
  | false => simpa using h2 rfl
theorem q_not (h1 : a fs μ = some (.bl p, μ1)) : eNot a fs μ = some (.bl (!p), μ1) := by unfold eNot; rw [h1]
theorem q_tof (h1 : a fs μ = some (.bl p, μ1)) : tOf a fs μ = some (p, μ1) := by unfold tOf; rw [h1]
theorem q_tand (h1 : ta fs μ = some (p, μ1)) (h2 : p = true → tb fs μ1 = some (q, μ1)) : tAnd ta tb fs μ = some (p && q, μ1) := by
  unfold tAnd; rw [h1]
  cases p with
  | false => rfl
  | true => simpa using h2 rfl
theorem q_tor (h1 : ta fs μ = some (p, μ1)) (h2 : p = false → tb fs μ1 = some (q, μ1)) : tOr ta tb fs μ = some (p || q, μ1) := by
  unfold tOr; rw [h1]
  cases p with
  | true => rfl
  | false => simpa using h2 rfl
theorem q_tnot (h1 : ta fs μ = some (p, μ1)) : tNot ta fs μ = some (!p, μ1) := by unfold tNot; rw [h1]
theorem q_if (h1 : ta fs μ = some (p, μ1)) (h2 : p = true → a fs μ1 = some (x, μ2)) (h3 : p = false → b fs μ1 = some (x, μ2)) : eIf ta a b fs μ = some (x, μ2) := by
  unfold eIf; rw [h1]
  cases p with
  | true => exact h2 rfl
  | false => exact h3 rfl
theorem q_nil : aNil fs μ = some ([], μ) := rfl
theorem q_cons (h1 : a fs μ = some (v, μ1)) (h2 : r fs μ1 = some (vs, μ2)) : aCons a r fs μ = some (v :: vs, μ2) := by unfold aCons; rw [h1]; simp only; rw [h2]
theorem q_tup (h : m fs μ = some (vs, μ1)) (hl : vs.length ≤ sizeLine) : eTup m fs μ = some (.tup vs, μ1) := by unfold eTup; rw [h]; simp only; rw [if_pos hl]
theorem q_frz (h : m fs μ = some (vs, μ1)) : eFrz m fs μ = some (.lst vs, μ1) := by unfold eFrz; rw [h]
theorem q_cal {g : Mu → List Va → Option Va} (h : m fs μ = some (vs, μ1)) (h2 : g μ1 vs = some v) : eCal g m fs μ = some (v, μ1) := by unfold eCal; rw [h]; simp only; rw [h2]
theorem q_acal {g : Mu → List Va → Option (List Va)} (h : m fs μ = some (vs, μ1)) (h2 : g μ1 vs = some ws) : aCal g m fs μ = some (ws, μ1) := by unfold aCal; rw [h]; simp only; rw [h2]
theorem q_fn {F : MF} (h : m fs μ = some (vs, μ1)) (h2 : F vs μ1 = some (v, μ2)) : eFn F m fs μ = some (v, μ2) := by unfold eFn; rw [h]; simp only; rw [h2]
theorem q_fnL {F : ML} (h : m fs μ = some (vs, μ1)) (h2 : F vs μ1 = some (ws, μ2)) : aFnL F m fs μ = some (ws, μ2) := by unfold aFnL; rw [h]; simp only; rw [h2]
theorem q_seqt (h1 : a fs μ = some (.tup vs, μ1)) : aSeq a fs μ = some (vs, μ1) := by unfold aSeq; rw [h1]
theorem q_all {α : Type} {l : List α} {f : α → Bool} (h : m fs μ = some ([.lst (l.map fun z => .bl (f z))], μ1)) : eCal gAll m fs μ = some (.bl (l.all f), μ1) := q_cal h (by
  have : boolsOf (l.map fun z => Va.bl (f z)) = some (l.map f) := by
    clear h
    induction l with
    | nil => rfl
    | cons z l ih => simp [boolsOf, ih]
  simp [gAll, this]; rfl)
theorem q_any {α : Type} {l : List α} {f : α → Bool} (h : m fs μ = some ([.lst (l.map fun z => .bl (f z))], μ1)) : eCal gAny m fs μ = some (.bl (l.any f), μ1) := q_cal h (by
  have : boolsOf (l.map fun z => Va.bl (f z)) = some (l.map f) := by
    clear h
    induction l with
    | nil => rfl
    | cons z l ih => simp [boolsOf, ih]
  simp [gAny, this]; rfl)
/-! statements -/
theorem q_seq (h1 : s fs μ = some (.nx, fs', μ1)) (h2 : t fs' μ1 = some (fl, fs'', μ2)) : sSeq s t fs μ = some (fl, fs'', μ2) := by unfold sSeq; rw [h1]; exact h2
theorem q_ret (h1 : a (frz (fun _ => true) fs) μ = some (v, μ1)) : sRet a fs μ = some (.rt v, fs, μ1) := by unfold sRet; rw [h1]
theorem q_asg (h1 : a fs μ = some (v, μ1)) (h2 : fs.set i (.val v) = fs') : sAsg i a fs μ = some (.nx, fs', μ1) := by unfold sAsg; rw [h1]; subst h2; rfl
theorem q_own (h1 : m fs μ = some (vs, μ1)) (h2 : fs.set i (.own vs) = fs') : sOwn i m fs μ = some (.nx, fs', μ1) := by unfold sOwn; rw [h1]; subst h2; rfl
theorem q_asgG {g : MB} {as : Asn} (h1 : a fs μ = some (v, μ1)) (h2 : g v = some as) (h3 : sets fs as = fs') : sAsgG g a fs μ = some (.nx, fs', μ1) := by unfold sAsgG; rw [h1]; simp only; rw [h2]; subst h3; rfl
theorem q_par2 (h1 : m fs μ = some ([x, y], μ1)) (h2 : (fs.set i (.val x)).set j (.val y) = fs') : sPar2 i j m fs μ = some (.nx, fs', μ1) := by unfold sPar2; rw [h1]; subst h2; rfl
/-- an if whose branch returns, and what follows it -/
theorem q_ifret (h1 : ta fs μ = some (p, μ1)) (h2 : p = true → ∃ fsE, s fs μ1 = some (.rt v, fsE, μ2)) (h3 : p = false → ∃ fsE, t fs μ1 = some (.rt v, fsE, μ2)) : ∃ fsE, sSeq (sIf ta s sNil) t fs μ = some (.rt v, fsE, μ2) := by
  unfold sSeq sIf
  rw [h1]
  cases p with
  | true => obtain ⟨fsE, h2⟩ := h2 rfl; simp only; rw [h2]; exact ⟨_, rfl⟩
  | false => simpa only [sNil] using h3 rfl
theorem q_fnF {body : MS} {ds : List Va} (hn : ds.length = np) (h : ∃ fsE, body (ds.map .val ++ List.replicate (n - ds.length) .no) μ = some (.rt v, fsE, μ1)) : fnF np n body ds μ = some (v, μ1) := by
  obtain ⟨fsE, h⟩ := h
  unfold fnF
  rw [if_pos hn, h]
theorem q_then (h1 : s fs μ = some (.nx, fs', μ1)) (h2 : ∃ fsE, t fs' μ1 = some (.rt v, fsE, μ2)) : ∃ fsE, sSeq s t fs μ = some (.rt v, fsE, μ2) := by
  obtain ⟨fsE, h2⟩ := h2
  exact ⟨fsE, q_seq h1 h2⟩
theorem q_ret' (h1 : a (frz (fun _ => true) fs) μ = some (v, μ1)) : ∃ fsE, sRet a fs μ = some (.rt v, fsE, μ1) := ⟨_, q_ret h1⟩
end
end Ev
end MEvN
section MKM8b
/-! k08, the mathematics, part b: when a rule holds. -/
namespace K8
open PySem PySem.Spec PyProof.Rows L2 Ev
/-! ### the plain side -/
def win (a b : List PySem.Str) : Bool := a.all fun x => decide (x ∈ b)
def bodyB (r : Rl) (h t : List PySem.Str) : Bool := win r.p h && (win r.t t && !(r.n.any fun x => decide (x ∈ t)))
def headB (r : Rl) (h t : List PySem.Str) : Bool := if r.k then r.h.all fun x => decide (x ∈ h) || !decide (x ∈ t) else r.h.any fun x => decide (x ∈ h)
def holdB (r : Rl) (h t : List PySem.Str) : Bool := if bodyB r t t && !headB r t t then false else headB r h t || !bodyB r h t
def allB (rs : List Rl) (h t : List PySem.Str) : Bool := rs.all fun r => holdB r h t
/-- a rule small enough to be walked over -/
structure RlS (r : Rl) : Prop extends RlT r where
  lh : r.h.length < 1000
  lp : r.p.length < 1000
  ln : r.n.length < 1000
  lt : r.t.length < 1000
/-! ### lists of truths over texts -/
theorem in_lc {fs : Fs} {μ : Mu} {a b : List PySem.Str} {i j k : Nat} (ha : TxL a) (hb : TxL b) (hl : a.length < 1000) (h1 : aSeq (eVar i) fs μ = some (a.map Va.str, μ))
    (hset : ∀ x : PySem.Str, eVar k (sets (wipeF fs [k]) [(k, .str x)]) μ = some (.str x, μ)) (hb' : ∀ x : PySem.Str, eVar j (sets (wipeF fs [k]) [(k, .str x)]) μ = some (eT b, μ)) :
    compF okL (eBin (gIn false) (eVar k) (eVar j)) ⟨aSeq (eVar i), bName k, tAll, [k]⟩ [] fs μ = some (a.map fun x => .bl (decide (x ∈ b)), μ) :=
  compF_all (enc := Va.str) (fun x => .bl (decide (x ∈ b))) 1000 h1 rfl
    (fun x hx => ⟨[(k, .str x)], rfl, by simp only [eBin, hset, hb']; simp [eT, gIn_tup (neg := false) (good_str (ha x hx)) (strs_pd hb)], okL_lt (by omega) _⟩) (by omega)
theorem q_within {a b : List PySem.Str} {fs : Fs} {μ : Mu} {i j : Nat} (ha : TxL a) (hb : TxL b) (hl : a.length < 1000) (h1 : fs[i]? = some (.val (eT a))) (h2 : fs[j]? = some (.val (eT b))) :
    eFn F_within (aCons (eVar i) (aCons (eVar j) aNil)) fs μ = some (.bl (win a b), μ) := q_fn (q_cons (q_var h1) (q_cons (q_var h2) q_nil)) (f_within ha hb hl)
theorem f_body_holds {r : Rl} {h t : List PySem.Str} {μ : Mu} (hr : RlS r) (hh : TxL h) (ht : TxL t) : F_body_holds [eR r, eT h, eT t] μ = some (.bl (bodyB r h t), μ) :=
  q_fnF rfl (q_then (q_asgG (q_var rfl) rfl rfl) (q_ret' (q_and (q_within hr.p hh hr.lp rfl rfl) fun _ => q_and (q_within hr.t ht hr.lt rfl rfl) fun _ => q_not (q_any (q_cons (q_frz (in_lc hr.n ht hr.ln (q_seqt (q_var rfl)) (fun _ => rfl) (fun _ => rfl))) q_nil)))))
theorem gEq_str {x y : PySem.Str} {μ : Mu} (hx : Tx x) (hy : Tx y) : gEq μ (.str x) (.str y) = some (.bl (decide (x = y))) := by
  rw [gEq_good (good_str hx) (good_str hy)]
  congr 2
  exact decide_eq_decide.mpr (by simp)
theorem gNe_str {x y : PySem.Str} {μ : Mu} (hx : Tx x) (hy : Tx y) : gNe μ (.str x) (.str y) = some (.bl (!decide (x = y))) := by
  rw [gNe_good (good_str hx) (good_str hy)]
  congr 3
  exact decide_eq_decide.mpr (by simp)
theorem kd_choice (b : Bool) {μ : Mu} : gEq μ (.str (kd b)) (.str "choice") = some (.bl b) := by
  rw [gEq_str (tx_kd b) (by decide +kernel), kd_dec]
theorem kd_rule (b : Bool) {μ : Mu} : gEq μ (.str (kd b)) (.str "rule") = some (.bl (!b)) := by
  rw [gEq_str (tx_kd b) (by decide +kernel)]
  cases b <;> first | rfl | (congr 2; decide +kernel)
theorem q_seqT {fs : Fs} {μ : Mu} {i : Nat} {xs : List PySem.Str} (h : fs[i]? = some (.val (eT xs))) : aSeq (eVar i) fs μ = some (xs.map .str, μ) := q_seqt (q_var h)
theorem q_seqR {fs : Fs} {μ : Mu} {i : Nat} {xs : List Rl} (h : fs[i]? = some (.val (.lst (xs.map eR)))) : aSeq (eVar i) fs μ = some (xs.map eR, μ) := by
  unfold aSeq; rw [q_var h]
/-- [f(x) for x in a tuple of texts if p(x)] -/
theorem lc_T {me : ME} {i k : Nat} {fs : Fs} {μ : Mu} {xs : List PySem.Str} (f : PySem.Str → Va) (h1 : fs[i]? = some (.val (eT xs))) (hl : xs.length < 1000) (h : ∀ x ∈ xs, me (sets (wipeF fs [k]) [(k, .str x)]) μ = some (f x, μ)) :
    compF okL me ⟨aSeq (eVar i), bName k, tAll, [k]⟩ [] fs μ = some (xs.map f, μ) := by
  have h2 : aSeq (eVar i) fs μ = some (xs.map .str, μ) := q_seqT h1
  exact compF_all (enc := Va.str) f 1000 h2 rfl (fun x hx => ⟨[(k, .str x)], rfl, h x hx, okL_lt (by omega) _⟩) (by omega)
theorem lc_Tp {me : ME} {t : MT} {i k : Nat} {fs : Fs} {μ : Mu} {xs : List PySem.Str} (p : PySem.Str → Bool) (f : PySem.Str → Va) (h1 : fs[i]? = some (.val (eT xs))) (hl : xs.length < 1000) (ht : ∀ x ∈ xs, t (sets (wipeF fs [k]) [(k, .str x)]) μ = some (p x, μ)) (h : ∀ x ∈ xs, p x = true → me (sets (wipeF fs [k]) [(k, .str x)]) μ = some (f x, μ)) :
    compF okL me ⟨aSeq (eVar i), bName k, t, [k]⟩ [] fs μ = some ((xs.filter p).map f, μ) := by
  have h2 : aSeq (eVar i) fs μ = some (xs.map .str, μ) := q_seqT h1
  exact compF_enc (enc := Va.str) p f 1000 h2 (fun x hx => ⟨[(k, .str x)], rfl, ht x hx, fun e => ⟨h x hx e, okL_lt (by omega) _⟩⟩) (by have := List.length_filter_le p xs; omega)
theorem lc_R {me : ME} {i k : Nat} {fs : Fs} {μ : Mu} {xs : List Rl} (f : Rl → Va) (h1 : fs[i]? = some (.val (.lst (xs.map eR)))) (hl : xs.length < 1000) (h : ∀ x ∈ xs, me (sets (wipeF fs [k]) [(k, eR x)]) μ = some (f x, μ)) :
    compF okL me ⟨aSeq (eVar i), bName k, tAll, [k]⟩ [] fs μ = some (xs.map f, μ) := by
  have h2 : aSeq (eVar i) fs μ = some (xs.map eR, μ) := q_seqR h1
  exact compF_all (enc := eR) f 1000 h2 rfl (fun x hx => ⟨[(k, eR x)], rfl, h x hx, okL_lt (by omega) _⟩) (by omega)
theorem lc_Rp {me : ME} {t : MT} {i k : Nat} {fs : Fs} {μ : Mu} {xs : List Rl} (p : Rl → Bool) (f : Rl → Va) (h1 : fs[i]? = some (.val (.lst (xs.map eR)))) (hl : xs.length < 1000) (ht : ∀ x ∈ xs, t (sets (wipeF fs [k]) [(k, eR x)]) μ = some (p x, μ)) (h : ∀ x ∈ xs, p x = true → me (sets (wipeF fs [k]) [(k, eR x)]) μ = some (f x, μ)) :
    compF okL me ⟨aSeq (eVar i), bName k, t, [k]⟩ [] fs μ = some ((xs.filter p).map f, μ) := by
  have h2 : aSeq (eVar i) fs μ = some (xs.map eR, μ) := q_seqR h1
  exact compF_enc (enc := eR) p f 1000 h2 (fun x hx => ⟨[(k, eR x)], rfl, ht x hx, fun e => ⟨h x hx e, okL_lt (by omega) _⟩⟩) (by have := List.length_filter_le p xs; omega)
/-- x in a tuple of texts -/
theorem q_in {fs : Fs} {μ : Mu} {i j : Nat} {x : PySem.Str} {b : List PySem.Str} (hx : Tx x) (hb : TxL b) (h1 : fs[i]? = some (.val (.str x))) (h2 : fs[j]? = some (.val (eT b))) : eBin (gIn false) (eVar i) (eVar j) fs μ = some (.bl (decide (x ∈ b)), μ) :=
  q_bin (q_var h1) (q_var h2) (by simp [eT, gIn_tup (neg := false) (good_str hx) (strs_pd hb)])
theorem q_nin {fs : Fs} {μ : Mu} {i j : Nat} {x : PySem.Str} {b : List PySem.Str} (hx : Tx x) (hb : TxL b) (h1 : fs[i]? = some (.val (.str x))) (h2 : fs[j]? = some (.val (eT b))) : eBin (gIn true) (eVar i) (eVar j) fs μ = some (.bl (!decide (x ∈ b)), μ) :=
  q_bin (q_var h1) (q_var h2) (by simp [eT, gIn_tup (neg := true) (good_str hx) (strs_pd hb)])
theorem f_head_holds {r : Rl} {h t : List PySem.Str} {μ : Mu} (hr : RlS r) (hh : TxL h) (ht : TxL t) : F_head_holds [eR r, eT h, eT t] μ = some (.bl (headB r h t), μ) := by
  unfold headB
  refine q_fnF rfl (q_then (q_par2 (q_cons (q_bin (q_var rfl) q_c rfl) (q_cons (q_bin (q_var rfl) q_c rfl) q_nil)) rfl) (q_ifret (q_tof (q_bin (q_var rfl) q_c (kd_choice _))) (fun e => ?_) (fun e => ?_)))
  · rw [if_pos e]
    exact q_ret' (q_all (q_cons (q_frz (lc_T _ rfl hr.lh fun x hx => q_or (q_in (hr.h x hx) hh rfl rfl) fun _ => q_nin (hr.h x hx) ht rfl rfl)) q_nil))
  · rw [e, if_neg (by decide)]
    exact q_ret' (q_any (q_cons (q_frz (in_lc hr.h hh hr.lh (q_seqt (q_var rfl)) (fun _ => rfl) (fun _ => rfl))) q_nil))
theorem f_rule_holds {r : Rl} {h t : List PySem.Str} {μ : Mu} (hr : RlS r) (hh : TxL h) (ht : TxL t) : F_rule_holds [eR r, eT h, eT t] μ = some (.bl (holdB r h t), μ) := by
  unfold holdB
  refine q_fnF rfl (q_ifret (q_tand (q_tof (q_fn (q_cons (q_var rfl) (q_cons (q_var rfl) (q_cons (q_var rfl) q_nil))) (f_body_holds hr ht ht))) fun _ => q_tnot (q_tof (q_fn (q_cons (q_var rfl) (q_cons (q_var rfl) (q_cons (q_var rfl) q_nil))) (f_head_holds hr ht ht)))) (fun e => ?_) (fun e => ?_))
  · rw [if_pos e]
    exact q_ret' q_c
  · rw [if_neg (by rw [e]; decide)]
    exact q_ret' (q_or (q_fn (q_cons (q_var rfl) (q_cons (q_var rfl) (q_cons (q_var rfl) q_nil))) (f_head_holds hr hh ht)) fun _ => q_not (q_fn (q_cons (q_var rfl) (q_cons (q_var rfl) (q_cons (q_var rfl) q_nil))) (f_body_holds hr hh ht)))
theorem f_all_hold {rs : List Rl} {h t : List PySem.Str} {μ : Mu} (hr : ∀ r ∈ rs, RlS r) (hl : rs.length < 1000) (hh : TxL h) (ht : TxL t) : F_all_hold [.lst (rs.map eR), eT h, eT t] μ = some (.bl (allB rs h t), μ) :=
  q_fnF rfl (q_ret' (q_all (q_cons (q_frz (lc_R (fun r => .bl (holdB r h t)) rfl hl fun x hx => q_fn (q_cons (q_var rfl) (q_cons (q_var rfl) (q_cons (q_var rfl) q_nil))) (f_rule_holds (hr x hx) hh ht))) q_nil)))
end K8
end MKM8b
section MKM8c
/-! k08, the mathematics, part c: the steps that look at one rule. -/
namespace K8
open PySem PySem.Spec PyProof.Rows L2 Ev
/-- a step -/
structure Stp where
  w : PySem.Str
  r : Rl
  f : List Rl
  b : List Rl
def eS (s : Stp) : Va := .tup [.str s.w, eR s.r, .tup (s.f.map eR), .tup (s.b.map eR)]
def eO : Option Stp → Va
  | none => .non
  | some s => eS s
theorem sz {n : Nat} (h : n ≤ 1000000) : n ≤ sizeLine := by rw [sizeLine_eq]; omega
theorem five {v1 v2 v3 v4 v5 : Va} : ([v1, v2, v3, v4, v5] : List Va).length ≤ sizeLine := sz (by simp)
theorem four {v1 v2 v3 v4 : Va} : ([v1, v2, v3, v4] : List Va).length ≤ sizeLine := sz (by simp)
theorem onev {v1 : Va} : ([v1] : List Va).length ≤ sizeLine := sz (by simp)
theorem zerov : ([] : List Va).length ≤ sizeLine := sz (by simp)
def lsO (a b : List PySem.Str) : List PySem.Str := a.filter fun x => !decide (x ∈ b)
theorem f_less_of {a b : List PySem.Str} {μ : Mu} (ha : TxL a) (hb : TxL b) (hl : a.length < 1000) : F_less_of [eT a, eT b] μ = some (eT (lsO a b), μ) :=
  q_fnF rfl (q_ret' (q_cal (q_cons (q_frz (lc_Tp (fun x => !decide (x ∈ b)) Va.str rfl hl (fun x hx => q_tof (q_nin (ha x hx) hb rfl rfl)) fun x hx _ => q_var rfl)) q_nil) rfl))
def factR (x : PySem.Str) : Rl := ⟨false, [x], [], [], []⟩
theorem f_fact {x : PySem.Str} {μ : Mu} : F_fact [.str x] μ = some (eR (factR x), μ) :=
  q_fnF rfl (q_ret' (q_tup (q_cons q_c (q_cons (q_tup (q_cons (q_var rfl) q_nil) onev) (q_cons (q_tup q_nil zerov) (q_cons (q_tup q_nil zerov) (q_cons (q_tup q_nil zerov) q_nil))))) five))
/-! ### bits -/
theorem q_len {fs : Fs} {μ : Mu} {i : Nat} {xs : List PySem.Str} (h : fs[i]? = some (.val (eT xs))) : eCal gLen (aCons (eVar i) aNil) fs μ = some (.int xs.length, μ) := q_cal (q_cons (q_var h) q_nil) (by simp [gLen, look, eT])
theorem gNe_kd (b : Bool) {μ : Mu} : gNe μ (.str (kd b)) (.str "choice") = some (.bl (!b)) := by
  rw [gNe_str (tx_kd b) (by decide +kernel), kd_dec]
theorem gNe_kr (b : Bool) {μ : Mu} : gNe μ (.str (kd b)) (.str "rule") = some (.bl b) := by
  rw [gNe_str (tx_kd b) (by decide +kernel)]
  cases b <;> first | rfl | (congr 2; decide +kernel)
theorem gEq_int {i j : Int} {μ : Mu} : gEq μ (.int i) (.int j) = some (.bl (decide (i = j))) := by
  rw [gEq_good ⟨rfl, by simp [ddD, PyData.depth]⟩ ⟨rfl, by simp [ddD, PyData.depth]⟩]
  congr 2
  exact decide_eq_decide.mpr (by simp)
theorem gAdd_T {a b : List PySem.Str} {μ : Mu} (hl : a.length + b.length ≤ 1000000) : gAdd μ (eT a) (eT b) = some (eT (a ++ b)) := by
  simp [gAdd, eT, sz hl]
/-! ### split -/
def splitO (r : Rl) : Option Stp := if !r.k || decide (r.h.length < 2) then none else some ⟨"split", r, r.h.map fun x => ⟨true, [x], r.p, r.n, r.t⟩, []⟩
theorem f_split_step {r : Rl} {μ : Mu} (hr : RlS r) : F_split_step [eR r] μ = some (eO (splitO r), μ) := by
  unfold splitO
  refine q_fnF rfl (q_then (q_asgG (q_var rfl) rfl rfl) (q_ifret (q_tor (q_tof (q_bin (q_var rfl) q_c (gNe_kd _))) fun _ => q_tof (q_bin (q_len rfl) q_c rfl)) (fun e => ?_) (fun e => ?_)))
  · rw [if_pos (by
      simp at e ⊢
      rcases e with e | e
      · exact .inl e
      · exact .inr (by omega))]
    exact q_ret' q_c
  · rw [if_neg (by
      simp at e ⊢
      exact ⟨e.1, by omega⟩)]
    have := lc_T (me := eTup (aCons (eC (.str "choice")) (aCons (eTup (aCons (eVar 6) aNil)) (aCons (eVar 3) (aCons (eVar 4) (aCons (eVar 5) aNil)))))) (i := 2) (k := 6) (fs := [.val (eR r), .val (.str (kd r.k)), .val (eT r.h), .val (eT r.p), .val (eT r.n), .val (eT r.t), .no]) (μ := μ) (fun x => eR ⟨true, [x], r.p, r.n, r.t⟩) rfl hr.lh fun x hx => q_tup (q_cons q_c (q_cons (q_tup (q_cons (q_var rfl) q_nil) onev) (q_cons (q_var rfl) (q_cons (q_var rfl) (q_cons (q_var rfl) q_nil))))) five
    refine q_ret' (q_tup (q_cons q_c (q_cons (q_var rfl) (q_cons (q_cal (q_cons (q_frz this) q_nil) ?_) (q_cons (q_tup q_nil zerov) q_nil)))) four)
    simp [gTuple, gList, look]
/-! ### never -/
def neverO (r : Rl) : Option Stp := if (r.p ++ r.t).any fun x => decide (x ∈ r.n) then some ⟨"never", r, [], []⟩ else none
theorem tx_app {a b : List PySem.Str} (ha : TxL a) (hb : TxL b) : TxL (a ++ b) := fun x hx => by
  rcases List.mem_append.mp hx with h | h
  · exact ha x h
  · exact hb x h
theorem f_never_step {r : Rl} {μ : Mu} (hr : RlS r) : F_never_step [eR r] μ = some (eO (neverO r), μ) := by
  unfold neverO
  have hp := hr.lp
  have ht := hr.lt
  have h2 : aSeq (eBin gAdd (eVar 3) (eVar 5)) [.val (eR r), .val (.str (kd r.k)), .val (eT r.h), .val (eT r.p), .val (eT r.n), .val (eT r.t), .no] μ = some ((r.p ++ r.t).map .str, μ) := q_seqt (q_bin (q_var rfl) (q_var rfl) (gAdd_T (by omega)))
  have e1 := compF_all (enc := Va.str) (ok := okL) (me := eBin (gIn false) (eVar 6) (eVar 4)) (c := ⟨aSeq (eBin gAdd (eVar 3) (eVar 5)), bName 6, tAll, [6]⟩) (fun x => .bl (decide (x ∈ r.n))) 2000 h2 rfl
    (fun x hx => ⟨[(6, .str x)], rfl, q_in (tx_app hr.p hr.t x hx) hr.n rfl rfl, okL_lt (by omega) _⟩) (by simp; omega)
  refine q_fnF rfl (q_then (q_asgG (q_var rfl) rfl rfl) (q_ifret (q_tof (q_any (q_cons (q_frz e1) q_nil))) (fun e => ?_) (fun e => ?_)))
  · rw [if_pos e]
    exact q_ret' (q_tup (q_cons q_c (q_cons (q_var rfl) (q_cons (q_tup q_nil zerov) (q_cons (q_tup q_nil zerov) q_nil)))) four)
  · rw [if_neg (by rw [e]; decide)]
    exact q_ret' q_c
/-! ### double -/
def doubleO (r : Rl) : Option Stp := if !(r.t.any fun x => decide (x ∈ r.p)) then none else some ⟨"double", r, [{ r with t := lsO r.t r.p }], []⟩
theorem q_ls {fs : Fs} {μ : Mu} {i j : Nat} {a b : List PySem.Str} (ha : TxL a) (hb : TxL b) (hl : a.length < 1000) (h1 : fs[i]? = some (.val (eT a))) (h2 : fs[j]? = some (.val (eT b))) :
    eFn F_less_of (aCons (eVar i) (aCons (eVar j) aNil)) fs μ = some (eT (lsO a b), μ) := q_fn (q_cons (q_var h1) (q_cons (q_var h2) q_nil)) (f_less_of ha hb hl)
theorem f_double_step {r : Rl} {μ : Mu} (hr : RlS r) : F_double_step [eR r] μ = some (eO (doubleO r), μ) := by
  unfold doubleO
  refine q_fnF rfl (q_then (q_asgG (q_var rfl) rfl rfl) (q_ifret (q_tnot (q_tof (q_any (q_cons (q_frz (lc_T _ rfl hr.lt fun x hx => q_in (hr.t x hx) hr.p rfl rfl)) q_nil)))) (fun e => ?_) (fun e => ?_)))
  · rw [if_pos e]
    exact q_ret' q_c
  · rw [if_neg (by rw [e]; decide)]
    exact q_ret' (q_tup (q_cons q_c (q_cons (q_var rfl) (q_cons (q_tup (q_cons (q_tup (q_cons (q_var rfl) (q_cons (q_var rfl) (q_cons (q_var rfl) (q_cons (q_var rfl) (q_cons (q_ls hr.t hr.p hr.lt rfl rfl) q_nil))))) five) q_nil) onev) (q_cons (q_tup q_nil zerov) q_nil)))) four)
/-! ### shadow -/
def shadowO (r : Rl) : Option Stp := if r.k || !(r.h.any fun x => decide (x ∈ r.n)) then none else some ⟨"shadow", r, [{ r with h := lsO r.h r.n }], []⟩
theorem f_shadow_step {r : Rl} {μ : Mu} (hr : RlS r) : F_shadow_step [eR r] μ = some (eO (shadowO r), μ) := by
  unfold shadowO
  refine q_fnF rfl (q_then (q_asgG (q_var rfl) rfl rfl) (q_ifret (q_tor (q_tof (q_bin (q_var rfl) q_c (gNe_kr _))) fun _ => q_tnot (q_tof (q_any (q_cons (q_frz (lc_T _ rfl hr.lh fun x hx => q_in (hr.h x hx) hr.n rfl rfl)) q_nil)))) (fun e => ?_) (fun e => ?_)))
  · rw [if_pos e]
    exact q_ret' q_c
  · rw [if_neg (by rw [e]; decide)]
    exact q_ret' (q_tup (q_cons q_c (q_cons (q_var rfl) (q_cons (q_tup (q_cons (q_tup (q_cons (q_var rfl) (q_cons (q_ls hr.h hr.n hr.lh rfl rfl) (q_cons (q_var rfl) (q_cons (q_var rfl) (q_cons (q_var rfl) q_nil))))) five) q_nil) onev) (q_cons (q_tup q_nil zerov) q_nil)))) four)
end K8
end MKM8c
section MKM8d
/-! k08, the mathematics, part d: facts, denials, the steps that look at the others. -/
namespace K8
open PySem PySem.Spec PyProof.Rows L2 Ev
/-! ### idle -/
def idleO (r : Rl) : Option Stp :=
  if r.k && (decide ((r.h.length : Int) = 1) && (r.h.any (fun x => decide (x ∈ r.p)) || r.h.any (fun x => decide (x ∈ r.n)))) then some ⟨"idle", r, [], []⟩
  else if !r.k && r.h.any (fun x => decide (x ∈ r.p)) then some ⟨"idle", r, [], []⟩ else none
theorem q_gin {a : ME} {fs : Fs} {μ : Mu} {j : Nat} {x : PySem.Str} {b : List PySem.Str} (hx : Tx x) (hb : TxL b) (h1 : a fs μ = some (.str x, μ)) (h2 : fs[j]? = some (.val (eT b))) : eBin (gIn false) a (eVar j) fs μ = some (.bl (decide (x ∈ b)), μ) :=
  q_bin h1 (q_var h2) (by simp [eT, gIn_tup (neg := false) (good_str hx) (strs_pd hb)])
theorem f_idle_step {r : Rl} {μ : Mu} (hr : RlS r) : F_idle_step [eR r] μ = some (eO (idleO r), μ) := by
  unfold idleO
  have one : ∀ {j : Nat} {b : List PySem.Str} {fs : Fs}, TxL b → fs[2]? = some (.val (eT r.h)) → fs[j]? = some (.val (eT b)) → decide ((r.h.length : Int) = 1) = true → eBin (gIn false) (eIdx (eVar 2) (eC (.int 0))) (eVar j) fs μ = some (.bl (r.h.any fun x => decide (x ∈ b)), μ) := fun {j b fs} hb h1 h2 e => by
    obtain ⟨x, hx⟩ := List.length_eq_one_iff.mp (by have := of_decide_eq_true e; omega : r.h.length = 1)
    have ht := hr.h
    rw [hx] at h1 ht ⊢
    have h3 : eIdx (eVar 2) (eC (.int 0)) fs μ = some (.str x, μ) := q_bin (g := gIdx) (q_var h1) q_c rfl
    simpa using q_gin (ht x (by simp)) hb h3 h2
  refine q_fnF rfl (q_then (q_asgG (q_var rfl) rfl rfl) (q_ifret (q_tand (q_tof (q_bin (q_var rfl) q_c (kd_choice _))) fun _ => q_tand (q_tof (q_bin (q_len rfl) q_c gEq_int)) fun e => q_tor (q_tof (one hr.p rfl rfl e)) fun _ => q_tof (one hr.n rfl rfl e)) (fun e => ?_) (fun e => ?_)))
  · rw [if_pos e]
    exact q_ret' (q_tup (q_cons q_c (q_cons (q_var rfl) (q_cons (q_tup q_nil zerov) (q_cons (q_tup q_nil zerov) q_nil)))) four)
  · rw [if_neg (by rw [e]; decide)]
    refine q_ifret (q_tand (q_tof (q_bin (q_var rfl) q_c (kd_rule _))) fun _ => q_tof (q_any (q_cons (q_frz (lc_T _ rfl hr.lh fun x hx => q_in (hr.h x hx) hr.p rfl rfl)) q_nil))) (fun e => ?_) (fun e => ?_)
    · rw [if_pos e]
      exact q_ret' (q_tup (q_cons q_c (q_cons (q_var rfl) (q_cons (q_tup q_nil zerov) (q_cons (q_tup q_nil zerov) q_nil)))) four)
    · rw [if_neg (by rw [e]; decide)]
      exact q_ret' q_c
/-! ### facts -/
def hd (r : Rl) : PySem.Str := r.h.headD PySem.Str.empty
def factsL (rs : List Rl) : List PySem.Str := (((srtR rs).filter fun r => !r.k && decide ((r.h.length : Int) = 1)).filter fun r => decide (r = factR (hd r))).map hd
theorem rlT_fact {x : PySem.Str} (hx : Tx x) : RlT (factR x) := ⟨fun y hy => by rw [List.mem_singleton.mp hy]; exact hx, fun y hy => absurd hy (by simp [factR]), fun y hy => absurd hy (by simp [factR]), fun y hy => absurd hy (by simp [factR])⟩
theorem gEq_R {a b : Rl} {μ : Mu} (ha : RlT a) (hb : RlT b) : gEq μ (eR a) (eR b) = some (.bl (decide (a = b))) := by
  rw [gEq_good (good_eR ha) (good_eR hb)]
  congr 2
  exact decide_eq_decide.mpr eR_inj
theorem gNe_R {a b : Rl} {μ : Mu} (ha : RlT a) (hb : RlT b) : gNe μ (eR a) (eR b) = some (.bl (!decide (a = b))) := by
  rw [gNe_good (good_eR ha) (good_eR hb)]
  congr 3
  exact decide_eq_decide.mpr eR_inj
theorem len_srtR {rs : List Rl} : (srtR rs).length ≤ rs.length := length_srtE unR_eR fun r _ => flat_eR r
theorem q_ord {fs : Fs} {μ : Mu} {i : Nat} {rs : List Rl} (hl : rs.length < 60) (h : fs[i]? = some (.val (.lst (rs.map eR)))) : aSeq (eFn F_in_order (aCons (eVar i) aNil)) fs μ = some ((srtR rs).map eR, μ) := by
  have : eFn F_in_order (aCons (eVar i) aNil) fs μ = some (.lst ((srtR rs).map eR), μ) := q_fn (q_cons (q_var h) q_nil) (f_in_order hl)
  unfold aSeq; rw [this]
theorem hd_of {r : Rl} (e : decide ((r.h.length : Int) = 1) = true) : r.h = [hd r] := by
  obtain ⟨x, hx⟩ := List.length_eq_one_iff.mp (by have := of_decide_eq_true e; omega : r.h.length = 1)
  simp [hd, hx]
theorem q_hd {fs : Fs} {μ : Mu} {i : Nat} {r : Rl} (h : fs[i]? = some (.val (eR r))) (e : decide ((r.h.length : Int) = 1) = true) : eIdx (eIdx (eVar i) (eC (.int 1))) (eC (.int 0)) fs μ = some (.str (hd r), μ) := by
  have h2 := hd_of e
  refine q_bin (q_bin (q_var h) q_c (g := gIdx) (v := eT r.h) rfl) q_c ?_
  rw [h2]
  rfl
theorem f_facts_in {rs : List Rl} {μ : Mu} (hr : ∀ r ∈ rs, RlS r) (hl : rs.length < 60) : F_facts_in [.lst (rs.map eR)] μ = some (.lst ((factsL rs).map .str), μ) := by
  have ls := len_srtR (rs := rs)
  have hr' : ∀ r ∈ srtR rs, RlS r := fun r h => hr r (mem_srtR.mp h)
  have h2 : aSeq (eFn F_in_order (aCons (eVar 0) aNil)) [.val (.lst (rs.map eR)), .no, .no] μ = some ((srtR rs).map eR, μ) := q_ord hl rfl
  have e1 := compF_enc (enc := eR) (ok := okL) (me := eVar 2) (c := ⟨aSeq (eFn F_in_order (aCons (eVar 0) aNil)), bName 2, (tAnd (tOf (eBin gEq (eIdx (eVar 2) (eC (.int 0))) (eC (.str "rule")))) (tOf (eBin gEq (eCal gLen (aCons (eIdx (eVar 2) (eC (.int 1))) aNil)) (eC (.int 1))))), [2]⟩) (fun r => !r.k && decide ((r.h.length : Int) = 1)) eR 1000 h2
    (fun r hx => ⟨[(2, eR r)], rfl, q_tand (q_tof (q_bin (q_bin (q_var rfl) q_c rfl) q_c (kd_rule _))) fun _ => q_tof (q_bin (q_cal (q_cons (q_bin (q_var rfl) q_c (g := gIdx) (v := eT r.h) rfl) q_nil) (by simp [gLen, look, eT])) q_c gEq_int), fun _ => ⟨q_var rfl, okL_lt (by omega) _⟩⟩)
    (by have := List.length_filter_le (fun r => !r.k && decide ((r.h.length : Int) = 1)) (srtR rs); omega)
  have e2 := lc_Rp (me := eIdx (eIdx (eVar 2) (eC (.int 1))) (eC (.int 0))) (t := tOf (eBin gEq (eVar 2) (eFn F_fact (aCons (eIdx (eIdx (eVar 2) (eC (.int 1))) (eC (.int 0))) aNil)))) (i := 1) (k := 2) (fs := [.val (.lst (rs.map eR)), .val (.lst (((srtR rs).filter fun r => !r.k && decide ((r.h.length : Int) = 1)).map eR)), .no]) (μ := μ)
    (fun r => decide (r = factR (hd r))) (fun r => .str (hd r)) rfl (by have := List.length_filter_le (fun r => !r.k && decide ((r.h.length : Int) = 1)) (srtR rs); omega)
    (fun r hx => by
      have h3 := List.mem_filter.mp hx
      have h4 : decide ((r.h.length : Int) = 1) = true := by have := h3.2; simp at this ⊢; exact this.2
      have hr1 := hr' r h3.1
      have ht : Tx (hd r) := hr1.h _ (by rw [hd_of h4]; simp [hd])
      exact q_tof (q_bin (q_var rfl) (q_fn (q_cons (q_hd rfl h4) q_nil) f_fact) (gEq_R hr1.toRlT (rlT_fact ht))))
    (fun r hx _ => by
      have h3 := List.mem_filter.mp hx
      have h4 : decide ((r.h.length : Int) = 1) = true := by have := h3.2; simp at this ⊢; exact this.2
      exact q_hd rfl h4)
  refine q_fnF rfl (q_then (q_asg (q_frz e1) rfl) (q_ret' (?_)))
  have := q_frz e2
  unfold factsL
  rw [List.map_map]
  exact this
end K8
end MKM8d
section MKM8e
/-! k08, the mathematics, part e: given. -/
namespace K8
open PySem PySem.Spec PyProof.Rows L2 Ev
def eL (xs : List PySem.Str) : Va := .lst (xs.map .str)
theorem q_seqL {fs : Fs} {μ : Mu} {i : Nat} {xs : List PySem.Str} (h : fs[i]? = some (.val (eL xs))) : aSeq (eVar i) fs μ = some (xs.map .str, μ) := by
  unfold aSeq; rw [q_var h]; rfl
theorem lc_Lp {me : ME} {t : MT} {i k : Nat} {fs : Fs} {μ : Mu} {xs : List PySem.Str} (p : PySem.Str → Bool) (f : PySem.Str → Va) (h1 : fs[i]? = some (.val (eL xs))) (hl : xs.length < 1000) (ht : ∀ x ∈ xs, t (sets (wipeF fs [k]) [(k, .str x)]) μ = some (p x, μ)) (h : ∀ x ∈ xs, p x = true → me (sets (wipeF fs [k]) [(k, .str x)]) μ = some (f x, μ)) :
    compF okL me ⟨aSeq (eVar i), bName k, t, [k]⟩ [] fs μ = some ((xs.filter p).map f, μ) := by
  have h2 : aSeq (eVar i) fs μ = some (xs.map .str, μ) := q_seqL h1
  exact compF_enc (enc := Va.str) p f 1000 h2 (fun x hx => ⟨[(k, .str x)], rfl, ht x hx, fun e => ⟨h x hx e, okL_lt (by omega) _⟩⟩) (by have := List.length_filter_le p xs; omega)
theorem lc_L {me : ME} {i k : Nat} {fs : Fs} {μ : Mu} {xs : List PySem.Str} (f : PySem.Str → Va) (h1 : fs[i]? = some (.val (eL xs))) (hl : xs.length < 1000) (h : ∀ x ∈ xs, me (sets (wipeF fs [k]) [(k, .str x)]) μ = some (f x, μ)) :
    compF okL me ⟨aSeq (eVar i), bName k, tAll, [k]⟩ [] fs μ = some (xs.map f, μ) := by
  have h2 : aSeq (eVar i) fs μ = some (xs.map .str, μ) := q_seqL h1
  exact compF_all (enc := Va.str) f 1000 h2 rfl (fun x hx => ⟨[(k, .str x)], rfl, h x hx, okL_lt (by omega) _⟩) (by omega)
theorem q_ninL {fs : Fs} {μ : Mu} {i j : Nat} {x : PySem.Str} {b : List PySem.Str} (hx : Tx x) (hb : TxL b) (h1 : fs[i]? = some (.val (.str x))) (h2 : fs[j]? = some (.val (eL b))) : eBin (gIn true) (eVar i) (eVar j) fs μ = some (.bl (!decide (x ∈ b)), μ) :=
  q_bin (q_var h1) (q_var h2) (by simp [eL, gIn_lst (neg := true) (good_str hx) (strs_pd hb)])
theorem f_less_ofL {a b : List PySem.Str} {μ : Mu} (ha : TxL a) (hb : TxL b) (hl : a.length < 1000) : F_less_of [eT a, eL b] μ = some (eT (lsO a b), μ) :=
  q_fnF rfl (q_ret' (q_cal (q_cons (q_frz (lc_Tp (fun x => !decide (x ∈ b)) Va.str rfl hl (fun x hx => q_tof (q_ninL (ha x hx) hb rfl rfl)) fun x hx _ => q_var rfl)) q_nil) rfl))
theorem q_lsL {fs : Fs} {μ : Mu} {i j : Nat} {a b : List PySem.Str} (ha : TxL a) (hb : TxL b) (hl : a.length < 1000) (h1 : fs[i]? = some (.val (eT a))) (h2 : fs[j]? = some (.val (eL b))) :
    eFn F_less_of (aCons (eVar i) (aCons (eVar j) aNil)) fs μ = some (eT (lsO a b), μ) := q_fn (q_cons (q_var h1) (q_cons (q_var h2) q_nil)) (f_less_ofL ha hb hl)
theorem q_inE {b : ME} {fs : Fs} {μ : Mu} {i : Nat} {x : PySem.Str} {bs : List PySem.Str} (hx : Tx x) (hb : TxL bs) (h1 : fs[i]? = some (.val (.str x))) (h2 : b fs μ = some (eT bs, μ)) : eBin (gIn false) (eVar i) b fs μ = some (.bl (decide (x ∈ bs)), μ) :=
  q_bin (q_var h1) h2 (by simp [eT, gIn_tup (neg := false) (good_str hx) (strs_pd hb)])
theorem q_lenL {fs : Fs} {μ : Mu} {i : Nat} {xs : List PySem.Str} (h : fs[i]? = some (.val (eL xs))) : eCal gLen (aCons (eVar i) aNil) fs μ = some (.int xs.length, μ) := q_cal (q_cons (q_var h) q_nil) (by simp [gLen, look, eL])
theorem q_add {a b : ME} {fs : Fs} {μ : Mu} {x y : List PySem.Str} (h1 : a fs μ = some (eT x, μ)) (h2 : b fs μ = some (eT y, μ)) (hl : x.length + y.length ≤ 1000000) : eBin gAdd a b fs μ = some (eT (x ++ y), μ) := q_bin h1 h2 (gAdd_T hl)
theorem idx0 {μ : Mu} (x : PySem.Str) (xs : List PySem.Str) : gIdx μ (eL (x :: xs)) (.int 0) = some (.str x) := by
  simp [gIdx, look, eL, atI, ixN]
theorem len_facts {rs : List Rl} : (factsL rs).length ≤ rs.length := by
  unfold factsL
  rw [List.length_map]
  exact Nat.le_trans (List.length_filter_le _ _) (Nat.le_trans (List.length_filter_le _ _) len_srtR)
theorem tx_facts {rs : List Rl} (hr : ∀ r ∈ rs, RlT r) : TxL (factsL rs) := fun x hx => by
  obtain ⟨r, h, rfl⟩ := List.mem_map.mp hx
  have h3 := List.mem_filter.mp (List.mem_filter.mp h).1
  have h4 : decide ((r.h.length : Int) = 1) = true := by have := h3.2; simp at this ⊢; exact this.2
  exact (hr r (mem_srtR.mp h3.1)).h _ (by rw [hd_of h4]; simp [hd])
/-! ### given -/
def usedG (rs : List Rl) (r : Rl) : List PySem.Str := (factsL rs).filter fun x => decide (x ∈ r.p ++ r.n ++ r.t) || decide (x ∈ r.h)
def freshG (r : Rl) (us : List PySem.Str) : Rl := ⟨r.k, r.h, lsO r.p us, r.n, lsO r.t us⟩
def givenO (rs : List Rl) (r : Rl) : Option Stp :=
  if decide (((usedG rs r).length : Int) = 0) || decide (r = factR ((usedG rs r).headD PySem.Str.empty)) then none
  else if ((usedG rs r).any (fun x => decide (x ∈ r.h)) && (!r.k || decide ((r.h.length : Int) = 1))) || (usedG rs r).any (fun x => decide (x ∈ r.n)) then some ⟨"given", r, [], (usedG rs r).map factR⟩
  else if !decide (freshG r (usedG rs r) = r) then some ⟨"given", r, [freshG r (usedG rs r)], (usedG rs r).map factR⟩ else none
theorem tx_filter {xs : List PySem.Str} {p : PySem.Str → Bool} (h : TxL xs) : TxL (xs.filter p) := fun x hx => h x (List.mem_filter.mp hx).1
abbrev frG (rs : List Rl) (r : Rl) (s7 s8 s10 s11 s12 : Sl) : Fs := [.val (eR r), .val (.lst (rs.map eR)), .val (.str (kd r.k)), .val (eT r.h), .val (eT r.p), .val (eT r.n), .val (eT r.t), s7, s8, .no, s10, s11, s12]
theorem f_given_step {rs : List Rl} {r : Rl} {μ : Mu} (hs : ∀ r ∈ rs, RlS r) (hl : rs.length < 60) (hr : RlS r) : F_given_step [eR r, .lst (rs.map eR)] μ = some (eO (givenO rs r), μ) := by
  have lf := len_facts (rs := rs)
  have tf := tx_facts (rs := rs) fun r h => (hs r h).toRlT
  have hp := hr.lp
  have hn := hr.ln
  have ht := hr.lt
  have hu : TxL (usedG rs r) := tx_filter tf
  have lu : (usedG rs r).length < 60 := by
    unfold usedG
    exact Nat.lt_of_le_of_lt (Nat.le_trans (List.length_filter_le _ _) lf) hl
  have h2 : ∀ fs : Fs, fs[2]? = some (.val (.str (kd r.k))) → fs[3]? = some (.val (eT r.h)) → eOr (eBin gEq (eVar 2) (eC (.str "rule"))) (eBin gEq (eCal gLen (aCons (eVar 3) aNil)) (eC (.int 1))) fs μ = some (.bl (!r.k || decide ((r.h.length : Int) = 1)), μ) :=
    fun fs a b => q_or (q_bin (q_var a) q_c (kd_rule _)) fun _ => q_bin (q_len b) q_c gEq_int
  have h3 : ∀ fs : Fs, fs[8]? = some (.val (eL (usedG rs r))) → (∀ x, (sets (wipeF fs [9]) [(9, .str x)])[9]? = some (.val (.str x))) → (∀ x, (sets (wipeF fs [9]) [(9, .str x)])[3]? = some (.val (eT r.h))) → eCal gAny (aCons (eFrz (compF okL (eBin (gIn false) (eVar 9) (eVar 3)) ⟨aSeq (eVar 8), (bName 9), tAll, [9]⟩ [])) aNil) fs μ = some (.bl ((usedG rs r).any fun x => decide (x ∈ r.h)), μ) :=
    fun fs a b c => q_any (q_cons (q_frz (lc_L (xs := usedG rs r) (fun x => .bl (decide (x ∈ r.h))) a (by omega) fun x hx => q_in (hu x hx) hr.h (b x) (c x))) q_nil)
  unfold givenO
  refine q_fnF rfl (q_then (fs' := frG rs r .no .no .no .no .no) (q_asgG (q_var rfl) rfl rfl) (q_then (fs' := frG rs r (.val (eL (factsL rs))) .no .no .no .no) (q_asg (q_fn (q_cons (q_var rfl) q_nil) (f_facts_in hs hl)) rfl) (q_then (fs' := frG rs r (.val (eL (factsL rs))) (.val (eL (usedG rs r))) .no .no .no) (q_asg (v := eL (usedG rs r)) (q_frz (lc_Lp (xs := factsL rs) (fun x => decide (x ∈ r.p ++ r.n ++ r.t) || decide (x ∈ r.h)) Va.str rfl (by omega)
    (fun x hx => q_tor (q_tof (q_inE (tf x hx) (tx_app (tx_app hr.p hr.n) hr.t) rfl (q_add (q_add (q_var rfl) (q_var rfl) (by omega)) (q_var rfl) (by simp; omega)))) fun _ => q_tof (q_in (tf x hx) hr.h rfl rfl)) fun x hx _ => q_var rfl)) rfl)
    (q_ifret (q_tor (q_tof (q_bin (q_lenL rfl) q_c gEq_int)) fun e => (?_ : _ = some (decide (r = factR ((usedG rs r).headD PySem.Str.empty)), μ))) (fun e => ?_) (fun e => ?_)))))
  · have e' := of_decide_eq_false e
    cases hx : usedG rs r with
    | nil => exact absurd (by rw [hx]; rfl) e'
    | cons x xs =>
      rw [hx] at hu
      exact q_tof (q_bin (q_var rfl) (q_fn (q_cons (q_bin (g := gIdx) (v := .str x) (q_var rfl) q_c (idx0 x xs)) q_nil) f_fact) (gEq_R hr.toRlT (rlT_fact (hu x (by simp)))))
  · rw [if_pos e]
    exact q_ret' q_c
  · rw [if_neg (by rw [e]; decide)]
    refine q_then (fs' := frG rs r (.val (eL (factsL rs))) (.val (eL (usedG rs r))) (.val (.tup (((usedG rs r).map factR).map eR))) .no .no) (q_asg (v := .tup (((usedG rs r).map factR).map eR)) (q_cal (q_cons (q_frz (lc_L (xs := usedG rs r) (fun x => eR (factR x)) rfl (by omega) fun x hx => q_fn (q_cons (q_var rfl) q_nil) f_fact)) q_nil) (by simp [gTuple, gList, look])) rfl) ?_
    refine q_then (fs' := frG rs r (.val (eL (factsL rs))) (.val (eL (usedG rs r))) (.val (.tup (((usedG rs r).map factR).map eR))) (.val (.bl ((usedG rs r).any (fun x => decide (x ∈ r.h)) && (!r.k || decide ((r.h.length : Int) = 1))))) .no) (q_asg (v := .bl ((usedG rs r).any (fun x => decide (x ∈ r.h)) && (!r.k || decide ((r.h.length : Int) = 1)))) (q_and (h3 _ rfl (fun _ => rfl) (fun _ => rfl)) fun _ => h2 _ rfl rfl) rfl) ?_
    refine q_ifret (q_tor (q_tof (q_var rfl)) fun _ => q_tof (q_any (q_cons (q_frz (lc_L (xs := usedG rs r) (fun x => .bl (decide (x ∈ r.n))) rfl (by omega) fun x hx => q_in (hu x hx) hr.n rfl rfl)) q_nil))) (fun e => ?_) (fun e => ?_)
    · rw [if_pos e]
      exact q_ret' (q_tup (q_cons q_c (q_cons (q_var rfl) (q_cons (q_tup q_nil zerov) (q_cons (q_var rfl) q_nil)))) four)
    · rw [if_neg (by rw [e]; decide)]
      have hf : RlT (freshG r (usedG rs r)) := ⟨hr.h, tx_filter hr.p, hr.n, tx_filter hr.t⟩
      refine q_then (fs' := frG rs r (.val (eL (factsL rs))) (.val (eL (usedG rs r))) (.val (.tup (((usedG rs r).map factR).map eR))) (.val (.bl ((usedG rs r).any (fun x => decide (x ∈ r.h)) && (!r.k || decide ((r.h.length : Int) = 1))))) (.val (eR (freshG r (usedG rs r))))) (q_asg (v := eR (freshG r (usedG rs r))) (q_tup (q_cons (q_var rfl) (q_cons (q_var rfl) (q_cons (q_lsL hr.p hu hr.lp rfl rfl) (q_cons (q_var rfl) (q_cons (q_lsL hr.t hu hr.lt rfl rfl) q_nil))))) five) rfl) (q_ret' ?_)
      refine q_if (q_tof (q_bin (q_var rfl) (q_var rfl) (gNe_R hf hr.toRlT))) (fun e => ?_) (fun e => ?_)
      · rw [if_pos e]
        exact q_tup (q_cons q_c (q_cons (q_var rfl) (q_cons (q_tup (q_cons (q_var rfl) q_nil) onev) (q_cons (q_var rfl) q_nil)))) four
      · rw [if_neg (by rw [e]; decide)]
        exact q_c
end K8
end MKM8e
section MEvO
/-! Forward words for loops. -/
namespace Ev
open PySem PySem.Spec PyProof.Rows L2
section
variable {α : Type} {enc : α → Va} {g : MB} {body : MS}
/-- a loop whose turns all go through: I of the part done -/
theorem forL_inv (I : List α → Fs → Mu → Prop) : ∀ {xs pre : List α} {fs : Fs} {μ : Mu}, (∀ pre' x, x ∈ xs → pre'.length < pre.length + xs.length → ∀ fs μ, I pre' fs μ → ∃ as fs' μ', g (enc x) = some as ∧ body (sets fs as) μ = some (.nx, fs', μ') ∧ I (pre' ++ [x]) fs' μ') → I pre fs μ →
    ∃ fs' μ', forL g body (xs.map enc) fs μ = some (.nx, fs', μ') ∧ I (pre ++ xs) fs' μ'
  | [], pre, fs, μ, _, h0 => ⟨fs, μ, rfl, by simpa using h0⟩
  | x :: xs, pre, fs, μ, h, h0 => by
    obtain ⟨as, fs1, μ1, e1, e2, h1⟩ := h pre x List.mem_cons_self (by simp) fs μ h0
    obtain ⟨fs2, μ2, e3, h2⟩ := forL_inv I (xs := xs) (fun pre' y hy hl => h pre' y (List.mem_cons_of_mem _ hy) (by simp at hl ⊢; omega)) h1
    refine ⟨fs2, μ2, ?_, by simpa using h2⟩
    rw [List.map_cons]
    unfold forL
    rw [e1]
    simp only
    rw [e2]
    exact e3
/-- a loop that returns at the first x with an answer -/
theorem forL_find (I : Fs → Mu → Prop) (O : α → Option Va) : ∀ {xs : List α} {fs : Fs} {μ : Mu}, (∀ x, x ∈ xs → ∀ fs μ, I fs μ → ∃ as, g (enc x) = some as ∧ ((∃ fs' μ', O x = none ∧ body (sets fs as) μ = some (.nx, fs', μ') ∧ I fs' μ') ∨ (∃ v fs' μ', O x = some v ∧ body (sets fs as) μ = some (.rt v, fs', μ') ∧ I fs' μ'))) → I fs μ →
    ∃ fs' μ', I fs' μ' ∧ forL g body (xs.map enc) fs μ = some (match xs.findSome? O with | some v => .rt v | none => .nx, fs', μ')
  | [], fs, μ, _, h0 => ⟨fs, μ, h0, rfl⟩
  | x :: xs, fs, μ, h, h0 => by
    obtain ⟨as, e1, ⟨fs1, μ1, e2, e3, h1⟩ | ⟨v, fs1, μ1, e2, e3, h1⟩⟩ := h x List.mem_cons_self fs μ h0
    · obtain ⟨fs2, μ2, h2, e4⟩ := forL_find I O (xs := xs) (fun y hy => h y (List.mem_cons_of_mem _ hy)) h1
      refine ⟨fs2, μ2, h2, ?_⟩
      rw [List.map_cons, List.findSome?_cons, e2]
      unfold forL
      rw [e1]
      simp only
      rw [e3]
      exact e4
    · refine ⟨fs1, μ1, h1, ?_⟩
      rw [List.map_cons, List.findSome?_cons, e2]
      unfold forL
      rw [e1]
      simp only
      rw [e3]
theorem q_for {m : MA} {fs : Fs} {μ μ1 : Mu} {vs : List Va} {r : Option (Fl × Fs × Mu)} (h : m fs μ = some (vs, μ1)) (h2 : forL g body vs fs μ1 = r) : sFor m g body fs μ = r := by unfold sFor; rw [h]; exact h2
theorem q_seqrt {s t : MS} {fs fs' : Fs} {μ μ1 : Mu} {v : Va} (h : s fs μ = some (.rt v, fs', μ1)) : ∃ fsE, sSeq s t fs μ = some (.rt v, fsE, μ1) := ⟨fs', by unfold sSeq; rw [h]⟩
end
end Ev
end MEvO
section MKM8f
/-! k08, the mathematics, part f: denials, says_more, less. -/
namespace K8
open PySem PySem.Spec PyProof.Rows L2 Ev
theorem q_lenE {a : ME} {fs : Fs} {μ : Mu} {xs : List PySem.Str} (h : a fs μ = some (eT xs, μ)) : eCal gLen (aCons a aNil) fs μ = some (.int xs.length, μ) := q_cal (q_cons h q_nil) (by simp [gLen, look, eT])
def pt (r : Rl) : List PySem.Str := r.p ++ r.t
def denB (r : Rl) : Bool := decide ((r.h.length : Int) = 0) && (decide ((r.n.length : Int) = 0) && decide (((pt r).length : Int) = 1))
def isDenB (r : Rl) (us : List PySem.Str) : Bool := decide ((r.h.length : Int) = 0) && (decide ((r.n.length : Int) = 0) && (decide (((pt r).length : Int) = 1) && (pt r).any fun x => decide (x ∈ us)))
theorem f_is_denial {r : Rl} {us : List PySem.Str} {μ : Mu} (hr : RlS r) (hu : TxL us) : F_is_denial [eR r, eL us] μ = some (.bl (isDenB r us), μ) := by
  have hp := hr.lp
  have ht := hr.lt
  have h1 : ∀ fs : Fs, fs[4]? = some (.val (eT r.p)) → fs[6]? = some (.val (eT r.t)) → eBin gAdd (eVar 4) (eVar 6) fs μ = some (eT (pt r), μ) := fun fs a b => q_add (q_var a) (q_var b) (by omega)
  have h2 : ∀ fs : Fs, fs[4]? = some (.val (eT r.p)) → fs[6]? = some (.val (eT r.t)) → fs[1]? = some (.val (eL us)) → decide (((pt r).length : Int) = 1) = true → eBin (gIn false) (eIdx (eBin gAdd (eVar 4) (eVar 6)) (eC (.int 0))) (eVar 1) fs μ = some (.bl ((pt r).any fun x => decide (x ∈ us)), μ) := fun fs a b c e => by
    obtain ⟨x, hx⟩ := List.length_eq_one_iff.mp (by have := of_decide_eq_true e; omega : (pt r).length = 1)
    have h3 := h1 fs a b
    have hT : TxL (pt r) := tx_app hr.p hr.t
    rw [hx] at h3 hT ⊢
    have h4 : eIdx (eBin gAdd (eVar 4) (eVar 6)) (eC (.int 0)) fs μ = some (.str x, μ) := q_bin (g := gIdx) h3 q_c rfl
    exact q_bin h4 (q_var c) (by simp [eL, gIn_lst (neg := false) (good_str (hT x (by simp))) (strs_pd hu)])
  exact q_fnF rfl (q_then (fs' := [.val (eR r), .val (eL us), .val (.str (kd r.k)), .val (eT r.h), .val (eT r.p), .val (eT r.n), .val (eT r.t)]) (q_asgG (q_var rfl) rfl rfl) (q_ret' (q_and (q_bin (q_len rfl) q_c gEq_int) fun _ => q_and (q_bin (q_len rfl) q_c gEq_int) fun _ => q_and (q_bin (q_lenE (h1 _ rfl rfl)) q_c gEq_int) fun e => h2 _ rfl rfl rfl e)))
/-! ### says_more -/
def sayB (a b : Rl) : Bool := if a.k || (b.k && decide (1 < (b.h.length : Int))) then false else win a.h (b.h ++ b.n) && (win a.p b.p && (win a.n b.n && win a.t (b.p ++ b.t)))
theorem q_winE {a b : ME} {x y : List PySem.Str} {fs : Fs} {μ : Mu} (hx : TxL x) (hy : TxL y) (hl : x.length < 1000) (h1 : a fs μ = some (eT x, μ)) (h2 : b fs μ = some (eT y, μ)) :
    eFn F_within (aCons a (aCons b aNil)) fs μ = some (.bl (win x y), μ) := q_fn (q_cons h1 (q_cons h2 q_nil)) (f_within hx hy hl)
theorem q_part {fs : Fs} {μ : Mu} {i : Nat} {j : Int} {r : Rl} {xs : List PySem.Str} (h : fs[i]? = some (.val (eR r))) (h2 : gIdx μ (eR r) (.int j) = some (eT xs)) : eIdx (eVar i) (eC (.int j)) fs μ = some (eT xs, μ) := q_bin (g := gIdx) (q_var h) q_c h2
theorem f_says_more {a b : Rl} {μ : Mu} (ha : RlS a) (hb : RlS b) : F_says_more [eR a, eR b] μ = some (.bl (sayB a b), μ) := by
  have l1 := hb.lh
  have l2 := hb.ln
  have l3 := hb.lp
  have l4 := hb.lt
  unfold sayB
  refine q_fnF rfl (q_ifret (q_tor (q_tof (q_bin (q_bin (g := gIdx) (v := .str (kd a.k)) (q_var rfl) q_c rfl) q_c (gNe_kr _))) fun _ => q_tand (q_tof (q_bin (q_bin (g := gIdx) (v := .str (kd b.k)) (q_var rfl) q_c rfl) q_c (kd_choice _))) fun _ => q_tof (q_bin (q_lenE (q_part (r := b) (xs := b.h) rfl rfl)) q_c rfl)) (fun e => ?_) (fun e => ?_))
  · rw [if_pos e]
    exact q_ret' q_c
  · rw [if_neg (by rw [e]; decide)]
    refine q_then (fs' := [.val (eR a), .val (eR b), .val (.bl (win a.h (b.h ++ b.n)))]) (q_asg (q_winE ha.h (tx_app hb.h hb.n) ha.lh (q_part (r := a) rfl rfl) (q_add (q_part (r := b) rfl rfl) (q_part (r := b) rfl rfl) (by omega))) rfl) ?_
    exact q_ret' (q_and (q_var rfl) fun _ => q_and (q_winE ha.p hb.p ha.lp (q_part (r := a) rfl rfl) (q_part (r := b) rfl rfl)) fun _ => q_and (q_winE ha.n hb.n ha.ln (q_part (r := a) rfl rfl) (q_part (r := b) rfl rfl)) fun _ => q_winE ha.t (tx_app hb.p hb.t) ha.lt (q_part (r := a) rfl rfl) (q_add (q_part (r := b) rfl rfl) (q_part (r := b) rfl rfl) (by omega)))
end K8
end MKM8f
section MKM8g
/-! k08, the mathematics, part g: less, denials. -/
namespace K8
open PySem PySem.Spec PyProof.Rows L2 Ev
def less1 (r f : Rl) : Option Stp := if !decide (f = r) && sayB f r then some ⟨"less", r, [], [f]⟩ else none
def lessO (rs : List Rl) (r : Rl) : Option Stp := (srtR rs).findSome? (less1 r)
theorem find_map {α β γ : Type} (f : α → Option β) (h : β → γ) : ∀ xs : List α, (xs.findSome? fun x => (f x).map h) = (xs.findSome? f).map h
  | [] => rfl
  | x :: xs => by
    rw [List.findSome?_cons, List.findSome?_cons]
    cases f x with
    | none => exact find_map f h xs
    | some y => rfl
theorem f_less_step {rs : List Rl} {r : Rl} {μ : Mu} (hs : ∀ r ∈ rs, RlS r) (hl : rs.length < 60) (hr : RlS r) : F_less_step [eR r, .lst (rs.map eR)] μ = some (eO (lessO rs r), μ) := by
  have h1 : aSeq (eFn F_in_order (aCons (eVar 1) aNil)) [.val (eR r), .val (.lst (rs.map eR)), .no] μ = some ((srtR rs).map eR, μ) := q_ord hl rfl
  obtain ⟨fs', μ', ⟨hμ, s2, hfs⟩, e⟩ := forL_find (enc := eR) (g := bName 2) (body := sIf (tAnd (tOf (eBin gNe (eVar 2) (eVar 0))) (tOf (eFn F_says_more (aCons (eVar 2) (aCons (eVar 0) aNil))))) (sRet (eTup (aCons (eC (.str "less")) (aCons (eVar 0) (aCons (eTup aNil) (aCons (eTup (aCons (eVar 2) aNil)) aNil)))))) sNil)
    (fun fs μ1 => μ1 = μ ∧ ∃ s2, fs = [.val (eR r), .val (.lst (rs.map eR)), s2]) (fun f => (less1 r f).map eS) (xs := srtR rs) (fs := [.val (eR r), .val (.lst (rs.map eR)), .no]) (μ := μ)
    (fun f hf fs μ1 ⟨h0, s2, h2⟩ => by
      subst h0 h2
      have hf1 := hs f (mem_srtR.mp hf)
      have c : tAnd (tOf (eBin gNe (eVar 2) (eVar 0))) (tOf (eFn F_says_more (aCons (eVar 2) (aCons (eVar 0) aNil)))) [.val (eR r), .val (.lst (rs.map eR)), .val (eR f)] μ1 = some (!decide (f = r) && sayB f r, μ1) :=
        q_tand (q_tof (q_bin (q_var rfl) (q_var rfl) (gNe_R hf1.toRlT hr.toRlT))) fun _ => q_tof (q_fn (q_cons (q_var rfl) (q_cons (q_var rfl) q_nil)) (f_says_more hf1 hr))
      refine ⟨[(2, eR f)], rfl, ?_⟩
      unfold less1 sIf
      show (∃ _, _) ∨ (∃ _, _)
      have c' : tAnd (tOf (eBin gNe (eVar 2) (eVar 0))) (tOf (eFn F_says_more (aCons (eVar 2) (aCons (eVar 0) aNil)))) (sets [.val (eR r), .val (.lst (rs.map eR)), s2] [(2, eR f)]) μ1 = some (!decide (f = r) && sayB f r, μ1) := c
      rw [c']
      cases h : (!decide (f = r) && sayB f r) with
      | true => exact .inr ⟨_, _, _, rfl, q_ret (q_tup (q_cons q_c (q_cons (q_var rfl) (q_cons (q_tup q_nil zerov) (q_cons (q_tup (q_cons (q_var rfl) q_nil) onev) q_nil)))) four), rfl, _, rfl⟩
      | false => exact .inl ⟨_, _, rfl, rfl, rfl, _, rfl⟩) ⟨rfl, _, rfl⟩
  rw [find_map] at e
  subst hμ hfs
  refine q_fnF rfl ?_
  unfold lessO
  cases h : (srtR rs).findSome? (less1 r) with
  | none =>
    rw [h] at e
    exact q_then (q_for h1 e) (q_ret' q_c)
  | some s =>
    rw [h] at e
    exact q_seqrt (q_for h1 e)
end K8
end MKM8g
section MKM8h
/-! k08, the mathematics, part h: denials. -/
namespace K8
open PySem PySem.Spec PyProof.Rows L2 Ev
def hp (r : Rl) : PySem.Str := (pt r).headD PySem.Str.empty
def densL (rs : List Rl) : List PySem.Str := srtS (((srtR rs).filter denB).map hp)
theorem q_lstnil {fs : Fs} {μ : Mu} : aLst aNil fs μ = some ([], μ) := rfl
theorem pt_one {r : Rl} (e : decide (((pt r).length : Int) = 1) = true) : pt r = [hp r] := by
  obtain ⟨x, hx⟩ := List.length_eq_one_iff.mp (by have := of_decide_eq_true e; omega : (pt r).length = 1)
  simp [hp, hx]
theorem tx_dens {rs : List Rl} (hr : ∀ r ∈ rs, RlT r) : TxL (densL rs) := fun x hx => by
  obtain ⟨r, h, rfl⟩ := List.mem_map.mp (mem_srtS.mp hx)
  have h3 := List.mem_filter.mp h
  have h4 : decide (((pt r).length : Int) = 1) = true := by have := h3.2; simp only [denB, Bool.and_eq_true] at this; exact this.2.2
  have h5 := hr r (mem_srtR.mp h3.1)
  exact tx_app h5.p h5.t _ (by show hp r ∈ pt r; rw [pt_one h4]; simp [hp])
abbrev frD (rs : List Rl) (xs : List PySem.Str) (a b c d e : Sl) : Fs := [.val (.lst (rs.map eR)), .own (xs.map .str), a, b, c, d, e, .no]
theorem f_denials_in {rs : List Rl} {μ : Mu} (hs : ∀ r ∈ rs, RlS r) (hl : rs.length < 60) : F_denials_in [.lst (rs.map eR)] μ = some (eL (densL rs), μ) := by
  have ls := len_srtR (rs := rs)
  have h1 : aSeq (eFn F_in_order (aCons (eVar 0) aNil)) (frD rs [] .no .no .no .no .no) μ = some ((srtR rs).map eR, μ) := q_ord hl rfl
  obtain ⟨fs', μ', e, hμ, s2, s3, s4, s5, s6, hfs, hn⟩ := forL_inv (enc := eR) (g := bTup 5 (bsCons (bName 2) (bsCons (bName 3) (bsCons (bName 4) (bsCons (bName 5) (bsCons (bName 6) bsNil))))))
    (body := sIf (tAnd (tOf (eBin gEq (eCal gLen (aCons (eVar 3) aNil)) (eC (.int 0)))) (tAnd (tOf (eBin gEq (eCal gLen (aCons (eVar 5) aNil)) (eC (.int 0)))) (tOf (eBin gEq (eCal gLen (aCons (eBin gAdd (eVar 4) (eVar 6)) aNil)) (eC (.int 1)))))) (sApp 1 (eIdx (eBin gAdd (eVar 4) (eVar 6)) (eC (.int 0)))) sNil)
    (fun pre fs μ1 => μ1 = μ ∧ ∃ a b c d e, fs = frD rs ((pre.filter denB).map hp) a b c d e ∧ True) (xs := srtR rs) (pre := []) (fs := frD rs [] .no .no .no .no .no) (μ := μ)
    (fun pre r hr hpl fs μ1 ⟨h0, a, b, c, d, e, h2, _⟩ => by
      subst h0 h2
      have h3 := hs r (mem_srtR.mp hr)
      have lp := h3.lp
      have lt := h3.lt
      have q1 : eBin gAdd (eVar 4) (eVar 6) (frD rs ((pre.filter denB).map hp) (.val (.str (kd r.k))) (.val (eT r.h)) (.val (eT r.p)) (.val (eT r.n)) (.val (eT r.t))) μ1 = some (eT (pt r), μ1) := q_add (q_var rfl) (q_var rfl) (by omega)
      have c1 : tAnd (tOf (eBin gEq (eCal gLen (aCons (eVar 3) aNil)) (eC (.int 0)))) (tAnd (tOf (eBin gEq (eCal gLen (aCons (eVar 5) aNil)) (eC (.int 0)))) (tOf (eBin gEq (eCal gLen (aCons (eBin gAdd (eVar 4) (eVar 6)) aNil)) (eC (.int 1))))) (frD rs ((pre.filter denB).map hp) (.val (.str (kd r.k))) (.val (eT r.h)) (.val (eT r.p)) (.val (eT r.n)) (.val (eT r.t))) μ1 = some (denB r, μ1) :=
        q_tand (q_tof (q_bin (q_len (xs := r.h) rfl) q_c gEq_int)) fun _ => q_tand (q_tof (q_bin (q_len (xs := r.n) rfl) q_c gEq_int)) fun _ => q_tof (q_bin (q_lenE q1) q_c gEq_int)
      cases hd : denB r with
      | false =>
        refine ⟨_, frD rs ((pre.filter denB).map hp) (.val (.str (kd r.k))) (.val (eT r.h)) (.val (eT r.p)) (.val (eT r.n)) (.val (eT r.t)), μ1, rfl, ?_, rfl, .val (.str (kd r.k)), .val (eT r.h), .val (eT r.p), .val (eT r.n), .val (eT r.t), ?_, trivial⟩
        · show sIf _ _ _ (frD rs ((pre.filter denB).map hp) (.val (.str (kd r.k))) (.val (eT r.h)) (.val (eT r.p)) (.val (eT r.n)) (.val (eT r.t))) μ1 = _
          unfold sIf
          rw [c1, hd]
          rfl
        · rw [List.filter_append, List.filter_cons, hd]
          simp
      | true =>
        have p1 := hd
        simp only [denB, Bool.and_eq_true] at p1
        have p2 := pt_one p1.2.2
        rw [p2] at q1
        have q2 : eIdx (eBin gAdd (eVar 4) (eVar 6)) (eC (.int 0)) (frD rs ((pre.filter denB).map hp) (.val (.str (kd r.k))) (.val (eT r.h)) (.val (eT r.p)) (.val (eT r.n)) (.val (eT r.t))) μ1 = some (.str (hp r), μ1) := q_bin (g := gIdx) q1 q_c rfl
        refine ⟨_, frD rs (((pre.filter denB).map hp) ++ [hp r]) (.val (.str (kd r.k))) (.val (eT r.h)) (.val (eT r.p)) (.val (eT r.n)) (.val (eT r.t)), μ1, rfl, ?_, rfl, .val (.str (kd r.k)), .val (eT r.h), .val (eT r.p), .val (eT r.n), .val (eT r.t), ?_, trivial⟩
        · show sIf _ _ _ (frD rs ((pre.filter denB).map hp) (.val (.str (kd r.k))) (.val (eT r.h)) (.val (eT r.p)) (.val (eT r.n)) (.val (eT r.t))) μ1 = _
          unfold sIf
          rw [c1, hd]
          show sApp 1 _ (frD rs ((pre.filter denB).map hp) (.val (.str (kd r.k))) (.val (eT r.h)) (.val (eT r.p)) (.val (eT r.n)) (.val (eT r.t))) μ1 = _
          unfold sApp
          show (match eIdx (eBin gAdd (eVar 4) (eVar 6)) (eC (.int 0)) (frD rs ((pre.filter denB).map hp) (.val (.str (kd r.k))) (.val (eT r.h)) (.val (eT r.p)) (.val (eT r.n)) (.val (eT r.t))) μ1 with | some (v, μ') => _ | none => none) = _
          rw [q2]
          have lq : (((pre.filter denB).map hp).map Va.str).length < sizeLine := by
            rw [List.length_map, List.length_map]
            have := List.length_filter_le denB pre
            exact big _ (by simp at hpl; omega)
          simp only [lq, if_true]
          simp
        · rw [List.filter_append, List.filter_cons, hd]
          simp) ⟨rfl, _, _, _, _, _, rfl, trivial⟩
  subst hμ hfs
  have lq : ((srtR rs).filter denB).length < 60 := by
    have := List.length_filter_le denB (srtR rs)
    omega
  have e7 := compF_all (enc := Va.str) (ok := okC false) (me := eVar 7) (c := ⟨aSeq (eVar 1), bName 7, tAll, [7]⟩) (fs := frz (fun _ => true) (frD rs ((((srtR rs).filter denB)).map hp) s2 s3 s4 s5 s6)) (μ := μ') (xs := (((srtR rs).filter denB)).map hp) Va.str 4000 rfl rfl
    (fun x hx => ⟨[(7, .str x)], rfl, q_var rfl, fun acc h => by simp [okC, okS, isStrK]; omega⟩) (by simp; omega)
  refine q_fnF rfl (q_then (q_own q_lstnil rfl) (q_then (q_for h1 e) (q_ret' (q_frz ?_))))
  unfold aSrtU
  rw [List.nil_append, e7]
  simp only [ok_strs, if_true]
  unfold densL
  rw [srtS_map]
end K8
end MKM8h
section MKM8i
/-! k08, the mathematics, part i: barred. -/
namespace K8
open PySem PySem.Spec PyProof.Rows L2 Ev
def usedB (rs : List Rl) (r : Rl) : List PySem.Str := (densL rs).filter fun x => decide (x ∈ r.h ++ r.p ++ r.n ++ r.t)
def byB (rs : List Rl) (r : Rl) : List Rl := (srtR rs).filter fun f => isDenB f (usedB rs r)
def freshB (r : Rl) (us : List PySem.Str) : Rl := ⟨r.k, lsO r.h us, r.p, lsO r.n us, r.t⟩
def barredO (rs : List Rl) (r : Rl) : Option Stp :=
  if decide (((usedB rs r).length : Int) = 0) || decide (r ∈ byB rs r) then none
  else if (usedB rs r).any (fun x => decide (x ∈ pt r)) then some ⟨"barred", r, [], byB rs r⟩
  else some ⟨"barred", r, if !r.k || decide (0 < ((lsO r.h (usedB rs r)).length : Int)) then [freshB r (usedB rs r)] else [], byB rs r⟩
theorem len_dens {rs : List Rl} : (densL rs).length ≤ rs.length := by
  unfold densL
  refine Nat.le_trans (length_srtE unS_str fun _ _ => rfl) ?_
  rw [List.length_map]
  exact Nat.le_trans (List.length_filter_le _ _) len_srtR
theorem rs_pd {rs : List Rl} (h : ∀ r ∈ rs, RlT r) : ∀ c ∈ rs.map eR, plV c = true ∧ (ddD c).depth ≤ 63 := fun c hc => by
  obtain ⟨r, hr, rfl⟩ := List.mem_map.mp hc
  exact ⟨(eR_pd (h r hr)).1, by have := (eR_pd (h r hr)).2; omega⟩
theorem mem_rs {r : Rl} {rs : List Rl} : eR r ∈ rs.map eR ↔ r ∈ rs := ⟨fun h => by
  obtain ⟨s, hs, e⟩ := List.mem_map.mp h
  rw [← eR_inj.mp e]; exact hs, fun h => List.mem_map.mpr ⟨r, h, rfl⟩⟩
theorem gIn_R {r : Rl} {rs : List Rl} {μ : Mu} (hr : RlT r) (h : ∀ r ∈ rs, RlT r) : gIn false μ (eR r) (.tup (rs.map eR)) = some (.bl (decide (r ∈ rs))) := by
  rw [gIn_tup (good_eR hr) (rs_pd h)]
  simp only [Bool.false_eq_true, if_false]
  congr 2
  exact decide_eq_decide.mpr mem_rs
abbrev frB (rs : List Rl) (r : Rl) (s7 s8 s10 s12 : Sl) : Fs := [.val (eR r), .val (.lst (rs.map eR)), .val (.str (kd r.k)), .val (eT r.h), .val (eT r.p), .val (eT r.n), .val (eT r.t), s7, s8, .no, s10, .no, s12]
theorem f_barred_step {rs : List Rl} {r : Rl} {μ : Mu} (hs : ∀ r ∈ rs, RlS r) (hl : rs.length < 60) (hr : RlS r) : F_barred_step [eR r, .lst (rs.map eR)] μ = some (eO (barredO rs r), μ) := by
  have ld := len_dens (rs := rs)
  have td := tx_dens (rs := rs) fun r h => (hs r h).toRlT
  have lh := hr.lh
  have lp := hr.lp
  have ln := hr.ln
  have lt := hr.lt
  have hu : TxL (usedB rs r) := tx_filter td
  have lu : (usedB rs r).length < 60 := by
    unfold usedB
    exact Nat.lt_of_le_of_lt (Nat.le_trans (List.length_filter_le _ _) ld) hl
  have ls := len_srtR (rs := rs)
  have hb : ∀ f ∈ byB rs r, RlS f := fun f hf => hs f (mem_srtR.mp (List.mem_filter.mp hf).1)
  have h10 : compF okL (eVar 11) ⟨aSeq (eFn F_in_order (aCons (eVar 1) aNil)), (bName 11), (tOf (eFn F_is_denial (aCons (eVar 11) (aCons (eVar 8) aNil)))), [11]⟩ [] (frB rs r (.val (eL (densL rs))) (.val (eL (usedB rs r))) .no .no) μ = some ((byB rs r).map eR, μ) := by
    have h2 : aSeq (eFn F_in_order (aCons (eVar 1) aNil)) (frB rs r (.val (eL (densL rs))) (.val (eL (usedB rs r))) .no .no) μ = some ((srtR rs).map eR, μ) := q_ord hl rfl
    exact compF_enc (enc := eR) (fun f => isDenB f (usedB rs r)) eR 1000 h2 (fun f hf => ⟨[(11, eR f)], rfl, q_tof (q_fn (q_cons (q_var rfl) (q_cons (q_var rfl) q_nil)) (f_is_denial (hs f (mem_srtR.mp hf)) hu)), fun _ => ⟨q_var rfl, okL_lt (by omega) _⟩⟩)
      (by have := List.length_filter_le (fun f => isDenB f (usedB rs r)) (srtR rs); omega)
  unfold barredO
  refine q_fnF rfl (q_then (fs' := frB rs r .no .no .no .no) (q_asgG (q_var rfl) rfl rfl) (q_then (fs' := frB rs r (.val (eL (densL rs))) .no .no .no) (q_asg (q_fn (q_cons (q_var rfl) q_nil) (f_denials_in hs hl)) rfl) (q_then (fs' := frB rs r (.val (eL (densL rs))) (.val (eL (usedB rs r))) .no .no) (q_asg (v := eL (usedB rs r)) (q_frz (lc_Lp (xs := densL rs) (fun x => decide (x ∈ r.h ++ r.p ++ r.n ++ r.t)) Va.str rfl (by omega)
    (fun x hx => q_tof (q_inE (td x hx) (tx_app (tx_app (tx_app hr.h hr.p) hr.n) hr.t) rfl (q_add (q_add (q_add (q_var rfl) (q_var rfl) (by omega)) (q_var rfl) (by simp; omega)) (q_var rfl) (by simp; omega)))) fun x hx _ => q_var rfl)) rfl)
    (q_then (fs' := frB rs r (.val (eL (densL rs))) (.val (eL (usedB rs r))) (.val (.tup ((byB rs r).map eR))) .no) (q_asg (v := .tup ((byB rs r).map eR)) (q_cal (q_cons (q_frz h10) q_nil) (by simp [gTuple, gList, look])) rfl) ?_))))
  refine q_ifret (q_tor (q_tof (q_bin (q_lenL (xs := usedB rs r) rfl) q_c gEq_int)) fun _ => q_tof (q_bin (q_var rfl) (q_var rfl) (gIn_R hr.toRlT fun f hf => (hb f hf).toRlT))) (fun e => ?_) (fun e => ?_)
  · rw [if_pos e]
    exact q_ret' q_c
  · rw [if_neg (by rw [e]; decide)]
    refine q_ifret (q_tof (q_any (q_cons (q_frz (lc_L (xs := usedB rs r) (fun x => .bl (decide (x ∈ pt r))) rfl (by omega) fun x hx => q_inE (hu x hx) (tx_app hr.p hr.t) rfl (q_add (q_var rfl) (q_var rfl) (by omega)))) q_nil))) (fun e => ?_) (fun e => ?_)
    · rw [if_pos e]
      exact q_ret' (q_tup (q_cons q_c (q_cons (q_var rfl) (q_cons (q_tup q_nil zerov) (q_cons (q_var rfl) q_nil)))) four)
    · rw [if_neg (by rw [e]; decide)]
      refine q_then (fs' := frB rs r (.val (eL (densL rs))) (.val (eL (usedB rs r))) (.val (.tup ((byB rs r).map eR))) (.val (eR (freshB r (usedB rs r))))) (q_asg (v := eR (freshB r (usedB rs r))) (q_tup (q_cons (q_var rfl) (q_cons (q_lsL hr.h hu hr.lh rfl rfl) (q_cons (q_var rfl) (q_cons (q_lsL hr.n hu hr.ln rfl rfl) (q_cons (q_var rfl) q_nil))))) five) rfl) (q_ret' ?_)
      refine q_tup (q_cons q_c (q_cons (q_var rfl) (q_cons (v := .tup ((if !r.k || decide (0 < ((lsO r.h (usedB rs r)).length : Int)) then [freshB r (usedB rs r)] else []).map eR)) (q_if (q_tor (q_tof (q_bin (q_var rfl) q_c (kd_rule _))) fun _ => q_tof (q_bin (q_lenE (q_part (r := freshB r (usedB rs r)) rfl rfl)) q_c rfl)) (fun e => ?_) (fun e => ?_)) (q_cons (q_var rfl) q_nil)))) four
      · have e' : (!r.k || decide (0 < ((lsO r.h (usedB rs r)).length : Int))) = true := e
        rw [if_pos e']
        exact q_tup (q_cons (q_var rfl) q_nil) onev
      · have e' : (!r.k || decide (0 < ((lsO r.h (usedB rs r)).length : Int))) = false := e
        rw [if_neg (by rw [e']; decide)]
        exact q_tup q_nil zerov
end K8
end MKM8i
section MKM8j
/-! k08, the mathematics, part j: the next step. -/
namespace K8
open PySem PySem.Spec PyProof.Rows L2 Ev
abbrev frN (rs rows : List Rl) (a b c : Sl) : Fs := [.val (.lst (rs.map eR)), .val (.lst (rows.map eR)), a, b, c]
theorem q_isnot {a : ME} {fs : Fs} {μ : Mu} {o : Option Stp} (h : a fs μ = some (eO o, μ)) : eBin (gIs true) a (eC .non) fs μ = some (.bl o.isSome, μ) := q_bin h q_c (by cases o <;> rfl)
theorem turn_of {me : ME} {rs rows : List Rl} {μ : Mu} {nm : PySem.Str} (O : Rl → Option Stp) (hF : ∀ r ∈ rows, ∀ s4, me (frN rs rows (.val (.fn nm)) (.val (eR r)) s4) μ = some (eO (O r), μ)) (s3 s4 : Sl) :
    ∃ s3' s4', sFor (aSeq (eVar 1)) (bName 3) (sSeq (sAsg 4 me) (sIf (tOf (eBin (gIs true) (eVar 4) (eC .non))) (sRet (eVar 4)) sNil)) (frN rs rows (.val (.fn nm)) s3 s4) μ = some (match (rows.findSome? O).map eS with | some v => .rt v | none => .nx, frN rs rows (.val (.fn nm)) s3' s4', μ) := by
  obtain ⟨fs', μ', ⟨hμ, a, b, hfs⟩, e⟩ := forL_find (enc := eR) (g := bName 3) (body := sSeq (sAsg 4 me) (sIf (tOf (eBin (gIs true) (eVar 4) (eC .non))) (sRet (eVar 4)) sNil))
    (fun fs μ1 => μ1 = μ ∧ ∃ a b, fs = frN rs rows (.val (.fn nm)) a b) (fun r => (O r).map eS) (xs := rows) (fs := frN rs rows (.val (.fn nm)) s3 s4) (μ := μ)
    (fun r hr fs μ1 ⟨h0, a, b, h2⟩ => by
      subst h0 h2
      refine ⟨[(3, eR r)], rfl, ?_⟩
      have c1 : sAsg 4 me (sets (frN rs rows (.val (.fn nm)) a b) [(3, eR r)]) μ1 = some (.nx, frN rs rows (.val (.fn nm)) (.val (eR r)) (.val (eO (O r))), μ1) := q_asg (hF r hr b) rfl
      have c2 : tOf (eBin (gIs true) (eVar 4) (eC .non)) (frN rs rows (.val (.fn nm)) (.val (eR r)) (.val (eO (O r)))) μ1 = some ((O r).isSome, μ1) := q_tof (q_isnot (q_var rfl))
      unfold sSeq sIf
      rw [c1]
      simp only [c2]
      cases h : O r with
      | none => exact .inl ⟨_, _, rfl, rfl, rfl, _, _, rfl⟩
      | some s => exact .inr ⟨_, _, _, rfl, q_ret (q_var rfl), rfl, _, _, rfl⟩) ⟨rfl, _, _, rfl⟩
  rw [find_map] at e
  subst hμ hfs
  exact ⟨a, b, q_for (q_seqR rfl) e⟩
end K8
end MKM8j
section MKM8k
/-! k08, the mathematics, part k: the next step, whole. -/
namespace K8
open PySem PySem.Spec PyProof.Rows L2 Ev
def mk1 : List (PySem.Str × (Rl → Option Stp)) := [("split_step", splitO), ("idle_step", idleO), ("never_step", neverO), ("double_step", doubleO), ("shadow_step", shadowO)]
def mk2 (rows : List Rl) : List (PySem.Str × (Rl → Option Stp)) := [("given_step", givenO rows), ("barred_step", barredO rows), ("less_step", lessO rows)]
def nextO (rs : List Rl) : Option Stp :=
  ((mk1 ++ mk2 (srtR rs)).findSome? fun p => (srtR rs).findSome? p.2)
theorem turns_of {me : ME} {rs rows : List Rl} {μ : Mu} (ms : List (PySem.Str × (Rl → Option Stp))) (hF : ∀ p ∈ ms, ∀ r ∈ rows, ∀ s4, me (frN rs rows (.val (.fn p.1)) (.val (eR r)) s4) μ = some (eO (p.2 r), μ)) (s2 s3 s4 : Sl) :
    ∃ s2' s3' s4', forL (bName 2) (sFor (aSeq (eVar 1)) (bName 3) (sSeq (sAsg 4 me) (sIf (tOf (eBin (gIs true) (eVar 4) (eC .non))) (sRet (eVar 4)) sNil))) (ms.map fun p => Va.fn p.1) (frN rs rows s2 s3 s4) μ = some (match (ms.findSome? fun p => rows.findSome? p.2).map eS with | some v => .rt v | none => .nx, frN rs rows s2' s3' s4', μ) := by
  obtain ⟨fs', μ', ⟨hμ, a, b, c, hfs⟩, e⟩ := forL_find (enc := fun p : PySem.Str × (Rl → Option Stp) => Va.fn p.1) (g := bName 2) (body := sFor (aSeq (eVar 1)) (bName 3) (sSeq (sAsg 4 me) (sIf (tOf (eBin (gIs true) (eVar 4) (eC .non))) (sRet (eVar 4)) sNil)))
    (fun fs μ1 => μ1 = μ ∧ ∃ a b c, fs = frN rs rows a b c) (fun p => (rows.findSome? p.2).map eS) (xs := ms) (fs := frN rs rows s2 s3 s4) (μ := μ)
    (fun p hp fs μ1 ⟨h0, a, b, c, h2⟩ => by
      subst h0 h2
      refine ⟨[(2, .fn p.1)], rfl, ?_⟩
      obtain ⟨x, y, e1⟩ := turn_of (nm := p.1) p.2 (hF p hp) b c
      cases h : rows.findSome? p.2 with
      | none => rw [h] at e1; exact .inl ⟨_, _, rfl, e1, rfl, _, _, _, rfl⟩
      | some s => rw [h] at e1; exact .inr ⟨_, _, _, rfl, e1, rfl, _, _, _, rfl⟩) ⟨rfl, _, _, _, rfl⟩
  rw [find_map] at e
  subst hμ hfs
  exact ⟨a, b, c, e⟩
end K8
namespace K8
open PySem PySem.Spec PyProof.Rows L2 Ev
theorem find_app {α β : Type} (f : α → Option β) : ∀ a b : List α, (a ++ b).findSome? f = match a.findSome? f with | some y => some y | none => b.findSome? f
  | [], b => rfl
  | x :: a, b => by
    rw [List.cons_append, List.findSome?_cons, List.findSome?_cons]
    cases f x with
    | none => exact find_app f a b
    | some y => rfl
theorem f_next_step {rs : List Rl} {μ : Mu} (hs : ∀ r ∈ rs, RlS r) (hl : rs.length < 60) : F_next_step [.lst (rs.map eR)] μ = some (eO (nextO rs), μ) := by
  have hs' : ∀ r ∈ srtR rs, RlS r := fun r h => hs r (mem_srtR.mp h)
  have hl' : (srtR rs).length < 60 := Nat.lt_of_le_of_lt len_srtR hl
  have m1 := turns_of (rs := rs) (rows := srtR rs) (μ := μ) (me := eHeld [("split_step", F_split_step), ("idle_step", F_idle_step), ("never_step", F_never_step), ("double_step", F_double_step), ("shadow_step", F_shadow_step)] 2 (aCons (eVar 3) aNil)) mk1 (fun p hp r hr s4 => by
    have h := hs' r hr
    simp only [mk1, List.mem_cons, List.not_mem_nil, or_false] at hp
    rcases hp with rfl | rfl | rfl | rfl | rfl
    · exact f_split_step h
    · exact f_idle_step h
    · exact f_never_step h
    · exact f_double_step h
    · exact f_shadow_step h) .no .no .no
  obtain ⟨a, b, c, e1⟩ := m1
  have m2 := turns_of (rs := rs) (rows := srtR rs) (μ := μ) (me := eHeld [("given_step", F_given_step), ("barred_step", F_barred_step), ("less_step", F_less_step)] 2 (aCons (eVar 3) (aCons (eVar 1) aNil))) (mk2 (srtR rs)) (fun p hp r hr s4 => by
    have h := hs' r hr
    simp only [mk2, List.mem_cons, List.not_mem_nil, or_false] at hp
    rcases hp with rfl | rfl | rfl
    · exact f_given_step hs' hl' h
    · exact f_barred_step hs' hl' h
    · exact f_less_step hs' hl' h) a b c
  obtain ⟨a', b', c', e2⟩ := m2
  have h0 : eFn F_in_order (aCons (eVar 0) aNil) [.val (.lst (rs.map eR)), .no, .no, .no, .no] μ = some (.lst ((srtR rs).map eR), μ) := q_fn (q_cons (q_var rfl) q_nil) (f_in_order hl)
  unfold nextO
  rw [find_app]
  refine q_fnF rfl (q_then (fs' := frN rs (srtR rs) .no .no .no) (q_asg h0 rfl) ?_)
  cases h1 : mk1.findSome? fun p => (srtR rs).findSome? p.2 with
  | some s =>
    rw [h1] at e1
    exact q_seqrt (q_for (q_seqt (q_tup (q_cons q_c (q_cons q_c (q_cons q_c (q_cons q_c (q_cons q_c q_nil))))) five)) e1)
  | none =>
    rw [h1] at e1
    refine q_then (q_for (q_seqt (q_tup (q_cons q_c (q_cons q_c (q_cons q_c (q_cons q_c (q_cons q_c q_nil))))) five)) e1) ?_
    cases h2 : (mk2 (srtR rs)).findSome? fun p => (srtR rs).findSome? p.2 with
    | some s =>
      rw [h2] at e2
      exact q_seqrt (q_for (q_seqt (q_tup (q_cons q_c (q_cons q_c (q_cons q_c q_nil))) (sz (by simp)))) e2)
    | none =>
      rw [h2] at e2
      exact q_then (q_for (q_seqt (q_tup (q_cons q_c (q_cons q_c (q_cons q_c q_nil))) (sz (by simp)))) e2) (q_ret' q_c)
end K8
end MKM8k
section MKM8l
/-! k08, the mathematics, part l: done. -/
namespace K8
open PySem PySem.Spec PyProof.Rows L2 Ev
def doneL (rs : List Rl) (s : Stp) : List Rl := srtR (rs.filter (fun f => !decide (f = s.r)) ++ s.f)
theorem f_done {rs : List Rl} {s : Stp} {μ : Mu} (hs : ∀ r ∈ rs, RlT r) (hr : RlT s.r) (hl : rs.length + s.f.length < 60) : F_done [.lst (rs.map eR), eS s] μ = some (.lst ((doneL rs s).map eR), μ) := by
  have lf := List.length_filter_le (fun f => !decide (f = s.r)) rs
  have e1 := lc_Rp (me := eVar 6) (t := tOf (eBin gNe (eVar 6) (eVar 3))) (i := 0) (k := 6) (fs := [.val (.lst (rs.map eR)), .val (eS s), .val (.str s.w), .val (eR s.r), .val (.tup (s.f.map eR)), .val (.tup (s.b.map eR)), .no]) (μ := μ) (xs := rs) (fun f => !decide (f = s.r)) eR rfl (by omega)
    (fun f hf => q_tof (q_bin (q_var rfl) (q_var rfl) (gNe_R (hs f hf) hr))) (fun f hf _ => q_var rfl)
  refine q_fnF rfl (q_then (fs' := [.val (.lst (rs.map eR)), .val (eS s), .val (.str s.w), .val (eR s.r), .val (.tup (s.f.map eR)), .val (.tup (s.b.map eR)), .no]) (q_asgG (q_var rfl) rfl rfl) (q_ret' (q_fn (q_cons (v := .lst ((rs.filter (fun f => !decide (f = s.r)) ++ s.f).map eR)) (q_bin (q_frz e1) (q_frz (q_acal (q_cons (q_var rfl) q_nil) rfl)) ?_) q_nil) (f_in_order (by simp; omega)))))
  have := sz (n := (rs.filter (fun f => !decide (f = s.r))).length + s.f.length) (by omega)
  simp [gAdd, this]
end K8
end MKM8l
section MKM8m
/-! k08, the mathematics, part m: sorted sets once more. -/
namespace K8
open PySem PySem.Spec PyProof.Rows L2 Ev
theorem srtR_congr {as bs : List Rl} (h : ∀ a, a ∈ as ↔ a ∈ bs) : srtR as = srtR bs := srtE_congr unR_eR (fun _ _ => flat_eR _) (ok_rls _) h
theorem srtS_congr {as bs : List PySem.Str} (h : ∀ a, a ∈ as ↔ a ∈ bs) : srtS as = srtS bs := srtE_congr unS_str (fun _ _ => rfl) (ok_strs _) h
theorem nodup_srtR (rs : List Rl) : (srtR rs).Nodup := nodup_srtE unR_eR rs
theorem nodup_srtS (rs : List PySem.Str) : (srtS rs).Nodup := nodup_srtE unS_str rs
end K8
end MKM8m
section MKM8n
/-! k08, the mathematics, part n: letters of books, lots of letters. -/
namespace K8
open PySem PySem.Spec PyProof.Rows L2 Ev
def ltrs (r : Rl) : List PySem.Str := [r.h, r.p, r.n, r.t].flatMap id
/-- the innermost clause: for x in a tuple of texts -/
theorem cm_T {ok : List Va → Va → Bool} {me : ME} {i k : Nat} {fs : Fs} {μ : Mu} {xs : List PySem.Str} {acc : List Va} (f : PySem.Str → Va) (h1 : fs[i]? = some (.val (eT xs))) (hl : ∀ acc' : List Va, acc'.length < acc.length + xs.length → ∀ x ∈ xs, ok acc' (f x) = true) (h : ∀ x ∈ xs, me (sets (wipeF fs [k]) [(k, .str x)]) μ = some (f x, μ)) :
    compM ok me [⟨aSeq (eVar i), bName k, tAll, [k]⟩] fs μ acc = some (acc ++ xs.map f, μ) := by
  have e : (xs.flatMap fun x => [f x]) = xs.map f := by
    clear hl h h1
    induction xs with
    | nil => rfl
    | cons x xs ih => rw [List.flatMap_cons, ih]; rfl
  have h2 : aSeq (eVar i) fs μ = some (xs.map .str, μ) := q_seqT h1
  have := compM_enc (enc := Va.str) (ok := ok) (me := me) (c := ⟨aSeq (eVar i), bName k, tAll, [k]⟩) (cs := []) (fs := fs) (μ := μ) (xs := xs) (acc := acc) (fun x => [f x]) h2 (fun x hx acc' ha => ⟨[(k, .str x)], rfl, .inl ⟨rfl, fun hb => by
    unfold compM
    rw [h x hx]
    simp only
    rw [if_pos (hl acc' (by rw [e, List.length_map] at hb; simp only [List.length_singleton] at hb; omega) x hx)]⟩⟩)
  rw [e] at this
  exact this
/-- the clauses: for part in parts for x in part -/
theorem cm_P {ok : List Va → Va → Bool} {me : ME} {m : MA} {j k : Nat} {fs : Fs} {μ : Mu} {ps : List (List PySem.Str)} {acc : List Va} (f : PySem.Str → Va) (h1 : m fs μ = some (ps.map eT, μ)) (hj : ∀ p, (sets (wipeF fs [j, k]) [(j, eT p)])[j]? = some (.val (eT p))) (hl : ∀ acc' : List Va, acc'.length < acc.length + (ps.flatMap id).length → ∀ p ∈ ps, ∀ x ∈ p, ok acc' (f x) = true)
    (h : ∀ p ∈ ps, ∀ x ∈ p, me (sets (wipeF (sets (wipeF fs [j, k]) [(j, eT p)]) [k]) [(k, .str x)]) μ = some (f x, μ)) :
    compM ok me [⟨m, bName j, tAll, [j, k]⟩, ⟨aSeq (eVar j), bName k, tAll, [k]⟩] fs μ acc = some (acc ++ (ps.flatMap id).map f, μ) := by
  have e : (ps.flatMap fun p => p.map f) = (ps.flatMap id).map f := by
    clear hl h h1
    induction ps with
    | nil => rfl
    | cons x xs ih => rw [List.flatMap_cons, ih, List.flatMap_cons, List.map_append]; rfl
  have := compM_enc (enc := eT) (ok := ok) (me := me) (c := ⟨m, bName j, tAll, [j, k]⟩) (cs := [⟨aSeq (eVar j), bName k, tAll, [k]⟩]) (fs := fs) (μ := μ) (xs := ps) (acc := acc) (fun p => p.map f) h1 (fun p hp acc' ha => ⟨[(j, eT p)], rfl, .inl ⟨rfl, fun hb => cm_T f (hj p) (fun acc'' ha' x hx => hl acc'' (by rw [e, List.length_map, List.length_map] at hb; omega) p hp x hx) (h p hp)⟩⟩)
  rw [e] at this
  exact this
theorem q_fnS {fs : Fs} {μ : Mu} {i : Nat} {r : Rl} {j : Int} {ps : List (List PySem.Str)} (h : fs[i]? = some (.val (eR r))) (hc : cutA [.str (kd r.k), eT r.h, eT r.p, eT r.n, eT r.t] (some j) none = ps.map eT) : aSeq (eSl (eVar i) (oSome (eC (.int j))) oNone) fs μ = some (ps.map eT, μ) := by
  unfold aSeq eSl
  rw [q_var h]
  simp only [oSome, oNone, eC, eR, hc]
theorem flat_map_map {α β : Type} (f : α → List PySem.Str) (g : PySem.Str → β) : ∀ l : List α, (l.flatMap fun x => (f x).map g) = (l.flatMap f).map g
  | [] => rfl
  | x :: l => by rw [List.flatMap_cons, flat_map_map f g l, List.flatMap_cons, List.map_append]
theorem okL_big (n : Nat) (h : n ≤ 900000) : ∀ acc' : List Va, acc'.length < n → ∀ v, okL acc' v = true := fun acc' h' v => by
  unfold okL
  exact decide_eq_true (big _ (by omega))
theorem f_letters_of {rs : List Rl} {μ : Mu} (hl : (rs.flatMap ltrs).length < 4000) : F_letters_of [.lst (rs.map eR)] μ = some (eT (srtS (rs.flatMap ltrs)), μ) := by
  have h2 : aSeq (eVar 0) [.val (.lst (rs.map eR)), .no, .no, .no] μ = some (rs.map eR, μ) := q_seqR rfl
  have e1 := compF_flat (enc := eR) (ok := okL) (me := eVar 3) (c := ⟨aSeq (eVar 0), bName 1, tAll, [1, 2, 3]⟩) (cs := [⟨aSeq (eSl (eVar 1) (oSome (eC (.int 1))) oNone), (bName 2), tAll, [2, 3]⟩, ⟨aSeq (eVar 2), (bName 3), tAll, [3]⟩]) (fs := [.val (.lst (rs.map eR)), .no, .no, .no]) (μ := μ) (xs := rs) (fun r => (ltrs r).map .str) h2
    (fun r hr acc' ha => ⟨[(1, eR r)], rfl, .inl ⟨rfl, fun hb => by
      rw [flat_map_map, List.length_map, List.length_map] at hb
      exact cm_P (ps := [r.h, r.p, r.n, r.t]) Va.str (q_fnS (r := r) rfl rfl) (fun p => rfl) (fun acc'' h'' p hp x hx => okL_big 900000 (Nat.le_refl _) _ (by have h3 : acc''.length < acc'.length + (ltrs r).length := h''; omega) _) (fun p hp x hx => q_var rfl)⟩⟩)
  rw [flat_map_map] at e1
  exact q_fnF rfl (q_ret' (q_fn (q_cons (q_frz e1) q_nil) (f_lotL hl)))
def allLets (A B : List Rl) : List PySem.Str := srtS (srtS (A.flatMap ltrs) ++ srtS (B.flatMap ltrs))
theorem len_srtS {xs : List PySem.Str} : (srtS xs).length ≤ xs.length := length_srtE unS_str fun _ _ => rfl
theorem f_all_letters {A B : List Rl} {μ : Mu} (ha : (A.flatMap ltrs).length < 1900) (hb : (B.flatMap ltrs).length < 1900) : F_all_letters [.lst (A.map eR), .lst (B.map eR)] μ = some (eT (allLets A B), μ) := by
  have l1 := len_srtS (xs := A.flatMap ltrs)
  have l2 := len_srtS (xs := B.flatMap ltrs)
  exact q_fnF rfl (q_ret' (q_fn (q_cons (q_add (q_fn (q_cons (q_var rfl) q_nil) (f_letters_of (by omega))) (q_fn (q_cons (q_var rfl) q_nil) (f_letters_of (by omega))) (by omega)) q_nil) (f_lotT (by simp; omega))))
theorem mem_allLets {A B : List Rl} {x : PySem.Str} : x ∈ allLets A B ↔ (∃ r ∈ A, x ∈ ltrs r) ∨ ∃ r ∈ B, x ∈ ltrs r := by
  unfold allLets
  rw [mem_srtS, List.mem_append, mem_srtS, mem_srtS, List.mem_flatMap, List.mem_flatMap]
theorem mem_ltrs {r : Rl} {x : PySem.Str} : x ∈ ltrs r ↔ x ∈ r.h ∨ x ∈ r.p ∨ x ∈ r.n ∨ x ∈ r.t := by simp [ltrs]
/-! ### lots -/
def subStep (fd : List (List PySem.Str)) (x : PySem.Str) : List (List PySem.Str) := fd ++ fd.map fun r => r ++ [x]
def subsF (ls : List PySem.Str) : List (List PySem.Str) := ls.foldl subStep [[]]
theorem subs_all (P : List PySem.Str → Prop) : ∀ (ls : List PySem.Str) (acc : List (List PySem.Str)), (∀ r ∈ acc, P r) → (∀ r x, P r → x ∈ ls → P (r ++ [x])) → ∀ r ∈ ls.foldl subStep acc, P r
  | [], acc, h, _ => h
  | x :: ls, acc, h, g => subs_all P ls (subStep acc x) (fun r hr => by
    rcases List.mem_append.mp hr with q | q
    · exact h r q
    · obtain ⟨r', hr', rfl⟩ := List.mem_map.mp q
      exact g r' x (h r' hr') (by simp)) fun r y hr hy => g r y hr (List.mem_cons_of_mem _ hy)
theorem subs_in {ls : List PySem.Str} {r : List PySem.Str} (h : r ∈ subsF ls) : ∀ x ∈ r, x ∈ ls :=
  subs_all (fun r => ∀ x ∈ r, x ∈ ls) ls [[]] (by simp) (fun r y hr hy x hx => by
    rcases List.mem_append.mp hx with q | q
    · exact hr x q
    · rw [List.mem_singleton.mp q]; exact hy) r h
theorem subs_len : ∀ (ls : List PySem.Str) (acc : List (List PySem.Str)) (n : Nat), (∀ r ∈ acc, r.length ≤ n) → ∀ r ∈ ls.foldl subStep acc, r.length ≤ n + ls.length
  | [], acc, n, h => by simpa using h
  | x :: ls, acc, n, h => fun r hr => by
    have := subs_len ls (subStep acc x) (n + 1) (fun r hr => by
      rcases List.mem_append.mp hr with q | q
      · have := h r q; omega
      · obtain ⟨r', hr', rfl⟩ := List.mem_map.mp q
        have := h r' hr'; simp; omega) r hr
    simp only [List.length_cons]; omega
theorem subs_count : ∀ (ls : List PySem.Str) (acc : List (List PySem.Str)), (ls.foldl subStep acc).length = acc.length * 2 ^ ls.length
  | [], acc => by simp
  | x :: ls, acc => by
    rw [List.foldl_cons, subs_count ls, subStep, List.length_append, List.length_map, List.length_cons, Nat.pow_succ, ← Nat.mul_two, Nat.mul_assoc, Nat.mul_comm 2]
theorem subs_filter (p : PySem.Str → Bool) : ∀ (ls : List PySem.Str) (acc : List (List PySem.Str)) (r : List PySem.Str), r ∈ acc → r ++ ls.filter p ∈ ls.foldl subStep acc
  | [], acc, r, h => by simpa using h
  | x :: ls, acc, r, h => by
    rw [List.foldl_cons, List.filter_cons]
    split
    · have := subs_filter p ls (subStep acc x) (r ++ [x]) (List.mem_append.mpr (.inr (List.mem_map.mpr ⟨r, h, rfl⟩)))
      simpa using this
    · exact subs_filter p ls (subStep acc x) r (List.mem_append.mpr (.inl h))
theorem filter_subs (p : PySem.Str → Bool) (ls : List PySem.Str) : ls.filter p ∈ subsF ls := by
  have := subs_filter p ls [[]] [] (by simp)
  rw [List.nil_append] at this
  exact this
theorem subs_app (ls : List PySem.Str) (x : PySem.Str) : subsF (ls ++ [x]) = subStep (subsF ls) x := by
  unfold subsF
  rw [List.foldl_append]
  rfl
theorem subs_count2 (ls : List PySem.Str) : (subsF ls).length = 2 ^ ls.length := by
  have := subs_count ls [[]]
  rw [List.length_singleton, Nat.one_mul] at this
  exact this
def lotsA (ls : List PySem.Str) : List (List PySem.Str) := (sortL ((subsF ls).map eT)).map unT
theorem lotsA_map (ls : List PySem.Str) : (lotsA ls).map eT = sortL ((subsF ls).map eT) := map_dec unT_eT fun v hv => by
  have : v ∈ (subsF ls).map eT := (List.mergeSort_perm _ _).mem_iff.mp hv
  obtain ⟨a, _, e⟩ := List.mem_map.mp this
  exact ⟨a, e.symm⟩
theorem mem_lotsA {ls : List PySem.Str} {r : List PySem.Str} : r ∈ lotsA ls ↔ r ∈ subsF ls := by
  have h1 : r ∈ lotsA ls ↔ eT r ∈ (lotsA ls).map eT := ⟨fun h => List.mem_map.mpr ⟨r, h, rfl⟩, fun h => by
    obtain ⟨b, hb, e⟩ := List.mem_map.mp h
    rw [← eT_inj.mp e]; exact hb⟩
  rw [h1, lotsA_map]
  unfold sortL
  rw [(List.mergeSort_perm _ _).mem_iff]
  exact ⟨fun h => by obtain ⟨b, hb, e⟩ := List.mem_map.mp h; rw [← eT_inj.mp e]; exact hb, fun h => List.mem_map.mpr ⟨r, h, rfl⟩⟩
theorem okSortL_eTs {rs : List (List PySem.Str)} (h : ∀ r ∈ rs, r.length < 1000) : okSortL (rs.map eT) = true := by
  unfold okSortL
  rw [ok_eTs]
  simp only [Bool.true_and, Bool.and_eq_true, List.all_eq_true]
  refine ⟨fun v hv => ?_, fun v hv => ?_⟩
  · obtain ⟨r, _, rfl⟩ := List.mem_map.mp hv; rfl
  · obtain ⟨r, hr, rfl⟩ := List.mem_map.mp hv
    have := h r hr
    simp [eT, lenT]
    omega
theorem f_all_lots {ls : List PySem.Str} {μ : Mu} (hl : ls.length ≤ 12) : F_all_lots [eT ls] μ = some (.lst ((lotsA ls).map eT), μ) := by
  have h1 : aSeq (eVar 0) [.val (eT ls), .val (.lst ((subsF []).map eT)), .no, .no] μ = some (ls.map .str, μ) := q_seqT rfl
  obtain ⟨fs', μ', e, hμ, s2, s3, hfs⟩ := forL_inv (enc := Va.str) (g := bName 2) (body := sAsg 1 (eBin gAdd (eVar 1) (eFrz (compF okL (eBin gAdd (eVar 3) (eTup (aCons (eVar 2) aNil))) ⟨aSeq (eVar 1), (bName 3), tAll, [3]⟩ []))))
    (fun pre fs μ1 => μ1 = μ ∧ ∃ a b, fs = [.val (eT ls), .val (.lst ((subsF pre).map eT)), a, b]) (xs := ls) (pre := []) (fs := [.val (eT ls), .val (.lst ((subsF []).map eT)), .no, .no]) (μ := μ)
    (fun pre x hx hpl fs μ1 ⟨h0, a, b, h2⟩ => by
      subst h0 h2
      have lp : pre.length < 12 := by simp at hpl; omega
      have lc := subs_count2 pre
      have lc2 : 2 ^ pre.length ≤ 2 ^ 12 := Nat.pow_le_pow_right (by decide) (by omega)
      have ll := subs_len pre [[]] 0 (by simp)
      have h3 : aSeq (eVar 1) [.val (eT ls), .val (.lst ((subsF pre).map eT)), .val (.str x), b] μ1 = some ((subsF pre).map eT, μ1) := by unfold aSeq; rw [q_var rfl]
      have e1 := compF_all (enc := eT) (ok := okL) (me := eBin gAdd (eVar 3) (eTup (aCons (eVar 2) aNil))) (c := ⟨aSeq (eVar 1), bName 3, tAll, [3]⟩) (fs := [.val (eT ls), .val (.lst ((subsF pre).map eT)), .val (.str x), b]) (μ := μ1) (xs := subsF pre) (fun r => eT (r ++ [x])) 5000 h3 rfl
        (fun r hr => ⟨[(3, eT r)], rfl, q_add (y := [x]) (q_var rfl) (q_tup (q_cons (q_var rfl) q_nil) onev) (by have := ll r hr; simp only [List.length_singleton]; omega), okL_lt (by omega) _⟩) (by omega)
      refine ⟨[(2, .str x)], [.val (eT ls), .val (.lst ((subsF (pre ++ [x])).map eT)), .val (.str x), b], μ1, rfl, ?_, rfl, _, _, rfl⟩
      have e2 : gAdd μ1 (.lst ((subsF pre).map eT)) (.lst ((subsF pre).map fun r => eT (r ++ [x]))) = some (.lst ((subsF (pre ++ [x])).map eT)) := by
        unfold gAdd
        simp only [List.length_map]
        rw [if_pos (sz (by omega)), subs_app, subStep, List.map_append, List.map_map]
        rfl
      exact q_asg (q_bin (q_var rfl) (q_frz e1) e2) rfl) ⟨rfl, _, _, rfl⟩
  subst hμ hfs
  have ll := subs_len ls [[]] 0 (by simp)
  refine q_fnF rfl ?_
  have e0 : ¬ (12 : Int) < (ls.length : Int) := by omega
  have c0 : tOf (eBin (gCmp fun i j => decide (j < i)) (eCal gLen (aCons (eVar 0) aNil)) (eC k_MOST_LETTERS)) [.val (eT ls), .no, .no, .no] μ' = some (false, μ') := by
    have := q_tof (q_bin (g := gCmp fun i j => decide (j < i)) (v := .bl (decide ((12 : Int) < (ls.length : Int)))) (q_len (μ := μ') (fs := [.val (eT ls), .no, .no, .no]) (i := 0) (xs := ls) rfl) (q_c (v := k_MOST_LETTERS)) rfl)
    rw [decide_eq_false e0] at this
    exact this
  have s0 : sIf (tOf (eBin (gCmp fun i j => decide (j < i)) (eCal gLen (aCons (eVar 0) aNil)) (eC k_MOST_LETTERS))) sNo sNil [.val (eT ls), .no, .no, .no] μ' = some (.nx, [.val (eT ls), .no, .no, .no], μ') := by
    unfold sIf
    rw [c0]
    rfl
  refine q_then s0 (q_then (q_asg (v := .lst ((subsF []).map eT)) (q_frz (by show aLst _ _ _ = _; unfold aLst; rw [q_cons (q_tup q_nil zerov) q_nil]; simp only; rw [if_pos onev]; rfl)) rfl) (q_then (q_for h1 e) (q_ret' (q_frz ?_))))
  have a1 : aCons (eVar 1) aNil (frz (fun _ => true) [.val (eT ls), .val (.lst ((subsF ([] ++ ls)).map eT)), s2, s3]) μ' = some ([.lst ((subsF ls).map eT)], μ') := q_cons (q_var rfl) q_nil
  unfold aSortL
  rw [a1]
  simp only [look]
  rw [if_pos (okSortL_eTs fun r hr => by have := ll r hr; omega), lotsA_map]
/-! ### the first parting -/
def lotsS (ls : List PySem.Str) : List (List PySem.Str) := (sortV ((lotsA ls).map eT)).map unT
theorem lotsS_map (ls : List PySem.Str) : (lotsS ls).map eT = sortV ((lotsA ls).map eT) := srtL_map unT_eT _
theorem mem_lotsS {ls r : List PySem.Str} : r ∈ lotsS ls ↔ r ∈ subsF ls := (mem_srtL (enc := eT) unT_eT).trans mem_lotsA
theorem q_lotsS {fs : Fs} {μ : Mu} {i : Nat} {ls : List PySem.Str} (hl : ls.length ≤ 12) (h : fs[i]? = some (.val (eT ls))) : aSeq (eFrz (aCal gSorted (aCons (eFn F_all_lots (aCons (eVar i) aNil)) aNil))) fs μ = some ((lotsS ls).map eT, μ) := by
  have e1 : aCal gSorted (aCons (eFn F_all_lots (aCons (eVar i) aNil)) aNil) fs μ = some ((lotsS ls).map eT, μ) := by
    refine q_acal (q_cons (q_fn (q_cons (q_var h) q_nil) (f_all_lots hl)) q_nil) ?_
    unfold gSorted
    simp only [look]
    rw [if_pos (ok_eTs _), lotsS_map]
  unfold aSeq
  rw [q_frz e1]
def part2 (A B : List Rl) (t : List PySem.Str) (h : List PySem.Str) : Option Va := if !(allB A h t == allB B h t) then some (.tup [eT h, eT t]) else none
def partO (A B : List Rl) : Option Va := (lotsS (allLets A B)).findSome? fun t => (lotsS t).findSome? (part2 A B t)
abbrev frP (A B : List Rl) (a b c : Sl) : Fs := [.val (.lst (A.map eR)), .val (.lst (B.map eR)), a, b, c]
theorem f_first_parting {A B : List Rl} {μ : Mu} (sa : ∀ r ∈ A, RlS r) (sb : ∀ r ∈ B, RlS r) (la : A.length < 1000) (lb : B.length < 1000) (ha : (A.flatMap ltrs).length < 1900) (hb : (B.flatMap ltrs).length < 1900) (hl : (allLets A B).length ≤ 12) (ht : TxL (allLets A B)) : F_first_parting [.lst (A.map eR), .lst (B.map eR)] μ = some ((partO A B).getD .non, μ) := by
  have inner : ∀ t ∈ lotsS (allLets A B), ∀ s4, ∃ s4', sFor (aSeq (eFrz (aCal gSorted (aCons (eFn F_all_lots (aCons (eVar 3) aNil)) aNil)))) (bName 4) (sIf (tOf (eBin gNe (eFn F_all_hold (aCons (eVar 0) (aCons (eVar 4) (aCons (eVar 3) aNil)))) (eFn F_all_hold (aCons (eVar 1) (aCons (eVar 4) (aCons (eVar 3) aNil)))))) (sRet (eTup (aCons (eVar 4) (aCons (eVar 3) aNil)))) sNil) (frP A B (.val (eT (allLets A B))) (.val (eT t)) s4) μ = some (match (lotsS t).findSome? (part2 A B t) with | some v => .rt v | none => .nx, frP A B (.val (eT (allLets A B))) (.val (eT t)) s4', μ) := fun t hT s4 => by
    have hT' := mem_lotsS.mp hT
    have tt : TxL t := fun x hx => ht x (subs_in hT' x hx)
    have tl : t.length ≤ 12 := by
      have := subs_len (allLets A B) [[]] 0 (by simp) t hT'
      omega
    obtain ⟨fs', μ', ⟨hμ, c, hfs⟩, e⟩ := forL_find (enc := eT) (g := bName 4) (body := sIf (tOf (eBin gNe (eFn F_all_hold (aCons (eVar 0) (aCons (eVar 4) (aCons (eVar 3) aNil)))) (eFn F_all_hold (aCons (eVar 1) (aCons (eVar 4) (aCons (eVar 3) aNil)))))) (sRet (eTup (aCons (eVar 4) (aCons (eVar 3) aNil)))) sNil)
      (fun fs μ1 => μ1 = μ ∧ ∃ c, fs = frP A B (.val (eT (allLets A B))) (.val (eT t)) c) (part2 A B t) (xs := lotsS t) (fs := frP A B (.val (eT (allLets A B))) (.val (eT t)) s4) (μ := μ)
      (fun h hh fs μ1 ⟨h0, c, h2⟩ => by
        subst h0 h2
        have th : TxL h := fun x hx => tt x (subs_in (mem_lotsS.mp hh) x hx)
        refine ⟨[(4, eT h)], rfl, ?_⟩
        have c1 : tOf (eBin gNe (eFn F_all_hold (aCons (eVar 0) (aCons (eVar 4) (aCons (eVar 3) aNil)))) (eFn F_all_hold (aCons (eVar 1) (aCons (eVar 4) (aCons (eVar 3) aNil))))) (sets (frP A B (.val (eT (allLets A B))) (.val (eT t)) c) [(4, eT h)]) μ1 = some (!(allB A h t == allB B h t), μ1) :=
          q_tof (q_bin (q_fn (q_cons (q_var rfl) (q_cons (q_var rfl) (q_cons (q_var rfl) q_nil))) (f_all_hold sa la th tt)) (q_fn (q_cons (q_var rfl) (q_cons (q_var rfl) (q_cons (q_var rfl) q_nil))) (f_all_hold sb lb th tt)) gNe_bl)
        unfold part2 sIf
        rw [c1]
        cases q : (!(allB A h t == allB B h t)) with
        | true => exact .inr ⟨_, _, _, rfl, q_ret (q_tup (q_cons (q_var rfl) (q_cons (q_var rfl) q_nil)) (sz (by simp))), rfl, _, rfl⟩
        | false => exact .inl ⟨_, _, rfl, rfl, rfl, _, rfl⟩) ⟨rfl, _, rfl⟩
    subst hμ hfs
    exact ⟨c, q_for (q_lotsS tl rfl) e⟩
  obtain ⟨fs', μ', ⟨hμ, b, c, hfs⟩, e⟩ := forL_find (enc := eT) (g := bName 3) (body := sFor (aSeq (eFrz (aCal gSorted (aCons (eFn F_all_lots (aCons (eVar 3) aNil)) aNil)))) (bName 4) (sIf (tOf (eBin gNe (eFn F_all_hold (aCons (eVar 0) (aCons (eVar 4) (aCons (eVar 3) aNil)))) (eFn F_all_hold (aCons (eVar 1) (aCons (eVar 4) (aCons (eVar 3) aNil)))))) (sRet (eTup (aCons (eVar 4) (aCons (eVar 3) aNil)))) sNil))
    (fun fs μ1 => μ1 = μ ∧ ∃ b c, fs = frP A B (.val (eT (allLets A B))) b c) (fun t => (lotsS t).findSome? (part2 A B t)) (xs := lotsS (allLets A B)) (fs := frP A B (.val (eT (allLets A B))) .no .no) (μ := μ)
    (fun t hT fs μ1 ⟨h0, b, c, h2⟩ => by
      subst h0 h2
      obtain ⟨c', e1⟩ := inner t hT c
      refine ⟨[(3, eT t)], rfl, ?_⟩
      cases q : (lotsS t).findSome? (part2 A B t) with
      | none => rw [q] at e1; exact .inl ⟨_, _, rfl, e1, rfl, _, _, rfl⟩
      | some v => rw [q] at e1; exact .inr ⟨_, _, _, rfl, e1, rfl, _, _, rfl⟩) ⟨rfl, _, _, rfl⟩
  subst hμ hfs
  refine q_fnF rfl (q_then (fs' := frP A B (.val (eT (allLets A B))) .no .no) (q_asg (q_fn (q_cons (q_var rfl) (q_cons (q_var rfl) q_nil)) (f_all_letters ha hb)) rfl) ?_)
  show ∃ fsE, sSeq _ _ _ _ = some (.rt ((partO A B).getD .non), _, _)
  unfold partO
  cases q : (lotsS (allLets A B)).findSome? fun t => (lotsS t).findSome? (part2 A B t) with
  | none =>
    rw [q] at e
    exact q_then (q_for (q_lotsS hl rfl) e) (q_ret' q_c)
  | some v =>
    rw [q] at e
    exact q_seqrt (q_for (q_lotsS hl rfl) e)
end K8
end MKM8n
section MKP8a
/-! k08, the plain laws, part a: what each step keeps. -/
namespace K8
open PySem PySem.Spec PyProof.Rows L2 Ev
/-- alike in all worlds -/
def EqvU (A B : List Rl) : Prop := ∀ h t : List PySem.Str, (∀ x ∈ h, x ∈ t) → allB A h t = allB B h t
theorem body_iff {r : Rl} {h t : List PySem.Str} : bodyB r h t = true ↔ (∀ x ∈ r.p, x ∈ h) ∧ (∀ x ∈ r.t, x ∈ t) ∧ ∀ x ∈ r.n, x ∉ t := by
  simp [bodyB, win]
theorem head_ch {r : Rl} {h t : List PySem.Str} (k : r.k = true) : headB r h t = true ↔ ∀ x ∈ r.h, x ∈ h ∨ x ∉ t := by
  simp [headB, k]
theorem head_ru {r : Rl} {h t : List PySem.Str} (k : r.k = false) : headB r h t = true ↔ ∃ x ∈ r.h, x ∈ h := by
  simp [headB, k]
theorem hold_iff {r : Rl} {h t : List PySem.Str} : holdB r h t = true ↔ (bodyB r t t = true → headB r t t = true) ∧ (bodyB r h t = true → headB r h t = true) := by
  unfold holdB
  cases bodyB r t t <;> cases headB r t t <;> cases bodyB r h t <;> cases headB r h t <;> simp
theorem all_iff {rs : List Rl} {h t : List PySem.Str} : allB rs h t = true ↔ ∀ r ∈ rs, holdB r h t = true := by simp [allB]
theorem all_app (A B : List Rl) (h t : List PySem.Str) : allB (A ++ B) h t = (allB A h t && allB B h t) := by simp [allB]
theorem eqv_of {A B : List Rl} (h : ∀ h t : List PySem.Str, (∀ x ∈ h, x ∈ t) → (allB A h t = true ↔ allB B h t = true)) : EqvU A B := fun x y s => by
  have := h x y s
  cases a : allB A x y <;> cases b : allB B x y <;> simp_all
theorem EqvU.rfl' (A : List Rl) : EqvU A A := fun _ _ _ => rfl
theorem EqvU.symm {A B : List Rl} (h : EqvU A B) : EqvU B A := fun x y s => (h x y s).symm
theorem EqvU.trans {A B C : List Rl} (h : EqvU A B) (g : EqvU B C) : EqvU A C := fun x y s => (h x y s).trans (g x y s)
theorem all_congr {A B : List Rl} (h : ∀ r, r ∈ A ↔ r ∈ B) (x y : List PySem.Str) : allB A x y = allB B x y := by
  have e : allB A x y = true ↔ allB B x y = true := by
    rw [all_iff, all_iff]
    exact ⟨fun a r hr => a r ((h r).mpr hr), fun a r hr => a r ((h r).mp hr)⟩
  cases a : allB A x y <;> cases b : allB B x y <;> simp_all
theorem EqvU.of_mem {A B : List Rl} (h : ∀ r, r ∈ A ↔ r ∈ B) : EqvU A B := fun x y _ => all_congr h x y
/-- kinds of steps -/
def kinds : List PySem.Str := ["split", "idle", "never", "double", "shadow", "given", "barred", "less"]
/-- rules small and of these letters -/
structure OkR (L : List PySem.Str) (r : Rl) : Prop where
  h : ∀ x ∈ r.h, x ∈ L
  p : ∀ x ∈ r.p, x ∈ L
  n : ∀ x ∈ r.n, x ∈ L
  t : ∀ x ∈ r.t, x ∈ L
  lh : r.h.length ≤ 2
  lp : r.p.length ≤ 2
  ln : r.n.length ≤ 2
  lt : r.t.length ≤ 2
  c : r.k = true → r.h ≠ []
def cnt (r : Rl) : Nat := if r.k then r.h.length else 1
def wt (r : Rl) : Nat := 3 ^ r.h.length * (1 + r.p.length + r.n.length + r.t.length)
def cntL (rs : List Rl) : Nat := (rs.map cnt).sum
def wtL (rs : List Rl) : Nat := (rs.map wt).sum
theorem wt_pos (r : Rl) : 0 < wt r := Nat.mul_pos (Nat.pow_pos (by decide)) (by omega)
/-- a step of a rule that may be done -/
structure Snd (rs : List Rl) (r : Rl) (s : Stp) : Prop where
  sr : s.r = r
  w : s.w ∈ kinds
  b : ∀ f ∈ s.b, f ∈ rs ∧ f ≠ r
  e : EqvU (r :: s.b) (s.f ++ s.b)
  ok : ∀ L, OkR L r → ∀ f ∈ s.f, OkR L f
  cn : cntL s.f ≤ cnt r
  wl : wtL s.f < wt r
  lb : s.b.length ≤ rs.length
theorem ls_mem {a b : List PySem.Str} {x : PySem.Str} : x ∈ lsO a b ↔ x ∈ a ∧ x ∉ b := by simp [lsO]
theorem ls_le (a b : List PySem.Str) : (lsO a b).length ≤ a.length := List.length_filter_le _ _
theorem ls_lt {a b : List PySem.Str} {x : PySem.Str} (h1 : x ∈ a) (h2 : x ∈ b) : (lsO a b).length < a.length :=
  List.length_filter_lt_length_iff_exists.mpr ⟨x, h1, by simp [h2]⟩
theorem ls_eq {a b : List PySem.Str} (h : ¬ (lsO a b).length < a.length) : lsO a b = a :=
  List.Sublist.eq_of_length (List.filter_sublist ..) (by have := ls_le a b; omega)
theorem cnt_pos {L : List PySem.Str} {r : Rl} (h : OkR L r) : 1 ≤ cnt r := by
  unfold cnt
  cases k : r.k with
  | false => simp
  | true =>
    have := h.c k
    simp only [if_true]
    exact Nat.pos_of_ne_zero fun e => this (List.length_eq_zero_iff.mp e)
theorem pow_pos3 (n : Nat) : 0 < 3 ^ n := Nat.pow_pos (by decide)
/-! ### split -/
theorem snd_split {L : List PySem.Str} {rs : List Rl} {r : Rl} {s : Stp} (ok : OkR L r) (h : splitO r = some s) : Snd rs r s := by
  unfold splitO at h
  split at h
  · cases h
  · rename_i e
    cases h
    simp only [Bool.or_eq_true, Bool.not_eq_true', decide_eq_true_eq, not_or, Bool.not_eq_false] at e
    obtain ⟨k, hl⟩ := e
    have l2 := ok.lh
    refine ⟨rfl, by simp [kinds], by simp, eqv_of fun h t s => ?_, fun L ok f hf => ?_, ?_, ?_, by simp⟩
    · rw [List.append_nil, all_iff, all_iff]
      simp only [List.mem_singleton, forall_eq, List.mem_map, forall_exists_index, and_imp, forall_apply_eq_imp_iff₂]
      simp only [hold_iff]
      constructor
      · rintro ⟨h1, h2⟩ x hx
        refine ⟨fun b => ?_, fun b => ?_⟩
        · have b' : bodyB r t t = true := b
          have := h1 b'
          rw [head_ch k] at this
          rw [head_ch rfl]
          simpa using this x hx
        · have b' : bodyB r h t = true := b
          have := h2 b'
          rw [head_ch k] at this
          rw [head_ch rfl]
          simpa using this x hx
      · intro h1
        refine ⟨fun b => ?_, fun b => ?_⟩
        · rw [head_ch k]
          intro x hx
          have := (h1 x hx).1 b
          rw [head_ch rfl] at this
          simpa using this
        · rw [head_ch k]
          intro x hx
          have := (h1 x hx).2 b
          rw [head_ch rfl] at this
          simpa using this
    · obtain ⟨x, hx, rfl⟩ := List.mem_map.mp hf
      exact ⟨fun y hy => by simp at hy; subst hy; exact ok.h _ hx, ok.p, ok.n, ok.t, by simp, ok.lp, ok.ln, ok.lt, fun _ => by simp⟩
    · have : ∀ l : List PySem.Str, cntL (l.map fun x => (⟨true, [x], r.p, r.n, r.t⟩ : Rl)) = l.length := fun l => by
        induction l with
        | nil => rfl
        | cons x l ih => simp only [cntL, List.map_cons, List.sum_cons] at ih ⊢; rw [ih]; simp [cnt]; omega
      rw [this]
      simp [cnt, k]
    · obtain ⟨x, y, hxy⟩ : ∃ x y, r.h = [x, y] := by
        match hh : r.h, l2, hl with
        | [x, y], _, _ => exact ⟨x, y, rfl⟩
        | [], _, q => simp at q
        | [_], _, q => simp at q
        | _ :: _ :: _ :: _, q, _ => simp at q
      have hp := pow_pos3 r.h.length
      simp only [hxy, wtL, wt, List.map_cons, List.map_nil, List.sum_cons, List.sum_nil, List.length_cons, List.length_nil]
      omega
/-! ### idle, never -/
theorem eqv_gone {r : Rl} {by_ : List Rl} (h : ∀ h t : List PySem.Str, (∀ x ∈ h, x ∈ t) → allB by_ h t = true → holdB r h t = true) : EqvU (r :: by_) ([] ++ by_) := eqv_of fun x y s => by
  rw [List.nil_append, show r :: by_ = [r] ++ by_ from rfl, all_app, Bool.and_eq_true]
  exact ⟨fun a => a.2, fun a => ⟨by rw [all_iff]; simpa using h x y s a, a⟩⟩
theorem snd_gone {rs : List Rl} {r : Rl} {w : PySem.Str} {by_ : List Rl} (hw : w ∈ kinds) (hb : ∀ f ∈ by_, f ∈ rs ∧ f ≠ r) (hl : by_.length ≤ rs.length) (h : ∀ h t : List PySem.Str, (∀ x ∈ h, x ∈ t) → allB by_ h t = true → holdB r h t = true) : Snd rs r ⟨w, r, [], by_⟩ :=
  ⟨rfl, hw, hb, eqv_gone h, fun _ _ _ hf => by simp at hf, by simp [cntL], by simpa [wtL] using wt_pos r, hl⟩
theorem snd_idle {rs : List Rl} {r : Rl} {s : Stp} (h : idleO r = some s) : Snd rs r s := by
  unfold idleO at h
  split at h
  · rename_i e
    cases h
    simp only [Bool.and_eq_true, Bool.or_eq_true, decide_eq_true_eq, List.any_eq_true] at e
    obtain ⟨k, l1, e⟩ := e
    obtain ⟨x, hx⟩ := List.length_eq_one_iff.mp (by omega : r.h.length = 1)
    rw [hx] at e
    simp only [List.mem_singleton, exists_eq_left] at e
    refine snd_gone (by simp [kinds]) (by simp) (by simp) fun h t s _ => hold_iff.mpr ⟨fun b => ?_, fun b => ?_⟩
    · rw [head_ch k, hx]; simp only [List.mem_singleton, forall_eq]
      exact Decidable.em _
    · rw [head_ch k, hx]; simp only [List.mem_singleton, forall_eq]
      rw [body_iff] at b
      rcases e with e | e
      · exact .inl (b.1 x e)
      · exact .inr (b.2.2 x e)
  · split at h
    · rename_i e
      cases h
      simp only [Bool.and_eq_true, Bool.not_eq_true', decide_eq_true_eq, List.any_eq_true] at e
      obtain ⟨k, x, h1, h2⟩ := e
      refine snd_gone (by simp [kinds]) (by simp) (by simp) fun h t s _ => hold_iff.mpr ⟨fun b => ?_, fun b => ?_⟩
      · rw [head_ru k]; rw [body_iff] at b; exact ⟨x, h1, b.1 x h2⟩
      · rw [head_ru k]; rw [body_iff] at b; exact ⟨x, h1, b.1 x h2⟩
    · cases h
theorem snd_never {rs : List Rl} {r : Rl} {s : Stp} (h : neverO r = some s) : Snd rs r s := by
  unfold neverO at h
  split at h
  · rename_i e
    cases h
    simp only [decide_eq_true_eq, List.any_eq_true, List.mem_append] at e
    obtain ⟨x, h1, h2⟩ := e
    have no : ∀ h t : List PySem.Str, (∀ x ∈ h, x ∈ t) → bodyB r h t = true → False := fun h t s b => by
      rw [body_iff] at b
      refine b.2.2 x h2 ?_
      rcases h1 with h1 | h1
      · exact s x (b.1 x h1)
      · exact b.2.1 x h1
    exact snd_gone (by simp [kinds]) (by simp) (by simp) fun h t s _ => hold_iff.mpr ⟨fun b => (no t t (fun _ h => h) b).elim, fun b => (no h t s b).elim⟩
  · cases h
/-! ### one rule in its place -/
theorem snd_one {rs : List Rl} {r f : Rl} {w : PySem.Str} {by_ : List Rl} (hw : w ∈ kinds) (hb : ∀ f ∈ by_, f ∈ rs ∧ f ≠ r) (hl : by_.length ≤ rs.length) (h : ∀ h t : List PySem.Str, (∀ x ∈ h, x ∈ t) → allB by_ h t = true → (holdB r h t = true ↔ holdB f h t = true))
    (ok : ∀ L, OkR L r → OkR L f) (hc : cnt f ≤ cnt r) (hwt : wt f < wt r) : Snd rs r ⟨w, r, [f], by_⟩ :=
  ⟨rfl, hw, hb, eqv_of fun x y s => by
    rw [show r :: by_ = [r] ++ by_ from rfl, all_app, all_app, Bool.and_eq_true, Bool.and_eq_true]
    have h1 : ∀ g : Rl, allB [g] x y = true ↔ holdB g x y = true := fun g => by rw [all_iff]; simp
    rw [h1, h1]
    exact ⟨fun a => ⟨(h x y s a.2).mp a.1, a.2⟩, fun a => ⟨(h x y s a.2).mpr a.1, a.2⟩⟩, fun L o g hg => by simp at hg; subst hg; exact ok L o, by simpa [cntL] using hc, by simpa [wtL] using hwt, hl⟩
theorem hold_same {r f : Rl} {h t : List PySem.Str} (s : ∀ x ∈ h, x ∈ t) (hb : ∀ h t : List PySem.Str, (∀ x ∈ h, x ∈ t) → (bodyB r h t = true ↔ bodyB f h t = true)) (hh : ∀ h : List PySem.Str, (∀ x ∈ h, x ∈ t) → bodyB r h t = true → (headB r h t = true ↔ headB f h t = true)) : holdB r h t = true ↔ holdB f h t = true := by
  rw [hold_iff, hold_iff, ← hb h t s, ← hb t t fun _ h => h]
  constructor
  · rintro ⟨a, b⟩
    exact ⟨fun q => (hh t (fun _ h => h) q).mp (a q), fun q => (hh h s q).mp (b q)⟩
  · rintro ⟨a, b⟩
    exact ⟨fun q => (hh t (fun _ h => h) q).mpr (a q), fun q => (hh h s q).mpr (b q)⟩
theorem wt_lt {r f : Rl} (h : f.h.length ≤ r.h.length) (h2 : f.p.length + f.n.length + f.t.length < r.p.length + r.n.length + r.t.length) : wt f < wt r := by
  unfold wt
  exact Nat.mul_lt_mul_of_le_of_lt (Nat.pow_le_pow_right (by decide) h) (by omega) (pow_pos3 _)
theorem wt_lt2 {r f : Rl} (h : f.h.length < r.h.length) (h2 : f.p.length + f.n.length + f.t.length ≤ r.p.length + r.n.length + r.t.length) : wt f < wt r := by
  unfold wt
  exact Nat.mul_lt_mul_of_lt_of_le (Nat.pow_lt_pow_right (by decide) h) (by omega) (by omega)
theorem snd_double {rs : List Rl} {r : Rl} {s : Stp} (h : doubleO r = some s) : Snd rs r s := by
  unfold doubleO at h
  split at h
  · cases h
  · rename_i e
    cases h
    simp only [Bool.not_eq_true', Bool.not_eq_false, decide_eq_true_eq, List.any_eq_true] at e
    obtain ⟨x, h1, h2⟩ := e
    have ll := ls_lt h1 h2
    refine snd_one (by simp [kinds]) (by simp) (by simp) (fun h t s _ => hold_same s (fun h t s => ?_) fun h s b => Iff.rfl) (fun L o => ⟨o.h, o.p, o.n, fun y hy => o.t y (ls_mem.mp hy).1, o.lh, o.lp, o.ln, by have := o.lt; simp only; omega, o.c⟩) (Nat.le_refl _) (wt_lt (Nat.le_refl _) (by simp only; omega))
    rw [body_iff, body_iff]
    simp only [ls_mem]
    constructor
    · rintro ⟨a, b, c⟩
      exact ⟨a, fun y hy => b y hy.1, c⟩
    · rintro ⟨a, b, c⟩
      refine ⟨a, fun y hy => ?_, c⟩
      by_cases q : y ∈ r.p
      · exact s y (a y q)
      · exact b y ⟨hy, q⟩
  
theorem snd_shadow {rs : List Rl} {r : Rl} {s : Stp} (h : shadowO r = some s) : Snd rs r s := by
  unfold shadowO at h
  split at h
  · cases h
  · rename_i e
    cases h
    simp only [Bool.or_eq_true, Bool.not_eq_true', Bool.not_eq_false, not_or, Bool.not_eq_true, decide_eq_true_eq, List.any_eq_true] at e
    obtain ⟨k, x, h1, h2⟩ := e
    have ll := ls_lt h1 h2
    refine snd_one (by simp [kinds]) (by simp) (by simp) (fun h t s _ => hold_same s (fun h t s => Iff.rfl) fun h s b => ?_) (fun L o => ⟨fun y hy => o.h y (ls_mem.mp hy).1, o.p, o.n, o.t, by have := o.lh; simp only; omega, o.lp, o.ln, o.lt, fun q => by simp [k] at q⟩) (by simp [cnt, k]) (wt_lt2 ll (Nat.le_refl _))
    rw [head_ru k, head_ru (by exact k)]
    simp only [ls_mem]
    constructor
    · rintro ⟨y, a, c⟩
      exact ⟨y, ⟨a, fun q => (body_iff.mp b).2.2 y q (s y c)⟩, c⟩
    · rintro ⟨y, a, c⟩
      exact ⟨y, a.1, c⟩
end K8
end MKP8a
section MKP8b
/-! k08, the plain laws, part b: given, barred, less. -/
namespace K8
open PySem PySem.Spec PyProof.Rows L2 Ev
theorem mem_facts {rs : List Rl} {x : PySem.Str} (h : x ∈ factsL rs) : factR x ∈ rs := by
  obtain ⟨r, hr, rfl⟩ := List.mem_map.mp h
  have h2 := List.mem_filter.mp hr
  have h3 := List.mem_filter.mp h2.1
  have e : r = factR (hd r) := of_decide_eq_true h2.2
  rw [← e]
  exact mem_srtR.mp h3.1
theorem hold_fact {x : PySem.Str} {h t : List PySem.Str} : holdB (factR x) h t = true ↔ x ∈ t ∧ x ∈ h := by
  rw [hold_iff, head_ru rfl, head_ru rfl, body_iff, body_iff]
  simp [factR]
theorem snd_given {rs : List Rl} {r : Rl} {s : Stp} (h : givenO rs r = some s) : Snd rs r s := by
  unfold givenO at h
  split at h
  · cases h
  · rename_i e0
    simp only [Bool.or_eq_true, decide_eq_true_eq, not_or] at e0
    obtain ⟨e1, e2⟩ := e0
    have hlen : ((usedG rs r).map factR).length ≤ rs.length := by
      rw [List.length_map]
      exact Nat.le_trans (List.length_filter_le _ _) len_facts
    have hus : ∀ x ∈ usedG rs r, x ∈ factsL rs ∧ (x ∈ r.p ++ r.n ++ r.t ∨ x ∈ r.h) := fun x hx => by simpa [usedG] using hx
    have hb : ∀ f ∈ (usedG rs r).map factR, f ∈ rs ∧ f ≠ r := fun f hf => by
      obtain ⟨x, hx, rfl⟩ := List.mem_map.mp hf
      refine ⟨mem_facts (hus x hx).1, fun q => ?_⟩
      subst q
      apply e2
      cases hu : usedG rs (factR x) with
      | nil => exact absurd (by rw [hu]; rfl) e1
      | cons y ys =>
        have := (hus y (by rw [hu]; simp)).2
        simp [factR] at this
        subst this
        rfl
    have hby : ∀ h t : List PySem.Str, allB ((usedG rs r).map factR) h t = true → ∀ x ∈ usedG rs r, x ∈ t ∧ x ∈ h := fun h t a x hx => by
      rw [all_iff] at a
      exact hold_fact.mp (a _ (List.mem_map.mpr ⟨x, hx, rfl⟩))
    split at h
    · rename_i e
      cases h
      simp only [Bool.or_eq_true, Bool.and_eq_true, List.any_eq_true, decide_eq_true_eq, Bool.not_eq_true'] at e
      refine snd_gone (by simp [kinds]) hb hlen fun h t s a => ?_
      have hx := hby h t a
      rcases e with ⟨⟨x, h1, h2⟩, k | l⟩ | ⟨x, h1, h2⟩
      · exact hold_iff.mpr ⟨fun _ => (head_ru k).mpr ⟨x, h2, (hx x h1).1⟩, fun _ => (head_ru k).mpr ⟨x, h2, (hx x h1).2⟩⟩
      · obtain ⟨y, hy⟩ := List.length_eq_one_iff.mp (by omega : r.h.length = 1)
        rw [hy] at h2
        simp only [List.mem_singleton] at h2
        subst h2
        cases k : r.k with
        | true => exact hold_iff.mpr ⟨fun _ => (head_ch k).mpr (by rw [hy]; simpa using Decidable.em _), fun _ => (head_ch k).mpr (by rw [hy]; simpa using .inl (hx x h1).2)⟩
        | false => exact hold_iff.mpr ⟨fun _ => (head_ru k).mpr ⟨x, by rw [hy]; simp, (hx x h1).1⟩, fun _ => (head_ru k).mpr ⟨x, by rw [hy]; simp, (hx x h1).2⟩⟩
      · exact hold_iff.mpr ⟨fun b => absurd (hx x h1).1 ((body_iff.mp b).2.2 x h2), fun b => absurd (hx x h1).1 ((body_iff.mp b).2.2 x h2)⟩
    · split at h
      · rename_i e
        cases h
        simp only [Bool.not_eq_true', decide_eq_false_iff_not] at e
        have lp := ls_le r.p (usedG rs r)
        have lt := ls_le r.t (usedG rs r)
        refine snd_one (by simp [kinds]) hb hlen (fun h t s a => ?_) (fun L o => ⟨o.h, fun y hy => o.p y (ls_mem.mp hy).1, o.n, fun y hy => o.t y (ls_mem.mp hy).1, o.lh, by have := o.lp; simp only [freshG]; omega, o.ln, by have := o.lt; simp only [freshG]; omega, o.c⟩) (Nat.le_refl _) (wt_lt (Nat.le_refl _) ?_)
        · have hx := hby h t a
          have hbod : ∀ g : List PySem.Str, (∀ x ∈ usedG rs r, x ∈ g) → (bodyB r g t = true ↔ bodyB (freshG r (usedG rs r)) g t = true) := fun g hg => by
            rw [body_iff, body_iff]
            simp only [freshG, ls_mem]
            constructor
            · rintro ⟨a, b, c⟩
              exact ⟨fun y hy => a y hy.1, fun y hy => b y hy.1, c⟩
            · rintro ⟨a, b, c⟩
              refine ⟨fun y hy => ?_, fun y hy => ?_, c⟩
              · by_cases q : y ∈ usedG rs r
                · exact hg y q
                · exact a y ⟨hy, q⟩
              · by_cases q : y ∈ usedG rs r
                · exact (hx y q).1
                · exact b y ⟨hy, q⟩
          rw [hold_iff, hold_iff, ← hbod t fun x q => (hx x q).1, ← hbod h fun x q => (hx x q).2]
          exact Iff.rfl
        · simp only [freshG]
          by_cases q1 : (lsO r.p (usedG rs r)).length < r.p.length
          · omega
          · by_cases q2 : (lsO r.t (usedG rs r)).length < r.t.length
            · omega
            · exact absurd (by unfold freshG; rw [ls_eq q1, ls_eq q2]) e
      · cases h
/-! ### barred -/
theorem hold_den {f : Rl} {us h t : List PySem.Str} (d : isDenB f us = true) (s : ∀ x ∈ h, x ∈ t) (kf : f.k = true → f.h ≠ []) (a : holdB f h t = true) : hp f ∉ t := by
  simp only [isDenB, Bool.and_eq_true, decide_eq_true_eq] at d
  obtain ⟨d1, d2, d3, _⟩ := d
  have fh : f.h = [] := List.length_eq_zero_iff.mp (by omega)
  have fn : f.n = [] := List.length_eq_zero_iff.mp (by omega)
  have k : f.k = false := by
    cases k : f.k with
    | false => rfl
    | true => exact absurd fh (kf k)
  have e := pt_one (r := f) (by simpa using d3)
  intro q
  have b : bodyB f t t = true := by
    rw [body_iff, fn]
    have : ∀ x ∈ pt f, x ∈ t := fun x hx => by rw [e] at hx; simp at hx; rw [hx]; exact q
    exact ⟨fun x hx => this x (List.mem_append.mpr (.inl hx)), fun x hx => this x (List.mem_append.mpr (.inr hx)), by simp⟩
  have := (hold_iff.mp a).1 b
  rw [head_ru k, fh] at this
  simp at this
theorem mem_dens {rs : List Rl} {x : PySem.Str} (h : x ∈ densL rs) : ∃ f ∈ rs, denB f = true ∧ hp f = x := by
  obtain ⟨f, hf, e⟩ := List.mem_map.mp (mem_srtS.mp h)
  have h2 := List.mem_filter.mp hf
  exact ⟨f, mem_srtR.mp h2.1, h2.2, e⟩
theorem snd_barred {L : List PySem.Str} {rs : List Rl} {r : Rl} {s : Stp} (hok : ∀ f ∈ rs, OkR L f) (h : barredO rs r = some s) : Snd rs r s := by
  unfold barredO at h
  split at h
  · cases h
  · rename_i e0
    simp only [Bool.or_eq_true, decide_eq_true_eq, not_or] at e0
    obtain ⟨e1, e2⟩ := e0
    have hmem : ∀ f ∈ byB rs r, f ∈ rs ∧ isDenB f (usedB rs r) = true := fun f hf => by
      have := List.mem_filter.mp hf
      exact ⟨mem_srtR.mp this.1, this.2⟩
    have hb : ∀ f ∈ byB rs r, f ∈ rs ∧ f ≠ r := fun f hf => ⟨(hmem f hf).1, fun q => e2 (by have z := hf; rw [q] at z; exact z)⟩
    have hlen : (byB rs r).length ≤ rs.length := Nat.le_trans (List.length_filter_le _ _) len_srtR
    have hus : ∀ x ∈ usedB rs r, x ∈ densL rs ∧ x ∈ r.h ++ r.p ++ r.n ++ r.t := fun x hx => by simpa [usedB] using hx
    have hby : ∀ h t : List PySem.Str, (∀ x ∈ h, x ∈ t) → allB (byB rs r) h t = true → ∀ x ∈ usedB rs r, x ∉ t := fun h t s a x hx => by
      rw [all_iff] at a
      obtain ⟨f, hf, d, rfl⟩ := mem_dens (hus x hx).1
      have d' : isDenB f (usedB rs r) = true := by
        simp only [denB, Bool.and_eq_true] at d
        simp only [isDenB, Bool.and_eq_true, List.any_eq_true, decide_eq_true_eq]
        refine ⟨by simpa using d.1, by simpa using d.2.1, by simpa using d.2.2, hp f, by rw [pt_one d.2.2]; simp, hx⟩
      exact hold_den d' s (hok f hf).c (a f (List.mem_filter.mpr ⟨mem_srtR.mpr hf, d'⟩))
    split at h
    · rename_i e
      cases h
      simp only [List.any_eq_true, decide_eq_true_eq] at e
      obtain ⟨x, h1, h2⟩ := e
      refine snd_gone (by simp [kinds]) hb hlen fun h t s a => ?_
      have hx := hby h t s a x h1
      have no : ∀ g : List PySem.Str, (∀ x ∈ g, x ∈ t) → bodyB r g t = true → False := fun g sg b => by
        rw [body_iff] at b
        rcases List.mem_append.mp h2 with q | q
        · exact hx (sg x (b.1 x q))
        · exact hx (b.2.1 x q)
      exact hold_iff.mpr ⟨fun b => (no t (fun _ h => h) b).elim, fun b => (no h s b).elim⟩
    · rename_i e
      cases h
      have hfr : ∀ h t : List PySem.Str, (∀ x ∈ h, x ∈ t) → allB (byB rs r) h t = true → (holdB r h t = true ↔ holdB (freshB r (usedB rs r)) h t = true) := fun h t s a => by
        have hx := hby h t s a
        have hbod : ∀ g : List PySem.Str, (bodyB r g t = true ↔ bodyB (freshB r (usedB rs r)) g t = true) := fun g => by
          rw [body_iff, body_iff]
          simp only [freshB, ls_mem]
          constructor
          · rintro ⟨a, b, c⟩
            exact ⟨a, b, fun y hy => c y hy.1⟩
          · rintro ⟨a, b, c⟩
            refine ⟨a, b, fun y hy => ?_⟩
            by_cases q : y ∈ usedB rs r
            · exact hx y q
            · exact c y ⟨hy, q⟩
        have hhead : ∀ g : List PySem.Str, (∀ x ∈ g, x ∈ t) → (headB r g t = true ↔ headB (freshB r (usedB rs r)) g t = true) := fun g sg => by
          cases k : r.k with
          | true =>
            rw [head_ch k, head_ch (by exact k)]
            simp only [freshB, ls_mem]
            constructor
            · exact fun a y hy => a y hy.1
            · intro a y hy
              by_cases q : y ∈ usedB rs r
              · exact .inr (hx y q)
              · exact a y ⟨hy, q⟩
          | false =>
            rw [head_ru k, head_ru (by exact k)]
            simp only [freshB, ls_mem]
            constructor
            · rintro ⟨y, a, b⟩
              exact ⟨y, ⟨a, fun q => hx y q (sg y b)⟩, b⟩
            · rintro ⟨y, a, b⟩
              exact ⟨y, a.1, b⟩
        rw [hold_iff, hold_iff, ← hbod, ← hbod, ← hhead t fun _ h => h, ← hhead h s]
      have lh := ls_le r.h (usedB rs r)
      have ln := ls_le r.n (usedB rs r)
      split
      · rename_i e3
        refine snd_one (by simp [kinds]) hb hlen hfr (fun L o => ⟨fun y hy => o.h y (ls_mem.mp hy).1, o.p, fun y hy => o.n y (ls_mem.mp hy).1, o.t, by have := o.lh; simp only [freshB]; omega, o.lp, by have := o.ln; simp only [freshB]; omega, o.lt, fun q => ?_⟩) (by
          unfold cnt freshB
          simp only
          split
          · exact lh
          · exact Nat.le_refl _) ?_
        · have q' : r.k = true := q
          simp only [q', Bool.not_true, Bool.false_or, decide_eq_true_eq] at e3
          intro z
          simp only [freshB] at z
          rw [z] at e3
          simp at e3
        · have : ∃ x, x ∈ usedB rs r := by
            cases hu : usedB rs r with
            | nil => exact absurd (by rw [hu]; rfl) e1
            | cons y ys => exact ⟨y, by simp⟩
          obtain ⟨x, hx⟩ := this
          have hm := (hus x hx).2
          have hn : x ∉ pt r := fun q => e (by
            simp only [List.any_eq_true, decide_eq_true_eq]
            exact ⟨x, hx, q⟩)
          simp only [pt, List.mem_append, not_or] at hn
          simp only [List.mem_append] at hm
          rcases hm with ((hm | hm) | hm) | hm
          · have := ls_lt hm hx
            exact wt_lt2 this (by simp only [freshB]; omega)
          · exact absurd hm hn.1
          · have := ls_lt hm hx
            exact wt_lt lh (by simp only [freshB]; omega)
          · exact absurd hm hn.2
      · rename_i e3
        simp only [Bool.or_eq_true, Bool.not_eq_true', decide_eq_true_eq, not_or, Bool.not_eq_false] at e3
        obtain ⟨k, e3⟩ := e3
        refine snd_gone (by simp [kinds]) hb hlen fun h t s a => (hfr h t s a).mpr ?_
        have z : lsO r.h (usedB rs r) = [] := List.length_eq_zero_iff.mp (by omega)
        exact hold_iff.mpr ⟨fun _ => (head_ch (by exact k)).mpr (by simp [freshB, z]), fun _ => (head_ch (by exact k)).mpr (by simp [freshB, z])⟩
/-! ### less -/
theorem find_some {α β : Type} {f : α → Option β} {b : β} : ∀ {l : List α}, l.findSome? f = some b → ∃ a ∈ l, f a = some b
  | [], h => by simp at h
  | a :: l, h => by
    rw [List.findSome?_cons] at h
    cases e : f a with
    | some c => rw [e] at h; cases h; exact ⟨a, by simp, e⟩
    | none =>
      rw [e] at h
      obtain ⟨x, hx, hf⟩ := find_some h
      exact ⟨x, List.mem_cons_of_mem _ hx, hf⟩
theorem snd_less {rs : List Rl} {r : Rl} {s : Stp} (h : lessO rs r = some s) : Snd rs r s := by
  obtain ⟨f, hf, e⟩ := find_some h
  unfold less1 at e
  split at e
  · rename_i c
    cases e
    simp only [Bool.and_eq_true, Bool.not_eq_true', decide_eq_false_iff_not] at c
    obtain ⟨hne, c⟩ := c
    have hm := mem_srtR.mp hf
    refine snd_gone (by simp [kinds]) (fun g hg => by simp at hg; subst hg; exact ⟨hm, hne⟩) (by simp; exact List.length_pos_iff.mpr (List.ne_nil_of_mem hm)) fun h t s a => ?_
    rw [all_iff] at a
    have a := a f (by simp)
    rw [hold_iff] at a
    unfold sayB at c
    split at c
    · cases c
    · rename_i k0
      simp only [Bool.or_eq_true, Bool.and_eq_true, decide_eq_true_eq, not_or, not_and, Bool.not_eq_true] at k0
      obtain ⟨kf, kr⟩ := k0
      simp only [win, Bool.and_eq_true, List.all_eq_true, decide_eq_true_eq, List.mem_append] at c
      obtain ⟨c1, c2, c3, c4⟩ := c
      have main : ∀ g : List PySem.Str, (∀ x ∈ g, x ∈ t) → (bodyB f g t = true → headB f g t = true) → bodyB r g t = true → headB r g t = true := fun g sg ag b => by
        have b' := body_iff.mp b
        have hb : bodyB f g t = true := by
          rw [body_iff]
          refine ⟨fun x hx => b'.1 x (c2 x hx), fun x hx => ?_, fun x hx => b'.2.2 x (c3 x hx)⟩
          rcases c4 x hx with q | q
          · exact sg x (b'.1 x q)
          · exact b'.2.1 x q
        obtain ⟨y, h1, h2⟩ := (head_ru kf).mp (ag hb)
        have hy : y ∈ r.h := by
          rcases c1 y h1 with q | q
          · exact q
          · exact absurd (sg y h2) (b'.2.2 y q)
        cases k : r.k with
        | false => exact (head_ru k).mpr ⟨y, hy, h2⟩
        | true =>
          have := kr k
          obtain ⟨z, hz⟩ := List.length_eq_one_iff.mp (by have := List.length_pos_iff.mpr (List.ne_nil_of_mem hy); omega : r.h.length = 1)
          rw [hz] at hy
          simp at hy
          subst hy
          exact (head_ch k).mpr (by rw [hz]; simpa using .inl h2)
      exact hold_iff.mpr ⟨main t (fun _ h => h) a.1, main h s a.2⟩
  · cases e
/-! ### all makers -/
def mks (rs : List Rl) : List (Rl → Option Stp) := [splitO, idleO, neverO, doubleO, shadowO, givenO rs, barredO rs, lessO rs]
theorem snd_of {L : List PySem.Str} {rs : List Rl} (hok : ∀ f ∈ rs, OkR L f) {r : Rl} (hr : r ∈ rs) {m : Rl → Option Stp} (hm : m ∈ mks rs) {s : Stp} (h : m r = some s) : Snd rs r s := by
  simp only [mks, List.mem_cons, List.not_mem_nil, or_false] at hm
  rcases hm with rfl | rfl | rfl | rfl | rfl | rfl | rfl | rfl
  · exact snd_split (hok r hr) h
  · exact snd_idle h
  · exact snd_never h
  · exact snd_double h
  · exact snd_shadow h
  · exact snd_given h
  · exact snd_barred hok h
  · exact snd_less h
end K8
end MKP8b
section MKP8c
/-! k08, the plain laws, part c: rows of steps. -/
namespace K8
open PySem PySem.Spec PyProof.Rows L2 Ev
theorem srtR_idem (rs : List Rl) : srtR (srtR rs) = srtR rs := srtR_congr fun _ => mem_srtR
theorem sum_sub {α : Type} [DecidableEq α] (w : α → Nat) : ∀ {l1 l2 : List α}, l1.Nodup → (∀ x ∈ l1, x ∈ l2) → (l1.map w).sum ≤ (l2.map w).sum
  | [], _, _, _ => by simp
  | x :: l1, l2, nd, h => by
    have hp : l2.Perm (x :: l2.erase x) := List.perm_cons_erase (h x (by simp))
    have e : (l2.map w).sum = ((x :: l2.erase x).map w).sum := (hp.map w).sum_nat
    rw [e, List.map_cons, List.map_cons, List.sum_cons, List.sum_cons]
    have nd' := List.nodup_cons.mp nd
    have := sum_sub w (l1 := l1) (l2 := l2.erase x) nd'.2 fun y hy => by
      have : y ≠ x := fun q => nd'.1 (q ▸ hy)
      exact (List.mem_erase_of_ne this).mpr (h y (List.mem_cons_of_mem _ hy))
    omega
theorem sum_out {α : Type} [DecidableEq α] (w : α → Nat) (a : α) : ∀ {l : List α}, a ∈ l → ((l.filter fun f => !decide (f = a)).map w).sum + w a ≤ (l.map w).sum
  | [], h => by simp at h
  | x :: l, h => by
    by_cases q : x = a
    · subst q
      have : (((l.filter fun f => !decide (f = x)).map w).sum) ≤ (l.map w).sum := by
        clear h
        induction l with
        | nil => simp
        | cons y l ih =>
          rw [List.filter_cons]
          split
          · simp only [List.map_cons, List.sum_cons]; omega
          · simp only [List.map_cons, List.sum_cons]; omega
      simp only [List.filter_cons, decide_true, Bool.not_true, Bool.false_eq_true, if_false, List.map_cons, List.sum_cons]
      omega
    · have h' : a ∈ l := by
        rcases List.mem_cons.mp h with e | e
        · exact absurd e.symm q
        · exact e
      have := sum_out w a h'
      simp only [List.filter_cons, q, decide_false, Bool.not_false, if_true, List.map_cons, List.sum_cons]
      omega
theorem done_mem {rs : List Rl} {s : Stp} {f : Rl} : f ∈ doneL rs s ↔ (f ∈ rs ∧ f ≠ s.r) ∨ f ∈ s.f := by
  unfold doneL
  rw [mem_srtR]
  simp
theorem done_sum (w : Rl → Nat) {rs : List Rl} {s : Stp} (h : s.r ∈ rs) : ((doneL rs s).map w).sum + w s.r ≤ (rs.map w).sum + (s.f.map w).sum := by
  have h1 : ((doneL rs s).map w).sum ≤ ((rs.filter (fun f => !decide (f = s.r)) ++ s.f).map w).sum := sum_sub w (nodup_srtR _) fun x hx => mem_srtR.mp hx
  rw [List.map_append, List.sum_append] at h1
  have h2 := sum_out w s.r h
  omega
/-- books at work -/
structure Bok (L : List PySem.Str) (rs : List Rl) : Prop where
  ok : ∀ r ∈ rs, OkR L r
  cn : cntL rs ≤ 12
theorem Bok.len {L : List PySem.Str} {rs : List Rl} (h : Bok L rs) : rs.length ≤ 12 := by
  have : ∀ l : List Rl, (∀ r ∈ l, OkR L r) → l.length ≤ cntL l := fun l => by
    induction l with
    | nil => intro _; simp
    | cons x l ih =>
      intro q
      have h1 := cnt_pos (q x (by simp))
      have h2 := ih fun r hr => q r (List.mem_cons_of_mem _ hr)
      simp only [cntL, List.length_cons, List.map_cons, List.sum_cons] at h2 ⊢
      omega
  exact Nat.le_trans (this rs h.ok) h.cn
theorem Bok.srt {L : List PySem.Str} {rs : List Rl} (h : Bok L rs) : Bok L (srtR rs) :=
  ⟨fun r hr => h.ok r (mem_srtR.mp hr), Nat.le_trans (sum_sub cnt (nodup_srtR _) fun x hx => mem_srtR.mp hx) h.cn⟩
/-- steps at work -/
structure OkS (L : List PySem.Str) (s : Stp) : Prop where
  r : OkR L s.r
  f : ∀ f ∈ s.f, OkR L f
  b : ∀ f ∈ s.b, OkR L f
  cn : cntL s.f ≤ cnt s.r
  lb : s.b.length ≤ 12
  w : s.w ∈ kinds
theorem OkS.lf {L : List PySem.Str} {s : Stp} (h : OkS L s) : s.f.length ≤ 2 := by
  have h1 : cnt s.r ≤ 2 := by
    unfold cnt
    have := h.r.lh
    split <;> omega
  have : ∀ l : List Rl, (∀ r ∈ l, OkR L r) → l.length ≤ cntL l := fun l => by
    induction l with
    | nil => intro _; simp
    | cons x l ih =>
      intro q
      have h1 := cnt_pos (q x (by simp))
      have h2 := ih fun r hr => q r (List.mem_cons_of_mem _ hr)
      simp only [cntL, List.length_cons, List.map_cons, List.sum_cons] at h2 ⊢
      omega
  have := this s.f h.f
  have := h.cn
  omega
theorem Bok.done {L : List PySem.Str} {rs : List Rl} {s : Stp} (h : Bok L rs) (hs : OkS L s) (hr : s.r ∈ rs) : Bok L (doneL rs s) :=
  ⟨fun f hf => by
    rcases done_mem.mp hf with q | q
    · exact h.ok f q.1
    · exact hs.f f q, by
    have h1 := done_sum cnt hr
    have h2 := hs.cn
    have h3 := h.cn
    simp only [cntL] at *
    omega⟩
open Classical in
noncomputable def mayB (rs : List Rl) (s : Stp) : Bool := (decide (s.w ∈ kinds) && (decide (s.r ∈ rs) && s.b.all fun f => decide (f ∈ rs) && !decide (f = s.r))) && decide (EqvU (s.r :: s.b) (s.f ++ s.b))
theorem may_of {rs : List Rl} {r : Rl} {s : Stp} (h : Snd rs r s) (hr : r ∈ rs) : mayB rs s = true := by
  have sr := h.sr
  subst sr
  unfold mayB
  simp only [Bool.and_eq_true, decide_eq_true_eq, List.all_eq_true, Bool.not_eq_true', decide_eq_false_iff_not]
  exact ⟨⟨h.w, hr, fun f hf => h.b f hf⟩, h.e⟩
theorem may_mem {rs : List Rl} {s : Stp} (h : mayB rs s = true) : s.r ∈ rs := by
  unfold mayB at h
  simp only [Bool.and_eq_true, decide_eq_true_eq] at h
  exact h.1.2.1
theorem done_eqv {rs : List Rl} {s : Stp} (h : mayB rs s = true) : EqvU (doneL rs s) rs := eqv_of fun x y sb => by
  unfold mayB at h
  simp only [Bool.and_eq_true, decide_eq_true_eq, List.all_eq_true, Bool.not_eq_true', decide_eq_false_iff_not] at h
  obtain ⟨⟨_, hr, hb⟩, he⟩ := h
  have he := he x y sb
  rw [show s.r :: s.b = [s.r] ++ s.b from rfl, all_app, all_app] at he
  have key : ∀ A : List Rl, (∀ f ∈ rs, f ≠ s.r → f ∈ A) → allB A x y = true → allB s.b x y = true := fun A hA a => by
    rw [all_iff] at a ⊢
    exact fun f hf => a f (hA f (hb f hf).1 (hb f hf).2)
  constructor
  · intro a
    have hby := key _ (fun f h1 h2 => done_mem.mpr (.inl ⟨h1, h2⟩)) a
    rw [hby, Bool.and_true, Bool.and_true] at he
    rw [all_iff] at a ⊢
    have hf : allB s.f x y = true := all_iff.mpr fun f hf => a f (done_mem.mpr (.inr hf))
    rw [hf] at he
    intro f hfr
    by_cases q : f = s.r
    · subst q
      exact all_iff.mp he _ (by simp)
    · exact a f (done_mem.mpr (.inl ⟨hfr, q⟩))
  · intro a
    have hby := key _ (fun f h1 h2 => h1) a
    rw [hby, Bool.and_true, Bool.and_true] at he
    rw [all_iff] at a ⊢
    have hs : allB [s.r] x y = true := all_iff.mpr fun f hf => a f (by simp at hf; subst hf; exact hr)
    rw [hs] at he
    intro f hfr
    rcases done_mem.mp hfr with q | q
    · exact a f q.1
    · exact all_iff.mp he.symm f q
/-! ### all steps of a book -/
theorem mks_eq (rows : List Rl) : (mk1 ++ mk2 rows).map (·.2) = mks rows := rfl
theorem next_mem {rs : List Rl} {s : Stp} (h : nextO rs = some s) : ∃ m ∈ mks (srtR rs), ∃ r ∈ srtR rs, m r = some s := by
  obtain ⟨p, hp, e⟩ := find_some h
  obtain ⟨r, hr, e⟩ := find_some e
  exact ⟨p.2, by rw [← mks_eq]; exact List.mem_map.mpr ⟨p, hp, rfl⟩, r, hr, e⟩
theorem find_none {α β : Type} {f : α → Option β} : ∀ {l : List α}, l.findSome? f = none ↔ ∀ a ∈ l, f a = none := by
  intro l
  rw [List.findSome?_eq_none_iff]
theorem next_none {rs : List Rl} : nextO rs = none ↔ ∀ m ∈ mks (srtR rs), ∀ r ∈ srtR rs, m r = none := by
  unfold nextO
  rw [find_none]
  constructor
  · intro h m hm r hr
    rw [← mks_eq] at hm
    obtain ⟨p, hp, rfl⟩ := List.mem_map.mp hm
    exact find_none.mp (h p hp) r hr
  · intro h p hp
    exact find_none.mpr fun r hr => h p.2 (by rw [← mks_eq]; exact List.mem_map.mpr ⟨p, hp, rfl⟩) r hr
def rowsO (rs : List Rl) : List Stp := (srtR rs).flatMap fun r => (mks (srtR rs)).filterMap fun m => m r
theorem mem_rows {rs : List Rl} {s : Stp} : s ∈ rowsO rs ↔ ∃ m ∈ mks (srtR rs), ∃ r ∈ srtR rs, m r = some s := by
  unfold rowsO
  simp only [List.mem_flatMap, List.mem_filterMap]
  exact ⟨fun ⟨r, hr, m, hm, e⟩ => ⟨m, hm, r, hr, e⟩, fun ⟨m, hm, r, hr, e⟩ => ⟨r, hr, m, hm, e⟩⟩
theorem rows_nil {rs : List Rl} : rowsO rs = [] ↔ nextO rs = none := by
  rw [next_none, List.eq_nil_iff_forall_not_mem]
  constructor
  · intro h m hm r hr
    cases e : m r with
    | none => rfl
    | some s => exact absurd (mem_rows.mpr ⟨m, hm, r, hr, e⟩) (h s)
  · intro h s hs
    obtain ⟨m, hm, r, hr, e⟩ := mem_rows.mp hs
    rw [h m hm r hr] at e
    cases e
theorem snd_rows {L : List PySem.Str} {rs : List Rl} (hb : Bok L rs) {s : Stp} (h : s ∈ rowsO rs) : s.r ∈ rs ∧ Snd rs s.r s := by
  obtain ⟨m, hm, r, hr, e⟩ := mem_rows.mp h
  have q := snd_of (L := L) (rs := srtR rs) (fun f hf => hb.ok f (mem_srtR.mp hf)) hr hm e
  have sr := q.sr
  subst sr
  exact ⟨mem_srtR.mp hr, q.sr, q.w, fun f hf => ⟨mem_srtR.mp (q.b f hf).1, (q.b f hf).2⟩, q.e, q.ok, q.cn, q.wl, Nat.le_trans q.lb len_srtR⟩
theorem next_row {rs : List Rl} {s : Stp} (h : nextO rs = some s) : s ∈ rowsO rs := mem_rows.mpr (next_mem h)
theorem row_may {L : List PySem.Str} {rs : List Rl} (hb : Bok L rs) {s : Stp} (h : s ∈ rowsO rs) : mayB rs s = true :=
  may_of (snd_rows hb h).2 (snd_rows hb h).1
theorem row_ok {L : List PySem.Str} {rs : List Rl} (hb : Bok L rs) {s : Stp} (h : s ∈ rowsO rs) : OkS L s := by
  obtain ⟨h1, h2⟩ := snd_rows hb h
  exact ⟨hb.ok _ h1, h2.ok L (hb.ok _ h1), fun f hf => hb.ok f (h2.b f hf).1, h2.cn, Nat.le_trans h2.lb hb.len, h2.w⟩
theorem row_wt {L : List PySem.Str} {rs : List Rl} (hb : Bok L rs) {s : Stp} (h : s ∈ rowsO rs) : wtL (doneL rs s) < wtL rs := by
  obtain ⟨h1, h2⟩ := snd_rows hb h
  have := done_sum wt h1
  have := h2.wl
  simp only [wtL] at *
  omega
/-! ### rows of steps -/
inductive Tr : List Rl → List Stp → List Rl → Prop
  | nil (rs : List Rl) : Tr rs [] rs
  | cons {rs rs' : List Rl} {s : Stp} {ss : List Stp} (h : nextO rs = some s) (t : Tr (doneL rs s) ss rs') : Tr rs (s :: ss) rs'
noncomputable def leadsB : List Rl → List Stp → List Rl → Bool
  | now, [], fresh => decide (now = srtR fresh)
  | now, s :: ss, fresh => if mayB now s then leadsB (doneL now s) ss fresh else false
theorem done_srt (rs : List Rl) (s : Stp) : srtR (doneL rs s) = doneL rs s := srtR_idem _
theorem Tr.end {rs rs' : List Rl} {ss : List Stp} (t : Tr rs ss rs') (h : srtR rs = rs) : srtR rs' = rs' := by
  induction t with
  | nil => exact h
  | cons _ _ ih => exact ih (done_srt _ _)
theorem Tr.leads {L : List PySem.Str} {rs rs' : List Rl} {ss : List Stp} (t : Tr rs ss rs') (hb : Bok L rs) (h : srtR rs = rs) : leadsB rs ss rs' = true := by
  induction t with
  | nil rs => unfold leadsB; rw [h]; simp
  | cons e t ih =>
    unfold leadsB
    have hm := row_may hb (next_row e)
    rw [hm, if_pos rfl]
    exact ih (hb.done (row_ok hb (next_row e)) (may_mem hm)) (done_srt _ _)
theorem Tr.eqv {L : List PySem.Str} {rs rs' : List Rl} {ss : List Stp} (t : Tr rs ss rs') (hb : Bok L rs) : EqvU rs' rs := by
  induction t with
  | nil rs => exact EqvU.rfl' _
  | cons e t ih =>
    have hm := row_may hb (next_row e)
    exact (ih (hb.done (row_ok hb (next_row e)) (may_mem hm))).trans (done_eqv hm)
theorem Tr.bok {L : List PySem.Str} {rs rs' : List Rl} {ss : List Stp} (t : Tr rs ss rs') (hb : Bok L rs) : Bok L rs' ∧ ∀ s ∈ ss, OkS L s := by
  induction t with
  | nil rs => exact ⟨hb, by simp⟩
  | cons e t ih =>
    have hm := row_may hb (next_row e)
    have ho := row_ok hb (next_row e)
    obtain ⟨h1, h2⟩ := ih (hb.done ho (may_mem hm))
    exact ⟨h1, fun s hs => by
      rcases List.mem_cons.mp hs with rfl | hs
      · exact ho
      · exact h2 s hs⟩
theorem Tr.len {L : List PySem.Str} {rs rs' : List Rl} {ss : List Stp} (t : Tr rs ss rs') (hb : Bok L rs) : ss.length + wtL rs' ≤ wtL rs := by
  induction t with
  | nil rs => simp
  | cons e t ih =>
    have hm := row_may hb (next_row e)
    have ho := row_ok hb (next_row e)
    have := ih (hb.done ho (may_mem hm))
    have := row_wt hb (next_row e)
    simp only [List.length_cons]
    omega
theorem wt_le {L : List PySem.Str} {r : Rl} (h : OkR L r) : wt r ≤ 63 := by
  have h1 := h.lh
  have h2 := h.lp
  have h3 := h.ln
  have h4 := h.lt
  unfold wt
  exact Nat.le_trans (Nat.mul_le_mul (Nat.pow_le_pow_right (by decide) h1) (show 1 + r.p.length + r.n.length + r.t.length ≤ 7 by omega)) (by decide)
theorem wtL_le {L : List PySem.Str} {rs : List Rl} (h : Bok L rs) : wtL rs ≤ 1000 := by
  have : ∀ l : List Rl, (∀ r ∈ l, OkR L r) → wtL l ≤ 63 * l.length := fun l => by
    induction l with
    | nil => intro _; simp [wtL]
    | cons x l ih =>
      intro q
      have h1 := wt_le (q x (by simp))
      have h2 := ih fun r hr => q r (List.mem_cons_of_mem _ hr)
      simp only [wtL, List.length_cons, List.map_cons, List.sum_cons] at h2 ⊢
      omega
  have h1 := this rs h.ok
  have h2 := h.len
  omega
end K8
end MKP8c
section MKM8o
/-! k08, the mathematics, part o: alike everywhere, steps that may be done. -/
namespace K8
open PySem PySem.Spec PyProof.Rows L2 Ev
def alikeB (A B : List Rl) : Bool := (partO A B).isNone
theorem hold_congr {r : Rl} {h t h' t' : List PySem.Str} (e : ∀ x ∈ ltrs r, (x ∈ h ↔ x ∈ h') ∧ (x ∈ t ↔ x ∈ t')) : holdB r h t = true ↔ holdB r h' t' = true := by
  have main : ∀ {g g' : List PySem.Str}, (∀ x ∈ ltrs r, (x ∈ g ↔ x ∈ g')) → ((bodyB r g t = true ↔ bodyB r g' t' = true) ∧ (headB r g t = true ↔ headB r g' t' = true)) := fun {g g'} hg => by
    constructor
    · rw [body_iff, body_iff]
      exact and_congr (forall_congr' fun x => forall_congr' fun hx => hg x (mem_ltrs.mpr (.inr (.inl hx)))) (and_congr (forall_congr' fun x => forall_congr' fun hx => (e x (mem_ltrs.mpr (.inr (.inr (.inr hx))))).2) (forall_congr' fun x => forall_congr' fun hx => not_congr (e x (mem_ltrs.mpr (.inr (.inr (.inl hx))))).2))
    · cases k : r.k with
      | true =>
        rw [head_ch k, head_ch k]
        exact forall_congr' fun x => forall_congr' fun hx => or_congr (hg x (mem_ltrs.mpr (.inl hx))) (not_congr (e x (mem_ltrs.mpr (.inl hx))).2)
      | false =>
        rw [head_ru k, head_ru k]
        exact exists_congr fun x => and_congr_right fun hx => hg x (mem_ltrs.mpr (.inl hx))
  have m1 := main (g := t) (g' := t') fun x hx => (e x hx).2
  have m2 := main (g := h) (g' := h') fun x hx => (e x hx).1
  rw [hold_iff, hold_iff, m1.1, m1.2, m2.1, m2.2]
theorem all_congr2 {A : List Rl} {h t h' t' : List PySem.Str} (e : ∀ r ∈ A, ∀ x ∈ ltrs r, (x ∈ h ↔ x ∈ h') ∧ (x ∈ t ↔ x ∈ t')) : allB A h t = allB A h' t' := by
  have : allB A h t = true ↔ allB A h' t' = true := by
    rw [all_iff, all_iff]
    exact forall_congr' fun r => forall_congr' fun hr => hold_congr (e r hr)
  cases a : allB A h t <;> cases b : allB A h' t' <;> simp_all
/-- to know of all worlds it is enough to look at those of letters among which theirs are -/
theorem eqv_cut {A B : List Rl} (L : List PySem.Str) (ha : ∀ r ∈ A, ∀ x ∈ ltrs r, x ∈ L) (hb : ∀ r ∈ B, ∀ x ∈ ltrs r, x ∈ L) : EqvU A B ↔ ∀ t ∈ subsF L, ∀ h ∈ subsF t, allB A h t = allB B h t := by
  constructor
  · exact fun e t ht h hh => e h t (subs_in hh)
  · intro e h t s
    have q := e _ (filter_subs (fun x => decide (x ∈ t)) L) _ (filter_subs (fun x => decide (x ∈ h)) _)
    have hc : ∀ x ∈ L, (x ∈ h ↔ x ∈ (L.filter fun x => decide (x ∈ t)).filter fun x => decide (x ∈ h)) ∧ (x ∈ t ↔ x ∈ L.filter fun x => decide (x ∈ t)) := fun x hx => by
      simp only [List.mem_filter, decide_eq_true_eq]
      exact ⟨⟨fun a => ⟨⟨hx, s x a⟩, a⟩, fun a => a.2⟩, ⟨fun a => ⟨hx, a⟩, fun a => a.2⟩⟩
    rw [all_congr2 (A := A) fun r hr x hx => hc x (ha r hr x hx), all_congr2 (A := B) fun r hr x hx => hc x (hb r hr x hx)]
    exact q
theorem alike_iff {A B : List Rl} : alikeB A B = true ↔ EqvU A B := by
  rw [eqv_cut (allLets A B) (fun r hr x hx => mem_allLets.mpr (.inl ⟨r, hr, hx⟩)) (fun r hr x hx => mem_allLets.mpr (.inr ⟨r, hr, hx⟩))]
  unfold alikeB partO
  rw [Option.isNone_iff_eq_none, find_none]
  constructor
  · intro h t ht g hg
    have := find_none.mp (h t (mem_lotsS.mpr ht)) g (mem_lotsS.mpr hg)
    unfold part2 at this
    split at this
    · cases this
    · rename_i q
      simpa using q
  · intro h t ht
    refine find_none.mpr fun g hg => ?_
    have := h t (mem_lotsS.mp ht) g (mem_lotsS.mp hg)
    unfold part2
    rw [this]
    simp
theorem f_alike {A B : List Rl} {μ : Mu} (sa : ∀ r ∈ A, RlS r) (sb : ∀ r ∈ B, RlS r) (la : A.length < 1000) (lb : B.length < 1000) (ha : (A.flatMap ltrs).length < 1900) (hb : (B.flatMap ltrs).length < 1900) (hl : (allLets A B).length ≤ 12) (ht : TxL (allLets A B)) : F_alike_everywhere [.lst (A.map eR), .lst (B.map eR)] μ = some (.bl (alikeB A B), μ) := by
  refine q_fnF rfl (q_ret' (q_bin (q_fn (q_cons (q_var rfl) (q_cons (q_var rfl) q_nil)) (f_first_parting sa sb la lb ha hb hl ht)) q_c ?_))
  unfold alikeB
  cases e : partO A B with
  | none => rfl
  | some v =>
    obtain ⟨t, _, e⟩ := find_some e
    obtain ⟨h, _, e⟩ := find_some e
    unfold part2 at e
    split at e
    · cases e; rfl
    · cases e
/-! ### small books -/
/-- the letters of the law -/
structure OkL (L : List PySem.Str) : Prop where
  tx : TxL L
  len : L.length ≤ 4
theorem OkR.s {L : List PySem.Str} {r : Rl} (hL : OkL L) (h : OkR L r) : RlS r :=
  ⟨⟨fun x hx => hL.tx x (h.h x hx), fun x hx => hL.tx x (h.p x hx), fun x hx => hL.tx x (h.n x hx), fun x hx => hL.tx x (h.t x hx)⟩, by have := h.lh; omega, by have := h.lp; omega, by have := h.ln; omega, by have := h.lt; omega⟩
theorem OkR.lets {L : List PySem.Str} {r : Rl} (h : OkR L r) : ∀ x ∈ ltrs r, x ∈ L := fun x hx => by
  rcases mem_ltrs.mp hx with q | q | q | q
  · exact h.h x q
  · exact h.p x q
  · exact h.n x q
  · exact h.t x q
theorem OkR.llen {L : List PySem.Str} {r : Rl} (h : OkR L r) : (ltrs r).length ≤ 8 := by
  have h1 := h.lh
  have h2 := h.lp
  have h3 := h.ln
  have h4 := h.lt
  simp [ltrs]
  omega
theorem flat_len {L : List PySem.Str} : ∀ {A : List Rl}, (∀ r ∈ A, OkR L r) → (A.flatMap ltrs).length ≤ 8 * A.length
  | [], _ => by simp
  | r :: A, h => by
    have h1 := (h r (by simp)).llen
    have h2 := flat_len (A := A) fun s hs => h s (List.mem_cons_of_mem _ hs)
    rw [List.flatMap_cons, List.length_append, List.length_cons]
    omega
theorem ones : ∀ l : List PySem.Str, (l.map fun _ => 1).sum = l.length
  | [] => rfl
  | x :: l => by rw [List.map_cons, List.sum_cons, ones l, List.length_cons]; omega
theorem nodup_len {l1 : List PySem.Str} : ∀ {l2 : List PySem.Str}, l1.Nodup → (∀ x ∈ l1, x ∈ l2) → l1.length ≤ l2.length := fun {l2} nd h => by
  have := sum_sub (fun _ => 1) nd h
  rwa [ones, ones] at this
theorem allLets_sub {L : List PySem.Str} {A B : List Rl} (ha : ∀ r ∈ A, OkR L r) (hb : ∀ r ∈ B, OkR L r) : ∀ x ∈ allLets A B, x ∈ L := fun x hx => by
  rcases mem_allLets.mp hx with ⟨r, hr, q⟩ | ⟨r, hr, q⟩
  · exact (ha r hr).lets x q
  · exact (hb r hr).lets x q
theorem f_alike' {L : List PySem.Str} {A B : List Rl} {μ : Mu} (hL : OkL L) (oa : ∀ r ∈ A, OkR L r) (ob : ∀ r ∈ B, OkR L r) (la : A.length < 100) (lb : B.length < 100) : F_alike_everywhere [.lst (A.map eR), .lst (B.map eR)] μ = some (.bl (alikeB A B), μ) := by
  have h1 := flat_len oa
  have h2 := flat_len ob
  have hs := allLets_sub oa ob
  exact f_alike (fun r hr => (oa r hr).s hL) (fun r hr => (ob r hr).s hL) (by omega) (by omega) (by omega) (by omega) (by have := nodup_len (nodup_srtS _) hs; have := hL.len; unfold allLets at *; omega) fun x hx => hL.tx x (hs x hx)
/-! ### is_step -/
theorem tx_kinds : TxL kinds := by
  intro x hx
  simp only [kinds, List.mem_cons, List.not_mem_nil, or_false] at hx
  rcases hx with rfl | rfl | rfl | rfl | rfl | rfl | rfl | rfl <;> decide +kernel
theorem gIn_RL {neg : Bool} {r : Rl} {rs : List Rl} {μ : Mu} (hr : RlT r) (h : ∀ r ∈ rs, RlT r) : gIn neg μ (eR r) (.lst (rs.map eR)) = some (.bl (if neg then !decide (r ∈ rs) else decide (r ∈ rs))) := by
  rw [gIn_lst (good_eR hr) (rs_pd h)]
  have : decide (eR r ∈ rs.map eR) = decide (r ∈ rs) := decide_eq_decide.mpr mem_rs
  rw [this]
theorem q_lst1 {m : MA} {v : Va} {fs : Fs} {μ μ1 : Mu} (h : m fs μ = some ([v], μ1)) : eFrz (aLst m) fs μ = some (.lst [v], μ1) := q_frz (by unfold aLst; rw [h]; simp only; rw [if_pos onev])
theorem q_list {a : ME} {fs : Fs} {μ μ1 : Mu} {vs : List Va} (h : a fs μ = some (.tup vs, μ1)) : eFrz (aCal gList (aCons a aNil)) fs μ = some (.lst vs, μ1) := q_frz (q_acal (q_cons h q_nil) rfl)
theorem q_addL {a b : ME} {fs : Fs} {μ : Mu} {x y : List Va} (h1 : a fs μ = some (.lst x, μ)) (h2 : b fs μ = some (.lst y, μ)) (hl : x.length + y.length ≤ 1000000) : eBin gAdd a b fs μ = some (.lst (x ++ y), μ) := q_bin h1 h2 (by simp [gAdd, sz hl])
theorem lc_TRp {me : ME} {t : MT} {i k : Nat} {fs : Fs} {μ : Mu} {xs : List Rl} (p : Rl → Bool) (f : Rl → Va) (h1 : fs[i]? = some (.val (.tup (xs.map eR)))) (hl : xs.length < 1000) (ht : ∀ x ∈ xs, t (sets (wipeF fs [k]) [(k, eR x)]) μ = some (p x, μ)) (h : ∀ x ∈ xs, p x = true → me (sets (wipeF fs [k]) [(k, eR x)]) μ = some (f x, μ)) :
    compF okL me ⟨aSeq (eVar i), bName k, t, [k]⟩ [] fs μ = some ((xs.filter p).map f, μ) := by
  have h2 : aSeq (eVar i) fs μ = some (xs.map eR, μ) := q_seqt (q_var h1)
  exact compF_enc (enc := eR) p f 1000 h2 (fun x hx => ⟨[(k, eR x)], rfl, ht x hx, fun e => ⟨h x hx e, okL_lt (by omega) _⟩⟩) (by have := List.length_filter_le p xs; omega)
theorem filt_true {α : Type} (l : List α) : l.filter (fun _ => true) = l := List.filter_eq_self.mpr fun _ _ => rfl
/-- the parts of a step are small: bent steps, too -/
structure OkB (L : List PySem.Str) (s : Stp) : Prop where
  w : Tx s.w
  r : OkR L s.r
  f : ∀ f ∈ s.f, OkR L f
  b : ∀ f ∈ s.b, OkR L f
  lf : s.f.length ≤ 30
  lb : s.b.length ≤ 30
theorem OkS.b' {L : List PySem.Str} {s : Stp} (h : OkS L s) : OkB L s := ⟨tx_kinds _ h.w, h.r, h.f, h.b, by have := h.lf; omega, by have := h.lb; omega⟩
def firstB (rs : List Rl) (s : Stp) : Bool := decide (s.w ∈ kinds) && (decide (s.r ∈ rs) && s.b.all fun f => decide (f ∈ rs) && !decide (f = s.r))
open Classical in
theorem may_alike {rs : List Rl} {s : Stp} : mayB rs s = (firstB rs s && alikeB (s.r :: s.b) (s.f ++ s.b)) := by
  unfold mayB firstB
  congr 1
  cases q : alikeB (s.r :: s.b) (s.f ++ s.b) with
  | true => exact decide_eq_true (alike_iff.mp q)
  | false => exact decide_eq_false fun z => by rw [alike_iff.mpr z] at q; cases q
theorem f_is_step {L : List PySem.Str} {rs : List Rl} {s : Stp} {μ : Mu} (hL : OkL L) (ho : ∀ r ∈ rs, OkR L r) (hb : OkB L s) : F_is_step [.lst (rs.map eR), eS s] μ = some (.bl (mayB rs s), μ) := by
  have hT : ∀ r ∈ rs, RlT r := fun r hr => ((ho r hr).s hL).toRlT
  have rT : RlT s.r := ((hb.r).s hL).toRlT
  have lf := hb.lf
  have lb := hb.lb
  have bT : ∀ r ∈ s.b, RlT r := fun r hr => ((hb.b r hr).s hL).toRlT
  have e0 := lc_TRp (me := eAnd (eBin (gIn false) (eVar 6) (eVar 0)) (eBin gNe (eVar 6) (eVar 3))) (t := tAll) (i := 5) (k := 6) (fs := [.val (.lst (rs.map eR)), .val (eS s), .val (.str s.w), .val (eR s.r), .val (.tup (s.f.map eR)), .val (.tup (s.b.map eR)), .no]) (μ := μ) (xs := s.b) (fun _ => true) (fun f => .bl (decide (f ∈ rs) && !decide (f = s.r))) rfl (by omega) (fun _ _ => rfl)
    (fun f hf _ => q_and (q_bin (q_var rfl) (q_var rfl) (gIn_RL (neg := false) (bT f hf) hT)) fun _ => q_bin (q_var rfl) (q_var rfl) (gNe_R (bT f hf) rT))
  rw [filt_true] at e0
  have key : ∀ p q r : Bool, (!p || (!q || !r)) = !(p && (q && r)) := by decide
  refine q_fnF rfl (q_then (fs' := [.val (.lst (rs.map eR)), .val (eS s), .val (.str s.w), .val (eR s.r), .val (.tup (s.f.map eR)), .val (.tup (s.b.map eR)), .no]) (q_asgG (q_var rfl) rfl rfl) (q_ifret (μ1 := μ) (p := !firstB rs s) ?_ (fun e => ?_) (fun e => ?_)))
  · unfold firstB
    rw [← key]
    exact q_tor (q_tof (q_bin (q_var rfl) q_c (gIn_tup (neg := true) (good_str hb.w) (strs_pd tx_kinds) |>.trans (by simp)))) fun _ => q_tor (q_tof (q_bin (q_var rfl) (q_var rfl) (gIn_RL (neg := true) rT hT))) fun _ => q_tnot (q_tof (q_all (q_cons (q_frz e0) q_nil)))
  · have e' : firstB rs s = false := by simpa using e
    rw [may_alike, e']
    exact q_ret' q_c
  · have e' : firstB rs s = true := by simpa using e
    rw [may_alike, e', Bool.true_and]
    refine q_ret' (q_fn (q_cons (v := .lst ((s.r :: s.b).map eR)) (q_addL (q_lst1 (q_cons (q_var rfl) q_nil)) (q_list (q_var rfl)) (by simp <;> omega)) (q_cons (v := .lst ((s.f ++ s.b).map eR)) ?_ q_nil)) (f_alike' hL (fun r hr => ?_) (fun r hr => ?_) (by simp <;> omega) (by simp <;> omega)))
    · rw [List.map_append]
      exact q_addL (q_list (q_var rfl)) (q_list (q_var rfl)) (by simp <;> omega)
    · rcases List.mem_cons.mp hr with rfl | hr
      · exact hb.r
      · exact hb.b r hr
    · rcases List.mem_append.mp hr with hr | hr
      · exact hb.f r hr
      · exact hb.b r hr
end K8
end MKM8o
section MKM8p
/-! k08, the mathematics, part p: the law's own worlds. -/
namespace K8
open PySem PySem.Spec PyProof.Rows L2 Ev
/-! ### holds -/
def eTt (xs : List Va) : Prop := ∀ c ∈ xs, plV c = true ∧ (ddD c).depth ≤ 63
theorem emp_dec {α : Type} (f : α → Va) (xs : List α) : decide (Va.lst (xs.map f) = Va.lst []) = xs.isEmpty := by
  cases xs with
  | nil => simp
  | cons x xs => simp
theorem q_neE {α : Type} {f : α → Va} {m : MA} {fs : Fs} {μ : Mu} {xs : List α} (h : m fs μ = some (xs.map f, μ)) (ht : eTt (xs.map f)) : eBin gNe (eFrz m) (eFrz (aLst aNil)) fs μ = some (.bl (!xs.isEmpty), μ) := by
  refine q_bin (q_frz h) (q_frz (vs := []) rfl) ?_
  rw [gNe_good (good_lst ht) (good_lst (by simp)), emp_dec]
theorem q_eqE {α : Type} {f : α → Va} {m : MA} {fs : Fs} {μ : Mu} {xs : List α} (h : m fs μ = some (xs.map f, μ)) (ht : eTt (xs.map f)) : eBin gEq (eFrz m) (eFrz (aLst aNil)) fs μ = some (.bl xs.isEmpty, μ) := by
  refine q_bin (q_frz h) (q_frz (vs := []) rfl) ?_
  rw [gEq_good (good_lst ht) (good_lst (by simp)), emp_dec]
theorem filt_emp {α : Type} (p : α → Bool) : ∀ l : List α, (l.filter p).isEmpty = l.all fun x => !p x
  | [] => rfl
  | x :: l => by
    rw [List.filter_cons]
    cases h : p x with
    | true => simp [h]
    | false => simp [h, filt_emp p l]
def farB (r : Rl) (t far : List PySem.Str) : Bool := (r.p.all fun x => !!decide (x ∈ far)) && (if r.k then !(r.h.all fun x => !(decide (x ∈ t) && !decide (x ∈ far))) else r.h.all fun x => !decide (x ∈ far))
def lawB (r : Rl) (h t : List PySem.Str) : Bool := if !(r.t.all fun x => !!decide (x ∈ t)) || !(r.n.all fun x => !decide (x ∈ t)) then true else !(farB r t h) && !(farB r t t)
theorem far_iff {r : Rl} {t far : List PySem.Str} : farB r t far = true ↔ (∀ x ∈ r.p, x ∈ far) ∧ ¬ (if r.k then ∀ x ∈ r.h, x ∈ far ∨ x ∉ t else ∃ x ∈ r.h, x ∈ far) := by
  unfold farB
  rw [Bool.and_eq_true]
  refine and_congr (by simp) ?_
  cases r.k with
  | true =>
    simp only [if_true, Bool.not_eq_true', List.all_eq_false]
    constructor
    · rintro ⟨x, hx, h⟩ z
      simp at h
      rcases z x hx with q | q
      · exact h.2 q
      · exact q h.1
    · intro z
      refine Classical.byContradiction fun y => z fun x hx => ?_
      by_cases q1 : x ∈ far
      · exact .inl q1
      · refine .inr fun q2 => y ⟨x, hx, ?_⟩
        simp [q1, q2]
  | false => simp
theorem law_hold (r : Rl) (h t : List PySem.Str) : lawB r h t = holdB r h t := by
  have e : lawB r h t = true ↔ holdB r h t = true := by
    rw [hold_iff]
    unfold lawB
    have hd : ∀ g : List PySem.Str, headB r g t = true ↔ (if r.k then ∀ x ∈ r.h, x ∈ g ∨ x ∉ t else ∃ x ∈ r.h, x ∈ g) := fun g => by
      cases k : r.k with
      | true => rw [head_ch k]; simp
      | false => rw [head_ru k]; simp
    split
    · rename_i c
      refine ⟨fun _ => ?_, fun _ => rfl⟩
      have nb : ∀ g : List PySem.Str, ¬ bodyB r g t = true := fun g b => by
        rw [body_iff] at b
        simp only [Bool.or_eq_true, Bool.not_eq_true', List.all_eq_false] at c
        rcases c with ⟨x, hx, c⟩ | ⟨x, hx, c⟩
        · exact c (by simpa using b.2.1 x hx)
        · exact c (by simpa using b.2.2 x hx)
      exact ⟨fun b => absurd b (nb t), fun b => absurd b (nb h)⟩
    · rename_i c
      simp only [Bool.or_eq_true, Bool.not_eq_true', not_or, Bool.not_eq_false, List.all_eq_true] at c
      have hb : ∀ g : List PySem.Str, bodyB r g t = true ↔ ∀ x ∈ r.p, x ∈ g := fun g => by
        rw [body_iff]
        exact ⟨fun b => b.1, fun b => ⟨b, fun x hx => by simpa using c.1 x hx, fun x hx => by simpa using c.2 x hx⟩⟩
      rw [hb, hb, hd, hd, Bool.and_eq_true]
      have nf : ∀ g : List PySem.Str, (!(farB r t g)) = true ↔ ((∀ x ∈ r.p, x ∈ g) → (if r.k then ∀ x ∈ r.h, x ∈ g ∨ x ∉ t else ∃ x ∈ r.h, x ∈ g)) := fun g => by
        have := far_iff (r := r) (t := t) (far := g)
        cases q : farB r t g with
        | true =>
          have := this.mp q
          simp only [Bool.not_true, Bool.false_eq_true, false_iff]
          exact fun z => this.2 (z this.1)
        | false =>
          simp only [Bool.not_false, true_iff]
          intro z
          refine Classical.byContradiction fun y => ?_
          have := this.mpr ⟨z, y⟩
          rw [q] at this
          cases this
      rw [nf, nf]
      exact And.comm
  cases a : lawB r h t <;> cases b : holdB r h t <;> simp_all
abbrev frH (r : Rl) (h t : List PySem.Str) (s9 : Sl) : Fs := [.val (eR r), .val (eT h), .val (eT t), .val (.str (kd r.k)), .val (eT r.h), .val (eT r.p), .val (eT r.n), .val (eT r.t), .no, s9]
theorem q_ifs {ta : MT} {s t : MS} {fs fs' : Fs} {μ μ1 μ2 : Mu} {p : Bool} {fl : Fl} (h1 : ta fs μ = some (p, μ1)) (h2 : p = true → s fs μ1 = some (fl, fs', μ2)) (h3 : p = false → t fs μ1 = some (fl, fs', μ2)) : sIf ta s t fs μ = some (fl, fs', μ2) := by
  unfold sIf; rw [h1]
  cases p with
  | true => exact h2 rfl
  | false => exact h3 rfl
theorem f_law_holds {r : Rl} {h t : List PySem.Str} {μ : Mu} (hr : RlS r) (hh : TxL h) (ht : TxL t) : F_law_holds [eR r, eT h, eT t] μ = some (.bl (holdB r h t), μ) := by
  rw [← law_hold]
  have hx : ∀ {a : List PySem.Str} {p : PySem.Str → Bool}, TxL a → eTt ((a.filter p).map Va.str) := fun h => strs_pd (tx_filter h)
  obtain ⟨fs', μ', ⟨hμ, s9, hfs⟩, e⟩ := forL_find (enc := eT) (g := bName 9) (body := sIf (tOf (eBin gEq (eFrz (compF okL (eVar 8) ⟨aSeq (eVar 5), (bName 8), (tOf (eBin (gIn true) (eVar 8) (eVar 9))), [8]⟩ [])) (eFrz (aLst aNil)))) (sIf (tOf (eBin gEq (eVar 3) (eC (.str "choice")))) (sIf (tOf (eBin gNe (eFrz (compF okL (eVar 8) ⟨aSeq (eVar 4), (bName 8), (tAnd (tOf (eBin (gIn false) (eVar 8) (eVar 2))) (tOf (eBin (gIn true) (eVar 8) (eVar 9)))), [8]⟩ [])) (eFrz (aLst aNil)))) (sRet (eC (.bl false))) sNil) (sIf (tOf (eBin gEq (eFrz (compF okL (eVar 8) ⟨aSeq (eVar 4), (bName 8), (tOf (eBin (gIn false) (eVar 8) (eVar 9))), [8]⟩ [])) (eFrz (aLst aNil)))) (sRet (eC (.bl false))) sNil)) sNil)
    (fun fs μ1 => μ1 = μ ∧ ∃ s9, fs = frH r h t s9) (fun far => if farB r t far then some (.bl false) else none) (xs := [h, t]) (fs := frH r h t .no) (μ := μ)
    (fun far hfar fs μ1 ⟨h0, s9, h2⟩ => by
      subst h0 h2
      have tf : TxL far := by
        rcases List.mem_cons.mp hfar with rfl | q
        · exact hh
        · rw [List.mem_singleton.mp q]; exact ht
      refine ⟨[(9, eT far)], rfl, ?_⟩
      show (∃ _, _) ∨ (∃ _, _)
      have c1 := q_tof (q_eqE (lc_Tp (me := eVar 8) (t := tOf (eBin (gIn true) (eVar 8) (eVar 9))) (i := 5) (k := 8) (fs := frH r h t (.val (eT far))) (μ := μ1) (xs := r.p) (fun x => !decide (x ∈ far)) Va.str rfl hr.lp (fun x hx => q_tof (q_nin (hr.p x hx) tf rfl rfl)) fun x hx _ => q_var rfl) (hx hr.p))
      rw [filt_emp] at c1
      have c2 : tOf (eBin gEq (eVar 3) (eC (.str "choice"))) (frH r h t (.val (eT far))) μ1 = some (r.k, μ1) := q_tof (q_bin (q_var rfl) q_c (kd_choice _))
      have c3 := q_tof (q_neE (lc_Tp (me := eVar 8) (t := tAnd (tOf (eBin (gIn false) (eVar 8) (eVar 2))) (tOf (eBin (gIn true) (eVar 8) (eVar 9)))) (i := 4) (k := 8) (fs := frH r h t (.val (eT far))) (μ := μ1) (xs := r.h) (fun x => decide (x ∈ t) && !decide (x ∈ far)) Va.str rfl hr.lh (fun x hx => q_tand (q_tof (q_in (hr.h x hx) ht rfl rfl)) fun _ => q_tof (q_nin (hr.h x hx) tf rfl rfl)) fun x hx _ => q_var rfl) (hx hr.h))
      rw [filt_emp] at c3
      have c4 := q_tof (q_eqE (lc_Tp (me := eVar 8) (t := tOf (eBin (gIn false) (eVar 8) (eVar 9))) (i := 4) (k := 8) (fs := frH r h t (.val (eT far))) (μ := μ1) (xs := r.h) (fun x => decide (x ∈ far)) Va.str rfl hr.lh (fun x hx => q_tof (q_in (hr.h x hx) tf rfl rfl)) fun x hx _ => q_var rfl) (hx hr.h))
      rw [filt_emp] at c4
      unfold farB
      cases p1 : (r.p.all fun x => !!decide (x ∈ far)) with
      | false =>
        refine .inl ⟨frH r h t (.val (eT far)), μ1, rfl, q_ifs c1 (fun q => ?_) (fun _ => rfl), rfl, _, rfl⟩
        rw [p1] at q; cases q
      | true =>
        cases k : r.k with
        | true =>
          rw [k] at c2
          cases p3 : (r.h.all fun x => !(decide (x ∈ t) && !decide (x ∈ far))) with
          | true =>
            refine .inl ⟨frH r h t (.val (eT far)), μ1, rfl, q_ifs c1 (fun _ => q_ifs c2 (fun _ => q_ifs c3 (fun q => ?_) fun _ => rfl) fun q => ?_) (fun q => ?_), rfl, _, rfl⟩
            · rw [p3] at q; cases q
            · cases q
            · rw [p1] at q; cases q
          | false =>
            refine .inr ⟨.bl false, frH r h t (.val (eT far)), μ1, rfl, q_ifs c1 (fun _ => q_ifs c2 (fun _ => q_ifs c3 (fun q => rfl) fun q => ?_) fun q => ?_) (fun q => ?_), rfl, _, rfl⟩
            · rw [p3] at q; cases q
            · cases q
            · rw [p1] at q; cases q
        | false =>
          rw [k] at c2
          cases p4 : (r.h.all fun x => !decide (x ∈ far)) with
          | false =>
            refine .inl ⟨frH r h t (.val (eT far)), μ1, rfl, q_ifs c1 (fun _ => q_ifs c2 (fun q => ?_) fun _ => q_ifs c4 (fun q => ?_) fun _ => rfl) (fun q => ?_), rfl, _, rfl⟩
            · cases q
            · rw [p4] at q; cases q
            · rw [p1] at q; cases q
          | true =>
            refine .inr ⟨.bl false, frH r h t (.val (eT far)), μ1, rfl, q_ifs c1 (fun _ => q_ifs c2 (fun q => ?_) fun _ => q_ifs c4 (fun q => rfl) fun q => ?_) (fun q => ?_), rfl, _, rfl⟩
            · cases q
            · rw [p4] at q; cases q
            · rw [p1] at q; cases q) ⟨rfl, _, rfl⟩
  subst hμ hfs
  have d1 := q_tof (q_neE (lc_Tp (me := eVar 8) (t := tOf (eBin (gIn true) (eVar 8) (eVar 2))) (i := 7) (k := 8) (fs := frH r h t .no) (μ := μ') (xs := r.t) (fun x => !decide (x ∈ t)) Va.str rfl hr.lt (fun x hx => q_tof (q_nin (hr.t x hx) ht rfl rfl)) fun x hx _ => q_var rfl) (hx hr.t))
  rw [filt_emp] at d1
  have d2 := q_tof (q_neE (lc_Tp (me := eVar 8) (t := tOf (eBin (gIn false) (eVar 8) (eVar 2))) (i := 6) (k := 8) (fs := frH r h t .no) (μ := μ') (xs := r.n) (fun x => decide (x ∈ t)) Va.str rfl hr.ln (fun x hx => q_tof (q_in (hr.n x hx) ht rfl rfl)) fun x hx _ => q_var rfl) (hx hr.n))
  rw [filt_emp] at d2
  have e0 : aSeq (eFrz (aLst (aCons (eVar 1) (aCons (eVar 2) aNil)))) (frH r h t .no) μ' = some ([h, t].map eT, μ') := by
    unfold aSeq
    rw [q_frz (vs := [h, t].map eT) (μ1 := μ')]
    unfold aLst
    rw [q_cons (q_var rfl) (q_cons (q_var rfl) q_nil)]
    simp only
    rw [if_pos (sz (by simp))]
    rfl
  unfold lawB
  refine q_fnF rfl (q_then (fs' := frH r h t .no) (q_asgG (q_var rfl) rfl rfl) (q_ifret (q_tor d1 fun _ => d2) (fun e => ?_) (fun e' => ?_)))
  · rw [if_pos e]
    exact q_ret' q_c
  · rw [if_neg (by rw [e']; decide)]
    cases p1 : farB r t h with
    | true =>
      simp only [List.findSome?_cons, p1, if_true] at e
      exact q_seqrt (q_for e0 e)
    | false =>
      cases p2 : farB r t t with
      | true =>
        simp only [List.findSome?_cons, p1, p2, if_true, Bool.false_eq_true, if_false] at e
        exact q_seqrt (q_for e0 e)
      | false =>
        simp only [List.findSome?_cons, p1, p2, Bool.false_eq_true, if_false, List.findSome?_nil] at e
        exact q_then (q_for e0 e) (q_ret' q_c)
theorem rls_pd {rs : List Rl} (h : ∀ r ∈ rs, RlT r) : eTt (rs.map eR) := rs_pd h
theorem f_law_all {rs : List Rl} {h t : List PySem.Str} {μ : Mu} (hr : ∀ r ∈ rs, RlS r) (hl : rs.length < 1000) (hh : TxL h) (ht : TxL t) : F_law_all [.lst (rs.map eR), eT h, eT t] μ = some (.bl (allB rs h t), μ) := by
  have e := q_eqE (lc_Rp (me := eVar 3) (t := tNot (tOf (eFn F_law_holds (aCons (eVar 3) (aCons (eVar 1) (aCons (eVar 2) aNil)))))) (i := 0) (k := 3) (fs := [.val (.lst (rs.map eR)), .val (eT h), .val (eT t), .no]) (μ := μ) (xs := rs) (fun r => !holdB r h t) eR rfl hl (fun r hx => q_tnot (q_tof (q_fn (q_cons (q_var rfl) (q_cons (q_var rfl) (q_cons (q_var rfl) q_nil))) (f_law_holds (hr r hx) hh ht)))) fun r hx _ => q_var rfl) (rls_pd fun r h => (hr r (List.mem_filter.mp h).1).toRlT)
  rw [filt_emp] at e
  simp only [Bool.not_not] at e
  exact q_fnF rfl (q_ret' e)
end K8
end MKM8p
section MKM8q
/-! k08, the mathematics, part q: the law's lots and worlds. -/
namespace K8
open PySem PySem.Spec PyProof.Rows L2 Ev
def srtLs (ls : List PySem.Str) : List PySem.Str := srtL Va.str unS ls
theorem srtLs_map (ls : List PySem.Str) : (srtLs ls).map Va.str = sortV (ls.map Va.str) := srtL_map unS_str ls
theorem mem_srtLs {ls : List PySem.Str} {x : PySem.Str} : x ∈ srtLs ls ↔ x ∈ ls := mem_srtL unS_str
theorem len_srtLs (ls : List PySem.Str) : (srtLs ls).length = ls.length := (perm_srtL ls unS_str).length_eq
def e2 (r : List PySem.Str) : Va := .tup [.int r.length, eT r]
def d2 : Va → List PySem.Str
  | .tup [_, x] => unT x
  | _ => []
theorem d2_e2 (r : List PySem.Str) : d2 (e2 r) = r := unT_eT r
theorem ok_e2 (rs : List (List PySem.Str)) : okSort (rs.map e2) = true := okSort_by (fun v hv => by
    obtain ⟨x, _, rfl⟩ := List.mem_map.mp hv
    simp [e2, flatK, flatKs, flat_eT])
  (fun a ha b hb => by
    obtain ⟨x, _, rfl⟩ := List.mem_map.mp ha
    obtain ⟨y, _, rfl⟩ := List.mem_map.mp hb
    have h1 := pd_eT x
    have h2 := pd_eT y
    unfold pdV at h1 h2 ⊢
    simp [e2, keyV, keyVs, NestedKey.data, NestedKey.datas, h1, h2, PySem.W.alike, PySem.W.alikeAll, alike_strs])
  (fun a ha => by
    obtain ⟨x, _, rfl⟩ := List.mem_map.mp ha
    have h1 := pd_eT x
    unfold pdV at h1 ⊢
    simp [e2, keyV, keyVs, NestedKey.data, NestedKey.datas, h1, PyData.depth, PyData.depthAll, depth_pds])
def lawL (ls : List PySem.Str) : List (List PySem.Str) := srtL e2 d2 (subsF (srtLs ls))
theorem mem_lawL {ls r : List PySem.Str} : r ∈ lawL ls ↔ r ∈ subsF (srtLs ls) := mem_srtL d2_e2
theorem lawL_in {ls r : List PySem.Str} (h : r ∈ lawL ls) : ∀ x ∈ r, x ∈ ls := fun x hx => mem_srtLs.mp (subs_in (mem_lawL.mp h) x hx)
theorem lawL_len {ls r : List PySem.Str} (h : r ∈ lawL ls) : r.length ≤ ls.length := by
  have := subs_len (srtLs ls) [[]] 0 (by simp) r (mem_lawL.mp h)
  rw [len_srtLs] at this
  omega
theorem lawL_count (ls : List PySem.Str) : (lawL ls).length = 2 ^ ls.length := by
  have := (perm_srtL (subsF (srtLs ls)) d2_e2).length_eq
  rw [subs_count2, len_srtLs] at this
  exact this
theorem q_seqV {a : ME} {fs : Fs} {μ μ1 : Mu} {vs : List Va} (h : a fs μ = some (.lst vs, μ1)) : aSeq a fs μ = some (vs, μ1) := by unfold aSeq; rw [h]
theorem f_law_lots {v : Va} {ls : List PySem.Str} {μ : Mu} (hv : gSorted μ [v] = some (sortV (ls.map Va.str))) (hl : ls.length ≤ 4) : F_law_lots [v] μ = some (.lst ((lawL ls).map eT), μ) := by
  have hs : (srtLs ls).length ≤ 4 := by rw [len_srtLs]; exact hl
  have h1 : aSeq (eFrz (aCal gSorted (aCons (eVar 0) aNil))) [.val v, .val (.lst ((subsF []).map eT)), .no, .no] μ = some ((srtLs ls).map .str, μ) := by
    have := q_frz (q_acal (q_cons (q_var (fs := [.val v, .val (.lst ((subsF []).map eT)), .no, .no]) (i := 0) (μ := μ) rfl) q_nil) hv)
    unfold aSeq
    rw [this, srtLs_map]
  obtain ⟨fs', μ', e, hμ, s2, s3, hfs⟩ := forL_inv (enc := Va.str) (g := bName 2) (body := sAsg 1 (eBin gAdd (eVar 1) (eFrz (compF okL (eBin gAdd (eVar 3) (eTup (aCons (eVar 2) aNil))) ⟨aSeq (eVar 1), (bName 3), tAll, [3]⟩ []))))
    (fun pre fs μ1 => μ1 = μ ∧ ∃ a b, fs = [.val v, .val (.lst ((subsF pre).map eT)), a, b]) (xs := srtLs ls) (pre := []) (fs := [.val v, .val (.lst ((subsF []).map eT)), .no, .no]) (μ := μ)
    (fun pre x hx hpl fs μ1 ⟨h0, a, b, h2⟩ => by
      subst h0 h2
      have lp : pre.length < 4 := by simp at hpl; omega
      have lc := subs_count2 pre
      have lc2 : 2 ^ pre.length ≤ 2 ^ 4 := Nat.pow_le_pow_right (by decide) (by omega)
      have ll := subs_len pre [[]] 0 (by simp)
      have h3 : aSeq (eVar 1) [.val v, .val (.lst ((subsF pre).map eT)), .val (.str x), b] μ1 = some ((subsF pre).map eT, μ1) := by unfold aSeq; rw [q_var rfl]
      have e1 := compF_all (enc := eT) (ok := okL) (me := eBin gAdd (eVar 3) (eTup (aCons (eVar 2) aNil))) (c := ⟨aSeq (eVar 1), bName 3, tAll, [3]⟩) (fs := [.val v, .val (.lst ((subsF pre).map eT)), .val (.str x), b]) (μ := μ1) (xs := subsF pre) (fun r => eT (r ++ [x])) 5000 h3 rfl
        (fun r hr => ⟨[(3, eT r)], rfl, q_add (y := [x]) (q_var rfl) (q_tup (q_cons (q_var rfl) q_nil) onev) (by have := ll r hr; simp only [List.length_singleton]; omega), okL_lt (by omega) _⟩) (by omega)
      refine ⟨[(2, .str x)], [.val v, .val (.lst ((subsF (pre ++ [x])).map eT)), .val (.str x), b], μ1, rfl, ?_, rfl, _, _, rfl⟩
      have e2 : gAdd μ1 (.lst ((subsF pre).map eT)) (.lst ((subsF pre).map fun r => eT (r ++ [x]))) = some (.lst ((subsF (pre ++ [x])).map eT)) := by
        unfold gAdd
        simp only [List.length_map]
        rw [if_pos (sz (by omega)), subs_app, subStep, List.map_append, List.map_map]
        rfl
      exact q_asg (q_bin (q_var rfl) (q_frz e1) e2) rfl) ⟨rfl, _, _, rfl⟩
  subst hμ hfs
  rw [List.nil_append] at e
  have lc := subs_count2 (srtLs ls)
  have lc2 : 2 ^ (srtLs ls).length ≤ 2 ^ 4 := Nat.pow_le_pow_right (by decide) hs
  have ll := subs_len (srtLs ls) [[]] 0 (by simp)
  refine q_fnF rfl (q_then (q_asg (v := .lst ((subsF []).map eT)) (q_frz (by show aLst _ _ _ = _; unfold aLst; rw [q_cons (q_tup q_nil zerov) q_nil]; simp only; rw [if_pos onev]; rfl)) rfl) (q_then (q_for h1 e) (q_ret' (q_frz ?_))))
  let FS : Fs := [.val v, .val (.lst ((subsF (srtLs ls)).map eT)), s2, s3]
  have h4 : aSeq (eVar 1) (frz (fun _ => true) FS) μ' = some ((subsF (srtLs ls)).map eT, μ') := by unfold aSeq; rw [q_var rfl]
  have c1 := compF_all (enc := eT) (ok := okL) (me := eTup (aCons (eCal gLen (aCons (eVar 3) aNil)) (aCons (eVar 3) aNil))) (c := ⟨aSeq (eVar 1), bName 3, tAll, [3]⟩) (fs := frz (fun _ => true) FS) (μ := μ') (xs := subsF (srtLs ls)) e2 5000 h4 rfl
    (fun r hr => ⟨[(3, eT r)], rfl, q_tup (q_cons (q_len (xs := r) (by cases s2 <;> cases s3 <;> rfl)) (q_cons (q_var (by cases s2 <;> cases s3 <;> rfl)) q_nil)) (sz (by simp)), okL_lt (by omega) _⟩) (by omega)
  have h5 : aSeq (eFrz (aCal gSorted (aCons (eFrz (compF okL (eTup (aCons (eCal gLen (aCons (eVar 3) aNil)) (aCons (eVar 3) aNil))) ⟨aSeq (eVar 1), (bName 3), tAll, [3]⟩ [])) aNil))) (frz (fun _ => true) FS) μ' = some ((lawL ls).map e2, μ') := by
    have : gSorted μ' [.lst ((subsF (srtLs ls)).map e2)] = some ((lawL ls).map e2) := by
      unfold gSorted
      simp only [look]
      rw [if_pos (ok_e2 _)]
      unfold lawL
      rw [srtL_map d2_e2]
    exact q_seqV (q_frz (q_acal (q_cons (q_frz c1) q_nil) this))
  have lk := lawL_count ls
  have lk2 : 2 ^ ls.length ≤ 2 ^ 4 := Nat.pow_le_pow_right (by decide) hl
  exact compF_all (enc := e2) (ok := okL) (me := eIdx (eVar 3) (eC (.int 1))) (c := ⟨aSeq (eFrz (aCal gSorted (aCons (eFrz (compF okL (eTup (aCons (eCal gLen (aCons (eVar 3) aNil)) (aCons (eVar 3) aNil))) ⟨aSeq (eVar 1), (bName 3), tAll, [3]⟩ [])) aNil))), bName 3, tAll, [3]⟩) (fs := frz (fun _ => true) FS) (μ := μ') (xs := lawL ls) eT 5000 h5 rfl
    (fun r hr => ⟨[(3, e2 r)], rfl, q_bin (g := gIdx) (v := eT r) (x := e2 r) (q_var (by cases s2 <;> cases s3 <;> rfl)) q_c rfl, okL_lt (by omega) _⟩) (by omega)
theorem srt_T {ls : List PySem.Str} {μ : Mu} : gSorted μ [eT ls] = some (sortV (ls.map Va.str)) := by
  unfold gSorted
  simp only [look, eT]
  rw [if_pos (ok_strs _)]
theorem srt_L {ls : List PySem.Str} {μ : Mu} : gSorted μ [eL ls] = some (sortV (ls.map Va.str)) := by
  unfold gSorted
  simp only [look, eL]
  rw [if_pos (ok_strs _)]
/-! ### worlds -/
abbrev Wl := List PySem.Str × List PySem.Str
def eW (w : Wl) : Va := .tup [eT w.1, eT w.2]
def dW : Va → Wl
  | .tup [x, y] => (unT x, unT y)
  | _ => ([], [])
theorem dW_eW (w : Wl) : dW (eW w) = w := by
  show (unT (eT w.1), unT (eT w.2)) = w
  rw [unT_eT, unT_eT]
theorem ok_eW (rs : List Wl) : okSort (rs.map eW) = true := okSort_by (fun v hv => by
    obtain ⟨x, _, rfl⟩ := List.mem_map.mp hv
    simp [eW, flatK, flatKs, flat_eT])
  (fun a ha b hb => by
    obtain ⟨x, _, rfl⟩ := List.mem_map.mp ha
    obtain ⟨y, _, rfl⟩ := List.mem_map.mp hb
    have h1 := pd_eT x.1
    have h2 := pd_eT y.1
    have h3 := pd_eT x.2
    have h4 := pd_eT y.2
    unfold pdV at h1 h2 h3 h4 ⊢
    simp [eW, keyV, keyVs, NestedKey.data, NestedKey.datas, h1, h2, h3, h4, PySem.W.alike, PySem.W.alikeAll, alike_strs])
  (fun a ha => by
    obtain ⟨x, _, rfl⟩ := List.mem_map.mp ha
    have h1 := pd_eT x.1
    have h3 := pd_eT x.2
    unfold pdV at h1 h3 ⊢
    simp [eW, keyV, keyVs, NestedKey.data, NestedKey.datas, h1, h3, PyData.depth, PyData.depthAll, depth_pds])
def wAt (rs : List Rl) (t : List PySem.Str) : List Wl := ((lawL t).filter fun h => allB rs h t && allB rs t t).map fun h => (h, t)
def wAll (rs : List Rl) (ts : List (List PySem.Str)) : List Wl := ts.flatMap (wAt rs)
def worldsL (rs : List Rl) (L : List PySem.Str) : List Wl := srtL eW dW (wAll rs (lawL L))
theorem wAt_len {rs : List Rl} {t : List PySem.Str} (h : t.length ≤ 4) : (wAt rs t).length ≤ 16 := by
  unfold wAt
  rw [List.length_map]
  have h1 := List.length_filter_le (fun h => allB rs h t && allB rs t t) (lawL t)
  have h2 := lawL_count t
  have h3 : 2 ^ t.length ≤ 2 ^ 4 := Nat.pow_le_pow_right (by decide) h
  omega
theorem wAll_len {rs : List Rl} : ∀ {ts : List (List PySem.Str)}, (∀ t ∈ ts, t.length ≤ 4) → (wAll rs ts).length ≤ 16 * ts.length
  | [], _ => by simp [wAll]
  | t :: ts, h => by
    have h1 := wAt_len (rs := rs) (h t (by simp))
    have h2 := wAll_len (rs := rs) (ts := ts) fun s hs => h s (List.mem_cons_of_mem _ hs)
    unfold wAll at h2 ⊢
    rw [List.flatMap_cons, List.length_append, List.length_cons]
    omega
theorem wAll_app (rs : List Rl) (a : List (List PySem.Str)) (t : List PySem.Str) : wAll rs (a ++ [t]) = wAll rs a ++ wAt rs t := by simp [wAll]
theorem f_law_worlds {rs : List Rl} {L : List PySem.Str} {μ : Mu} (hr : ∀ r ∈ rs, RlS r) (hl : rs.length < 1000) (hL : OkL L) : F_law_worlds [.lst (rs.map eR), eL L] μ = some (.lst ((worldsL rs L).map eW), μ) := by
  have lk := lawL_count L
  have lk2 : 2 ^ L.length ≤ 2 ^ 4 := Nat.pow_le_pow_right (by decide) hL.len
  have h1 : aSeq (eFn F_law_lots (aCons (eVar 1) aNil)) [.val (.lst (rs.map eR)), .val (eL L), .val (.lst ((wAll rs []).map eW)), .no, .no] μ = some ((lawL L).map eT, μ) := by
    have : eFn F_law_lots (aCons (eVar 1) aNil) [.val (.lst (rs.map eR)), .val (eL L), .val (.lst ((wAll rs []).map eW)), .no, .no] μ = some (.lst ((lawL L).map eT), μ) := q_fn (q_cons (q_var rfl) q_nil) (f_law_lots srt_L hL.len)
    unfold aSeq
    rw [this]
  obtain ⟨fs', μ', e, hμ, s3, s4, hfs, hall⟩ := forL_inv (enc := eT) (g := bName 3) (body := sAsg 2 (eBin gAdd (eVar 2) (eFrz (compF okL (eTup (aCons (eVar 4) (aCons (eVar 3) aNil))) ⟨aSeq (eFn F_law_lots (aCons (eVar 3) aNil)), (bName 4), (tAnd (tOf (eFn F_law_all (aCons (eVar 0) (aCons (eVar 4) (aCons (eVar 3) aNil))))) (tOf (eFn F_law_all (aCons (eVar 0) (aCons (eVar 3) (aCons (eVar 3) aNil)))))), [4]⟩ []))))
    (fun pre fs μ1 => μ1 = μ ∧ ∃ a b, fs = [.val (.lst (rs.map eR)), .val (eL L), .val (.lst ((wAll rs pre).map eW)), a, b] ∧ ∀ t ∈ pre, t.length ≤ 4) (xs := lawL L) (pre := []) (fs := [.val (.lst (rs.map eR)), .val (eL L), .val (.lst ((wAll rs []).map eW)), .no, .no]) (μ := μ)
    (fun pre t ht hpl fs μ1 ⟨h0, a, b, h2, h3⟩ => by
      subst h0 h2
      have tl : t.length ≤ 4 := Nat.le_trans (lawL_len ht) hL.len
      have tt : TxL t := fun x hx => hL.tx x (lawL_in ht x hx)
      have lw := wAll_len (rs := rs) h3
      have lt := wAt_len (rs := rs) tl
      have lp : pre.length < 16 := by simp at hpl; omega
      let FS : Fs := [.val (.lst (rs.map eR)), .val (eL L), .val (.lst ((wAll rs pre).map eW)), .val (eT t), b]
      have h4 : aSeq (eFn F_law_lots (aCons (eVar 3) aNil)) FS μ1 = some ((lawL t).map eT, μ1) := by
        have : eFn F_law_lots (aCons (eVar 3) aNil) FS μ1 = some (.lst ((lawL t).map eT), μ1) := q_fn (q_cons (q_var rfl) q_nil) (f_law_lots srt_T tl)
        unfold aSeq
        rw [this]
      have h5 := List.length_filter_le (fun h => allB rs h t && allB rs t t) (lawL t)
      have h6 := lawL_count t
      have h7 : 2 ^ t.length ≤ 2 ^ 4 := Nat.pow_le_pow_right (by decide) tl
      have e1 := compF_enc (enc := eT) (ok := okL) (me := eTup (aCons (eVar 4) (aCons (eVar 3) aNil))) (c := ⟨aSeq (eFn F_law_lots (aCons (eVar 3) aNil)), (bName 4), (tAnd (tOf (eFn F_law_all (aCons (eVar 0) (aCons (eVar 4) (aCons (eVar 3) aNil))))) (tOf (eFn F_law_all (aCons (eVar 0) (aCons (eVar 3) (aCons (eVar 3) aNil)))))), [4]⟩) (fs := FS) (μ := μ1) (xs := lawL t)
        (fun h => allB rs h t && allB rs t t) (fun h => eW (h, t)) 5000 h4 (fun h hh => ⟨[(4, eT h)], rfl, q_tand (q_tof (q_fn (q_cons (q_var rfl) (q_cons (q_var rfl) (q_cons (q_var rfl) q_nil))) (f_law_all hr hl (fun x hx => tt x (lawL_in hh x hx)) tt))) fun _ => q_tof (q_fn (q_cons (q_var rfl) (q_cons (q_var rfl) (q_cons (q_var rfl) q_nil))) (f_law_all hr hl tt tt)),
          fun _ => ⟨q_tup (q_cons (q_var rfl) (q_cons (q_var rfl) q_nil)) (sz (by simp)), okL_lt (by omega) _⟩⟩) (by omega)
      refine ⟨[(3, eT t)], [.val (.lst (rs.map eR)), .val (eL L), .val (.lst ((wAll rs (pre ++ [t])).map eW)), .val (eT t), b], μ1, rfl, q_asg (q_bin (g := gAdd) (v := .lst ((wAll rs (pre ++ [t])).map eW)) (q_var rfl) (q_frz e1) ?_) rfl, rfl, _, _, rfl, fun u hu => ?_⟩
      · rw [wAll_app, List.map_append]
        have : ((lawL t).filter fun h => allB rs h t && allB rs t t).map (fun h => eW (h, t)) = (wAt rs t).map eW := by
          unfold wAt
          rw [List.map_map]
          rfl
        rw [this]
        unfold gAdd
        simp only [List.length_map]
        rw [if_pos (sz (by omega))]
      · rcases List.mem_append.mp hu with q | q
        · exact h3 u q
        · rw [List.mem_singleton.mp q]; exact tl) ⟨rfl, _, _, rfl, by simp⟩
  subst hμ hfs
  rw [List.nil_append] at e
  refine q_fnF rfl (q_then (q_asg (v := .lst ((wAll rs []).map eW)) (q_frz rfl) rfl) (q_then (q_for h1 e) (q_ret' (q_frz (q_acal (q_cons (v := .lst ((wAll rs (lawL L)).map eW)) (q_var (by cases s3 <;> cases s4 <;> rfl)) q_nil) ?_)))))
  unfold gSorted
  simp only [look]
  rw [if_pos (ok_eW _)]
  unfold worldsL
  rw [srtL_map dW_eW]
/-! ### the same worlds -/
theorem all_mono {A : List Rl} {h t : List PySem.Str} (a : allB A h t = true) : allB A t t = true := by
  rw [all_iff] at a ⊢
  intro r hr
  have := hold_iff.mp (a r hr)
  exact hold_iff.mpr ⟨this.1, this.1⟩
theorem mem_worlds {A : List Rl} {L : List PySem.Str} {h t : List PySem.Str} : (h, t) ∈ worldsL A L ↔ t ∈ lawL L ∧ h ∈ lawL t ∧ allB A h t = true ∧ allB A t t = true := by
  unfold worldsL
  rw [mem_srtL dW_eW]
  unfold wAll wAt
  simp only [List.mem_flatMap, List.mem_map, List.mem_filter, Bool.and_eq_true, Prod.mk.injEq]
  constructor
  · rintro ⟨t', h1, h', ⟨h2, h3⟩, rfl, rfl⟩
    exact ⟨h1, h2, h3⟩
  · rintro ⟨h1, h2, h3⟩
    exact ⟨t, h1, h, ⟨h2, h3⟩, rfl, rfl⟩
theorem worlds_eq {A B : List Rl} {L : List PySem.Str} (ha : ∀ r ∈ A, ∀ x ∈ ltrs r, x ∈ L) (hb : ∀ r ∈ B, ∀ x ∈ ltrs r, x ∈ L) : worldsL A L = worldsL B L ↔ EqvU A B := by
  constructor
  · intro e
    rw [eqv_cut (srtLs L) (fun r hr x hx => mem_srtLs.mpr (ha r hr x hx)) (fun r hr x hx => mem_srtLs.mpr (hb r hr x hx))]
    intro t ht h hh
    have hs : ∀ x ∈ h, x ∈ t := subs_in hh
    have hc : ∀ x, (x ∈ h ↔ x ∈ (srtLs t).filter fun x => decide (x ∈ h)) ∧ (x ∈ t ↔ x ∈ t) := fun x => by
      simp only [List.mem_filter, decide_eq_true_eq, mem_srtLs]
      exact ⟨⟨fun a => ⟨hs x a, a⟩, fun a => a.2⟩, trivial⟩
    rw [all_congr2 (A := A) fun r hr x hx => hc x, all_congr2 (A := B) fun r hr x hx => hc x]
    have hm : ((srtLs t).filter fun x => decide (x ∈ h)) ∈ lawL t := mem_lawL.mpr (filter_subs _ _)
    have ht' : t ∈ lawL L := mem_lawL.mpr ht
    have k : allB A ((srtLs t).filter fun x => decide (x ∈ h)) t = true ↔ allB B ((srtLs t).filter fun x => decide (x ∈ h)) t = true := by
      constructor
      · intro a
        have := mem_worlds.mpr ⟨ht', hm, a, all_mono a⟩
        rw [e] at this
        exact (mem_worlds.mp this).2.2.1
      · intro a
        have := mem_worlds.mpr ⟨ht', hm, a, all_mono a⟩
        rw [← e] at this
        exact (mem_worlds.mp this).2.2.1
    exact Bool.eq_iff_iff.mpr k
  · intro e
    have key : ∀ t, wAt A t = wAt B t := fun t => by
      unfold wAt
      congr 1
      apply List.filter_congr
      intro h hh
      rw [e h t (lawL_in hh), e t t fun _ h => h]
    unfold worldsL wAll
    rw [show wAt A = wAt B from funext key]
theorem eW_inj {a b : Wl} : eW a = eW b ↔ a = b := ⟨fun h => by rw [← dW_eW a, h, dW_eW], fun h => by rw [h]⟩
theorem eWs_inj {a b : List Wl} : Va.lst (a.map eW) = Va.lst (b.map eW) ↔ a = b := by
  constructor
  · intro h
    simp only [Va.lst.injEq] at h
    exact List.map_inj_right (fun x y e => eW_inj.mp e) |>.mp h
  · rintro rfl; rfl
theorem good_W {rs : List Rl} {L : List PySem.Str} (hL : OkL L) : Good (.lst ((worldsL rs L).map eW)) := good_lst fun c hc => by
  obtain ⟨⟨h, t⟩, hw, rfl⟩ := List.mem_map.mp hc
  obtain ⟨h1, h2, _⟩ := mem_worlds.mp hw
  have tt : TxL t := fun x hx => hL.tx x (lawL_in h1 x hx)
  have th : TxL h := fun x hx => tt x (lawL_in h2 x hx)
  have a1 := eT_pd th
  have a2 := eT_pd tt
  refine ⟨by simp [eW, plV, plVs, a1.1, a2.1], ?_⟩
  simp only [eW, ddD, ddDs, PyData.depth, PyData.depthAll]
  omega
theorem gEq_W {A B : List Rl} {L : List PySem.Str} {μ : Mu} (hL : OkL L) : gEq μ (.lst ((worldsL A L).map eW)) (.lst ((worldsL B L).map eW)) = some (.bl (decide (worldsL A L = worldsL B L))) := by
  rw [gEq_good (good_W hL) (good_W hL)]
  congr 2
  exact decide_eq_decide.mpr eWs_inj
theorem gNe_W {A B : List Rl} {L : List PySem.Str} {μ : Mu} (hL : OkL L) : gNe μ (.lst ((worldsL A L).map eW)) (.lst ((worldsL B L).map eW)) = some (.bl (!decide (worldsL A L = worldsL B L))) := by
  rw [gNe_good (good_W hL) (good_W hL)]
  congr 3
  exact decide_eq_decide.mpr eWs_inj
end K8
end MKM8q
section MKM8r
/-! k08, the mathematics, part r: what is the same as itself; may; makers. -/
namespace K8
open PySem PySem.Spec PyProof.Rows L2 Ev
/-! ### the same as itself -/
def svP : Nat → Va → Prop
  | 0, _ => False
  | _ + 1, .non => True
  | _ + 1, .bl _ => True
  | _ + 1, .int i => i.natAbs.log2 < 1920 ∧ Tx (toString i : String)
  | _ + 1, .str x => (reprText x).length ≤ sizeLine ∧ Tx (reprText x)
  | n + 1, .tup xs => xs.length ≤ 1000000 ∧ ∀ x ∈ xs, svP n x
  | n + 1, .lst xs => xs.length ≤ 1000000 ∧ ∀ x ∈ xs, svP n x
  | _, _ => False
theorem atI_nat {α : Type} {xs : List α} {k : Nat} (h : k < xs.length) : atI xs (0 + (k : Int)) = some xs[k] := by
  unfold atI ixN
  have h1 : (0 : Int) ≤ 0 + (k : Int) := by omega
  have h2 : (0 : Int) + (k : Int) < (xs.length : Int) := by omega
  rw [if_pos h1, if_pos h2]
  have h3 : ((0 : Int) + (k : Int)).toNat = k := by omega
  rw [h3]
  simp [h]
theorem same_loop {n : Nat} {v : Va} {xs : List Va} {μ : Mu} (hx : ∀ x ∈ xs, R_law_same n [x, x] μ = some (.bl true, μ)) (hv : ∀ k (h : k < xs.length), gIdx μ v (.int (0 + (k : Int))) = some xs[k]) (s2 : Sl) :
    ∃ s2', forL (bName 2) (sIf (tNot (tOf (eFn (R_law_same n) (aCons (eIdx (eVar 0) (eVar 2)) (aCons (eIdx (eVar 1) (eVar 2)) aNil))))) (sRet (eC (.bl false))) sNil) (rangeVa 0 xs.length) [.val v, .val v, s2] μ = some (.nx, [.val v, .val v, s2'], μ) := by
  obtain ⟨fs', μ', e, hμ, a, hfs⟩ := forL_inv (enc := fun k : Nat => Va.int (0 + (k : Int))) (g := bName 2) (body := sIf (tNot (tOf (eFn (R_law_same n) (aCons (eIdx (eVar 0) (eVar 2)) (aCons (eIdx (eVar 1) (eVar 2)) aNil))))) (sRet (eC (.bl false))) sNil)
    (fun pre fs μ1 => μ1 = μ ∧ ∃ a, fs = [.val v, .val v, a]) (xs := List.range xs.length) (pre := []) (fs := [.val v, .val v, s2]) (μ := μ)
    (fun pre k hk _ fs μ1 ⟨h0, a, h2⟩ => by
      subst h0 h2
      have hk' := List.mem_range.mp hk
      have g := hv k hk'
      have i0 : eIdx (eVar 0) (eVar 2) [.val v, .val v, .val (.int (0 + (k : Int)))] μ1 = some (xs[k], μ1) := q_bin (g := gIdx) (q_var rfl) (q_var rfl) g
      have i1 : eIdx (eVar 1) (eVar 2) [.val v, .val v, .val (.int (0 + (k : Int)))] μ1 = some (xs[k], μ1) := q_bin (g := gIdx) (q_var rfl) (q_var rfl) g
      have c := q_tnot (q_tof (q_fn (q_cons i0 (q_cons i1 q_nil)) (hx xs[k] (List.getElem_mem hk'))))
      exact ⟨[(2, .int (0 + (k : Int)))], [.val v, .val v, .val (.int (0 + (k : Int)))], μ1, rfl, q_ifs c (fun q => by cases q) (fun _ => rfl), rfl, _, rfl⟩) ⟨rfl, _, rfl⟩
  subst hμ hfs
  exact ⟨a, e⟩
theorem q_isnon {b : ME} {fs : Fs} {μ : Mu} {v w : Va} {p : Bool} (h : b fs μ = some (v, μ)) (h2 : isV v w = some p) : eBin (gIs false) b (eC w) fs μ = some (.bl p, μ) := q_bin h q_c (by unfold gIs; rw [h2]; rfl)
theorem q_isi {T n : String} {m : ME} {fs : Fs} {μ : Mu} {d : Va} {p : Bool} (h : m fs μ = some (d, μ)) (h1 : tyN d = some n) (h2 : kitB n T = some p) : eIsi T m fs μ = some (.bl p, μ) := by
  unfold eIsi
  rw [h]
  simp only
  rw [h1]
  simp only
  rw [h2]
theorem q_ifF {ta : MT} {s t : MS} {fs : Fs} {μ μ1 μ2 : Mu} {v : Va} (h1 : ta fs μ = some (false, μ1)) (h3 : ∃ fsE, t fs μ1 = some (.rt v, fsE, μ2)) : ∃ fsE, sSeq (sIf ta s sNil) t fs μ = some (.rt v, fsE, μ2) := q_ifret h1 (fun q => by cases q) fun _ => h3
theorem q_ifT {ta : MT} {s t : MS} {fs : Fs} {μ μ1 μ2 : Mu} {v : Va} (h1 : ta fs μ = some (true, μ1)) (h3 : ∃ fsE, s fs μ1 = some (.rt v, fsE, μ2)) : ∃ fsE, sSeq (sIf ta s sNil) t fs μ = some (.rt v, fsE, μ2) := q_ifret h1 (fun _ => h3) fun q => by cases q
theorem same_seq {n : Nat} {v : Va} {xs : List Va} {μ : Mu} (hn : isV v .non = some false) (hb : ∀ b, isV v (.bl b) = some false) {T : String} (hT : tyN v = some T) (k1 : kitB T "str" = some false) (k2 : kitB T "int" = some false) (k3 : kitB T "dict" = some false) (k4 : (kitB T "tuple" = some true ∧ kitB T "list" = some false) ∨ (kitB T "tuple" = some false ∧ kitB T "list" = some true))
    (hl : gLen μ [v] = some (.int xs.length)) (hs : xs.length ≤ 1000000) (hx : ∀ x ∈ xs, R_law_same n [x, x] μ = some (.bl true, μ)) (hv : ∀ k (h : k < xs.length), gIdx μ v (.int (0 + (k : Int))) = some xs[k]) : R_law_same (n + 1) [v, v] μ = some (.bl true, μ) := by
  have c7 : tOr (tAnd (tOf (eIsi "tuple" (eVar 1))) (tNot (tOf (eIsi "tuple" (eVar 0))))) (tAnd (tOf (eIsi "list" (eVar 1))) (tNot (tOf (eIsi "list" (eVar 0))))) [.val v, .val v, .no] μ = some (false, μ) := by
    rcases k4 with ⟨a, b⟩ | ⟨a, b⟩
    · exact q_tor (p := false) (q := false) (q_tand (p := true) (q := false) (q_tof (q_isi (q_var rfl) hT a)) fun _ => q_tnot (q_tof (q_isi (q_var rfl) hT a))) fun _ => q_tand (p := false) (q := false) (q_tof (q_isi (q_var rfl) hT b)) fun q => by cases q
    · exact q_tor (p := false) (q := false) (q_tand (p := false) (q := false) (q_tof (q_isi (q_var rfl) hT a)) fun q => by cases q) fun _ => q_tand (p := true) (q := false) (q_tof (q_isi (q_var rfl) hT b)) fun _ => q_tnot (q_tof (q_isi (q_var rfl) hT b))
  have c8 : tOf (eBin gNe (eCal gLen (aCons (eVar 0) aNil)) (eCal gLen (aCons (eVar 1) aNil))) [.val v, .val v, .no] μ = some (false, μ) := by
    refine q_tof (q_bin (q_cal (q_cons (q_var rfl) q_nil) hl) (q_cal (q_cons (q_var rfl) q_nil) hl) ?_)
    rw [gNe_good ⟨rfl, by simp [ddD, PyData.depth]⟩ ⟨rfl, by simp [ddD, PyData.depth]⟩]
    simp
  have c9 : aRange (aCons (eCal gLen (aCons (eVar 1) aNil)) aNil) [.val v, .val v, .no] μ = some (rangeVa 0 xs.length, μ) := by
    unfold aRange
    rw [q_cons (q_cal (q_cons (q_var rfl) q_nil) hl) q_nil]
    simp only
    rw [if_pos (by omega)]
    simp
  obtain ⟨s2', e⟩ := same_loop hx hv .no
  exact q_fnF rfl (q_ifF (q_tof (q_isnon (q_var rfl) hn)) (q_ifF (q_tof (q_isnon (q_var rfl) (hb true))) (q_ifF (q_tof (q_isnon (q_var rfl) (hb false))) (q_ifF (q_tof (q_isi (q_var rfl) hT k1)) (q_ifF (q_tof (q_isi (q_var rfl) hT k2)) (q_ifF (q_tof (q_isi (q_var rfl) hT k3)) (q_ifF c7 (q_ifF c8 (q_then (q_for c9 e) (q_ret' q_c))))))))))
theorem same_self : ∀ (n : Nat) (v : Va) (μ : Mu), svP n v → R_law_same n [v, v] μ = some (.bl true, μ)
  | 0, v, μ, h => by simp [svP] at h
  | n + 1, .non, μ, h => q_fnF rfl (q_ifT (q_tof (q_isnon (q_var rfl) rfl)) (q_ret' (q_isnon (q_var rfl) rfl)))
  | n + 1, .bl true, μ, h => q_fnF rfl (q_ifF (q_tof (q_isnon (q_var rfl) rfl)) (q_ifT (q_tof (q_isnon (q_var rfl) rfl)) (q_ret' (q_isnon (q_var rfl) rfl))))
  | n + 1, .bl false, μ, h => q_fnF rfl (q_ifF (q_tof (q_isnon (q_var rfl) rfl)) (q_ifF (q_tof (q_isnon (q_var rfl) rfl)) (q_ifT (q_tof (q_isnon (q_var rfl) rfl)) (q_ret' (q_isnon (q_var rfl) rfl)))))
  | n + 1, .int i, μ, h => by
    have g : ∀ μ, gRepr μ [.int i] = some (.str (toString i : String)) := fun μ => by unfold gRepr; simp only; rw [if_pos h.1]
    exact q_fnF rfl (q_ifF (q_tof (q_isnon (q_var rfl) rfl)) (q_ifF (q_tof (q_isnon (q_var rfl) rfl)) (q_ifF (q_tof (q_isnon (q_var rfl) rfl)) (q_ifF (q_tof (q_isi (q_var rfl) rfl (by decide +kernel))) (q_ifT (q_tof (q_isi (p := true) (q_var rfl) rfl (by decide +kernel))) (q_ret' (q_and (p := true) (q := true) (q_isi (q_var rfl) rfl (by decide +kernel)) fun _ => q_and (p := true) (q := true) (q_not (p := false) (q_isi (q_var rfl) rfl (by decide +kernel))) fun _ => q_bin (q_cal (q_cons (q_var rfl) q_nil) (g _)) (q_cal (q_cons (q_var rfl) q_nil) (g _)) (by rw [gEq_str h.2 h.2]; simp))))))))
  | n + 1, .str x, μ, h => by
    have g : ∀ μ, gRepr μ [.str x] = some (.str (reprText x)) := fun μ => by unfold gRepr; simp only; rw [if_pos h.1]
    exact q_fnF rfl (q_ifF (q_tof (q_isnon (q_var rfl) rfl)) (q_ifF (q_tof (q_isnon (q_var rfl) rfl)) (q_ifF (q_tof (q_isnon (q_var rfl) rfl)) (q_ifT (q_tof (q_isi (p := true) (q_var rfl) rfl (by decide +kernel))) (q_ret' (q_and (p := true) (q := true) (q_isi (q_var rfl) rfl (by decide +kernel)) fun _ => q_bin (q_cal (q_cons (q_var rfl) q_nil) (g _)) (q_cal (q_cons (q_var rfl) q_nil) (g _)) (by rw [gEq_str h.2 h.2]; simp)))))))
  | n + 1, .tup xs, μ, h => same_seq (xs := xs) rfl (fun _ => rfl) rfl (by decide +kernel) (by decide +kernel) (by decide +kernel) (.inl ⟨by decide +kernel, by decide +kernel⟩) rfl h.1 (fun x hx => same_self n x μ (h.2 x hx)) fun k hk => atI_nat hk
  | n + 1, .lst xs, μ, h => same_seq (xs := xs) rfl (fun _ => rfl) rfl (by decide +kernel) (by decide +kernel) (by decide +kernel) (.inr ⟨by decide +kernel, by decide +kernel⟩) rfl h.1 (fun x hx => same_self n x μ (h.2 x hx)) fun k hk => atI_nat hk
  | n + 1, .loc k, μ, h => by simp [svP] at h
  | n + 1, .fn x, μ, h => by simp [svP] at h
  | n + 1, .scr ns, μ, h => by simp [svP] at h
theorem same_bl (b : Bool) (μ : Mu) : F_law_same [.bl b, .bl b] μ = some (.bl true, μ) := same_self 6 (.bl b) μ trivial
/-! ### may -/
theorem q_kinds {fs : Fs} {μ : Mu} : eFrz (aLst (aCons (eC (.str "split")) (aCons (eC (.str "idle")) (aCons (eC (.str "never")) (aCons (eC (.str "double")) (aCons (eC (.str "shadow")) (aCons (eC (.str "given")) (aCons (eC (.str "barred")) (aCons (eC (.str "less")) aNil))))))))) fs μ = some (.lst (kinds.map .str), μ) := q_frz (by
  unfold aLst
  rw [show aCons (eC (.str "split")) (aCons (eC (.str "idle")) (aCons (eC (.str "never")) (aCons (eC (.str "double")) (aCons (eC (.str "shadow")) (aCons (eC (.str "given")) (aCons (eC (.str "barred")) (aCons (eC (.str "less")) aNil))))))) fs μ = some (kinds.map .str, μ) from rfl]
  simp only
  rw [if_pos (sz (by simp [kinds]))])
theorem f_law_may {L : List PySem.Str} {rs : List Rl} {s : Stp} {μ : Mu} (hL : OkL L) (ho : ∀ r ∈ rs, OkR L r) (hb : OkB L s) : F_law_may [.lst (rs.map eR), eS s, eL L] μ = some (.bl (mayB rs s), μ) := by
  have hT : ∀ r ∈ rs, RlT r := fun r hr => ((ho r hr).s hL).toRlT
  have rT : RlT s.r := ((hb.r).s hL).toRlT
  have lf := hb.lf
  have lb := hb.lb
  have bT : ∀ r ∈ s.b, RlT r := fun r hr => ((hb.b r hr).s hL).toRlT
  let FS : Fs := [.val (.lst (rs.map eR)), .val (eS s), .val (eL L), .val (.str s.w), .val (eR s.r), .val (.tup (s.f.map eR)), .val (.tup (s.b.map eR)), .no]
  have e0 := q_tof (q_neE (lc_TRp (me := eVar 7) (t := tOr (tOf (eBin (gIn true) (eVar 7) (eVar 0))) (tOf (eBin gEq (eVar 7) (eVar 4)))) (i := 6) (k := 7) (fs := FS) (μ := μ) (xs := s.b) (fun f => !decide (f ∈ rs) || decide (f = s.r)) eR rfl (by omega) (fun f hf => q_tor (q_tof (q_bin (q_var rfl) (q_var rfl) (gIn_RL (neg := true) (bT f hf) hT))) fun _ => q_tof (q_bin (q_var rfl) (q_var rfl) (gEq_R (bT f hf) rT))) fun f hf _ => q_var rfl) (rls_pd fun r h => bT r (List.mem_filter.mp h).1))
  rw [filt_emp] at e0
  have k0 : firstB rs s = (decide (s.w ∈ kinds) && (decide (s.r ∈ rs) && s.b.all fun f => !(!decide (f ∈ rs) || decide (f = s.r)))) := by
    unfold firstB
    have : ∀ f, (decide (f ∈ rs) && !decide (f = s.r)) = !(!decide (f ∈ rs) || decide (f = s.r)) := fun f => by
      cases decide (f ∈ rs) <;> cases decide (f = s.r) <;> rfl
    simp only [this]
  have ca : ∀ r ∈ s.r :: s.b, OkR L r := fun r hr => by
    rcases List.mem_cons.mp hr with rfl | hr
    · exact hb.r
    · exact hb.b r hr
  have cb : ∀ r ∈ s.f ++ s.b, OkR L r := fun r hr => by
    rcases List.mem_append.mp hr with hr | hr
    · exact hb.f r hr
    · exact hb.b r hr
  have we : decide (worldsL (s.r :: s.b) L = worldsL (s.f ++ s.b) L) = alikeB (s.r :: s.b) (s.f ++ s.b) := by
    have h1 := worlds_eq (L := L) (fun r hr => (ca r hr).lets) (fun r hr => (cb r hr).lets)
    cases q : alikeB (s.r :: s.b) (s.f ++ s.b) with
    | true => exact decide_eq_true (h1.mpr (alike_iff.mp q))
    | false => exact decide_eq_false fun z => by rw [alike_iff.mpr (h1.mp z)] at q; cases q
  rw [may_alike, k0]
  refine q_fnF rfl (q_then (fs' := FS) (q_asgG (q_var rfl) rfl rfl) (q_ifret (μ1 := μ) (p := !decide (s.w ∈ kinds) || !decide (s.r ∈ rs)) ?_ (fun e => ?_) (fun e => ?_)))
  · exact q_tor (q_tof (q_bin (q_var rfl) q_kinds (gIn_lst (neg := true) (good_str hb.w) (strs_pd tx_kinds) |>.trans (by simp)))) fun _ => q_tof (q_bin (q_var rfl) (q_var rfl) (gIn_RL (neg := true) rT hT))
  · have : (decide (s.w ∈ kinds) && (decide (s.r ∈ rs) && s.b.all fun f => !(!decide (f ∈ rs) || decide (f = s.r)))) = false := by
      cases a : decide (s.w ∈ kinds) <;> cases b : decide (s.r ∈ rs) <;> simp_all
    rw [this]
    exact q_ret' q_c
  · have e1 : decide (s.w ∈ kinds) = true ∧ decide (s.r ∈ rs) = true := by
      cases a : decide (s.w ∈ kinds) <;> cases b : decide (s.r ∈ rs) <;> simp_all
    rw [e1.1, e1.2, Bool.true_and, Bool.true_and]
    refine q_ifret e0 (fun e => ?_) (fun e => ?_)
    · have : (s.b.all fun f => !(!decide (f ∈ rs) || decide (f = s.r))) = false := by simpa using e
      rw [this]
      exact q_ret' q_c
    · have : (s.b.all fun f => !(!decide (f ∈ rs) || decide (f = s.r))) = true := by simpa using e
      rw [this, Bool.true_and, ← we]
      refine q_ret' (q_bin (q_fn (q_cons (v := .lst ((s.r :: s.b).map eR)) (q_addL (q_lst1 (q_cons (q_var rfl) q_nil)) (q_list (q_var rfl)) (by simp <;> omega)) (q_cons (q_var rfl) q_nil)) (f_law_worlds (fun r hr => (ca r hr).s hL) (by simp <;> omega) hL)) (q_fn (q_cons (v := .lst ((s.f ++ s.b).map eR)) ?_ (q_cons (q_var rfl) q_nil)) (f_law_worlds (fun r hr => (cb r hr).s hL) (by simp <;> omega) hL)) (gEq_W hL))
      rw [List.map_append]
      exact q_addL (q_list (q_var rfl)) (q_list (q_var rfl)) (by simp <;> omega)
/-! ### makers -/
theorem f_law_makers {rs : List Rl} {r : Rl} {μ : Mu} (hs : ∀ r ∈ rs, RlS r) (hl : rs.length < 60) (hr : RlS r) : F_law_makers [.lst (rs.map eR), eR r] μ = some (.lst (((mks rs).map fun m => m r).map eO), μ) := by
  have a1 : eFrz (aLst (aCons (eFn F_split_step (aCons (eVar 1) aNil)) (aCons (eFn F_idle_step (aCons (eVar 1) aNil)) (aCons (eFn F_never_step (aCons (eVar 1) aNil)) (aCons (eFn F_double_step (aCons (eVar 1) aNil)) (aCons (eFn F_shadow_step (aCons (eVar 1) aNil)) aNil)))))) [.val (.lst (rs.map eR)), .val (eR r), .no] μ = some (.lst [eO (splitO r), eO (idleO r), eO (neverO r), eO (doubleO r), eO (shadowO r)], μ) := q_frz (by
    unfold aLst
    rw [q_cons (q_fn (q_cons (q_var rfl) q_nil) (f_split_step hr)) (q_cons (q_fn (q_cons (q_var rfl) q_nil) (f_idle_step hr)) (q_cons (q_fn (q_cons (q_var rfl) q_nil) (f_never_step hr)) (q_cons (q_fn (q_cons (q_var rfl) q_nil) (f_double_step hr)) (q_cons (q_fn (q_cons (q_var rfl) q_nil) (f_shadow_step hr)) q_nil))))]
    simp only
    rw [if_pos five])
  have a2 : eFrz (aLst (aCons (eFn F_given_step (aCons (eVar 1) (aCons (eVar 0) aNil))) (aCons (eFn F_barred_step (aCons (eVar 1) (aCons (eVar 0) aNil))) (aCons (eFn F_less_step (aCons (eVar 1) (aCons (eVar 0) aNil))) aNil)))) [.val (.lst (rs.map eR)), .val (eR r), .val (.lst [eO (splitO r), eO (idleO r), eO (neverO r), eO (doubleO r), eO (shadowO r)])] μ = some (.lst [eO (givenO rs r), eO (barredO rs r), eO (lessO rs r)], μ) := q_frz (by
    unfold aLst
    rw [q_cons (q_fn (q_cons (q_var rfl) (q_cons (q_var rfl) q_nil)) (f_given_step hs hl hr)) (q_cons (q_fn (q_cons (q_var rfl) (q_cons (q_var rfl) q_nil)) (f_barred_step hs hl hr)) (q_cons (q_fn (q_cons (q_var rfl) (q_cons (q_var rfl) q_nil)) (f_less_step hs hl hr)) q_nil))]
    simp only
    rw [if_pos (sz (by simp))])
  exact q_fnF rfl (q_then (q_asg a1 rfl) (q_ret' (q_addL (x := [eO (splitO r), eO (idleO r), eO (neverO r), eO (doubleO r), eO (shadowO r)]) (y := [eO (givenO rs r), eO (barredO rs r), eO (lessO rs r)]) (q_var rfl) a2 (by simp))))
end K8
end MKM8r
section MKM8s
/-! k08, the mathematics, part s: what is drawn. -/
namespace K8
open PySem PySem.Spec PyProof.Rows L2 Ev
/-- the box -/
def Bx (ds : List Int) (n : Int) : Mu := [[.lst (ds.map .int), .int n]]
def OkM (μ : Mu) : Prop := ∃ ds n, 0 ≤ n ∧ μ = Bx ds n
theorem q_gint {f : Int → Int → Option Int} {a b : ME} {fs : Fs} {μ μ1 μ2 : Mu} {i j k : Int} (h1 : a fs μ = some (.int i, μ1)) (h2 : b fs μ1 = some (.int j, μ2)) (h3 : f i j = some k) : eBin (gInt f) a b fs μ = some (.int k, μ2) := q_bin h1 h2 (by unfold gInt; simp only; rw [h3]; rfl)
theorem q_int1 {a : ME} {fs : Fs} {μ μ1 : Mu} {i : Int} (h : a fs μ = some (.int i, μ1)) : eCal gInt1 (aCons a aNil) fs μ = some (.int i, μ1) := q_cal (q_cons h q_nil) rfl
theorem mod_ok {i m : Int} (h : 0 < m) : iMod i m = some (i % m) := by unfold iMod; rw [if_pos h]
theorem mulR {i j : Int} (h : -(2 ^ 64) < j ∧ j < 2 ^ 64) : iMul i j = some (i * j) := by unfold iMul; rw [if_pos (.inr h)]
theorem mulL {i j : Int} (h : -(2 ^ 64) < i ∧ i < 2 ^ 64) : iMul i j = some (i * j) := by unfold iMul; rw [if_pos (.inl h)]
theorem f_draw {μ : Mu} {m : Int} (hμ : OkM μ) (hm : 0 < m) : ∃ i μ', F_law_draw [.loc 0, .int m] μ = some (.int i, μ') ∧ 0 ≤ i ∧ i < m ∧ OkM μ' := by
  obtain ⟨ds, n, hn, rfl⟩ := hμ
  have s1 : sSetC (eBin gAdd (eIdx (eVar 0) (eC (.int 1))) (eC (.int 1))) (eVar 0) (eC (.int 1)) [.val (.loc 0), .val (.int m)] (Bx ds n) = some (.nx, [.val (.loc 0), .val (.int m)], Bx ds (n + 1)) := rfl
  by_cases c : (ds.length : Int) < n + 1
  · have h1 : tOf (eBin (gCmp fun i j => decide (j < i)) (eIdx (eVar 0) (eC (.int 1))) (eCal gLen (aCons (eIdx (eVar 0) (eC (.int 0))) aNil))) [.val (.loc 0), .val (.int m)] (Bx ds (n + 1)) = some (true, Bx ds (n + 1)) := by
      refine q_tof (q_bin (x := .int (n + 1)) (y := .int ds.length) (μ1 := Bx ds (n + 1)) rfl (q_cal (q_cons (v := .lst (ds.map .int)) rfl q_nil) (by simp [gLen, look])) ?_)
      show some (Va.bl (decide ((ds.length : Int) < n + 1))) = _
      rw [decide_eq_true c]
    refine ⟨((n + 1) * 7 + 3) % m, Bx ds (n + 1), q_fnF rfl (q_then s1 (q_ifT h1 (q_ret' ?_))), Int.emod_nonneg _ (by omega), Int.emod_lt_of_pos _ hm, ds, n + 1, by omega, rfl⟩
    exact q_gint (q_int1 (q_bin (g := gAdd) (q_gint (i := n + 1) rfl q_c (mulR (by decide))) q_c rfl)) (q_var rfl) (mod_ok hm)
  · have h1 : tOf (eBin (gCmp fun i j => decide (j < i)) (eIdx (eVar 0) (eC (.int 1))) (eCal gLen (aCons (eIdx (eVar 0) (eC (.int 0))) aNil))) [.val (.loc 0), .val (.int m)] (Bx ds (n + 1)) = some (false, Bx ds (n + 1)) := by
      refine q_tof (q_bin (x := .int (n + 1)) (y := .int ds.length) (μ1 := Bx ds (n + 1)) rfl (q_cal (q_cons (v := .lst (ds.map .int)) rfl q_nil) (by simp [gLen, look])) ?_)
      show some (Va.bl (decide ((ds.length : Int) < n + 1))) = _
      rw [decide_eq_false c]
    obtain ⟨k, rfl⟩ := Int.eq_ofNat_of_zero_le hn
    have hk : k < ds.length := by omega
    refine ⟨ds[k] % m, Bx ds (k + 1), q_fnF rfl (q_then s1 (q_ifF h1 (q_ret' ?_))), Int.emod_nonneg _ (by omega), Int.emod_lt_of_pos _ hm, ds, k + 1, by omega, rfl⟩
    refine q_gint (q_int1 (q_bin (g := gIdx) (x := .lst (ds.map .int)) (y := .int ((k : Int) + 1 - 1)) (μ1 := Bx ds (k + 1)) rfl (q_gint (i := (k : Int) + 1) rfl q_c rfl) ?_)) (q_var rfl) (mod_ok hm)
    have := atI_nat (xs := ds.map Va.int) (k := k) (by simpa using hk)
    rw [show (0 : Int) + (k : Int) = (k : Int) + 1 - 1 by omega] at this
    show atI (ds.map Va.int) ((k : Int) + 1 - 1) = _
    rw [this]
    simp
/-! ### pick -/
theorem f_pick {μ : Mu} {vs : List Va} (hμ : OkM μ) (hv : vs ≠ []) : ∃ v ∈ vs, ∃ μ', F_law_pick [.loc 0, .lst vs] μ = some (v, μ') ∧ OkM μ' := by
  obtain ⟨i, μ', e, h1, h2, h3⟩ := f_draw hμ (m := 1000) (by decide)
  have hl : 0 < vs.length := List.length_pos_iff.mpr hv
  have g1 : (0 : Int) ≤ i % (vs.length : Int) := Int.emod_nonneg _ (by omega)
  have g2 : i % (vs.length : Int) < (vs.length : Int) := Int.emod_lt_of_pos _ (by omega)
  obtain ⟨k, hk⟩ := Int.eq_ofNat_of_zero_le g1
  have hk' : k < vs.length := by omega
  refine ⟨vs[k], List.getElem_mem hk', μ', q_fnF rfl (q_ret' (q_bin (g := gIdx) (x := .lst vs) (y := .int (k : Int)) (q_var rfl) ?_ ?_)), h3⟩
  · rw [← hk]
    exact q_gint (q_int1 (q_fn (q_cons (q_var rfl) (q_cons q_c q_nil)) e)) (q_cal (q_cons (v := .lst vs) (q_var rfl) q_nil) rfl) (mod_ok (by omega))
  · have := atI_nat hk'
    rw [show (0 : Int) + (k : Int) = (k : Int) by omega] at this
    exact this
/-! ### mixed -/
theorem noLocs_str : ∀ xs : List PySem.Str, noLocs (xs.map Va.str) = true
  | [] => rfl
  | x :: xs => by simp [noLocs, noLoc, noLocs_str xs]
theorem map_er {α β : Type} (f : α → β) : ∀ (l : List α) (j : Nat), (l.map f).eraseIdx j = (l.eraseIdx j).map f
  | [], _ => rfl
  | x :: l, 0 => rfl
  | x :: l, j + 1 => by simp [map_er f l j]
theorem f_mixed {μ : Mu} {row : List PySem.Str} (hμ : OkM μ) (hr : row.length ≤ 1000) : ∃ f μ', F_law_mixed [.loc 0, eL row] μ = some (eL f, μ') ∧ OkM μ' ∧ f.length = row.length ∧ ∀ x ∈ f, x ∈ row := by
  obtain ⟨fs', μ', e, hμ', left, found, s4, hfs, hl, hf, hx, hy⟩ := forL_inv (enc := fun k : Nat => Va.int (0 + (k : Int))) (g := bName 4) (body := sAppPop 3 2 (eBin (gInt iMod) (eCal gInt1 (aCons (eFn F_law_draw (aCons (eVar 0) (aCons (eC (.int 1000)) aNil))) aNil)) (eB (eCal gLen (aCons (eVar 2) aNil)))))
    (fun pre fs μ1 => OkM μ1 ∧ ∃ left found s4, fs = [.val (.loc 0), .val (eL row), .own (left.map .str), .own (found.map .str), s4] ∧ left.length + pre.length = row.length ∧ found.length = pre.length ∧ (∀ x ∈ left, x ∈ row) ∧ ∀ x ∈ found, x ∈ row) (xs := List.range row.length) (pre := []) (fs := [.val (.loc 0), .val (eL row), .own (row.map .str), .own [], .no]) (μ := μ)
    (fun pre k hk hpl fs μ1 ⟨h0, left, found, s4, h2, h3, h4, h5, h6⟩ => by
      subst h2
      have lp : pre.length < row.length := by simp at hpl; omega
      have ll : 0 < left.length := by omega
      obtain ⟨i, μ2, e1, g1, g2, g3⟩ := f_draw h0 (m := 1000) (by decide)
      have q1 : (0 : Int) ≤ i % (left.length : Int) := Int.emod_nonneg _ (by omega)
      have q2 : i % (left.length : Int) < (left.length : Int) := Int.emod_lt_of_pos _ (by omega)
      obtain ⟨j, hj⟩ := Int.eq_ofNat_of_zero_le q1
      have hj' : j < left.length := by omega
      let FS : Fs := [.val (.loc 0), .val (eL row), .own (left.map .str), .own (found.map .str), .val (.int (0 + (k : Int)))]
      have eb : eB (eCal gLen (aCons (eVar 2) aNil)) FS μ2 = some (.int left.length, μ2) := by
        have hb : (bor FS)[2]? = some (.val (eL left)) := by
          show some (if noLocs (left.map Va.str) then Sl.val (.lst (left.map Va.str)) else .no) = _
          rw [noLocs_str, if_pos rfl]
          rfl
        unfold eB
        rw [q_lenL (xs := left) hb]
        rfl
      have em : eBin (gInt iMod) (eCal gInt1 (aCons (eFn F_law_draw (aCons (eVar 0) (aCons (eC (.int 1000)) aNil))) aNil)) (eB (eCal gLen (aCons (eVar 2) aNil))) FS μ1 = some (.int (i % (left.length : Int)), μ2) := q_gint (q_int1 (q_fn (q_cons (q_var rfl) (q_cons q_c q_nil)) e1)) eb (mod_ok (by omega))
      refine ⟨[(4, .int (0 + (k : Int)))], [.val (.loc 0), .val (eL row), .own ((left.eraseIdx j).map .str), .own ((found ++ [left[j]]).map .str), .val (.int (0 + (k : Int)))], μ2, rfl, ?_, g3, left.eraseIdx j, found ++ [left[j]], _, rfl, ?_, ?_, ?_, ?_⟩
      · show sAppPop 3 2 _ FS μ1 = _
        unfold sAppPop
        show (match (_ : Option (Va × Mu)) with | some (.int k, μ') => _ | _ => none) = _
        rw [em]
        have pi : popIx (i % (left.length : Int)) (left.map Va.str).length = some j := by
          unfold popIx seqIndex?
          have b1 : -(2 ^ 63) ≤ i % (left.length : Int) ∧ i % (left.length : Int) < 2 ^ 63 := by omega
          rw [if_pos b1, hj]
          simp
          omega
        simp only [pi]
        have gj : (left.map Va.str)[j]? = some (.str left[j]) := by simp [hj']
        rw [gj]
        simp only
        have bb : (found.map Va.str).length < sizeLine ∧ (3 : Nat) ≠ 2 := ⟨by rw [List.length_map]; exact big _ (by omega), by decide⟩
        rw [if_pos bb]
        have er : (left.map Va.str).eraseIdx j = (left.eraseIdx j).map Va.str := by
          exact map_er _ _ _
        rw [er, List.map_append]
        rfl
      · have := List.length_eraseIdx_of_lt hj'
        simp only [List.length_append, List.length_singleton]
        omega
      · simp only [List.length_append, List.length_singleton]
        omega
      · exact fun x hx => h5 x (List.mem_of_mem_eraseIdx hx)
      · intro x hx
        rcases List.mem_append.mp hx with q | q
        · exact h6 x q
        · rw [List.mem_singleton.mp q]
          exact h5 _ (List.getElem_mem hj')) ⟨hμ, row, [], .no, rfl, by simp, rfl, fun _ h => h, by simp⟩
  subst hfs
  have c9 : aRange (aCons (eCal gLen (aCons (eVar 1) aNil)) aNil) [.val (.loc 0), .val (eL row), .own (row.map .str), .own [], .no] μ = some ((List.range row.length).map fun k : Nat => Va.int (0 + (k : Int)), μ) := by
    unfold aRange
    rw [q_cons (q_lenL (xs := row) rfl) q_nil]
    simp only
    rw [if_pos (by omega)]
    simp [rangeVa]
  rw [List.nil_append] at hf
  refine ⟨found, μ', q_fnF rfl (q_then (q_own (q_acal (q_cons (q_var rfl) q_nil) rfl) rfl) (q_then (q_own q_lstnil rfl) (q_then (q_for c9 e) (q_ret' ?_)))), hμ', by rw [hf, List.length_range], hy⟩
  exact q_var rfl
/-! ### a rule -/
theorem cut_take (xs : List PySem.Str) (j : Nat) : cutA (xs.map Va.str) none (some (j : Int)) = (xs.take j).map Va.str := by
  unfold cutA
  rw [HT.sIx_none, HT.sIx_nat]
  simp <;> omega
theorem q_take {a e : ME} {fs : Fs} {μ μ1 μ2 : Mu} {xs : List PySem.Str} {j : Int} (h1 : a fs μ = some (eL xs, μ1)) (h2 : e fs μ1 = some (.int j, μ2)) (hj : 0 ≤ j) : eSl a oNone (oSome e) fs μ = some (eL (xs.take j.toNat), μ2) := by
  obtain ⟨k, rfl⟩ := Int.eq_ofNat_of_zero_le hj
  unfold eSl
  rw [h1]
  simp only [oNone, oSome, h2, eL]
  rw [cut_take]
  simp
theorem q_stup {fs : Fs} {μ : Mu} {i : Nat} {xs : List PySem.Str} (h : fs[i]? = some (.val (eL xs))) : eCal gTuple (aCons (eFrz (aCal gSorted (aCons (eVar i) aNil))) aNil) fs μ = some (eT (srtLs xs), μ) :=
  q_cal (q_cons (q_frz (q_acal (q_cons (q_var h) q_nil) srt_L)) q_nil) (by simp [gTuple, gList, look, eT, srtLs_map])
theorem mem_take {xs : List PySem.Str} {j : Nat} {L : List PySem.Str} (h : ∀ x ∈ xs, x ∈ L) : ∀ x ∈ xs.take j, x ∈ L := fun x hx => h x (List.mem_of_mem_take hx)
theorem f_rule {L : List PySem.Str} {μ : Mu} (hμ : OkM μ) (hl : 3 ≤ L.length) (hl2 : L.length ≤ 1000) : ∃ r μ', F_law_rule [.loc 0, eL L] μ = some (eR r, μ') ∧ OkM μ' ∧ OkR L r := by
  obtain ⟨d1, μ1, e1, a1, b1, o1⟩ := f_draw hμ (m := 5) (by decide)
  obtain ⟨m1, μ2, e2, o2, l2, i2⟩ := f_mixed o1 hl2
  have hH : ∃ j μ3, eIf (tOf (eVar 2)) (eBin gAdd (eC (.int 1)) (eFn F_law_draw (aCons (eVar 0) (aCons (eC (.int 2)) aNil)))) (eFn F_law_pick (aCons (eVar 0) (aCons (eFrz (aLst (aCons (eC (.int 1)) (aCons (eC (.int 1)) (aCons (eC (.int 1)) (aCons (eC (.int 0)) (aCons (eC (.int 2)) aNil))))))) aNil))) [.val (.loc 0), .val (eL L), .val (.bl (decide (d1 = 0))), .no, .no, .no, .no] μ2 = some (.int j, μ3) ∧ OkM μ3 ∧ 0 ≤ j ∧ j ≤ 2 ∧ (decide (d1 = 0) = true → 1 ≤ j) := by
    cases hd : decide (d1 = 0) with
    | true =>
      obtain ⟨d, μ3, e3, a3, b3, o3⟩ := f_draw o2 (m := 2) (by decide)
      exact ⟨1 + d, μ3, q_if (q_tof (q_var rfl)) (fun _ => q_bin (g := gAdd) q_c (q_fn (q_cons (q_var rfl) (q_cons q_c q_nil)) e3) rfl) (fun q => by cases q), o3, by omega, by omega, fun _ => by omega⟩
    | false =>
      obtain ⟨v, hv, μ3, e3, o3⟩ := f_pick o2 (vs := [.int 1, .int 1, .int 1, .int 0, .int 2]) (by simp)
      have hv' : ∃ j : Int, v = .int j ∧ 0 ≤ j ∧ j ≤ 2 := by
        simp only [List.mem_cons, List.not_mem_nil, or_false] at hv
        rcases hv with rfl | rfl | rfl | rfl | rfl <;> exact ⟨_, rfl, by decide, by decide⟩
      obtain ⟨j, rfl, j1, j2⟩ := hv'
      have el : eFrz (aLst (aCons (eC (.int 1)) (aCons (eC (.int 1)) (aCons (eC (.int 1)) (aCons (eC (.int 0)) (aCons (eC (.int 2)) aNil)))))) [.val (.loc 0), .val (eL L), .val (.bl false), .no, .no, .no, .no] μ2 = some (.lst [.int 1, .int 1, .int 1, .int 0, .int 2], μ2) := q_frz (by
        unfold aLst
        rw [show aCons (eC (.int 1)) (aCons (eC (.int 1)) (aCons (eC (.int 1)) (aCons (eC (.int 0)) (aCons (eC (.int 2)) aNil)))) [.val (.loc 0), .val (eL L), .val (.bl false), .no, .no, .no, .no] μ2 = some ([.int 1, .int 1, .int 1, .int 0, .int 2], μ2) from rfl]
        simp only
        rw [if_pos five])
      exact ⟨j, μ3, q_if (q_tof (q_var rfl)) (fun q => by cases q) (fun _ => q_fn (q_cons (q_var rfl) (q_cons el q_nil)) e3), o3, j1, j2, fun q => by cases q⟩
  obtain ⟨j, μ3, e3, o3, j1, j2, j3⟩ := hH
  obtain ⟨m4, μ4, e4, o4, l4, i4⟩ := f_mixed o3 hl2
  obtain ⟨d5, μ5, e5, a5, b5, o5⟩ := f_draw o4 (m := 3) (by decide)
  obtain ⟨m6, μ6, e6, o6, l6, i6⟩ := f_mixed o5 hl2
  obtain ⟨d7, μ7, e7, a7, b7, o7⟩ := f_draw o6 (m := 2) (by decide)
  obtain ⟨d8, μ8, e8, a8, b8, o8⟩ := f_draw o7 (m := 6) (by decide)
  let FS (a b c d : Sl) : Fs := [.val (.loc 0), .val (eL L), .val (.bl (decide (d1 = 0))), a, b, c, d]
  have hT : ∃ tw μ9, eIf (tOf (eBin gEq (eFn F_law_draw (aCons (eVar 0) (aCons (eC (.int 6)) aNil))) (eC (.int 0)))) (eSl (eFn F_law_mixed (aCons (eVar 0) (aCons (eVar 1) aNil))) oNone (oSome (eC (.int 1)))) (eFrz (aLst aNil)) (FS (.val (eL (m1.take j.toNat))) (.val (eL (m4.take d5.toNat))) (.val (eL (m6.take d7.toNat))) .no) μ7 = some (eL tw, μ9) ∧ OkM μ9 ∧ tw.length ≤ 1 ∧ ∀ x ∈ tw, x ∈ L := by
    cases hd : decide (d8 = 0) with
    | true =>
      obtain ⟨m9, μ9, e9, o9, l9, i9⟩ := f_mixed o8 hl2
      refine ⟨m9.take 1, μ9, q_if (q_tof (q_bin (q_fn (q_cons (q_var rfl) (q_cons q_c q_nil)) e8) q_c gEq_int)) (fun _ => q_take (q_fn (q_cons (q_var rfl) (q_cons (q_var rfl) q_nil)) e9) q_c (by decide)) (fun q => ?_), o9, List.length_take_le _ _, mem_take i9⟩
      rw [hd] at q; cases q
    | false =>
      refine ⟨[], μ8, q_if (q_tof (q_bin (q_fn (q_cons (q_var rfl) (q_cons q_c q_nil)) e8) q_c gEq_int)) (fun q => ?_) (fun _ => q_frz rfl), o8, by simp, by simp⟩
      rw [hd] at q; cases q
  obtain ⟨tw, μ9, e9, o9, l9, i9⟩ := hT
  refine ⟨⟨decide (d1 = 0), srtLs (m1.take j.toNat), srtLs (m4.take d5.toNat), srtLs (m6.take d7.toNat), tw⟩, μ9, q_fnF rfl (q_then (fs' := FS .no .no .no .no) (q_asg (q_bin (q_fn (q_cons (q_var rfl) (q_cons q_c q_nil)) e1) q_c gEq_int) rfl) (q_then (fs' := FS (.val (eL (m1.take j.toNat))) .no .no .no) (q_asg (q_take (q_fn (q_cons (q_var rfl) (q_cons (q_var rfl) q_nil)) e2) e3 j1) rfl)
    (q_then (fs' := FS (.val (eL (m1.take j.toNat))) (.val (eL (m4.take d5.toNat))) (.val (eL (m6.take d7.toNat))) .no) (q_par2 (q_cons (q_take (q_fn (q_cons (q_var rfl) (q_cons (q_var rfl) q_nil)) e4) (q_fn (q_cons (q_var rfl) (q_cons q_c q_nil)) e5) a5) (q_cons (q_take (q_fn (q_cons (q_var rfl) (q_cons (q_var rfl) q_nil)) e6) (q_fn (q_cons (q_var rfl) (q_cons q_c q_nil)) e7) a7) q_nil)) rfl)
      (q_then (fs' := FS (.val (eL (m1.take j.toNat))) (.val (eL (m4.take d5.toNat))) (.val (eL (m6.take d7.toNat))) (.val (eL tw))) (q_asg e9 rfl) (q_ret' (q_tup (q_cons ?_ (q_cons (q_stup rfl) (q_cons (q_stup rfl) (q_cons (q_stup rfl) (q_cons (q_cal (q_cons (q_var rfl) q_nil) rfl) q_nil))))) five)))))), o9, ?_⟩
  · exact q_if (p := decide (d1 = 0)) (q_tof (q_var rfl)) (fun q => by
      show eC (.str "choice") _ _ = some (.str (kd (decide (d1 = 0))), _)
      rw [q]
      rfl) (fun q => by
      show eC (.str "rule") _ _ = some (.str (kd (decide (d1 = 0))), _)
      rw [q]
      rfl)
  · have t1 := List.length_take_le j.toNat m1
    have t2 := List.length_take_le d5.toNat m4
    have t3 := List.length_take_le d7.toNat m6
    refine ⟨fun x hx => mem_take i2 x (mem_srtLs.mp hx), fun x hx => mem_take i4 x (mem_srtLs.mp hx), fun x hx => mem_take i6 x (mem_srtLs.mp hx), i9, ?_, ?_, ?_, by simp only; omega, fun q z => ?_⟩
    · simp only [len_srtLs]; omega
    · simp only [len_srtLs]; omega
    · simp only [len_srtLs]; omega
    · have := j3 q
      have z2 : (srtLs (m1.take j.toNat)).length = 0 := by
        have z' : srtLs (m1.take j.toNat) = [] := z
        rw [z']; rfl
      rw [len_srtLs, List.length_take] at z2
      omega
end K8
end MKM8s
section MKM8t
/-! k08, the mathematics, part t: the book that is drawn. -/
namespace K8
open PySem PySem.Spec PyProof.Rows L2 Ev
theorem q_app {i : Nat} {m : ME} {fs fs' : Fs} {μ μ1 : Mu} {xs : List Va} {v : Va} (h1 : fs[i]? = some (.own xs)) (h2 : m fs μ = some (v, μ1)) (hl : xs.length < 1000000) (h3 : fs.set i (.own (xs ++ [v])) = fs') : sApp i m fs μ = some (.nx, fs', μ1) := by
  unfold sApp
  rw [h1]
  simp only [h2]
  rw [if_pos (big _ hl), h3]
theorem q_range {m : MA} {fs : Fs} {μ μ1 : Mu} {j : Int} (h : m fs μ = some ([.int j], μ1)) (h0 : 0 ≤ j) (h1 : j < 1000000) : aRange m fs μ = some ((List.range j.toNat).map fun k : Nat => Va.int (0 + (k : Int)), μ1) := by
  unfold aRange
  rw [h]
  simp only
  rw [if_pos (by omega)]
  rfl
theorem noLoc_eT (xs : List PySem.Str) : noLoc (eT xs) = true := by simpa [eT, noLoc] using noLocs_str xs
theorem noLoc_eR (r : Rl) : noLoc (eR r) = true := by simp [eR, noLoc, noLocs, noLoc_eT]
theorem noLocs_eR : ∀ rs : List Rl, noLocs (rs.map eR) = true
  | [] => rfl
  | r :: rs => by simp [noLocs, noLoc_eR, noLocs_eR rs]
/-- x not in own list: look and add -/
theorem add_new {L : List PySem.Str} {fs fs' : Fs} {μ : Mu} {i j : Nat} {r : Rl} {rs : List Rl} (hL : OkL L) (hr : OkR L r) (hs : ∀ s ∈ rs, OkR L s) (h1 : fs[i]? = some (.val (eR r))) (h2 : fs[j]? = some (.own (rs.map eR))) (hl : rs.length < 1000)
    (h3 : fs.set j (.own ((if r ∈ rs then rs else rs ++ [r]).map eR)) = fs') : sIf (tB (tOf (eBin (gIn true) (eVar i) (eVar j)))) (sApp j (eVar i)) sNil fs μ = some (.nx, fs', μ) := by
  have b1 : (bor fs)[i]? = some (.val (eR r)) := by
    unfold bor
    rw [List.getElem?_map, h1]
    simp [noLoc_eR]
  have b2 : (bor fs)[j]? = some (.val (.lst (rs.map eR))) := by
    unfold bor
    rw [List.getElem?_map, h2]
    simp [noLocs_eR]
  have c : tB (tOf (eBin (gIn true) (eVar i) (eVar j))) fs μ = some (!decide (r ∈ rs), μ) := by
    unfold Ev.tB
    rw [q_tof (q_bin (q_var b1) (q_var b2) (gIn_RL (neg := true) ((hr.s hL).toRlT) fun s h => ((hs s h).s hL).toRlT))]
    rfl
  refine q_ifs c (fun q => ?_) (fun q => ?_)
  · have q' : r ∉ rs := by simpa using q
    rw [if_neg q', List.map_append] at h3
    exact q_app h2 (q_var h1) (by rw [List.length_map]; omega) h3
  · have q' : r ∈ rs := by simpa using q
    rw [if_pos q'] at h3
    have : fs.set j (.own (rs.map eR)) = fs := by
      apply List.ext_getElem?
      intro k
      rw [List.getElem?_set]
      split
      · rename_i e
        subst e
        rw [h2]
        split
        · rfl
        · rename_i z
          rw [List.getElem?_eq_none (by omega)] at h2
          cases h2
      · rfl
    rw [this] at h3
    rw [← h3]
    rfl
theorem add_nodup {r : Rl} {rs : List Rl} (h : rs.Nodup) : (if r ∈ rs then rs else rs ++ [r]).Nodup := by
  split
  · exact h
  · rename_i q
    rw [List.nodup_append]
    exact ⟨h, by simp, fun a ha b hb e => by simp at hb; subst hb; subst e; exact q ha⟩
theorem add_ok {L : List PySem.Str} {r : Rl} {rs : List Rl} (h : ∀ s ∈ rs, OkR L s) (hr : OkR L r) : ∀ s ∈ (if r ∈ rs then rs else rs ++ [r]), OkR L s := by
  split
  · exact h
  · intro s hs
    rcases List.mem_append.mp hs with q | q
    · exact h s q
    · rw [List.mem_singleton.mp q]; exact hr
theorem add_len {r : Rl} {rs : List Rl} : (if r ∈ rs then rs else rs ++ [r]).length ≤ rs.length + 1 := by
  split <;> simp
theorem f_rules {L : List PySem.Str} {μ : Mu} (hL : OkL L) (hμ : OkM μ) (hl : 3 ≤ L.length) : ∃ (rs : List Rl) (μ' : Mu), F_law_rules [.loc 0, eL L, .int 4] μ = some (rs.map eR, μ') ∧ OkM μ' ∧ rs.Nodup ∧ (∀ r ∈ rs, OkR L r) ∧ rs.length ≤ 4 := by
  have hl2 : L.length ≤ 1000 := by have := hL.len; omega
  obtain ⟨d, μ1, e1, a1, b1, o1⟩ := f_draw hμ (m := 5) (by decide)
  obtain ⟨fs', μ', e, hμ', rs, s4, s5, hfs, nd, ok, ll⟩ := forL_inv (enc := fun k : Nat => Va.int (0 + (k : Int))) (g := bName 4) (body := sSeq (sAsg 5 (eFn F_law_rule (aCons (eVar 0) (aCons (eVar 1) aNil)))) (sIf (tB (tOf (eBin (gIn true) (eVar 5) (eVar 3)))) (sApp 3 (eVar 5)) sNil))
    (fun pre fs μ1 => OkM μ1 ∧ ∃ (rs : List Rl) (s4 s5 : Sl), fs = [.val (.loc 0), .val (eL L), .val (.int 4), .own (rs.map eR), s4, s5] ∧ rs.Nodup ∧ (∀ r ∈ rs, OkR L r) ∧ rs.length ≤ pre.length) (xs := List.range d.toNat) (pre := []) (fs := [.val (.loc 0), .val (eL L), .val (.int 4), .own [], .no, .no]) (μ := μ1)
    (fun pre k hk hpl fs μ1 ⟨h0, rs, s4, s5, h2, h3, h4, h5⟩ => by
      subst h2
      have lp : pre.length < 5 := by simp at hpl; omega
      obtain ⟨r, μ2, e2, o2, k2⟩ := f_rule h0 hl hl2
      have al := add_len (r := r) (rs := rs)
      refine ⟨[(4, .int (0 + (k : Int)))], [.val (.loc 0), .val (eL L), .val (.int 4), .own ((if r ∈ rs then rs else rs ++ [r]).map eR), .val (.int (0 + (k : Int))), .val (eR r)], μ2, rfl, q_seq (q_asg (q_fn (q_cons (q_var rfl) (q_cons (q_var rfl) q_nil)) e2) rfl) (add_new (L := L) hL k2 h4 rfl rfl (by omega) rfl), o2, _, _, _, rfl, add_nodup h3, add_ok h4 k2, ?_⟩
      simp only [List.length_append, List.length_singleton]
      omega) ⟨o1, [], .no, .no, rfl, by simp, by simp, by simp⟩
  subst hfs
  have ll' : rs.length ≤ 4 := by simp at ll; omega
  refine ⟨rs, μ', ?_, hμ', nd, ok, ll'⟩
  have main : M_law_rules [.val (.loc 0), .val (eL L), .val (.int 4), .no, .no, .no] μ = some (.rf (rs.map eR), [.val (.loc 0), .val (eL L), .val (.int 4), .own (rs.map eR), s4, s5], μ') :=
    q_seq (q_own q_lstnil rfl) (q_seq (q_for (q_range (q_cons (q_fn (q_cons (q_var rfl) (q_cons (v := .int 5) rfl q_nil)) e1) q_nil) a1 (by omega)) e) rfl)
  unfold F_law_rules fnL
  have l3 : ([.loc 0, eL L, .int 4] : List Va).length = 3 := rfl
  rw [if_pos l3]
  show (match M_law_rules [.val (.loc 0), .val (eL L), .val (.int 4), .no, .no, .no] μ with | some (.rf xs, _, μ') => some (xs, μ') | _ => none) = _
  rw [main]
def moreR (x y z : PySem.Str) : List Rl := [⟨false, [x], [], [], []⟩, ⟨false, [], [y], [], []⟩, ⟨true, srtLs [x, z], [y], [], []⟩, ⟨true, srtLs [x, z], [], [], []⟩, ⟨false, srtLs [x, y], [z], [], [z]⟩]
theorem q_stup2 {fs : Fs} {μ : Mu} {i j : Nat} {x y : PySem.Str} (h : fs[i]? = some (.val (.str x))) (h2 : fs[j]? = some (.val (.str y))) : eCal gTuple (aCons (eFrz (aCal gSorted (aCons (eFrz (aLst (aCons (eVar i) (aCons (eVar j) aNil)))) aNil))) aNil) fs μ = some (eT (srtLs [x, y]), μ) := by
  have : eFrz (aLst (aCons (eVar i) (aCons (eVar j) aNil))) fs μ = some (eL [x, y], μ) := q_frz (by
    unfold aLst
    rw [q_cons (q_var h) (q_cons (q_var h2) q_nil)]
    simp only
    rw [if_pos (sz (by simp))]
    rfl)
  exact q_cal (q_cons (q_frz (q_acal (q_cons this q_nil) srt_L)) q_nil) (by simp [gTuple, gList, look, eT, srtLs_map])
theorem more_ok {L : List PySem.Str} {x y z : PySem.Str} (hx : x ∈ L) (hy : y ∈ L) (hz : z ∈ L) : ∀ r ∈ moreR x y z, OkR L r := by
  intro r hr
  have h2 : ∀ {a b : PySem.Str}, a ∈ L → b ∈ L → ∀ c ∈ srtLs [a, b], c ∈ L := fun ha hb c hc => by
    have := mem_srtLs.mp hc
    simp only [List.mem_cons, List.not_mem_nil, or_false] at this
    rcases this with rfl | rfl
    · exact ha
    · exact hb
  have l2 : ∀ a b : PySem.Str, (srtLs [a, b]).length = 2 := fun a b => by rw [len_srtLs]; rfl
  have n2 : ∀ a b : PySem.Str, srtLs [a, b] ≠ [] := fun a b z => by have := l2 a b; rw [z] at this; cases this
  simp only [moreR, List.mem_cons, List.not_mem_nil, or_false] at hr
  rcases hr with rfl | rfl | rfl | rfl | rfl
  · exact ⟨by simpa using hx, by simp, by simp, by simp, by simp, by simp, by simp, by simp, by simp⟩
  · exact ⟨by simp, by simpa using hy, by simp, by simp, by simp, by simp, by simp, by simp, by simp⟩
  · exact ⟨h2 hx hz, by simpa using hy, by simp, by simp, by simp [l2], by simp, by simp, by simp, fun _ => n2 _ _⟩
  · exact ⟨h2 hx hz, by simp, by simp, by simp, by simp [l2], by simp, by simp, by simp, fun _ => n2 _ _⟩
  · exact ⟨h2 hx hy, by simpa using hz, by simp, by simpa using hz, by simp [l2], by simp, by simp, by simp, by simp⟩
theorem q_lst {m : MA} {fs : Fs} {μ μ1 : Mu} {vs : List Va} (h : m fs μ = some (vs, μ1)) (hl : vs.length ≤ 1000000) : aLst m fs μ = some (vs, μ1) := by
  unfold aLst
  rw [h]
  simp only
  rw [if_pos (sz hl)]
abbrev frK (L : List PySem.Str) (rs : List Rl) (x y z : PySem.Str) (s6 s7 s8 : Sl) : Fs := [.val (.loc 0), .val (eL L), .own (rs.map eR), .val (.str x), .val (.str y), .val (.str z), s6, s7, s8]
theorem f_book {L : List PySem.Str} {μ : Mu} (hL : OkL L) (hμ : OkM μ) (hl : 3 ≤ L.length) : ∃ (rs : List Rl) (μ' : Mu), F_law_book [.loc 0, eL L] μ = some (.lst (rs.map eR), μ') ∧ OkM μ' ∧ rs.Nodup ∧ (∀ r ∈ rs, OkR L r) ∧ rs.length ≤ 6 := by
  have hl2 : L.length ≤ 1000 := by have := hL.len; omega
  obtain ⟨rs0, μ1, e1, o1, nd1, ok1, l1⟩ := f_rules hL hμ hl
  obtain ⟨m, μ2, e2, o2, l2, i2⟩ := f_mixed o1 hl2
  obtain ⟨x, y, z, hxyz⟩ : ∃ x y z, m.take 3 = [x, y, z] := by
    match m, (by omega : 3 ≤ m.length) with
    | x :: y :: z :: m', _ => exact ⟨x, y, z, rfl⟩
    | [], h => simp at h
    | [_], h => simp at h
    | [_, _], h => simp at h
  have hm : ∀ w ∈ m.take 3, w ∈ L := mem_take i2
  rw [hxyz] at hm
  have hx := hm x (by simp)
  have hy := hm y (by simp)
  have hz := hm z (by simp)
  have mo := more_ok hx hy hz
  obtain ⟨fs', μ', e, hμ', rs, s7, s8, hfs, nd, ok, ll⟩ := forL_inv (enc := fun k : Nat => Va.int (0 + (k : Int))) (g := bName 7) (body := sSeq (sAsg 8 (eFn F_law_pick (aCons (eVar 0) (aCons (eVar 6) aNil)))) (sIf (tB (tOf (eBin (gIn true) (eVar 8) (eVar 2)))) (sApp 2 (eVar 8)) sNil))
    (fun pre fs μ1 => OkM μ1 ∧ ∃ (rs : List Rl) (s7 s8 : Sl), fs = frK L rs x y z (.val (.lst ((moreR x y z).map eR))) s7 s8 ∧ rs.Nodup ∧ (∀ r ∈ rs, OkR L r) ∧ rs.length ≤ 4 + pre.length) (xs := List.range 2) (pre := []) (fs := frK L rs0 x y z (.val (.lst ((moreR x y z).map eR))) .no .no) (μ := μ2)
    (fun pre k hk hpl fs μ1 ⟨h0, rs, s7, s8, h2, h3, h4, h5⟩ => by
      subst h2
      have lp : pre.length < 2 := by simp at hpl; omega
      obtain ⟨v, hv, μ3, e3, o3⟩ := f_pick h0 (vs := (moreR x y z).map eR) (by simp [moreR])
      obtain ⟨r, hr, rfl⟩ := List.mem_map.mp hv
      have al := add_len (r := r) (rs := rs)
      refine ⟨[(7, .int (0 + (k : Int)))], frK L (if r ∈ rs then rs else rs ++ [r]) x y z (.val (.lst ((moreR x y z).map eR))) (.val (.int (0 + (k : Int)))) (.val (eR r)), μ3, rfl, q_seq (q_asg (q_fn (q_cons (q_var rfl) (q_cons (q_var rfl) q_nil)) e3) rfl) (add_new (L := L) hL (mo r hr) h4 rfl rfl (by omega) rfl), o3, _, _, _, rfl, add_nodup h3, add_ok h4 (mo r hr), ?_⟩
      simp only [List.length_append, List.length_singleton]
      omega) ⟨o2, rs0, .no, .no, rfl, nd1, ok1, by simpa using l1⟩
  subst hfs
  have ll' : rs.length ≤ 6 := by simpa using ll
  let F0 (s6 : Sl) : Fs := frK L rs0 x y z s6 .no .no
  have b1 : sAsgG (bLst 3 (bsCons (bName 3) (bsCons (bName 4) (bsCons (bName 5) bsNil)))) (eSl (eFn F_law_mixed (aCons (eVar 0) (aCons (eVar 1) aNil))) oNone (oSome (eC (.int 3)))) [.val (.loc 0), .val (eL L), .own (rs0.map eR), .no, .no, .no, .no, .no, .no] μ1 = some (.nx, F0 .no, μ2) := by
    have t1 := q_take (e := eC (.int 3)) (j := 3) (q_fn (q_cons (q_var (i := 0) (fs := [.val (.loc 0), .val (eL L), .own (rs0.map eR), .no, .no, .no, .no, .no, .no]) rfl) (q_cons (q_var (i := 1) rfl) q_nil)) e2) q_c (by decide)
    rw [show ((3 : Int).toNat) = 3 from rfl, hxyz] at t1
    exact q_asgG t1 rfl rfl
  have t3 : aLst (aCons (eTup (aCons (eC (.str "rule")) (aCons (eTup (aCons (eVar 3) aNil)) (aCons (eTup aNil) (aCons (eTup aNil) (aCons (eTup aNil) aNil)))))) (aCons (eTup (aCons (eC (.str "rule")) (aCons (eTup aNil) (aCons (eTup (aCons (eVar 4) aNil)) (aCons (eTup aNil) (aCons (eTup aNil) aNil)))))) (aCons (eTup (aCons (eC (.str "choice")) (aCons (eCal gTuple (aCons (eFrz (aCal gSorted (aCons (eFrz (aLst (aCons (eVar 3) (aCons (eVar 5) aNil)))) aNil))) aNil)) (aCons (eTup (aCons (eVar 4) aNil)) (aCons (eTup aNil) (aCons (eTup aNil) aNil)))))) aNil))) (F0 .no) μ2 = some ([eR ⟨false, [x], [], [], []⟩, eR ⟨false, [], [y], [], []⟩, eR ⟨true, srtLs [x, z], [y], [], []⟩], μ2) := by
    exact q_lst (q_cons (v := eR ⟨false, [x], [], [], []⟩) (q_tup (q_cons q_c (q_cons (q_tup (q_cons (q_var rfl) q_nil) onev) (q_cons (q_tup q_nil zerov) (q_cons (q_tup q_nil zerov) (q_cons (q_tup q_nil zerov) q_nil))))) five)
      (q_cons (v := eR ⟨false, [], [y], [], []⟩) (q_tup (q_cons q_c (q_cons (q_tup q_nil zerov) (q_cons (q_tup (q_cons (q_var rfl) q_nil) onev) (q_cons (q_tup q_nil zerov) (q_cons (q_tup q_nil zerov) q_nil))))) five)
        (q_cons (v := eR ⟨true, srtLs [x, z], [y], [], []⟩) (q_tup (q_cons q_c (q_cons (q_stup2 rfl rfl) (q_cons (q_tup (q_cons (q_var rfl) q_nil) onev) (q_cons (q_tup q_nil zerov) (q_cons (q_tup q_nil zerov) q_nil))))) five) q_nil))) (by simp)
  have t4 : aLst (aCons (eTup (aCons (eC (.str "choice")) (aCons (eCal gTuple (aCons (eFrz (aCal gSorted (aCons (eFrz (aLst (aCons (eVar 3) (aCons (eVar 5) aNil)))) aNil))) aNil)) (aCons (eTup aNil) (aCons (eTup aNil) (aCons (eTup aNil) aNil)))))) (aCons (eTup (aCons (eC (.str "rule")) (aCons (eCal gTuple (aCons (eFrz (aCal gSorted (aCons (eFrz (aLst (aCons (eVar 3) (aCons (eVar 4) aNil)))) aNil))) aNil)) (aCons (eTup (aCons (eVar 5) aNil)) (aCons (eTup aNil) (aCons (eTup (aCons (eVar 5) aNil)) aNil)))))) aNil)) (F0 (.val (.lst [eR ⟨false, [x], [], [], []⟩, eR ⟨false, [], [y], [], []⟩, eR ⟨true, srtLs [x, z], [y], [], []⟩]))) μ2 = some ([eR ⟨true, srtLs [x, z], [], [], []⟩, eR ⟨false, srtLs [x, y], [z], [], [z]⟩], μ2) := by
    exact q_lst (q_cons (v := eR ⟨true, srtLs [x, z], [], [], []⟩) (q_tup (q_cons q_c (q_cons (q_stup2 rfl rfl) (q_cons (q_tup q_nil zerov) (q_cons (q_tup q_nil zerov) (q_cons (q_tup q_nil zerov) q_nil))))) five)
      (q_cons (v := eR ⟨false, srtLs [x, y], [z], [], [z]⟩) (q_tup (q_cons q_c (q_cons (q_stup2 rfl rfl) (q_cons (q_tup (q_cons (q_var rfl) q_nil) onev) (q_cons (q_tup q_nil zerov) (q_cons (q_tup (q_cons (q_var rfl) q_nil) onev) q_nil))))) five) q_nil)) (by simp)
  have r2 : aRange (aCons (eC (.int 2)) aNil) (F0 (.val (.lst ((moreR x y z).map eR)))) μ2 = some ((List.range 2).map fun k : Nat => Va.int (0 + (k : Int)), μ2) := q_range (j := 2) rfl (by decide) (by decide)
  refine ⟨rs, μ', q_fnF rfl (q_then (q_own (q_fnL (q_cons (q_var rfl) (q_cons (q_var rfl) (q_cons q_c q_nil))) e1) rfl) (q_then b1 (q_then (q_asg (q_frz t3) rfl) (q_then (fs' := F0 (.val (.lst ((moreR x y z).map eR)))) (q_asg (q_addL (q_var rfl) (q_frz t4) (by simp)) rfl) (q_then (q_for r2 e) (q_ret' (q_var rfl))))))), hμ', nd, ok, ll'⟩
end K8
end MKM8t
section MKM8u
/-! k08, the mathematics, part u: the digits. -/
namespace K8
open PySem PySem.Spec PyProof.Rows L2 Ev
theorem f_cell {ns : List Int} {k : Nat} {μ : Mu} : ∃ c : Int, F_law_cell [.scr ns, .int (0 + (k : Int))] μ = some (.int c, μ) := by
  have c1 : tOf (eBin (gCmp fun i j => decide (i < j)) (eVar 1) (eCal gLen (aCons (eVar 0) aNil))) [.val (.scr ns), .val (.int (0 + (k : Int)))] μ = some (decide ((0 + (k : Int)) < (ns.length : Int)), μ) := q_tof (q_bin (q_var rfl) (q_cal (q_cons (q_var rfl) q_nil) rfl) rfl)
  by_cases h : (0 + (k : Int)) < (ns.length : Int)
  · rw [decide_eq_true h] at c1
    have hk : k < ns.length := by omega
    refine ⟨ns[k], q_fnF rfl (q_ifT c1 (q_ret' (q_bin (g := gIdx) (x := .scr ns) (y := .int (0 + (k : Int))) (q_var rfl) (q_var rfl) ?_)))⟩
    show (atI ns (0 + (k : Int))).map Va.int = _
    rw [atI_nat hk]
    rfl
  · rw [decide_eq_false h] at c1
    exact ⟨0, q_fnF rfl (q_ifF c1 (q_ret' q_c))⟩
abbrev frX (ns ds : List Int) (s4 s5 s6 s7 : Sl) : Fs := [.val (.scr ns), .val (.int 0), .val (.int 40), .own (ds.map .int), s4, s5, s6, s7]
theorem app_int {ds : List Int} {d : Int} : ds.map Va.int ++ [.int d] = (ds ++ [d]).map Va.int := by simp
theorem div_ok {i j : Int} (h : 0 < j ∧ j < 1073741824) : iDiv i j = some (i / j) := by unfold iDiv; rw [if_pos h]
abbrev bod1 : MS := sIf (tOf (eBin (gCmp fun i j => decide (j < i)) (eVar 5) (eC (.int 0)))) (sSeq (sApp 3 (eBin (gInt iMod) (eCal gInt1 (aCons (eVar 5) aNil)) (eC (.int 1000)))) (sAsg 5 (eBin (gInt iDiv) (eVar 5) (eC (.int 1000))))) sNil
theorem loop1 {ns ds : List Int} {c : Int} {s4 s6 s7 : Sl} {μ : Mu} (hl : ds.length ≤ 10000) : ∃ ds' c' s6', forL (bName 6) bod1 ((List.range 60).map fun k : Nat => Va.int (0 + (k : Int))) (frX ns ds s4 (.val (.int c)) s6 s7) μ = some (.nx, frX ns ds' s4 (.val (.int c')) s6' s7, μ) ∧ ds'.length ≤ ds.length + 60 := by
  obtain ⟨fs', μ', e, hμ', ds', c', s6', hfs, ll⟩ := forL_inv (enc := fun k : Nat => Va.int (0 + (k : Int))) (g := bName 6) (body := bod1)
    (fun pre fs μ1 => μ1 = μ ∧ ∃ (ds' : List Int) (c' : Int) (s6' : Sl), fs = frX ns ds' s4 (.val (.int c')) s6' s7 ∧ ds'.length ≤ ds.length + pre.length) (xs := List.range 60) (pre := []) (fs := frX ns ds s4 (.val (.int c)) s6 s7) (μ := μ)
    (fun pre k hk hpl fs μ1 ⟨h0, ds', c', s6', h2, h3⟩ => by
      subst h0 h2
      have lp : pre.length < 60 := by simp at hpl; omega
      have t : tOf (eBin (gCmp fun i j => decide (j < i)) (eVar 5) (eC (.int 0))) (frX ns ds' s4 (.val (.int c')) (.val (.int (0 + (k : Int)))) s7) μ1 = some (decide (0 < c'), μ1) := q_tof (q_bin (q_var rfl) q_c rfl)
      by_cases h : 0 < c'
      · rw [decide_eq_true h] at t
        refine ⟨[(6, .int (0 + (k : Int)))], frX ns (ds' ++ [c' % 1000]) s4 (.val (.int (c' / 1000))) (.val (.int (0 + (k : Int)))) s7, μ1, rfl, q_ifs t (fun _ => q_seq (fs' := frX ns (ds' ++ [c' % 1000]) s4 (.val (.int c')) (.val (.int (0 + (k : Int)))) s7) (q_app (xs := ds'.map .int) (v := .int (c' % 1000)) rfl (q_gint (q_int1 (q_var rfl)) q_c (mod_ok (by decide))) (by rw [List.length_map]; omega) (by rw [app_int]; rfl)) (q_asg (q_gint (q_var rfl) q_c (div_ok (by decide))) rfl)) (fun q => by cases q), rfl, _, _, _, rfl, ?_⟩
        simp only [List.length_append, List.length_singleton]
        omega
      · rw [decide_eq_false h] at t
        refine ⟨[(6, .int (0 + (k : Int)))], frX ns ds' s4 (.val (.int c')) (.val (.int (0 + (k : Int)))) s7, μ1, rfl, q_ifs t (fun q => by cases q) (fun _ => rfl), rfl, _, _, _, rfl, ?_⟩
        simp only [List.length_append, List.length_singleton]
        omega) ⟨rfl, ds, c, s6, rfl, by simp⟩
  subst hμ' hfs
  exact ⟨ds', c', s6', e, by simpa using ll⟩
abbrev bod2 : MS := sSeq (sAsg 7 (eBin (gInt iMod) (eCal gInt1 (aCons (eBin gAdd (eBin gAdd (eBin (gInt iMul) (eVar 7) (eC (.int 16807))) (eBin (gInt iMul) (eC (.int 7)) (eVar 6))) (eC (.int 1))) aNil)) (eC (.int 2147483647)))) (sApp 3 (eBin (gInt iMod) (eCal gInt1 (aCons (eBin (gInt iDiv) (eVar 7) (eC (.int 997))) aNil)) (eC (.int 1000))))
theorem loop2 {ns ds : List Int} {c : Int} {s4 s5 s6 : Sl} {μ : Mu} (hl : ds.length ≤ 10000) : ∃ ds' c' s6', forL (bName 6) bod2 ((List.range 12).map fun k : Nat => Va.int (0 + (k : Int))) (frX ns ds s4 s5 s6 (.val (.int c))) μ = some (.nx, frX ns ds' s4 s5 s6' (.val (.int c')), μ) ∧ ds'.length ≤ ds.length + 60 := by
  obtain ⟨fs', μ', e, hμ', ds', c', s6', hfs, ll⟩ := forL_inv (enc := fun k : Nat => Va.int (0 + (k : Int))) (g := bName 6) (body := bod2)
    (fun pre fs μ1 => μ1 = μ ∧ ∃ (ds' : List Int) (c' : Int) (s6' : Sl), fs = frX ns ds' s4 s5 s6' (.val (.int c')) ∧ ds'.length ≤ ds.length + pre.length) (xs := List.range 12) (pre := []) (fs := frX ns ds s4 s5 s6 (.val (.int c))) (μ := μ)
    (fun pre k hk hpl fs μ1 ⟨h0, ds', c', s6', h2, h3⟩ => by
      subst h0 h2
      have lp : pre.length < 12 := by simp at hpl; omega
      refine ⟨[(6, .int (0 + (k : Int)))], frX ns (ds' ++ [((c' * 16807 + 7 * (0 + (k : Int)) + 1) % 2147483647 / 997) % 1000]) s4 s5 (.val (.int (0 + (k : Int)))) (.val (.int ((c' * 16807 + 7 * (0 + (k : Int)) + 1) % 2147483647))), μ1, rfl,
        q_seq (fs' := frX ns ds' s4 s5 (.val (.int (0 + (k : Int)))) (.val (.int ((c' * 16807 + 7 * (0 + (k : Int)) + 1) % 2147483647))))
          (q_asg (q_gint (q_int1 (q_bin (g := gAdd) (q_bin (g := gAdd) (q_gint (q_var rfl) q_c (mulR (by decide))) (q_gint q_c (q_var rfl) (mulL (by decide))) rfl) q_c rfl)) q_c (mod_ok (by decide))) rfl)
          (q_app (xs := ds'.map .int) (v := .int (((c' * 16807 + 7 * (0 + (k : Int)) + 1) % 2147483647 / 997) % 1000)) rfl (q_gint (q_int1 (q_gint (q_var rfl) q_c (div_ok (by decide)))) q_c (mod_ok (by decide))) (by rw [List.length_map]; omega) (by rw [app_int]; rfl)), rfl, _, _, _, rfl, ?_⟩
      simp only [List.length_append, List.length_singleton]
      omega) ⟨rfl, ds, c, s6, rfl, by simp⟩
  subst hμ' hfs
  refine ⟨ds', c', s6', e, ?_⟩
  have : ds'.length ≤ ds.length + 12 := by simpa using ll
  omega
theorem f_digits {ns : List Int} {μ : Mu} : ∃ ds : List Int, F_law_digits [.scr ns, .int 0, .int 40] μ = some (.lst (ds.map .int), μ) := by
  have r40 : aRange (aCons (eVar 1) (aCons (eVar 2) aNil)) (frX ns [] .no .no .no .no) μ = some ((List.range 40).map fun k : Nat => Va.int (0 + (k : Int)), μ) := by
    unfold aRange
    rw [show aCons (eVar 1) (aCons (eVar 2) aNil) (frX ns [] .no .no .no .no) μ = some ([.int 0, .int 40], μ) from rfl]
    simp only
    rw [if_pos (by decide)]
    rfl
  obtain ⟨fs', μ', e, hμ', ds, s4, s5, s6, s7, hfs, ll⟩ := forL_inv (enc := fun k : Nat => Va.int (0 + (k : Int))) (g := bName 4) (body := (sSeq (sAsg 5 (eFn F_law_cell (aCons (eVar 0) (aCons (eVar 4) aNil)))) (sSeq (sIf (tOf (eBin (gCmp fun i j => decide (i < j)) (eVar 5) (eC (.int 0)))) (sAsg 5 (eBin (gInt iSub) (eC (.int 1)) (eBin (gInt iMul) (eC (.int 2)) (eVar 5)))) sNil) (sIf (tOf (eBin (gCmp fun i j => decide (j ≤ i)) (eVar 5) (eBin (gInt iPow) (eC (.int 10)) (eC (.int 18))))) (sFor (aRange (aCons (eC (.int 60)) aNil)) (bName 6) bod1) (sSeq (sAsg 7 (eBin (gInt iMod) (eCal gInt1 (aCons (eBin gAdd (eBin gAdd (eBin (gInt iMul) (eVar 5) (eC (.int 48271))) (eBin (gInt iMul) (eVar 4) (eC (.int 69621)))) (eC (.int 11))) aNil)) (eC (.int 2147483647)))) (sFor (aRange (aCons (eC (.int 12)) aNil)) (bName 6) bod2))))))
    (fun pre fs μ1 => μ1 = μ ∧ ∃ (ds : List Int) (s4 s5 s6 s7 : Sl), fs = frX ns ds s4 s5 s6 s7 ∧ ds.length ≤ 60 * pre.length) (xs := List.range 40) (pre := []) (fs := frX ns [] .no .no .no .no) (μ := μ)
    (fun pre k hk hpl fs μ1 ⟨h0, ds, s4, s5, s6, s7, h2, h3⟩ => by
      subst h0 h2
      have lp : pre.length < 40 := by simp at hpl; omega
      obtain ⟨c, e1⟩ := f_cell (ns := ns) (k := k) (μ := μ1)
      obtain ⟨c', e2⟩ : ∃ c', sIf (tOf (eBin (gCmp fun i j => decide (i < j)) (eVar 5) (eC (.int 0)))) (sAsg 5 (eBin (gInt iSub) (eC (.int 1)) (eBin (gInt iMul) (eC (.int 2)) (eVar 5)))) sNil (frX ns ds (.val (.int (0 + (k : Int)))) (.val (.int c)) s6 s7) μ1 = some (.nx, frX ns ds (.val (.int (0 + (k : Int)))) (.val (.int c')) s6 s7, μ1) := by
        have t : tOf (eBin (gCmp fun i j => decide (i < j)) (eVar 5) (eC (.int 0))) (frX ns ds (.val (.int (0 + (k : Int)))) (.val (.int c)) s6 s7) μ1 = some (decide (c < 0), μ1) := q_tof (q_bin (q_var rfl) q_c rfl)
        by_cases h : c < 0
        · rw [decide_eq_true h] at t
          exact ⟨1 - 2 * c, q_ifs t (fun _ => q_asg (q_gint q_c (q_gint q_c (q_var rfl) (mulL (by decide))) rfl) rfl) fun q => by cases q⟩
        · rw [decide_eq_false h] at t
          exact ⟨c, q_ifs t (fun q => by cases q) fun _ => rfl⟩
      have t : tOf (eBin (gCmp fun i j => decide (j ≤ i)) (eVar 5) (eBin (gInt iPow) (eC (.int 10)) (eC (.int 18)))) (frX ns ds (.val (.int (0 + (k : Int)))) (.val (.int c')) s6 s7) μ1 = some (decide ((10 : Int) ^ 18 ≤ c'), μ1) := q_tof (q_bin (q_var rfl) (q_gint q_c q_c (k := 10 ^ 18) (by decide +kernel)) rfl)
      by_cases h : (10 : Int) ^ 18 ≤ c'
      · rw [decide_eq_true h] at t
        obtain ⟨ds', c2, s6', e3, l3⟩ := loop1 (ns := ns) (ds := ds) (c := c') (s4 := .val (.int (0 + (k : Int)))) (s6 := s6) (s7 := s7) (μ := μ1) (by omega)
        refine ⟨[(4, .int (0 + (k : Int)))], frX ns ds' (.val (.int (0 + (k : Int)))) (.val (.int c2)) s6' s7, μ1, rfl, q_seq (q_asg (q_fn (q_cons (q_var rfl) (q_cons (q_var rfl) q_nil)) e1) rfl) (q_seq e2 (q_ifs t (fun _ => q_for (q_range (j := 60) rfl (by decide) (by decide)) e3) fun q => by cases q)), rfl, _, _, _, _, _, rfl, ?_⟩
        simp only [List.length_append, List.length_singleton]
        omega
      · rw [decide_eq_false h] at t
        obtain ⟨ds', c2, s6', e3, l3⟩ := loop2 (ns := ns) (ds := ds) (c := (c' * 48271 + (0 + (k : Int)) * 69621 + 11) % 2147483647) (s4 := .val (.int (0 + (k : Int)))) (s5 := .val (.int c')) (s6 := s6) (μ := μ1) (by omega)
        refine ⟨[(4, .int (0 + (k : Int)))], frX ns ds' (.val (.int (0 + (k : Int)))) (.val (.int c')) s6' (.val (.int c2)), μ1, rfl, q_seq (q_asg (q_fn (q_cons (q_var rfl) (q_cons (q_var rfl) q_nil)) e1) rfl) (q_seq e2 (q_ifs t (fun q => by cases q) fun _ => q_seq (q_asg (q_gint (q_int1 (q_bin (g := gAdd) (q_bin (g := gAdd) (q_gint (q_var rfl) q_c (mulR (by decide))) (q_gint (q_var rfl) q_c (mulR (by decide))) rfl) q_c rfl)) q_c (mod_ok (by decide))) rfl) (q_for (q_range (j := 12) rfl (by decide) (by decide)) e3))), rfl, _, _, _, _, _, rfl, ?_⟩
        simp only [List.length_append, List.length_singleton]
        omega) ⟨rfl, [], .no, .no, .no, .no, rfl, by simp⟩
  subst hμ' hfs
  exact ⟨ds, q_fnF rfl (q_then (fs' := frX ns [] .no .no .no .no) (q_own q_lstnil rfl) (q_then (q_for r40 e) (q_ret' (q_var rfl))))⟩
end K8
end MKM8u
section MKM8v
/-! k08, the mathematics, part v: all steps of a book, bent steps. -/
namespace K8
open PySem PySem.Spec PyProof.Rows L2 Ev
theorem eS_pd {L : List PySem.Str} {s : Stp} (hL : OkL L) (h : OkB L s) : plV (eS s) = true ∧ (ddD (eS s)).depth ≤ 4 := by
  have a1 := eR_pd ((h.r.s hL).toRlT)
  have a2 : ∀ {l : List Rl}, (∀ f ∈ l, OkR L f) → plVs (l.map eR) = true ∧ PyData.depthAll (ddDs (l.map eR)) ≤ 2 := fun {l} hl => by
    refine ⟨plVs_all.mpr fun x hx => ?_, depths_le.mpr fun x hx => ?_⟩
    · obtain ⟨f, hf, rfl⟩ := List.mem_map.mp hx
      exact (eR_pd (((hl f hf).s hL).toRlT)).1
    · obtain ⟨f, hf, rfl⟩ := List.mem_map.mp hx
      exact (eR_pd (((hl f hf).s hL).toRlT)).2
  have a3 := a2 h.f
  have a4 := a2 h.b
  have a5 := str_pd h.w
  refine ⟨?_, ?_⟩
  · simp only [eS, plV, plVs, a1.1, a3.1, a4.1, Bool.and_true, Bool.true_and]
    exact h.w
  · simp only [eS, ddD, ddDs, PyData.depth, PyData.depthAll]
    omega
theorem good_eS {L : List PySem.Str} {s : Stp} (hL : OkL L) (h : OkB L s) : Good (eS s) := ⟨(eS_pd hL h).1, by have := (eS_pd hL h).2; omega⟩
theorem eSs_pd {L : List PySem.Str} {ss : List Stp} (hL : OkL L) (h : ∀ s ∈ ss, OkB L s) : eTt (ss.map eS) := fun c hc => by
  obtain ⟨s, hs, rfl⟩ := List.mem_map.mp hc
  exact ⟨(eS_pd hL (h s hs)).1, by have := (eS_pd hL (h s hs)).2; omega⟩
theorem srtR_nd {rs : List Rl} (nd : rs.Nodup) : srtR rs = srtL eR unR rs := srtE_nodup unR_eR (fun _ _ => flat_eR _) (ok_rls _) nd
theorem q_sortR {fs : Fs} {μ : Mu} {i : Nat} {rs : List Rl} (nd : rs.Nodup) (h : fs[i]? = some (.val (.lst (rs.map eR)))) : eFrz (aCal gSorted (aCons (eVar i) aNil)) fs μ = some (.lst ((srtR rs).map eR), μ) := by
  refine q_frz (q_acal (q_cons (q_var h) q_nil) ?_)
  unfold gSorted
  simp only [look]
  rw [if_pos (ok_rls _), srtR_nd nd, srtL_map unR_eR]
def rowsAt (rs : List Rl) (r : Rl) : List Stp := (mks (srtR rs)).filterMap fun m => m r
theorem some_map {β : Type} (f : β → Option Stp) : ∀ l : List β, (((l.map f).filter Option.isSome).map eO) = (l.filterMap f).map eS
  | [] => rfl
  | x :: l => by
    rw [List.map_cons, List.filter_cons, List.filterMap_cons]
    cases h : f x with
    | none => simp [some_map f l]
    | some s =>
      simp only [Option.isSome_some, if_true, List.map_cons]
      rw [some_map f l]
      rfl
abbrev frF (rs : List Rl) (L : List PySem.Str) (a b c d e : Sl) : Fs := [.val (.loc 0), .val (.lst (rs.map eR)), .val (eL L), a, b, c, d, e]
theorem rows_loop {L : List PySem.Str} {rs : List Rl} {μ : Mu} (hL : OkL L) (nd : rs.Nodup) (hb : Bok L rs) (s3 s6 s7 : Sl) :
    ∃ s5, sFor (aSeq (eFrz (aCal gSorted (aCons (eVar 1) aNil)))) (bName 5) (sAsg 4 (eBin gAdd (eVar 4) (eFrz (compF okL (eVar 6) ⟨aSeq (eFn F_law_makers (aCons (eFrz (aCal gSorted (aCons (eVar 1) aNil))) (aCons (eVar 5) aNil))), (bName 6), (tOf (eBin (gIs true) (eVar 6) (eC .non))), [6]⟩ [])))) (frF rs L s3 (.val (.lst [])) .no s6 s7) μ = some (.nx, frF rs L s3 (.val (.lst ((rowsO rs).map eS))) s5 s6 s7, μ) := by
  have hl := hb.len
  have hl' : (srtR rs).length ≤ 12 := hb.srt.len
  have hs' : ∀ r ∈ srtR rs, RlS r := fun r hr => (hb.ok r (mem_srtR.mp hr)).s hL
  have lrow : ∀ r, (rowsAt rs r).length ≤ 8 := fun r => by
    have := List.length_filterMap_le (fun m : Rl → Option Stp => m r) (mks (srtR rs))
    unfold rowsAt
    simp only [mks] at this ⊢
    simpa using this
  obtain ⟨fs', μ', e, hμ', s5, hfs, _⟩ := forL_inv (enc := eR) (g := bName 5) (body := sAsg 4 (eBin gAdd (eVar 4) (eFrz (compF okL (eVar 6) ⟨aSeq (eFn F_law_makers (aCons (eFrz (aCal gSorted (aCons (eVar 1) aNil))) (aCons (eVar 5) aNil))), (bName 6), (tOf (eBin (gIs true) (eVar 6) (eC .non))), [6]⟩ []))))
    (fun pre fs μ1 => μ1 = μ ∧ ∃ s5 : Sl, fs = frF rs L s3 (.val (.lst ((pre.flatMap (rowsAt rs)).map eS))) s5 s6 s7 ∧ (pre.flatMap (rowsAt rs)).length ≤ 8 * pre.length) (xs := srtR rs) (pre := []) (fs := frF rs L s3 (.val (.lst [])) .no s6 s7) (μ := μ)
    (fun pre r hr hpl fs μ1 ⟨h0, s5, h2, h3⟩ => by
      subst h0 h2
      have lp : pre.length < 12 := by simp at hpl; omega
      have lr := lrow r
      let FS : Fs := frF rs L s3 (.val (.lst ((pre.flatMap (rowsAt rs)).map eS))) (.val (eR r)) s6 s7
      have h4 : aSeq (eFn F_law_makers (aCons (eFrz (aCal gSorted (aCons (eVar 1) aNil))) (aCons (eVar 5) aNil))) FS μ1 = some (((mks (srtR rs)).map fun m => m r).map eO, μ1) := q_seqV (q_fn (q_cons (q_sortR nd rfl) (q_cons (q_var rfl) q_nil)) (f_law_makers hs' (by omega) (hs' r hr)))
      have e1 := compF_enc (enc := eO) (ok := okL) (me := eVar 6) (c := ⟨aSeq (eFn F_law_makers (aCons (eFrz (aCal gSorted (aCons (eVar 1) aNil))) (aCons (eVar 5) aNil))), (bName 6), (tOf (eBin (gIs true) (eVar 6) (eC .non))), [6]⟩) (fs := FS) (μ := μ1) (xs := (mks (srtR rs)).map fun m => m r) Option.isSome eO 5000 h4 (fun o ho => ⟨[(6, eO o)], rfl, q_tof (q_isnot (q_var rfl)), fun _ => ⟨q_var rfl, okL_lt (by omega) _⟩⟩) (by
        have := List.length_filter_le Option.isSome ((mks (srtR rs)).map fun m => m r)
        simp only [mks, List.length_map, List.length_cons, List.length_nil] at this ⊢
        omega)
      rw [some_map] at e1
      have ef : (pre ++ [r]).flatMap (rowsAt rs) = pre.flatMap (rowsAt rs) ++ rowsAt rs r := by simp
      refine ⟨[(5, eR r)], frF rs L s3 (.val (.lst (((pre ++ [r]).flatMap (rowsAt rs)).map eS))) (.val (eR r)) s6 s7, μ1, rfl, q_asg (v := .lst (((pre ++ [r]).flatMap (rowsAt rs)).map eS)) ?_ rfl, rfl, _, rfl, ?_⟩
      · rw [ef, List.map_append]
        exact q_addL (q_var rfl) (q_frz e1) (by rw [List.length_map, List.length_map]; unfold rowsAt at lr h3; unfold rowsAt; omega)
      · rw [ef, List.length_append, List.length_append, List.length_singleton]
        omega) ⟨rfl, .no, rfl, by simp⟩
  subst hμ' hfs
  exact ⟨s5, q_for (q_seqV (q_sortR nd rfl)) e⟩
/-! ### one step tried -/
abbrev condS (i : Nat) : MT := tOr (tNot (tOf (eFn F_law_same (aCons (eFn F_is_step (aCons (eVar 1) (aCons (eVar i) aNil))) (aCons (eC (.bl true)) aNil))))) (tOf (eBin gNe (eFn F_law_worlds (aCons (eFn F_done (aCons (eVar 1) (aCons (eVar i) aNil))) (aCons (eVar 2) aNil))) (eFn F_law_worlds (aCons (eVar 1) (aCons (eVar 2) aNil)))))
theorem cond_ok {L : List PySem.Str} {rs : List Rl} {s : Stp} {μ : Mu} {fs : Fs} {i : Nat} (hL : OkL L) (hb : Bok L rs) (hs : s ∈ rowsO rs) (h1 : fs[1]? = some (.val (.lst (rs.map eR)))) (h2 : fs[2]? = some (.val (eL L))) (h3 : fs[i]? = some (.val (eS s))) : condS i fs μ = some (false, μ) := by
  have hm := row_may hb hs
  have ho := row_ok hb hs
  have hr := may_mem hm
  have hbd := hb.done ho hr
  have l1 := hb.len
  have l2 := hbd.len
  have l3 := ho.lf
  have i1 : eFn F_is_step (aCons (eVar 1) (aCons (eVar i) aNil)) fs μ = some (.bl true, μ) := by
    have := q_fn (q_cons (q_var h1) (q_cons (q_var h3) q_nil)) (f_is_step (μ := μ) hL hb.ok ho.b')
    rw [hm] at this
    exact this
  have w1 : eFn F_law_worlds (aCons (eFn F_done (aCons (eVar 1) (aCons (eVar i) aNil))) (aCons (eVar 2) aNil)) fs μ = some (.lst ((worldsL (doneL rs s) L).map eW), μ) := q_fn (q_cons (q_fn (q_cons (q_var h1) (q_cons (q_var h3) q_nil)) (f_done (fun r hr => ((hb.ok r hr).s hL).toRlT) ((ho.r.s hL).toRlT) (by omega))) (q_cons (q_var h2) q_nil)) (f_law_worlds (fun r hr => (hbd.ok r hr).s hL) (by omega) hL)
  have w2 : eFn F_law_worlds (aCons (eVar 1) (aCons (eVar 2) aNil)) fs μ = some (.lst ((worldsL rs L).map eW), μ) := q_fn (q_cons (q_var h1) (q_cons (q_var h2) q_nil)) (f_law_worlds (fun r hr => (hb.ok r hr).s hL) (by omega) hL)
  have we : worldsL (doneL rs s) L = worldsL rs L := (worlds_eq (fun r hr => (hbd.ok r hr).lets) fun r hr => (hb.ok r hr).lets).mpr (done_eqv hm)
  exact q_tor (p := false) (q := false) (q_tnot (p := true) (q_tof (q_fn (q_cons i1 (q_cons q_c q_nil)) (same_bl true μ)))) (fun _ => q_tof (q_bin (g := gNe) w1 w2 (by rw [gNe_W hL, we]; simp)))
/-! ### bent steps -/
def oddR : List PySem.Str → Rl
  | [x, y, z] => ⟨false, [x], [y, z], [], []⟩
  | [x, y, z, u] => ⟨false, [x], [y, z], [u], []⟩
  | _ => ⟨false, [], [], [], []⟩
/-- three letters or four -/
inductive L34 : List PySem.Str → Prop
  | three (x y z : PySem.Str) : L34 [x, y, z]
  | four (x y z u : PySem.Str) : L34 [x, y, z, u]
theorem odd_ok {L : List PySem.Str} (h : L34 L) : OkR L (oddR L) := by
  cases h with
  | three x y z => exact ⟨by simp [oddR], by simp [oddR], by simp [oddR], by simp [oddR], by simp [oddR], by simp [oddR], by simp [oddR], by simp [oddR], by simp [oddR]⟩
  | four x y z u => exact ⟨by simp [oddR], by simp [oddR], by simp [oddR], by simp [oddR], by simp [oddR], by simp [oddR], by simp [oddR], by simp [oddR], by simp [oddR]⟩
theorem q_oddR {L : List PySem.Str} {fs : Fs} {μ : Mu} {i : Nat} (h : L34 L) (hf : fs[i]? = some (.val (eL L))) : eTup (aCons (eC (.str "rule")) (aCons (eTup (aCons (eIdx (eVar i) (eC (.int 0))) aNil)) (aCons (eCal gTuple (aCons (eSl (eVar i) (oSome (eC (.int 1))) (oSome (eC (.int 3)))) aNil)) (aCons (eCal gTuple (aCons (eSl (eVar i) (oSome (eC (.int 3))) oNone) aNil)) (aCons (eTup aNil) aNil))))) fs μ = some (eR (oddR L), μ) := by
  cases h with
  | three x y z =>
    have a1 : eSl (eVar i) (oSome (eC (.int 1))) (oSome (eC (.int 3))) fs μ = some (.lst [.str y, .str z], μ) := by
      unfold eSl
      rw [q_var hf]
      rfl
    have a2 : eSl (eVar i) (oSome (eC (.int 3))) oNone fs μ = some (.lst [], μ) := by
      unfold eSl
      rw [q_var hf]
      rfl
    exact q_tup (q_cons q_c (q_cons (q_tup (q_cons (q_bin (g := gIdx) (v := .str x) (q_var hf) q_c rfl) q_nil) onev) (q_cons (q_cal (q_cons a1 q_nil) rfl) (q_cons (q_cal (q_cons a2 q_nil) rfl) (q_cons (q_tup q_nil zerov) q_nil))))) five
  | four x y z u =>
    have a1 : eSl (eVar i) (oSome (eC (.int 1))) (oSome (eC (.int 3))) fs μ = some (.lst [.str y, .str z], μ) := by
      unfold eSl
      rw [q_var hf]
      rfl
    have a2 : eSl (eVar i) (oSome (eC (.int 3))) oNone fs μ = some (.lst [.str u], μ) := by
      unfold eSl
      rw [q_var hf]
      rfl
    exact q_tup (q_cons q_c (q_cons (q_tup (q_cons (q_bin (g := gIdx) (v := .str x) (q_var hf) q_c rfl) q_nil) onev) (q_cons (q_cal (q_cons a1 q_nil) rfl) (q_cons (q_cal (q_cons a2 q_nil) rfl) (q_cons (q_tup q_nil zerov) q_nil))))) five
abbrev frT (rs : List Rl) (L : List PySem.Str) (s : Stp) (a b : Sl) : Fs := [.val (.loc 0), .val (.lst (rs.map eR)), .val (eS s), .val (eL L), .val (.str s.w), .val (eR s.r), .val (.tup (s.f.map eR)), .val (.tup (s.b.map eR)), a, b]
theorem f_bent {L : List PySem.Str} {rs : List Rl} {s : Stp} {μ : Mu} (h3 : L34 L) (hμ : OkM μ) (hb : Bok L rs) (hs : OkS L s) (hne : rs ≠ []) : ∃ (bs : List Stp) (μ' : Mu), F_law_bent [.loc 0, .lst (rs.map eR), eS s, eL L] μ = some (.lst (bs.map eS), μ') ∧ OkM μ' ∧ ∀ b ∈ bs, OkB L b := by
  obtain ⟨v, hv, μ', ep, op⟩ := f_pick hμ (vs := rs.map eR) (by simpa using hne)
  obtain ⟨q, hq, rfl⟩ := List.mem_map.mp hv
  have lf := hs.lf
  have lb := hs.lb
  have ob := hs.b'
  have od := odd_ok h3
  have hS : ∀ {w : PySem.Str} {r : Rl} {f b : List Rl} {fs : Fs} {μ μ1 : Mu} {mw mr mf mb : ME}, mw fs μ = some (.str w, μ) → mr fs μ = some (eR r, μ1) → mf fs μ1 = some (.tup (f.map eR), μ1) → mb fs μ1 = some (.tup (b.map eR), μ1) → eTup (aCons mw (aCons mr (aCons mf (aCons mb aNil)))) fs μ = some (eS ⟨w, r, f, b⟩, μ1) := fun a b c d => q_tup (q_cons a (q_cons b (q_cons c (q_cons d q_nil)))) four
  have hA : ∀ {r : Rl} {fs : Fs} {μ : Mu} {i j : Nat}, fs[i]? = some (.val (.tup (s.b.map eR))) → fs[j]? = some (.val (eR r)) → eBin gAdd (eVar i) (eTup (aCons (eVar j) aNil)) fs μ = some (.tup ((s.b ++ [r]).map eR), μ) := fun {r fs μ i j} a b => q_bin (q_var a) (q_tup (q_cons (q_var b) q_nil) onev) (by
    unfold gAdd
    simp only [List.length_map, List.length_singleton]
    rw [if_pos (sz (by omega))]
    simp)
  let bs1 : List Stp := [⟨"gone", s.r, s.f, s.b⟩, ⟨s.w, oddR L, s.f, s.b⟩, ⟨s.w, s.r, s.f, s.b ++ [s.r]⟩, ⟨s.w, s.r, s.f, s.b ++ [oddR L]⟩, ⟨s.w, s.r, s.f, []⟩]
  let bs2 : List Stp := [⟨s.w, s.r, [], []⟩, ⟨s.w, s.r, [s.r], s.b⟩, ⟨s.w, q, s.f, s.b⟩]
  refine ⟨bs1 ++ bs2, μ', q_fnF rfl (q_then (fs' := frT rs L s .no .no) (q_asgG (q_var rfl) rfl rfl) (q_then (fs' := frT rs L s (.val (eR (oddR L))) .no) (q_asg (q_oddR h3 rfl) rfl) (q_then (fs' := frT rs L s (.val (eR (oddR L))) (.val (.lst (bs1.map eS)))) (q_asg (v := .lst (bs1.map eS)) (q_frz (q_lst (vs := bs1.map eS) (q_cons (hS q_c (q_var rfl) (q_var rfl) (q_var rfl)) (q_cons (hS (q_var rfl) (q_var rfl) (q_var rfl) (q_var rfl)) (q_cons (hS (q_var rfl) (q_var rfl) (q_var rfl) (hA rfl rfl)) (q_cons (hS (q_var rfl) (q_var rfl) (q_var rfl) (hA rfl rfl)) (q_cons (hS (b := []) (q_var rfl) (q_var rfl) (q_var rfl) (q_tup q_nil zerov)) q_nil))))) (by simp [bs1]))) rfl) (q_ret' ?_)))), op, ?_⟩
  · rw [List.map_append]
    refine q_bin (g := gAdd) (x := .lst (bs1.map eS)) (y := .lst (bs2.map eS)) (q_var rfl) (q_frz (q_lst (vs := bs2.map eS) (q_cons (hS (f := []) (b := []) (q_var rfl) (q_var rfl) (q_tup q_nil zerov) (q_tup q_nil zerov)) (q_cons (hS (f := [s.r]) (q_var rfl) (q_var rfl) (q_tup (q_cons (q_var rfl) q_nil) onev) (q_var rfl)) (q_cons (hS (q_var rfl) (q_fn (q_cons (q_var rfl) (q_cons (q_var rfl) q_nil)) ep) (q_var rfl) (q_var rfl)) q_nil))) (by simp [bs2]))) ?_
    unfold gAdd
    simp only [List.length_map]
    rw [if_pos (sz (by simp [bs1, bs2]))]
  · intro b hb'
    have happ : ∀ {r : Rl}, OkR L r → ∀ f ∈ s.b ++ [r], OkR L f := fun h f hf => by
      rcases List.mem_append.mp hf with z | z
      · exact ob.b f z
      · rw [List.mem_singleton.mp z]; exact h
    have tg : Tx "gone" := by decide +kernel
    simp only [bs1, bs2, List.mem_append, List.mem_cons, List.not_mem_nil, or_false] at hb'
    rcases hb' with (rfl | rfl | rfl | rfl | rfl) | (rfl | rfl | rfl)
    · exact ⟨tg, ob.r, ob.f, ob.b, ob.lf, ob.lb⟩
    · exact ⟨ob.w, od, ob.f, ob.b, ob.lf, ob.lb⟩
    · exact ⟨ob.w, ob.r, ob.f, happ ob.r, ob.lf, by simp; omega⟩
    · exact ⟨ob.w, ob.r, ob.f, happ od, ob.lf, by simp; omega⟩
    · exact ⟨ob.w, ob.r, ob.f, by simp, ob.lf, by simp⟩
    · exact ⟨ob.w, ob.r, by simp, by simp, by simp, by simp⟩
    · exact ⟨ob.w, ob.r, by simpa using ob.r, ob.b, by simp, ob.lb⟩
    · exact ⟨ob.w, hb.ok q hq, ob.f, ob.b, ob.lf, ob.lb⟩
end K8
end MKM8v
section MKM8w
/-! k08, the mathematics, part w: every step of a book fits. -/
namespace K8
open PySem PySem.Spec PyProof.Rows L2 Ev
theorem q_isO {a : ME} {fs : Fs} {μ : Mu} {o : Option Stp} (h : a fs μ = some (eO o, μ)) : eBin (gIs false) a (eC .non) fs μ = some (.bl o.isNone, μ) := q_bin h q_c (by cases o <;> rfl)
theorem gNe_b {μ : Mu} {a b : Bool} : gNe μ (.bl a) (.bl b) = some (.bl (!(a == b))) := gNe_bl
theorem f_step_fits {L : List PySem.Str} {rs : List Rl} {μ : Mu} (h34 : L34 L) (hL : OkL L) (hμ : OkM μ) (nd : rs.Nodup) (hb : Bok L rs) : ∃ μ', F_law_step_fits [.loc 0, .lst (rs.map eR), eL L] μ = some (.bl true, μ') ∧ OkM μ' := by
  have hl := hb.len
  have hrS : ∀ r ∈ rs, RlS r := fun r hr => (hb.ok r hr).s hL
  obtain ⟨s5, e3⟩ := rows_loop (μ := μ) hL nd hb (.val (eO (nextO rs))) .no .no
  let F (s6 s7 : Sl) : Fs := frF rs L (.val (eO (nextO rs))) (.val (.lst ((rowsO rs).map eS))) s5 s6 s7
  have hpd : eTt ((rowsO rs).map eS) := eSs_pd hL fun s hs => (row_ok hb hs).b'
  have c4 : tOr (tOf (eBin gNe (eBin (gIs false) (eVar 3) (eC .non)) (eBin gEq (eVar 4) (eFrz (aLst aNil))))) (tAnd (tOf (eBin (gIs true) (eVar 3) (eC .non))) (tOf (eBin (gIn true) (eVar 3) (eVar 4)))) (F .no .no) μ = some (false, μ) := by
    have g1 : eBin gEq (eVar 4) (eFrz (aLst aNil)) (F .no .no) μ = some (.bl (rowsO rs).isEmpty, μ) := by
      refine q_bin (q_var rfl) (q_frz (vs := []) rfl) ?_
      rw [gEq_good (good_lst hpd) (good_lst (by simp)), emp_dec]
    have g2 : (nextO rs).isNone = (rowsO rs).isEmpty := by
      cases h : nextO rs with
      | none => rw [rows_nil.mpr h]; rfl
      | some s =>
        cases h2 : rowsO rs with
        | nil => rw [rows_nil.mp h2] at h; cases h
        | cons x xs => rfl
    refine q_tor (p := false) (q := false) (q_tof (q_bin (g := gNe) (q_isO (q_var rfl)) g1 (by rw [gNe_b, g2]; simp))) fun _ => q_tand (q := false) (q_tof (q_isnot (o := nextO rs) (q_var rfl))) (fun h => ?_) |>.trans (by simp)
    cases h2 : nextO rs with
    | none => rw [h2] at h; cases h
    | some s =>
      have hs := next_row h2
      have v3 : (F .no .no)[3]? = some (.val (eS s)) := by
        show some (Sl.val (eO (nextO rs))) = _
        rw [h2]
        rfl
      have := gIn_lst (neg := true) (μ := μ) (good_eS hL (row_ok hb hs).b') hpd
      have hm : eS s ∈ (rowsO rs).map eS := List.mem_map.mpr ⟨s, hs, rfl⟩
      rw [decide_eq_true hm] at this
      exact q_tof (q_bin (q_var v3) (q_var rfl) this)
  obtain ⟨fs', μ1, e5, hμ1, s6, hfs⟩ := forL_inv (enc := eS) (g := bName 6) (body := sIf (condS 6) (sRet (eC (.bl false))) sNil)
    (fun pre fs μ1 => μ1 = μ ∧ ∃ s6 : Sl, fs = F s6 .no) (xs := rowsO rs) (pre := []) (fs := F .no .no) (μ := μ)
    (fun pre s hs _ fs μ1 ⟨h0, s6, h2⟩ => by
      subst h0 h2
      exact ⟨[(6, eS s)], F (.val (eS s)) .no, μ1, rfl, q_ifs (cond_ok hL hb hs rfl rfl rfl) (fun q => by cases q) (fun _ => rfl), rfl, _, rfl⟩) ⟨rfl, .no, rfl⟩
  subst hμ1 hfs
  have base : ∀ {μ' : Mu}, (∃ fsE, (sSeq (sIf (tOf (eBin (gIs false) (eVar 3) (eC .non))) (sRet (eC (.bl true))) sNil) (sSeq (sIf (condS 3) (sRet (eC (.bl false))) sNil) (sSeq (sFor (aSeq (eFn F_law_bent (aCons (eVar 0) (aCons (eVar 1) (aCons (eVar 3) (aCons (eVar 2) aNil)))))) (bName 7) (sIf (tNot (tOf (eFn F_law_same (aCons (eFn F_is_step (aCons (eVar 1) (aCons (eVar 7) aNil))) (aCons (eFn F_law_may (aCons (eVar 1) (aCons (eVar 7) (aCons (eVar 2) aNil)))) aNil))))) (sRet (eC (.bl false))) sNil)) (sRet (eC (.bl true)))))) (F s6 .no) μ1 = some (.rt (.bl true), fsE, μ')) → F_law_step_fits [.loc 0, .lst (rs.map eR), eL L] μ1 = some (.bl true, μ') := fun h =>
    q_fnF rfl (q_then (fs' := frF rs L (.val (eO (nextO rs))) .no .no .no .no) (q_asg (q_fn (q_cons (q_var rfl) q_nil) (f_next_step hrS (by omega))) rfl) (q_then (fs' := frF rs L (.val (eO (nextO rs))) (.val (.lst [])) .no .no .no) (q_asg (q_frz rfl) rfl) (q_then e3 (q_ifF c4 (q_then (q_for (q_seqV (q_var rfl)) e5) h)))))
  cases h : nextO rs with
  | none =>
    refine ⟨μ1, base ?_, hμ⟩
    have := q_tof (q_isO (o := nextO rs) (fs := F s6 .no) (a := eVar 3) (μ := μ1) (q_var rfl))
    rw [h] at this
    exact q_ifT this (q_ret' q_c)
  | some s =>
    have hs := next_row h
    have v3 : (F s6 .no)[3]? = some (.val (eS s)) := by
      show some (Sl.val (eO (nextO rs))) = _
      rw [h]
      rfl
    have t3 := q_tof (q_isO (o := nextO rs) (fs := F s6 .no) (a := eVar 3) (μ := μ1) (q_var rfl))
    rw [h] at t3
    have hne : rs ≠ [] := List.ne_nil_of_mem (may_mem (row_may hb hs))
    obtain ⟨bs, μ2, eb, o2, hbs⟩ := f_bent h34 hμ hb (row_ok hb hs) hne
    obtain ⟨fs'', μ3, e7, hμ3, s7, hfs⟩ := forL_inv (enc := eS) (g := bName 7) (body := (sIf (tNot (tOf (eFn F_law_same (aCons (eFn F_is_step (aCons (eVar 1) (aCons (eVar 7) aNil))) (aCons (eFn F_law_may (aCons (eVar 1) (aCons (eVar 7) (aCons (eVar 2) aNil)))) aNil))))) (sRet (eC (.bl false))) sNil))
      (fun pre fs μ3 => μ3 = μ2 ∧ ∃ s7 : Sl, fs = F s6 s7) (xs := bs) (pre := []) (fs := F s6 .no) (μ := μ2)
      (fun pre b hb' _ fs μ3 ⟨h0, s7, h2⟩ => by
        subst h0 h2
        have i1 := q_fn (fs := F s6 (.val (eS b))) (m := aCons (eVar 1) (aCons (eVar 7) aNil)) (q_cons (q_var rfl) (q_cons (q_var rfl) q_nil)) (f_is_step (μ := μ3) hL hb.ok (hbs b hb'))
        have i2 := q_fn (fs := F s6 (.val (eS b))) (m := aCons (eVar 1) (aCons (eVar 7) (aCons (eVar 2) aNil))) (q_cons (q_var rfl) (q_cons (q_var rfl) (q_cons (q_var rfl) q_nil))) (f_law_may (μ := μ3) hL hb.ok (hbs b hb'))
        exact ⟨[(7, eS b)], F s6 (.val (eS b)), μ3, rfl, q_ifs (q_tnot (p := true) (q_tof (q_fn (q_cons i1 (q_cons i2 q_nil)) (same_bl _ _)))) (fun q => by cases q) (fun _ => rfl), rfl, _, rfl⟩) ⟨rfl, .no, rfl⟩
    subst hμ3 hfs
    exact ⟨μ3, base (q_ifF t3 (q_ifF (cond_ok hL hb hs rfl rfl v3) (q_then (q_for (q_seqV (q_fn (q_cons (q_var rfl) (q_cons (q_var rfl) (q_cons (q_var v3) (q_cons (q_var rfl) q_nil)))) eb)) e7) (q_ret' q_c)))), o2⟩
end K8
end MKM8w
section MKM8x
/-! k08, the mathematics, part x: rows of steps, by the program and by the law. -/
namespace K8
open PySem PySem.Spec PyProof.Rows L2 Ev
abbrev frZ (rs now : List Rl) (ss : List Stp) (o : Option Stp) : Fs := [.val (.lst (rs.map eR)), .val (.lst (now.map eR)), .own (ss.map eS), .val (eO o)]
abbrev whC : MT := tOf (eBin (gIs true) (eVar 3) (eC .non))
abbrev whB : MS := sSeq (sAsg 1 (eFn F_done (aCons (eVar 1) (aCons (eVar 3) aNil)))) (sSeq (sApp 2 (eVar 3)) (sAsg 3 (eFn F_next_step (aCons (eVar 1) aNil))))
theorem while_run {L : List PySem.Str} {rs : List Rl} {μ : Mu} (hL : OkL L) : ∀ (n : Nat) (now : List Rl) (ds : List Stp), Bok L now → wtL now < n → ds.length + wtL now ≤ 5000 →
    ∃ now' ss, whileL whC whB n (frZ rs now ds (nextO now)) μ = some (.nx, frZ rs now' (ds ++ ss) none, μ) ∧ Tr now ss now' ∧ nextO now' = none
  | 0, now, ds, _, h, _ => absurd h (Nat.not_lt_zero _)
  | n + 1, now, ds, hb, hw, hd => by
    have c : whC (frZ rs now ds (nextO now)) μ = some ((nextO now).isSome, μ) := q_tof (q_isnot (q_var rfl))
    cases h : nextO now with
    | none =>
      rw [h] at c
      refine ⟨now, [], ?_, .nil now, h⟩
      unfold whileL
      rw [c]
      simp
    | some s =>
      have hs := next_row h
      have ho := row_ok hb hs
      have hm := row_may hb hs
      have hb' := hb.done ho (may_mem hm)
      have hwt := row_wt hb hs
      rw [h] at c
      obtain ⟨now', ss, e, t, hn⟩ := while_run (rs := rs) (μ := μ) hL n (doneL now s) (ds ++ [s]) hb' (by omega) (by simp only [List.length_append, List.length_singleton]; omega)
      refine ⟨now', s :: ss, ?_, .cons h t, hn⟩
      have l1 := hb.len
      have l2 := hb'.len
      have l3 := ho.lf
      have bd : whB (frZ rs now ds (some s)) μ = some (.nx, frZ rs (doneL now s) (ds ++ [s]) (nextO (doneL now s)), μ) :=
        q_seq (fs' := frZ rs (doneL now s) ds (some s)) (q_asg (q_fn (q_cons (q_var rfl) (q_cons (q_var rfl) q_nil)) (f_done (fun r hr => ((hb.ok r hr).s hL).toRlT) ((ho.r.s hL).toRlT) (by omega))) rfl)
          (q_seq (fs' := frZ rs (doneL now s) (ds ++ [s]) (some s)) (q_app (xs := ds.map eS) (v := eS s) rfl (q_var rfl) (by rw [List.length_map]; omega) (by rw [show frZ rs (doneL now s) (ds ++ [s]) (some s) = [.val (.lst (rs.map eR)), .val (.lst ((doneL now s).map eR)), .own (ds.map eS ++ [eS s]), .val (eO (some s))] by simp [frZ]]; rfl))
            (q_asg (q_fn (q_cons (q_var rfl) q_nil) (f_next_step (fun r hr => (hb'.ok r hr).s hL) (by omega))) rfl))
      unfold whileL
      rw [c]
      simp only [Option.isSome_some]
      rw [bd]
      simp only
      rw [e]
      simp
theorem f_simplified {L : List PySem.Str} {rs : List Rl} {μ : Mu} (hL : OkL L) (hb : Bok L rs) : ∃ now ss, F_simplified [.lst (rs.map eR)] μ = some (.tup [.lst (now.map eR), .lst (ss.map eS)], μ) ∧ Tr (srtR rs) ss now ∧ nextO now = none := by
  have hb' := hb.srt
  have l1 := hb.len
  have l2 := hb'.len
  have hw := wtL_le hb'
  obtain ⟨now, ss, e, t, hn⟩ := while_run (rs := rs) (μ := μ) hL fuel (srtR rs) [] hb' (by unfold fuel; omega) (by simp; omega)
  refine ⟨now, ss, q_fnF rfl (q_then (fs' := [.val (.lst (rs.map eR)), .val (.lst ((srtR rs).map eR)), .own [], .no]) ?_ (q_then (fs' := frZ rs (srtR rs) [] (nextO (srtR rs))) (q_asg (q_fn (q_cons (q_var rfl) q_nil) (f_next_step (fun r hr => (hb'.ok r hr).s hL) (by omega))) rfl) (q_then e (q_ret' (q_tup (q_cons (q_var rfl) (q_cons (q_var rfl) q_nil)) (sz (by simp))))))), t, hn⟩
  unfold sParO
  rw [q_fn (q_cons (q_var rfl) q_nil) (f_in_order (by omega))]
  rfl
/-! ### rows -/
noncomputable def runB : List Rl → List Stp → Option (List Rl)
  | now, [] => some now
  | now, s :: ss => if mayB now s then runB (doneL now s) ss else none
theorem leads_run (fresh : List Rl) : ∀ (ss : List Stp) (now : List Rl), leadsB now ss fresh = match runB now ss with | none => false | some n => decide (n = srtR fresh)
  | [], now => rfl
  | s :: ss, now => by
    unfold leadsB runB
    split
    · exact leads_run fresh ss _
    · rfl
theorem gEq_RL {a b : List Rl} {μ : Mu} (ha : ∀ r ∈ a, RlT r) (hb : ∀ r ∈ b, RlT r) : gEq μ (.lst (a.map eR)) (.lst (b.map eR)) = some (.bl (decide (a = b))) := by
  rw [gEq_good (good_lst (rs_pd ha)) (good_lst (rs_pd hb))]
  congr 2
  refine decide_eq_decide.mpr ⟨fun h => ?_, fun h => by rw [h]⟩
  simp only [Va.lst.injEq] at h
  exact (List.map_inj_right (fun x y e => eR_inj.mp e)).mp h
theorem run_bok {L : List PySem.Str} : ∀ (ss : List Stp) (now n : List Rl), Bok L now → (∀ s ∈ ss, OkS L s) → runB now ss = some n → Bok L n
  | [], now, n, hb, _, h => by
    unfold runB at h
    cases h
    exact hb
  | s :: ss, now, n, hb, hs, h => by
    unfold runB at h
    split at h
    · rename_i hm
      exact run_bok ss _ _ (hb.done (hs s (by simp)) (may_mem hm)) (fun s' h' => hs s' (List.mem_cons_of_mem _ h')) h
    · cases h
theorem q_seqX {s t : MS} {fs fs' : Fs} {μ μ1 : Mu} {v : Va} (h : s fs μ = some (.rt v, fs', μ1)) : sSeq s t fs μ = some (.rt v, fs', μ1) := by unfold sSeq; rw [h]
abbrev frS (rs fr now : List Rl) (ss : List Stp) (s4 : Sl) : Fs := [.val (.lst (rs.map eR)), .val (.lst (fr.map eR)), .val (.lst (ss.map eS)), .val (.lst (now.map eR)), s4]
abbrev shB : MS := sSeq (sIf (tNot (tOf (eFn F_is_step (aCons (eVar 3) (aCons (eVar 4) aNil))))) (sRet (eC (.bl false))) sNil) (sAsg 3 (eFn F_done (aCons (eVar 3) (aCons (eVar 4) aNil))))
theorem shows_loop {L : List PySem.Str} {rs fr : List Rl} {all : List Stp} {μ : Mu} (hL : OkL L) : ∀ (ss : List Stp) (now : List Rl) (s4 : Sl), Bok L now → (∀ s ∈ ss, OkS L s) →
    ∃ fs', forL (bName 4) shB (ss.map eS) (frS rs fr now all s4) μ = (match runB now ss with | none => some (.rt (.bl false), fs', μ) | some n => some (.nx, fs', μ)) ∧ ∀ n, runB now ss = some n → ∃ s4', fs' = frS rs fr n all s4'
  | [], now, s4, _, _ => ⟨frS rs fr now all s4, rfl, fun n h => by unfold runB at h; cases h; exact ⟨s4, rfl⟩⟩
  | s :: ss, now, s4, hb, hs => by
    have ho := hs s (by simp)
    have c : tNot (tOf (eFn F_is_step (aCons (eVar 3) (aCons (eVar 4) aNil)))) (frS rs fr now all (.val (eS s))) μ = some (!mayB now s, μ) := q_tnot (q_tof (q_fn (q_cons (q_var rfl) (q_cons (q_var rfl) q_nil)) (f_is_step hL hb.ok ho.b')))
    cases hm : mayB now s with
    | false =>
      rw [hm] at c
      refine ⟨frS rs fr now all (.val (eS s)), ?_, fun n h => by unfold runB at h; rw [hm] at h; cases h⟩
      have b : shB (sets (frS rs fr now all s4) [(4, eS s)]) μ = some (.rt (.bl false), frS rs fr now all (.val (eS s)), μ) := by
        show shB (frS rs fr now all (.val (eS s))) μ = _
        exact q_seqX (q_ifs c (fun _ => q_ret q_c) fun q => by cases q)
      rw [List.map_cons]
      unfold forL runB
      rw [hm]
      simp only [bName]
      rw [b]
      simp
    | true =>
      rw [hm] at c
      have hb' := hb.done ho (may_mem hm)
      have l1 := hb.len
      have l3 := ho.lf
      obtain ⟨fs', e, hn⟩ := shows_loop (rs := rs) (fr := fr) (all := all) (μ := μ) hL ss (doneL now s) (.val (eS s)) hb' fun s' h' => hs s' (List.mem_cons_of_mem _ h')
      refine ⟨fs', ?_, fun n h => by unfold runB at h; rw [hm] at h; exact hn n h⟩
      have b : shB (sets (frS rs fr now all s4) [(4, eS s)]) μ = some (.nx, frS rs fr (doneL now s) all (.val (eS s)), μ) := by
        show shB (frS rs fr now all (.val (eS s))) μ = _
        exact q_seq (q_ifs c (fun q => by cases q) fun _ => rfl) (q_asg (q_fn (q_cons (q_var rfl) (q_cons (q_var rfl) q_nil)) (f_done (fun r hr => ((hb.ok r hr).s hL).toRlT) ((ho.r.s hL).toRlT) (by omega))) rfl)
      rw [List.map_cons]
      unfold forL
      simp only [bName]
      rw [b]
      simp only
      rw [e]
      conv => rhs; unfold runB
      rw [hm]
      simp
theorem f_shows {L : List PySem.Str} {rs fr : List Rl} {ss : List Stp} {μ : Mu} (hL : OkL L) (hb : Bok L rs) (hf : Bok L fr) (hs : ∀ s ∈ ss, OkS L s) : F_shows_simpler [.lst (rs.map eR), .lst (fr.map eR), .lst (ss.map eS)] μ = some (.bl (leadsB (srtR rs) ss fr), μ) := by
  have l1 := hb.len
  have l2 := hf.len
  obtain ⟨fs', e, hn⟩ := shows_loop (rs := rs) (fr := fr) (all := ss) (μ := μ) hL ss (srtR rs) .no hb.srt hs
  rw [leads_run]
  have i0 : eFn F_in_order (aCons (eVar 0) aNil) [.val (.lst (rs.map eR)), .val (.lst (fr.map eR)), .val (.lst (ss.map eS)), .no, .no] μ = some (.lst ((srtR rs).map eR), μ) := q_fn (q_cons (q_var rfl) q_nil) (f_in_order (by omega))
  refine q_fnF rfl (q_then (fs' := frS rs fr (srtR rs) ss .no) (q_asg i0 rfl) ?_)
  cases h : runB (srtR rs) ss with
  | none =>
    rw [h] at e
    exact q_seqrt (q_for (q_seqV (q_var rfl)) e)
  | some n =>
    rw [h] at e
    obtain ⟨s4', rfl⟩ := hn n h
    have hbn := run_bok ss _ _ hb.srt hs h
    exact q_then (q_for (q_seqV (q_var rfl)) e) (q_ret' (q_bin (q_var rfl) (q_fn (q_cons (q_var rfl) q_nil) (f_in_order (by omega))) (gEq_RL (fun r hr => ((hbn.ok r hr).s hL).toRlT) fun r hr => ((hf.srt.ok r hr).s hL).toRlT)))
/-! ### leads -/
theorem q_setR {a : ME} {fs : Fs} {μ : Mu} {rs : List Rl} (h : a fs μ = some (.lst (rs.map eR), μ)) (hl : rs.length < 60) : eFrz (aSrtU (aCal (gSetB true) (aCons a aNil))) fs μ = some (.lst ((srtR rs).map eR), μ) := by
  have ok : okB true (rs.map eR) = true := by
    unfold okB
    simp only [if_true, Bool.and_eq_true, List.all_eq_true, decide_eq_true_eq]
    refine ⟨fun v hv => ?_, by rw [List.length_map]; omega⟩
    obtain ⟨r, _, rfl⟩ := List.mem_map.mp hv
    exact ⟨⟨rfl, flat_eR r⟩, key_depth_eR r⟩
  refine q_frz ?_
  unfold aSrtU
  have g : gSetB true μ [.lst (rs.map eR)] = some (rs.map eR) := by
    unfold gSetB
    simp only [look]
    rw [if_pos ok]
  rw [q_acal (q_cons h q_nil) g]
  simp only
  rw [if_pos (ok_rls _), srtR_map]
abbrev frE (rs fr now : List Rl) (L : List PySem.Str) (ss : List Stp) (s5 : Sl) : Fs := [.val (.lst (rs.map eR)), .val (.lst (fr.map eR)), .val (.lst (ss.map eS)), .val (eL L), .val (.lst (now.map eR)), s5, .no]
abbrev leB : MS := sSeq (sIf (tNot (tOf (eFn F_law_may (aCons (eVar 4) (aCons (eVar 5) (aCons (eVar 3) aNil)))))) (sRet (eC (.bl false))) sNil) (sAsg 4 (eFrz (aSrtU (aCal (gSetB true) (aCons (eBin gAdd (eFrz (compF okL (eVar 6) ⟨aSeq (eVar 4), (bName 6), (tOf (eBin gNe (eVar 6) (eIdx (eVar 5) (eC (.int 1))))), [6]⟩ [])) (eFrz (aCal gList (aCons (eIdx (eVar 5) (eC (.int 2))) aNil)))) aNil)))))
theorem leads_loop {L : List PySem.Str} {rs fr : List Rl} {all : List Stp} {μ : Mu} (hL : OkL L) : ∀ (ss : List Stp) (now : List Rl) (s5 : Sl), Bok L now → (∀ s ∈ ss, OkS L s) →
    ∃ fs', forL (bName 5) leB (ss.map eS) (frE rs fr now L all s5) μ = (match runB now ss with | none => some (.rt (.bl false), fs', μ) | some n => some (.nx, fs', μ)) ∧ ∀ n, runB now ss = some n → ∃ s5', fs' = frE rs fr n L all s5'
  | [], now, s5, _, _ => ⟨frE rs fr now L all s5, rfl, fun n h => by unfold runB at h; cases h; exact ⟨s5, rfl⟩⟩
  | s :: ss, now, s5, hb, hs => by
    have ho := hs s (by simp)
    have c : tNot (tOf (eFn F_law_may (aCons (eVar 4) (aCons (eVar 5) (aCons (eVar 3) aNil))))) (frE rs fr now L all (.val (eS s))) μ = some (!mayB now s, μ) := q_tnot (q_tof (q_fn (q_cons (q_var rfl) (q_cons (q_var rfl) (q_cons (q_var rfl) q_nil))) (f_law_may hL hb.ok ho.b')))
    cases hm : mayB now s with
    | false =>
      rw [hm] at c
      refine ⟨frE rs fr now L all (.val (eS s)), ?_, fun n h => by unfold runB at h; rw [hm] at h; cases h⟩
      have b : leB (sets (frE rs fr now L all s5) [(5, eS s)]) μ = some (.rt (.bl false), frE rs fr now L all (.val (eS s)), μ) := by
        show leB (frE rs fr now L all (.val (eS s))) μ = _
        exact q_seqX (q_ifs c (fun _ => q_ret q_c) fun q => by cases q)
      rw [List.map_cons]
      unfold forL runB
      rw [hm]
      simp only [bName]
      rw [b]
      simp
    | true =>
      rw [hm] at c
      have hb' := hb.done ho (may_mem hm)
      have l1 := hb.len
      have l3 := ho.lf
      have hT : ∀ r ∈ now, RlT r := fun r hr => ((hb.ok r hr).s hL).toRlT
      have rT : RlT s.r := (ho.r.s hL).toRlT
      obtain ⟨fs', e, hn⟩ := leads_loop (rs := rs) (fr := fr) (all := all) (μ := μ) hL ss (doneL now s) (.val (eS s)) hb' fun s' h' => hs s' (List.mem_cons_of_mem _ h')
      refine ⟨fs', ?_, fun n h => by unfold runB at h; rw [hm] at h; exact hn n h⟩
      have e1 := lc_Rp (me := eVar 6) (t := tOf (eBin gNe (eVar 6) (eIdx (eVar 5) (eC (.int 1))))) (i := 4) (k := 6) (fs := frE rs fr now L all (.val (eS s))) (μ := μ) (xs := now) (fun f => !decide (f = s.r)) eR rfl (by omega)
        (fun f hf => q_tof (q_bin (q_var rfl) (q_bin (g := gIdx) (x := eS s) (v := eR s.r) (q_var rfl) q_c rfl) (gNe_R (hT f hf) rT))) (fun f hf _ => q_var rfl)
      have lf := List.length_filter_le (fun f => !decide (f = s.r)) now
      have e2 : eBin gAdd (eFrz (compF okL (eVar 6) ⟨aSeq (eVar 4), (bName 6), (tOf (eBin gNe (eVar 6) (eIdx (eVar 5) (eC (.int 1))))), [6]⟩ [])) (eFrz (aCal gList (aCons (eIdx (eVar 5) (eC (.int 2))) aNil))) (frE rs fr now L all (.val (eS s))) μ = some (.lst ((now.filter (fun f => !decide (f = s.r)) ++ s.f).map eR), μ) := by
        rw [List.map_append]
        exact q_addL (q_frz e1) (q_list (q_bin (g := gIdx) (x := eS s) (v := .tup (s.f.map eR)) (q_var rfl) q_c rfl)) (by rw [List.length_map, List.length_map]; omega)
      have b : leB (sets (frE rs fr now L all s5) [(5, eS s)]) μ = some (.nx, frE rs fr (doneL now s) L all (.val (eS s)), μ) := by
        show leB (frE rs fr now L all (.val (eS s))) μ = _
        exact q_seq (q_ifs c (fun q => by cases q) fun _ => rfl) (q_asg (q_setR e2 (by rw [List.length_append]; omega)) rfl)
      rw [List.map_cons]
      unfold forL
      simp only [bName]
      rw [b]
      simp only
      rw [e]
      conv => rhs; unfold runB
      rw [hm]
      simp
theorem f_leads {L : List PySem.Str} {rs fr : List Rl} {ss : List Stp} {μ : Mu} (hL : OkL L) (hb : Bok L rs) (hf : Bok L fr) (hs : ∀ s ∈ ss, OkS L s) : F_law_leads [.lst (rs.map eR), .lst (fr.map eR), .lst (ss.map eS), eL L] μ = some (.bl (leadsB (srtR rs) ss fr), μ) := by
  have l1 := hb.len
  have l2 := hf.len
  obtain ⟨fs', e, hn⟩ := leads_loop (rs := rs) (fr := fr) (all := ss) (μ := μ) hL ss (srtR rs) .no hb.srt hs
  rw [leads_run]
  refine q_fnF rfl (q_then (fs' := frE rs fr (srtR rs) L ss .no) (q_asg (q_setR (q_var rfl) (by omega)) rfl) ?_)
  cases h : runB (srtR rs) ss with
  | none =>
    rw [h] at e
    exact q_seqrt (q_for (q_seqV (q_var rfl)) e)
  | some n =>
    rw [h] at e
    obtain ⟨s4', rfl⟩ := hn n h
    have hbn := run_bok ss _ _ hb.srt hs h
    exact q_then (q_for (q_seqV (q_var rfl)) e) (q_ret' (q_bin (q_var rfl) (q_setR (q_var rfl) (by omega)) (gEq_RL (fun r hr => ((hbn.ok r hr).s hL).toRlT) fun r hr => ((hf.srt.ok r hr).s hL).toRlT)))
end K8
end MKM8x
section MKM8y
/-! k08, the mathematics, part y: unused letters, sizes, facts, bars. -/
namespace K8
open PySem PySem.Spec PyProof.Rows L2 Ev
def bodyL (r : Rl) : List PySem.Str := [r.p, r.n, r.t].flatMap id
def headsA (rs : List Rl) : List PySem.Str := rs.flatMap fun r => r.h
def bodyA (rs : List Rl) : List PySem.Str := rs.flatMap bodyL
def restL (rs : List Rl) : List PySem.Str := srtS ((bodyA rs).filter fun x => !decide (x ∈ headsA rs))
theorem heads_in {L : List PySem.Str} {rs : List Rl} (h : ∀ r ∈ rs, OkR L r) : ∀ x ∈ headsA rs, x ∈ L := fun x hx => by
  obtain ⟨r, hr, q⟩ := List.mem_flatMap.mp hx
  exact (h r hr).h x q
theorem body_in {L : List PySem.Str} {rs : List Rl} (h : ∀ r ∈ rs, OkR L r) : ∀ x ∈ bodyA rs, x ∈ L := fun x hx => by
  obtain ⟨r, hr, q⟩ := List.mem_flatMap.mp hx
  simp only [bodyL, List.flatMap_cons, List.flatMap_nil, id, List.append_nil, List.mem_append] at q
  rcases q with q | q | q
  · exact (h r hr).p x q
  · exact (h r hr).n x q
  · exact (h r hr).t x q
theorem len_heads {L : List PySem.Str} : ∀ {rs : List Rl}, (∀ r ∈ rs, OkR L r) → (headsA rs).length ≤ 2 * rs.length
  | [], _ => by simp [headsA]
  | r :: rs, h => by
    have h1 := (h r (by simp)).lh
    have h2 := len_heads (rs := rs) fun s hs => h s (List.mem_cons_of_mem _ hs)
    unfold headsA at h2 ⊢
    rw [List.flatMap_cons, List.length_append, List.length_cons]
    omega
theorem len_bodyL {L : List PySem.Str} {r : Rl} (h : OkR L r) : (bodyL r).length ≤ 6 := by
  have h2 := h.lp
  have h3 := h.ln
  have h4 := h.lt
  simp [bodyL]
  omega
theorem len_body {L : List PySem.Str} : ∀ {rs : List Rl}, (∀ r ∈ rs, OkR L r) → (bodyA rs).length ≤ 6 * rs.length
  | [], _ => by simp [bodyA]
  | r :: rs, h => by
    have h1 := len_bodyL (h r (by simp))
    have h2 := len_body (rs := rs) fun s hs => h s (List.mem_cons_of_mem _ hs)
    unfold bodyA at h2 ⊢
    rw [List.flatMap_cons, List.length_append, List.length_cons]
    omega
theorem len_rest {L : List PySem.Str} {rs : List Rl} (hL : OkL L) (h : ∀ r ∈ rs, OkR L r) : (restL rs).length ≤ 4 := by
  have := nodup_len (l2 := L) (nodup_srtS ((bodyA rs).filter fun x => !decide (x ∈ headsA rs))) fun x hx => body_in h x (List.mem_filter.mp (mem_srtS.mp hx)).1
  have := hL.len
  unfold restL
  omega
theorem rest_in {L : List PySem.Str} {rs : List Rl} (h : ∀ r ∈ rs, OkR L r) : ∀ x ∈ restL rs, x ∈ L := fun x hx => body_in h x (List.mem_filter.mp (mem_srtS.mp hx)).1
theorem flat_one {α β : Type} (f : α → β) : ∀ l : List α, (l.flatMap fun x => [f x]) = l.map f
  | [] => rfl
  | x :: l => by rw [List.flatMap_cons, flat_one f l]; rfl
theorem f_unused {L : List PySem.Str} {rs : List Rl} {μ : Mu} (hL : OkL L) (hb : Bok L rs) : F_unused [.lst (rs.map eR)] μ = some (eL (restL rs), μ) := by
  have l0 := hb.len
  have l1 := len_heads hb.ok
  have l2 := len_body hb.ok
  have tb : TxL (bodyA rs) := fun x hx => hL.tx x (body_in hb.ok x hx)
  have th : TxL (headsA rs) := fun x hx => hL.tx x (heads_in hb.ok x hx)
  let F0 : Fs := [.val (.lst (rs.map eR)), .no, .no, .no, .no, .no]
  have g0 : aSeq (eVar 0) F0 μ = some (rs.map eR, μ) := q_seqR rfl
  have e1 := compF_flat (enc := eR) (ok := okL) (me := eVar 3) (c := ⟨aSeq (eVar 0), (bName 2), tAll, [2, 3]⟩) (cs := [⟨aSeq (eIdx (eVar 2) (eC (.int 1))), (bName 3), tAll, [3]⟩]) (fs := F0) (μ := μ) (xs := rs) (fun r => r.h.map .str) g0
    (fun r hr acc' ha => ⟨[(2, eR r)], rfl, .inl ⟨rfl, fun hb' => by
      rw [flat_map_map, List.length_map, List.length_map] at hb'
      have hb2 : acc'.length + r.h.length ≤ (headsA rs).length := hb'
      have h2 : aSeq (eIdx (eVar 2) (eC (.int 1))) (sets (wipeF F0 [2, 3]) [(2, eR r)]) μ = some (r.h.map .str, μ) := q_seqt (q_bin (g := gIdx) (x := eR r) (v := .tup (r.h.map .str)) (q_var rfl) q_c rfl)
      have := compM_enc (enc := Va.str) (ok := okL) (me := eVar 3) (c := ⟨aSeq (eIdx (eVar 2) (eC (.int 1))), (bName 3), tAll, [3]⟩) (cs := []) (fs := sets (wipeF F0 [2, 3]) [(2, eR r)]) (μ := μ) (xs := r.h) (acc := acc') (fun x => [.str x]) h2 (fun x hx acc'' ha' => ⟨[(3, .str x)], rfl, .inl ⟨rfl, fun hb'' => by
        unfold compM
        rw [q_var (v := .str x) rfl]
        simp only
        rw [if_pos (okL_big 900000 (Nat.le_refl _) _ (by
          rw [flat_one, List.length_map] at hb''
          simp only [List.length_singleton] at hb''
          omega) _)]⟩⟩)
      rw [flat_one] at this
      exact this⟩⟩)
  rw [flat_map_map] at e1
  let F1 : Fs := [.val (.lst (rs.map eR)), .val (eL (headsA rs)), .no, .no, .no, .no]
  have g1 : aSeq (eVar 0) F1 μ = some (rs.map eR, μ) := q_seqR rfl
  have e2 := compF_flat (enc := eR) (ok := okL) (me := eVar 3) (c := ⟨aSeq (eVar 0), (bName 2), tAll, [2, 5, 3]⟩) (cs := [⟨aSeq (eSl (eVar 2) (oSome (eC (.int 2))) oNone), (bName 5), tAll, [5, 3]⟩, ⟨aSeq (eVar 5), (bName 3), tAll, [3]⟩]) (fs := F1) (μ := μ) (xs := rs) (fun r => (bodyL r).map .str) g1
    (fun r hr acc' ha => ⟨[(2, eR r)], rfl, .inl ⟨rfl, fun hb' => by
      rw [flat_map_map, List.length_map, List.length_map] at hb'
      have hb2 : acc'.length + (bodyL r).length ≤ (bodyA rs).length := hb'
      exact cm_P (ps := [r.p, r.n, r.t]) Va.str (q_fnS (r := r) rfl rfl) (fun p => rfl) (fun acc'' h'' p hp x hx => okL_big 900000 (Nat.le_refl _) _ (by have h3 : acc''.length < acc'.length + (bodyL r).length := h''; omega) _) (fun p hp x hx => q_var rfl)⟩⟩)
  rw [flat_map_map] at e2
  let F4 : Fs := [.val (.lst (rs.map eR)), .val (eL (headsA rs)), .no, .no, .val (eL (bodyA rs)), .no]
  have g4 : aSeq (eVar 4) F4 μ = some ((bodyA rs).map .str, μ) := q_seqL rfl
  have lf := List.length_filter_le (fun x => !decide (x ∈ headsA rs)) (bodyA rs)
  have e3 := compF_enc (enc := Va.str) (ok := okC false) (me := eVar 3) (c := ⟨aSeq (eVar 4), (bName 3), (tOf (eBin (gIn true) (eVar 3) (eVar 1))), [3]⟩) (fs := F4) (μ := μ) (xs := bodyA rs) (fun x => !decide (x ∈ headsA rs)) Va.str 4000 g4
    (fun x hx => ⟨[(3, .str x)], rfl, q_tof (q_ninL (tb x hx) th rfl rfl), fun _ => ⟨q_var rfl, fun acc h => by simp [okC, okS, isStrK]; omega⟩⟩) (by omega)
  refine q_fnF rfl (q_then (fs' := F1) (q_asg (q_frz e1) rfl) (q_then (fs' := F4) (q_asg (q_frz e2) rfl) (q_ret' (q_frz ?_))))
  have : aSrtU (compF (okC false) (eVar 3) ⟨aSeq (eVar 4), (bName 3), (tOf (eBin (gIn true) (eVar 3) (eVar 1))), [3]⟩ []) F4 μ = some ((restL rs).map .str, μ) := by
    unfold aSrtU
    rw [e3]
    simp only
    rw [if_pos (ok_strs _)]
    unfold restL
    rw [srtS_map]
  exact this
/-! ### as_barred -/
def denR (x : PySem.Str) : Rl := ⟨false, [], [x], [], []⟩
theorem srtS_nil : srtS [] = [] := List.length_eq_zero_iff.mp (Nat.le_zero.mp (len_srtS (xs := [])))
theorem srtS_one (x : PySem.Str) : srtS [x] = [x] := by
  have h1 := len_srtS (xs := [x])
  have h2 : x ∈ srtS [x] := mem_srtS.mpr (by simp)
  match h : srtS [x], h1, h2 with
  | [], _, h2 => simp at h2
  | [y], _, h2 => simp at h2; rw [h2]
  | _ :: _ :: _, h1, _ => simp at h1
theorem f_den {x : PySem.Str} {μ : Mu} : F_plain_rule [.str "rule", .lst [], .lst [.str x], .lst [], .lst []] μ = some (eR (denR x), μ) := by
  have a0 := f_lotL (a := []) (μ := μ) (by simp)
  have a1 := f_lotL (a := [x]) (μ := μ) (by simp)
  rw [srtS_nil] at a0
  rw [srtS_one] at a1
  exact q_fnF rfl (q_ret' (q_tup (q_cons (q_var rfl) (q_cons (q_fn (q_cons (q_var rfl) q_nil) a0) (q_cons (q_fn (q_cons (q_var rfl) q_nil) a1) (q_cons (q_fn (q_cons (q_var rfl) q_nil) a0) (q_cons (q_fn (q_cons (q_var rfl) q_nil) a0) q_nil))))) five))
theorem q_lsts {fs : Fs} {μ : Mu} : eFrz (aLst aNil) fs μ = some (.lst [], μ) := q_frz rfl
theorem f_as_barred {L : List PySem.Str} {rs : List Rl} {μ : Mu} (hL : OkL L) (hb : Bok L rs) : F_as_barred [.lst (rs.map eR)] μ = some (.lst ((srtR (rs ++ (restL rs).map denR)).map eR), μ) := by
  have l0 := hb.len
  have l1 := len_rest hL hb.ok
  have h2 : aSeq (eFn F_unused (aCons (eVar 0) aNil)) [.val (.lst (rs.map eR)), .no] μ = some ((restL rs).map .str, μ) := q_seqV (q_fn (q_cons (q_var rfl) q_nil) (f_unused hL hb))
  have e1 := compF_all (enc := Va.str) (ok := okL) (me := eFn F_plain_rule (aCons (eC (.str "rule")) (aCons (eFrz (aLst aNil)) (aCons (eFrz (aLst (aCons (eVar 1) aNil))) (aCons (eFrz (aLst aNil)) (aCons (eFrz (aLst aNil)) aNil)))))) (c := ⟨aSeq (eFn F_unused (aCons (eVar 0) aNil)), (bName 1), tAll, [1]⟩) (fs := [.val (.lst (rs.map eR)), .no]) (μ := μ) (xs := restL rs) (fun x => eR (denR x)) 1000 h2 rfl
    (fun x hx => ⟨[(1, .str x)], rfl, q_fn (q_cons q_c (q_cons q_lsts (q_cons (q_lst1 (q_cons (q_var rfl) q_nil)) (q_cons q_lsts (q_cons q_lsts q_nil))))) f_den, okL_lt (by omega) _⟩) (by omega)
  refine q_fnF rfl (q_ret' (q_fn (q_cons (v := .lst ((rs ++ (restL rs).map denR).map eR)) ?_ q_nil) (f_in_order (by rw [List.length_append, List.length_map]; omega))))
  rw [List.map_append, List.map_map]
  exact q_addL (q_frz (q_acal (q_cons (q_var rfl) q_nil) rfl)) (q_frz e1) (by rw [List.length_map, List.length_map]; omega)
/-! ### sizes -/
def szs (r : Rl) : List Int := [(r.h.length : Int), (r.p.length : Int), (r.n.length : Int), (r.t.length : Int)]
theorem ints_of : ∀ l : List Int, intsOf (l.map Va.int) = some l
  | [] => rfl
  | x :: l => by simp [intsOf, ints_of l]
theorem q_sum {m : MA} {fs : Fs} {μ : Mu} {l : List Int} (h : m fs μ = some (l.map .int, μ)) : eCal gSum (aCons (eFrz m) aNil) fs μ = some (.int l.sum, μ) := q_cal (q_cons (q_frz h) q_nil) (by unfold gSum; simp only; rw [ints_of]; rfl)
theorem flat_int {α : Type} (f : α → List Int) : ∀ l : List α, (l.flatMap fun x => (f x).map Va.int) = (l.flatMap f).map Va.int
  | [] => rfl
  | x :: l => by rw [List.flatMap_cons, flat_int f l, List.flatMap_cons, List.map_append]
theorem szs_len : ∀ l : List Rl, (l.flatMap szs).length = 4 * l.length
  | [] => rfl
  | r :: l => by rw [List.flatMap_cons, List.length_append, szs_len l, List.length_cons]; simp [szs]; omega
def sizeV (rs : List Rl) : Va := .tup [.int (srtR rs).length, .int ((srtR rs).flatMap szs).sum]
theorem f_size_of {rs : List Rl} {μ : Mu} (hl : rs.length < 60) : F_size_of [.lst (rs.map eR)] μ = some (sizeV rs, μ) := by
  have ls := len_srtR (rs := rs)
  have i0 : eFn F_in_order (aCons (eVar 0) aNil) [.val (.lst (rs.map eR)), .no, .no] μ = some (.lst ((srtR rs).map eR), μ) := q_fn (q_cons (q_var rfl) q_nil) (f_in_order hl)
  have e1 := compF_flat (enc := eR) (ok := okL) (me := eCal gLen (aCons (eVar 2) aNil)) (c := ⟨aSeq (eFn F_in_order (aCons (eVar 0) aNil)), (bName 1), tAll, [1, 2]⟩) (cs := [⟨aSeq (eSl (eVar 1) (oSome (eC (.int 1))) oNone), (bName 2), tAll, [2]⟩]) (fs := [.val (.lst (rs.map eR)), .no, .no]) (μ := μ) (xs := srtR rs) (fun r => (szs r).map .int) (q_seqV i0)
    (fun r hr acc' ha => ⟨[(1, eR r)], rfl, .inl ⟨rfl, fun hb' => by
      simp only [flat_int, List.length_map, szs_len] at hb'
      have g0 : aSeq (eSl (eVar 1) (oSome (eC (.int 1))) oNone) (sets (wipeF [.val (.lst (rs.map eR)), .no, .no] [1, 2]) [(1, eR r)]) μ = some ([r.h, r.p, r.n, r.t].map eT, μ) := q_fnS (r := r) rfl rfl
      have := compM_enc (enc := eT) (ok := okL) (me := eCal gLen (aCons (eVar 2) aNil)) (c := ⟨aSeq (eSl (eVar 1) (oSome (eC (.int 1))) oNone), (bName 2), tAll, [2]⟩) (cs := []) (fs := sets (wipeF [.val (.lst (rs.map eR)), .no, .no] [1, 2]) [(1, eR r)]) (μ := μ) (xs := [r.h, r.p, r.n, r.t]) (acc := acc') (fun p => [.int p.length]) g0 (fun p hp acc'' ha' => ⟨[(2, eT p)], rfl, .inl ⟨rfl, fun hb'' => by
        unfold compM
        rw [q_len (xs := p) rfl]
        simp only
        rw [if_pos (okL_big 900000 (Nat.le_refl _) _ (by
          have e0 : ([r.h, r.p, r.n, r.t].flatMap fun p => [Va.int p.length]).length = 4 := rfl
          rw [e0] at hb''
          have : (szs r).length = 4 := rfl
          simp only [List.length_singleton] at hb''
          omega) _)]⟩⟩)
      exact this⟩⟩)
  rw [flat_int] at e1
  have i1 : eCal gLen (aCons (eFn F_in_order (aCons (eVar 0) aNil)) aNil) [.val (.lst (rs.map eR)), .no, .no] μ = some (.int (srtR rs).length, μ) := q_cal (q_cons i0 q_nil) (by simp [gLen, look])
  exact q_fnF rfl (q_ret' (q_tup (q_cons i1 (q_cons (q_sum e1) q_nil)) (sz (by simp))))
theorem perm_srtR {rs : List Rl} (nd : rs.Nodup) : (srtR rs).Perm rs := (List.perm_ext_iff_of_nodup (nodup_srtR rs) nd).mpr fun _ => mem_srtR
theorem sum_flat : ∀ l : List Rl, (l.flatMap szs).sum = (l.map fun r => (szs r).sum).sum
  | [] => rfl
  | r :: l => by rw [List.flatMap_cons, List.sum_append_int, sum_flat l, List.map_cons, List.sum_cons]
theorem sum_perm {a b : List Int} (h : a.Perm b) : a.sum = b.sum := by
  induction h with
  | nil => rfl
  | cons x _ ih => rw [List.sum_cons, List.sum_cons, ih]
  | swap x y l => simp only [List.sum_cons]; omega
  | trans _ _ a b => rw [a, b]
theorem size_eq {rs : List Rl} (nd : rs.Nodup) : sizeV rs = .tup [.int rs.length, .int (rs.map fun r => (szs r).sum).sum] := by
  unfold sizeV
  rw [sum_flat, (perm_srtR nd).length_eq, sum_perm ((perm_srtR nd).map fun r => (szs r).sum)]
theorem sz_bound {L : List PySem.Str} : ∀ {rs : List Rl}, (∀ r ∈ rs, OkR L r) → ∃ n : Nat, (rs.map fun r => (szs r).sum).sum = (n : Int) ∧ n ≤ 8 * rs.length
  | [], _ => ⟨0, rfl, by simp⟩
  | r :: rs, h => by
    obtain ⟨n, e, hn⟩ := sz_bound (rs := rs) fun s hs => h s (List.mem_cons_of_mem _ hs)
    have o := h r (by simp)
    have h1 := o.lh
    have h2 := o.lp
    have h3 := o.ln
    have h4 := o.lt
    refine ⟨r.h.length + r.p.length + r.n.length + r.t.length + n, ?_, by simp only [List.length_cons]; omega⟩
    rw [List.map_cons, List.sum_cons, e]
    simp only [szs, List.sum_cons, List.sum_nil]
    omega
theorem tx_num : ∀ n < 200, PyData.strOk ((toString ((n : Nat) : Int) : String) : PySem.Str) = true := by decide +kernel
theorem log_num {n : Nat} (h : n < 200) : ((n : Int)).natAbs.log2 < 1920 := by
  rw [Int.natAbs_natCast]
  exact Nat.lt_of_le_of_lt (Nat.log2_le_self n) (by omega)
end K8
end MKM8y
section MKM8z
/-! k08, the mathematics, part z: parts of the law. -/
namespace K8
open PySem PySem.Spec PyProof.Rows L2 Ev
def four4 : List PySem.Str := ["a", "b", "c", "d"]
def six6 : List PySem.Str := ["rule", "choice", "a", "b", "c", "d"]
theorem fact_le : ∀ x ∈ four4, ∀ y ∈ four4, leV (eR (factR x)) (eR (factR y)) = true → leV (.str x) (.str y) = true := by decide +kernel
theorem tx_four : ∀ x ∈ four4, PyData.strOk x = true := by decide +kernel
theorem rep_four : ∀ x ∈ six6, decide ((reprText x).length ≤ 100) = true ∧ PyData.strOk (reprText x) = true := by decide +kernel
theorem facts_pw {rs : List Rl} (h : ∀ x ∈ factsL rs, x ∈ four4) : ((factsL rs).map Va.str).Pairwise fun a b => leV a b = true := by
  have h0 : ((srtR rs).map eR).Pairwise fun a b => leV a b = true := by rw [srtR_map]; exact sortV_sorted _
  rw [List.pairwise_map] at h0
  have h1 := (h0.filter fun r => !r.k && decide ((r.h.length : Int) = 1)).filter fun r => decide (r = factR (hd r))
  rw [List.pairwise_map]
  show (((((srtR rs).filter fun r => !r.k && decide ((r.h.length : Int) = 1)).filter fun r => decide (r = factR (hd r))).map hd)).Pairwise _
  rw [List.pairwise_map]
  refine h1.imp_of_mem fun {a b} ha hb hab => ?_
  have ea : a = factR (hd a) := of_decide_eq_true (List.mem_filter.mp ha).2
  have eb : b = factR (hd b) := of_decide_eq_true (List.mem_filter.mp hb).2
  have ma : hd a ∈ factsL rs := List.mem_map.mpr ⟨a, ha, rfl⟩
  have mb : hd b ∈ factsL rs := List.mem_map.mpr ⟨b, hb, rfl⟩
  rw [ea, eb] at hab
  exact fact_le _ (h _ ma) _ (h _ mb) hab
theorem facts_srt {rs : List Rl} (h : ∀ x ∈ factsL rs, x ∈ four4) : sortV ((factsL rs).map Va.str) = (factsL rs).map Va.str := List.mergeSort_of_pairwise (facts_pw h)
/-! ### the same values -/
theorem sv_str {n : Nat} {x : PySem.Str} (h : x ∈ six6) : svP (n + 1) (.str x) := by
  have := rep_four x h
  exact ⟨sz (by have := of_decide_eq_true this.1; omega), this.2⟩
theorem sv_T {n : Nat} {xs : List PySem.Str} (h : ∀ x ∈ xs, x ∈ four4) (hl : xs.length ≤ 1000000) : svP (n + 2) (eT xs) := ⟨by simpa using hl, fun v hv => by
  obtain ⟨x, hx, rfl⟩ := List.mem_map.mp hv
  exact sv_str (List.mem_cons_of_mem _ (List.mem_cons_of_mem _ (h x hx)))⟩
theorem sv_L {n : Nat} {xs : List PySem.Str} (h : ∀ x ∈ xs, x ∈ four4) (hl : xs.length ≤ 1000000) : svP (n + 2) (eL xs) := ⟨by simpa using hl, fun v hv => by
  obtain ⟨x, hx, rfl⟩ := List.mem_map.mp hv
  exact sv_str (List.mem_cons_of_mem _ (List.mem_cons_of_mem _ (h x hx)))⟩
theorem sv_R {n : Nat} {r : Rl} {L : List PySem.Str} (h : OkR L r) (hL : ∀ x ∈ L, x ∈ four4) : svP (n + 3) (eR r) := ⟨by simp, fun v hv => by
  have h1 := h.lh
  have h2 := h.lp
  have h3 := h.ln
  have h4 := h.lt
  simp only [List.mem_cons, List.not_mem_nil, or_false] at hv
  rcases hv with rfl | rfl | rfl | rfl | rfl
  · exact sv_str (by cases r.k <;> simp [kd, six6])
  · exact sv_T (fun x hx => hL x (h.h x hx)) (by omega)
  · exact sv_T (fun x hx => hL x (h.p x hx)) (by omega)
  · exact sv_T (fun x hx => hL x (h.n x hx)) (by omega)
  · exact sv_T (fun x hx => hL x (h.t x hx)) (by omega)⟩
theorem sv_Rs {n : Nat} {rs : List Rl} {L : List PySem.Str} (h : ∀ r ∈ rs, OkR L r) (hL : ∀ x ∈ L, x ∈ four4) (hl : rs.length ≤ 1000000) : svP (n + 4) (.lst (rs.map eR)) := ⟨by simpa using hl, fun v hv => by
  obtain ⟨x, hx, rfl⟩ := List.mem_map.mp hv
  exact sv_R (h x hx) hL⟩
theorem sv_two {n : Nat} {a b : Va} (h1 : svP n a) (h2 : svP n b) : svP (n + 1) (.lst [a, b]) := ⟨by simp, fun v hv => by
  simp only [List.mem_cons, List.not_mem_nil, or_false] at hv
  rcases hv with rfl | rfl
  · exact h1
  · exact h2⟩
theorem q_same {a b : ME} {fs : Fs} {μ : Mu} {v : Va} (h1 : a fs μ = some (v, μ)) (h2 : b fs μ = some (v, μ)) (h : svP 6 v) : tNot (tOf (eFn F_law_same (aCons a (aCons b aNil)))) fs μ = some (false, μ) := q_tnot (p := true) (q_tof (q_fn (q_cons h1 (q_cons h2 q_nil)) (same_self 6 v μ h)))
theorem q_two {a b : ME} {fs : Fs} {μ : Mu} {v w : Va} (h1 : a fs μ = some (v, μ)) (h2 : b fs μ = some (w, μ)) : eFrz (aLst (aCons a (aCons b aNil))) fs μ = some (.lst [v, w], μ) := q_frz (q_lst (q_cons h1 (q_cons h2 q_nil)) (by simp))
/-! ### the law's frame -/
abbrev fL (ns : List Int) (a1 a2 a3 a4 a5 a6 a8 a9 a10 a11 a13 a14 : Sl) : Fs := [.val (.scr ns), a1, a2, a3, a4, a5, a6, .no, a8, a9, a10, a11, .no, a13, a14, .no]
/-! ### slices of rows -/
def cutS (ss : List Stp) (lo hi : Option Int) : List Stp := (ss.drop (HT.sIx ss.length 0 lo)).take (HT.sIx ss.length ss.length hi - HT.sIx ss.length 0 lo)
theorem cutA_S (ss : List Stp) (lo hi : Option Int) : cutA (ss.map eS) lo hi = (cutS ss lo hi).map eS := by
  unfold cutA cutS
  rw [List.length_map, List.map_take, List.map_drop]
theorem cutS_in {ss : List Stp} {lo hi : Option Int} : ∀ s ∈ cutS ss lo hi, s ∈ ss := fun s hs => List.mem_of_mem_drop (List.mem_of_mem_take hs)
theorem cutS_len {ss : List Stp} {lo hi : Option Int} : (cutS ss lo hi).length ≤ ss.length := by
  unfold cutS
  rw [List.length_take, List.length_drop]
  omega
def rwsO (ss : List Stp) : List (List Stp) := [ss, cutS ss (some 1) none, cutS ss none (some (-1)), ss ++ cutS ss (some (-1)) none, ss.reverse]
theorem rws_in {ss : List Stp} : ∀ l ∈ rwsO ss, ∀ s ∈ l, s ∈ ss := fun l hl s hs => by
  simp only [rwsO, List.mem_cons, List.not_mem_nil, or_false] at hl
  rcases hl with rfl | rfl | rfl | rfl | rfl
  · exact hs
  · exact cutS_in s hs
  · exact cutS_in s hs
  · rcases List.mem_append.mp hs with q | q
    · exact q
    · exact cutS_in s q
  · exact List.mem_reverse.mp hs
def eRw (l : List Stp) : Va := .lst (l.map eS)
theorem rows_val {fs : Fs} {μ : Mu} {i : Nat} {ss : List Stp} (h : fs[i]? = some (.val (eRw ss))) (hl : ss.length ≤ 1000) : eFrz (aLst (aCons (eVar i) (aCons (eSl (eVar i) (oSome (eC (.int 1))) oNone) (aCons (eSl (eVar i) oNone (oSome (eNeg (eC (.int 1))))) (aCons (eBin gAdd (eVar i) (eSl (eVar i) (oSome (eNeg (eC (.int 1)))) oNone)) (aCons (eRev (eVar i)) aNil)))))) fs μ = some (.lst ((rwsO ss).map eRw), μ) := by
  have v := q_var (μ := μ) h
  have a1 : eSl (eVar i) (oSome (eC (.int 1))) oNone fs μ = some (eRw (cutS ss (some 1) none), μ) := by
    unfold eSl eRw
    rw [v, ← cutA_S]
    rfl
  have a2 : eSl (eVar i) oNone (oSome (eNeg (eC (.int 1)))) fs μ = some (eRw (cutS ss none (some (-1))), μ) := by
    unfold eSl eRw
    rw [v, ← cutA_S]
    rfl
  have a3 : eSl (eVar i) (oSome (eNeg (eC (.int 1)))) oNone fs μ = some (eRw (cutS ss (some (-1)) none), μ) := by
    unfold eSl eRw
    rw [v, ← cutA_S]
    rfl
  have a4 : eBin gAdd (eVar i) (eSl (eVar i) (oSome (eNeg (eC (.int 1)))) oNone) fs μ = some (eRw (ss ++ cutS ss (some (-1)) none), μ) := by
    unfold eRw
    rw [List.map_append]
    exact q_addL v a3 (by have := cutS_len (ss := ss) (lo := some (-1)) (hi := none); rw [List.length_map, List.length_map]; omega)
  have a5 : eRev (eVar i) fs μ = some (eRw ss.reverse, μ) := by
    unfold eRev
    rw [v]
    simp [eRw]
  exact q_frz (q_lst (q_cons v (q_cons a1 (q_cons a2 (q_cons a4 (q_cons a5 q_nil))))) (by simp [rwsO]))
theorem rows_comp {me : ME} {fs : Fs} {μ : Mu} {i k : Nat} {ss : List Stp} (f : List Stp → Va) (h : fs[i]? = some (.val (.lst ((rwsO ss).map eRw)))) (hm : ∀ l ∈ rwsO ss, me (sets (wipeF fs [k]) [(k, eRw l)]) μ = some (f l, μ)) : eFrz (compF okL me ⟨aSeq (eVar i), (bName k), tAll, [k]⟩ []) fs μ = some (.lst ((rwsO ss).map f), μ) := by
  have h2 : aSeq (eVar i) fs μ = some ((rwsO ss).map eRw, μ) := q_seqV (q_var h)
  exact q_frz (compF_all (enc := eRw) f 1000 h2 rfl (fun l hl => ⟨[(k, eRw l)], rfl, hm l hl, okL_lt (by omega) _⟩) (by simp [rwsO]))
/-! ### heads and body -/
theorem heads_loop {L : List PySem.Str} {rs : List Rl} {μ : Mu} (hb : Bok L rs) (ns : List Int) (a1 a2 a4 a5 a6 : Sl) :
    ∃ s10, sFor (aSeq (eVar 3)) (bName 10) (sSeq (sAsg 8 (eBin gAdd (eVar 8) (eFrz (aCal gList (aCons (eIdx (eVar 10) (eC (.int 1))) aNil))))) (sAsg 9 (eBin gAdd (eVar 9) (eFrz (aCal gList (aCons (eBin gAdd (eBin gAdd (eIdx (eVar 10) (eC (.int 2))) (eIdx (eVar 10) (eC (.int 3)))) (eIdx (eVar 10) (eC (.int 4)))) aNil)))))) (fL ns a1 a2 (.val (.lst (rs.map eR))) a4 a5 a6 (.val (eL [])) (.val (eL [])) .no .no .no .no) μ
      = some (.nx, fL ns a1 a2 (.val (.lst (rs.map eR))) a4 a5 a6 (.val (eL (headsA rs))) (.val (eL (bodyA rs))) s10 .no .no .no, μ) := by
  have l0 := hb.len
  obtain ⟨fs', μ', e, hμ', s10, hfs, _, _⟩ := forL_inv (enc := eR) (g := bName 10) (body := (sSeq (sAsg 8 (eBin gAdd (eVar 8) (eFrz (aCal gList (aCons (eIdx (eVar 10) (eC (.int 1))) aNil))))) (sAsg 9 (eBin gAdd (eVar 9) (eFrz (aCal gList (aCons (eBin gAdd (eBin gAdd (eIdx (eVar 10) (eC (.int 2))) (eIdx (eVar 10) (eC (.int 3)))) (eIdx (eVar 10) (eC (.int 4)))) aNil)))))))
    (fun pre fs μ1 => μ1 = μ ∧ ∃ s10 : Sl, fs = fL ns a1 a2 (.val (.lst (rs.map eR))) a4 a5 a6 (.val (eL (headsA pre))) (.val (eL (bodyA pre))) s10 .no .no .no ∧ (headsA pre).length ≤ 2 * pre.length ∧ (bodyA pre).length ≤ 6 * pre.length) (xs := rs) (pre := []) (fs := fL ns a1 a2 (.val (.lst (rs.map eR))) a4 a5 a6 (.val (eL [])) (.val (eL [])) .no .no .no .no) (μ := μ)
    (fun pre r hr hpl fs μ1 ⟨h0, s10, h2, h3, h4⟩ => by
      subst h0 h2
      have lp : pre.length < 12 := by simp at hpl; omega
      have o := hb.ok r hr
      have o1 := o.lh
      have o2 := o.lp
      have o3 := o.ln
      have o4 := o.lt
      have ob := len_bodyL o
      have eh : headsA (pre ++ [r]) = headsA pre ++ r.h := by simp [headsA]
      have eb : bodyA (pre ++ [r]) = bodyA pre ++ bodyL r := by simp [bodyA]
      have ebl : bodyL r = r.p ++ r.n ++ r.t := by simp [bodyL]
      let F (s8 s9 : Sl) : Fs := fL ns a1 a2 (.val (.lst (rs.map eR))) a4 a5 a6 s8 s9 (.val (eR r)) .no .no .no
      have c1 : eBin gAdd (eVar 8) (eFrz (aCal gList (aCons (eIdx (eVar 10) (eC (.int 1))) aNil))) (F (.val (eL (headsA pre))) (.val (eL (bodyA pre)))) μ1 = some (eL (headsA (pre ++ [r])), μ1) := by
        rw [eh]
        unfold eL
        rw [List.map_append]
        exact q_addL (q_var rfl) (q_list (q_bin (g := gIdx) (x := eR r) (v := eT r.h) (q_var rfl) q_c rfl)) (by rw [List.length_map, List.length_map]; omega)
      have c2 : eBin gAdd (eVar 9) (eFrz (aCal gList (aCons (eBin gAdd (eBin gAdd (eIdx (eVar 10) (eC (.int 2))) (eIdx (eVar 10) (eC (.int 3)))) (eIdx (eVar 10) (eC (.int 4)))) aNil))) (F (.val (eL (headsA (pre ++ [r])))) (.val (eL (bodyA pre)))) μ1 = some (eL (bodyA (pre ++ [r])), μ1) := by
        rw [eb, ebl]
        unfold eL
        rw [List.map_append]
        exact q_addL (q_var rfl) (q_list (q_add (x := r.p ++ r.n) (y := r.t) (q_add (x := r.p) (y := r.n) (q_bin (g := gIdx) (x := eR r) (q_var rfl) q_c rfl) (q_bin (g := gIdx) (x := eR r) (q_var rfl) q_c rfl) (by omega)) (q_bin (g := gIdx) (x := eR r) (q_var rfl) q_c rfl) (by rw [List.length_append]; omega))) (by rw [List.length_map, List.length_map, List.length_append, List.length_append]; omega)
      refine ⟨[(10, eR r)], F (.val (eL (headsA (pre ++ [r])))) (.val (eL (bodyA (pre ++ [r])))), μ1, rfl, q_seq (fs' := F (.val (eL (headsA (pre ++ [r])))) (.val (eL (bodyA pre)))) (q_asg c1 rfl) (q_asg c2 rfl), rfl, _, rfl, ?_, ?_⟩
      · rw [eh, List.length_append, List.length_append, List.length_singleton]; omega
      · rw [eb, List.length_append, List.length_append, List.length_singleton]; omega) ⟨rfl, .no, rfl, by simp [headsA], by simp [bodyA]⟩
  subst hμ' hfs
  exact ⟨s10, q_for (q_seqR rfl) e⟩
/-! ### sets of letters -/
theorem q_setS {a : ME} {fs : Fs} {μ : Mu} {xs : List PySem.Str} (h : a fs μ = some (eL xs, μ)) (hl : xs.length < 4000) : eFrz (aSrtU (aCal (gSetB false) (aCons a aNil))) fs μ = some (eL (srtS xs), μ) := by
  have ok : okB false (xs.map Va.str) = true := by
    unfold okB
    simp only [Bool.false_eq_true, if_false, Bool.and_eq_true, List.all_eq_true, decide_eq_true_eq]
    refine ⟨fun v hv => ?_, by rw [List.length_map]; omega⟩
    obtain ⟨r, _, rfl⟩ := List.mem_map.mp hv
    rfl
  refine q_frz ?_
  unfold aSrtU
  have g : gSetB false μ [eL xs] = some (xs.map Va.str) := by
    unfold gSetB
    simp only [look, eL]
    rw [if_pos ok]
  rw [q_acal (q_cons h q_nil) g]
  simp only
  rw [if_pos (ok_strs _), srtS_map]
theorem rest_val {L : List PySem.Str} {rs : List Rl} {fs : Fs} {μ : Mu} (hL : OkL L) (hb : Bok L rs) (h8 : fs[8]? = some (.val (eL (headsA rs)))) (h9 : fs[9]? = some (.val (eL (bodyA rs)))) (hk : ∀ x, (sets (wipeF fs [12]) [(12, .str x)])[12]? = some (.val (.str x))) (hj : ∀ x, (sets (wipeF fs [12]) [(12, .str x)])[8]? = some (.val (eL (headsA rs)))) :
    eFrz (aSrtU (aCal (gSetB false) (aCons (eFrz (compF okL (eVar 12) ⟨aSeq (eVar 9), (bName 12), (tOf (eBin (gIn true) (eVar 12) (eVar 8))), [12]⟩ [])) aNil))) fs μ = some (eL (restL rs), μ) := by
  have l0 := hb.len
  have l1 := len_heads hb.ok
  have l2 := len_body hb.ok
  have lf := List.length_filter_le (fun x => !decide (x ∈ headsA rs)) (bodyA rs)
  exact q_setS (q_frz (lc_Lp (xs := bodyA rs) (fun x => !decide (x ∈ headsA rs)) Va.str h9 (by omega) (fun x hx => q_tof (q_ninL (hL.tx x (body_in hb.ok x hx)) (fun y hy => hL.tx y (heads_in hb.ok y hy)) (hk x) (hj x))) fun x hx _ => q_var (hk x))) (by omega)
end K8
end MKM8z
section MKM9
/-! k08, the mathematics, the law. -/
namespace K8
open PySem PySem.Spec PyProof.Rows L2 Ev
/-! ### facts and bars, by the law -/
theorem facts_eq (rs : List Rl) : ((srtR rs).filter fun r => !r.k && (decide ((r.h.length : Int) = 1) && decide ((r.p, r.n, r.t) = (([], [], []) : List PySem.Str × List PySem.Str × List PySem.Str)))).map hd = factsL rs := by
  unfold factsL
  rw [List.filter_filter]
  congr 1
  apply List.filter_congr
  intro r _
  cases k : r.k with
  | true => simp
  | false =>
    cases l : decide ((r.h.length : Int) = 1) with
    | false => simp
    | true =>
      have e := hd_of l
      simp only [Bool.not_false, Bool.true_and, Bool.and_true]
      refine decide_eq_decide.mpr ⟨fun h => ?_, fun h => ?_⟩
      · cases r with
        | mk k0 h0 p n t =>
          simp only [Prod.mk.injEq] at h
          obtain ⟨rfl, rfl, rfl⟩ := h
          simp only at k e
          subst k
          simp only [factR, Rl.mk.injEq, and_true, true_and]
          exact e
      · rw [h]; rfl
theorem facts_val {L : List PySem.Str} {rs : List Rl} {fs : Fs} {μ : Mu} (hL : OkL L) (nd : rs.Nodup) (hb : Bok L rs) (h3 : fs[3]? = some (.val (.lst (rs.map eR)))) (hk : ∀ r, (sets (wipeF fs [10]) [(10, eR r)])[10]? = some (.val (eR r))) :
    eFrz (compF okL (eIdx (eIdx (eVar 10) (eC (.int 1))) (eC (.int 0))) ⟨aSeq (eFrz (aCal gSorted (aCons (eVar 3) aNil))), (bName 10), (tAnd (tOf (eBin gEq (eIdx (eVar 10) (eC (.int 0))) (eC (.str "rule")))) (tAnd (tOf (eBin gEq (eCal gLen (aCons (eIdx (eVar 10) (eC (.int 1))) aNil)) (eC (.int 1)))) (tOf (eBin gEq (eSl (eVar 10) (oSome (eC (.int 2))) oNone) (eTup (aCons (eTup aNil) (aCons (eTup aNil) (aCons (eTup aNil) aNil)))))))), [10]⟩ []) fs μ = some (eL (factsL rs), μ) := by
  have l0 := hb.srt.len
  have hr : ∀ r ∈ srtR rs, RlS r := fun r h => (hb.srt.ok r h).s hL
  have h2 : aSeq (eFrz (aCal gSorted (aCons (eVar 3) aNil))) fs μ = some ((srtR rs).map eR, μ) := q_seqV (q_sortR nd h3)
  have e1 := compF_enc (enc := eR) (ok := okL) (me := eIdx (eIdx (eVar 10) (eC (.int 1))) (eC (.int 0))) (c := ⟨aSeq (eFrz (aCal gSorted (aCons (eVar 3) aNil))), (bName 10), (tAnd (tOf (eBin gEq (eIdx (eVar 10) (eC (.int 0))) (eC (.str "rule")))) (tAnd (tOf (eBin gEq (eCal gLen (aCons (eIdx (eVar 10) (eC (.int 1))) aNil)) (eC (.int 1)))) (tOf (eBin gEq (eSl (eVar 10) (oSome (eC (.int 2))) oNone) (eTup (aCons (eTup aNil) (aCons (eTup aNil) (aCons (eTup aNil) aNil)))))))), [10]⟩) (fs := fs) (μ := μ) (xs := srtR rs)
    (fun r => !r.k && (decide ((r.h.length : Int) = 1) && decide ((r.p, r.n, r.t) = (([], [], []) : List PySem.Str × List PySem.Str × List PySem.Str)))) (fun r => .str (hd r)) 1000 h2
    (fun r hx => ⟨[(10, eR r)], rfl, q_tand (q_tof (q_bin (q_bin (g := gIdx) (x := eR r) (v := .str (kd r.k)) (q_var (hk r)) q_c rfl) q_c (kd_rule _))) fun _ => q_tand (q_tof (q_bin (q_lenE (xs := r.h) (q_bin (g := gIdx) (x := eR r) (q_var (hk r)) q_c rfl)) q_c gEq_int)) fun _ => q_tof (q_bin (x := .tup ([r.p, r.n, r.t].map eT)) (y := .tup [.tup [], .tup [], .tup []]) (by
        unfold eSl
        rw [q_var (hk r)]
        rfl) (q_tup (q_cons (q_tup q_nil zerov) (q_cons (q_tup q_nil zerov) (q_cons (q_tup q_nil zerov) q_nil))) (sz (by simp))) (by
        have a1 := eT_pd (hr r hx).p
        have a2 := eT_pd (hr r hx).n
        have a3 := eT_pd (hr r hx).t
        rw [gEq_good (good_tup fun c hc => by
            simp only [List.map_cons, List.map_nil, List.mem_cons, List.not_mem_nil, or_false] at hc
            rcases hc with rfl | rfl | rfl
            · exact ⟨a1.1, by omega⟩
            · exact ⟨a2.1, by omega⟩
            · exact ⟨a3.1, by omega⟩) (good_tup fun c hc => by
            simp only [List.mem_cons, List.not_mem_nil, or_false] at hc
            rcases hc with rfl | rfl | rfl <;> exact ⟨rfl, by simp [ddD, ddDs, PyData.depth, PyData.depthAll]⟩)]
        congr 2
        refine decide_eq_decide.mpr ?_
        simp [eT])), fun hp => by
        simp only [Bool.and_eq_true] at hp
        exact ⟨q_hd (hk r) hp.2.1, okL_lt (by omega) _⟩⟩)
    (by have := List.length_filter_le (fun r : Rl => !r.k && (decide ((r.h.length : Int) = 1) && decide ((r.p, r.n, r.t) = (([], [], []) : List PySem.Str × List PySem.Str × List PySem.Str)))) (srtR rs); omega)
  rw [← facts_eq]
  unfold eL
  rw [List.map_map]
  exact q_frz e1
theorem emp_T (xs : List PySem.Str) (h : TxL xs) {μ : Mu} : gEq μ (eT xs) (.tup []) = some (.bl (decide ((xs.length : Int) = 0))) := by
  rw [gEq_good (good_eT h) (good_tup (by simp))]
  congr 2
  refine decide_eq_decide.mpr ?_
  cases xs with
  | nil => simp [eT]
  | cons x xs => simp [eT]; omega
theorem bars_val {L : List PySem.Str} {rs : List Rl} {fs : Fs} {μ : Mu} (hL : OkL L) (hb : Bok L rs) (h3 : fs[3]? = some (.val (.lst (rs.map eR)))) (hk : ∀ r, (sets (wipeF fs [10]) [(10, eR r)])[10]? = some (.val (eR r))) :
    eFrz (aSrtU (aCal (gSetB false) (aCons (eFrz (compF okL (eIdx (eBin gAdd (eIdx (eVar 10) (eC (.int 2))) (eIdx (eVar 10) (eC (.int 4)))) (eC (.int 0))) ⟨aSeq (eVar 3), (bName 10), (tAnd (tOf (eBin gEq (eIdx (eVar 10) (eC (.int 1))) (eTup aNil))) (tAnd (tOf (eBin gEq (eIdx (eVar 10) (eC (.int 3))) (eTup aNil))) (tOf (eBin gEq (eCal gLen (aCons (eBin gAdd (eIdx (eVar 10) (eC (.int 2))) (eIdx (eVar 10) (eC (.int 4)))) aNil)) (eC (.int 1)))))), [10]⟩ [])) aNil))) fs μ = some (eL (densL rs), μ) := by
  have l0 := hb.len
  have hr : ∀ r ∈ rs, RlS r := fun r h => (hb.ok r h).s hL
  have idx : ∀ {r : Rl} {j : Int} {xs : List PySem.Str}, gIdx μ (eR r) (.int j) = some (eT xs) → eIdx (eVar 10) (eC (.int j)) (sets (wipeF fs [10]) [(10, eR r)]) μ = some (eT xs, μ) := fun {r j xs} h => q_bin (g := gIdx) (x := eR r) (q_var (hk r)) q_c h
  have pq : ∀ r ∈ rs, eBin gAdd (eIdx (eVar 10) (eC (.int 2))) (eIdx (eVar 10) (eC (.int 4))) (sets (wipeF fs [10]) [(10, eR r)]) μ = some (eT (pt r), μ) := fun r h => q_add (idx (r := r) rfl) (idx (r := r) rfl) (by have := (hr r h).lp; have := (hr r h).lt; omega)
  have e1 := lc_Rp (me := eIdx (eBin gAdd (eIdx (eVar 10) (eC (.int 2))) (eIdx (eVar 10) (eC (.int 4)))) (eC (.int 0))) (t := (tAnd (tOf (eBin gEq (eIdx (eVar 10) (eC (.int 1))) (eTup aNil))) (tAnd (tOf (eBin gEq (eIdx (eVar 10) (eC (.int 3))) (eTup aNil))) (tOf (eBin gEq (eCal gLen (aCons (eBin gAdd (eIdx (eVar 10) (eC (.int 2))) (eIdx (eVar 10) (eC (.int 4)))) aNil)) (eC (.int 1))))))) (i := 3) (k := 10) (fs := fs) (μ := μ) (xs := rs) denB (fun r => .str (hp r)) h3 (by omega)
    (fun r h => q_tand (q_tof (q_bin (idx (r := r) (xs := r.h) rfl) (q_tup q_nil zerov) (emp_T _ (hr r h).h))) fun _ => q_tand (q_tof (q_bin (idx (r := r) (xs := r.n) rfl) (q_tup q_nil zerov) (emp_T _ (hr r h).n))) fun _ => q_tof (q_bin (q_lenE (pq r h)) q_c gEq_int))
    (fun r h hd => by
      have p1 := hd
      simp only [denB, Bool.and_eq_true] at p1
      have p2 := pt_one p1.2.2
      have q1 := pq r h
      rw [p2] at q1
      exact q_bin (g := gIdx) q1 q_c rfl)
  have lf := List.length_filter_le denB rs
  have e1' := q_frz e1
  rw [show (rs.filter denB).map (fun r => Va.str (hp r)) = ((rs.filter denB).map hp).map Va.str by rw [List.map_map]; rfl] at e1'
  have e2 := q_setS (xs := (rs.filter denB).map hp) e1' (by rw [List.length_map]; omega)
  have : srtS ((rs.filter denB).map hp) = densL rs := by
    unfold densL
    apply srtS_congr
    intro x
    simp only [List.mem_map, List.mem_filter, mem_srtR]
  rw [this] at e2
  exact e2
/-! ### letters -/
theorem l34_of {d : Int} (h0 : 0 ≤ d) (h1 : d < 2) : L34 (four4.take (3 + d).toNat) ∧ OkL (four4.take (3 + d).toNat) ∧ 3 ≤ (four4.take (3 + d).toNat).length := by
  have : d = 0 ∨ d = 1 := by omega
  rcases this with rfl | rfl
  · exact ⟨.three _ _ _, ⟨fun x hx => tx_four x (List.mem_of_mem_take hx), by decide⟩, by decide⟩
  · exact ⟨.four _ _ _ _, ⟨fun x hx => tx_four x (List.mem_of_mem_take hx), by decide⟩, by decide⟩
theorem cnt_le {L : List PySem.Str} : ∀ {rs : List Rl}, (∀ r ∈ rs, OkR L r) → cntL rs ≤ 2 * rs.length
  | [], _ => by simp [cntL]
  | r :: rs, h => by
    have h1 := (h r (by simp)).lh
    have h2 := cnt_le (rs := rs) fun s hs => h s (List.mem_cons_of_mem _ hs)
    have h3 : cnt r ≤ 2 := by
      unfold cnt
      split <;> omega
    simp only [cntL, List.map_cons, List.sum_cons, List.length_cons] at h2 ⊢
    omega
theorem q_andF {a b : MT} {fs : Fs} {μ μ1 : Mu} (h1 : a fs μ = some (false, μ1)) (h2 : b fs μ1 = some (false, μ1)) : tOr a b fs μ = some (false, μ1) := q_tor (p := false) (q := false) h1 fun _ => h2
theorem letters_val {fs : Fs} {μ μ1 : Mu} {d : Int} (h : fs[1]? = some (.val (.loc 0))) (e1 : F_law_draw [.loc 0, .int 2] μ = some (.int d, μ1)) (d0 : 0 ≤ d) : eSl (eFrz (aLst (aCons (eC (.str "a")) (aCons (eC (.str "b")) (aCons (eC (.str "c")) (aCons (eC (.str "d")) aNil)))))) oNone (oSome (eBin gAdd (eC (.int 3)) (eFn F_law_draw (aCons (eVar 1) (aCons (eC (.int 2)) aNil))))) fs μ = some (eL (four4.take (3 + d).toNat), μ1) := by
  have h0 : eFrz (aLst (aCons (eC (.str "a")) (aCons (eC (.str "b")) (aCons (eC (.str "c")) (aCons (eC (.str "d")) aNil))))) fs μ = some (eL four4, μ) := q_frz (q_lst (vs := four4.map .str) (q_cons q_c (q_cons q_c (q_cons q_c (q_cons q_c q_nil)))) (by simp [four4]))
  exact q_take h0 (q_bin (g := gAdd) (x := .int 3) (y := .int d) q_c (q_fn (q_cons (q_var h) (q_cons q_c q_nil)) e1) rfl) (by omega)
set_option maxHeartbeats 0 in
theorem law_true (ns : List Int) (_h1 : ns.length ≤ 63) (_h2 : ∀ z ∈ ns, Builtin.Int.intBits z ≤ 1048576) : ∃ μ', F_law [.scr ns] [] = some (.bl true, μ') := by
  obtain ⟨ds, ed⟩ := f_digits (ns := ns) (μ := [])
  have o0 : OkM (Bx ds 0) := ⟨ds, 0, by decide, rfl⟩
  obtain ⟨d, μ1, e1, d0, d1, o1⟩ := f_draw o0 (m := 2) (by decide)
  obtain ⟨h34, hL, hl3⟩ := l34_of d0 d1
  have hLf : ∀ x ∈ four4.take (3 + d).toNat, x ∈ four4 := fun x hx => List.mem_of_mem_take hx
  generalize hLe : four4.take (3 + d).toNat = L at h34 hL hl3 hLf
  obtain ⟨rs, μ2, e2, o2, nd, ok, lr⟩ := f_book hL o1 hl3
  have hb : Bok L rs := ⟨ok, by have := cnt_le ok; omega⟩
  obtain ⟨μ3, e3, o3⟩ := f_step_fits h34 hL o2 nd hb
  obtain ⟨now, ss, e4, tr, hn⟩ := f_simplified (μ := μ3) hL hb
  have hbs := hb.srt
  obtain ⟨hbn, oss⟩ := tr.bok hbs
  have hlead := tr.leads hbs (srtR_idem rs)
  have heqv := tr.eqv hbs
  have hlen := tr.len hbs
  have hw := wtL_le hbs
  have l0 := hb.len
  have l1 := hbn.len
  have l2 := len_rest hL hb.ok
  have lss : ss.length ≤ 1000 := by omega
  have hrS : ∀ r ∈ rs, RlS r := fun r hr => (hb.ok r hr).s hL
  have hnS : ∀ r ∈ now, RlS r := fun r hr => (hbn.ok r hr).s hL
  have hfour : ∀ x ∈ factsL rs, x ∈ four4 := fun x hx => by
    have := mem_facts hx
    exact hLf x ((hb.ok _ this).h x (by simp [factR]))
  have hden : ∀ x ∈ densL rs, x ∈ four4 := fun x hx => by
    obtain ⟨f, hf, hd, rfl⟩ := mem_dens hx
    simp only [denB, Bool.and_eq_true] at hd
    have hm : hp f ∈ pt f := by rw [pt_one hd.2.2]; simp [hp]
    rcases List.mem_append.mp hm with q | q
    · exact hLf _ ((hb.ok f hf).p _ q)
    · exact hLf _ ((hb.ok f hf).t _ q)
  refine ⟨μ3, ?_⟩
  let R : Sl := .val (.lst (rs.map eR))
  let N : Sl := .val (.lst (now.map eR))
  let S : Sl := .val (eRw ss)
  let W : Sl := .val (.lst ((rwsO ss).map eRw))
  let B : Sl := .val (.loc 0)
  let LL : Sl := .val (eL L)
  -- worlds
  have we : worldsL now L = worldsL rs L := (worlds_eq (fun r hr => (hbn.ok r hr).lets) fun r hr => (hb.ok r hr).lets).mpr (heqv.trans (EqvU.of_mem fun _ => mem_srtR))
  have F5 : ∀ {a6 a8 a9 : Sl}, True := fun {_ _ _} => trivial
  let FA : Fs := fL ns B LL R N S .no .no .no .no .no .no .no
  have cA : tOr (tNot (tOf (eIsi "list" (eVar 4)))) (tOr (tOf (eBin gNe (eFn F_law_worlds (aCons (eVar 4) (aCons (eVar 2) aNil))) (eFn F_law_worlds (aCons (eVar 3) (aCons (eVar 2) aNil))))) (tOf (eBin (gIs true) (eFn F_next_step (aCons (eVar 4) aNil)) (eC .non)))) FA μ3 = some (false, μ3) := by
    have w1 : eFn F_law_worlds (aCons (eVar 4) (aCons (eVar 2) aNil)) FA μ3 = some (.lst ((worldsL now L).map eW), μ3) := q_fn (q_cons (q_var rfl) (q_cons (q_var rfl) q_nil)) (f_law_worlds hnS (by omega) hL)
    have w2 : eFn F_law_worlds (aCons (eVar 3) (aCons (eVar 2) aNil)) FA μ3 = some (.lst ((worldsL rs L).map eW), μ3) := q_fn (q_cons (q_var rfl) (q_cons (q_var rfl) q_nil)) (f_law_worlds hrS (by omega) hL)
    have n1 : eFn F_next_step (aCons (eVar 4) aNil) FA μ3 = some (eO (nextO now), μ3) := q_fn (q_cons (q_var rfl) q_nil) (f_next_step hnS (by omega))
    have n2 := q_tof (q_isnot n1)
    rw [hn] at n2
    exact q_andF (q_tnot (p := true) (q_tof (q_isi (q_var rfl) rfl (by decide +kernel)))) (q_andF (q_tof (q_bin (g := gNe) w1 w2 (by rw [gNe_W hL, we]; simp))) n2)
  -- rows
  let FB : Fs := fL ns B LL R N S W .no .no .no .no .no .no
  have sh : ∀ l ∈ rwsO ss, ∀ s ∈ l, OkS L s := fun l hl s hs => oss s (rws_in l hl s hs)
  have cB : tNot (tOf (eFn F_law_same (aCons (eFrz (compF okL (eFn F_shows_simpler (aCons (eVar 3) (aCons (eVar 4) (aCons (eFrz (aCal gList (aCons (eVar 7) aNil))) aNil)))) ⟨aSeq (eVar 6), (bName 7), tAll, [7]⟩ [])) (aCons (eFrz (compF okL (eFn F_law_leads (aCons (eVar 3) (aCons (eVar 4) (aCons (eVar 7) (aCons (eVar 2) aNil))))) ⟨aSeq (eVar 6), (bName 7), tAll, [7]⟩ [])) aNil)))) FB μ3 = some (false, μ3) := by
    have r1 := rows_comp (me := eFn F_shows_simpler (aCons (eVar 3) (aCons (eVar 4) (aCons (eFrz (aCal gList (aCons (eVar 7) aNil))) aNil)))) (fs := FB) (μ := μ3) (i := 6) (k := 7) (ss := ss) (fun l => .bl (leadsB (srtR rs) l now)) rfl fun l hl => q_fn (q_cons (q_var rfl) (q_cons (q_var rfl) (q_cons (v := .lst (l.map eS)) (q_frz (q_acal (q_cons (q_var rfl) q_nil) rfl)) q_nil))) (f_shows hL hb hbn (sh l hl))
    have r2 := rows_comp (me := eFn F_law_leads (aCons (eVar 3) (aCons (eVar 4) (aCons (eVar 7) (aCons (eVar 2) aNil))))) (fs := FB) (μ := μ3) (i := 6) (k := 7) (ss := ss) (fun l => .bl (leadsB (srtR rs) l now)) rfl fun l hl => q_fn (q_cons (q_var rfl) (q_cons (q_var rfl) (q_cons (q_var rfl) (q_cons (q_var rfl) q_nil)))) (f_leads hL hb hbn (sh l hl))
    refine q_same r1 r2 ⟨by simp [rwsO], fun v hv => ?_⟩
    obtain ⟨l, _, rfl⟩ := List.mem_map.mp hv
    trivial
  have cC : tNot (tOf (eFn F_law_same (aCons (eFn F_shows_simpler (aCons (eVar 3) (aCons (eVar 4) (aCons (eFrz (aCal gList (aCons (eVar 5) aNil))) aNil)))) (aCons (eC (.bl true)) aNil)))) FB μ3 = some (false, μ3) := by
    have r1 := q_fn (fs := FB) (m := aCons (eVar 3) (aCons (eVar 4) (aCons (eFrz (aCal gList (aCons (eVar 5) aNil))) aNil))) (q_cons (q_var rfl) (q_cons (q_var rfl) (q_cons (v := .lst (ss.map eS)) (q_frz (q_acal (q_cons (q_var rfl) q_nil) rfl)) q_nil))) (f_shows (μ := μ3) hL hb hbn oss)
    rw [hlead] at r1
    exact q_same r1 q_c trivial
  -- heads and body
  obtain ⟨s10, e10⟩ := heads_loop (μ := μ3) hb ns B LL N S W
  let H : Sl := .val (eL (headsA rs))
  let Y : Sl := .val (eL (bodyA rs))
  let T : Sl := .val (eL (restL rs))
  let FC : Fs := fL ns B LL R N S W H Y s10 .no .no .no
  let FD : Fs := fL ns B LL R N S W H Y s10 T .no .no
  have vD := rest_val (fs := FC) (μ := μ3) hL hb rfl rfl (fun _ => rfl) (fun _ => rfl)
  have cD : tNot (tOf (eFn F_law_same (aCons (eFrz (aLst (aCons (eFn F_unused (aCons (eVar 3) aNil)) (aCons (eFn F_as_barred (aCons (eVar 3) aNil)) aNil)))) (aCons (eFrz (aLst (aCons (eVar 11) (aCons (eFrz (aSrtU (aCal (gSetB true) (aCons (eBin gAdd (eVar 3) (eFrz (compF okL (eTup (aCons (eC (.str "rule")) (aCons (eTup aNil) (aCons (eTup (aCons (eVar 12) aNil)) (aCons (eTup aNil) (aCons (eTup aNil) aNil)))))) ⟨aSeq (eVar 11), (bName 12), tAll, [12]⟩ []))) aNil)))) aNil)))) aNil)))) FD μ3 = some (false, μ3) := by
    have c1 := lc_L (me := eTup (aCons (eC (.str "rule")) (aCons (eTup aNil) (aCons (eTup (aCons (eVar 12) aNil)) (aCons (eTup aNil) (aCons (eTup aNil) aNil)))))) (i := 11) (k := 12) (fs := FD) (μ := μ3) (xs := restL rs) (fun x => eR (denR x)) rfl (by omega) fun x hx => q_tup (q_cons q_c (q_cons (q_tup q_nil zerov) (q_cons (q_tup (q_cons (q_var rfl) q_nil) onev) (q_cons (q_tup q_nil zerov) (q_cons (q_tup q_nil zerov) q_nil))))) five
    have c2 : eBin gAdd (eVar 3) (eFrz (compF okL (eTup (aCons (eC (.str "rule")) (aCons (eTup aNil) (aCons (eTup (aCons (eVar 12) aNil)) (aCons (eTup aNil) (aCons (eTup aNil) aNil)))))) ⟨aSeq (eVar 11), (bName 12), tAll, [12]⟩ [])) FD μ3 = some (.lst ((rs ++ (restL rs).map denR).map eR), μ3) := by
      rw [List.map_append, List.map_map]
      exact q_addL (q_var rfl) (q_frz c1) (by rw [List.length_map, List.length_map]; omega)
    have c3 := q_setR c2 (by rw [List.length_append, List.length_map]; omega)
    have u1 : eFn F_unused (aCons (eVar 3) aNil) FD μ3 = some (eL (restL rs), μ3) := q_fn (q_cons (q_var rfl) q_nil) (f_unused hL hb)
    have u2 : eFn F_as_barred (aCons (eVar 3) aNil) FD μ3 = some (.lst ((srtR (rs ++ (restL rs).map denR)).map eR), μ3) := q_fn (q_cons (q_var rfl) q_nil) (f_as_barred hL hb)
    refine q_same (q_two u1 u2) (q_two (q_var rfl) c3) (sv_two (n := 5) (sv_L (n := 3) (fun x hx => hLf x (rest_in hb.ok x hx)) (by omega)) (sv_Rs (n := 1) (L := L) (fun r hr => ?_) hLf ?_))
    · rcases List.mem_append.mp (mem_srtR.mp hr) with q | q
      · exact hb.ok r q
      · obtain ⟨x, hx, rfl⟩ := List.mem_map.mp q
        exact ⟨by simp [denR], by simpa [denR] using rest_in hb.ok x hx, by simp [denR], by simp [denR], by simp [denR], by simp [denR], by simp [denR], by simp [denR], by simp [denR]⟩
    · have := len_srtR (rs := rs ++ (restL rs).map denR)
      rw [List.length_append, List.length_map] at this
      omega
  -- facts and bars
  let FE : Fs := fL ns B LL R N S W H Y s10 T (.val (eL (factsL rs))) .no
  let FF : Fs := fL ns B LL R N S W H Y s10 T (.val (eL (factsL rs))) (.val (eL (densL rs)))
  have vE := facts_val (fs := FD) (μ := μ3) hL nd hb rfl (fun _ => rfl)
  have vF := bars_val (fs := FE) (μ := μ3) hL hb rfl (fun _ => rfl)
  have lf := len_facts (rs := rs)
  have ld := len_dens (rs := rs)
  have cF : tNot (tOf (eFn F_law_same (aCons (eFrz (aLst (aCons (eFn F_facts_in (aCons (eVar 3) aNil)) (aCons (eFn F_denials_in (aCons (eVar 3) aNil)) aNil)))) (aCons (eFrz (aLst (aCons (eFrz (aCal gSorted (aCons (eVar 13) aNil))) (aCons (eVar 14) aNil)))) aNil)))) FF μ3 = some (false, μ3) := by
    have f1 : eFn F_facts_in (aCons (eVar 3) aNil) FF μ3 = some (eL (factsL rs), μ3) := q_fn (q_cons (q_var rfl) q_nil) (f_facts_in hrS (by omega))
    have f2 : eFn F_denials_in (aCons (eVar 3) aNil) FF μ3 = some (eL (densL rs), μ3) := q_fn (q_cons (q_var rfl) q_nil) (f_denials_in hrS (by omega))
    have f3 : eFrz (aCal gSorted (aCons (eVar 13) aNil)) FF μ3 = some (eL (factsL rs), μ3) := by
      have := q_frz (q_acal (q_cons (q_var (fs := FF) (i := 13) (μ := μ3) (v := eL (factsL rs)) rfl) q_nil) srt_L)
      rw [facts_srt hfour] at this
      exact this
    exact q_same (q_two f1 f2) (q_two f3 (q_var rfl)) (sv_two (n := 5) (sv_L (n := 3) hfour (by omega)) (sv_L (n := 3) hden (by omega)))
  -- sizes
  obtain ⟨sn, esn, hsn⟩ := sz_bound hb.ok
  have cG : eFn F_law_same (aCons (eFn F_size_of (aCons (eVar 3) aNil)) (aCons (eTup (aCons (eCal gLen (aCons (eVar 3) aNil)) (aCons (eCal gSum (aCons (eFrz (compF okL (eCal gSum (aCons (eFrz (compF okL (eCal gLen (aCons (eVar 15) aNil)) ⟨aSeq (eSl (eVar 10) (oSome (eC (.int 1))) oNone), (bName 15), tAll, [15]⟩ [])) aNil)) ⟨aSeq (eVar 3), (bName 10), tAll, [10]⟩ [])) aNil)) aNil))) aNil)) FF μ3 = some (.bl true, μ3) := by
    have s1 : eFn F_size_of (aCons (eVar 3) aNil) FF μ3 = some (sizeV rs, μ3) := q_fn (q_cons (q_var rfl) q_nil) (f_size_of (by omega))
    have s3 := lc_R (me := eCal gSum (aCons (eFrz (compF okL (eCal gLen (aCons (eVar 15) aNil)) ⟨aSeq (eSl (eVar 10) (oSome (eC (.int 1))) oNone), (bName 15), tAll, [15]⟩ [])) aNil)) (i := 3) (k := 10) (fs := FF) (μ := μ3) (xs := rs) (fun r => .int (szs r).sum) rfl (by omega) fun r hr => by
      let G : Fs := sets (wipeF FF [10]) [(10, eR r)]
      have g0 : aSeq (eSl (eVar 10) (oSome (eC (.int 1))) oNone) G μ3 = some ([r.h, r.p, r.n, r.t].map eT, μ3) := q_fnS (r := r) rfl rfl
      have g1 := compF_all (enc := eT) (ok := okL) (me := eCal gLen (aCons (eVar 15) aNil)) (c := ⟨aSeq (eSl (eVar 10) (oSome (eC (.int 1))) oNone), (bName 15), tAll, [15]⟩) (fs := G) (μ := μ3) (xs := [r.h, r.p, r.n, r.t]) (fun p => .int p.length) 1000 g0 rfl (fun p hp => ⟨[(15, eT p)], rfl, q_len (xs := p) rfl, okL_lt (by omega) _⟩) (by simp)
      exact q_sum (l := szs r) g1
    have s4 := q_sum (l := rs.map fun r => (szs r).sum) (by rw [List.map_map]; exact s3)
    have s2 : eTup (aCons (eCal gLen (aCons (eVar 3) aNil)) (aCons (eCal gSum (aCons (eFrz (compF okL (eCal gSum (aCons (eFrz (compF okL (eCal gLen (aCons (eVar 15) aNil)) ⟨aSeq (eSl (eVar 10) (oSome (eC (.int 1))) oNone), (bName 15), tAll, [15]⟩ [])) aNil)) ⟨aSeq (eVar 3), (bName 10), tAll, [10]⟩ [])) aNil)) aNil)) FF μ3 = some (sizeV rs, μ3) := by
      rw [size_eq nd]
      exact q_tup (q_cons (q_cal (q_cons (v := .lst (rs.map eR)) (q_var rfl) q_nil) (by simp [gLen, look])) (q_cons s4 q_nil)) (sz (by simp))
    refine q_fn (q_cons s1 (q_cons s2 q_nil)) (same_self 6 _ μ3 ?_)
    rw [size_eq nd, esn]
    refine ⟨by simp, fun v hv => ?_⟩
    simp only [List.mem_cons, List.not_mem_nil, or_false] at hv
    rcases hv with rfl | rfl
    · exact ⟨log_num (by omega), tx_num _ (by omega)⟩
    · exact ⟨log_num (by omega), tx_num _ (by omega)⟩
  -- the beginning
  let Z : Fs := fL ns .no .no .no .no .no .no .no .no .no .no .no .no
  have b1 : sBox 1 (aLst (aCons (eFn F_law_digits (aCons (eVar 0) (aCons (eC (.int 0)) (aCons (eC (.int 40)) aNil)))) (aCons (eC (.int 0)) aNil))) Z [] = some (.nx, fL ns B .no .no .no .no .no .no .no .no .no .no .no, Bx ds 0) := by
    unfold sBox
    rw [q_lst (q_cons (q_fn (q_cons (q_var rfl) (q_cons q_c (q_cons q_c q_nil))) ed) (q_cons q_c q_nil)) (by simp)]
    rfl
  have b2 : eSl (eFrz (aLst (aCons (eC (.str "a")) (aCons (eC (.str "b")) (aCons (eC (.str "c")) (aCons (eC (.str "d")) aNil)))))) oNone (oSome (eBin gAdd (eC (.int 3)) (eFn F_law_draw (aCons (eVar 1) (aCons (eC (.int 2)) aNil))))) (fL ns B .no .no .no .no .no .no .no .no .no .no .no) (Bx ds 0) = some (eL L, μ1) := by
    rw [← hLe]
    exact letters_val rfl e1 d0
  refine q_fnF rfl (q_then b1 (q_then (fs' := fL ns B LL .no .no .no .no .no .no .no .no .no .no) (q_asg b2 rfl) (q_then (fs' := fL ns B LL R .no .no .no .no .no .no .no .no .no) (q_asg (q_fn (q_cons (q_var rfl) (q_cons (q_var rfl) q_nil)) e2) rfl) (q_ifF (q_tnot (p := true) (q_tof (q_fn (q_cons (q_var rfl) (q_cons (q_var rfl) (q_cons (q_var rfl) q_nil))) e3))) ?_))))
  refine q_then (fs' := FA) (q_asgG (q_fn (q_cons (v := .lst (rs.map eR)) (q_frz (q_acal (q_cons (q_var rfl) q_nil) rfl)) q_nil) e4) rfl rfl) (q_ifF cA (q_then (fs' := FB) (q_asg (rows_val rfl lss) rfl) (q_ifF cB (q_ifF cC ?_))))
  refine q_then (fs' := fL ns B LL R N S W (.val (eL [])) (.val (eL [])) .no .no .no .no) (q_asgG (v := .tup [.lst [], .lst []]) (q_tup (q_cons q_lsts (q_cons q_lsts q_nil)) (sz (by simp))) rfl rfl) (q_then e10 (q_then (fs' := FD) (q_asg vD rfl) (q_ifF cD ?_)))
  exact q_then (fs' := FE) (q_asg vE rfl) (q_then (fs' := FF) (q_asg vF rfl) (q_ifF cF (q_ret' cG)))
end K8
end MKM9
section MH9
open PySem PySem.W PyProof.Rows
set_option maxHeartbeats 0
theorem PySem.Challenge.cw_ruleyard_k08_whole_steps_keep_books_of_f_holds : PySem.Challenge.rw_ruleyard_k08_whole_steps_keep_books_of_f.Holds := by
  w_on; o_law; k_head; (case hw => w_witness2)
  k_fill
  refine LamX.walk_ofTs (l := PySem.Challenge.rw_ruleyard_k08_whole_steps_keep_books_of_f) (n := 63) (k := 12) (x := "script") (CX := fun _ => L2.CX0) rfl (by decide) rfl ⟨rfl, by decide, by decide⟩ (fun w h Y => PySem.W.km_in_of Y) ?F (fun _ _ _ _ _ h => h)
  case F =>
    intro w mg fa h Y KX G hmg
    have hT8 := PySem.W.km_tabs_of Y
    refine' K8.law_at (P0 := 106) KX G hmg ?a_law_cell ?l_law_cell ?c_law_cell ?k_law_cell ?a_law_digits ?l_law_digits ?c_law_digits ?k_law_digits ?a_law_draw ?l_law_draw ?c_law_draw ?k_law_draw ?a_law_mixed ?l_law_mixed ?c_law_mixed ?k_law_mixed ?a_law_pick ?l_law_pick ?c_law_pick ?k_law_pick ?a_law_rule ?l_law_rule ?c_law_rule ?k_law_rule ?a_law_rules ?l_law_rules ?c_law_rules ?k_law_rules ?a_law_book ?l_law_book ?c_law_book ?k_law_book ?a_in_order ?l_in_order ?c_in_order ?k_in_order ?a_split_step ?l_split_step ?c_split_step ?k_split_step ?a_idle_step ?l_idle_step ?c_idle_step ?k_idle_step ?a_never_step ?l_never_step ?c_never_step ?k_never_step ?a_less_of ?l_less_of ?c_less_of ?k_less_of ?a_double_step ?l_double_step ?c_double_step ?k_double_step ?a_shadow_step ?l_shadow_step ?c_shadow_step ?k_shadow_step ?a_fact ?l_fact ?c_fact ?k_fact ?a_facts_in ?l_facts_in ?c_facts_in ?k_facts_in ?a_given_step ?l_given_step ?c_given_step ?k_given_step ?a_denials_in ?l_denials_in ?c_denials_in ?k_denials_in ?a_is_denial ?l_is_denial ?c_is_denial ?k_is_denial ?a_barred_step ?l_barred_step ?c_barred_step ?k_barred_step ?a_within ?l_within ?c_within ?k_within ?a_says_more ?l_says_more ?c_says_more ?k_says_more ?a_less_step ?l_less_step ?c_less_step ?k_less_step ?a_next_step ?l_next_step ?c_next_step ?k_next_step ?a_law_makers ?l_law_makers ?c_law_makers ?k_law_makers ?a_law_same ?l_law_same ?c_law_same ?k_law_same ?a_lot ?l_lot ?c_lot ?k_lot ?a_letters_of ?l_letters_of ?c_letters_of ?k_letters_of ?a_all_letters ?l_all_letters ?c_all_letters ?k_all_letters ?a_body_holds ?l_body_holds ?c_body_holds ?k_body_holds ?a_head_holds ?l_head_holds ?c_head_holds ?k_head_holds ?a_rule_holds ?l_rule_holds ?c_rule_holds ?k_rule_holds ?a_all_hold ?l_all_hold ?c_all_hold ?k_all_hold ?a_all_lots ?l_all_lots ?c_all_lots ?k_all_lots ?a_first_parting ?l_first_parting ?c_first_parting ?k_first_parting ?a_alike_everywhere ?l_alike_everywhere ?c_alike_everywhere ?k_alike_everywhere ?a_is_step ?l_is_step ?c_is_step ?k_is_step ?a_law_holds ?l_law_holds ?c_law_holds ?k_law_holds ?a_law_all ?l_law_all ?c_law_all ?k_law_all ?a_law_lots ?l_law_lots ?c_law_lots ?k_law_lots ?a_law_worlds ?l_law_worlds ?c_law_worlds ?k_law_worlds ?a_done ?l_done ?c_done ?k_done ?a_law_may ?l_law_may ?c_law_may ?k_law_may ?a_law_bent ?l_law_bent ?c_law_bent ?k_law_bent ?a_law_step_fits ?l_law_step_fits ?c_law_step_fits ?k_law_step_fits ?a_simplified ?l_simplified ?c_simplified ?k_simplified ?a_law_leads ?l_law_leads ?c_law_leads ?k_law_leads ?a_shows_simpler ?l_shows_simpler ?c_shows_simpler ?k_shows_simpler ?a_unused ?l_unused ?c_unused ?k_unused ?a_plain_rule ?l_plain_rule ?c_plain_rule ?k_plain_rule ?a_as_barred ?l_as_barred ?c_as_barred ?k_as_barred ?a_size_of ?l_size_of ?c_size_of ?k_size_of ?a_law ?l_law ?c_law ?k_law ?z_all ?z_any ?z_bool ?z_dict ?z_int ?z_isinstance ?z_len ?z_list ?z_range ?z_repr ?z_set ?z_sorted ?z_str ?z_sum ?z_tuple ?y_c ?y_fewest_dropped ?y_fewest_facts ?y_all_loops ?y_least_splits ?y_least_signs ?y_fewest_to_know ?g_KINDS ?h_KINDS ?g_MOST_LETTERS ?hn ?hh K8.law_true
    (case a_law_cell => k_is); (case l_law_cell => k_is); (case c_law_cell => k_is); (case k_law_cell => k_is); (case a_law_digits => k_is); (case l_law_digits => k_is); (case c_law_digits => k_is); (case k_law_digits => k_is); (case a_law_draw => k_is); (case l_law_draw => k_is); (case c_law_draw => k_is); (case k_law_draw => k_is); (case a_law_mixed => k_is); (case l_law_mixed => k_is); (case c_law_mixed => k_is); (case k_law_mixed => k_is); (case a_law_pick => k_is); (case l_law_pick => k_is); (case c_law_pick => k_is); (case k_law_pick => k_is); (case a_law_rule => k_is); (case l_law_rule => k_is); (case c_law_rule => k_is); (case k_law_rule => k_is); (case a_law_rules => k_is); (case l_law_rules => k_is); (case c_law_rules => k_is); (case k_law_rules => k_is); (case a_law_book => k_is); (case l_law_book => k_is); (case c_law_book => k_is); (case k_law_book => k_is); (case a_in_order => k_is); (case l_in_order => k_is); (case c_in_order => k_is); (case k_in_order => k_is); (case a_split_step => k_is); (case l_split_step => k_is); (case c_split_step => k_is); (case k_split_step => k_is); (case a_idle_step => k_is); (case l_idle_step => k_is); (case c_idle_step => k_is); (case k_idle_step => k_is); (case a_never_step => k_is); (case l_never_step => k_is); (case c_never_step => k_is); (case k_never_step => k_is); (case a_less_of => k_is); (case l_less_of => k_is); (case c_less_of => k_is); (case k_less_of => k_is); (case a_double_step => k_is); (case l_double_step => k_is); (case c_double_step => k_is); (case k_double_step => k_is); (case a_shadow_step => k_is); (case l_shadow_step => k_is); (case c_shadow_step => k_is); (case k_shadow_step => k_is); (case a_fact => k_is); (case l_fact => k_is); (case c_fact => k_is); (case k_fact => k_is); (case a_facts_in => k_is); (case l_facts_in => k_is); (case c_facts_in => k_is); (case k_facts_in => k_is); (case a_given_step => k_is); (case l_given_step => k_is); (case c_given_step => k_is); (case k_given_step => k_is); (case a_denials_in => k_is); (case l_denials_in => k_is); (case c_denials_in => k_is); (case k_denials_in => k_is); (case a_is_denial => k_is); (case l_is_denial => k_is); (case c_is_denial => k_is); (case k_is_denial => k_is); (case a_barred_step => k_is); (case l_barred_step => k_is); (case c_barred_step => k_is); (case k_barred_step => k_is); (case a_within => k_is); (case l_within => k_is); (case c_within => k_is); (case k_within => k_is); (case a_says_more => k_is); (case l_says_more => k_is); (case c_says_more => k_is); (case k_says_more => k_is); (case a_less_step => k_is); (case l_less_step => k_is); (case c_less_step => k_is); (case k_less_step => k_is); (case a_next_step => k_is); (case l_next_step => k_is); (case c_next_step => k_is); (case k_next_step => k_is); (case a_law_makers => k_is); (case l_law_makers => k_is); (case c_law_makers => k_is); (case k_law_makers => k_is); (case a_law_same => k_is); (case l_law_same => k_is); (case c_law_same => k_is); (case k_law_same => k_is); (case a_lot => k_is); (case l_lot => k_is); (case c_lot => k_is); (case k_lot => k_is); (case a_letters_of => k_is); (case l_letters_of => k_is); (case c_letters_of => k_is); (case k_letters_of => k_is); (case a_all_letters => k_is); (case l_all_letters => k_is); (case c_all_letters => k_is); (case k_all_letters => k_is); (case a_body_holds => k_is); (case l_body_holds => k_is); (case c_body_holds => k_is); (case k_body_holds => k_is); (case a_head_holds => k_is); (case l_head_holds => k_is); (case c_head_holds => k_is); (case k_head_holds => k_is); (case a_rule_holds => k_is); (case l_rule_holds => k_is); (case c_rule_holds => k_is); (case k_rule_holds => k_is); (case a_all_hold => k_is); (case l_all_hold => k_is); (case c_all_hold => k_is); (case k_all_hold => k_is); (case a_all_lots => k_is); (case l_all_lots => k_is); (case c_all_lots => k_is); (case k_all_lots => k_is); (case a_first_parting => k_is); (case l_first_parting => k_is); (case c_first_parting => k_is); (case k_first_parting => k_is); (case a_alike_everywhere => k_is); (case l_alike_everywhere => k_is); (case c_alike_everywhere => k_is); (case k_alike_everywhere => k_is); (case a_is_step => k_is); (case l_is_step => k_is); (case c_is_step => k_is); (case k_is_step => k_is); (case a_law_holds => k_is); (case l_law_holds => k_is); (case c_law_holds => k_is); (case k_law_holds => k_is); (case a_law_all => k_is); (case l_law_all => k_is); (case c_law_all => k_is); (case k_law_all => k_is); (case a_law_lots => k_is); (case l_law_lots => k_is); (case c_law_lots => k_is); (case k_law_lots => k_is); (case a_law_worlds => k_is); (case l_law_worlds => k_is); (case c_law_worlds => k_is); (case k_law_worlds => k_is); (case a_done => k_is); (case l_done => k_is); (case c_done => k_is); (case k_done => k_is); (case a_law_may => k_is); (case l_law_may => k_is); (case c_law_may => k_is); (case k_law_may => k_is); (case a_law_bent => k_is); (case l_law_bent => k_is); (case c_law_bent => k_is); (case k_law_bent => k_is); (case a_law_step_fits => k_is); (case l_law_step_fits => k_is); (case c_law_step_fits => k_is); (case k_law_step_fits => k_is); (case a_simplified => k_is); (case l_simplified => k_is); (case c_simplified => k_is); (case k_simplified => k_is); (case a_law_leads => k_is); (case l_law_leads => k_is); (case c_law_leads => k_is); (case k_law_leads => k_is); (case a_shows_simpler => k_is); (case l_shows_simpler => k_is); (case c_shows_simpler => k_is); (case k_shows_simpler => k_is); (case a_unused => k_is); (case l_unused => k_is); (case c_unused => k_is); (case k_unused => k_is); (case a_plain_rule => k_is); (case l_plain_rule => k_is); (case c_plain_rule => k_is); (case k_plain_rule => k_is); (case a_as_barred => k_is); (case l_as_barred => k_is); (case c_as_barred => k_is); (case k_as_barred => k_is); (case a_size_of => k_is); (case l_size_of => k_is); (case c_size_of => k_is); (case k_size_of => k_is); (case a_law => k_is); (case l_law => k_is); (case c_law => k_is); (case k_law => k_is); (case z_all => k_is); (case z_any => k_is); (case z_bool => k_is); (case z_dict => k_is); (case z_int => k_is); (case z_isinstance => k_is); (case z_len => k_is); (case z_list => k_is); (case z_range => k_is); (case z_repr => k_is); (case z_set => k_is); (case z_sorted => k_is); (case z_str => k_is); (case z_sum => k_is); (case z_tuple => k_is); (case y_fewest_dropped => k_is); (case y_fewest_facts => k_is); (case y_all_loops => k_is); (case y_least_splits => k_is); (case y_least_signs => k_is); (case y_fewest_to_know => k_is); (case g_KINDS => k_is); (case h_KINDS => k_is); (case g_MOST_LETTERS => k_is)
    (case y_c => first | kernel_rfl | rfl | decide +kernel)
    (case hn => first | kernel_rfl | rfl | decide +kernel)
    (case hh => exact hT8 _ (List.mem_singleton.mpr rfl))
end MH9
